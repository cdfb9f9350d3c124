import PyProof.Rows.All
import Wide.All
import OpenK.AllK
import Wide.FinOn
import Lean
import PySem.Challenge.RW_nt0037_01
open PySem PySem.W PySem.Calls PyProof.Rows
set_option Elab.async false
set_option tactic.hygienic false
set_option maxRecDepth 100000
set_option genSizeOf false
set_option genInjectivity false
set_option linter.unusedVariables false
set_option linter.unusedSectionVars false
namespace Mine
abbrev prg : Program := PySem.Challenge.pw_nt0037_01
structure LamI where
 params : Arguments
 body : Expr
 scope : Scope
 qual : Str
 c : Addr
 pos : Pos
structure Om where
 w : World
 K : Frag
 G : Heap
 p : Program
 loose : List Str
 mean : ExcName -> Option Value
 mg : Str -> Option Value
 mb : Str -> Option Value
 s₀ : Shared
theorem Om.ne : Nonempty Om := ⟨⟨⟨fun κ κ => 0, { strHash := fun κ => 0, shareClass := fun κ => 0, mergeTok := id, idOf := fun κ => 0, idOfShared := fun κ κ => 0, followText := fun κ => false, idOfImm := fun κ => 0 }⟩, [], {}, prg, [], fun κ => none, fun κ => none, fun κ => none, {}⟩⟩
noncomputable def stmtAt (i : Nat) : Stmt := (prg.main.body[i]?).getD (.Pass ⟨0, 0, 0, 0⟩)
noncomputable def bodyOf : Stmt -> List Stmt
 | .FunctionDef _ _ body _ _ _ _ _ _ _ => body
 | .ClassDef _ _ _ body _ _ _ _ _ _ _ => body
 | _ => []
noncomputable def scopeOf : Stmt -> Scope
 | .FunctionDef _ _ _ _ _ _ scope _ _ _ => scope
 | _ => default
noncomputable def stmtIn (i j : Nat) : Stmt := ((bodyOf (stmtAt i))[j]?).getD (.Pass ⟨0, 0, 0, 0⟩)
noncomputable def lastArg : Stmt -> Option Expr
 | .Return (some (.Call _ args _ _)) _ => args.getLast?
 | .Assign _ (.Call _ args _ _) _ => args.getLast?
 | _ => none
noncomputable def lamOf (qual : Str) (c : Addr) (s : Stmt) : LamI := match lastArg s with
 | some (.Lambda params body scope pos) => ⟨params, body, scope, qual, c, pos⟩
 | _ => ⟨default, .Constant .none 0 ⟨0, 0, 0, 0⟩, default, qual, c, ⟨0, 0, 0, 0⟩⟩
noncomputable def lam0 : LamI := lamOf "unescape_json.<locals>.<lambda>" 253 (stmtIn 42 0)
noncomputable def lam1 : LamI := lamOf "unescape_python.<locals>.<lambda>" 282 (stmtIn 46 0)
noncomputable def lam2 : LamI := lamOf "unescape_c.<locals>.<lambda>" 311 (stmtIn 50 0)
noncomputable def lam3 : LamI := lamOf "unescape_rust.<locals>.<lambda>" 347 (stmtIn 55 0)
noncomputable def lam4 : LamI := lamOf "escape_xml.<locals>.<lambda>" 367 (stmtIn 58 3)
noncomputable def lam5 : LamI := lamOf "unescape_css.<locals>.<lambda>" 406 (stmtIn 64 0)
noncomputable def lamL : List LamI := [lam0, lam1, lam2, lam3, lam4, lam5]
noncomputable def lamAt (i : Nat) : Option LamI := lamL[i]?
noncomputable def lposL : List (Addr × Pos × Str) := lamL.map fun l => (l.c, l.pos, l.qual)
noncomputable def tabsL : List (Addr × Addr) := [(406, 404), (347, 343), (311, 307), (282, 278), (367, 365), (253, 249)]
noncomputable def csc : Addr := 207
structure Gam where
 scope : Scope
 qual : Str
 lns : List Str
 cns : List Str
 cd : Option Addr := none
structure FE where
 a : Addr
 s : Stmt
 qual : Str
 np : Nat
 nd : Nat
 nm : List Str
 lns : List Str
 cns : List Str
 cd : Option Addr
noncomputable def FE.gam (x : FE) : Gam := ⟨scopeOf x.s, x.qual, x.lns, x.cns, x.cd⟩
noncomputable def FE.names (x : FE) : List Str := bif x.nm.isEmpty then x.lns.take (x.np + x.nd) else x.nm
noncomputable def fe0 : FE := ⟨66, stmtAt 13, "is_code", 1, 0, [], ["number"], [], none⟩
noncomputable def feL : List FE := [⟨73, stmtAt 14, "is_high", 1, 0, [], ["code"], [], none⟩, ⟨80, stmtAt 15, "is_low", 1, 0, [], ["code"], [], none⟩, ⟨87, stmtAt 16, "is_surrogate", 1, 0, [], ["code"], [], none⟩, ⟨94, stmtAt 17, "is_scalar", 1, 0, [], ["number"], [], none⟩, ⟨101, stmtAt 18, "check_scalars", 1, 0, [], ["text", "code"], [], none⟩, ⟨106, stmtAt 19, "codes_of", 1, 0, [], ["signs"], [], none⟩, ⟨121, stmtAt 31, "escape_digit", 1, 0, [], ["code"], [], none⟩, ⟨128, stmtAt 32, "escape_digits", 3, 0, [], ["number", "base", "least", "found"], [], none⟩, ⟨136, stmtAt 33, "escape_shown", 2, 0, [], ["text", "data", "code", "found", "is_shown"], [], none⟩, ⟨143, stmtAt 34, "escape_written", 4, 0, [], ["text", "data", "short", "write", "code", "found", "is_shown"], [], none⟩, ⟨148, stmtAt 35, "escape_short", 2, 0, ["letters", "leave"], [], ["leave", "letters"], none⟩, ⟨218, stmtAt 37, "escape_scalar", 2, 0, [], ["value", "begin"], [], none⟩, ⟨225, stmtAt 38, "escape_read", 3, 0, [], ["text", "read", "is_bare", "begin", "code", "found", "scan"], [], none⟩, ⟨232, stmtAt 39, "escape_json_sign", 1, 0, [], ["code", "rest"], [], none⟩, ⟨240, stmtAt 40, "escape_json", 1, 1, [], ["text", "data"], [], none⟩, ⟨247, stmtAt 41, "escape_json_read", 2, 0, [], ["scan", "begin", "letter", "low", "value"], [], none⟩, ⟨254, stmtAt 42, "unescape_json", 1, 0, [], ["text"], [], some 253⟩, ⟨261, stmtAt 43, "escape_python_sign", 1, 0, [], ["code"], [], none⟩, ⟨269, stmtAt 44, "escape_python", 1, 1, [], ["text", "data"], [], none⟩, ⟨276, stmtAt 45, "escape_python_read", 2, 0, [], ["scan", "begin", "letter", "sizes", "value"], [], none⟩, ⟨283, stmtAt 46, "unescape_python", 1, 0, [], ["text"], [], some 282⟩, ⟨290, stmtAt 47, "escape_c_sign", 1, 0, [], ["code"], [], none⟩, ⟨298, stmtAt 48, "escape_c", 1, 1, [], ["text", "data"], [], none⟩, ⟨305, stmtAt 49, "escape_c_read", 2, 0, [], ["scan", "begin", "letter", "size", "value"], [], none⟩, ⟨312, stmtAt 50, "unescape_c", 1, 0, [], ["text"], [], some 311⟩, ⟨319, stmtAt 51, "escape_rust_sign", 1, 0, [], ["code"], [], none⟩, ⟨327, stmtAt 52, "escape_rust", 1, 1, [], ["text", "data"], [], none⟩, ⟨334, stmtAt 53, "escape_rust_braces", 2, 0, [], ["scan", "begin", "many", "value"], [], none⟩, ⟨341, stmtAt 54, "escape_rust_read", 2, 0, [], ["scan", "begin", "letter", "value"], [], none⟩, ⟨348, stmtAt 55, "unescape_rust", 1, 0, [], ["text"], [], some 347⟩, ⟨355, stmtAt 56, "escape_xml_names", 0, 0, [], [], [], none⟩, ⟨362, stmtAt 57, "escape_is_xml", 1, 0, [], ["code"], [], none⟩, ⟨368, stmtAt 58, "escape_xml", 1, 1, [], ["text", "data", "code", "short"], ["names"], some 367⟩, ⟨375, stmtAt 59, "escape_xml_read", 3, 0, [], ["scan", "begin", "names", "base", "code", "name", "value"], [], none⟩, ⟨382, stmtAt 60, "unescape_xml", 1, 0, [], ["text", "begin", "code", "found", "names", "scan"], [], none⟩, ⟨389, stmtAt 61, "escape_css_sign", 1, 0, [], ["code"], [], none⟩, ⟨395, stmtAt 62, "escape_css", 1, 1, [], ["text", "data", "code", "short"], [], none⟩, ⟨402, stmtAt 63, "escape_css_read", 2, 0, [], ["scan", "begin", "letter", "value"], [], none⟩, ⟨407, stmtAt 64, "unescape_css", 1, 0, [], ["text", "found"], [], some 406⟩, ⟨414, stmtAt 65, "escape_row", 1, 0, [], ["text", "code", "found"], [], none⟩, ⟨421, stmtAt 66, "unescape_row", 1, 0, [], ["text", "begin", "found", "scan", "value"], [], none⟩, ⟨439, stmtAt 71, "_law_deck", 1, 0, [], ["script", "cell", "left", "mixed"], [], none⟩, ⟨446, stmtAt 72, "_law_draw", 2, 0, [], ["deck", "many"], [], none⟩, ⟨453, stmtAt 73, "_law_written", 2, 0, [], ["way", "text", "e", "found"], [], none⟩, ⟨460, stmtAt 74, "_law_read", 2, 0, [], ["way", "text"], [], none⟩, ⟨467, stmtAt 75, "_law_lacks", 2, 0, [], ["way", "code"], [], none⟩, ⟨474, stmtAt 76, "_law_hex", 1, 0, [], ["signs", "found", "sign"], [], none⟩, ⟨481, stmtAt 77, "_law_json", 1, 0, [], ["text", "at", "begun", "code", "found", "known", "number", "place"], [], none⟩, ⟨162, stmtIn 36 0, "EscapeScan.__init__", 2, 0, [], ["self", "text"], [], none⟩, ⟨169, stmtIn 36 1, "EscapeScan.is_over", 1, 0, [], ["self"], [], none⟩, ⟨176, stmtIn 36 2, "EscapeScan.sign", 1, 0, [], ["self"], [], none⟩, ⟨183, stmtIn 36 3, "EscapeScan.take", 2, 0, [], ["self", "begin"], [], none⟩, ⟨190, stmtIn 36 4, "EscapeScan.due", 4, 0, [], ["self", "code", "begin", "word"], [], none⟩, ⟨197, stmtIn 36 5, "EscapeScan.number", 5, 0, [], ["self", "base", "least", "most", "begin", "digit", "many", "value"], [], none⟩, ⟨204, stmtIn 36 6, "EscapeScan.pass_all", 2, 0, [], ["self", "codes"], [], none⟩]
noncomputable def fe (i : Nat) : FE := (fe0 :: feL).getD i fe0
noncomputable def gm (i : Nat) : Gam := (fe i).gam
noncomputable def bd (i : Nat) : List Stmt := bodyOf (fe i).s
noncomputable def gam_law : Gam := ⟨scopeOf (stmtAt 78), "law", ["script", "due", "e", "gap", "half", "k", "lacks", "many", "octets", "places", "row", "signs", "some", "text", "told", "wide"], ["code", "deck", "way"], none⟩
noncomputable def gL : List (Str × Option Value) := ("MAX_CODE", some (.int 1114111 189)) :: ("HIGH_FIRST", some (.int 55296 191)) :: ("HIGH_LAST", some (.int 56319 193)) :: ("LOW_FIRST", some (.int 56320 195)) :: ("LOW_LAST", some (.int 57343 197)) :: ("REPLACEMENT", some (.int 65533 199)) :: ("SUPPLEMENTARY", some (.int 65536 201)) :: ("LEAST_HEX", some (.int 4 205)) :: ("ESCAPE_BACK", some (.int 92 319)) :: ("ESCAPE_QUOTE", some (.int 34 321)) :: ("is_code", some (.ref 66)) :: ("is_high", some (.ref 73)) :: ("is_low", some (.ref 80)) :: ("is_surrogate", some (.ref 87)) :: ("is_scalar", some (.ref 94)) :: ("check_scalars", some (.ref 101)) :: ("codes_of", some (.ref 106)) :: ("escape_digit", some (.ref 121)) :: ("escape_digits", some (.ref 128)) :: ("escape_shown", some (.ref 136)) :: ("escape_written", some (.ref 143)) :: ("escape_short", some (.ref 148)) :: ("escape_scalar", some (.ref 218)) :: ("escape_read", some (.ref 225)) :: ("escape_json_sign", some (.ref 232)) :: ("escape_json", some (.ref 240)) :: ("escape_json_read", some (.ref 247)) :: ("unescape_json", some (.ref 254)) :: ("escape_python_sign", some (.ref 261)) :: ("escape_python", some (.ref 269)) :: ("escape_python_read", some (.ref 276)) :: ("unescape_python", some (.ref 283)) :: ("escape_c_sign", some (.ref 290)) :: ("escape_c", some (.ref 298)) :: ("escape_c_read", some (.ref 305)) :: ("unescape_c", some (.ref 312)) :: ("escape_rust_sign", some (.ref 319)) :: ("escape_rust", some (.ref 327)) :: ("escape_rust_braces", some (.ref 334)) :: ("escape_rust_read", some (.ref 341)) :: ("unescape_rust", some (.ref 348)) :: ("escape_xml_names", some (.ref 355)) :: ("escape_is_xml", some (.ref 362)) :: ("escape_xml", some (.ref 368)) :: ("escape_xml_read", some (.ref 375)) :: ("unescape_xml", some (.ref 382)) :: ("escape_css_sign", some (.ref 389)) :: ("escape_css", some (.ref 395)) :: ("escape_css_read", some (.ref 402)) :: ("unescape_css", some (.ref 407)) :: ("escape_row", some (.ref 414)) :: ("unescape_row", some (.ref 421)) :: ("_law_deck", some (.ref 439)) :: ("_law_draw", some (.ref 446)) :: ("_law_written", some (.ref 453)) :: ("_law_read", some (.ref 460)) :: ("_law_lacks", some (.ref 467)) :: ("_law_hex", some (.ref 474)) :: ("_law_json", some (.ref 481)) :: ("law", some (.ref 486)) :: ("UniError", some (.ref 32)) :: ("BadEncoding", some (.ref 45)) :: ("BadCode", some (.ref 57)) :: ("EscapeScan", some (.ref 207)) :: ("ESCAPE_BLANKS", some (.ref 107)) :: ("ESCAPE_RUST_BLANKS", some (.ref 108)) :: ("ESCAPE_JSON", some (.ref 111)) :: ("ESCAPE_PYTHON", some (.ref 112)) :: ("ESCAPE_RUST", some (.ref 113)) :: ("ESCAPE_C_NAMED", some (.ref 114)) :: ("_law_pool", some (.ref 422)) :: ("_law_signs", some (.ref 423)) :: ("_law_rows", some (.ref 434)) :: ("ESCAPE_MARKS", some (.ref 109)) :: ("ESCAPE_HIDDEN", some (.ref 110)) :: ("HEX_DIGITS", some (.bytes #[48, 49, 50, 51, 52, 53, 54, 55, 56, 57, 65, 66, 67, 68, 69, 70] 203)) :: ("ord", none) :: ("list", none) :: ("int", none) :: ("sorted", none) :: ("range", none) :: ("zip", none) :: ("enumerate", none) :: []
noncomputable def g0 : Str × Option Value := ("len", none)
noncomputable def gAt (i : Nat) : Str × Option Value := (g0 :: gL).getD i g0
noncomputable def isInts (vs : List Value) (ns : List Int) : Bool := vs.length == ns.length && (vs.zip ns).all fun z => Value.isInt z.2 z.1
noncomputable def isEnts (es : List DictEntry) (l : List (Int × Int)) : Bool := es.length == l.length && (es.zip l).all fun z => Value.isInt z.2.1 z.1.key && (Value.isInt z.2.2 z.1.val && decide (z.1.hash = hashInt z.2.1))
noncomputable def SeqF (T : String) (K : Frag) (a : Addr) (ns : List Int) : Prop := ∃ (vs : List Value) (n : Nat), K.lookup a = some { cls := .type T, data := .seq vs.toArray n } ∧ isInts vs ns = true
noncomputable def DictF (K : Frag) (a : Addr) (l : List (Int × Int)) : Prop := ∃ (es : Array DictEntry) (n : Nat), K.lookup a = some { cls := .type "dict", data := .dict es n } ∧ isEnts es.toList l = true
noncomputable def RowF (K : Frag) (z : Value × (Int × List UInt8 × List Int)) : Prop := ∃ a t u l n, z.1 = .ref a ∧ K.lookup a = some { cls := .type "tuple", data := .seq [.int z.2.1 t, .bytes z.2.2.1.toArray u, .ref l].toArray n } ∧ SeqF "list" K l z.2.2.2
noncomputable def l_ESCAPE_JSON : List (Int × Int) := [(98, 8), (116, 9), (110, 10), (102, 12), (114, 13), (34, 34), (47, 47), (92, 92)]
noncomputable def l_ESCAPE_PYTHON : List (Int × Int) := [(97, 7), (98, 8), (116, 9), (110, 10), (118, 11), (102, 12), (114, 13), (34, 34), (39, 39), (92, 92)]
noncomputable def l_ESCAPE_RUST : List (Int × Int) := [(48, 0), (116, 9), (110, 10), (114, 13), (34, 34), (39, 39), (92, 92)]
noncomputable def lawPool : List Int := [97, 34, 39, 92, 10, 9, 32, 128512, 233, 8232, 38, 60, 48, 1114111, 7, 13, 0, 55357, 8, 12]
noncomputable def lawSigns : List Int := [92, 117, 68, 56, 51, 68, 92, 117, 100, 67, 48, 48, 34, 110, 97, 92, 47, 32, 120, 10, 98, 102, 114, 116]
noncomputable def lawRows : List (Int × List UInt8 × List Int) := [(1, [92, 116, 92, 114, 92, 110, 92, 97], [9, 13, 10, 7]), (2, [92, 116, 92, 114, 92, 110, 92, 97], [9, 13, 10, 7]), (3, [92, 116, 92, 114, 92, 120, 52, 49], [9, 13, 65]), (4, [38, 108, 116, 59, 38, 103, 116, 59, 38, 35, 54, 53, 59], [60, 62, 65]), (5, [92, 52, 49, 32, 98], [65, 98])]
noncomputable def fdAt (K : Frag) (a : Addr) : Option FuncData := match K.lookup a with
 | some ⟨_, _, .func fd, _⟩ => some fd
 | _ => none
noncomputable def fdIn (K : Frag) (a : Addr) : FuncData := (fdAt K a).getD default
noncomputable def bindsAt : Nat -> (List Value -> Prop) -> Prop
 | 0, P => P []
 | n + 1, P => ∀ a, bindsAt n fun l => P (a :: l)
structure FnF (K : Frag) (x : FE) : Prop where
 keep : keepIn K (.ref x.a) = true
 is : (fdAt K x.a).isSome = true
 fd : fdIn K x.a = fnX (fdIn K x.a).name x.qual (fdIn K x.a).params (bodyOf x.s) (scopeOf x.s) [] (fdIn K x.a).defaults (fdIn K x.a).kwdefaults (fdIn K x.a).doc (fdIn K x.a).pyModule (fdIn K x.a).annotations (fdIn K x.a).code (fdIn K x.a).closureTuple
 code : codeIn K (fdIn K x.a).code x.qual = true
 cd : x.cd.map .ref = x.cd.map fun κ => (fdIn K x.a).code
 binds : bindsAt x.np fun vs => ∀ s : Shared, K.In s.heap -> BindsTo s (fdIn K x.a) ⟨vs, []⟩ (x.names.zip (vs ++ List.replicate x.nd .none))
noncomputable def All {α : Type} (P : α -> Prop) : List α -> Prop
 | [] => True
 | x :: r => P x ∧ All P r
noncomputable def RowsF (K : Frag) (a : Addr) (xs : List (Int × List UInt8 × List Int)) : Prop := ∃ (vs : List Value) (n : Nat), K.lookup a = some { cls := .type "list", data := .seq vs.toArray n } ∧ vs.length = xs.length ∧ All (RowF K) (vs.zip xs)
structure MethK (K : Frag) (csc : Addr) (name : Str) (a : Addr) : Prop where
 g : plainGet K csc name = true
 f : findIn K (.ref csc) name = some (some (.ref a))
 t : isFn K (.ref a) = true
structure ScanK (K : Frag) (csc : Addr) (name : Str) : Prop where
 g : plainGet K csc name = true
 hh : hasDictIn K csc = true
 ha : findIn K (.ref csc) name = some none
 hs : findIn K (.ref csc) "__setattr__" = some (some (.builtin "object.__setattr__"))
 hp : plainOver K csc = true
 ht : takerIn K csc name = some none
structure NewK (K : Frag) (csc fI : Addr) : Prop where
 keep : keepIn K (.ref csc) = true
 m : makesIn K csc = true
 i : findIn K (.ref csc) "__init__" = some (some (.ref fI))
 fn : isFn K (.ref fI) = true
inductive ExcOver : List Value -> Prop
 | base : ExcOver [.type "Exception", .type "BaseException", .type "object"]
 | ref {c : Addr} {r : List Value} : ExcOver r -> ExcOver (.ref c :: r)
inductive ExcC (K : Frag) (C : Addr) : Prop
 | mk (nm q : Str) (N : Addr) (bs bm : List Value) (sn : List Str) (sub : List Value) (ab : Bool) (col : Option Bool) (dd : Option Addr) (k0 k1 k2 k3 k5 : Option Value) : K.lookup C = some (excClassObj nm q C N bs bm true sn sub ab col dd k0 k1 k2 k3 k5 "Exception.__new__") ->
  bm.contains (.type "Exception") = true -> bm.contains (.type "AttributeError") = false -> bm.contains (.type "NameError") = false -> bm.contains (.type "BaseException") = true -> ExcOver (.ref C :: bm) -> ExcC K C
structure InitK (K : Frag) (C fI : Addr) : Prop where
 cls : ExcC K C
 init : findIn K (.ref C) "__init__" = some (some (.ref fI))
 fn : typeIn K (.ref fI) = some (.type "function")
 seta : findIn K (.ref C) "__setattr__" = some (some (.builtin "object.__setattr__"))
 tak : takerIn K C "told" = some none
 keep : keepIn K (.ref C) = true
inductive InitN (K : Frag) (fI : Addr) (Γ₁ : Gam) (body : List Stmt) : Prop
 | mk (name : Str) (params : Arguments) (dV kV doc pm cdv ct oc : Value) (an od : Option Addr) (osl : Array (Option Value)) : K.lookup fI = some ⟨oc, od, .func (fnX name Γ₁.qual params body Γ₁.scope [] dV kV doc pm an cdv ct), osl⟩ -> codeIn K cdv Γ₁.qual = true ->
  (∀ (s : Shared) (a b : Value), K.In s.heap -> BindsTo s (fnX name Γ₁.qual params body Γ₁.scope [] dV kV doc pm an cdv ct) ⟨[a, b], []⟩ [("self", a), ("told", b)]) -> InitN K fI Γ₁ body
structure InitF (K : Frag) (fI : Addr) (Γ₁ : Gam) (body : List Stmt) : Prop where
 fn : InitN K fI Γ₁ body
 body : ∃ p1 p2 p3 p4, body = [.Assign [.Attribute (.Name "self" p1) "told" p2] (.Name "told" p3) p4]
 lns : Γ₁.lns = [("self" : Str), ("told" : Str)]
 cns : Γ₁.cns = []
 cd : Γ₁.cd = none
 self : Γ₁.scope.names.lookup ("self" : Str) = some .local
 told : Γ₁.scope.names.lookup ("told" : Str) = some .local
 cell : ∀ x ∈ Γ₁.scope.names, x.2 ≠ .cell
 kind : Γ₁.scope.kind = .function
 co : Γ₁.scope.isCoroutine = false
 gen : Γ₁.scope.isGenerator = false
structure ToldK (K : Frag) (C : Addr) : Prop where
 ga : findIn K (.ref C) "__getattribute__" = some (some (.builtin "BaseException.__getattribute__"))
 gg : findIn K (.ref C) "__getattr__" = some none
 cd : ∃ cd, clsIn K C = some cd ∧ cd.mro.isEmpty = false ∧ cd.mro.contains (.type "BaseException") = true
 hd : hasDictIn K C = true
 at_ : findIn K (.ref C) "told" = some none
noncomputable def gamI : Gam := ⟨scopeOf (stmtIn 10 0), "UniError.__init__", ["self", "told"], [], none⟩
structure KFacts (K : Frag) : Prop where
 g : (g0 :: gL).map (fun p => nsIn K mainGlobals p.1) = (g0 :: gL).map fun p => some p.2
 keep : (fe0 :: feL).map (fun x => keepIn K (.ref x.a) && (fdAt K x.a).isSome && codeIn K (fdIn K x.a).code x.qual) = (fe0 :: feL).map fun κ => true
 fd : (fe0 :: feL).map (fun x => fdIn K x.a) = (fe0 :: feL).map fun x => fnX (fdIn K x.a).name x.qual (fdIn K x.a).params (bodyOf x.s) (scopeOf x.s) [] (fdIn K x.a).defaults (fdIn K x.a).kwdefaults (fdIn K x.a).doc (fdIn K x.a).pyModule (fdIn K x.a).annotations (fdIn K x.a).code (fdIn K x.a).closureTuple
 cd : (fe0 :: feL).map (fun x => x.cd.map .ref) = (fe0 :: feL).map fun x => x.cd.map fun κ => (fdIn K x.a).code
 binds : All (fun x => bindsAt x.np fun vs => ∀ s : Shared, K.In s.heap -> BindsTo s (fdIn K x.a) ⟨vs, []⟩ (x.names.zip (vs ++ List.replicate x.nd .none))) (fe0 :: feL)
 m_is_over : MethK K 207 "is_over" 169
 m_sign : MethK K 207 "sign" 176
 m_take : MethK K 207 "take" 183
 m_due : MethK K 207 "due" 190
 m_number : MethK K 207 "number" 197
 m_pass_all : MethK K 207 "pass_all" 204
 new : NewK K 207 162
 sk_text : ScanK K csc "text"
 sk_place : ScanK K csc "place"
 ik_BadCode : InitK K 57 29
 tk_BadCode : ToldK K 57
 ik_BadEncoding : InitK K 45 29
 tk_BadEncoding : ToldK K 45
 if_ : InitF K 29 gamI (bodyOf (stmtIn 10 0))
 t_ESCAPE_BLANKS : SeqF "tuple" K 107 [32, 9, 10, 12, 13]
 t_ESCAPE_RUST_BLANKS : SeqF "tuple" K 108 [32, 9, 10, 13]
 t_ESCAPE_C_NAMED : SeqF "tuple" K 114 [36, 64, 96]
 t__law_pool : SeqF "list" K 422 lawPool
 t__law_signs : SeqF "list" K 423 lawSigns
 t_ESCAPE_JSON : DictF K 111 l_ESCAPE_JSON
 t_ESCAPE_PYTHON : DictF K 112 l_ESCAPE_PYTHON
 t_ESCAPE_RUST : DictF K 113 l_ESCAPE_RUST
 t__law_rows : RowsF K 434 lawRows
noncomputable def Claim (O : Om) : Prop := KFacts O.K -> O.K.In O.G -> Top O.p O.loose O.mean O.mg O.mb O.G -> ∀ (L fa a : Addr) (cd : Value) (h₁ : Heap) (tk : Tok) (o1 o2 o3 : Obj) (vs : List Value) (ns : List Int) (m : Str -> Option Value) (news : List (Addr × Obj)),
  Fr O.G L h₁ m -> m "script" = some (.ref a) -> O.G.IsList a vs.toArray -> IntsAre vs ns -> ns.length ≤ 63 -> Below callerA O.G [] O.G ->
  News O.G L h₁ news -> (L + 1, o1) ∈ news -> (L + 2, o2) ∈ news -> (L + 3, o3) ∈ news -> All (fun t => (t.2, tabObj #[]) ∈ news) tabsL -> All (fun t => t.2 < L) tabsL ->
  o1.data = .cell none -> o2.data = .cell none -> o3.data = .cell none -> All (fun t => CodeHd O.G t.1 t.2) tabsL ->
  wpAny (model prg O.w) (callerA.deeper (envOfC "law" (scopeOf (stmtAt 78)) L fa cd)) (execs (bodyOf (stmtAt 78)) (envOfC "law" (scopeOf (stmtAt 78)) L fa cd))
   (fun f s' => f = .ret (.bool true) ∧ ∃ h' m' t', s' = { O.s₀ with heap := h', toks := t' } ∧ Fr O.G L h' m' ∧ GrownAll tabsL h') (fun κ κ => False) { O.s₀ with heap := h₁, toks := tk }
noncomputable def Ω : Om := @Classical.epsilon _ Om.ne fun O => ¬ Claim O
theorem claim_all (h : Claim Ω) (O : Om) : Claim O := Classical.byContradiction fun n => Classical.epsilon_spec (p := fun O => ¬ Claim O) ⟨O, n⟩ h
theorem All.mem {α : Type} {P : α -> Prop} {L : List α} (h : All P L) {x : α} (hx : x ∈ L) : P x := by
 induction hx with
 | head => exact h.1
 | tail _ _ ih => exact ih h.2
theorem at_mem {α : Type} {d : α} {L : List α} (i : Nat) : (d :: L).getD i d ∈ d :: L := by
 rw [List.getD_eq_getElem?_getD]
 cases e : (d :: L)[i]? with
 | none => exact .head _
 | some x => exact List.mem_of_getElem? e
structure Gs (h : Heap) : Prop where
 st : Ω.G.StaysIn h
 KX : Ω.K.In Ω.G
 TP : Top Ω.p Ω.loose Ω.mean Ω.mg Ω.mb Ω.G
structure HC : Prop where
 KK : KFacts Ω.K
 KX : Ω.K.In Ω.G
theorem HC.g (H : HC) (i : Nat) : nsIn Ω.K mainGlobals (gAt i).1 = some (gAt i).2 := List.map_inj_left.mp H.KK.g _ (at_mem i)
theorem HC.fn (H : HC) (i : Nat) : FnF Ω.K (fe i) := by
 have h1 := List.map_inj_left.mp H.KK.keep _ (at_mem i)
 rw [Bool.and_eq_true, Bool.and_eq_true] at h1
 exact ⟨h1.1.1, h1.1.2, List.map_inj_left.mp H.KK.fd _ (at_mem i), h1.2, List.map_inj_left.mp H.KK.cd _ (at_mem i), H.KK.binds.mem (at_mem i)⟩
noncomputable abbrev Fz := Addr -> Obj -> Prop
noncomputable abbrev Led := List (Addr × Obj)
inductive V where
 | undef
 | none
 | bool (b : Bool)
 | int (i : Int)
 | str (x : Str)
 | bytes (b : Array UInt8)
 | ints (xs : List Int)
 | gints (xs : List Int)
 | lst (xs : List V)
 | tup (xs : List V)
 | dict (kvs : List (Int × V))
 | val (v : Value)
 | lam (k : Nat)
 | exc (C : Addr) (t : V)
 | ref (i : Nat)
 | inst (i : Nat)
inductive MO where
 | gone
 | ints (xs : List Int)
 | list (xs : List V)
 | inst (fs : List V)
 | deck (l m : V)
 | cell (v : V)
 | cell0
noncomputable def scanNames : List Str := ["text", "place"]
noncomputable abbrev tupOf (its : Array Value) (n : Nat) : Obj := { cls := .type "tuple", data := .seq its n }
noncomputable def DObj {α : Type} [DecidableEq α] {w : World} (knd : KeyKind prg w α) (o : Obj) (kvs : List (α × Value)) : Prop :=
 ∃ es ep, o.ExactDict ∧ o.data = .dict es ep ∧ KeysOf knd es ∧ Pairs knd es.toList kvs ∧ (kvs.map (·.1)).Nodup
theorem DObj.at {α : Type} [DecidableEq α] {w : World} {knd : KeyKind prg w α} {o : Obj} {kvs : List (α × Value)} (x : DObj knd o kvs) {h : Heap} {a : Addr} (e : h.get? a = some o) : h.DictOf knd a kvs :=
 let ⟨es, ep, r⟩ := x; ⟨o, es, ep, e, r⟩
section
noncomputable def OAt (Z : Fz) (a : Addr) (o : Obj) : Prop := Z a o ∨ Ω.G.get? a = some o
mutual
inductive VR (Z : Fz) : Value -> V -> Prop
 | none : VR Z .none .none
 | bool (b : Bool) : VR Z (.bool b) (.bool b)
 | int (i : Int) (t : Tok) : VR Z (.int i t) (.int i)
 | str (x : Str) (t : Tok) : VR Z (.str x t) (.str x)
 | bytes (b : Array UInt8) (t : Tok) : VR Z (.bytes b t) (.bytes b)
 | ints {a : Addr} {vs : List Value} {n : Nat} {xs : List Int} : OAt Z a (listOf vs.toArray n) -> IntsAre vs xs -> VR Z (.ref a) (.ints xs)
 | gints {a : Addr} {vs : List Value} {xs : List Int} : Ω.G.IsList a vs.toArray -> IntsAre vs xs -> VR Z (.ref a) (.gints xs)
 | lst {a : Addr} {vs : List Value} {n : Nat} {xs : List V} : OAt Z a (listOf vs.toArray n) -> VRs Z vs xs -> VR Z (.ref a) (.lst xs)
 | tup {a : Addr} {vs : List Value} {n : Nat} {xs : List V} : OAt Z a (tupOf vs.toArray n) -> VRs Z vs xs -> VR Z (.ref a) (.tup xs)
 | dict {a : Addr} {o : Obj} {kvs : List (Int × Value)} {xs : List (Int × V)} : (a == sysModules) = false -> OAt Z a o -> DObj (intKind prg Ω.w) o kvs -> DRs Z kvs xs -> VR Z (.ref a) (.dict xs)
 | val (v : Value) : VR Z v (.val v)
 | lam {f c' : Addr} {oc : Obj} {vs : Array Value} {t : Tok} {ctv pm : Value} {k : Nat} {l : LamI} : lamAt k = some l ->
   Z f (kla_obj "<lambda>" l.qual l.params l.body l.scope [] pm c' ctv) -> Z c' oc -> oc.data = .fields vs -> vs[1]? = some (.str l.qual t) -> VR Z (.ref f) (.lam k)
 | exc {e dx C : Addr} {oe : Obj} {hs : Int} {t : Tok} {v : Value} {n : Nat} {x : V} : Z e oe -> oe.cls = .ref C -> notCls oe = true -> oe.dict = some dx -> Z dx (dictOf [⟨hs, .str "told" t, v⟩] n) -> VR Z v x -> VR Z (.ref e) (.exc C x)
inductive VRs (Z : Fz) : List Value -> List V -> Prop
 | nil : VRs Z [] []
 | cons {v : Value} {x : V} {vs : List Value} {xs : List V} : VR Z v x -> VRs Z vs xs -> VRs Z (v :: vs) (x :: xs)
inductive DRs (Z : Fz) : List (Int × Value) -> List (Int × V) -> Prop
 | nil : DRs Z [] []
 | cons {k : Int} {v : Value} {x : V} {vs : List (Int × Value)} {xs : List (Int × V)} : VR Z v x -> DRs Z vs xs -> DRs Z ((k, v) :: vs) ((k, x) :: xs)
end
inductive VV (Z : Fz) (as : List Addr) : Value -> V -> Prop
 | pure {v : Value} {x : V} : VR Z v x -> VV Z as v x
 | ref {a : Addr} {i : Nat} : as[i]? = some a -> VV Z as (.ref a) (.ref i)
 | inst {x dx : Addr} {i : Nat} : OAt Z x (instObj csc dx) -> as[i]? = some dx -> VV Z as (.ref x) (.inst i)
inductive VVs (Z : Fz) (as : List Addr) : List Value -> List V -> Prop
 | nil : VVs Z as [] []
 | cons {v : Value} {x : V} {vs : List Value} {xs : List V} : VV Z as v x -> VVs Z as vs xs -> VVs Z as (v :: vs) (x :: xs)
inductive SRs (Z : Fz) (as : List Addr) : List DictEntry -> List (Str × V) -> Prop
 | nil : SRs Z as [] []
 | cons {k : Str} {t : Tok} {hs : Int} {v : Value} {x : V} {es : List DictEntry} {xs : List (Str × V)} : VV Z as v x -> SRs Z as es xs -> SRs Z as (⟨hs, .str k t, v⟩ :: es) ((k, x) :: xs)
inductive ER (Z : Fz) (as : List Addr) : MO -> Obj -> Prop
 | eInts {vs : List Value} {n : Nat} {xs : List Int} : IntsAre vs xs -> ER Z as (.ints xs) (listOf vs.toArray n)
 | eList {vs : List Value} {n : Nat} {xs : List V} : VRs Z vs xs -> ER Z as (.list xs) (listOf vs.toArray n)
 | eInst {es : List DictEntry} {n : Nat} {fs : List V} : SRs Z as es (scanNames.zip fs) -> es.length = fs.length -> ER Z as (.inst fs) (dictOf es n)
 | eDeck {o : Obj} {v u : Value} {l m : V} : DObj (strKind prg Ω.w) o [("left", v), ("mixed", u)] -> VV Z as v l -> VV Z as u m -> ER Z as (.deck l m) o
 | eCell {o : Obj} {v : Value} {x : V} : o.data = .cell (some v) -> VV Z as v x -> ER Z as (.cell x) o
 | eCell0 {o : Obj} : o.data = .cell none -> ER Z as .cell0 o
end
noncomputable def Ext (Z : Fz) (as : List Addr) (Z' : Fz) (as' : List Addr) : Prop := (∀ a o, Z a o -> Z' a o) ∧ ∃ t, as' = as ++ t
theorem Ext.refl {Z : Fz} {as : List Addr} : Ext Z as Z as := ⟨fun κ κ e => e, [], (List.append_nil _).symm⟩
theorem Ext.trans {Z Z' Z'' : Fz} {as as' as'' : List Addr} (x : Ext Z as Z' as') (y : Ext Z' as' Z'' as'') : Ext Z as Z'' as'' := by
 obtain ⟨x1, t, rfl⟩ := x
 obtain ⟨y1, u, rfl⟩ := y
 exact ⟨fun a o e => y1 a o (x1 a o e), t ++ u, List.append_assoc ..⟩
theorem Ext.at {Z Z' : Fz} {as as' : List Addr} (x : Ext Z as Z' as') {i : Nat} {a : Addr} (e : as[i]? = some a) : as'[i]? = some a := by
 obtain ⟨_, t, rfl⟩ := x
 rw [List.getElem?_append_left (List.getElem?_eq_some_iff.mp e).1]; exact e
section
variable {Z Z' : Fz} {as as' : List Addr}
theorem OAt.mono (hz : ∀ a o, Z a o -> Z' a o) {a : Addr} {o : Obj} (x : OAt Z a o) : OAt Z' a o := x.imp (hz _ _) id
theorem VR.mono (hz : ∀ a o, Z a o -> Z' a o) {v : Value} {x : V} (h : VR Z v x) : VR Z' v x :=
 VR.rec (motive_1 := fun v x κ => VR Z' v x) (motive_2 := fun vs xs κ => VRs Z' vs xs) (motive_3 := fun vs xs κ => DRs Z' vs xs)
  .none .bool .int .str .bytes (fun a b => .ints (a.mono hz) b) (fun a b => .gints a b) (fun a κ b => .lst (a.mono hz) b) (fun a κ b => .tup (a.mono hz) b)
  (fun e a b κ c => .dict e (a.mono hz) b c) .val (fun e a b c d => .lam e (hz _ _ a) (hz _ _ b) c d) (fun a b c d e κ f => .exc (hz _ _ a) b c d (hz _ _ e) f) .nil (fun κ κ a b => .cons a b) .nil (fun κ κ a b => .cons a b) h
theorem VRs.mono (hz : ∀ a o, Z a o -> Z' a o) {v : List Value} {x : List V} : VRs Z v x -> VRs Z' v x := fun h => by
 induction v generalizing x with
 | nil => cases h; exact .nil
 | cons v vs ih => cases h with | cons a b => exact .cons (a.mono hz) (ih b)
theorem DRs.mono (hz : ∀ a o, Z a o -> Z' a o) {v : List (Int × Value)} {x : List (Int × V)} : DRs Z v x -> DRs Z' v x := fun h => by
 induction v generalizing x with
 | nil => cases h; exact .nil
 | cons v vs ih => cases h with | cons a b => exact .cons (a.mono hz) (ih b)
theorem VV.mono (e : Ext Z as Z' as') {v : Value} {x : V} (h : VV Z as v x) : VV Z' as' v x := by
 cases h with
 | pure a => exact .pure (a.mono e.1)
 | ref a => exact .ref (e.at a)
 | inst a b => exact .inst (a.mono e.1) (e.at b)
theorem VVs.mono (e : Ext Z as Z' as') {v : List Value} {x : List V} (h : VVs Z as v x) : VVs Z' as' v x := by
 induction h with
 | nil => exact .nil
 | cons a _ ih => exact .cons (a.mono e) ih
theorem SRs.mono (e : Ext Z as Z' as') {v : List DictEntry} {x : List (Str × V)} (h : SRs Z as v x) : SRs Z' as' v x := by
 induction h with
 | nil => exact .nil
 | cons a _ ih => exact .cons (a.mono e) ih
theorem ER.mono (e : Ext Z as Z' as') {m : MO} {o : Obj} (h : ER Z as m o) : ER Z' as' m o := by
 cases h with
 | eInts a => exact .eInts a
 | eList a => exact .eList (a.mono e.1)
 | eInst a b => exact .eInst (a.mono e) b
 | eDeck a b c => exact .eDeck a (b.mono e) (c.mono e)
 | eCell a b => exact .eCell a (b.mono e)
 | eCell0 a => exact .eCell0 a
theorem VRs.length {vs : List Value} {xs : List V} (h : VRs Z vs xs) : vs.length = xs.length := by
 induction vs generalizing xs with
 | nil => cases h; rfl
 | cons v vs ih => cases h with | cons a b => rw [List.length_cons, List.length_cons, ih b]
theorem VRs.append {vs vs' : List Value} {xs xs' : List V} (h : VRs Z vs xs) (h' : VRs Z vs' xs') : VRs Z (vs ++ vs') (xs ++ xs') := by
 induction vs generalizing xs with
 | nil => cases h; exact h'
 | cons v vs ih => cases h with | cons a b => exact .cons a (ih b)
theorem VRs.at {vs : List Value} {xs : List V} (h : VRs Z vs xs) {i : Nat} {x : V} (e : xs[i]? = some x) : ∃ v, vs[i]? = some v ∧ VR Z v x := by
 induction vs generalizing xs i with
 | nil => cases h; simp at e
 | cons v vs ih => cases h with
  | cons a b =>
   cases i with
   | zero => simp at e; subst e; exact ⟨v, rfl, a⟩
   | succ i => simp at e; simpa using ih b e
theorem VRs.at' {vs : List Value} {xs : List V} (h : VRs Z vs xs) {i : Nat} {v : Value} (e : vs[i]? = some v) : ∃ x, xs[i]? = some x ∧ VR Z v x := by
 induction vs generalizing xs i with
 | nil => simp at e
 | cons v vs ih => cases h with
  | @cons _ x _ _ a b =>
   cases i with
   | zero => simp at e; subst e; exact ⟨x, rfl, a⟩
   | succ i => simp at e; simpa using ih b e
theorem VRs.ints {vs : List Value} {xs : List Int} (h : IntsAre vs xs) : VRs Z vs (xs.map V.int) := by
 induction h with
 | nil => exact .nil
 | cons n t _ ih => exact .cons (.int n t) ih
theorem VRs.toInts {vs : List Value} {xs : List Int} (h : VRs Z vs (xs.map V.int)) : IntsAre vs xs := by
 induction xs generalizing vs with
 | nil => cases h; exact .nil
 | cons n xs ih =>
  cases h with
  | cons a b => cases a with | int _ t => exact .cons n t (ih b)
theorem VVs.length {vs : List Value} {xs : List V} (h : VVs Z as vs xs) : vs.length = xs.length := by
 induction h with
 | nil => rfl
 | cons _ _ ih => simp [ih]
end
inductive Tag where
 | fz | own | tab
 | mut (i : Nat)
structure Cx where
 A : Around
 A₀ : Around
 base : Heap
 outer : List Env
 h₀ : Heap
 L : Addr
 f : Addr
 cdv : Value
 cells : List (Str × Addr)
noncomputable abbrev Cx.env (c : Cx) (Γ : Gam) : Env := envX Γ.qual Γ.scope c.L c.f c.cdv c.cells
structure Cx.Ok (c : Cx) (Γ : Gam) (q : Bool) (n : Nat) : Prop where
 hA : c.A.frames = some (c.env Γ :: c.outer)
 hk : Γ.scope.kind = .function
 hh : q = true -> c.A.handled = none
 gs : Gs c.base
 dep : c.A.depth + 4 * n ≤ 900
 un : c.A.units + 60 * n ≤ 9000
 cl : ∀ y ∈ Γ.cns, ∃ a, c.cells.lookup y = some a
 nd : Γ.lns.Nodup
 cd : ∀ a, Γ.cd = some a -> c.cdv = .ref a
structure Sit (c : Cx) (Γ : Gam) (g : Heap) (m : Str -> Option Value) (M : Addr -> Option (Tag × Obj)) (h : Heap) : Prop where
 B : Below c.A₀ c.base c.outer g
 T : KtsTurn (c.outer.filterMap (·.frame)) c.h₀ g
 F : Fr g c.L h m
 NL : ∃ news, News g c.L h news ∧ ∀ a t o, M a = some (t, o) -> (a, o) ∈ news
theorem Sit.N {c : Cx} {Γ : Gam} {g h : Heap} {m : Str -> Option Value} {M : Addr -> Option (Tag × Obj)} (S : Sit c Γ g m M h) : ∀ a t o, M a = some (t, o) -> h.get? a = some o ∧ a ≠ c.L ∧ g.get? a = none :=
 fun a t o e => let ⟨news, N, cv⟩ := S.NL; N _ (cv a t o e)
noncomputable def TabE (Z : Fz) (c : Addr) (o : Obj) : Prop :=
 o = tabObj #[] ∨ ∃ pos qual c' oc vs t, (c, pos, qual) ∈ lposL ∧ o = tabObj #[rawInt pos.line, rawInt pos.col, .ref c'] ∧ Z c' oc ∧ oc.data = .fields vs ∧ vs[1]? = some (.str qual t)
theorem TabE.mono {Z Z' : Fz} {c : Addr} {o : Obj} (hz : ∀ a o, Z a o -> Z' a o) (x : TabE Z c o) : TabE Z' c o := by
 rcases x with rfl | ⟨pos, qual, c', oc, vs, t, h1, h2, h3, h4⟩
 ·exact .inl rfl
 ·exact .inr ⟨pos, qual, c', oc, vs, t, h1, h2, hz _ _ h3, h4⟩
structure Rel (M : Addr -> Option (Tag × Obj)) (Z : Fz) (Y : Led) (as : List Addr) (σ : List MO) : Prop where
 z : ∀ a o, Z a o -> M a = some (.fz, o)
 y : ∀ p ∈ Y, M p.1 = some (.own, p.2)
 live : ∀ i mo, σ[i]? = some mo -> mo ≠ .gone -> ∃ a o, as[i]? = some a ∧ M a = some (.mut i, o) ∧ ER Z as mo o
 len : as.length = σ.length
 tab : ∀ t ∈ tabsL, ∃ o, M t.2 = some (.tab, o) ∧ TabE Z t.1 o
 hd : ∀ t ∈ tabsL, CodeHd Ω.G t.1 t.2
structure AS where
 loc : List V
 cl : List Nat
 cv : V
 sto : List MO
noncomputable def LocOk (Γ : Gam) (m : Str -> Option Value) (Z : Fz) (as : List Addr) (loc : List V) : Prop :=
 ∀ (i : Nat) (x : Str) (X : V), Γ.lns[i]? = some x -> loc[i]? = some X -> X ≠ .undef -> ∃ v, m x = some v ∧ VV Z as v X
noncomputable def CelOk (c : Cx) (Γ : Gam) (as : List Addr) (cl : List Nat) : Prop :=
 ∀ (j : Nat) (x : Str), Γ.cns[j]? = some x -> ∃ i a, cl[j]? = some i ∧ as[i]? = some a ∧ c.cells.lookup x = some a
noncomputable def NsObj (C : Addr) (o : Obj) (m : Str -> Option Value) : Prop := ∀ h : Heap, h.get? C = some o -> h.Ns C m
inductive EnvOk (Γ : Gam) (c : Cx) (Z : Fz) (Y : Led) (as : List Addr) : Option (Str × Scope) -> Env -> V -> Prop
 | fn {cv : V} : EnvOk Γ c Z Y as none (c.env Γ) cv
 | comp {x : Str} {sc : Scope} {C : Addr} {cl : List (Str × Addr)} {o : Obj} {m : Str -> Option Value} {v : Value} {cv : V} : (C, o) ∈ Y -> NsObj C o m -> m x = some v -> VV Z as v cv ->
   (∀ y a, cl.lookup y = some a -> c.cells.lookup y = some a) -> (∀ y ∈ Γ.cns, sc.names.lookup y = some .free -> ∃ a, cl.lookup y = some a) ->
   EnvOk Γ c Z Y as (some (x, sc)) (compEnvC sc cl C (c.env Γ)) cv
inductive St (c : Cx) (Γ : Gam) (md : Option (Str × Scope)) (env : Env) (Z : Fz) (Y : Led) (as : List Addr) (st : AS) (s : Shared) : Prop
 | mk (g : Heap) (m : Str -> Option Value) (M : Addr -> Option (Tag × Obj)) (h : Heap) (tk : Tok) : s = { Ω.s₀ with heap := h, toks := tk } -> Sit c Γ g m M h -> Rel M Z Y as st.sto -> LocOk Γ m Z as st.loc -> CelOk c Γ as st.cl -> EnvOk Γ c Z Y as md env st.cv -> St c Γ md env Z Y as st s
theorem LocOk.mono {Γ : Gam} {m : Str -> Option Value} {Z Z' : Fz} {as as' : List Addr} {loc : List V} (e : Ext Z as Z' as') (x : LocOk Γ m Z as loc) : LocOk Γ m Z' as' loc :=
 fun i y X h1 h2 h3 => let ⟨v, h4, h5⟩ := x i y X h1 h2 h3; ⟨v, h4, h5.mono e⟩
theorem CelOk.mono {c : Cx} {Γ : Gam} {Z Z' : Fz} {as as' : List Addr} {cl : List Nat} (e : Ext Z as Z' as') (x : CelOk c Γ as cl) : CelOk c Γ as' cl :=
 fun j y h1 => let ⟨i, a, h2, h3, h4⟩ := x j y h1; ⟨i, a, h2, e.at h3, h4⟩
theorem EnvOk.mono {Γ : Gam} {c : Cx} {Z Z' : Fz} {Y : Led} {as as' : List Addr} {md : Option (Str × Scope)} {env : Env} {cv : V} (e : Ext Z as Z' as') (x : EnvOk Γ c Z Y as md env cv) : EnvOk Γ c Z' Y as' md env cv := by
 cases x with
 | fn => exact .fn
 | comp h1 h2 h3 h4 h5 h6 => exact .comp h1 h2 h3 (h4.mono e) h5 h6
theorem EnvOk.more {Γ : Gam} {c : Cx} {Z : Fz} {Y Y' : Led} {as : List Addr} {md : Option (Str × Scope)} {env : Env} {cv : V} (e : ∀ p ∈ Y, p ∈ Y') (x : EnvOk Γ c Z Y as md env cv) : EnvOk Γ c Z Y' as md env cv := by
 cases x with
 | fn => exact .fn
 | comp h1 h2 h3 h4 h5 h6 => exact .comp (e _ h1) h2 h3 h4 h5 h6
section
variable {c : Cx} {Γ : Gam} {g h h' : Heap} {m : Str -> Option Value} {M : Addr -> Option (Tag × Obj)} {Z : Fz} {Y : Led} {as : List Addr} {σ : List MO}
noncomputable def put (M : Addr -> Option (Tag × Obj)) (a : Addr) (x : Option (Tag × Obj)) : Addr -> Option (Tag × Obj) := fun b => if b = a then x else M b
theorem put_self {a : Addr} {x : Option (Tag × Obj)} : put M a x a = x := by simp [put]
theorem put_ne {a b : Addr} {x : Option (Tag × Obj)} (h : b ≠ a) : put M a x b = M b := by simp [put, h]
theorem Sit.stG (S : Sit c Γ g m M h) (gs : Gs c.base) : Ω.G.StaysIn g := fun b o e => S.B.stays _ _ (gs.st b o e)
theorem Sit.at (S : Sit c Γ g m M h) (R : Rel M Z Y as σ) (gs : Gs c.base) {a : Addr} {o : Obj} (x : OAt Z a o) : h.get? a = some o :=
 x.elim (fun e => (S.N a _ o (R.z a o e)).1) fun e => S.F.keep _ _ (S.stG gs _ _ e)
theorem Sit.fresh (S : Sit c Γ g m M h) {b : Addr} (hb : h.objs.size ≤ b) : M b = none ∧ b ≠ c.L ∧ g.get? b = none := by
 refine ⟨?_, Nat.ne_of_gt (Nat.lt_of_lt_of_le S.F.ns.lt hb), ?_⟩
 ·cases q : M b with
  | none => rfl
  | some x => exact absurd (Heap.lt_size (S.N b x.1 x.2 q).1) (Nat.not_lt.mpr hb)
 ·cases q : g.get? b with
  | none => rfl
  | some o' => exact absurd (Heap.lt_size (S.F.keep _ _ q)) (Nat.not_lt.mpr hb)
theorem Sit.keeps (S : Sit c Γ g m M h) (hk : ∀ b o, h.get? b = some o -> h'.get? b = some o) : Sit c Γ g m M h' :=
 ⟨S.B, S.T, S.F.keeps hk, let ⟨news, N, cv⟩ := S.NL; ⟨news, fun p hp => ⟨hk _ _ (N p hp).1, (N p hp).2⟩, cv⟩⟩
theorem Sit.of_news {m' : Str -> Option Value} {news : Led} (S : Sit c Γ g m M h) (cv : ∀ a t o, M a = some (t, o) -> (a, o) ∈ news) {l : Addr} {t : Tag} {o : Obj} (F' : Fr g c.L h' m') (N' : News g c.L h' ((l, o) :: news)) :
  Sit c Γ g m' (put M l (some (t, o))) h' := by
 refine ⟨S.B, S.T, F', _, N', fun b t' o' e => ?_⟩
 by_cases q : b = l
 ·subst q; rw [put_self] at e; cases e; exact .head _
 ·rw [put_ne q] at e; exact .tail _ (cv b t' o' e)
theorem Sit.of_news0 {m' : Str -> Option Value} {news : Led} (S : Sit c Γ g m M h) (cv : ∀ a t o, M a = some (t, o) -> (a, o) ∈ news) (F' : Fr g c.L h' m') (N' : News g c.L h' news) : Sit c Γ g m' M h' :=
 ⟨S.B, S.T, F', _, N', cv⟩
theorem Sit.none_of {news : Led} (cv : ∀ a t o, M a = some (t, o) -> (a, o) ∈ news) {l : Addr} (hl : ∀ p ∈ news, p.1 < l) : M l = none := by
 cases q : M l with
 | none => rfl
 | some x => exact absurd (hl _ (cv l x.1 x.2 q)) (Nat.lt_irrefl _)
theorem Sit.add (S : Sit c Γ g m M h) {a : Addr} {t : Tag} {o : Obj} (hb : h.objs.size ≤ a) (ho : h'.get? a = some o) (hk : ∀ b o, h.get? b = some o -> h'.get? b = some o) : Sit c Γ g m (put M a (some (t, o))) h' := by
 obtain ⟨f1, f2, f3⟩ := S.fresh hb
 obtain ⟨news, N, cv⟩ := S.NL
 refine S.of_news cv (S.F.keeps hk) fun p hp => ?_
 rcases List.mem_cons.mp hp with rfl | hp
 ·exact ⟨ho, f2, f3⟩
 ·exact ⟨hk _ _ (N p hp).1, (N p hp).2⟩
theorem Sit.split (S : Sit c Γ g m M h) {a : Addr} {t : Tag} {o : Obj} (hm : M a = some (t, o)) : ∃ news, News g c.L h ((a, o) :: news) ∧ (∀ p ∈ news, p.1 ≠ a) ∧ ∀ b t' o', b ≠ a -> M b = some (t', o') -> (b, o') ∈ news := by
 obtain ⟨news, N, cv⟩ := S.NL
 refine ⟨news.filter fun p => p.1 != a, fun p hp => ?_, fun p hp => by simpa using (List.mem_filter.mp hp).2, fun b t' o' q e => List.mem_filter.mpr ⟨cv b t' o' e, by simpa using q⟩⟩
 rcases List.mem_cons.mp hp with rfl | hp
 ·exact N _ (cv a t o hm)
 ·exact N p (List.mem_filter.mp hp).1
theorem Sit.of_split {m' : Str -> Option Value} {news : Led} (S : Sit c Γ g m M h) {a : Addr} {t' : Tag} {o' : Obj} (cv : ∀ b t' o', b ≠ a -> M b = some (t', o') -> (b, o') ∈ news) (F' : Fr g c.L h' m') (N' : News g c.L h' ((a, o') :: news)) :
  Sit c Γ g m' (put M a (some (t', o'))) h' := by
 refine ⟨S.B, S.T, F', _, N', fun b t' o' e => ?_⟩
 by_cases q : b = a
 ·subst q; rw [put_self] at e; cases e; exact .head _
 ·rw [put_ne q] at e; exact .tail _ (cv b t' o' q e)
theorem Sit.chg (S : Sit c Γ g m M h) {a : Addr} {t t' : Tag} {o o' : Obj} (hm : M a = some (t, o)) (hs : Heap.SameBut a h h') (ho : h'.get? a = some o') : Sit c Γ g m (put M a (some (t', o'))) h' := by
 have hn := S.N a t o hm
 obtain ⟨news, N, ne, cv⟩ := S.split hm
 refine S.of_split cv (S.F.change hs hn.2.1 hn.2.2) fun p hp => ?_
 rcases List.mem_cons.mp hp with rfl | hp
 ·exact ⟨ho, hn.2⟩
 ·exact ⟨(hs.2 _ (ne p hp)).trans (N p (.tail _ hp)).1, (N p (.tail _ hp)).2⟩
theorem Sit.tag (S : Sit c Γ g m M h) {a : Addr} {t t' : Tag} {o : Obj} (hm : M a = some (t, o)) : Sit c Γ g m (put M a (some (t', o))) h := by
 obtain ⟨news, N, cv⟩ := S.NL
 refine ⟨S.B, S.T, S.F, news, N, fun b t₁ o₁ e => ?_⟩
 by_cases q : b = a
 ·subst q; rw [put_self] at e; cases e; exact cv _ _ _ hm
 ·rw [put_ne q] at e; exact cv _ _ _ e
theorem Sit.set {m' : Str -> Option Value} (S : Sit c Γ g m M h) (hn : h'.Ns c.L m') (hs : Heap.SameBut c.L h h') : Sit c Γ g m' M h' :=
 ⟨S.B, S.T, S.F.set hn hs, let ⟨news, N, cv⟩ := S.NL; ⟨news, N.set hs, cv⟩⟩
theorem Rel.addZ (R : Rel M Z Y as σ) {a : Addr} {o : Obj} (hm : M a = none) : Rel (put M a (some (.fz, o))) (fun b p => Z b p ∨ (b = a ∧ p = o)) Y as σ := by
 have ne : ∀ b x, M b = some x -> b ≠ a := fun b x e q => by rw [q, hm] at e; cases e
 have ext : Ext Z as (fun b p => Z b p ∨ (b = a ∧ p = o)) as := ⟨fun κ κ e => .inl e, [], (List.append_nil _).symm⟩
 refine ⟨fun b p e => ?_, fun p hp => ?_, fun i mo e n => ?_, R.len, fun t ht => ?_, R.hd⟩
 ·rcases e with e | ⟨rfl, rfl⟩
  ·rw [put_ne (ne _ _ (R.z b p e))]; exact R.z b p e
  ·exact put_self
 ·rw [put_ne (ne _ _ (R.y p hp))]; exact R.y p hp
 ·obtain ⟨b, p, h1, h2, h3⟩ := R.live i mo e n
  exact ⟨b, p, h1, by rw [put_ne (ne _ _ h2)]; exact h2, h3.mono ext⟩
 ·obtain ⟨p, h1, h2⟩ := R.tab t ht
  exact ⟨p, by rw [put_ne (ne _ _ h1)]; exact h1, h2.mono ext.1⟩
theorem Rel.addY (R : Rel M Z Y as σ) {a : Addr} {o : Obj} (hm : M a = none) : Rel (put M a (some (.own, o))) Z ((a, o) :: Y) as σ := by
 have ne : ∀ b x, M b = some x -> b ≠ a := fun b x e q => by rw [q, hm] at e; cases e
 refine ⟨fun b p e => ?_, fun p hp => ?_, fun i mo e n => ?_, R.len, fun t ht => ?_, R.hd⟩
 ·rw [put_ne (ne _ _ (R.z b p e))]; exact R.z b p e
 ·rcases List.mem_cons.mp hp with rfl | hp
  ·exact put_self
  ·rw [put_ne (ne _ _ (R.y p hp))]; exact R.y p hp
 ·obtain ⟨b, p, h1, h2, h3⟩ := R.live i mo e n
  exact ⟨b, p, h1, by rw [put_ne (ne _ _ h2)]; exact h2, h3⟩
 ·obtain ⟨p, h1, h2⟩ := R.tab t ht
  exact ⟨p, by rw [put_ne (ne _ _ h1)]; exact h1, h2⟩
theorem Rel.addM (R : Rel M Z Y as σ) {a : Addr} {o : Obj} {mo : MO} (hm : M a = none) (he : ER Z as mo o) : Rel (put M a (some (.mut σ.length, o))) Z Y (as ++ [a]) (σ ++ [mo]) := by
 have ne : ∀ b x, M b = some x -> b ≠ a := fun b x e q => by rw [q, hm] at e; cases e
 have ext : Ext Z as Z (as ++ [a]) := ⟨fun κ κ e => e, [a], rfl⟩
 refine ⟨fun b p e => ?_, fun p hp => ?_, fun i mo' e n => ?_, by simp [R.len], fun t ht => ?_, R.hd⟩
 ·rw [put_ne (ne _ _ (R.z b p e))]; exact R.z b p e
 ·rw [put_ne (ne _ _ (R.y p hp))]; exact R.y p hp
 ·by_cases q : i < σ.length
  ·rw [List.getElem?_append_left q] at e
   obtain ⟨b, p, h1, h2, h3⟩ := R.live i mo' e n
   exact ⟨b, p, ext.at h1, by rw [put_ne (ne _ _ h2)]; exact h2, h3.mono ext⟩
  ·have hi : i = σ.length := by
    have := (List.getElem?_eq_some_iff.mp e).1
    simp only [List.length_append, List.length_singleton] at this
    omega
   subst hi
   simp at e; subst e
   exact ⟨a, o, by rw [← R.len]; simp, put_self, he.mono ext⟩
 ·obtain ⟨p, h1, h2⟩ := R.tab t ht
  exact ⟨p, by rw [put_ne (ne _ _ h1)]; exact h1, h2⟩
theorem Rel.chg (R : Rel M Z Y as σ) {i : Nat} {a : Addr} {o o' : Obj} {mo' : MO} (hm : M a = some (.mut i, o)) (ha : as[i]? = some a) (he : ER Z as mo' o') : Rel (put M a (some (.mut i, o'))) Z Y as (σ.set i mo') := by
 refine ⟨fun b p e => ?_, fun p hp => ?_, fun j mo e n => ?_, by simp [R.len], fun t ht => ?_, R.hd⟩
 ·have := R.z b p e
  rw [put_ne (fun q => by rw [q, hm] at this; cases this)]; exact this
 ·have := R.y p hp
  rw [put_ne (fun q => by rw [q, hm] at this; cases this)]; exact this
 ·by_cases q : i = j
  ·subst q
   have hl : i < σ.length := by
    have := (List.getElem?_eq_some_iff.mp e).1
    simpa using this
   rw [List.getElem?_set_self hl] at e
   cases e
   exact ⟨a, o', ha, put_self, he⟩
  ·rw [List.getElem?_set_ne q] at e
   obtain ⟨b, p, h1, h2, h3⟩ := R.live j mo e n
   exact ⟨b, p, h1, by rw [put_ne (fun q' => by rw [q', hm] at h2; cases h2; exact q rfl)]; exact h2, h3⟩
 ·obtain ⟨p, h1, h2⟩ := R.tab t ht
  exact ⟨p, by rw [put_ne (fun q => by rw [q, hm] at h1; cases h1)]; exact h1, h2⟩
theorem Rel.freeze (R : Rel M Z Y as σ) {i : Nat} {a : Addr} {o : Obj} (hm : M a = some (.mut i, o)) : Rel (put M a (some (.fz, o))) (fun b p => Z b p ∨ (b = a ∧ p = o)) Y as (σ.set i .gone) := by
 have ext : Ext Z as (fun b p => Z b p ∨ (b = a ∧ p = o)) as := ⟨fun κ κ e => .inl e, [], (List.append_nil _).symm⟩
 refine ⟨fun b p e => ?_, fun p hp => ?_, fun j mo e n => ?_, by simp [R.len], fun t ht => ?_, R.hd⟩
 ·rcases e with e | ⟨rfl, rfl⟩
  ·have := R.z b p e
   rw [put_ne (fun q => by rw [q, hm] at this; cases this)]; exact this
  ·exact put_self
 ·have := R.y p hp
  rw [put_ne (fun q => by rw [q, hm] at this; cases this)]; exact this
 ·by_cases q : i = j
  ·subst q
   have hl : i < σ.length := by
    have := (List.getElem?_eq_some_iff.mp e).1
    simpa using this
   rw [List.getElem?_set_self hl] at e
   cases e
   exact absurd rfl n
  ·rw [List.getElem?_set_ne q] at e
   obtain ⟨b, p, h1, h2, h3⟩ := R.live j mo e n
   exact ⟨b, p, h1, by rw [put_ne (fun q' => by rw [q', hm] at h2; cases h2; exact q rfl)]; exact h2, h3.mono ext⟩
 ·obtain ⟨p, h1, h2⟩ := R.tab t ht
  exact ⟨p, by rw [put_ne (fun q => by rw [q, hm] at h1; cases h1)]; exact h1, h2.mono ext.1⟩
theorem Rel.chgY {Y₁ Y₂ : Led} (R : Rel M Z (Y₁ ++ Y₂) as σ) {Y' : Led} {a : Addr} {o o' : Obj} (hm : M a = some (.own, o)) (h1 : ∀ p ∈ Y₁, p.1 = a ∨ p ∈ Y') (h2 : ∀ p ∈ Y₂, p.1 ≠ a) (h3 : ∀ p ∈ Y', p = (a, o') ∨ (p ∈ Y₁ ∧ p.1 ≠ a)) :
  Rel (put M a (some (.own, o'))) Z (Y' ++ Y₂) as σ := by
 refine ⟨fun b p e => ?_, fun p hp => ?_, fun j mo e n => ?_, R.len, fun t ht => ?_, R.hd⟩
 ·have := R.z b p e
  rw [put_ne (fun q => by rw [q, hm] at this; cases this)]; exact this
 ·rcases List.mem_append.mp hp with hp | hp
  ·rcases h3 p hp with rfl | ⟨h4, h5⟩
   ·exact put_self
   ·rw [put_ne h5]; exact R.y p (List.mem_append_left _ h4)
  ·rw [put_ne (h2 p hp)]; exact R.y p (List.mem_append_right _ hp)
 ·obtain ⟨b, p, k1, k2, k3⟩ := R.live j mo e n
  exact ⟨b, p, k1, by rw [put_ne (fun q' => by rw [q', hm] at k2; cases k2)]; exact k2, k3⟩
 ·obtain ⟨p, k1, k2⟩ := R.tab t ht
  exact ⟨p, by rw [put_ne (fun q => by rw [q, hm] at k1; cases k1)]; exact k1, k2⟩
theorem Rel.sub (R : Rel M Z Y as σ) {Y' : Led} (h : ∀ p ∈ Y', p ∈ Y) : Rel M Z Y' as σ := ⟨R.z, fun p hp => R.y p (h p hp), R.live, R.len, R.tab, R.hd⟩
end
inductive Out where
 | ok (v : V)
 | exn (C : Addr) (t : V)
inductive Fl where
 | next | brk | cont
 | ret (v : V)
 | exn (C : Addr) (t : V)
noncomputable def Out.ex : Out -> Option (Addr × V)
 | .ok _ => none
 | .exn C t => some (C, t)
noncomputable def Fl.ex : Fl -> Option (Addr × V)
 | .exn C t => some (C, t)
 | _ => none
noncomputable abbrev Md := Option (Str × Scope)
inductive SB where
 | one (s : Stmt)
 | blk (b : List Stmt)
noncomputable def SB.run : SB -> Env -> Sem Flow
 | .one s, env => exec s env
 | .blk b, env => execs b env
noncomputable abbrev EF := Bool -> Nat -> Gam -> Md -> Bool -> Expr -> Prop
noncomputable abbrev SF := Bool -> Nat -> Gam -> SB -> Prop
noncomputable abbrev Den (q : Bool) (n : Nat) (Γ : Gam) (md : Md) (e : Expr) (f : EF) : Prop := f q n Γ md false e
noncomputable abbrev DenT (q : Bool) (n : Nat) (Γ : Gam) (md : Md) (e : Expr) (f : EF) : Prop := f q n Γ md true e
noncomputable abbrev DenS (q : Bool) (n : Nat) (Γ : Gam) (e : Stmt) (f : SF) : Prop := f q n Γ (.one e)
noncomputable abbrev DenB (q : Bool) (n : Nat) (Γ : Gam) (e : List Stmt) (f : SF) : Prop := f q n Γ (.blk e)
noncomputable def EF.fail : EF := fun κ κ κ κ κ κ => True
noncomputable def SF.fail : SF := fun κ κ κ κ => True
inductive ExAt (c : Cx) (C : Addr) (told : V) (e : Addr) (Z : Fz) (Yx : Led) : Prop
 | mk (oe : Obj) (dx : Addr) (n : Nat) (hs : Int) (t : Tok) (v : Value) (vs : Array Value) (a0 : Value) : (e, oe) ∈ Yx -> oe.cls = .ref C -> oe.dict = some dx -> Z dx (dictOf [⟨hs, .str "told" t, v⟩] n) -> VR Z v told -> oe.data = .fields vs -> vs[0]? = some a0 ->
  (vs[1]? = some .none ∨ ∃ T oT ts, vs[1]? = some (.ref T) ∧ T ≠ e ∧ (T, oT) ∈ Yx ∧ oT.data = .fields ts ∧ (ts[3]? = some .none ∨ ts[3]? = some (rawInt c.L))) -> ExAt c C told e Z Yx
inductive PV (c : Cx) (Γ : Gam) (md : Md) (env : Env) (Y : Led) (Z : Fz) (as : List Addr) (r : Out) (st' : AS) (v : Value) (s' : Shared) : Prop
 | mk (X : V) (Z' : Fz) (as' : List Addr) : r = .ok X -> Ext Z as Z' as' -> VV Z' as' v X -> St c Γ md env Z' Y as' st' s' -> PV c Γ md env Y Z as r st' v s'
inductive PE (c : Cx) (Γ : Gam) (Y : Led) (Z : Fz) (as : List Addr) (x : Option (Addr × V)) (st' : AS) (v : Value) (s' : Shared) : Prop
 | mk (C : Addr) (t : V) (Z' : Fz) (as' : List Addr) (Yx : Led) (e : Addr) : x = some (C, t) -> Ext Z as Z' as' -> v = .ref e -> ExAt c C t e Z' Yx -> (∀ p ∈ Yx, ∀ p' ∈ Y, p.1 ≠ p'.1) -> St c Γ none (c.env Γ) Z' (Yx ++ Y) as' st' s' -> PE c Γ Y Z as x st' v s'
inductive PT (c : Cx) (Γ : Gam) (md : Md) (env : Env) (Y : Led) (Z : Fz) (as : List Addr) (r : Out) (st' : AS) (b : Bool) (s' : Shared) : Prop
 | mk (Z' : Fz) (as' : List Addr) : r = .ok (.bool b) -> Ext Z as Z' as' -> St c Γ md env Z' Y as' st' s' -> PT c Γ md env Y Z as r st' b s'
inductive FlOk (Z' : Fz) (as' : List Addr) : Fl -> Flow -> Prop
 | next : FlOk Z' as' .next .next
 | brk : FlOk Z' as' .brk .brk
 | cont : FlOk Z' as' .cont .cont
 | ret {X : V} {v : Value} : VV Z' as' v X -> FlOk Z' as' (.ret X) (.ret v)
inductive PS (c : Cx) (Γ : Gam) (Y : Led) (Z : Fz) (as : List Addr) (r : Fl) (st' : AS) (f : Flow) (s' : Shared) : Prop
 | mk (Z' : Fz) (as' : List Addr) : Ext Z as Z' as' -> St c Γ none (c.env Γ) Z' Y as' st' s' -> FlOk Z' as' r f -> PS c Γ Y Z as r st' f s'
structure EvV (q : Bool) (n : Nat) (Γ : Gam) (md : Md) (e : Expr) (st : AS) (r : Out) (st' : AS) : Prop where
 run : ∀ c env, Cx.Ok c Γ q n -> ∀ Z Y as s, St c Γ md env Z Y as st s -> wpAny (model prg Ω.w) c.A (eval e env) (PV c Γ md env Y Z as r st') (PE c Γ Y Z as r.ex st') s
structure EvT (q : Bool) (n : Nat) (Γ : Gam) (md : Md) (e : Expr) (st : AS) (r : Out) (st' : AS) : Prop where
 run : ∀ c env, Cx.Ok c Γ q n -> ∀ Z Y as s, St c Γ md env Z Y as st s -> wpAny (model prg Ω.w) c.A (isTrue e env (eval e env)) (PT c Γ md env Y Z as r st') (PE c Γ Y Z as r.ex st') s
noncomputable def Ev (q : Bool) (n : Nat) (Γ : Gam) (md : Md) : Bool -> Expr -> AS -> Out -> AS -> Prop
 | false => EvV q n Γ md
 | true => EvT q n Γ md
structure EvE (f : EF) (st : AS) (r : Out) (st' : AS) : Prop where
 den : ∀ {q n Γ md t e}, f q n Γ md t e -> Ev q n Γ md t e st r st'
structure EvB (q : Bool) (n : Nat) (Γ : Gam) (b : SB) (st : AS) (r : Fl) (st' : AS) : Prop where
 run : ∀ c, Cx.Ok c Γ q n -> ∀ Z Y as s, St c Γ none (c.env Γ) Z Y as st s -> wpAny (model prg Ω.w) c.A (b.run (c.env Γ)) (PS c Γ Y Z as r st') (PE c Γ Y Z as r.ex st') s
structure EvS (f : SF) (st : AS) (r : Fl) (st' : AS) : Prop where
 den : ∀ {q n Γ b}, f q n Γ b -> EvB q n Γ b st r st'
inductive EvL : List EF -> AS -> List V -> AS -> Prop
 | nil {st : AS} : EvL [] st [] st
 | cons {f : EF} {fs : List EF} {st s1 s2 : AS} {X : V} {Xs : List V} : EvE f st (.ok X) s1 -> EvL fs s1 Xs s2 -> EvL (f :: fs) st (X :: Xs) s2
noncomputable def V.isDef : V -> Bool
 | .undef => false
 | _ => true
theorem V.isDef.ne {X : V} (h : X.isDef = true) : X ≠ .undef := fun e => by rw [e] at h; cases h
section
variable {c : Cx} {Γ : Gam} {md : Md} {env : Env} {Y : Led} {Z Z' : Fz} {as as' : List Addr} {r : Out} {st st' s1 : AS} {v : Value} {s s' : Shared} {q : Bool} {n : Nat} {e : Expr} {f : EF} {X : V}
theorem PV.ext (e : Ext Z as Z' as') (x : PV c Γ md env Y Z' as' r st' v s') : PV c Γ md env Y Z as r st' v s' := by
 obtain ⟨X, Z₂, as₂, h1, h2, h3, h4⟩ := x; exact ⟨X, Z₂, as₂, h1, e.trans h2, h3, h4⟩
theorem PT.ext {b : Bool} (e : Ext Z as Z' as') (x : PT c Γ md env Y Z' as' r st' b s') : PT c Γ md env Y Z as r st' b s' := by
 obtain ⟨Z₂, as₂, h1, h2, h3⟩ := x; exact ⟨Z₂, as₂, h1, e.trans h2, h3⟩
theorem PE.ext {x : Option (Addr × V)} (e : Ext Z as Z' as') (y : PE c Γ Y Z' as' x st' v s') : PE c Γ Y Z as x st' v s' := by
 obtain ⟨C, t, Z₂, as₂, Yx, a, h1, h2, h3, h4, h5, h6⟩ := y; exact ⟨C, t, Z₂, as₂, Yx, a, h1, e.trans h2, h3, h4, h5, h6⟩
theorem PS.ext {r : Fl} {f : Flow} (e : Ext Z as Z' as') (x : PS c Γ Y Z' as' r st' f s') : PS c Γ Y Z as r st' f s' := by
 obtain ⟨Z₂, as₂, h1, h2, h3⟩ := x; exact ⟨Z₂, as₂, e.trans h1, h2, h3⟩
theorem PV.mk' (x : VV Z as v X) (S : St c Γ md env Z Y as st s) : PV c Γ md env Y Z as (.ok X) st v s := ⟨X, Z, as, rfl, .refl, x, S⟩
theorem PV.inv {C : Prop} (x : PV c Γ md env Y Z as (.ok X) st' v s') (k : ∀ Z' as', Ext Z as Z' as' -> VV Z' as' v X -> St c Γ md env Z' Y as' st' s' -> C) : C := by
 obtain ⟨_, Z₂, as₂, h1, h2, h3, h4⟩ := x; cases h1; exact k _ _ h2 h3 h4
theorem PE.no {C : Prop} (y : PE c Γ Y Z as none st' v s') : C := by
 obtain ⟨_, _, _, _, _, _, h1, _⟩ := y; cases h1
theorem EvE.go (h : EvE f st (.ok X) s1) (D : Den q n Γ md e f) (ok : Cx.Ok c Γ q n) (S : St c Γ md env Z Y as st s) {Q E : Value -> Shared -> Prop} (k : ∀ v Z₁ as₁ s₁, Ext Z as Z₁ as₁ -> VV Z₁ as₁ v X -> St c Γ md env Z₁ Y as₁ s1 s₁ -> Q v s₁) : wpAny (model prg Ω.w) c.A (eval e env) Q E s :=
 wpAny_mono (EvV.run (h.den D) c env ok Z Y as s S) (fun v s₁ x => x.inv fun Z₁ as₁ => k v Z₁ as₁ s₁) fun κ κ x => x.no
theorem EvE.goT {b : Bool} (h : EvE f st (.ok (.bool b)) s1) (D : DenT q n Γ md e f) (ok : Cx.Ok c Γ q n) (S : St c Γ md env Z Y as st s) {Q : Bool -> Shared -> Prop} {E : Value -> Shared -> Prop} (k : ∀ Z₁ as₁ s₁, Ext Z as Z₁ as₁ -> St c Γ md env Z₁ Y as₁ s1 s₁ -> Q b s₁) : wpAny (model prg Ω.w) c.A (isTrue e env (eval e env)) Q E s :=
 wpAny_mono (EvT.run (h.den D) c env ok Z Y as s S) (fun v s₁ x => by obtain ⟨Z₁, as₁, h1, h2, h3⟩ := x; cases h1; exact k Z₁ as₁ s₁ h2 h3) fun κ κ x => x.no
theorem EvE.goX {C : Addr} {t : V} (h : EvE f st (.exn C t) s1) (D : Den q n Γ md e f) (ok : Cx.Ok c Γ q n) (S : St c Γ md env Z Y as st s) {Q : Value -> Shared -> Prop} : wpAny (model prg Ω.w) c.A (eval e env) Q (PE c Γ Y Z as (some (C, t)) s1) s :=
 wpAny_mono (EvV.run (h.den D) c env ok Z Y as s S) (fun v s₁ x => by obtain ⟨_, _, _, h1, _⟩ := x; cases h1) fun κ κ x => x
theorem EvE.run (h : EvE f s1 r st') (D : Den q n Γ md e f) (ok : Cx.Ok c Γ q n) (e₁ : Ext Z as Z' as') (S : St c Γ md env Z' Y as' s1 s) : wpAny (model prg Ω.w) c.A (eval e env) (PV c Γ md env Y Z as r st') (PE c Γ Y Z as r.ex st') s :=
 wpAny_mono (EvV.run (h.den D) c env ok Z' Y as' s S) (fun κ κ x => x.ext e₁) fun κ κ x => x.ext e₁
theorem EvE.runT (h : EvE f s1 r st') (D : DenT q n Γ md e f) (ok : Cx.Ok c Γ q n) (e₁ : Ext Z as Z' as') (S : St c Γ md env Z' Y as' s1 s) : wpAny (model prg Ω.w) c.A (isTrue e env (eval e env)) (PT c Γ md env Y Z as r st') (PE c Γ Y Z as r.ex st') s :=
 wpAny_mono (EvT.run (h.den D) c env ok Z' Y as' s S) (fun κ κ x => x.ext e₁) fun κ κ x => x.ext e₁
theorem EvS.run {f : SF} {b : SB} {r : Fl} (h : EvS f s1 r st') (D : f q n Γ b) (ok : Cx.Ok c Γ q n) (e₁ : Ext Z as Z' as') (S : St c Γ none (c.env Γ) Z' Y as' s1 s) : wpAny (model prg Ω.w) c.A (b.run (c.env Γ)) (PS c Γ Y Z as r st') (PE c Γ Y Z as r.ex st') s :=
 wpAny_mono (EvB.run (h.den D) c ok Z' Y as' s S) (fun κ κ x => x.ext e₁) fun κ κ x => x.ext e₁
theorem St.toks (S : St c Γ md env Z Y as st s) (t : Tok) : St c Γ md env Z Y as st { s with toks := t } := by
 obtain ⟨g, m, M, h, tk, rfl, Si, R, LO, CO, EO⟩ := S
 exact ⟨g, m, M, h, t, rfl, Si, R, LO, CO, EO⟩
end
noncomputable def VCase (Z : Fz) (as : List Addr) (C : Value -> Prop) : V -> Prop
 | .none => C .none
 | .bool b => C (.bool b)
 | .int i => ∀ t, C (.int i t)
 | .str x => ∀ t, C (.str x t)
 | .bytes b => ∀ t, C (.bytes b t)
 | .ints xs => ∀ a vs n, OAt Z a (listOf vs.toArray n) -> IntsAre vs xs -> C (.ref a)
 | .gints xs => ∀ a vs, Ω.G.IsList a vs.toArray -> IntsAre vs xs -> C (.ref a)
 | .lst xs => ∀ a vs n, OAt Z a (listOf vs.toArray n) -> VRs Z vs xs -> C (.ref a)
 | .tup xs => ∀ a vs n, OAt Z a (tupOf vs.toArray n) -> VRs Z vs xs -> C (.ref a)
 | .dict xs => ∀ a o kvs, (a == sysModules) = false -> OAt Z a o -> DObj (intKind prg Ω.w) o kvs -> DRs Z kvs xs -> C (.ref a)
 | .val u => C u
 | .ref i => ∀ a, as[i]? = some a -> C (.ref a)
 | .inst i => ∀ x dx, OAt Z x (instObj csc dx) -> as[i]? = some dx -> C (.ref x)
 | .lam _ => False
 | .exc _ _ => False
 | .undef => True
section
variable {Z : Fz} {as : List Addr} {v : Value} {C : Value -> Prop} {X : V}
theorem VV.case (x : VV Z as v X) (k : VCase Z as C X) : C v := by
 cases x with
 | ref e => exact k _ e
 | inst e f => exact k _ _ e f
 | pure y => cases y with
  | none => exact k
  | bool => exact k
  | int => exact k _
  | str => exact k _
  | bytes => exact k _
  | «ints» a b => exact k _ _ _ a b
  | gints a b => exact k _ _ a b
  | lst a b => exact k _ _ _ a b
  | tup a b => exact k _ _ _ a b
  | dict a b c d => exact k _ _ _ a b c d
  | val => exact k
  | lam => exact k.elim
  | exc => exact k.elim
theorem VV.lst_inv {xs : List V} (x : VV Z as v (.lst xs)) (k : ∀ a vs n, OAt Z a (listOf vs.toArray n) -> VRs Z vs xs -> C (.ref a)) : C v := x.case k
theorem VV.tup_inv {xs : List V} (x : VV Z as v (.tup xs)) (k : ∀ a vs n, OAt Z a (tupOf vs.toArray n) -> VRs Z vs xs -> C (.ref a)) : C v := x.case k
theorem VV.bytes_inv {b : Array UInt8} (x : VV Z as v (.bytes b)) (k : ∀ t, C (.bytes b t)) : C v := x.case k
theorem VV.int_inv {i : Int} (x : VV Z as v (.int i)) (k : ∀ t, C (.int i t)) : C v := x.case k
theorem VV.str_inv {i : Str} (x : VV Z as v (.str i)) (k : ∀ t, C (.str i t)) : C v := x.case k
theorem VV.dict_inv {xs : List (Int × V)} (x : VV Z as v (.dict xs)) (k : ∀ a o kvs, (a == sysModules) = false -> OAt Z a o -> DObj (intKind prg Ω.w) o kvs -> DRs Z kvs xs -> C (.ref a)) : C v := x.case k
theorem VV.ints_inv {xs : List Int} (x : VV Z as v (.ints xs)) (k : ∀ a vs n, OAt Z a (listOf vs.toArray n) -> IntsAre vs xs -> C (.ref a)) : C v := x.case k
theorem VV.gints_inv {xs : List Int} (x : VV Z as v (.gints xs)) (k : ∀ a vs, Ω.G.IsList a vs.toArray -> IntsAre vs xs -> C (.ref a)) : C v := x.case k
theorem VV.ref_inv {i : Nat} (x : VV Z as v (.ref i)) (k : ∀ a, as[i]? = some a -> C (.ref a)) : C v := x.case k
theorem VV.inst_inv {i : Nat} (x : VV Z as v (.inst i)) (k : ∀ a dx, OAt Z a (instObj csc dx) -> as[i]? = some dx -> C (.ref a)) : C v := x.case k
theorem VV.bool_inv {b : Bool} (x : VV Z as v (.bool b)) (k : C (.bool b)) : C v := x.case (X := .bool b) k
theorem VV.none_inv (x : VV Z as v .none) (k : C .none) : C v := x.case (X := .none) k
theorem VV.val_inv {u : Value} (x : VV Z as v (.val u)) (k : C u) : C v := x.case (X := .val u) k
theorem ok_inv {α β : Type} {a₀ a : α} {b₀ b : β} {C : α -> β -> Prop} (h : some (a₀, b₀) = some (a, b)) (k : C a₀ b₀) : C a b := by
 cases h; exact k
end
section
variable {c : Cx} {Γ : Gam} {md : Md} {env : Env} {Z : Fz} {Y : Led} {as : List Addr} {st : AS} {s : Shared}
theorem St.openE {C : Shared -> Prop} (S : St c Γ md env Z Y as st s) (k : ∀ g m M h tk, Sit c Γ g m M h -> Rel M Z Y as st.sto -> LocOk Γ m Z as st.loc -> CelOk c Γ as st.cl -> EnvOk Γ c Z Y as md env st.cv -> St c Γ md env Z Y as st { Ω.s₀ with heap := h, toks := tk } -> C { Ω.s₀ with heap := h, toks := tk }) : C s := by
 have S' := S
 obtain ⟨g, m, M, hp, tk, rfl, Si, R, LO, CO, EO⟩ := S
 exact k _ _ _ _ _ Si R LO CO EO S'
theorem St.open0 {C : Env -> Shared -> Prop} (S : St c Γ none env Z Y as st s) (k : ∀ g m M h tk, Sit c Γ g m M h -> Rel M Z Y as st.sto -> LocOk Γ m Z as st.loc -> CelOk c Γ as st.cl -> St c Γ none (c.env Γ) Z Y as st { Ω.s₀ with heap := h, toks := tk } -> C (c.env Γ) { Ω.s₀ with heap := h, toks := tk }) : C env s := by
 have S' := S
 obtain ⟨g, m, M, hp, tk, rfl, Si, R, LO, CO, EO⟩ := S
 cases EO
 exact k _ _ _ _ _ Si R LO CO S'
end
section
variable {c : Cx} {Γ : Gam} {md : Md} {n : Nat} {q : Bool}
theorem cell_at {c : Cx} {Z : Fz} {Y : Led} {as : List Addr} {g h : Heap} {m : Str -> Option Value} {M : Addr -> Option (Tag × Obj)} {st : AS} (Si : Sit c Γ g m M h) (R : Rel M Z Y as st.sto) (CO : CelOk c Γ as st.cl) {j i : Nat} {x : Str} {X : V}
  (hj : Γ.cns[j]? = some x) (h1 : st.cl[j]? = some i) (h2 : st.sto[i]? = some (.cell X)) : ∃ a o v, c.cells.lookup x = some a ∧ h.get? a = some o ∧ o.data = .cell (some v) ∧ VV Z as v X ∧ M a = some (.mut i, o) ∧ as[i]? = some a := by
 obtain ⟨i', a, e1, e2, e3⟩ := CO j x hj
 rw [h1] at e1; cases e1
 obtain ⟨a', o, f1, f2, f3⟩ := R.live i _ h2 (by simp)
 rw [e2] at f1; cases f1
 cases f3 with
 | eCell d v => exact ⟨a, o, _, e3, (Si.N _ _ _ f2).1, d, v, f2, e2⟩
theorem lookup_relabel_free {env : Env} (hk : env.scope.kind = .function) : ∀ {names : List (Str × NameKind)} {x : Str}, names.lookup x = some .free -> env.kindOf x = some .cell ->
  (names.map fun (n, k) => if (k == NameKind.free && env.scope.kind == .function && env.kindOf n == some .cell) then (n, NameKind.cell) else (n, k)).lookup x = some .cell
 | [], _, h, _ => by simp at h
 | (n, k) :: r, x, h, hc => by
  have ih := @lookup_relabel_free env hk r x
  show List.lookup x ((if (k == NameKind.free && env.scope.kind == .function && env.kindOf n == some .cell) = true then (n, NameKind.cell) else (n, k)) :: _) = _
  cases hx : x == n with
  | true =>
   simp only [List.lookup_cons, hx] at h
   cases h
   have : x = n := beq_iff_eq.mp hx
   subst this
   simp [List.lookup_cons, hc, hk]
  | false =>
   simp only [List.lookup_cons, hx] at h
   by_cases hcc : (k == NameKind.free && env.scope.kind == .function && env.kindOf n == some .cell) = true
   ·rw [if_pos hcc]; simp only [List.lookup_cons, hx]; exact ih h hc
   ·rw [if_neg hcc]; simp only [List.lookup_cons, hx]; exact ih h hc
theorem lookup_relabel_glob {env : Env} : ∀ {names : List (Str × NameKind)} {x : Str}, names.lookup x = some .globalImplicit ->
  (names.map fun (n, k) => if (k == NameKind.free && env.scope.kind == .function && env.kindOf n == some .cell) then (n, NameKind.cell) else (n, k)).lookup x = some .globalImplicit
 | [], _, h => by simp at h
 | (n, k) :: r, x, h => by
  have ih := @lookup_relabel_glob env r x
  show List.lookup x ((if (k == NameKind.free && env.scope.kind == .function && env.kindOf n == some .cell) = true then (n, NameKind.cell) else (n, k)) :: _) = _
  cases hx : x == n with
  | true =>
   simp only [List.lookup_cons, hx] at h
   cases h
   simp [List.lookup_cons, hx]
  | false =>
   simp only [List.lookup_cons, hx] at h
   by_cases hc : (k == NameKind.free && env.scope.kind == .function && env.kindOf n == some .cell) = true
   ·rw [if_pos hc]; simp only [List.lookup_cons, hx]; exact ih h
   ·rw [if_neg hc]; simp only [List.lookup_cons, hx]; exact ih h
theorem Sit.top {c : Cx} {g h : Heap} {m : Str -> Option Value} {M : Addr -> Option (Tag × Obj)} (Si : Sit c Γ g m M h) (gs : Gs c.base) : Top Ω.p Ω.loose Ω.mean Ω.mg Ω.mb g := gs.TP.keeps (Si.stG gs)
theorem Sit.inK {c : Cx} {g h : Heap} {m : Str -> Option Value} {M : Addr -> Option (Tag × Obj)} (Si : Sit c Γ g m M h) (gs : Gs c.base) : Ω.K.In g := gs.KX.keeps (Si.stG gs)
end
noncomputable def EF.loc (i : Nat) : EF := fun q n Γ md t e => ∀ l, ∀ {cl cv τ X}, l[i]? = some X -> X.isDef = true -> Ev q n Γ md t e ⟨l, cl, cv, τ⟩ (.ok X) ⟨l, cl, cv, τ⟩
noncomputable def EF.cel (j : Nat) : EF := fun q n Γ md t e => ∀ l, ∀ {cl cv τ X} {k : Nat}, cl[j]? = some k -> τ[k]? = some (.cell X) -> Ev q n Γ md t e ⟨l, cl, cv, τ⟩ (.ok X) ⟨l, cl, cv, τ⟩
noncomputable def EF.cv : EF := fun q n Γ md t e => ∀ l, ∀ {cl cv τ}, Ev q n Γ md t e ⟨l, cl, cv, τ⟩ (.ok cv) ⟨l, cl, cv, τ⟩
noncomputable def EF.val (X : V) : EF := fun q n Γ md t e => ∀ st, Ev q n Γ md t e st (.ok X) st
section
variable {st : AS} {l : List V} {cl : List Nat} {v X : V} {τ : List MO}
theorem EvE.loc {i : Nat} (h : l[i]? = some X) (hX : X.isDef = true := by rfl) : EvE (.loc i) ⟨l, cl, v, τ⟩ (.ok X) ⟨l, cl, v, τ⟩ := ⟨@fun κ κ κ κ κ κ D => D _ h hX⟩
theorem EvE.cel {j k : Nat} (h1 : cl[j]? = some k) (h2 : τ[k]? = some (.cell X)) : EvE (.cel j) ⟨l, cl, v, τ⟩ (.ok X) ⟨l, cl, v, τ⟩ := ⟨@fun κ κ κ κ κ κ D => D _ h1 h2⟩
theorem EvE.cv : EvE .cv ⟨l, cl, v, τ⟩ (.ok v) ⟨l, cl, v, τ⟩ := ⟨@fun κ κ κ κ κ κ D => D _⟩
theorem EvE.val : EvE (.val X) st (.ok X) st := ⟨@fun κ κ κ κ κ κ D => D _⟩
end
section
variable {q : Bool} {n : Nat} {Γ : Gam} {md : Md} {x y : Str} {sc : Scope} {pos : Pos} {k : Nat} {v : Value} {X : V}
theorem Den.loc {i : Nat} (hi : Γ.lns[i]? = some x) (hl : Γ.scope.names.lookup x = some .local) (hd : (x == ("__debug__" : Str)) = false := by decide) : Den q n Γ none (.Name x pos) (.loc i) := fun κ => fun h hX => .mk fun c env ok Z Y as s S => by
 apply St.open0 S; intro g m M hp tk Si R LO CO S'
 obtain ⟨v, hv, hV⟩ := LO _ _ _ hi h (V.isDef.ne hX)
 exact nameX_L Si.F hv (PV.mk' hV S') ok.hk hl hd
theorem Den.cel {j : Nat} (hj : Γ.cns[j]? = some x) (hl : Γ.scope.names.lookup x = some .cell) (hd : (x == ("__debug__" : Str)) = false := by decide) : Den q n Γ none (.Name x pos) (.cel j) := fun κ => fun h1 h2 => .mk fun c env ok Z Y as s S => by
 apply St.open0 S; intro g m M hp tk Si R LO CO S'
 obtain ⟨a, o, v, e1, e2, e3, e4, _⟩ := cell_at Si R CO hj h1 h2
 exact wpAny_Name (wpAny_loadName_cell ok.hk hl e1 ⟨o, e2, e3⟩ (PV.mk' e4 S')) hd
theorem Den.ccel {j : Nat} (hj : Γ.cns[j]? = some x) (hl : sc.names.lookup x = some .free) (hc : Γ.scope.names.lookup x = some .cell) (hks : sc.kind = .function) (hd : (x == ("__debug__" : Str)) = false := by decide) : Den q n Γ (some (y, sc)) (.Name x pos) (.cel j) := fun κ => fun h1 h2 => .mk fun c env ok Z Y as s S => by
 apply St.openE S; intro g m M hp tk Si R LO CO EO S'
 cases EO with
 | @comp _ _ C cl o m' v cv k1 k2 k3 k4 k5 k6 =>
  obtain ⟨a, o, v, e1, e2, e3, e4, _⟩ := cell_at Si R CO hj h1 h2
  obtain ⟨a', ha'⟩ := k6 x (List.mem_of_getElem? hj) hl
  have := k5 x a' ha'
  rw [e1] at this; cases this
  exact wpAny_Name (wpAny_loadName_cell (env := compEnvC sc cl C (c.env Γ)) hks (lookup_relabel_free ok.hk hl hc) ha' ⟨o, e2, e3⟩ (PV.mk' e4 S')) hd
theorem Den.cvar (hl : sc.names.lookup x = some .local) (hks : sc.kind = .function) (hd : (x == ("__debug__" : Str)) = false := by decide) : Den q n Γ (some (x, sc)) (.Name x pos) .cv := fun κ => .mk fun c env ok Z Y as s S => by
 apply St.openE S; intro g m M hp tk Si R LO CO EO S'
 cases EO with
 | @comp _ _ C cl o m' v cv k1 k2 k3 k4 k5 k6 =>
  exact wpAny_Name (wpAny_loadName_local (env := compEnvC sc cl C (c.env Γ)) hks (lookup_relabel_local hl) (k2 _ (Si.N _ _ _ (R.y _ k1)).1) k3 (PV.mk' k4 S')) hd
theorem Den.cnone : Den q n Γ md (.Constant .none k pos) (.val .none) := fun κ => .mk fun c env ok Z Y as s S => wpAny_Constant_none (PV.mk' (.pure .none) S)
theorem Den.cbool {b : Bool} : Den q n Γ md (.Constant (.bool b) k pos) (.val (.bool b)) := fun κ => .mk fun c env ok Z Y as s S => wpAny_Constant_bool (PV.mk' (.pure (.bool _)) S)
theorem Den.cint {i : Int} : Den q n Γ md (.Constant (.int i) k pos) (.val (.int i)) := fun κ => .mk fun c env ok Z Y as s S => wpAny_Constant_int (PV.mk' (.pure (.int _ _)) (S.toks _))
theorem Den.cstr : Den q n Γ md (.Constant (.str x) k pos) (.val (.str x)) := fun κ => .mk fun c env ok Z Y as s S => wpAny_Constant_str (PV.mk' (.pure (.str _ _)) (S.toks _))
theorem Den.cbytes {b : List UInt8} : Den q n Γ md (.Constant (.bytes b) k pos) (.val (.bytes b.toArray)) := fun κ => .mk fun c env ok Z Y as s S => Constant_bytes (PV.mk' (.pure (.bytes _ _)) (S.toks _))
theorem Den.glo (hg : nsIn Ω.K mainGlobals x = some (some v)) (hv : ∀ Z, VR Z v X) (hx : Γ.scope.names.lookup x = some .globalImplicit) (hd : (x == ("__debug__" : Str)) = false := by decide) : Den q n Γ none (.Name x pos) (.val X) := fun κ => .mk fun c env ok Z Y as s S => by
 apply St.open0 S; intro g m M hp tk Si R LO CO S'
 exact nameX_K Si.F (Si.inK ok.gs) (topRead_of (Si.top ok.gs)) hg (PV.mk' (.pure (hv Z)) S') ok.hk hx hd
theorem Den.gloC (hg : nsIn Ω.K mainGlobals x = some (some v)) (hv : ∀ Z, VR Z v X) (hx : sc.names.lookup x = some .globalImplicit) (hks : sc.kind = .function) (hd : (x == ("__debug__" : Str)) = false := by decide) : Den q n Γ (some (y, sc)) (.Name x pos) (.val X) := fun κ => .mk fun c env ok Z Y as s S => by
 apply St.openE S; intro g m M hp tk Si R LO CO EO S'
 cases EO with
 | @comp _ _ C cl o m' _ cv =>
  have T := Si.top ok.gs
  exact Name_function_global (env := compEnvC sc cl C (c.env Γ)) hks (lookup_relabel_glob hx) (loadGlobal_global (env := compEnvC sc cl C (c.env Γ)) (T.g.keeps Si.F.keep) (mg_of (Si.inK ok.gs) T.g hg) (PV.mk' (.pure (hv Z)) S')) hd
theorem Den.blt (hg : nsIn Ω.K mainGlobals x = some none) (hb : bootBuiltins x = some v) (hn : x ≠ "__name__") (hx : Γ.scope.names.lookup x = some .globalImplicit) (hd : (x == ("__debug__" : Str)) = false := by decide) : Den q n Γ none (.Name x pos) (.val (.val v)) := fun κ => .mk fun c env ok Z Y as s S => by
 apply St.open0 S; intro g m M hp tk Si R LO CO S'
 exact nameX_B Si.F (Si.inK ok.gs) (topRead_of (Si.top ok.gs)) hg hb hn (PV.mk' (.pure (.val v)) S') ok.hk hx hd
theorem Den.bltC (hg : nsIn Ω.K mainGlobals x = some none) (hb : bootBuiltins x = some v) (hn : x ≠ "__name__") (hx : sc.names.lookup x = some .globalImplicit) (hks : sc.kind = .function) (hd : (x == ("__debug__" : Str)) = false := by decide) : Den q n Γ (some (y, sc)) (.Name x pos) (.val (.val v)) := fun κ => .mk fun c env ok Z Y as s S => by
 apply St.openE S; intro g m M hp tk Si R LO CO EO S'
 cases EO with
 | @comp _ _ C cl o m' _ cv =>
  have T := topRead_of (Si.top ok.gs)
  exact Name_function_global (env := compEnvC sc cl C (c.env Γ)) hks (lookup_relabel_glob hx) (loadGlobal_builtin (env := compEnvC sc cl C (c.env Γ)) (T.g.keeps Si.F.keep) (mg_none_of (Si.inK ok.gs) T.g hg) (T.b.keeps Si.F.keep) ((T.builtins x hn).trans hb)
   (PV.mk' (.pure (.val v)) S')) hd
end
noncomputable abbrev F2 := List MO -> V -> V -> Option V
noncomputable def OpB (op : Value -> Value -> Sem Value) (F : F2) : Prop := ∀ {c Γ md env q n v u X U st R Z Y as s} {Q E : Value -> Shared -> Prop}, Cx.Ok c Γ q n -> F st.sto X U = some R -> VV Z as v X -> VV Z as u U -> St c Γ md env Z Y as st s ->
 (∀ w Z' as' s', Ext Z as Z' as' -> VV Z' as' w R -> St c Γ md env Z' Y as' st s' -> Q w s') -> wpAny (model prg Ω.w) c.A (op v u) Q E s
noncomputable def EF.bin (F : F2) (f g : EF) : EF := fun q n Γ md t e => ∀ st, ∀ {s1 s2 X U R}, EvE f st (.ok X) s1 -> EvE g s1 (.ok U) s2 -> F s2.sto X U = some R -> Ev q n Γ md t e st (.ok R) s2
noncomputable def EF.tru (f : EF) : EF := fun q n Γ md t e => ∀ st, ∀ {s1 b}, EvE f st (.ok (.bool b)) s1 -> Ev q n Γ md t e st (.ok (.bool b)) s1
noncomputable def EF.not (f : EF) : EF := fun q n Γ md t e => ∀ st, ∀ {s1 b}, EvE f st (.ok (.bool b)) s1 -> Ev q n Γ md t e st (.ok (.bool (!b))) s1
noncomputable def EF.ite (f a b : EF) : EF := fun q n Γ md t e => ∀ st, ∀ {s1 s2 r x}, EvE f st (.ok (.bool x)) s1 -> EvE (bif x then a else b) s1 r s2 -> Ev q n Γ md t e st r s2
noncomputable def EF.sc (b : Bool) (f g : EF) : EF := fun q n Γ md t e => (∀ {st s1 s2 r}, EvE f st (.ok (.bool b)) s1 -> EvE g s1 r s2 -> Ev q n Γ md t e st r s2) ∧ ∀ {st s1}, EvE f st (.ok (.bool (!b))) s1 -> Ev q n Γ md t e st (.ok (.bool (!b))) s1
noncomputable abbrev EF.and2 : EF -> EF -> EF := .sc true
noncomputable abbrev EF.or2 : EF -> EF -> EF := .sc false
noncomputable def EF.and3 (f g h : EF) : EF := .and2 f (.and2 g h)
inductive EvAnd : List EF -> AS -> Out -> AS -> Prop
 | andN {st : AS} : EvAnd [] st (.ok (.bool true)) st
 | andT {f : EF} {fs : List EF} {st s1 s2 : AS} {r : Out} : EvE f st (.ok (.bool true)) s1 -> EvAnd fs s1 r s2 -> EvAnd (f :: fs) st r s2
 | andF {f : EF} {fs : List EF} {st s1 : AS} : EvE f st (.ok (.bool false)) s1 -> EvAnd (f :: fs) st (.ok (.bool false)) s1
inductive EvOr : List EF -> AS -> Out -> AS -> Prop
 | orN {st : AS} : EvOr [] st (.ok (.bool false)) st
 | orT {f : EF} {fs : List EF} {st s1 : AS} : EvE f st (.ok (.bool true)) s1 -> EvOr (f :: fs) st (.ok (.bool true)) s1
 | orF {f : EF} {fs : List EF} {st s1 s2 : AS} {r : Out} : EvE f st (.ok (.bool false)) s1 -> EvOr fs s1 r s2 -> EvOr (f :: fs) st r s2
noncomputable def EF.andL (fs : List EF) : EF := fun q n Γ md t e => ∀ st, ∀ {r s'}, EvAnd fs st r s' -> Ev q n Γ md t e st r s'
noncomputable def EF.orL (fs : List EF) : EF := fun q n Γ md t e => ∀ st, ∀ {r s'}, EvOr fs st r s' -> Ev q n Γ md t e st r s'
inductive DenTs (q : Bool) (n : Nat) (Γ : Gam) (md : Md) : List Expr -> List EF -> Prop
 | nil : DenTs q n Γ md [] []
 | cons {e : Expr} {f : EF} {es : List Expr} {fs : List EF} : DenT q n Γ md e f -> DenTs q n Γ md es fs -> DenTs q n Γ md (e :: es) (f :: fs)
inductive Dens (q : Bool) (n : Nat) (Γ : Gam) (md : Md) : List Expr -> List EF -> Prop
 | nil : Dens q n Γ md [] []
 | cons {e : Expr} {f : EF} {es : List Expr} {fs : List EF} : Den q n Γ md e f -> Dens q n Γ md es fs -> Dens q n Γ md (e :: es) (f :: fs)
section
variable {f g h : EF} {fs : List EF} {st s1 s2 : AS} {r : Out} {X U W : V}
theorem EvE.bin {F : F2} (h1 : EvE f st (.ok X) s1) (h2 : EvE g s1 (.ok U) s2) (h3 : F s2.sto X U = some W) : EvE (.bin F f g) st (.ok W) s2 := ⟨@fun κ κ κ κ κ κ D => D _ h1 h2 h3⟩
theorem EvE.tru {b : Bool} (h1 : EvE f st (.ok (.bool b)) s1) : EvE f.tru st (.ok (.bool b)) s1 := ⟨@fun κ κ κ κ κ κ D => D _ h1⟩
theorem EvE.not {b : Bool} (h1 : EvE f st (.ok (.bool b)) s1) : EvE f.not st (.ok (.bool (!b))) s1 := ⟨@fun κ κ κ κ κ κ D => D _ h1⟩
theorem EvE.iteT (h1 : EvE f st (.ok (.bool true)) s1) (h2 : EvE g s1 r s2) : EvE (.ite f g h) st r s2 := ⟨@fun κ κ κ κ κ κ D => D _ h1 h2⟩
theorem EvE.iteF (h1 : EvE f st (.ok (.bool false)) s1) (h2 : EvE h s1 r s2) : EvE (.ite f g h) st r s2 := ⟨@fun κ κ κ κ κ κ D => D _ h1 h2⟩
theorem EvE.and2T (h1 : EvE f st (.ok (.bool true)) s1) (h2 : EvE g s1 r s2) : EvE (.and2 f g) st r s2 := ⟨@fun κ κ κ κ κ κ D => D.1 h1 h2⟩
theorem EvE.and2F (h1 : EvE f st (.ok (.bool false)) s1) : EvE (.and2 f g) st (.ok (.bool false)) s1 := ⟨@fun κ κ κ κ κ κ D => D.2 h1⟩
theorem EvE.or2T (h1 : EvE f st (.ok (.bool true)) s1) : EvE (.or2 f g) st (.ok (.bool true)) s1 := ⟨@fun κ κ κ κ κ κ D => D.2 h1⟩
theorem EvE.or2F (h1 : EvE f st (.ok (.bool false)) s1) (h2 : EvE g s1 r s2) : EvE (.or2 f g) st r s2 := ⟨@fun κ κ κ κ κ κ D => D.1 h1 h2⟩
theorem EvE.andT (h1 : EvE f st (.ok (.bool true)) s1) (h2 : EvAnd fs s1 r s2) : EvE (.andL (f :: fs)) st r s2 := ⟨@fun κ κ κ κ κ κ D => D _ (.andT h1 h2)⟩
theorem EvE.andF (h1 : EvE f st (.ok (.bool false)) s1) : EvE (.andL (f :: fs)) st (.ok (.bool false)) s1 := ⟨@fun κ κ κ κ κ κ D => D _ (.andF h1)⟩
theorem EvE.orT (h1 : EvE f st (.ok (.bool true)) s1) : EvE (.orL (f :: fs)) st (.ok (.bool true)) s1 := ⟨@fun κ κ κ κ κ κ D => D _ (.orT h1)⟩
theorem EvE.orF (h1 : EvE f st (.ok (.bool false)) s1) (h2 : EvOr fs s1 r s2) : EvE (.orL (f :: fs)) st r s2 := ⟨@fun κ κ κ κ κ κ D => D _ (.orF h1 h2)⟩
end
section
variable {q : Bool} {n : Nat} {Γ : Gam} {md : Md} {pos : Pos} {f g h : EF} {fs : List EF} {e e' e'' : Expr} {es : List Expr}
theorem Den.bin {op : Operator} {F : F2} (D : Den q n Γ md e f) (D' : Den q n Γ md e' g) (O : OpB (binaryOp op) F) : Den q n Γ md (.BinOp e op e' pos) (.bin F f g) := fun κ => fun h1 h2 h3 => .mk fun c env ok Z Y as s S =>
 wpAny_BinOp (h1.go D ok S fun v Z₁ as₁ s₁ e₁ hv S₁ => h2.go D' ok S₁ fun u Z₂ as₂ s₂ e₂ hu S₂ => O ok h3 (hv.mono e₂) hu S₂ fun w Z₃ as₃ s₃ e₃ hw S₃ => ⟨_, Z₃, as₃, rfl, (e₁.trans e₂).trans e₃, hw, S₃⟩)
theorem Den.cmp {op : CmpOp} {F : F2} (D : Den q n Γ md e f) (D' : Den q n Γ md e' g) (O : OpB (compareOp op) F) (hm : behindInMarks op e' = false := by with_unfolding_all rfl) : Den q n Γ md (.Compare e [op] [e'] pos) (.bin F f g) := fun κ => fun h1 h2 h3 => .mk fun c env ok Z Y as s S =>
 wpAny_Compare1 (h1.go D ok S fun v Z₁ as₁ s₁ e₁ hv S₁ => h2.go D' ok S₁ fun u Z₂ as₂ s₂ e₂ hu S₂ => O ok h3 (hv.mono e₂) hu S₂ fun w Z₃ as₃ s₃ e₃ hw S₃ => ⟨_, Z₃, as₃, rfl, (e₁.trans e₂).trans e₃, hw, S₃⟩) hm
theorem DenT.of (D : Den q n Γ md e f) (he : ∀ env whole, isTrue e env whole = (do let v ← whole; standAt e.pos; holding [v] (truthy v)) := by intro _ _; rfl) : DenT q n Γ md e f.tru := fun κ => fun h1 => .mk fun c env ok Z Y as s S =>
 wpAny_isTrue_value (h1.go D ok S fun v Z₁ as₁ s₁ e₁ hv S₁ => by
  apply VV.bool_inv hv; exact wpAny_truthy_bool ⟨Z₁, as₁, rfl, e₁, S₁⟩) (he _ _)
theorem DenT.cmp {op : CmpOp} {F : F2} (D : Den q n Γ md e f) (D' : Den q n Γ md e' g) (O : OpB (compareOp op) F) (hF : ∀ {σ X U R}, F σ X U = some R -> ∃ b, R = .bool b) (hm : behindInMarks op e' = false := by with_unfolding_all rfl) : DenT q n Γ md (.Compare e [op] [e'] pos) (.bin F f g) := fun κ => fun h1 h2 h3 => .mk fun c env ok Z Y as s S => by
 obtain ⟨b, rfl⟩ := hF h3
 exact wpAny_isTrue_Compare1 (h1.go D ok S fun v Z₁ as₁ s₁ e₁ hv S₁ => h2.go D' ok S₁ fun u Z₂ as₂ s₂ e₂ hu S₂ => O ok h3 (hv.mono e₂) hu S₂ fun w Z₃ as₃ s₃ e₃ hw S₃ => by
  apply VV.bool_inv hw; exact wpAny_truthy_bool ⟨Z₃, as₃, rfl, (e₁.trans e₂).trans e₃, S₃⟩) hm
theorem Den.ite (D : DenT q n Γ md e f) (Da : Den q n Γ md e' g) (Db : Den q n Γ md e'' h) : Den q n Γ md (.IfExp e e' e'' pos) (.ite f g h) := fun κ {κ κ κ x} h1 h2 => .mk fun c env ok Z Y as s S =>
 wpAny_IfExp (h1.goT D ok S fun Z₁ as₁ s₁ e₁ S₁ => by cases x <;> first | exact h2.run Da ok e₁ S₁ | exact h2.run Db ok e₁ S₁)
theorem DenT.not (D : DenT q n Γ md e f) : DenT q n Γ md (.UnaryOp .Not e pos) f.not := fun κ => fun h1 => .mk fun c env ok Z Y as s S =>
 wpAny_isTrue_Not (h1.goT D ok S fun Z₁ as₁ s₁ e₁ S₁ => ⟨Z₁, as₁, rfl, e₁, S₁⟩)
theorem Den.not (D : Den q n Γ md e f) : Den q n Γ md (.UnaryOp .Not e pos) f.not := fun κ => fun h1 => .mk fun c env ok Z Y as s S =>
 wpAny_UnaryOp (h1.go D ok S fun v Z₁ as₁ s₁ e₁ hv S₁ => by
  apply VV.bool_inv hv; exact not_value (wpAny_truthy_bool ⟨_, Z₁, as₁, rfl, e₁, .pure (.bool _), S₁⟩))
theorem DenT.and (D : DenTs q n Γ md es fs) : DenT q n Γ md (.BoolOp .And es pos) (.andL fs) := fun κ => fun h => .mk fun c env ok Z Y as s S => by
 refine wpAny_isTrue_BoolOp ?_
 induction h generalizing es Z as s with
 | andN => cases D; exact wpAny_allTrue_And_nil ⟨Z, as, rfl, .refl, S⟩
 | andT h1 _ ih =>
  cases D with | cons d D =>
  exact wpAny_allTrue_And_cons (h1.goT d ok S fun Z₁ as₁ s₁ e₁ S₁ => wpAny_mono (ih D Z₁ as₁ s₁ S₁) (fun κ κ x => x.ext e₁) fun κ κ x => x.ext e₁)
 | andF h1 =>
  cases D with | cons d D =>
  exact wpAny_allTrue_And_cons (h1.goT d ok S fun Z₁ as₁ s₁ e₁ S₁ => ⟨Z₁, as₁, rfl, e₁, S₁⟩)
theorem DenT.or (D : DenTs q n Γ md es fs) : DenT q n Γ md (.BoolOp .Or es pos) (.orL fs) := fun κ => fun h => .mk fun c env ok Z Y as s S => by
 refine wpAny_isTrue_BoolOp ?_
 induction h generalizing es Z as s with
 | orN => cases D; exact wpAny_allTrue_Or_nil ⟨Z, as, rfl, .refl, S⟩
 | orF h1 _ ih =>
  cases D with | cons d D =>
  exact wpAny_allTrue_Or_cons (h1.goT d ok S fun Z₁ as₁ s₁ e₁ S₁ => wpAny_mono (ih D Z₁ as₁ s₁ S₁) (fun κ κ x => x.ext e₁) fun κ κ x => x.ext e₁)
 | orT h1 =>
  cases D with | cons d D =>
  exact wpAny_allTrue_Or_cons (h1.goT d ok S fun Z₁ as₁ s₁ e₁ S₁ => ⟨Z₁, as₁, rfl, e₁, S₁⟩)
theorem sc_step {b x : Bool} {c : Cx} {env : Env} {Z : Fz} {Y : Led} {as : List Addr} {st s1 : AS} {s : Shared} {Q E : Value -> Shared -> Prop} (D : Den q n Γ md e f) (ok : Cx.Ok c Γ q n) (h1 : EvE f st (.ok (.bool x)) s1) (S : St c Γ md env Z Y as st s)
  (k : ∀ Z₁ as₁ s₁, Ext Z as Z₁ as₁ -> St c Γ md env Z₁ Y as₁ s1 s₁ -> if x = b then wpAny (model prg Ω.w) c.A (boolOp pos (bif b then .And else .Or) (evalEach (e' :: es) env)) Q E s₁ else Q (.bool x) s₁) : wpAny (model prg Ω.w) c.A (eval (.BoolOp (bif b then .And else .Or) (e :: e' :: es) pos) env) Q E s := by
 rw [arm_eval_BoolOp]
 refine wpAny_bind (m := eval e env) (h1.go D ok S fun v Z₁ as₁ s₁ e₁ hv S₁ => ?_)
 apply VV.bool_inv hv
 refine wpAny_bind (wpAny_standAt (wpAny_bind (wpAny_holding (wpAny_truthy_bool ?_))))
 have := k Z₁ as₁ s₁ e₁ S₁
 cases b <;> cases x <;> first | exact this | exact wpAny_pure this
theorem Den.and2 (D : Den q n Γ md e f) (D' : Den q n Γ md e' g) : Den q n Γ md (.BoolOp .And [e, e'] pos) (.and2 f g) :=
 ⟨fun h1 h2 => .mk fun c env ok Z Y as s S => sc_step (b := true) D ok h1 S fun Z₁ as₁ s₁ e₁ S₁ => h2.run D' ok e₁ S₁, fun h1 => .mk fun c env ok Z Y as s S => sc_step (b := true) D ok h1 S fun Z₁ as₁ s₁ e₁ S₁ => ⟨_, Z₁, as₁, rfl, e₁, .pure (.bool _), S₁⟩⟩
theorem Den.and3 (D : Den q n Γ md e f) (D' : Den q n Γ md e' g) (D'' : Den q n Γ md e'' h) : Den q n Γ md (.BoolOp .And [e, e', e''] pos) (.and3 f g h) :=
 ⟨fun h1 h2 => .mk fun c env ok Z Y as s S => sc_step (b := true) D ok h1 S fun Z₁ as₁ s₁ e₁ S₁ => h2.run (Den.and2 (pos := pos) D' D'') ok e₁ S₁, fun h1 => .mk fun c env ok Z Y as s S => sc_step (b := true) D ok h1 S fun Z₁ as₁ s₁ e₁ S₁ => ⟨_, Z₁, as₁, rfl, e₁, .pure (.bool _), S₁⟩⟩
theorem Den.or2 (D : Den q n Γ md e f) (D' : Den q n Γ md e' g) : Den q n Γ md (.BoolOp .Or [e, e'] pos) (.or2 f g) :=
 ⟨fun h1 h2 => .mk fun c env ok Z Y as s S => sc_step (b := false) D ok h1 S fun Z₁ as₁ s₁ e₁ S₁ => h2.run D' ok e₁ S₁, fun h1 => .mk fun c env ok Z Y as s S => sc_step (b := false) D ok h1 S fun Z₁ as₁ s₁ e₁ S₁ => ⟨_, Z₁, as₁, rfl, e₁, .pure (.bool _), S₁⟩⟩
end
section
variable {q : Bool} {n : Nat} {Γ Γ₁ : Gam} {md : Md} {pos : Pos} {k : Nat}
noncomputable def Cx.sub (c : Cx) (Γ : Gam) (A : Around) (Γ₁ : Gam) (g₁ : Heap) (L f : Addr) (cdv : Value) (cells : List (Str × Addr)) : Cx :=
 { A := A.deeper (envX Γ₁.qual Γ₁.scope L f cdv cells), A₀ := A, base := c.base, outer := c.env Γ :: c.outer, h₀ := g₁, L := L, f := f, cdv := cdv, cells := cells }
theorem enter_sit {c : Cx} {g h : Heap} {m : Str -> Option Value} {M : Addr -> Option (Tag × Obj)} (Si : Sit c Γ g m M h) {A : Around} (hA : A.frames = some (c.env Γ :: c.outer)) (hk : Γ.scope.kind = .function) :
  ∃ g₁, Fr g c.L g₁ m ∧ g.StaysIn g₁ ∧ g₁.objs.size = h.objs.size ∧ (∀ b o, g₁.get? b = some o -> h.get? b = some o) ∧
   ∀ (m' : Str -> Option Value) (h₁ : Heap) (f : Addr) (cdv : Value) (cells : List (Str × Addr)), h₁.Ns h.objs.size m' -> (∀ b o, h.get? b = some o -> h₁.get? b = some o) -> Sit (c.sub Γ A Γ₁ g₁ h.objs.size f cdv cells) Γ₁ g₁ m' M h₁ := by
 obtain ⟨news, N, cv⟩ := Si.NL
 obtain ⟨FG, BG, st, _⟩ := groundX (R := fun κ κ => True) (s := { Ω.s₀ with heap := h }) Si.B Si.F N hA rfl hk
 refine ⟨_, FG, st, hideAll_size _ _, fun b o e => of_hideAll _ e, fun m' h₁ f cdv cells hns hk₁ => ⟨BG, .refl, ⟨hns, fun b o e => hk₁ b o (of_hideAll _ e), Nat.le_of_eq (hideAll_size _ _)⟩, news, fun p hp => ?_, cv⟩⟩
 exact ⟨hk₁ _ _ (N p hp).1, Nat.ne_of_lt (Heap.lt_size (N p hp).1), hideAll_none _ (List.mem_map_of_mem hp)⟩
theorem leave_sit {c c₁ : Cx} {g g₁ g₂ h h₂ : Heap} {m m₂ : Str -> Option Value} {M M₂ : Addr -> Option (Tag × Obj)} (Si : Sit c Γ g m M h) (F₁ : Fr g c.L g₁ m) (st : g.StaysIn g₁) (e1 : c₁.outer = c.env Γ :: c.outer) (e2 : c₁.h₀ = g₁) (S₂ : Sit c₁ Γ₁ g₂ m₂ M₂ h₂) :
  ∃ g', Sit c Γ g' m M₂ h₂ := by
 obtain ⟨B₂, T', F', news', N', cv⟩ := S₂
 rw [e2] at T'
 have nL₀ : g.get? c.L = none := kts_self Si.F
 obtain ⟨oL, es, ep, hLg, hLd, hLk, hLf⟩ := F₁.ns
 obtain ⟨sl, hs⟩ := T'.up hLg
 have hm : ∀ b, b ∈ c₁.outer.filterMap (·.frame) -> b = c.L ∨ b ∈ c.outer.filterMap (·.frame) := fun b hb => by
  rw [e1] at hb
  obtain ⟨env, he, hf⟩ := List.mem_filterMap.mp hb
  rcases List.mem_cons.mp he with rfl | he
  ·exact .inl (Option.some.inj hf).symm
  ·exact .inr (List.mem_filterMap.mpr ⟨env, he, hf⟩)
 obtain ⟨T₁, S₁⟩ := kts_turn_at (h := h₂) (fs := c.outer.filterMap (·.frame)) (g := g)
  (fun b hb => by
   obtain ⟨_, o, ho', _⟩ := Si.B.frames.mem hb
   exact ⟨o, ho'⟩)
  (fun b o e nmem => F'.keep b o (T'.other b o (st b o e) (fun q => by
   rcases hm b q with z | z
   ·rw [z, nL₀] at e; cases e
   ·exact nmem z)))
  (fun b o e κ => by
   obtain ⟨sl', hs'⟩ := T'.up (st b o e)
   exact ⟨sl', F'.keep _ _ hs'⟩)
 have B₃ : Below c.A₀ c.base c.outer (ktsHeap h₂ (c.outer.filterMap (·.frame)) g) := ⟨Si.B.stack, fun b o e => T₁.other b o (Si.B.stays b o e) (fun hm => by
  rw [(Si.B.frames.mem hm).1] at e
  cases e), Si.B.frames.of_keeps fun b o e κ => by
  obtain ⟨sl', hs'⟩ := T₁.up e
  exact ⟨_, hs', rfl⟩⟩
 refine ⟨_, B₃, Si.T.trans T₁, ⟨⟨_, es, ep, F'.keep _ _ hs, hLd, hLk, hLf⟩, S₁, by rw [T₁.size]; exact Si.F.above⟩, news', fun p hp => ⟨(N' p hp).1, fun q => ?_, ?_⟩, cv⟩
 ·have := (N' p hp).2.2; rw [q, hs] at this; cases this
 ·refine T₁.none_ _ ?_
  cases q : g.get? p.1 with
  | none => rfl
  | some o =>
   obtain ⟨sl', hs'⟩ := T'.up (st _ _ q)
   have := (N' p hp).2.2
   rw [hs'] at this
   cases this
theorem Rel.own {M M' : Addr -> Option (Tag × Obj)} {Z : Fz} {Y Y' : Led} {as : List Addr} {σ : List MO} (R : Rel M Z Y as σ) (hM : ∀ a t o, M a = some (t, o) -> t ≠ .own -> M' a = some (t, o)) (hY : ∀ p ∈ Y', M' p.1 = some (.own, p.2)) : Rel M' Z Y' as σ := by
 refine ⟨fun a o e => hM _ _ _ (R.z a o e) (by simp), hY, fun i mo e ne => ?_, R.len, fun t ht => ?_, R.hd⟩
 ·obtain ⟨a, o, h1, h2, h3⟩ := R.live i mo e ne
  exact ⟨a, o, h1, hM _ _ _ h2 (by simp), h3⟩
 ·obtain ⟨o, h1, h2⟩ := R.tab t ht
  exact ⟨o, hM _ _ _ h1 (by simp), h2⟩
theorem slots_sit {c : Cx} {g h h' : Heap} {m : Str -> Option Value} {M : Addr -> Option (Tag × Obj)} (Si : Sit c Γ g m M h) (hs : Heap.SlotsOnly ((c.env Γ :: c.outer).filterMap (·.frame)) h h') : ∃ g', Sit c Γ g' m M h' := by
 have nL₀ : g.get? c.L = none := kts_self Si.F
 have hm : ∀ b, b ∈ (c.env Γ :: c.outer).filterMap (·.frame) -> b = c.L ∨ b ∈ c.outer.filterMap (·.frame) := fun b hb => by
  obtain ⟨env, he, hf⟩ := List.mem_filterMap.mp hb
  rcases List.mem_cons.mp he with rfl | he
  ·exact .inl (Option.some.inj hf).symm
  ·exact .inr (List.mem_filterMap.mpr ⟨env, he, hf⟩)
 obtain ⟨T₁, S₁⟩ := kts_turn_at (h := h') (fs := c.outer.filterMap (·.frame)) (g := g)
  (fun b hb => by
   obtain ⟨_, o, ho', _⟩ := Si.B.frames.mem hb
   exact ⟨o, ho'⟩)
  (fun b o e nmem => (hs.2.1 b (fun q => by
   rcases hm b q with z | z
   ·rw [z, nL₀] at e; cases e
   ·exact nmem z)).trans (Si.F.keep b o e))
  (fun b o e κ => hs.2.2 b o (Si.F.keep b o e))
 have B₃ : Below c.A₀ c.base c.outer (ktsHeap h' (c.outer.filterMap (·.frame)) g) := ⟨Si.B.stack, fun b o e => T₁.other b o (Si.B.stays b o e) (fun hm => by
  rw [(Si.B.frames.mem hm).1] at e
  cases e), Si.B.frames.of_keeps fun b o e κ => by
  obtain ⟨sl', hs'⟩ := T₁.up e
  exact ⟨_, hs', rfl⟩⟩
 obtain ⟨oL, es, ep, hL, hLd, hLk, hLf⟩ := Si.F.ns
 obtain ⟨sl, hsl⟩ := hs.2.2 _ _ hL
 obtain ⟨news, N, cv⟩ := Si.NL
 refine ⟨_, B₃, Si.T.trans T₁, ⟨⟨_, es, ep, hsl, hLd, hLk, hLf⟩, S₁, by rw [T₁.size]; exact Si.F.above⟩, news, fun p hp => ⟨(hs.2.1 _ fun q => ?_).trans (N p hp).1, (N p hp).2.1, T₁.none_ _ (N p hp).2.2⟩, cv⟩
 rcases hm _ q with z | z
 ·exact (N p hp).2.1 z
 ·obtain ⟨_, o, ho, _⟩ := Si.B.frames.mem z
  rw [(N p hp).2.2] at ho; cases ho
theorem entry_ex {c : Cx} {A : Around} (hA : A.frames = some (c.env Γ :: c.outer)) (hk : Γ.scope.kind = .function) {g h : Heap} {m : Str -> Option Value} {M : Addr -> Option (Tag × Obj)} (Si : Sit c Γ g m M h) {e : Addr} {oe : Obj} {vs : Array Value} {head a0 : Value} {hadNext : Bool} {E : Value -> Shared -> Prop} {Q : Unit -> Shared -> Prop} {tk : Tok}
  (he : M e = some (.own, oe)) (hd : oe.data = .fields vs) (h1 : 1 < vs.size) (h0 : vs[0]? = some a0)
  (hQ : ∀ g' h' T oe' oT vs' ts, M T = none -> T ≠ e -> Sit c Γ g' m (put (put M T (some (.own, oT))) e (some (.own, oe'))) h' -> oe'.cls = oe.cls -> oe'.dict = oe.dict -> oe'.data = .fields vs' -> vs'[0]? = some a0 -> vs'[1]? = some (.ref T) -> oT.data = .fields ts -> ts[3]? = some (rawInt c.L) ->
   Q () { Ω.s₀ with heap := h', toks := tk }) :
  wpAny (model prg Ω.w) A (do let a ← frameOf (c.env Γ); let pl ← entryPlaceOf c.L hadNext; let b ← EntryCells.newEntry head a .none (rawInt c.L) .none pl; setField (.ref e) 1 b) Q E { Ω.s₀ with heap := h, toks := tk } := by
 have BG := pushX Si.B Si.F (env := c.env Γ) rfl hk
 refine wpAny_bind (wpAny_frameOf_fun (base := c.base) (L := c.L) hA BG.frames rfl fun h₁ hs₁ => ?_)
 obtain ⟨g₁, S₁⟩ := slots_sit Si hs₁
 refine wpAny_bind (wpAny_entryPlaceOf fun pl hpl => ?_)
 unfold EntryCells.newEntry newFields
 refine wpAny_bind (wpAny_newObj_type ?_ (hpl.sizeOk5 _ _ _ _ _))
 have hT := S₁.fresh (Nat.le_refl h₁.objs.size)
 have he₁ := (S₁.N _ _ _ he).1
 have hTe : h₁.objs.size ≠ e := Nat.ne_of_gt (Heap.lt_size he₁)
 refine wpAny_setField (Heap.get?_push_of_some (h := h₁) { cls := .type "traceback", dict := none, data := .fields ([head, .ref c.L, .none, rawInt c.L, .none] ++ (if pl.isEmpty then List.replicate 6 Value.none else pl)).toArray } he₁) hd h1 ?_
 have S₂ := S₁.add (t := .own) (h' := h₁.push { cls := .type "traceback", dict := none, data := .fields ([head, .ref c.L, .none, rawInt c.L, .none] ++ (if pl.isEmpty then List.replicate 6 Value.none else pl)).toArray }) (Nat.le_refl h₁.objs.size) (Heap.get?_push_size h₁ rfl) fun b o e => Heap.get?_push_of_some _ e
 have hd₃ := Obj.data_mapFields hd (·.setIfInBounds 1 (Value.ref h₁.objs.size))
 have S₃ := S₂.chg (a := e) (t' := .own) (by rw [put_ne hTe.symm]; exact he) (Heap.SameBut.update ..) (Heap.get?_update_self (Obj.mapFields (·.setIfInBounds 1 (Value.ref h₁.objs.size))) (Heap.get?_push_of_some _ he₁) (Obj.isFreed_of_fields hd₃))
 refine hQ _ _ h₁.objs.size _ _ _ _ hT.1 hTe S₃ (Obj.cls_mapFields _ _) ?_ hd₃ (by rw [Array.getElem?_setIfInBounds_ne (by decide)]; exact h0) (by simp [h1]) rfl (by first | (simp; done) | (rcases hpl with rfl | ⟨_, _, _, _, _, _, _, rfl⟩ <;> simp))
 obtain ⟨cl, d, dt, sl⟩ := oe
 subst hd
 rfl
inductive TrAt (c : Cx) (e : Addr) (Yx : Led) (fl : Value) : Prop
 | mk (oe : Obj) (vs : Array Value) (T : Addr) (oT : Obj) (ts : Array Value) : (e, oe) ∈ Yx -> oe.data = .fields vs -> vs[1]? = some (.ref T) -> T ≠ e -> (T, oT) ∈ Yx -> oT.data = .fields ts -> ts[3]? = some fl -> TrAt c e Yx fl
theorem note_ex {c : Cx} (ok : Cx.Ok c Γ q n) {C : Addr} {told : V} {e : Addr} {Z : Fz} {Y Yx : Led} {as : List Addr} {st : AS} {s : Shared} {E : Value -> Shared -> Prop} {Q : Unit -> Shared -> Prop} {A : Around} (hA : A.frames = some (c.env Γ :: c.outer))
  (X : ExAt c C told e Z Yx) (sep : ∀ p ∈ Yx, ∀ p' ∈ Y, p.1 ≠ p'.1) (S : St c Γ none (c.env Γ) Z (Yx ++ Y) as st s)
  (hQ : ∀ s' Yx', ExAt c C told e Z Yx' -> TrAt c e Yx' (rawInt c.L) -> (∀ p ∈ Yx', ∀ p' ∈ Y, p.1 ≠ p'.1) ->
   St c Γ none (c.env Γ) Z (Yx' ++ Y) as st s' -> Q () s') :
  wpAny (model prg Ω.w) A (noteFrame (.ref e) (c.env Γ)) Q E s := by
 have X' := X
 obtain ⟨oe, dx, nd, hs, t, v, vs, a0, x1, x2, x3, x4, x5, x6, x7, x8⟩ := X
 have S' := S
 first | (apply St.openE S; intro g m M hp tk Si R LO CO EO S') | obtain ⟨g, m, M, hp, tk, rfl, Si, R, LO, CO, EO⟩ := S
 have he := R.y _ (List.mem_append_left Y x1)
 have hg := (Si.N _ _ _ he).1
 unfold noteFrame
 show wpAny _ _ (do
  let head ← field (.ref e) 1
  if head != .none then
   if (← field head 3) == rawInt c.L then return
   setField head 3 .none
  setField (.ref e) 1 (← EntryCells.newEntry head (← frameOf (c.env Γ)) .none (rawInt c.L) .none (← entryPlaceOf c.L (head != .none)))) _ _ _
 have fin : ∀ (M₁ : Addr -> Option (Tag × Obj)), Rel M₁ Z Y as st.sto -> M₁ e = some (.own, oe) -> ∀ g' h' T oe' oT vs' ts, M₁ T = none -> T ≠ e -> Sit c Γ g' m (put (put M₁ T (some (.own, oT))) e (some (.own, oe'))) h' -> oe'.cls = oe.cls -> oe'.dict = oe.dict -> oe'.data = .fields vs' -> vs'[0]? = some a0 ->
   vs'[1]? = some (.ref T) -> oT.data = .fields ts -> ts[3]? = some (rawInt c.L) -> Q () { Ω.s₀ with heap := h', toks := tk } := by
  intro M₁ R₁ he₁ g' h' T oe' oT vs' ts y1 y2 y3 y4 y5 y6 y7 y8 y9 y10
  have ne : ∀ p ∈ Y, p.1 ≠ e := fun p hp => (sep _ x1 p hp).symm
  have neT : ∀ p ∈ Y, p.1 ≠ T := fun p hp q => by have := R₁.y p hp; rw [q, y1] at this; cases this
  refine hQ _ [(e, oe'), (T, oT)] ⟨oe', dx, nd, hs, t, v, vs', a0, .head _, y4.trans x2, y5.trans x3, x4, x5, y6, y7, .inr ⟨T, oT, ts, y8, y2, .tail _ (.head _), y9, .inr y10⟩⟩ ⟨oe', vs', T, oT, ts, .head _, y6, y8, y2, .tail _ (.head _), y9, y10⟩ ?_
   ⟨g', m, _, h', tk, rfl, y3, R₁.own ?_ ?_, LO, CO, .fn⟩
  ·intro p hp p' hp'
   rcases List.mem_cons.mp hp with rfl | hp
   ·exact (ne p' hp').symm
   ·rcases List.mem_cons.mp hp with rfl | hp
    ·exact (neT p' hp').symm
    ·cases hp
  ·intro a t' o' z1 z2
   have n1 : a ≠ e := fun q => by rw [q, he₁] at z1; cases z1; exact z2 rfl
   have n2 : a ≠ T := fun q => by rw [q, y1] at z1; cases z1
   rw [put_ne n1, put_ne n2]; exact z1
  ·intro p hp
   rcases List.mem_cons.mp hp with rfl | hp
   ·exact put_self
   ·rcases List.mem_cons.mp hp with rfl | hp
    ·rw [put_ne y2]; exact put_self
    ·rw [put_ne (ne p hp), put_ne (neT p hp)]; exact R₁.y p hp
 have sz : 1 < vs.size := by
  rcases x8 with h | ⟨_, _, _, h, _⟩ <;> exact (Array.getElem?_eq_some_iff.mp h).1
 have R₀ := R.sub (Y' := Y) fun p hp => List.mem_append_right _ hp
 rcases x8 with h1 | ⟨T, oT, ts, h1, hTe, hT, hdT, h3⟩
 ·refine wpAny_bind (wpAny_field hg x6 h1 ?_)
  rw [if_neg (by decide)]
  exact entry_ex hA ok.hk Si he x6 sz x7 (fin M R₀ he)
 ·have hMT := R.y _ (List.mem_append_left Y hT)
  have hgT := (Si.N _ _ _ hMT).1
  refine wpAny_bind (wpAny_field hg x6 h1 ?_)
  rw [if_pos (show (Value.ref T != Value.none) = true from by simp)]
  rcases h3 with h3 | h3
  ·refine wpAny_bind (wpAny_field hgT hdT h3 ?_)
   rw [if_neg (show ¬ ((Value.none == rawInt c.L) = true) from by simp [rawInt])]
   refine wpAny_bind (wpAny_setField hgT hdT (Array.getElem?_eq_some_iff.mp h3).1 ?_)
   have hd₂ := Obj.data_mapFields hdT (·.setIfInBounds 3 Value.none)
   have S₁ := Si.chg (a := T) (t' := .own) hMT (Heap.SameBut.update ..) (Heap.get?_update_self (Obj.mapFields (·.setIfInBounds 3 Value.none)) hgT (Obj.isFreed_of_fields hd₂))
   have he₁ : put M T (some (.own, Obj.mapFields (·.setIfInBounds 3 Value.none) oT)) e = some (.own, oe) := by rw [put_ne hTe.symm]; exact he
   refine entry_ex hA ok.hk S₁ he₁ x6 sz x7 (fin _ (R₀.own (fun a t' o' z1 z2 => ?_) fun p hp => ?_) he₁)
   ·rw [put_ne (fun q => by rw [q, hMT] at z1; cases z1; exact z2 rfl)]; exact z1
   ·rw [put_ne (sep _ hT p hp).symm]; exact R₀.y p hp
  ·refine wpAny_bind (wpAny_field hgT hdT h3 ?_)
   rw [if_pos (show (rawInt c.L == rawInt c.L) = true from by simp)]
   exact wpAny_pure (hQ _ Yx X' ⟨oe, vs, T, oT, ts, x1, x6, h1, hTe, hT, hdT, h3⟩ sep S')
end
section
variable {q : Bool} {n : Nat} {Γ Γ₁ : Gam} {md : Md} {pos : Pos} {k : Nat}
theorem flight_ex {c : Cx} {C : Addr} {told : V} {e : Addr} {Z : Fz} {Y Yx : Led} {as : List Addr} {st : AS} {s : Shared} {E : Value -> Shared -> Prop} {Q : Unit -> Shared -> Prop} {A : Around} {fl fl' : Value} {x : Option Addr}
  (X : ExAt c C told e Z Yx) (T : TrAt c e Yx fl) (sep : ∀ p ∈ Yx, ∀ p' ∈ Y, p.1 ≠ p'.1) (S : St c Γ none (c.env Γ) Z (Yx ++ Y) as st s) (hx : (x.elim Value.none fun f => rawInt f) = fl') (hfl : fl' = .none ∨ fl' = rawInt c.L)
  (hQ : ∀ s' Yx', ExAt c C told e Z Yx' -> TrAt c e Yx' fl' -> (∀ p ∈ Yx', ∀ p' ∈ Y, p.1 ≠ p'.1) -> St c Γ none (c.env Γ) Z (Yx' ++ Y) as st s' -> Q () s') :
  wpAny (model prg Ω.w) A (setFlight (.ref e) x) Q E s := by
 obtain ⟨oe, dx, nd, hs, t, v, vs, a0, x1, x2, x3, x4, x5, x6, x7, x8⟩ := X
 obtain ⟨oe', vs', T, oT, ts, y1, y2, y3, y4, y5, y6, y7⟩ := T
 first | (apply St.openE S; intro g m M hp tk Si R LO CO EO S') | obtain ⟨g, m, M, hp, tk, rfl, Si, R, LO, CO, EO⟩ := S
 have he := R.y _ (List.mem_append_left Y x1)
 have he' := R.y _ (List.mem_append_left Y y1)
 rw [he] at he'; cases he'
 rw [x6] at y2; cases y2
 have hg := (Si.N _ _ _ he).1
 have hMT := R.y _ (List.mem_append_left Y y5)
 have hgT := (Si.N _ _ _ hMT).1
 have sz := (Array.getElem?_eq_some_iff.mp y7).1
 unfold setFlight
 refine wpAny_bind (wpAny_field hg x6 y3 ?_)
 rw [if_pos (show (Value.ref T != Value.none) = true from by simp), hx]
 refine wpAny_setField hgT y6 sz ?_
 have hd₂ := Obj.data_mapFields y6 (·.setIfInBounds 3 fl')
 have S₁ := Si.chg (a := T) (t' := .own) hMT (Heap.SameBut.update ..) (Heap.get?_update_self (Obj.mapFields (·.setIfInBounds 3 fl')) hgT (Obj.isFreed_of_fields hd₂))
 have R₀ := R.sub (Y' := Y) fun p hp => List.mem_append_right _ hp
 refine hQ _ [(e, oe), (T, Obj.mapFields (·.setIfInBounds 3 fl') oT)] ⟨oe, dx, nd, hs, t, v, vs, a0, .head _, x2, x3, x4, x5, x6, x7, .inr ⟨T, _, _, y3, y4, .tail _ (.head _), hd₂, ?_⟩⟩
  ⟨oe, vs, T, _, _, .head _, x6, y3, y4, .tail _ (.head _), hd₂, by simp [sz]⟩ ?_ ⟨g, m, _, _, tk, rfl, S₁, R₀.own (fun a t' o' z1 z2 => ?_) fun p hp => ?_, LO, CO, .fn⟩
 ·rcases hfl with rfl | rfl
  ·exact .inl (by simp [sz])
  ·exact .inr (by simp [sz])
 ·intro p hp p' hp'
  rcases List.mem_cons.mp hp with rfl | hp
  ·exact sep _ x1 p' hp'
  ·rcases List.mem_cons.mp hp with rfl | hp
   ·exact sep _ y5 p' hp'
   ·cases hp
 ·rw [put_ne (fun q => by rw [q, hMT] at z1; cases z1; exact z2 rfl)]; exact z1
 ·rcases List.mem_cons.mp hp with rfl | hp
  ·rw [put_ne y4.symm]; exact he
  ·rcases List.mem_cons.mp hp with rfl | hp
   ·exact put_self
   ·rw [put_ne (sep _ y5 p hp).symm]; exact R₀.y p hp
theorem leave_ex {c : Cx} (ok : Cx.Ok c Γ q n) {C : Addr} {told : V} {e : Addr} {Z : Fz} {Y Yx : Led} {as : List Addr} {st : AS} {s : Shared} {E : Value -> Shared -> Prop} {Q : Unit -> Shared -> Prop}
  (X : ExAt c C told e Z Yx) (sep : ∀ p ∈ Yx, ∀ p' ∈ Y, p.1 ≠ p'.1) (S : St c Γ none (c.env Γ) Z (Yx ++ Y) as st s)
  (hQ : ∀ s' Yx', ExAt c C told e Z Yx' -> TrAt c e Yx' .none -> (∀ p ∈ Yx', ∀ p' ∈ Y, p.1 ≠ p'.1) -> St c Γ none (c.env Γ) Z (Yx' ++ Y) as st s' -> Q () s') :
  wpAny (model prg Ω.w) c.A (leaving (c.env Γ) (.ref e)) Q E s := by
 unfold leaving
 refine wpAny_bind (note_ex ok ok.hA X sep S fun s' Yx' X' T' sep' S' => ?_)
 exact flight_ex X' T' sep' S' rfl (.inl rfl) hQ
noncomputable def V.lo (n : Nat) : V -> Bool
 | .ref i => decide (i < n)
 | .inst i => decide (i < n)
 | _ => true
noncomputable def MO.lo (n : Nat) : MO -> Bool
 | .inst fs => fs.all fun x => x.lo n
 | .deck l m => l.lo n && m.lo n
 | .cell v => v.lo n
 | _ => true
theorem VV.cut {Z : Fz} {as t : List Addr} {v : Value} {X : V} (x : VV Z (as ++ t) v X) (hb : X.lo as.length = true) : VV Z as v X := by
 cases x with
 | pure y => exact .pure y
 | ref e => exact .ref (by rwa [List.getElem?_append_left (by simpa [V.lo] using hb)] at e)
 | inst e f => exact .inst e (by rwa [List.getElem?_append_left (by simpa [V.lo] using hb)] at f)
theorem SRs.cut {Z : Fz} {as t : List Addr} {v : List DictEntry} {X : List (Str × V)} (x : SRs Z (as ++ t) v X) (hb : (X.all fun x => x.2.lo as.length) = true) : SRs Z as v X := by
 induction x with
 | nil => exact .nil
 | cons a _ ih => rw [List.all_cons, Bool.and_eq_true] at hb; exact .cons (a.cut hb.1) (ih hb.2)
theorem ER.cut {Z : Fz} {as t : List Addr} {mo : MO} {o : Obj} (x : ER Z (as ++ t) mo o) (hb : mo.lo as.length = true) : ER Z as mo o := by
 cases x with
 | eInts a => exact .eInts a
 | eList a => exact .eList a
 | eInst a b => exact .eInst (a.cut (by
   rw [MO.lo, List.all_eq_true] at hb
   rw [List.all_eq_true]
   exact fun p hp => hb _ (List.of_mem_zip hp).2)) b
 | eDeck a b c =>
  rw [MO.lo, Bool.and_eq_true] at hb
  exact .eDeck a (b.cut hb.1) (c.cut hb.2)
 | eCell a b => exact .eCell a (b.cut hb)
 | eCell0 a => exact .eCell0 a
theorem Rel.cut {M : Addr -> Option (Tag × Obj)} {Z : Fz} {Y : Led} {as t : List Addr} {σ : List MO} (R : Rel M Z Y (as ++ t) σ) (hb : (σ.take as.length).all (·.lo as.length) = true) : Rel M Z Y as (σ.take as.length) := by
 refine ⟨R.z, R.y, fun i mo e ne => ?_, ?_, R.tab, R.hd⟩
 ·have hi : i < as.length := by
   have := (List.getElem?_eq_some_iff.mp e).1
   rw [List.length_take] at this
   omega
  have e' := e
  rw [List.getElem?_take_of_lt hi] at e
  obtain ⟨a, o, h1, h2, h3⟩ := R.live i mo e ne
  rw [List.getElem?_append_left hi] at h1
  exact ⟨a, o, h1, h2, h3.cut (List.all_eq_true.mp hb mo (List.mem_of_getElem? e'))⟩
 ·have := R.len
  rw [List.length_append] at this
  rw [List.length_take]; omega
theorem back {c c₁ : Cx} {g g₁ h : Heap} {m : Str -> Option Value} {M : Addr -> Option (Tag × Obj)} {st : AS} {Z : Fz} {Y : Led} {as : List Addr} {env : Env} (ok : Cx.Ok c Γ q n) (Si : Sit c Γ g m M h) (F₁ : Fr g c.L g₁ m) (hst : g.StaysIn g₁) (e1 : c₁.outer = c.env Γ :: c.outer) (e2 : c₁.h₀ = g₁)
  (LO : LocOk Γ m Z as st.loc) (CO : CelOk c Γ as st.cl) (EO : EnvOk Γ c Z Y as md env st.cv) {Z' : Fz} {as' : List Addr} {Yx : Led} {st₁ : AS} {s' : Shared} (ex : Ext Z as Z' as') {env₁ : Env} (S : St c₁ Γ₁ none env₁ Z' (Yx ++ Y) as' st₁ s') :
  St c Γ md env Z' (Yx ++ Y) as' { st with sto := st₁.sto } s' := by
 obtain ⟨g₂, m₂, M₂, h₂, tk₂, rfl, Si₂, R₂, _, _, _⟩ := S
 obtain ⟨g', S'⟩ := leave_sit Si F₁ hst e1 e2 Si₂
 exact ⟨g', m, M₂, h₂, tk₂, rfl, S', R₂, LO.mono ex, CO.mono ex, (EO.mono ex).more fun p hp => List.mem_append_right _ hp⟩
theorem back_cut {c c₁ : Cx} {g g₁ h : Heap} {m : Str -> Option Value} {M : Addr -> Option (Tag × Obj)} {st : AS} {Z : Fz} {Y : Led} {as : List Addr} {env : Env} (Si : Sit c Γ g m M h) (F₁ : Fr g c.L g₁ m) (hst : g.StaysIn g₁) (e1 : c₁.outer = c.env Γ :: c.outer) (e2 : c₁.h₀ = g₁)
  (hlen : as.length = st.sto.length) (LO : LocOk Γ m Z as st.loc) (CO : CelOk c Γ as st.cl) (EO : EnvOk Γ c Z Y as md env st.cv) {Z' : Fz} {as' : List Addr} {Yx : Led} {st₁ : AS} {s' : Shared} (ex : Ext Z as Z' as') {env₁ : Env} (S : St c₁ Γ₁ none env₁ Z' (Yx ++ Y) as' st₁ s')
  (hb : (st₁.sto.take st.sto.length).all (·.lo st.sto.length) = true) :
  St c Γ md env Z' (Yx ++ Y) as { st with sto := st₁.sto.take st.sto.length } s' := by
 obtain ⟨g₂, m₂, M₂, h₂, tk₂, rfl, Si₂, R₂, _, _, _⟩ := S
 obtain ⟨g', S'⟩ := leave_sit Si F₁ hst e1 e2 Si₂
 obtain ⟨z, t, rfl⟩ := ex
 have ex' : Ext Z as Z' as := ⟨z, [], (List.append_nil _).symm⟩
 rw [← hlen] at hb ⊢
 exact ⟨g', m, M₂, h₂, tk₂, rfl, S', R₂.cut hb, LO.mono ex', CO.mono ex', (EO.mono ex').more fun p hp => List.mem_append_right _ hp⟩
theorem ExAt.up {c c' : Cx} {C : Addr} {told : V} {e : Addr} {Z : Fz} {Yx : Led} (X : ExAt c C told e Z Yx) {Y : Led} {M : Addr -> Option (Tag × Obj)} (hy : ∀ p ∈ Yx, M p.1 = some (.own, p.2)) (T : TrAt c e Yx .none) : ExAt c' C told e Z Yx := by
 obtain ⟨oe, dx, nd, hs, t, v, vs, a0, x1, x2, x3, x4, x5, x6, x7, x8⟩ := X
 obtain ⟨oe', vs', T, oT, ts, y1, y2, y3, y4, y5, y6, y7⟩ := T
 obtain rfl : oe = oe' := by
  have e1 := hy (e, oe) x1
  have e2 := hy (e, oe') y1
  simp only at e1 e2
  rw [e1] at e2; cases e2; rfl
 rw [x6] at y2; cases y2
 exact ⟨oe, dx, nd, hs, t, v, vs, a0, x1, x2, x3, x4, x5, x6, x7, .inr ⟨T, oT, ts, y3, y4, y5, y6, .inl y7⟩⟩
theorem lookup_zip : ∀ {names : List Str} {vs : List Value} {i : Nat} {x : Str} {v : Value}, names.Nodup -> names[i]? = some x -> vs[i]? = some v -> (names.zip vs).lookup x = some v
 | [], _, i, _, _, _, h, _ => by simp at h
 | _ :: _, [], _, _, _, _, _, h => by simp at h
 | y :: names, u :: vs, 0, x, v, _, h1, h2 => by simp at h1 h2; subst h1 h2; simp
 | y :: names, u :: vs, i + 1, x, v, hn, h1, h2 => by
  rw [List.nodup_cons] at hn
  simp only [List.getElem?_cons_succ] at h1 h2
  have : (x == y) = false := by
   rw [beq_eq_false_iff_ne]; rintro rfl; exact hn.1 (List.mem_of_getElem? h1)
  rw [List.zip_cons_cons, List.lookup_cons, this]
  exact lookup_zip hn.2 h1 h2
theorem lookup_rev {l : List (Str × Value)} {x : Str} {v : Value} (hn : (l.map (·.1)).Nodup) (h : l.lookup x = some v) : l.reverse.lookup x = some v := by
 have hm : (x, v) ∈ l := by
  clear hn
  induction l with
  | nil => simp at h
  | cons p r ih =>
   obtain ⟨y, u⟩ := p
   rw [List.lookup_cons] at h
   cases q : x == y with
   | true => rw [q] at h; (first | apply ok_inv h | cases h); rw [beq_iff_eq.mp q]; exact .head _
   | false => rw [q] at h; exact .tail _ (ih h)
 have key : ∀ r : List (Str × Value), (r.map (·.1)).Nodup -> (x, v) ∈ r -> r.lookup x = some v := fun r => by
  induction r with
  | nil => intro _ h; cases h
  | cons p r ih =>
   obtain ⟨y, u⟩ := p
   intro hn' hm'
   rw [List.map_cons, List.nodup_cons] at hn'
   rcases List.mem_cons.mp hm' with e | e
   ·cases e; simp
   ·have : (x == y) = false := by
     rw [beq_eq_false_iff_ne]; rintro rfl; exact hn'.1 (List.mem_map_of_mem (f := (·.1)) e)
    rw [List.lookup_cons, this]; exact ih hn'.2 e
 refine key _ ?_ (List.mem_reverse.mpr hm)
 rw [List.map_reverse]
 exact List.pairwise_reverse.mpr (hn.imp fun h => h.symm)
theorem VVs.at {Z : Fz} {as : List Addr} {vs : List Value} {Xs : List V} (h : VVs Z as vs Xs) {i : Nat} {X : V} (e : Xs[i]? = some X) : ∃ v, vs[i]? = some v ∧ VV Z as v X := by
 induction h generalizing i with
 | nil => simp at e
 | @cons v x vs xs a b ih =>
  cases i with
  | zero => simp at e; subst e; exact ⟨v, rfl, a⟩
  | succ i => simp at e; simpa using ih e
theorem VVs.append {Z : Fz} {as : List Addr} {vs vs' : List Value} {Xs Xs' : List V} (h : VVs Z as vs Xs) (h' : VVs Z as vs' Xs') : VVs Z as (vs ++ vs') (Xs ++ Xs') := by
 induction h with
 | nil => exact h'
 | cons a _ ih => exact .cons a ih
end
noncomputable def Fl.out : Fl -> Option Out
 | .ret X => some (.ok X)
 | .next => some (.ok .none)
 | .exn C t => some (.exn C t)
 | _ => none
noncomputable def Out.lo (n : Nat) : Out -> Bool
 | .ok X => X.lo n
 | .exn _ _ => true
inductive CallEnd (c : Cx) (Γ : Gam) (md : Md) (env : Env) (Y : Led) (Z : Fz) (as : List Addr) (r : Out) (st' : AS) : Result -> Shared -> Prop
 | ret {v : Value} {s' : Shared} : PV c Γ md env Y Z as r st' v s' -> CallEnd c Γ md env Y Z as r st' (.ok (.ret v)) s'
 | err {e : Value} {s' : Shared} : PE c Γ Y Z as r.ex st' e s' -> CallEnd c Γ md env Y Z as r st' (.error e) s'
structure ArOk (c : Cx) (A : Around) : Prop where
 fr : A.frames = c.A.frames
 hh : A.handled = none
 dep : A.depth ≤ c.A.depth + 3
 un : A.units ≤ c.A.units + 50
noncomputable abbrev CF := Nat -> V -> Prop
noncomputable abbrev Fun (k : Nat) (a : Addr) (F : CF) : Prop := F k (.val (.ref a))
structure FunR (k : Nat) (X : V) (Xs : List V) (σ : List MO) (r : Out) (σ' : List MO) : Prop where
 run : ∀ c Γ md env, Cx.Ok c Γ true (k + 1) -> ∀ A, ArOk c A -> ∀ l cl cv vs fv Z Y as s, VR Z fv X -> VVs Z as vs Xs -> St c Γ md env Z Y as ⟨l, cl, cv, σ⟩ s ->
  codeAny (model prg Ω.w) A (.call fv ⟨vs, []⟩) (CallEnd c Γ md env Y Z as r ⟨l, cl, cv, σ'⟩) s
structure EvF (F : CF) (Xs : List V) (σ : List MO) (r : Out) (σ' : List MO) : Prop where
 den : ∀ {k X}, F k X -> FunR k X Xs σ r σ'
section
variable {q : Bool} {n k : Nat} {Γ Γ₁ : Gam} {md : Md} {keep : Bool} {c : Cx} {A : Around} {g g₁ h : Heap} {m : Str -> Option Value} {M : Addr -> Option (Tag × Obj)} {st st₁ : AS} {Z Z' : Fz} {Y Yx : Led} {as as' : List Addr} {env env₁ : Env} {L f : Addr} {cdv : Value} {cells : List (Str × Addr)} {s' : Shared}
theorem callee_cal (ok : Cx.Ok c Γ q n) (Si : Sit c Γ g m M h) (R : Rel M Z Y as st.sto) (F₁ : Fr g c.L g₁ m) (hst : g.StaysIn g₁) (LO : LocOk Γ m Z as st.loc) (CO : CelOk c Γ as st.cl) (EO : EnvOk Γ c Z Y as md env st.cv)
  (h3 : keep = false -> (st₁.sto.take st.sto.length).all (·.lo st.sto.length) = true) (ex : Ext Z as Z' as') (S : St (c.sub Γ A Γ₁ g₁ L f cdv cells) Γ₁ none env₁ Z' (Yx ++ Y) as' st₁ s') :
   ∃ as'', Ext Z as Z' as'' ∧ St c Γ md env Z' (Yx ++ Y) as'' ⟨st.loc, st.cl, st.cv, bif keep then st₁.sto else st₁.sto.take st.sto.length⟩ s' ∧ ∀ v X, VV Z' as' v X -> (keep = false -> X.lo st.sto.length = true) -> VV Z' as'' v X := by
 cases keep with
 | true => exact ⟨as', ex, back ok Si F₁ hst rfl rfl LO CO EO ex S, fun v X hv κ => hv⟩
 | false =>
  refine ⟨as, ⟨ex.1, [], (List.append_nil _).symm⟩, back_cut Si F₁ hst rfl rfl R.len LO CO EO ex S (h3 rfl), fun v X hv hl => ?_⟩
  obtain ⟨_, t, rfl⟩ := ex
  exact hv.cut (by rw [R.len]; exact hl rfl)
theorem callee_ret (ok : Cx.Ok c Γ q n) (Si : Sit c Γ g m M h) (R : Rel M Z Y as st.sto) (F₁ : Fr g c.L g₁ m) (hst : g.StaysIn g₁) (LO : LocOk Γ m Z as st.loc) (CO : CelOk c Γ as st.cl) (EO : EnvOk Γ c Z Y as md env st.cv)
  (h3 : keep = false -> (st₁.sto.take st.sto.length).all (·.lo st.sto.length) = true) (ex : Ext Z as Z' as') (S : St (c.sub Γ A Γ₁ g₁ L f cdv cells) Γ₁ none env₁ Z' Y as' st₁ s') {v : Value} {X : V} (hm : VV Z' as' v X) (hX : keep = false -> X.lo st.sto.length = true) :
  CallEnd c Γ md env Y Z as (.ok X) ⟨st.loc, st.cl, st.cv, bif keep then st₁.sto else st₁.sto.take st.sto.length⟩ (.ok (.ret v)) s' := by
 obtain ⟨as'', e2, S'', hv⟩ := callee_cal ok Si R F₁ hst LO CO EO h3 (Yx := []) ex S
 exact .ret ⟨X, Z', as'', rfl, e2, hv v X hm hX, S''⟩
theorem callee_exn (ok : Cx.Ok c Γ q n) (Si : Sit c Γ g m M h) (R : Rel M Z Y as st.sto) (F₁ : Fr g c.L g₁ m) (hst : g.StaysIn g₁) (LO : LocOk Γ m Z as st.loc) (CO : CelOk c Γ as st.cl) (ok₁ : Cx.Ok (c.sub Γ A Γ₁ g₁ L f cdv cells) Γ₁ true k)
  (h3 : keep = false -> (st₁.sto.take st.sto.length).all (·.lo st.sto.length) = true) {Z₁ : Fz} {as₁ : List Addr} (e₀ : Ext Z as Z₁ as₁) {C : Addr} {t : V} {e : Value} (he : PE (c.sub Γ A Γ₁ g₁ L f cdv cells) Γ₁ Y Z₁ as₁ (some (C, t)) st₁ e s') :
  wpAny (model prg Ω.w) (c.sub Γ A Γ₁ g₁ L f cdv cells).A (leaving ((c.sub Γ A Γ₁ g₁ L f cdv cells).env Γ₁) e) (fun κ s'' => CallEnd c Γ md env Y Z as (.exn C t) ⟨st.loc, st.cl, st.cv, bif keep then st₁.sto else st₁.sto.take st.sto.length⟩ (.error e) s'') (fun e' s'' => CallEnd c Γ md env Y Z as (.exn C t) ⟨st.loc, st.cl, st.cv, bif keep then st₁.sto else st₁.sto.take st.sto.length⟩ (.error e') s'') s' := by
 obtain ⟨C', t', Z', as', Yx, a, hx, e1, rfl, X, sep, S'⟩ := he
 cases hx
 refine leave_ex ok₁ X sep S' fun s'' Yx' X' T' sep' S₂ => ?_
 obtain ⟨as'', e2, S₃, _⟩ := callee_cal (md := none) (env := c.env Γ) ok Si R F₁ hst LO CO .fn h3 (Yx := Yx') (e₀.trans e1) S₂
 obtain ⟨_, _, M', _, _, _, _, R', _⟩ := id S₃
 exact .err ⟨C, t, Z', as'', Yx', a, rfl, e2, rfl, X'.up (Y := Y) (fun p hp => R'.y p (List.mem_append_left _ hp)) T', sep', S₃⟩
theorem callee_end (ok : Cx.Ok c Γ q n) (Si : Sit c Γ g m M h) (R : Rel M Z Y as st.sto) (F₁ : Fr g c.L g₁ m) (hst : g.StaysIn g₁) (LO : LocOk Γ m Z as st.loc) (CO : CelOk c Γ as st.cl) (EO : EnvOk Γ c Z Y as md env st.cv) (ok₁ : Cx.Ok (c.sub Γ A Γ₁ g₁ L f cdv cells) Γ₁ true k)
  {r₁ : Fl} {r : Out} {Z₁ : Fz} {as₁ : List Addr} (e₀ : Ext Z as Z₁ as₁) (ho : r₁.out = some r) (h3 : keep = false -> r.lo st.sto.length = true ∧ (st₁.sto.take st.sto.length).all (·.lo st.sto.length) = true) {body : List Stmt} {s : Shared}
  (hw : wpAny (model prg Ω.w) (c.sub Γ A Γ₁ g₁ L f cdv cells).A (execs body ((c.sub Γ A Γ₁ g₁ L f cdv cells).env Γ₁)) (PS (c.sub Γ A Γ₁ g₁ L f cdv cells) Γ₁ Y Z₁ as₁ r₁ st₁) (PE (c.sub Γ A Γ₁ g₁ L f cdv cells) Γ₁ Y Z₁ as₁ r₁.ex st₁) s) :
  wpAny (model prg Ω.w) (c.sub Γ A Γ₁ g₁ L f cdv cells).A (execs body ((c.sub Γ A Γ₁ g₁ L f cdv cells).env Γ₁)) (fun fl s' => CallEnd c Γ md env Y Z as r ⟨st.loc, st.cl, st.cv, bif keep then st₁.sto else st₁.sto.take st.sto.length⟩ (.ok (.ret (match fl with | .ret v => v | _ => .none))) s')
   (fun e s' => wpAny (model prg Ω.w) (c.sub Γ A Γ₁ g₁ L f cdv cells).A (leaving ((c.sub Γ A Γ₁ g₁ L f cdv cells).env Γ₁) e) (fun κ s'' => CallEnd c Γ md env Y Z as r ⟨st.loc, st.cl, st.cv, bif keep then st₁.sto else st₁.sto.take st.sto.length⟩ (.error e) s'') (fun e' s'' => CallEnd c Γ md env Y Z as r ⟨st.loc, st.cl, st.cv, bif keep then st₁.sto else st₁.sto.take st.sto.length⟩ (.error e') s'') s') s := by
 refine wpAny_mono hw (fun fl s' hs => ?_) fun e s' he => ?_
 ·obtain ⟨Z', as', e1, S', hm⟩ := hs
  cases hm with
  | next => cases ho; exact callee_ret ok Si R F₁ hst LO CO EO (fun q => (h3 q).2) (e₀.trans e1) S' (.pure .none) (fun κ => rfl)
  | ret hm => cases ho; exact callee_ret ok Si R F₁ hst LO CO EO (fun q => (h3 q).2) (e₀.trans e1) S' hm fun q => (h3 q).1
  | _ => cases ho
 ·cases r₁ with
  | exn C t => cases ho; exact callee_exn ok Si R F₁ hst LO CO ok₁ (fun q => (h3 q).2) e₀ he
  | _ => exact he.no
end
theorem ArOk.deep {c : Cx} {A : Around} {Γ : Gam} {q : Bool} {k : Nat} (ok : Cx.Ok c Γ q (k + 1)) (hA : ArOk c A) : A.depth < 1000 ∧ A.depth + 1 + 4 * k ≤ 900 ∧ A.units + 3 + 60 * k ≤ 9000 := by
 have := hA.dep; have := ok.dep; have := hA.un; have := ok.un
 refine ⟨Nat.lt_of_le_of_lt (m := 903) ?_ (by decide), ?_, ?_⟩ <;> omega
inductive FnK (K : Frag) (a : Addr) (Γ : Gam) (body : List Stmt) (np : Nat) (names : List Str) (dvs : List Value) : Prop
 | mk (keep : keepIn K (.ref a) = true) (name : Str) (params : Arguments) (dV kV doc pm cdv ct oc : Value) (an od : Option Addr) (osl : Array (Option Value)) : K.lookup a = some ⟨oc, od, .func (fnX name Γ.qual params body Γ.scope [] dV kV doc pm an cdv ct), osl⟩ -> codeIn K cdv Γ.qual = true ->
  (∀ (s : Shared) (vs : List Value), vs.length = np -> K.In s.heap -> BindsTo s (fnX name Γ.qual params body Γ.scope [] dV kV doc pm an cdv ct) ⟨vs, []⟩ (names.zip (vs ++ dvs))) -> (∀ a, Γ.cd = some a -> cdv = .ref a) -> FnK K a Γ body np names dvs
theorem FnK.keep {K : Frag} {a : Addr} {Γ : Gam} {body : List Stmt} {np : Nat} {names : List Str} {dvs : List Value} (x : FnK K a Γ body np names dvs) : keepIn K (.ref a) = true := by cases x; assumption
theorem bindsAt_ok {n : Nat} : ∀ {P : List Value -> Prop}, bindsAt n P -> ∀ vs : List Value, vs.length = n -> P vs := by
 induction n with
 | zero => intro P h vs e; rw [List.eq_nil_of_length_eq_zero e]; exact h
 | succ n ih =>
  intro P h vs e
  cases vs with
  | nil => cases e
  | cons v vs => exact ih (h v) vs (Nat.succ.inj e)
theorem FnF.toK {K : Frag} {x : FE} (h : FnF K x) : FnK K x.a x.gam (bodyOf x.s) x.np x.names (List.replicate x.nd .none) := by
 have e := h.fd
 have hi := h.is
 unfold fdIn fdAt at e
 unfold fdAt at hi
 cases q : K.lookup x.a with
 | none => rw [q] at hi; cases hi
 | some o =>
  obtain ⟨oc, od, d, osl⟩ := o
  cases d with
  | func fd =>
   have e' : fdIn K x.a = fd := by unfold fdIn fdAt; rw [q]; rfl
   have e1 := h.fd
   rw [e'] at e1
   refine .mk h.keep _ _ _ _ _ _ _ _ oc _ od osl (by rw [q]; exact congrArg (fun z => some (Obj.mk oc od (.func z) osl)) e1) (by have := h.code; rwa [e'] at this) (fun s vs hv X => ?_) fun a ha => ?_
   ·have := bindsAt_ok h.binds vs hv s X
    rw [e', e1] at this
    exact this
   ·have := h.cd
    rw [e'] at this
    rw [show x.cd = some a from ha] at this
    exact (Option.some.inj this).symm
  | _ => rw [q] at hi; cases hi
noncomputable def runF (keep : Bool) (np nl : Nat) (dXs : List V) (f : SF) : CF := fun k X => ∀ Xs, ∀ {σ r₁ st₁ r}, EvS f ⟨Xs ++ dXs ++ List.replicate nl .undef, [], .undef, σ⟩ r₁ st₁ -> Xs.length = np -> r₁.out = some r ->
 (keep = false -> r.lo σ.length = true ∧ (st₁.sto.take σ.length).all (·.lo σ.length) = true) -> FunR k X Xs σ r (bif keep then st₁.sto else st₁.sto.take σ.length)
theorem Fun.mkK {keep : Bool} {k : Nat} {Γ₁ : Gam} {body : List Stmt} {a : Addr} {np nl : Nat} {names : List Str} {dvs : List Value} {dXs : List V} {f : SF} (D : DenB true k Γ₁ body f) (FK : FnK Ω.K a Γ₁ body np names dvs)
  (hn : Γ₁.lns = names ++ Γ₁.lns.drop names.length) (hnl : names.length = np + dvs.length) (hnd : names.Nodup) (hloc : ∀ y ∈ names, Γ₁.scope.names.lookup y = some .local) (hcell : ∀ x ∈ Γ₁.scope.names, x.2 ≠ .cell) (hcn : Γ₁.cns = []) (hlnd : Γ₁.lns.Nodup)
  (hd : ∀ Z as, VVs Z as dvs dXs) (hk : Γ₁.scope.kind = .function := by rfl) (hco : Γ₁.scope.isCoroutine = false := by rfl) (hgen : Γ₁.scope.isGenerator = false := by rfl) :
  Fun k a (runF keep np nl dXs f) := fun Xs {σ r₁ st₁ r} h hlen ho h3 => .mk fun c Γ md env ok A hA l cl cv vs fv Z Y as s hfv hvs S => by
 obtain ⟨_, name, params, dV, kV, doc, pm, cdv, ct, oc, an, od, osl, ho', hcd, hb, hcdv⟩ := FK
 cases hfv
 apply St.openE S; intro g m M hp tk Si R LO CO EO S'
 have hfr : A.frames = some (c.env Γ :: c.outer) := hA.fr.trans ok.hA
 have X := (Si.inK ok.gs).keeps Si.F.keep
 have hvl : vs.length = np := hvs.length.trans hlen
 have hdl := (hd Z as).length
 have hzl : (names.zip (vs ++ dvs)).map (·.1) = names := List.map_fst_zip (by rw [List.length_append, hvl, hnl]; exact Nat.le_refl _)
 obtain ⟨g₁, F₁, hst, hsz, _, mk⟩ := enter_sit (Γ₁ := Γ₁) Si hfr ok.hk
 obtain ⟨dA, dB, dC⟩ := ArOk.deep ok hA
 refine codeAny_call_def (fd := fnX name Γ₁.qual params body Γ₁.scope [] dV kV doc pm an cdv ct) (body := body) (binds := names.zip (vs ++ dvs)) dA (X _ _ ho') rfl ((Si.top ok.gs).nolimit.keeps Si.F.keep) (codeRec_of X hcd) rfl
  (hb _ vs hvl X) hcell (fun y hy => hloc y.1 (by rw [← hzl]; exact List.mem_map_of_mem hy)) (fun h₁ hns hk₁ => ?_) hco hgen hk
 have ok₁ : Cx.Ok (c.sub Γ A Γ₁ g₁ hp.objs.size a cdv []) Γ₁ true k := ⟨Around.frames_deeper hfr, hk, fun κ => hA.hh, ok.gs, dB, dC, fun y hy => (nomatch (hcn ▸ hy : y ∈ [])), hlnd, hcdv⟩
 refine callee_end (keep := keep) (st := ⟨l, cl, cv, σ⟩) ok Si R F₁ hst LO CO EO ok₁ .refl ho h3 (EvB.run (h.den D) _ ok₁ Z Y as _ ⟨g₁, _, M, h₁, _, rfl, mk _ h₁ a cdv [] hns hk₁, R, ?_, fun j x hj => ?_, .fn⟩)
 ·intro i x X hi hX hne
  have hlx : i < (Xs ++ dXs).length := by
   refine Nat.lt_of_not_le fun q => ?_
   rw [List.getElem?_append_right q] at hX
   exact hne (List.eq_of_mem_replicate (List.mem_of_getElem? hX))
  rw [List.getElem?_append_left hlx] at hX
  rw [List.length_append] at hlx
  rw [hn, List.getElem?_append_left (by omega)] at hi
  obtain ⟨v, e1, e2⟩ := VVs.at (hvs.append (hd Z as)) hX
  exact ⟨v, lookup_rev (by rw [hzl]; exact hnd) (lookup_zip hnd hi e1), e2⟩
 ·rw [hcn] at hj; cases hj
abbrev GamOk (x : FE) : Prop := x.nm = [] ∧ (x.lns.take (x.np + x.nd)).length = x.np + x.nd ∧ (x.lns.take (x.np + x.nd)).Nodup ∧ (∀ y ∈ x.lns.take (x.np + x.nd), (scopeOf x.s).names.lookup y = some .local) ∧ (∀ y ∈ (scopeOf x.s).names, y.2 ≠ .cell) ∧ x.lns.Nodup ∧ (scopeOf x.s).kind = .function ∧ (scopeOf x.s).isCoroutine = false ∧ (scopeOf x.s).isGenerator = false
theorem gam_ok : ∀ x ∈ fe0 :: feL, x.cns = [] -> GamOk x := by decide +kernel
theorem nones {Z : Fz} {as : List Addr} : ∀ n : Nat, VVs Z as (List.replicate n .none) (List.replicate n .none)
 | 0 => .nil
 | n + 1 => .cons (.pure .none) (nones n)
theorem HC.F (H : HC) {keep : Bool} {k nl : Nat} (i : Nat) {f : SF} (D : DenB true k (gm i) (bd i) f) (hc : (fe i).cns = [] := by rfl) : Fun k (fe i).a (runF keep (fe i).np nl (List.replicate (fe i).nd .none) f) := by
 obtain ⟨h0, h1, h2, h3, h4, h5, h6, h7, h8⟩ := gam_ok (fe i) (at_mem i) hc
 have e : (fe i).names = (fe i).lns.take ((fe i).np + (fe i).nd) := by unfold FE.names; rw [h0]; rfl
 have K := (H.fn i).toK
 rw [e] at K
 exact Fun.mkK D K (by rw [h1]; exact (List.take_append_drop ..).symm) (by rw [h1, List.length_replicate]) h2 h3 h4 hc h5 (fun κ κ => nones _) h6 h7 h8
section
variable {q : Bool} {n k : Nat} {Γ : Gam} {md : Md} {pos p apos : Pos}
theorem Cx.Ok.less {c : Cx} (ok : Cx.Ok c Γ q n) {m : Nat} (h : m ≤ n) : Cx.Ok c Γ q m :=
 ⟨ok.hA, ok.hk, ok.hh, ok.gs, by have := ok.dep; omega, by have := ok.un; omega, ok.cl, ok.nd, ok.cd⟩
theorem ArOk.self {c : Cx} (ok : Cx.Ok c Γ true n) : ArOk c c.A := ⟨rfl, ok.hh rfl, by omega, by omega⟩
noncomputable def isStar : Expr -> Bool
 | .Starred _ _ => true
 | _ => false
noncomputable def unstarred (es : List Expr) : Bool := es.all fun e => !isStar e
theorem unstarred_of {e : Expr} {r : List Expr} (h : unstarred (e :: r) = true) : unstarred r = true := (Bool.and_eq_true_iff.mp h).2
theorem starEach_cons {env : Env} {e : Expr} {r : List Expr} (h : unstarred (e :: r) = true) : starEach (e :: r) env = (false, eval e env) :: starEach r env := by
 have h := (Bool.and_eq_true_iff.mp h).1
 cases e <;> first | rfl | cases h
theorem starEach_plain {env : Env} : ∀ {es : List Expr}, unstarred es = true -> starEach es env = es.map fun e => (false, eval e env)
 | [], _ => rfl
 | _ :: _, h => (starEach_cons h).trans (congrArg _ (starEach_plain (unstarred_of h)))
theorem EvL.go {fs : List EF} {st s1 : AS} {Xs : List V} (h : EvL fs st Xs s1) : ∀ {es : List Expr} {c : Cx} {env : Env} {Z : Fz} {Y : Led} {as : List Addr} {s : Shared} {Q : List Value -> Shared -> Prop} {E : Value -> Shared -> Prop}, Dens q n Γ md es fs -> unstarred es = true -> Cx.Ok c Γ q n -> St c Γ md env Z Y as st s ->
  (∀ vs Z₁ as₁ s₁, Ext Z as Z₁ as₁ -> VVs Z₁ as₁ vs Xs -> St c Γ md env Z₁ Y as₁ s1 s₁ -> Q vs s₁) -> wpAny (model prg Ω.w) c.A (spliced (backTo pos (starEach es env))) Q E s := by
 induction h with
 | nil =>
  intro es c env Z Y as s Q E D hu ok S hk
  cases D; exact args_nil (hk [] Z as s .refl .nil S)
 | cons h1 _ ih =>
  intro es c env Z Y as s Q E D hu ok S hk
  cases D with | cons d D =>
  exact args_cons (h1.go d ok S fun v Z₁ as₁ s₁ e₁ hv S₁ => ih D (unstarred_of hu) ok S₁ fun vs Z₂ as₂ s₂ e₂ hvs S₂ => hk (v :: vs) Z₂ as₂ s₂ (e₁.trans e₂) (.cons (hv.mono e₂) hvs) S₂) (starEach_cons hu)
theorem back_any {env : Env} {es : List Expr} (hu : unstarred es = true) : (backTo pos (starEach es env)).any (·.1) = false := by
 rw [starEach_plain hu]
 unfold backTo
 simp [List.any_map, Function.comp_def]
theorem evalArgs_es {M : Model} {A : Around} {E : Value -> Shared -> Prop} {s : Shared} {env : Env} {f : Value} {es : List Expr} {Q : Args -> Shared -> Prop} (hu : unstarred es = true) (h : wpAny M A (spliced (backTo pos (starEach es env))) (fun vs s' => Q ⟨vs, []⟩ s') E s) :
  wpAny M A (evalArgs f true (backTo pos (starEach es env)) []) Q E s := by
 cases es with
 | nil =>
  unfold evalArgs
  show wpAny M A (spliced [] >>= _) Q E s
  refine wpAny_bind (wpAny_mono h (fun vs s' h' => ?_) fun κ κ x => x)
  refine wpAny_holding ?_
  exact wpAny_bind (wpAny_pure (wpAny_bind (wpAny_pure (wpAny_pure h'))))
 | cons e r =>
  rw [starEach_cons hu] at h ⊢
  exact evalArgs_plain h
theorem callWith_es {P : Heap -> Prop} {A : Around} {E : Value -> Shared -> Prop} {s : Shared} {env : Env} {f : Value} {first : List Value} {es : List Expr} {Q : Value -> Shared -> Prop} (hu : unstarred es = true)
  (hk : ∀ h, P h -> ∃ k, (k = Keeper.frame ∨ k = Keeper.machine ∨ k = Keeper.boundFrame) ∧ Looks (model prg Ω.w) h (keeperOf f) k)
  (h : wpAny (model prg Ω.w) A (spliced (backTo pos (starEach es env))) (fun vs s₁ => P s₁.heap ∧ wpAny (model prg Ω.w) A (call f (first ++ vs)) Q E s₁) E s) :
  wpAny (model prg Ω.w) A (callWith pos f first (backTo pos (starEach es env)) []) Q E s :=
 callWith_of (P := P) (by rw [back_any hu]; rfl) hk (evalArgs_es hu h)
theorem St.inK {c : Cx} {env : Env} {Z : Fz} {Y : Led} {as : List Addr} {st : AS} {s : Shared} (S : St c Γ md env Z Y as st s) (ok : Cx.Ok c Γ q n) : Ω.K.In s.heap := by
 obtain ⟨g, m, M, h, tk, rfl, Si, R, LO, CO, EO⟩ := S
 exact (Si.inK ok.gs).keeps Si.F.keep
theorem call_run {F : CF} {X : V} {Xs : List V} {l : List V} {cl : List Nat} {cv : V} {σ σ' : List MO} {r : Out} (h : EvF F Xs σ r σ') (HF : F k X) {c : Cx} {env : Env} (ok : Cx.Ok c Γ true n) (hk : k < n) {fv : Value} {vs : List Value} {Z Z' : Fz} {Y : Led} {as as' : List Addr} {s : Shared} (e : Ext Z as Z' as') (hfv : VR Z' fv X) (hvs : VVs Z' as' vs Xs)
  (S : St c Γ md env Z' Y as' ⟨l, cl, cv, σ⟩ s) : wpAny (model prg Ω.w) c.A (call fv vs) (PV c Γ md env Y Z as r ⟨l, cl, cv, σ'⟩) (PE c Γ Y Z as r.ex ⟨l, cl, cv, σ'⟩) s := by
 refine wpAny_call (codeAny_mono ((h.den HF).run c Γ md env (ok.less hk) c.A (.self ok) l cl cv vs fv Z' Y as' s hfv hvs S) fun res s' hr => ?_)
 cases hr with
 | ret h => exact h.ext e
 | err h => exact h.ext e
noncomputable def EF.call (F : CF) (fs : List EF) : EF := fun q n Γ md t e => ∀ st, ∀ {Xs l cl cv σ σ' r}, EvL fs st Xs ⟨l, cl, cv, σ⟩ -> EvF F Xs σ r σ' -> Ev q n Γ md t e st r ⟨l, cl, cv, σ'⟩
theorem EvE.call {F : CF} {fs : List EF} {st : AS} {Xs : List V} {l : List V} {cl : List Nat} {cv : V} {σ σ' : List MO} {r : Out} (h1 : EvL fs st Xs ⟨l, cl, cv, σ⟩) (hF : EvF F Xs σ r σ') : EvE (.call F fs) st r ⟨l, cl, cv, σ'⟩ := ⟨@fun κ κ κ κ κ κ D => D _ h1 hF⟩
theorem Den.call {x : Str} {a : Addr} {F : CF} {es : List Expr} {fs : List EF} (Df : Den true n Γ md (.Name x p) (.val (.val (.ref a)))) (Ds : Dens true n Γ md es fs) (HF : Fun k a F) (hk : k < n) (hkeep : keepIn Ω.K (.ref a) = true) (hu : unstarred es = true) :
  Den true n Γ md (.Call (.Name x p) es [] pos) (.call F fs) := fun κ => fun h1 hF => .mk fun c env ok Z Y as s S => by
 refine Call_ (EvE.val.go Df ok S fun v Z₁ as₁ s₁ e₁ hv S₁ => ?_)
 apply VV.val_inv hv
 exact callWith_es (P := Ω.K.In) hu (keeps_K hkeep) (h1.go Ds hu ok S₁ fun vs Z₂ as₂ s₂ e₂ hvs S₂ => ⟨S₂.inK ok, call_run hF HF ok hk (e₁.trans e₂) (.val _) hvs S₂⟩)
theorem methCall {A : Around} {E : Value -> Shared -> Prop} {s : Shared} {env : Env} {o : Expr} {name : Str} {args : List Expr} {Q : Value -> Shared -> Prop} (hu : unstarred args = true) (hlen : args.length < 20) (hbase : attributeBase o name env (eval o env) = eval o env) (hline : (apos.endLine == pos.line) = true)
  (h : wpAny (model prg Ω.w) A (eval o env) (fun ov s₁ => ∀ pl, wpAny (model prg Ω.w) A (getMethod ov name pl) (fun x s₂ => wpAny (model prg Ω.w) A (callWith pos x.1 x.2 (backTo pos (starEach args env)) []) Q E s₂) E s₁) E s) :
  wpAny (model prg Ω.w) A (eval (.Call (.Attribute o name apos) args [] pos) env) Q E s := by
 rw [arm_eval_Call, hbase]
 refine wpAny_bind (wpAny_mono h (fun ov s₁ h₁ => ?_) fun κ κ e => e)
 refine wpAny_bind (wpAny_standAt ?_)
 have hform : methodCallForm (args.length + ([] : List Keyword).length) (backTo pos (starEach args env)) (backToKw pos (keywordEach [] env)) = true := by
  have h1 := back_any (pos := pos) (env := env) hu
  have h2 : (backTo pos (starEach args env)).all (!·.1) = true := by
   rw [List.all_eq_not_any_not]; simpa using h1
  have h3 : decide (args.length + ([] : List Keyword).length + (if (backToKw pos (keywordEach [] env)).isEmpty then 0 else 1) < 30) = true := by
   show decide (args.length + 0 + 0 < 30) = true
   exact decide_eq_true (by omega)
  unfold methodCallForm
  rw [h2, Bool.true_and, Bool.and_eq_true]
  exact ⟨rfl, h3⟩
 have hpos : methodCallPos true o env apos pos = pure pos := by unfold methodCallPos; simp [hline]
 unfold methodCall
 rw [hform]
 refine wpAny_bind (wpAny_holding (wpAny_mono (h₁ _) (fun x s₂ h₂ => ?_) fun κ κ e => e))
 exact wpAny_bind (wpAny_of_eq hpos h₂)
theorem getL_none {Z : Fz} {as : List Addr} {es : List DictEntry} {xs : List (Str × V)} (x : SRs Z as es xs) {name : Str} (h : ∀ y ∈ xs, y.1 ≠ name) : getL name es = some none := by
 have key : (∀ e ∈ es, e.key.isStr name = false) ∧ ∀ e ∈ es, e.refKey = false := by
  induction x with
  | nil => exact ⟨(fun κ h => nomatch h), fun κ h => nomatch h⟩
  | @cons k t hs v x es xs a b ih =>
   obtain ⟨i1, i2⟩ := ih fun y hy => h y (.tail _ hy)
   refine ⟨fun e he => ?_, fun e he => ?_⟩
   ·rcases List.mem_cons.mp he with rfl | he
    ·have := h _ (.head _)
     show (Value.str k t).isStr name = false
     simp only [Value.isStr]
     simpa using this
    ·exact i1 e he
   ·rcases List.mem_cons.mp he with rfl | he
    ·rfl
    ·exact i2 e he
 have h1 : es.find? (·.key.isStr name) = none := List.find?_eq_none.mpr fun e he => by rw [key.1 e he]; simp
 have h2 : es.any (·.refKey) = false := List.any_eq_false.mpr fun e he => by rw [key.2 e he]; simp
 unfold getL
 rw [h1, h2]; rfl
theorem inst_at {c : Cx} {g h : Heap} {m : Str -> Option Value} {M : Addr -> Option (Tag × Obj)} {Z : Fz} {Y : Led} {as : List Addr} {σ : List MO} {i : Nat} {fs : List V} {v : Value} (Si : Sit c Γ g m M h) (R : Rel M Z Y as σ) (gs : Gs c.base) (hv : VV Z as v (.inst i)) (hm : σ[i]? = some (.inst fs)) :
  ∃ x dx es nn, v = .ref x ∧ InstAt h x (instObj csc dx) csc (some (dictOf es nn)) ∧ SRs Z as es (scanNames.zip fs) ∧ es.length = fs.length ∧ M dx = some (.mut i, dictOf es nn) ∧ as[i]? = some dx := by
 apply VV.inst_inv hv; intro x dx h1 h2
 obtain ⟨a, o, e1, e2, e3⟩ := R.live i _ hm MO.noConfusion
 rw [h2] at e1; cases e1
 cases e3 with
 | eInst r l => exact ⟨x, dx, _, _, rfl, ⟨Si.at R gs h1, rfl, rfl, (Si.N _ _ _ e2).1⟩, r, l, e2, h2⟩
noncomputable def EF.meth (F : CF) (g : EF) (fs : List EF) : EF := fun q n Γ md t e => ∀ st, ∀ {s1 Xs l cl cv σ σ' r i fl}, EvE g st (.ok (.inst i)) s1 -> s1.sto[i]? = some (.inst fl) -> EvL fs s1 Xs ⟨l, cl, cv, σ⟩ -> EvF F (.inst i :: Xs) σ r σ' -> Ev q n Γ md t e st r ⟨l, cl, cv, σ'⟩
theorem EvE.meth {F : CF} {g : EF} {fs : List EF} {st s1 : AS} {Xs : List V} {l : List V} {cl : List Nat} {cv : V} {σ σ' : List MO} {r : Out} {i : Nat} {fl : List V} (h0 : EvE g st (.ok (.inst i)) s1) (hi : s1.sto[i]? = some (.inst fl)) (h1 : EvL fs s1 Xs ⟨l, cl, cv, σ⟩) (hF : EvF F (.inst i :: Xs) σ r σ') : EvE (.meth F g fs) st r ⟨l, cl, cv, σ'⟩ := ⟨@fun κ κ κ κ κ κ D => D _ h0 hi h1 hF⟩
theorem Den.methK {o : Expr} {name : Str} {a : Addr} {F : CF} {g : EF} {es : List Expr} {fs : List EF} (Dg : Den true n Γ md o g) (Ds : Dens true n Γ md es fs) (HF : Fun k a F) (hkeep : keepIn Ω.K (.ref a) = true) (hm : MethK Ω.K csc name a) (hk : k < n) (hu : unstarred es = true) (hlen : es.length < 20)
  (hn : ∀ y ∈ scanNames, y ≠ name) (hline : (apos.endLine == pos.line) = true) (hbase : ∀ env, attributeBase o name env (eval o env) = eval o env := by intro _; rfl) :
  Den true n Γ md (.Call (.Attribute o name apos) es [] pos) (.meth F g fs) := fun κ => fun h0 hi h1 hF => .mk fun c env ok Z Y as s S => by
 refine methCall hu hlen (hbase env) hline (h0.go Dg ok S fun v Z₁ as₁ s₁ e₁ hv S₁ pl => ?_)
 apply St.openE S₁; intro gg m M hp tk Si R LO CO EO S'
 obtain ⟨x, dx, ees, nn, rfl, I, sr, _, _, _⟩ := inst_at Si R ok.gs hv hi
 exact method_inst Si.F (Si.inK ok.gs) I hm.g hm.f hm.t (getL_none sr fun y hy => hn y.1 (List.of_mem_zip hy).1) (callWith_es (P := Ω.K.In) hu (keeps_K hkeep) (h1.go Ds hu ok S' fun vs Z₂ as₂ s₂ e₂ hvs S₂ => ⟨S₂.inK ok, call_run hF HF ok hk (e₁.trans e₂) (.val _) (.cons (hv.mono e₂) hvs) S₂⟩))
end
inductive Tg where
 | l (i : Nat)
 | c (j : Nat)
noncomputable abbrev Up := List (Tg × V)
noncomputable def MO.isC : MO -> Bool
 | .cell _ => true
 | .cell0 => true
 | _ => false
noncomputable def AS.put1 : AS -> Tg -> V -> Option AS
 | ⟨l, c, v, τ⟩, .l i, X => some ⟨l.set i X, c, v, τ⟩
 | ⟨l, c, v, τ⟩, .c j, X => (c[j]?).bind fun i => (τ[i]?).bind fun mo => if mo.isC = true then some ⟨l, c, v, τ.set i (.cell X)⟩ else none
noncomputable def AS.upd (st : AS) : Up -> Option AS
 | [] => some st
 | (i, X) :: r => (st.put1 i X).bind fun st₁ => AS.upd st₁ r
section
variable {q : Bool} {n k : Nat} {Γ : Gam} {pos p : Pos} {c : Cx} {Z Z' : Fz} {Y O : Led} {as as' : List Addr} {st st' s1 s2 s3 : AS} {s : Shared}
theorem Ext.add {Z : Fz} {as : List Addr} {a : Addr} {o : Obj} : Ext Z as (fun b p => Z b p ∨ (b = a ∧ p = o)) as := ⟨fun κ κ e => .inl e, [], (List.append_nil _).symm⟩
theorem store_loc {i : Nat} {x : Str} {v : Value} {X : V} (ok : Cx.Ok c Γ q n) (hi : Γ.lns[i]? = some x) (hl : Γ.scope.names.lookup x = some .local) (hv : VV Z as v X) (S : St c Γ none (c.env Γ) Z Y as st s) {Q : Unit -> Shared -> Prop} {E : Value -> Shared -> Prop} {A : Around}
  (hQ : ∀ s', St c Γ none (c.env Γ) Z Y as { st with loc := st.loc.set i X } s' -> Q () s') : wpAny (model prg Ω.w) A (storeName (c.env Γ) x v) Q E s := by
 first | (apply St.openE S; intro g m M hp tk Si R LO CO EO S') | obtain ⟨g, m, M, hp, tk, rfl, Si, R, LO, CO, EO⟩ := S
 refine wpAny_storeName_local (m := m) hl Si.F.ns (fun h' hn hs => hQ _ ⟨g, _, M, h', _, rfl, Si.set hn hs, R, ?_, CO, .fn⟩) (by show (Γ.scope.kind == .class || (Γ.scope.kind == .module && c.L != mainGlobals)) = false; rw [ok.hk]; rfl)
 intro j y U hj hU hne
 by_cases hji : i = j
 ·subst hji
  rw [hi] at hj; cases hj
  have hlt : i < st.loc.length := by
   have := (List.getElem?_eq_some_iff.mp hU).1
   simpa using this
  simp only [List.getElem?_set_self hlt] at hU
  cases hU
  exact ⟨v, by simp, hv⟩
 ·simp only [List.getElem?_set_ne hji] at hU
  obtain ⟨u, h1, h2⟩ := LO j y U hj hU hne
  refine ⟨u, ?_, h2⟩
  have : y ≠ x := fun e => by
   subst e
   have h3 := (List.getElem?_eq_some_iff.mp hi)
   have h4 := (List.getElem?_eq_some_iff.mp hj)
   obtain ⟨l3, e3⟩ := h3
   obtain ⟨l4, e4⟩ := h4
   exact hji ((List.getElem_inj ok.nd).mp (e3.trans e4.symm))
  show (if y = x then some v else m y) = some u
  rw [if_neg this]; exact h1
theorem store_cel {j i : Nat} {x : Str} {v : Value} {X : V} {mo : MO} (ok : Cx.Ok c Γ q n) (hj : Γ.cns[j]? = some x) (hl : Γ.scope.names.lookup x = some .cell) (hv : VV Z as v X) (S : St c Γ none (c.env Γ) Z Y as st s) {Q : Unit -> Shared -> Prop} {E : Value -> Shared -> Prop} {A : Around}
  (h1 : st.cl[j]? = some i) (h2 : st.sto[i]? = some mo) (h3 : mo.isC = true)
  (hQ : ∀ s', St c Γ none (c.env Γ) Z Y as { st with sto := st.sto.set i (.cell X) } s' -> Q () s') : wpAny (model prg Ω.w) A (storeName (c.env Γ) x v) Q E s := by
 first | (apply St.openE S; intro g m M hp tk Si R LO CO EO S') | obtain ⟨g, m, M, hp, tk, rfl, Si, R, LO, CO, EO⟩ := S
 obtain ⟨i', a, e1, e2, e3⟩ := CO j x hj
 rw [h1] at e1; cases e1
 obtain ⟨a', o, f1, f2, f3⟩ := R.live i _ h2 (fun e => by rw [e] at h3; cases h3)
 rw [e2] at f1; cases f1
 obtain ⟨v₀, hd⟩ : ∃ v₀, o.data = .cell v₀ := by
  cases f3 with
  | eCell d _ => exact ⟨_, d⟩
  | eCell0 d => exact ⟨_, d⟩
  | _ => cases h3
 refine wpAny_storeName_cell (v₀ := v₀) ok.hk hl e3 ⟨o, (Si.N _ _ _ f2).1, hd⟩ fun h' hv' hs => ?_
 obtain ⟨o', ho', hd'⟩ := hv'
 exact hQ _ ⟨g, m, _, h', tk, rfl, Si.chg f2 hs ho', R.chg f2 e2 (.eCell hd' hv), LO, CO, .fn⟩
inductive TgAt (Γ : Gam) : Tg -> Str -> Prop
 | l {i : Nat} {x : Str} : Γ.lns[i]? = some x -> Γ.scope.names.lookup x = some .local -> TgAt Γ (.l i) x
 | c {j : Nat} {x : Str} : Γ.cns[j]? = some x -> Γ.scope.names.lookup x = some .cell -> TgAt Γ (.c j) x
theorem obind {α β : Type} {o : Option α} {f : α -> Option β} {y : β} {C : Prop} (h : o.bind f = some y) (k : ∀ a, o = some a -> f a = some y -> C) : C := by
 cases o with
 | none => cases h
 | some a => exact k a rfl h
theorem oif {β : Type} {b : Prop} [Decidable b] {o : Option β} {y : β} {C : Prop} (h : (if b then o else none) = some y) (k : b -> o = some y -> C) : C := by
 by_cases q : b
 ·rw [if_pos q] at h; exact k q h
 ·rw [if_neg q] at h; cases h
theorem store_tg {t : Tg} {x : Str} {v : Value} {X : V} (ok : Cx.Ok c Γ q n) (ht : TgAt Γ t x) (hv : VV Z as v X) (S : St c Γ none (c.env Γ) Z Y as st s) {Q : Unit -> Shared -> Prop} {E : Value -> Shared -> Prop} {A : Around} (hp : st.put1 t X = some st')
  (hQ : ∀ s', St c Γ none (c.env Γ) Z Y as st' s' -> Q () s') : wpAny (model prg Ω.w) A (storeName (c.env Γ) x v) Q E s := by
 cases st; cases ht with
 | l hi hl => cases hp; exact store_loc ok hi hl hv S hQ
 | c hj hl => exact obind hp fun i h1 hp => obind hp fun mo h2 hp => oif hp fun h3 hp => by cases hp; exact store_cel ok hj hl hv S h1 h2 h3 hQ
noncomputable def SF.nop : SF := fun q n Γ b => ∀ st, EvB q n Γ b st .next st
noncomputable def SF.seq (f g : SF) : SF := fun q n Γ b => (∀ {st s1 s2 r}, EvS f st .next s1 -> EvS g s1 r s2 -> EvB q n Γ b st r s2) ∧ ∀ {st s1 r}, EvS f st r s1 -> r ≠ .next -> EvB q n Γ b st r s1
noncomputable def SF.of (f : EF) (k : V -> AS -> Fl -> AS -> Prop) : SF := fun q n Γ b => (∀ {st s1 s2 X r}, EvE f st (.ok X) s1 -> k X s1 r s2 -> EvB q n Γ b st r s2) ∧ ∀ {st s1 C X}, EvE f st (.exn C X) s1 -> EvB q n Γ b st (.exn C X) s1
inductive SetL (i : Nat) (X : V) : AS -> Fl -> AS -> Prop
 | mk {l c v τ} : SetL i X ⟨l, c, v, τ⟩ .next ⟨l.set i X, c, v, τ⟩
inductive SetC (j : Nat) (X : V) : AS -> Fl -> AS -> Prop
 | mk {l c v τ} {i : Nat} {mo : MO} : c[j]? = some i -> τ[i]? = some mo -> mo.isC = true -> SetC j X ⟨l, c, v, τ⟩ .next ⟨l, c, v, τ.set i (.cell X)⟩
inductive RetK (X : V) (st : AS) : Fl -> AS -> Prop
 | mk : RetK X st (.ret X) st
inductive RetG : V -> AS -> Fl -> AS -> Prop
 | val {X : V} {st : AS} : (∀ i, X ≠ .ref i) -> RetG X st (.ret X) st
 | gi {i : Nat} {l c v τ} {xs : List Int} : τ[i]? = some (.ints xs) -> RetG (.ref i) ⟨l, c, v, τ⟩ (.ret (.ints xs)) ⟨l, c, v, τ.set i .gone⟩
 | gl {i : Nat} {l c v τ} {xs : List V} : τ[i]? = some (.list xs) -> RetG (.ref i) ⟨l, c, v, τ⟩ (.ret (.lst xs)) ⟨l, c, v, τ.set i .gone⟩
inductive ExpK (X : V) (st : AS) : Fl -> AS -> Prop
 | mk : ExpK X st .next st
noncomputable abbrev SF.setL (i : Nat) (f : EF) : SF := .of f (SetL i)
noncomputable abbrev SF.setC (j : Nat) (f : EF) : SF := .of f (SetC j)
noncomputable abbrev SF.retK (f : EF) : SF := .of f RetK
noncomputable abbrev SF.ret (f : EF) : SF := .of f RetG
noncomputable abbrev SF.exp (f : EF) : SF := .of f ExpK
noncomputable def SF.ret0 : SF := fun q n Γ b => ∀ st, EvB q n Γ b st (.ret .none) st
noncomputable def SF.brk : SF := fun q n Γ b => ∀ st, EvB q n Γ b st .brk st
noncomputable def SF.ite (t : EF) (a b : SF) : SF := fun q n Γ x => ∀ st, ∀ {s1 s2 r bb}, EvE t st (.ok (.bool bb)) s1 -> EvS (bif bb then a else b) s1 r s2 -> EvB q n Γ x st r s2
noncomputable def Fl.outs : Fl -> Option Fl
 | .brk => some .next
 | .ret X => some (.ret X)
 | .exn C t => some (.exn C t)
 | _ => none
inductive EvW (t : EF) (b : SF) : Nat -> AS -> Fl -> AS -> Prop
 | wh0 {k : Nat} {st s1 : AS} : EvE t st (.ok (.bool false)) s1 -> EvW t b (k + 1) st .next s1
 | wh1 {k : Nat} {st s1 s2 s3 : AS} {r : Fl} : EvE t st (.ok (.bool true)) s1 -> EvS b s1 .next s2 -> EvW t b k s2 r s3 -> EvW t b (k + 1) st r s3
 | out {k : Nat} {st s1 s2 : AS} {r₃ r : Fl} : EvE t st (.ok (.bool true)) s1 -> EvS b s1 r₃ s2 -> r₃.outs = some r -> EvW t b (k + 1) st r s2
noncomputable def SF.wh (t : EF) (b : SF) : SF := fun q n Γ x => ∀ k, ∀ {st r s'}, EvW t b k st r s' -> EvB q n Γ x st r s'
inductive EvFor (b : SF) : List Up -> AS -> Fl -> AS -> Prop
 | for0 {st : AS} : EvFor b [] st .next st
 | for1 {u : Up} {us : List Up} {st s1 s2 s3 : AS} {r : Fl} : st.upd u = some s1 -> EvS b s1 .next s2 -> EvFor b us s2 r s3 -> EvFor b (u :: us) st r s3
 | out {u : Up} {us : List Up} {st s1 s2 : AS} {r₃ r : Fl} : st.upd u = some s1 -> EvS b s1 r₃ s2 -> r₃.outs = some r -> EvFor b (u :: us) st r s2
variable {f g : EF} {a b : SF} {r : Fl} {X : V} {l : List V} {cl : List Nat} {v : V} {τ : List MO} {i j : Nat} {C : Addr}
theorem EvS.nop : EvS .nop st .next st := ⟨@fun κ κ κ κ D => D _⟩
theorem EvS.seq (h1 : EvS a st .next s1) (h2 : EvS b s1 r s2) : EvS (.seq a b) st r s2 := ⟨@fun κ κ κ κ D => D.1 h1 h2⟩
noncomputable def Fl.isNext : Fl -> Bool
 | .next => true
 | _ => false
theorem EvS.seqX (h1 : EvS a st r s1) (hr : r.isNext = false := by rfl) : EvS (.seq a b) st r s1 := ⟨@fun κ κ κ κ D => D.2 h1 fun e => by rw [e] at hr; cases hr⟩
theorem EvS.one (h1 : EvS a st r s1) : EvS (.seq a .nop) st r s1 := by
 cases r <;> first | exact .seq h1 .nop | exact .seqX h1
theorem EvS.of {k : V -> AS -> Fl -> AS -> Prop} (h1 : EvE f st (.ok X) s1) (h2 : k X s1 r s2) : EvS (.of f k) st r s2 := ⟨@fun κ κ κ κ D => D.1 h1 h2⟩
theorem EvS.ofX {k : V -> AS -> Fl -> AS -> Prop} (h1 : EvE f st (.exn C X) s1) : EvS (.of f k) st (.exn C X) s1 := ⟨@fun κ κ κ κ D => D.2 h1⟩
theorem EvS.setL (h : EvE f st (.ok X) ⟨l, cl, v, τ⟩) : EvS (.setL i f) st .next ⟨l.set i X, cl, v, τ⟩ := .of h .mk
theorem EvS.setC {mo : MO} (h : EvE f st (.ok X) ⟨l, cl, v, τ⟩) (h1 : cl[j]? = some i) (h2 : τ[i]? = some mo) (h3 : mo.isC = true := by rfl) : EvS (.setC j f) st .next ⟨l, cl, v, τ.set i (.cell X)⟩ := .of h (.mk h1 h2 h3)
theorem EvS.retK (h : EvE f st (.ok X) s1) : EvS (.retK f) st (.ret X) s1 := .of h .mk
theorem EvS.ret {xs : List Int} (h : EvE f st (.ok (.ref i)) ⟨l, cl, v, τ⟩) (hi : τ[i]? = some (.ints xs)) : EvS (.ret f) st (.ret (.ints xs)) ⟨l, cl, v, τ.set i .gone⟩ := .of h (.gi hi)
theorem EvS.retL {xs : List V} (h : EvE f st (.ok (.ref i)) ⟨l, cl, v, τ⟩) (hi : τ[i]? = some (.list xs)) : EvS (.ret f) st (.ret (.lst xs)) ⟨l, cl, v, τ.set i .gone⟩ := .of h (.gl hi)
theorem EvS.exp (h : EvE f st (.ok X) s1) : EvS (.exp f) st .next s1 := .of h .mk
theorem EvS.ret0 : EvS .ret0 st (.ret .none) st := ⟨@fun κ κ κ κ D => D _⟩
theorem EvS.brk : EvS .brk st .brk st := ⟨@fun κ κ κ κ D => D _⟩
theorem EvS.iteT (h1 : EvE f st (.ok (.bool true)) s1) (h2 : EvS a s1 r s2) : EvS (.ite f a b) st r s2 := ⟨@fun κ κ κ κ D => D _ h1 h2⟩
theorem EvS.iteF (h1 : EvE f st (.ok (.bool false)) s1) (h2 : EvS b s1 r s2) : EvS (.ite f a b) st r s2 := ⟨@fun κ κ κ κ D => D _ h1 h2⟩
theorem EvW.whB {k : Nat} (h : EvE f st (.ok (.bool true)) s1) (hb : EvS a s1 .brk s2) : EvW f a (k + 1) st .next s2 := .out h hb rfl
theorem EvW.whX {k : Nat} (h : EvE f st (.ok (.bool true)) s1) (hb : EvS a s1 (.exn C X) s2) : EvW f a (k + 1) st (.exn C X) s2 := .out h hb rfl
theorem EvW.whR {k : Nat} (h : EvE f st (.ok (.bool true)) s1) (hb : EvS a s1 (.ret X) s2) : EvW f a (k + 1) st (.ret X) s2 := .out h hb rfl
theorem EvS.wh {k : Nat} (h : EvW f a k st r s1) : EvS (.wh f a) st r s1 := ⟨@fun κ κ κ κ D => D _ h⟩
theorem EvFor.forX {u : Up} {us : List Up} {r : Fl} (hu : st.upd u = some s1) (hb : EvS a s1 r s2) (hr : r.outs = some r := by rfl) : EvFor a (u :: us) st r s2 := .out hu hb hr
variable {e : Expr} {t : Stmt} {ts ts' : List Stmt} {x : Str}
theorem DenB.nil : DenB q n Γ [] .nop := fun κ => .mk fun c ok Z Y as s S => wpAny_execs_nil (env := c.env Γ) ⟨Z, as, .refl, S, .next⟩
theorem DenB.cons (D : DenS q n Γ t a) (D' : DenB q n Γ ts b) : DenB q n Γ (t :: ts) (.seq a b) :=
 ⟨fun h1 h2 => .mk fun c ok Z Y as s S => wpAny_execs_cons (wpAny_mono (EvB.run (h1.den D) c ok Z Y as s S) (fun fl s₁ hs => by
   obtain ⟨Z₁, as₁, e₁, S₁, hm⟩ := hs
   cases hm
   exact h2.run D' ok e₁ S₁) fun κ κ x => x.no),
  fun {κ κ r} h1 hr => .mk fun c ok Z Y as s S => wpAny_execs_cons (wpAny_mono (EvB.run (h1.den D) c ok Z Y as s S) (fun fl s₁ hs => by
   obtain ⟨Z₁, as₁, e₁, S₁, hm⟩ := hs
   cases hm with
   | next => exact absurd rfl hr
   | ret x => exact ⟨Z₁, as₁, e₁, S₁, .ret x⟩
   | brk => exact ⟨Z₁, as₁, e₁, S₁, .brk⟩
   | cont => exact ⟨Z₁, as₁, e₁, S₁, .cont⟩) fun κ κ x => x)⟩
theorem DenS.fail : DenS q n Γ t .fail := trivial
theorem DenS.setL (D : Den q n Γ none e f) (hi : Γ.lns[i]? = some x) (hl : Γ.scope.names.lookup x = some .local) (hs : ∀ env, swapsWith e (some (.Name x p)) pos.line env = pure false := by intro _; rfl) : DenS q n Γ (.Assign [.Name x p] e pos) (.setL i f) :=
 ⟨fun h k => .mk fun c ok Z Y as s S => wpAny_Assign_Name (h.go D ok S fun v Z₁ as₁ s₁ e₁ hv S₁ => by cases k; exact store_loc ok hi hl hv S₁ fun s' S' => ⟨Z₁, as₁, e₁, S', .next⟩) (hs _), fun h => .mk fun c ok Z Y as s S => wpAny_Assign_Name (h.goX D ok S) (hs _)⟩
theorem DenS.setC (D : Den q n Γ none e f) (hj : Γ.cns[j]? = some x) (hl : Γ.scope.names.lookup x = some .cell) (hs : ∀ env, swapsWith e (some (.Name x p)) pos.line env = pure false := by intro _; rfl) : DenS q n Γ (.Assign [.Name x p] e pos) (.setC j f) :=
 ⟨fun h k => .mk fun c ok Z Y as s S => wpAny_Assign_Name (h.go D ok S fun v Z₁ as₁ s₁ e₁ hv S₁ => by cases k with | mk h1 h2 h3 => exact store_cel ok hj hl hv S₁ h1 h2 h3 fun s' S' => ⟨Z₁, as₁, e₁, S', .next⟩) (hs _), fun h => .mk fun c ok Z Y as s S => wpAny_Assign_Name (h.goX D ok S) (hs _)⟩
theorem DenS.retK (D : Den q n Γ none e f) : DenS q n Γ (.Return (some e) pos) (.retK f) :=
 ⟨fun h k => .mk fun c ok Z Y as s S => wpAny_Return_some (h.go D ok S fun v Z₁ as₁ s₁ e₁ hv S₁ => by cases k; exact ⟨Z₁, as₁, e₁, S₁, .ret hv⟩), fun h => .mk fun c ok Z Y as s S => wpAny_Return_some (h.goX D ok S)⟩
theorem DenS.ret0 : DenS q n Γ (.Return none pos) .ret0 := fun κ => .mk fun c ok Z Y as s S => wpAny_Return_none (env := c.env Γ) ⟨Z, as, .refl, S, .ret (.pure .none)⟩
theorem ref_at {c : Cx} {g h : Heap} {m : Str -> Option Value} {M : Addr -> Option (Tag × Obj)} {Z : Fz} {Y : Led} {as : List Addr} {σ : List MO} {i : Nat} {v : Value} {mo : MO} (Si : Sit c Γ g m M h) (R : Rel M Z Y as σ) (hv : VV Z as v (.ref i)) (hm : σ[i]? = some mo) (hne : mo ≠ .gone) :
  ∃ a o, v = .ref a ∧ h.get? a = some o ∧ M a = some (.mut i, o) ∧ ER Z as mo o ∧ as[i]? = some a := by
 apply VV.ref_inv hv; intro b h2
 obtain ⟨a, o, e1, e2, e3⟩ := R.live i _ hm hne
 rw [h2] at e1; cases e1
 exact ⟨_, o, rfl, (Si.N _ _ _ e2).1, e2, e3, h2⟩
theorem DenS.ret (D : Den q n Γ none e f) : DenS q n Γ (.Return (some e) pos) (.ret f) :=
 ⟨fun h k => .mk fun c ok Z Y as s S => wpAny_Return_some (h.go D ok S fun v Z₁ as₁ s₁ e₁ hv S₁ => by
  cases k with
  | val _ => exact ⟨Z₁, as₁, e₁, S₁, .ret hv⟩
  | gi hm =>
   apply St.openE S₁; intro g m M hp tk Si R LO CO EO S'
   obtain ⟨a, o, rfl, _, hM, he, ha⟩ := ref_at Si R hv hm MO.noConfusion
   cases he with | eInts hi =>
   exact ⟨_, as₁, e₁.trans Ext.add, ⟨g, m, _, hp, tk, rfl, Si.tag hM, R.freeze hM, LO.mono Ext.add, CO, .fn⟩, .ret (.pure (.ints (.inl (.inr ⟨rfl, rfl⟩)) hi))⟩
  | gl hm =>
   apply St.openE S₁; intro g m M hp tk Si R LO CO EO S'
   obtain ⟨a, o, rfl, _, hM, he, ha⟩ := ref_at Si R hv hm MO.noConfusion
   cases he with | eList hi =>
   exact ⟨_, as₁, e₁.trans Ext.add, ⟨g, m, _, hp, tk, rfl, Si.tag hM, R.freeze hM, LO.mono Ext.add, CO, .fn⟩, .ret (.pure (.lst (.inl (.inr ⟨rfl, rfl⟩)) (hi.mono fun κ κ e => .inl e)))⟩), fun h => .mk fun c ok Z Y as s S => wpAny_Return_some (h.goX D ok S)⟩
theorem DenS.brk : DenS q n Γ (.Break pos) .brk := fun κ => .mk fun c ok Z Y as s S => wpAny_Break (env := c.env Γ) ⟨Z, as, .refl, S, .brk⟩
theorem inter {c : Cx} (ok : Cx.Ok c Γ q n) : interactive (c.env Γ) = false := by unfold interactive; rw [ok.hk]; rfl
theorem DenS.exp (D : Den q n Γ none e f) (hs : ∀ env, swapsWith e none pos.line env = pure false := by intro _; rfl) : DenS q n Γ (.Expr e pos) (.exp f) :=
 ⟨fun h k => .mk fun c ok Z Y as s S => wpAny_Expr_any (h.go D ok S fun v Z₁ as₁ s₁ e₁ hv S₁ => by cases k; exact ⟨Z₁, as₁, e₁, S₁, .next⟩) (inter ok) (hs _), fun h => .mk fun c ok Z Y as s S => wpAny_Expr_any (h.goX D ok S) (inter ok) (hs _)⟩
theorem DenS.ite (D : DenT q n Γ none e f) (Da : DenB q n Γ ts a) (Db : DenB q n Γ ts' b) : DenS q n Γ (.If e ts ts' pos) (.ite f a b) := fun κ {κ κ κ bb} h1 h2 => .mk fun c ok Z Y as s S =>
 wpAny_If (h1.goT D ok S fun Z₁ as₁ s₁ e₁ S₁ => by cases bb <;> first | exact h2.run Da ok e₁ S₁ | exact h2.run Db ok e₁ S₁)
end
section
variable {q : Bool} {n k : Nat} {Γ : Gam} {pos p : Pos} {c : Cx} {Z Z₀ : Fz} {Y O : Led} {as as₀ : List Addr} {st st' s1 s2 s3 : AS} {s : Shared} {x : Option (Addr × V)} {e : Value}
inductive PL (c : Cx) (Γ : Gam) (Y : Led) (Z : Fz) (as : List Addr) (x : Option (Addr × V)) (st : AS) (e : Value) (s : Shared) : Prop
 | mk (C : Addr) (t : V) (Z' : Fz) (as' : List Addr) (Yx : Led) (a : Addr) : x = some (C, t) -> Ext Z as Z' as' -> e = .ref a -> ExAt c C t a Z' Yx -> TrAt c a Yx (rawInt c.L) -> (∀ p ∈ Yx, ∀ p' ∈ Y, p.1 ≠ p'.1) -> St c Γ none (c.env Γ) Z' (Yx ++ Y) as' st s -> PL c Γ Y Z as x st e s
inductive LR (c : Cx) (Γ : Gam) (Y : Led) (Z : Fz) (as : List Addr) (r : Fl) (st' : AS) : Result -> Shared -> Prop
 | ok {f : Flow} {s : Shared} : PS c Γ Y Z as r st' f s -> LR c Γ Y Z as r st' (.ok f) s
 | err {e : Value} {s : Shared} : PL c Γ Y Z as r.ex st' e s -> LR c Γ Y Z as r st' (.error e) s
theorem St.sub {Y' : Led} (S : St c Γ none (c.env Γ) Z Y as st s) (h : ∀ p ∈ Y', p ∈ Y) : St c Γ none (c.env Γ) Z Y' as st s := by
 obtain ⟨g, m, M, hp, tk, rfl, Si, R, LO, CO, EO⟩ := S
 exact ⟨g, m, M, hp, tk, rfl, Si, R.sub h, LO, CO, .fn⟩
theorem PE.toL (ok : Cx.Ok c Γ q n) {E : Value -> Shared -> Prop} (e₀ : Ext Z₀ as₀ Z as) (h : PE c Γ (O ++ Y) Z as x st e s) (hE : ∀ e s', PL c Γ Y Z₀ as₀ x st e s' -> E e s') : notedBy (model prg Ω.w) c.A (c.env Γ) E e s := by
 obtain ⟨C, t, Z', as', Yx, a, h1, h2, rfl, X, sep, S⟩ := h
 refine note_ex ok ok.hA X sep S fun s' Yx' X' T' sep' S' => hE _ _ ⟨C, t, Z', as', Yx', a, h1, e₀.trans h2, rfl, X', T', (fun p hp p' hp' => sep' p hp p' (List.mem_append_right _ hp')), S'.sub fun p hp => ?_⟩
 rcases List.mem_append.mp hp with hp | hp
 ·exact List.mem_append_left _ hp
 ·exact List.mem_append_right _ (List.mem_append_right _ hp)
theorem PL.back (ok : Cx.Ok c Γ q n) (h : PL c Γ Y Z as x st e s) : cameBackBy (model prg Ω.w) c.A (c.env Γ) (PE c Γ Y Z as x st) e s := by
 obtain ⟨C, t, Z', as', Yx, a, h1, h2, rfl, X, T, sep, S⟩ := h
 have T' := T
 obtain ⟨oe, vs, T, oT, ts, y1, y2, y3, y4, y5, y6, y7⟩ := T
 have S' := S
 obtain ⟨g, m, M, hp, tk, rfl, Si, R, LO, CO, EO⟩ := S
 unfold cameBackBy
 refine wpAny_bind (wpAny_field (Si.N _ _ _ (R.y _ (List.mem_append_left Y y1))).1 y2 y3 ?_)
 rw [if_neg (show ¬ ((Value.ref T == Value.none) = true) from by simp)]
 exact flight_ex X T' sep S' rfl (.inr rfl) fun s' Yx' X' T'' sep' S'' => ⟨C, t, Z', as', Yx', a, h1, h2, rfl, X', sep', S''⟩
theorem LR.elim {r : Fl} {res : Result} {C : Result -> Prop} (ok : Cx.Ok c Γ q n) (e₁ : Ext Z₀ as₀ Z as) (h : LR c Γ Y Z as r st res s) (k1 : ∀ f, PS c Γ Y Z₀ as₀ r st f s -> C (.ok f)) (k2 : ∀ e, cameBackBy (model prg Ω.w) c.A (c.env Γ) (PE c Γ Y Z₀ as₀ r.ex st) e s -> C (.error e)) : C res := by
 cases h with
 | ok h => exact k1 _ (h.ext e₁)
 | err h => exact k2 _ (wpAny_mono (h.back ok) (fun κ κ x => x.ext e₁) fun κ κ x => x.ext e₁)
theorem body_step {ts : List Stmt} {b : SF} {r₃ r : Fl} {Z₂ : Fz} {as₂ : List Addr} (hb : EvS b s2 r₃ s3) (Db : DenB q n Γ ts b) (ok : Cx.Ok c Γ q n) (e₂ : Ext Z as Z₂ as₂) (S : St c Γ none (c.env Γ) Z₂ (O ++ Y) as₂ s2 s) {J : Shared -> Prop}
  (h : (r₃ = .next ∧ ∀ Z₃ as₃ s', Ext Z as Z₃ as₃ -> St c Γ none (c.env Γ) Z₃ (O ++ Y) as₃ s3 s' -> J s') ∨ (r₃.outs = some r ∧ s3 = st')) :
  wpAny (model prg Ω.w) c.A (execs ts (c.env Γ)) (fun f s' => match f with | .next | .cont => J s' | .brk => LR c Γ Y Z as r st' (.ok .next) s' | .ret v => LR c Γ Y Z as r st' (.ok (.ret v)) s') (notedBy (model prg Ω.w) c.A (c.env Γ) fun e s' => LR c Γ Y Z as r st' (.error e) s') s := by
 refine wpAny_mono (EvB.run (hb.den Db) c ok Z₂ (O ++ Y) as₂ s S) (fun fl s' hs => ?_) fun e s' he => ?_
 ·obtain ⟨Z₃, as₃, e₃, S₃, hm⟩ := hs
  rcases h with ⟨rfl, h⟩ | ⟨h, rfl⟩
  ·cases hm; exact h Z₃ as₃ s' (e₂.trans e₃) S₃
  ·have out := S₃.sub (Y' := Y) fun p hp => List.mem_append_right _ hp
   cases hm with
   | brk => cases h; exact .ok ⟨Z₃, as₃, e₂.trans e₃, out, .next⟩
   | ret hv => cases h; exact .ok ⟨Z₃, as₃, e₂.trans e₃, out, .ret hv⟩
   | _ => cases h
 ·rcases h with ⟨rfl, _⟩ | ⟨h, rfl⟩
  ·exact he.no
  ·refine PE.toL ok e₂ he fun e s' x => .err ?_
   cases r₃ with
   | exn C t => cases h; exact x
   | _ => obtain ⟨_, _, _, _, _, _, h1, _⟩ := x; cases h1
theorem DenS.wh {t : Expr} {b : List Stmt} {ft : EF} {fb : SF} (D : DenT q n Γ none t ft) (Db : DenB q n Γ b fb) : DenS q n Γ (.While t b [] pos) (.wh ft fb) := fun k {st r st'} h => .mk fun c ok Z Y as s S => by
 refine wpAny_While (codeAny_mono (codeAny_whileLoop (R := LR c Γ Y Z as r st')
  (fun k s₁ => ∃ st₁ Z₁ as₁, Ext Z as Z₁ as₁ ∧ St c Γ none (c.env Γ) Z₁ Y as₁ st₁ s₁ ∧ EvW ft fb k st₁ r st') (fun k s₁ I => ?_) k ⟨st, Z, as, .refl, S, h⟩) fun res s' hr => by apply hr.elim ok .refl <;> exact fun κ x => x)
 obtain ⟨st₁, Z₁, as₁, e₁, S₁, h₁⟩ := I
 cases h₁ with
 | wh0 ht => exact ht.goT D ok S₁ fun Z₂ as₂ s₂ e₂ S₂ => wpAny_execs_nil (env := c.env Γ) (.ok ⟨Z₂, as₂, e₁.trans e₂, S₂, .next⟩)
 | wh1 ht hb hr => exact ht.goT D ok S₁ fun Z₂ as₂ s₂ e₂ S₂ => body_step (O := []) hb Db ok (e₁.trans e₂) S₂ (.inl ⟨rfl, fun Z₃ as₃ s₃ e₃ S₃ => ⟨_, Nat.lt_succ_self _, _, Z₃, as₃, e₃, S₃, hr⟩⟩)
 | out ht hb ho => exact ht.goT D ok S₁ fun Z₂ as₂ s₂ e₂ S₂ => body_step (O := []) hb Db ok (e₁.trans e₂) S₂ (.inr ⟨ho, rfl⟩)
structure Turning (c : Cx) (Γ : Gam) (tgt : Expr) (it : Value) (ups : List Up) (own : Nat -> Led -> Prop) (Y : Led) (Z₀ : Fz) (as₀ : List Addr) : Prop where
 item : ∀ j u, ups[j]? = some u -> ∀ O st st₁ Z as s, own j O -> Ext Z₀ as₀ Z as -> St c Γ none (c.env Γ) Z (O ++ Y) as st s -> st.upd u = some st₁ -> ∀ (E : Value -> Shared -> Prop) (Q : Unit -> Shared -> Prop),
  (∀ O' Z' as' s', own (j + 1) O' -> Ext Z as Z' as' -> St c Γ none (c.env Γ) Z' (O' ++ Y) as' st₁ s' -> Q () s') ->
  wpAny (model prg Ω.w) c.A (pyNext it) (fun r s₁ => ∃ v, r = some v ∧ wpAny (model prg Ω.w) c.A (letOwnedTupleGo tgt it v) (fun κ s₁' => wpAny (model prg Ω.w) c.A (assign tgt (c.env Γ) v) Q E s₁') E s₁) E s
 done : ∀ O st Z as s, own ups.length O -> Ext Z₀ as₀ Z as -> St c Γ none (c.env Γ) Z (O ++ Y) as st s -> ∀ (E : Value -> Shared -> Prop),
  wpAny (model prg Ω.w) c.A (pyNext it) (fun r s₁ => r = none ∧ ∃ Z' as', Ext Z as Z' as' ∧ St c Γ none (c.env Γ) Z' Y as' st s₁) E s
theorem drop_cons {α : Type} {l r : List α} {u : α} {j : Nat} (h : l.drop j = u :: r) : l[j]? = some u ∧ l.drop (j + 1) = r ∧ j < l.length := by
 have h1 : j < l.length := Nat.lt_of_not_le fun q => by rw [List.drop_of_length_le q] at h; cases h
 rw [List.drop_eq_getElem_cons h1] at h
 cases h
 exact ⟨List.getElem?_eq_getElem h1, rfl, h1⟩
inductive ForI (c : Cx) (Γ : Gam) (fb : SF) (ups : List Up) (own : Nat -> Led -> Prop) (Y : Led) (Z₀ : Fz) (as₀ : List Addr) (r : Fl) (st' : AS) (k : Nat) (s : Shared) : Prop
 | mk (j : Nat) (O : Led) (st₁ : AS) (Z₁ : Fz) (as₁ : List Addr) (us : List Up) : ups.drop j = us -> j ≤ ups.length -> k = ups.length - j -> own j O -> Ext Z₀ as₀ Z₁ as₁ -> St c Γ none (c.env Γ) Z₁ (O ++ Y) as₁ st₁ s -> EvFor fb us st₁ r st' -> ForI c Γ fb ups own Y Z₀ as₀ r st' k s
theorem for_run {tgt : Expr} {b : List Stmt} {fb : SF} {it : Value} {ups : List Up} {own : Nat -> Led -> Prop} (ok : Cx.Ok c Γ q n) (Db : DenB q n Γ b fb) (T : Turning c Γ tgt it ups own Y Z₀ as₀) {r : Fl} (h : EvFor fb ups st r st') (ho : own 0 O) (S : St c Γ none (c.env Γ) Z₀ (O ++ Y) as₀ st s) :
  codeAny (model prg Ω.w) c.A (.forLoop tgt it b [] (c.env Γ)) (LR c Γ Y Z₀ as₀ r st') s := by
 refine codeAny_forLoop_any (ForI c Γ fb ups own Y Z₀ as₀ r st') (fun k s₁ I => ?_) ups.length ⟨0, O, st, Z₀, as₀, _, rfl, Nat.zero_le _, rfl, ho, .refl, S, h⟩
 obtain ⟨j, O, st₁, Z₁, as₁, us, hu, hj, rfl, ho, e₁, S₁, h₁⟩ := I
 have step : ∀ {u us' st₂ r₃ st₃}, us = u :: us' -> st₁.upd u = some st₂ -> EvS fb st₂ r₃ st₃ -> (r₃ = .next ∧ EvFor fb us' st₃ r st') ∨ (r₃.outs = some r ∧ st₃ = st') -> wpAny (model prg Ω.w) c.A (pyNext it) (fun r_1 s₁ => match r_1 with
   | none => wpAny (model prg Ω.w) c.A (execs [] (c.env Γ)) (fun f s₃ => LR c Γ Y Z₀ as₀ r st' (.ok f) s₃) (notedBy (model prg Ω.w) c.A (c.env Γ) fun e s' => LR c Γ Y Z₀ as₀ r st' (.error e) s') s₁
   | some v => wpAny (model prg Ω.w) c.A (letOwnedTupleGo tgt it v) (fun κ s₁' => wpAny (model prg Ω.w) c.A (assign tgt (c.env Γ) v) (fun κ s₂ => wpAny (model prg Ω.w) c.A (execs b (c.env Γ)) (fun f s₃ => match f with
      | .next | .cont => ∃ m, m < ups.length - j ∧ ForI c Γ fb ups own Y Z₀ as₀ r st' m s₃
      | .brk => LR c Γ Y Z₀ as₀ r st' (.ok .next) s₃
      | .ret v => LR c Γ Y Z₀ as₀ r st' (.ok (.ret v)) s₃) (notedBy (model prg Ω.w) c.A (c.env Γ) fun e s' => LR c Γ Y Z₀ as₀ r st' (.error e) s') s₂) (notedBy (model prg Ω.w) c.A (c.env Γ) fun e s' => LR c Γ Y Z₀ as₀ r st' (.error e) s') s₁') (notedBy (model prg Ω.w) c.A (c.env Γ) fun e s' => LR c Γ Y Z₀ as₀ r st' (.error e) s') s₁) (notedBy (model prg Ω.w) c.A (c.env Γ) fun e s' => LR c Γ Y Z₀ as₀ r st' (.error e) s') s₁ := by
  intro u us' st₂ r₃ st₃ hus hup hb hn
  obtain ⟨g1, g2, g3⟩ := drop_cons (hu.trans hus)
  refine wpAny_mono (T.item j u g1 O st₁ st₂ Z₁ as₁ s₁ ho e₁ S₁ hup _ _ ?_) (fun r s₂ hr => by obtain ⟨v, rfl, hv⟩ := hr; exact hv) fun κ κ x => x
  intro O₂ Z₂ as₂ s₂ ho₂ e₂ S₂
  exact body_step hb Db ok (e₁.trans e₂) S₂ (hn.imp (fun h => ⟨h.1, fun Z₃ as₃ s₃ e₃ S₃ => ⟨ups.length - (j + 1), by omega, j + 1, O₂, _, Z₃, as₃, us', g2, g3, rfl, ho₂, e₃, S₃, h.2⟩⟩) id)
 cases h₁ with
 | for0 =>
  obtain rfl : j = ups.length := Nat.le_antisymm hj (List.drop_eq_nil_iff.mp hu)
  refine wpAny_mono (T.done O _ Z₁ as₁ s₁ ho e₁ S₁ _) (fun r s₂ hr => ?_) fun κ κ x => x
  obtain ⟨rfl, Z₂, as₂, e₂, S₂⟩ := hr
  exact wpAny_execs_nil (env := c.env Γ) (.ok ⟨Z₂, as₂, e₁.trans e₂, S₂, .next⟩)
 | for1 hup hb hr => exact step rfl hup hb (.inl ⟨rfl, hr⟩)
 | out hup hb ho' => exact step rfl hup hb (.inr ⟨ho', rfl⟩)
inductive ItOk (c : Cx) (Γ : Gam) (tgt : Expr) (ups : List Up) (Y : Led) (Z : Fz) (as : List Addr) (st' : AS) (it : Value) (s : Shared) : Prop
 | mk (own : Nat -> Led -> Prop) (O : Led) (Z' : Fz) (as' : List Addr) : Ext Z as Z' as' -> Turning c Γ tgt it ups own Y Z' as' -> own 0 O -> St c Γ none (c.env Γ) Z' (O ++ Y) as' st' s -> ItOk c Γ tgt ups Y Z as st' it s
structure IterR (q : Bool) (n : Nat) (Γ : Gam) (tgt iter : Expr) (st : AS) (ups : List Up) (st' : AS) : Prop where
 run : ∀ c, Cx.Ok c Γ q n -> ∀ Z Y as s, St c Γ none (c.env Γ) Z Y as st s -> ∀ E, wpAny (model prg Ω.w) c.A (eval iter (c.env Γ)) (fun x s₁ => wpAny (model prg Ω.w) c.A (pyIter x) (ItOk c Γ tgt ups Y Z as st') E s₁) E s
noncomputable abbrev FI := Bool -> Nat -> Gam -> Expr -> Expr -> Prop
noncomputable abbrev DenI (q : Bool) (n : Nat) (Γ : Gam) (tgt iter : Expr) (f : FI) : Prop := f q n Γ tgt iter
structure EvI (f : FI) (st : AS) (ups : List Up) (st' : AS) : Prop where
 den : ∀ {q n Γ tgt iter}, f q n Γ tgt iter -> IterR q n Γ tgt iter st ups st'
noncomputable def SF.for (f : FI) (b : SF) : SF := fun q n Γ x => ∀ st, ∀ {s1 s2 ups r}, EvI f st ups s1 -> EvFor b ups s1 r s2 -> EvB q n Γ x st r s2
theorem EvS.for {f : FI} {b : SF} {ups : List Up} {r : Fl} (h : EvI f st ups s1) (hr : EvFor b ups s1 r s2) : EvS (.for f b) st r s2 := ⟨@fun κ κ κ κ D => D _ h hr⟩
theorem DenS.for {tgt iter : Expr} {b : List Stmt} {fi : FI} {fb : SF} (Di : DenI q n Γ tgt iter fi) (Db : DenB q n Γ b fb) (hs : ∀ env x, foldedSetIterable iter env x = pure x := by intro _ _; rfl) : DenS q n Γ (.For tgt iter b [] pos) (.for fi fb) := fun κ => fun h hf => .mk fun c ok Z Y as s S =>
 wpAny_For (wpAny_mono ((h.den Di).run c ok Z Y as s S _) (fun x s₁ hx => wpAny_mono hx (fun it s₂ hi => by
  obtain ⟨own, O, Z', as', e₁, T, ho, S₂⟩ := hi
  exact codeAny_mono (for_run ok Db T hf ho S₂) fun res s' hr => by apply hr.elim ok e₁ <;> exact fun κ x => x) fun κ κ x => x) fun κ κ x => x) (hs _)
end
noncomputable def V.int? : V -> Option Int
 | .int i => some i
 | _ => Option.none
noncomputable def V.str? : V -> Option Str
 | .str i => some i
 | _ => Option.none
noncomputable def V.bytes? : V -> Option (Array UInt8)
 | .bytes i => some i
 | _ => Option.none
noncomputable def V.ints? : V -> Option (List Int)
 | .ints i => some i
 | _ => Option.none
noncomputable def V.gints? : V -> Option (List Int)
 | .gints i => some i
 | _ => Option.none
noncomputable def V.lst? : V -> Option (List V)
 | .lst i => some i
 | _ => Option.none
noncomputable def V.tup? : V -> Option (List V)
 | .tup i => some i
 | _ => Option.none
noncomputable def V.dict? : V -> Option (List (Int × V))
 | .dict i => some i
 | _ => Option.none
noncomputable def V.ref? : V -> Option Nat
 | .ref i => some i
 | _ => Option.none
noncomputable def V.isN : V -> Bool
 | .none => true
 | _ => false
noncomputable def MO.ints? : MO -> Option (List Int)
 | .ints i => some i
 | _ => none
noncomputable def MO.deck? : MO -> Option (V × V)
 | .deck l m => some (l, m)
 | _ => none
section
variable {X : V} {C : V -> Prop}
theorem no {α : Type} {a : α} {C : Prop} (h : Option.none = some a) : C := nomatch h
theorem V.intE {a : Int} (h : X.int? = some a) (k : C (.int a)) : C X := by cases X <;> first | exact no h | (cases h; exact k)
theorem V.strE {a : Str} (h : X.str? = some a) (k : C (.str a)) : C X := by cases X <;> first | exact no h | (cases h; exact k)
theorem V.bytesE {a : Array UInt8} (h : X.bytes? = some a) (k : C (.bytes a)) : C X := by cases X <;> first | exact no h | (cases h; exact k)
theorem V.intsE {a : List Int} (h : X.ints? = some a) (k : C (.ints a)) : C X := by cases X <;> first | exact no h | (cases h; exact k)
theorem V.gintsE {a : List Int} (h : X.gints? = some a) (k : C (.gints a)) : C X := by cases X <;> first | exact no h | (cases h; exact k)
theorem V.lstE {a : List V} (h : X.lst? = some a) (k : C (.lst a)) : C X := by cases X <;> first | exact no h | (cases h; exact k)
theorem V.tupE {a : List V} (h : X.tup? = some a) (k : C (.tup a)) : C X := by cases X <;> first | exact no h | (cases h; exact k)
theorem V.dictE {a : List (Int × V)} (h : X.dict? = some a) (k : C (.dict a)) : C X := by cases X <;> first | exact no h | (cases h; exact k)
theorem V.refE {a : Nat} (h : X.ref? = some a) (k : C (.ref a)) : C X := by cases X <;> first | exact no h | (cases h; exact k)
theorem V.isNE (h : X.isN = true) (k : C .none) : C X := by cases X <;> first | exact k | cases h
theorem MO.intsE {mo : MO} {C : MO -> Prop} {a : List Int} (h : mo.ints? = some a) (k : C (.ints a)) : C mo := by cases mo <;> first | exact no h | (cases h; exact k)
theorem MO.deckE {mo : MO} {C : MO -> Prop} {a : V × V} (h : mo.deck? = some a) (k : C (.deck a.1 a.2)) : C mo := by cases mo <;> first | exact no h | (cases h; exact k)
theorem omap {α β : Type} {o : Option α} {f : α -> β} {y : β} {C : β -> Prop} (h : o.map f = some y) (k : ∀ a, o = some a -> C (f a)) : C y := by
 cases o with
 | none => cases h
 | some a => cases h; exact k a rfl
theorem oor {α : Type} {o p : Option α} {y : α} {C : Prop} (h : o.or p = some y) (k : o = some y -> C) (k' : p = some y -> C) : C := by
 cases o with
 | none => exact k' h
 | some a => exact k h
theorem osome {α : Type} {a y : α} {C : α -> Prop} (h : some a = some y) (k : C a) : C y := by cases h; exact k
end
noncomputable def small (a : Int) : Bool := decide (a.natAbs < 2 ^ 40)
noncomputable def int2 (f : Int -> Int -> Option V) (X U : V) : Option V := (X.int?).bind fun a => (U.int?).bind fun b => f a b
noncomputable def rdI (σ : List MO) (X : V) : Option (List Int) := (X.ints?).or ((X.gints?).or ((X.ref?).bind fun i => (σ[i]?).bind MO.ints?))
noncomputable def binV : Operator -> List MO -> V -> V -> Option V
 | .Add, σ, X, U => (int2 (fun a b => some (.int (a + b))) X U).or (((X.lst?).bind fun xs => (U.lst?).bind fun ys => if xs.length + ys.length ≤ 1000000 then some (.lst (xs ++ ys)) else none).or
  ((rdI σ X).bind fun xs => (rdI σ U).bind fun ys => if xs.length + ys.length ≤ 1000000 then some (.ints (xs ++ ys)) else none))
 | .Sub, _, X, U => int2 (fun a b => some (.int (a - b))) X U
 | .Mult, _, X, U => int2 (fun a b => if small a = true then some (.int (a * b)) else none) X U
 | .FloorDiv, _, X, U => int2 (fun a b => if b ≠ 0 ∧ b.natAbs < 1073741824 then some (.int (a.fdiv b)) else none) X U
 | .Mod, _, X, U => int2 (fun a b => if b ≠ 0 then some (.int (a.fmod b)) else none) X U
 | .Pow, _, X, U => int2 (fun a b => if 0 ≤ b ∧ b ≤ 1000 ∧ small a = true then some (.int (a ^ b.toNat)) else none) X U
 | _, _, _, _ => none
noncomputable abbrev binF (op : Operator) : F2 := binV op
noncomputable def toInts : List V -> Option (List Int)
 | [] => some []
 | X :: r => (X.int?).bind fun i => (toInts r).map (i :: ·)
noncomputable def two : List V -> Option (List Int × List Int)
 | [x, y] => (x.ints?).bind fun a => (y.ints?).map fun b => (a, b)
 | _ => none
noncomputable def eqV (σ : List MO) (X U : V) : Option Bool := ((X.int?).bind fun a => ((U.int?).map fun b => a == b).or (if U.isN = true then some false else none)).or
 ((((X.tup?).bind two).bind fun x => ((U.tup?).bind two).bind fun y => if x.1.length + x.2.length + y.1.length + y.2.length ≤ 1000000 then some (decide (x.1 = y.1) && decide (x.2 = y.2)) else none).or
  ((rdI σ X).bind fun xs => (rdI σ U).map fun ys => decide (xs = ys)))
noncomputable def isNone : V -> Option Bool
 | .none => some true
 | .undef => none
 | .val _ => none
 | _ => some false
noncomputable def atKey (kvs : List (Int × V)) (x : Int) : Option V := (kvs.find? fun kv => kv.1 = x).map (·.2)
noncomputable def inV (x : Int) (U : V) : Option Bool := (((U.tup?).bind toInts).map fun ns => ns.any (· == x)).or ((U.dict?).map fun kvs => (atKey kvs x).isSome)
noncomputable def rel2 (f : Int -> Int -> Bool) (X U : V) : Option Bool := (X.int?).bind fun a => (U.int?).map fun b => f a b
noncomputable def cmpV : CmpOp -> List MO -> V -> V -> Option Bool
 | .Lt, _, X, U => rel2 (fun a b => decide (a < b)) X U
 | .LtE, _, X, U => rel2 (fun a b => decide (a ≤ b)) X U
 | .Gt, _, X, U => rel2 (fun a b => decide (b < a)) X U
 | .GtE, _, X, U => rel2 (fun a b => decide (b ≤ a)) X U
 | .Eq, σ, X, U => eqV σ X U
 | .NotEq, σ, X, U => (eqV σ X U).map (!·)
 | .Is, _, X, U => if U.isN = true then isNone X else none
 | .IsNot, _, X, U => if U.isN = true then (isNone X).map (!·) else none
 | .In, _, X, U => (X.int?).bind fun x => inV x U
 | .NotIn, _, X, U => (X.int?).bind fun x => (inV x U).map (!·)
noncomputable def cmpF (op : CmpOp) : F2 := fun σ X U => (cmpV op σ X U).map .bool
section
variable {q : Bool} {n k : Nat} {Γ : Gam} {md : Md} {c : Cx} {env : Env} {g h h' : Heap} {m : Str -> Option Value} {M : Addr -> Option (Tag × Obj)} {Z Z' : Fz} {Y : Led} {as as' : List Addr} {σ : List MO} {st : AS} {s : Shared} {v u : Value} {X U : V}
theorem VR.ints_inv {xs : List Int} {C : Value -> Prop} (x : VR Z v (.ints xs)) (k : ∀ a vs nn, OAt Z a (listOf vs.toArray nn) -> IntsAre vs xs -> C (.ref a)) : C v := VV.ints_inv (as := []) (.pure x) k
theorem listOf_isList {a : Addr} {vs : List Value} {nn : Nat} (e : h.get? a = some (listOf vs.toArray nn)) : h.IsList a vs.toArray := ⟨_, e, rfl, nn, rfl⟩
theorem rdI_inv {C : Value -> Prop} {xs : List Int} (Si : Sit c Γ g m M h) (R : Rel M Z Y as σ) (gs : Gs c.base) (hv : VV Z as v X) (hr : rdI σ X = some xs) (k : ∀ a vs, h.IsList a vs.toArray -> IntsAre vs xs -> C (.ref a)) : C v := by
 refine oor hr (fun e => ?_) fun e => oor e (fun e => ?_) fun e => ?_
 ·revert hv; apply V.intsE e; intro hv
  apply VV.ints_inv hv; exact fun a vs nn h1 => k a vs (listOf_isList (Si.at R gs h1))
 ·revert hv; apply V.gintsE e; intro hv
  apply VV.gints_inv hv; rintro a vs ⟨o, h3, h4⟩; exact k a vs ⟨o, Si.F.keep _ _ (Si.stG gs _ _ h3), h4⟩
 ·refine obind e fun i hi e => obind e fun mo hm e => ?_
  revert hv; apply V.refE hi; intro hv
  revert hm; apply MO.intsE e; intro hm
  obtain ⟨a, o, rfl, h1, h2, h3, h4⟩ := ref_at Si R hv hm MO.noConfusion
  cases h3 with | eInts hi => exact k _ _ (listOf_isList h1) hi
theorem sl {n : Nat} (h : n ≤ 1000000) : n ≤ sizeLine := by rw [sizeLine_eq]; omega
theorem new_fz {c : Cx} {env : Env} {g h h' : Heap} {m : Str -> Option Value} {M : Addr -> Option (Tag × Obj)} {Z : Fz} {Y : Led} {as : List Addr} {st : AS} {news : Led} {l : Addr} {o : Obj} {tk : Tok} (Si : Sit c Γ g m M h) (R : Rel M Z Y as st.sto) (LO : LocOk Γ m Z as st.loc) (CO : CelOk c Γ as st.cl)
  (EO : EnvOk Γ c Z Y as md env st.cv) (cv : ∀ a t o, M a = some (t, o) -> (a, o) ∈ news) (F' : Fr g c.L h' m) (N' : News g c.L h' ((l, o) :: news)) (hl : M l = none) : St c Γ md env (fun b p => Z b p ∨ (b = l ∧ p = o)) Y as st { Ω.s₀ with heap := h', toks := tk } :=
 ⟨g, m, _, h', tk, rfl, Si.of_news cv F' N', R.addZ hl, LO.mono Ext.add, CO, EO.mono Ext.add⟩
theorem int2_inv {C : Value -> Value -> Prop} {f : Int -> Int -> Option V} {R : V} (h : int2 f X U = some R) (hv : VV Z as v X) (hu : VV Z as u U) (k : ∀ a b t t', f a b = some R -> C (.int a t) (.int b t')) : C v u := by
 refine obind h fun a ha h => obind h fun b hb h => ?_
 revert hv; apply V.intE ha; intro hv
 revert hu; apply V.intE hb; intro hu
 apply VV.int_inv hv; intro t; apply VV.int_inv hu; intro t'; exact k a b t t' h
theorem add_ok : OpB (binaryOp .Add) (binF .Add) := fun {c Γ md env q n v u X U st R Z Y as s Q E} ok hb hv hu S k => by
 refine oor hb (fun hb => ?_) fun hb => oor hb (fun hb => ?_) fun hb => ?_
 ·refine int2_inv (C := fun v u => wpAny (model prg Ω.w) c.A (binaryOp .Add v u) Q E s) hb hv hu fun a b t t' e => ?_
  revert k; apply osome e; exact fun k => add_int (k _ Z as _ .refl (.pure (.int _ _)) (S.toks _))
 ·refine obind hb fun xs hx hb => obind hb fun ys hy hb => oif hb fun hsz hb => ?_
  revert hv; apply V.lstE hx; intro hv
  revert hu; apply V.lstE hy; intro hu
  apply St.openE S; intro g m M hp tk Si R LO CO EO S'
  apply VV.lst_inv hv; intro a vs n1 ha hvs
  apply VV.lst_inv hu; intro b us n2 hb' hus
  obtain ⟨news, N, cv⟩ := Si.NL
  refine add_lists Si.F N (listOf_isList (Si.at R ok.gs ha)) (listOf_isList (Si.at R ok.gs hb')) (fun h' F' N' => ?_) (by rw [hvs.length, hus.length]; exact sl hsz)
  revert k; apply osome hb; intro k
  exact k _ _ as _ Ext.add (.pure (.lst (n := 0) (.inl (.inr ⟨rfl, rfl⟩)) ((hvs.append hus).mono fun κ κ e => .inl e))) (new_fz Si R LO CO EO cv F' N' (Si.fresh (Nat.le_refl _)).1)
 ·refine obind hb fun xs hx hb => obind hb fun ys hy hb => oif hb fun hsz hb => ?_
  apply St.openE S; intro g m M hp tk Si R LO CO EO S'
  apply rdI_inv Si R ok.gs hv hx; intro a vs ha hvs
  apply rdI_inv Si R ok.gs hu hy; intro b us hb' hus
  obtain ⟨news, N, cv⟩ := Si.NL
  refine add_lists Si.F N ha hb' (fun h' F' N' => ?_) (by rw [hvs.length, hus.length]; exact sl hsz)
  revert k; apply osome hb; intro k
  exact k _ _ as _ Ext.add (.pure (.ints (n := 0) (.inl (.inr ⟨rfl, rfl⟩)) (hvs.append hus))) (new_fz Si R LO CO EO cv F' N' (Si.fresh (Nat.le_refl _)).1)
theorem ib {a : Int} (h : small a = true) : a.natAbs < 2 ^ 40 := of_decide_eq_true h
theorem bin_ok (op : Operator) : OpB (binaryOp op) (binF op) := by
 cases op with
 | Add => exact add_ok
 | Sub => exact fun ok hb hv hu S k => int2_inv (C := fun v u => wpAny (model prg Ω.w) _ (binaryOp .Sub v u) _ _ _) hb hv hu fun a b t t' e => sub_int (k _ _ _ _ .refl (osome (C := fun R => VV _ _ _ R) e (.pure (.int _ _))) (S.toks _))
 | Mult => exact fun ok hb hv hu S k => int2_inv (C := fun v u => wpAny (model prg Ω.w) _ (binaryOp .Mult v u) _ _ _) hb hv hu fun a b t t' e => oif e fun hs e => mul_int (k _ _ _ _ .refl (osome (C := fun R => VV _ _ _ R) e (.pure (.int _ _))) (S.toks _)) (IntMulOk.of_left (intBits_le_64 (by have := ib hs; omega) (by have := ib hs; omega)))
 | FloorDiv => exact fun ok hb hv hu S k => int2_inv (C := fun v u => wpAny (model prg Ω.w) _ (binaryOp .FloorDiv v u) _ _ _) hb hv hu fun a b t t' e => oif e fun hs e => floordiv_int hs.1 (k _ _ _ _ .refl (osome (C := fun R => VV _ _ _ R) e (.pure (.int _ _))) (S.toks _)) (.inl (PyProof.noPylong_small hs.2))
 | Mod => exact fun ok hb hv hu S k => int2_inv (C := fun v u => wpAny (model prg Ω.w) _ (binaryOp .Mod v u) _ _ _) hb hv hu fun a b t t' e => oif e fun hs e => mod_int' hs (k _ _ _ _ .refl (osome (C := fun R => VV _ _ _ R) e (.pure (.int _ _))) (S.toks _))
 | Pow => exact fun ok hb hv hu S k => int2_inv (C := fun v u => wpAny (model prg Ω.w) _ (binaryOp .Pow v u) _ _ _) hb hv hu fun a b t t' e => oif e fun hs e => pow_int_small hs.1 (by omega) (by have := ib hs.2.2; omega) (k _ _ _ _ .refl (osome (C := fun R => VV _ _ _ R) e (.pure (.int _ _))) (S.toks _))
 | _ => exact fun ok hb => nomatch hb
theorem toInts_of : ∀ {xs : List V} {ns : List Int} {vs : List Value}, toInts xs = some ns -> VRs Z vs xs -> IntsAre vs ns
 | [], _, _, h, r => by cases h; cases r; exact .nil
 | x :: xs, _, _, h, r => by
  cases r with
  | cons a b =>
   refine obind h fun i hi h => ?_
   apply omap h; intro ms hm
   revert a; apply V.intE hi; intro a
   apply VV.int_inv (as := []) (.pure a); exact fun t => .cons i t (toInts_of hm b)
theorem find_DRs {x : Int} : ∀ {kvs : List (Int × Value)} {xs : List (Int × V)}, DRs Z kvs xs -> (atKey xs x = none ∧ PySem.valueAt kvs x = none) ∨ ∃ X v, atKey xs x = some X ∧ PySem.valueAt kvs x = some v ∧ VR Z v X
 | [], _, r => by cases r; exact .inl ⟨rfl, rfl⟩
 | _ :: kvs, _, r => by
  cases r with
  | @cons k v X _ xs a b =>
   unfold atKey PySem.valueAt
   simp only [List.find?_cons]
   by_cases q : k = x
   ·simp only [q, decide_true]; exact .inr ⟨X, v, rfl, rfl, a⟩
   ·simp only [q, decide_false]; exact find_DRs b
theorem isNone_of {b : Bool} (hv : VV Z as v X) (h : isNone X = some b) : (v == .none) = b := by
 cases hv with
 | pure y => cases y <;> first | exact no h | (cases h; rfl)
 | ref _ => cases h; rfl
 | inst _ _ => cases h; rfl
theorem intKey {x : Int} {t : Tok} : (intKind prg Ω.w).is x (.int x t) = true := by
 simp [intKind, Value.isInt]
theorem shaped_two (a b : List Int) : PySem.SeqAt.shaped (.tuple [.list (a.map PyData.int), .list (b.map PyData.int)]) = true := by
 have h1 := shaped_ints a
 have h2 := shaped_ints b
 have d1 := PySem.W.depthAll_ints a
 have d2 := PySem.W.depthAll_ints b
 unfold PySem.SeqAt.shaped at h1 h2 ⊢
 simp only [Bool.and_eq_true, decide_eq_true_eq] at h1 h2 ⊢
 refine ⟨?_, ?_⟩
 ·simp only [PyData.canLay0, PyData.canLayAll0, Bool.and_eq_true] at h1 h2 ⊢
  simp [h1.1, h2.1]
 ·simp only [PyData.depth, PyData.depthAll] at h1 h2 ⊢
  omega
theorem two_inv {a : List Int × List Int} {C : List V -> Prop} {l : List V} (h : two l = some a) (k : C [.ints a.1, .ints a.2]) : C l := by
 match l, h with
 | [x, y], h =>
  refine obind h fun p hp h => ?_
  revert k; apply omap h; intro r hr k
  exact V.intsE (C := fun x => C [x, y]) hp (V.intsE (C := fun y => C [_, y]) hr k)
theorem reads_two (Si : Sit c Γ g m M h) (R : Rel M Z Y as σ) (gs : Gs c.base) {a : List Int × List Int} (hv : VV Z as v X) (hx : (X.tup?).bind two = some a) :
  ∃ l, Reads h v (.tuple [.list (a.1.map PyData.int), .list (a.2.map PyData.int)]) l := by
 refine obind hx fun xs h1 h2 => ?_
 revert hv; apply V.tupE h1; apply two_inv h2; intro hv
 apply VV.tup_inv hv; intro a_ vs_ n_ ht hvs
 cases hvs with
 | cons y1 r =>
  cases r with
  | cons y2 r =>
   cases r
   revert ht; apply VR.ints_inv y1; intro a1 vs1 n1 h1 i1
   apply VR.ints_inv y2; intro a2 vs2 n2 h2 i2 ht
   exact ⟨_, .tuple (Si.at R gs ht) rfl rfl (by simpa using ReadsAll.cons (reads_of_ints (listOf_isList (Si.at R gs h1)) i1) (ReadsAll.cons (reads_of_ints (listOf_isList (Si.at R gs h2)) i2) .nil))⟩
theorem same_two (a b c d : List Int) : PySem.Spec.same (.tuple [.list (a.map PyData.int), .list (b.map PyData.int)]) (.tuple [.list (c.map PyData.int), .list (d.map PyData.int)]) = (decide (a = c) && decide (b = d)) := by
 simp [PySem.Spec.same, PySem.Spec.sameAll, same_ints]
theorem noMix_two (a b c d : List Int) : PySem.SeqAt.noMix (.tuple [.list (a.map PyData.int), .list (b.map PyData.int)]) (.tuple [.list (c.map PyData.int), .list (d.map PyData.int)]) = true := by
 simp [PySem.SeqAt.noMix, PySem.SeqAt.noMixAll, noMix_ints]
theorem in_ok (ok : Cx.Ok c Γ q n) {x : Int} {t : Tok} {bb : Bool} (hu : VV Z as u U) (S : St c Γ md env Z Y as st s) (h : inV x U = some bb) {Q Q' : Value -> Shared -> Prop} {E E' : Value -> Shared -> Prop} :
  ((∀ tk, Q (.bool bb) { s with toks := tk }) -> wpAny (model prg Ω.w) c.A (compareOp .In (.int x t) u) Q E s) ∧ ((∀ tk, Q' (.bool (!bb)) { s with toks := tk }) -> wpAny (model prg Ω.w) c.A (compareOp .NotIn (.int x t) u) Q' E' s) := by
 obtain ⟨g, m, M, hp, tk, rfl, Si, R, LO, CO, EO⟩ := S
 refine oor h (fun h => ?_) fun h => ?_
 ·apply omap h; intro ns hn
  refine obind hn fun xs h1 h2 => ?_
  revert hu; apply V.tupE h1; intro hu
  apply VV.tup_inv hu; intro a_ vs_ n_ ht hvs
  exact ⟨fun hQ => in_tuple_ints ⟨_, Si.at R ok.gs ht, rfl, _, rfl⟩ (by simpa using toInts_of h2 hvs) (hQ _), fun hQ => notin_tuple_ints ⟨_, Si.at R ok.gs ht, rfl, _, rfl⟩ (by simpa using toInts_of h2 hvs) (hQ _)⟩
 ·apply omap h; intro kvs h1
  revert hu; apply V.dictE h1; intro hu
  apply VV.dict_inv hu; intro a_ o_ kvs_ hsm ht hd hr
  have e : (PySem.valueAt kvs_ x).isSome = (atKey kvs x).isSome := by
   rcases find_DRs (x := x) hr with ⟨e1, e2⟩ | ⟨X, v, e1, e2, _⟩ <;> rw [e1, e2] <;> rfl
  exact ⟨fun hQ => wpAny_in_of (knd := intKind prg Ω.w) (k := x) intKey hsm (hd.at (Si.at R ok.gs ht)).mapOf (by rw [e]; exact hQ _), fun hQ => wpAny_notIn_of (knd := intKind prg Ω.w) (k := x) intKey hsm (hd.at (Si.at R ok.gs ht)).mapOf (by rw [e]; exact hQ _)⟩
theorem eq_ok (ok : Cx.Ok c Γ q n) {bb : Bool} (hv : VV Z as v X) (hu : VV Z as u U) (S : St c Γ md env Z Y as st s) (he : eqV st.sto X U = some bb) {Q Q' : Value -> Shared -> Prop} {E E' : Value -> Shared -> Prop} :
  (Q (.bool bb) s -> wpAny (model prg Ω.w) c.A (compareOp .Eq v u) Q E s) ∧ (Q' (.bool (!bb)) s -> wpAny (model prg Ω.w) c.A (compareOp .NotEq v u) Q' E' s) := by
 have hun : c.A.units + 64 < cLine := by have := ok.un; show c.A.units + 64 < 9900; omega
 refine oor he (fun he => ?_) fun he => oor he (fun he => ?_) fun he => ?_
 ·refine obind he fun a ha he => oor he (fun he => ?_) fun he => oif he fun hn he => ?_
  ·apply omap he; intro b hb
   revert hv; apply V.intE ha; intro hv
   revert hu; apply V.intE hb; intro hu
   apply VV.int_inv hv; intro t; apply VV.int_inv hu; intro t'
   exact ⟨fun hq => eq_int hq, fun hq => ne_int hq⟩
  ·apply osome he
   revert hv; apply V.intE ha; intro hv
   revert hu; apply V.isNE hn; intro hu
   apply VV.int_inv hv; intro t; apply VV.none_inv hu
   exact ⟨fun hq => EqNone.eq_int_none hq, fun hq => EqNone.ne_int_none hq⟩
 ·refine obind he fun x hx he => obind he fun y hy he => oif he fun κ he => ?_
  apply osome he
  apply St.openE S; intro g m M hp tk Si R LO CO EO S'
  obtain ⟨l1, r1⟩ := reads_two Si R ok.gs hv hx
  obtain ⟨l2, r2⟩ := reads_two Si R ok.gs hu hy
  exact ⟨fun hq => eq_dataH_same r1 r2 (shaped_two ..) (shaped_two ..) hun (noMix_two ..) (by rw [same_two]; exact hq), fun hq => ne_dataH_same r1 r2 (shaped_two ..) (shaped_two ..) hun (noMix_two ..) (by rw [same_two]; exact hq)⟩
 ·refine obind he fun xs hx he => ?_
  apply omap he; intro ys hy
  apply St.openE S; intro g m M hp tk Si R LO CO EO S'
  apply rdI_inv Si R ok.gs hv hx; intro a vs ha hvs
  apply rdI_inv Si R ok.gs hu hy; intro b us hb' hus
  exact ⟨fun hq => eq_intsK ha hvs hb' hus hun hq, fun hq => ne_intsK ha hvs hb' hus hun hq⟩
theorem rel2_inv {C : Value -> Value -> Bool -> Prop} {f : Int -> Int -> Bool} {b : Bool} (h : rel2 f X U = some b) (hv : VV Z as v X) (hu : VV Z as u U) (k : ∀ a b t t', C (.int a t) (.int b t') (f a b)) : C v u b := by
 refine obind h fun a ha h => ?_
 apply omap h; intro b hb
 revert hv; apply V.intE ha; intro hv
 revert hu; apply V.intE hb; intro hu
 apply VV.int_inv hv; intro t; apply VV.int_inv hu; intro t'; exact k a b t t'
theorem cmp_ok (op : CmpOp) : OpB (compareOp op) (cmpF op) := fun {c Γ md env q n v u X U st R Z Y as s Q E} ok hb hv hu S k => by
 obtain ⟨bb, hb', rfl⟩ := Option.map_eq_some_iff.mp hb
 replace hb := hb'
 clear hb'
 have fin : ∀ tk, Q (.bool bb) { s with toks := tk } := fun tk => k _ Z as _ .refl (.pure (.bool _)) (S.toks _)
 clear k
 have fin0 : Q (.bool bb) s := fin s.toks
 cases op with
 | Lt => revert fin0; exact rel2_inv (C := fun v u b => Q (.bool b) s -> wpAny (model prg Ω.w) c.A (compareOp .Lt v u) Q E s) hb hv hu fun a b t t' => lt_int
 | LtE => revert fin0; exact rel2_inv (C := fun v u b => Q (.bool b) s -> wpAny (model prg Ω.w) c.A (compareOp .LtE v u) Q E s) hb hv hu fun a b t t' => le_int
 | Gt => revert fin0; exact rel2_inv (C := fun v u b => Q (.bool b) s -> wpAny (model prg Ω.w) c.A (compareOp .Gt v u) Q E s) hb hv hu fun a b t t' => gt_int
 | GtE => revert fin0; exact rel2_inv (C := fun v u b => Q (.bool b) s -> wpAny (model prg Ω.w) c.A (compareOp .GtE v u) Q E s) hb hv hu fun a b t t' => ge_int
 | Eq => exact (eq_ok (Q' := Q) (E' := E) ok hv hu S hb).1 fin0
 | NotEq => revert fin0; apply omap hb; intro b' he fin0; exact (eq_ok (Q := Q) (E := E) ok hv hu S he).2 fin0
 | Is =>
  refine oif hb fun h1 h2 => ?_
  revert hu; apply V.isNE h1; intro hu
  apply VV.none_inv hu; exact is_none (by rw [isNone_of hv h2]; exact fin0)
 | IsNot =>
  refine oif hb fun h1 h2 => ?_
  revert hu; apply V.isNE h1; intro hu
  revert fin0; apply omap h2; intro b' hn fin0
  apply VV.none_inv hu; exact isNot_none (by rw [isNone_of hv hn]; exact fin0)
 | In =>
  refine obind hb fun x hx hb => ?_
  revert hv; apply V.intE hx; intro hv
  apply VV.int_inv hv; intro t; exact (in_ok (Q' := Q) (E' := E) ok hu S hb).1 fin
 | NotIn =>
  refine obind hb fun x hx hb => ?_
  revert hv; apply V.intE hx; intro hv
  revert fin; apply omap hb; intro b' hn fin
  apply VV.int_inv hv; intro t; exact (in_ok (Q := Q) (E := E) ok hu S hn).2 fin
theorem cmp_bool {op : CmpOp} {R : V} (h : cmpF op σ X U = some R) : ∃ b, R = .bool b := by
 apply omap h; exact fun b κ => ⟨b, rfl⟩
end
section
variable {f g : EF} {st s1 s2 : AS} {X U W : V}
theorem Den.op {q : Bool} {n : Nat} {Γ : Gam} {md : Md} {e e' : Expr} {op : Operator} {pos : Pos} (D : Den q n Γ md e f) (D' : Den q n Γ md e' g) : Den q n Γ md (.BinOp e op e' pos) (.bin (binF op) f g) := .bin D D' (bin_ok _)
theorem Den.cm {q : Bool} {n : Nat} {Γ : Gam} {md : Md} {e e' : Expr} {op : CmpOp} {pos : Pos} (D : Den q n Γ md e f) (D' : Den q n Γ md e' g) (hm : behindInMarks op e' = false := by with_unfolding_all rfl) : Den q n Γ md (.Compare e [op] [e'] pos) (.bin (cmpF op) f g) := .cmp D D' (cmp_ok _) hm
theorem DenT.cm {q : Bool} {n : Nat} {Γ : Gam} {md : Md} {e e' : Expr} {op : CmpOp} {pos : Pos} (D : Den q n Γ md e f) (D' : Den q n Γ md e' g) (hm : behindInMarks op e' = false := by with_unfolding_all rfl) : DenT q n Γ md (.Compare e [op] [e'] pos) (.bin (cmpF op) f g) := .cmp D D' (cmp_ok _) cmp_bool hm
theorem EvE.cmp {op : CmpOp} {b : Bool} (h1 : EvE f st (.ok X) s1) (h2 : EvE g s1 (.ok U) s2) (h3 : cmpV op s2.sto X U = some b := by rfl) : EvE (.bin (cmpF op) f g) st (.ok (.bool b)) s2 := .bin h1 h2 (congrArg (Option.map V.bool) h3)
theorem EvE.op {op : Operator} (h1 : EvE f st (.ok X) s1) (h2 : EvE g s1 (.ok U) s2) (h3 : binV op s2.sto X U = some W := by rfl) : EvE (.bin (binF op) f g) st (.ok W) s2 := .bin h1 h2 h3
end
noncomputable def V.pureB : V -> Bool
 | .undef => false
 | .ref _ => false
 | .inst _ => false
 | _ => true
noncomputable def mkList (Xs : List V) : V := match toInts Xs with
 | some ns => .ints ns
 | none => .lst Xs
noncomputable def EF.list (fs : List EF) : EF := fun q n Γ md t e => ∀ st, ∀ {s1 Xs}, EvL fs st Xs s1 -> (Xs.all V.pureB && decide (Xs.length ≤ 1000000)) = true -> Ev q n Γ md t e st (.ok (mkList Xs)) s1
noncomputable def EF.tup (fs : List EF) : EF := fun q n Γ md t e => ∀ st, ∀ {s1 Xs}, EvL fs st Xs s1 -> (Xs.all V.pureB && decide (Xs.length ≤ 1000000)) = true -> Ev q n Γ md t e st (.ok (.tup Xs)) s1
noncomputable def EF.newL : EF := fun q n Γ md t e => ∀ l, ∀ {c v τ}, Ev q n Γ md t e ⟨l, c, v, τ⟩ (.ok (.ref τ.length)) ⟨l, c, v, τ ++ [.ints []]⟩
section
variable {fs : List EF} {st s1 : AS} {Xs : List V} {l : List V} {c : List Nat} {v : V} {τ : List MO}
theorem EvE.list (h1 : EvL fs st Xs s1) (hp : (Xs.all V.pureB && decide (Xs.length ≤ 1000000)) = true := by rfl) : EvE (.list fs) st (.ok (mkList Xs)) s1 := ⟨@fun κ κ κ κ κ κ D => D _ h1 hp⟩
theorem EvE.tup (h1 : EvL fs st Xs s1) (hp : (Xs.all V.pureB && decide (Xs.length ≤ 1000000)) = true := by rfl) : EvE (.tup fs) st (.ok (.tup Xs)) s1 := ⟨@fun κ κ κ κ κ κ D => D _ h1 hp⟩
theorem EvE.newL : EvE .newL ⟨l, c, v, τ⟩ (.ok (.ref τ.length)) ⟨l, c, v, τ ++ [.ints []]⟩ := ⟨@fun κ κ κ κ κ κ D => D _⟩
end
section
variable {q : Bool} {n k : Nat} {Γ : Gam} {md : Md} {pos p apos : Pos} {c : Cx} {env : Env} {Z Z' : Fz} {Y : Led} {as as' : List Addr} {σ : List MO} {st : AS} {s : Shared} {v u : Value} {X U : V} {vs : List Value} {Xs : List V} {es : List Expr} {fs : List EF} {f g g' : EF}
theorem VV.toR (x : VV Z as v X) (h : X.pureB = true) : VR Z v X := by
 cases x with
 | pure y => exact y
 | ref _ => cases h
 | inst _ _ => cases h
theorem VVs.toR (x : VVs Z as vs Xs) (h : Xs.all V.pureB = true) : VRs Z vs Xs := by
 induction x with
 | nil => exact .nil
 | cons a _ ih => rw [List.all_cons, Bool.and_eq_true] at h; exact .cons (a.toR h.1) (ih h.2)
theorem VR.mkList {a : Addr} {nn : Nat} (h1 : OAt Z a (listOf vs.toArray nn)) (h2 : VRs Z vs Xs) : VR Z (.ref a) (mkList Xs) := by
 unfold Mine.mkList
 cases q : toInts Xs with
 | none => exact .lst h1 h2
 | some ns => exact .ints h1 (toInts_of q h2)
theorem new_list (ok : Cx.Ok c Γ q n) (S : St c Γ md env Z Y as st s) (hvs : VRs Z vs Xs) (hl : Xs.length ≤ 1000000) {Q E : Value -> Shared -> Prop} (k : ∀ v Z' s', Ext Z as Z' as -> VV Z' as v (mkList Xs) -> St c Γ md env Z' Y as st s' -> Q v s') : wpAny (model prg Ω.w) c.A (newList vs) Q E s := by
 apply St.openE S; intro g m M hp tk Si R LO CO EO S'
 obtain ⟨news, N, cv⟩ := Si.NL
 exact newList_K Si.F N (fun l h' F' N' lt => k _ _ _ Ext.add (.pure (.mkList (nn := 0) (.inl (.inr ⟨rfl, rfl⟩)) (hvs.mono fun κ κ e => .inl e))) (new_fz Si R LO CO EO cv F' N' (Sit.none_of cv lt))) (by rw [hvs.length]; exact sl hl)
theorem pure_and (hp : (Xs.all V.pureB && decide (Xs.length ≤ 1000000)) = true) : Xs.all V.pureB = true ∧ Xs.length ≤ 1000000 := by rwa [Bool.and_eq_true, decide_eq_true_eq] at hp
theorem Den.list (D : Dens q n Γ md es fs) (hu : unstarred es = true) : Den q n Γ md (.List es pos) (.list fs) := fun κ => fun h hp => .mk fun c env ok Z Y as s S =>
 List_ (h.go D hu ok S fun vs Z₁ as₁ s₁ e₁ hvs S₁ => new_list ok S₁ (hvs.toR (pure_and hp).1) (pure_and hp).2 fun v Z₂ s₂ e₂ hv S₂ => ⟨_, Z₂, as₁, rfl, e₁.trans e₂, hv, S₂⟩)
theorem Den.tup {kk : Nat} (D : Dens q n Γ md es fs) (hu : unstarred es = true) : Den q n Γ md (.Tuple es kk pos) (.tup fs) := fun κ => fun h hp => .mk fun c env ok Z Y as s S =>
 Tuple_ (h.go D hu ok S fun vs Z₁ as₁ s₁ e₁ hvs S₁ => by
  apply St.openE S₁; intro g m M hp' tk Si R LO CO EO S'
  obtain ⟨news, N, cv⟩ := Si.NL
  have hr := hvs.toR (pure_and hp).1
  exact newTuple_N Si.F N (fun h' F' N' => ⟨_, _, as₁, rfl, e₁.trans Ext.add, .pure (.tup (n := 0) (.inl (.inr ⟨rfl, rfl⟩)) (hr.mono fun κ κ e => .inl e)), new_fz Si R LO CO EO cv F' N' (Si.fresh (Nat.le_refl _)).1⟩) (by rw [hr.length]; exact sl (pure_and hp).2))
theorem new_mut {c : Cx} {env : Env} {g h h' : Heap} {m : Str -> Option Value} {M : Addr -> Option (Tag × Obj)} {Z : Fz} {Y : Led} {as : List Addr} {st : AS} {news : Led} {l : Addr} {o : Obj} {mo : MO} {tk : Tok} (Si : Sit c Γ g m M h) (R : Rel M Z Y as st.sto) (LO : LocOk Γ m Z as st.loc) (CO : CelOk c Γ as st.cl)
  (EO : EnvOk Γ c Z Y as md env st.cv) (cv : ∀ a t o, M a = some (t, o) -> (a, o) ∈ news) (F' : Fr g c.L h' m) (N' : News g c.L h' ((l, o) :: news)) (hl : M l = none) (he : ER Z as mo o) : St c Γ md env Z Y (as ++ [l]) { st with sto := st.sto ++ [mo] } { Ω.s₀ with heap := h', toks := tk } :=
 have ext : Ext Z as Z (as ++ [l]) := ⟨fun κ κ e => e, [l], rfl⟩
 ⟨g, m, _, h', tk, rfl, Si.of_news cv F' N', R.addM hl he, LO.mono ext, CO.mono ext, EO.mono ext⟩
theorem Ext.addM {Z : Fz} {as : List Addr} {l : Addr} : Ext Z as Z (as ++ [l]) := ⟨fun κ κ e => e, [l], rfl⟩
theorem at_len {as : List Addr} {l : Addr} {σ : List MO} (h : as.length = σ.length) : (as ++ [l])[σ.length]? = some l := by rw [← h]; simp
theorem Den.newL : Den q n Γ md (.List [] pos) .newL := fun κ => .mk fun c env ok Z Y as s S => by
 apply St.openE S; intro g m M hp tk Si R LO CO EO S'
 obtain ⟨news, N, cv⟩ := Si.NL
 exact List_ (args_nil (newList_K Si.F N (fun l h' F' N' lt => ⟨_, _, _, rfl, Ext.addM, .ref (at_len R.len), new_mut Si R LO CO EO cv F' N' (Sit.none_of cv lt) (.eInts (n := 0) .nil)⟩) (by size_fits)))
theorem subscripted_any (slice : Expr) (o i : Value) : ∃ ops, subscripted slice false o i = operate ops (getItem o i) := by
 cases slice with
 | Slice a b d p => cases d <;> exact ⟨_, rfl⟩
 | _ => exact ⟨_, rfl⟩
theorem sub_tail {A : Around} {E : Value -> Shared -> Prop} {s : Shared} {value slice : Expr} {o i : Value} {T id : String} {Q : Value -> Shared -> Prop} (hT : s.TypeIs o T) (hl : typeLookup (.type T) "__getitem__" = pure (some (.builtin id)))
  (h : wpAny (model prg Ω.w) A (getItem o i) Q E s) : wpAny (model prg Ω.w) A (subscriptTail value slice o i) Q E s := by
 unfold subscriptTail
 refine wpAny_bind ?_
 rw [getitemInPython_of_ne hT.not_modules]
 refine wpAny_bind (wpAny_specialOf hT hl ?_)
 obtain ⟨ops, hs⟩ := subscripted_any slice o i
 have fin : wpAny (model prg Ω.w) A (subscripted slice false o i) (fun r s₃ => wpAny (model prg Ω.w) A (letTemporaryGo value o r >>= fun κ => pure r) Q E s₃) E s := by
  rw [hs]
  exact wpAny_operating (wpAny_mono h (fun r s₃ h₃ => wpAny_bind (wpAny_letTemporaryGo (wpAny_pure h₃))) fun κ κ x => x)
 first
  | exact wpAny_pure (wpAny_bind fin)
  | exact wpAny_bind (wpAny_pure (wpAny_bind fin))
  | exact wpAny_bind fin
noncomputable def atI (xs : List Int) (k : Int) : Option Int := if 0 ≤ k ∧ k < 1000000 then xs[k.toNat]? else if k < 0 ∧ -(xs.length : Int) ≤ k ∧ -1000000 ≤ k then xs[(k + xs.length).toNat]? else none
noncomputable def subV (σ : List MO) (X U : V) : Option V := ((U.int?).bind fun k =>
  ((X.lst?).bind fun xs => if 0 ≤ k ∧ k < 1000000 then xs[k.toNat]? else none).or
  (((X.tup?).bind fun xs => if 0 ≤ k ∧ k < xs.length ∧ k < 1000000 then xs[k.toNat]? else none).or
  (((X.bytes?).bind fun b => if 0 ≤ k ∧ b.size ≤ 1000 then (b[k.toNat]?).map fun u => .int (u.toNat : Int) else none).or
  (((X.dict?).bind fun kvs => atKey kvs k).or ((rdI σ X).bind fun xs => (atI xs k).map .int))))).or
 ((X.ref?).bind fun i => (U.str?).bind fun x => (σ[i]?).bind fun mo => (mo.deck?).bind fun d => if x = "left" then some d.1 else if x = "mixed" then some d.2 else none)
noncomputable abbrev subF : F2 := subV
theorem IntsAre.get {vs : List Value} {xs : List Int} (h : IntsAre vs xs) {i : Nat} {x : Int} (e : xs[i]? = some x) : ∃ t, vs[i]? = some (.int x t) := by
 induction h generalizing i with
 | nil => simp at e
 | cons n t _ ih =>
  cases i with
  | zero => simp at e; subst e; exact ⟨t, rfl⟩
  | succ i => simp at e; simpa using ih e
theorem strKey {x : Str} {t : Tok} : (PySem.strKind prg Ω.w).is x (.str x t) = true := by
 simp [PySem.strKind, Value.isStrOf]
theorem valueAt_mixed (v u : Value) : PySem.valueAt [(("left" : Str), v), ("mixed", u)] "mixed" = some u := by
 have hne : ("left" : Str) ≠ "mixed" := by decide
 simp [PySem.valueAt, hne]
theorem sub_ok {value slice : Expr} : OpB (subscriptTail value slice) subF := fun {c Γ md env q n v u X U st R' Z Y as s Q E} ok hs hv hu S k => by
 have gs := ok.gs
 have kS : ∀ {w : Value}, VV Z as w R' -> Q w s ∧ ∀ tk, Q w { s with toks := tk } := fun hw => ⟨k _ Z as _ .refl hw S, fun tk => k _ Z as _ .refl hw (S.toks tk)⟩
 revert kS; clear k
 apply St.openE S; intro g m M hp tk Si R LO CO EO S' kS
 refine oor hs (fun hs => obind hs fun k hk hs => ?_) fun hs => ?_
 ·revert hu; apply V.intE hk; intro hu
  apply VV.int_inv hu; intro t
  refine oor hs (fun hs => obind hs fun xs hx hs => oif hs fun hk hs => ?_) fun hs => oor hs (fun hs => obind hs fun xs hx hs => oif hs fun hk hs => ?_) fun hs => oor hs (fun hs => obind hs fun b hx hs => oif hs fun hk hs => ?_) fun hs => oor hs (fun hs => obind hs fun kvs hx hs => ?_) fun hs => obind hs fun xs hx hs => ?_
  ·revert hv; apply V.lstE hx; intro hv
   apply VV.lst_inv hv; intro a_ vs_ n_ ha hvs
   obtain ⟨v', e1, e2⟩ := hvs.at hs
   have hl := listOf_isList (Si.at R gs ha)
   exact sub_tail hl.typeIs slot_list_getitem.lookup (wpAny_getItem_list hl hk.1 (by omega) (x := v') (by simpa using e1) (kS (.pure e2)).1)
  ·revert hv; apply V.tupE hx; intro hv
   apply VV.tup_inv hv; intro a vs nn ha hvs
   obtain ⟨v', e1, e2⟩ := hvs.at hs
   have ht : IsTup hp a vs.toArray := ⟨_, Si.at R gs ha, rfl, nn, rfl⟩
   have hlen := hvs.length
   have hl2 : k < vs.length := by omega
   exact sub_tail ht.typeIs slot_tuple_getitem.lookup (getItem_tuple ht (j := k.toNat) (by omega) (by omega) (by simp [seqIndex?, Int.not_lt.mpr hk.1, hk.1, hl2]) (x := v') (by simpa using e1) (kS (.pure e2)).1)
  ·revert hv; apply V.bytesE hx; intro hv
   revert kS; apply omap hs; intro u' hb kS
   apply VV.bytes_inv hv; intro tb
   obtain ⟨bl⟩ := b
   obtain ⟨hlt, he⟩ := List.getElem?_eq_some_iff.mp (show bl[k.toNat]? = some u' from by simpa using hb)
   have hsz : bl.length ≤ 1000 := hk.2
   have hg : bl.getD k.toNat 0 = u' := by rw [List.getD_eq_getElem?_getD, List.getElem?_eq_getElem hlt, he]; rfl
   refine sub_tail (typeIs_bytes _ _ _) FB.slot_bytes_getitem.lookup (getItem_bytes (l := bl) (by omega) hk.1 (by omega) ?_)
   rw [hg]
   exact (kS (.pure (.int _ _))).2 _
  ·revert hv; apply V.dictE hx; intro hv
   apply VV.dict_inv hv; intro a_ o_ kvs_ hsm ha hd hr
   have hm := hd.at (Si.at R gs ha)
   rcases find_DRs (x := k) hr with ⟨e1, e2⟩ | ⟨X', v', e1, e2, e3⟩
   ·rw [e1] at hs; exact no hs
   ·rw [e1] at hs; cases hs
    exact sub_tail hm.typeIs slot_dict_getitem.lookup (wpAny_getItem_of (knd := intKind prg Ω.w) (k := k) intKey hm.mapOf e2 ((kS (.pure e3)).2 _))
  ·revert kS; apply omap hs; intro z hz kS
   apply rdI_inv Si R gs hv hx; intro a vs hl hvs
   unfold atI at hz
   split at hz
   ·rename_i hk
    obtain ⟨t', e⟩ := IntsAre.get hvs hz
    exact sub_tail hl.typeIs slot_list_getitem.lookup (wpAny_getItem_list hl hk.1 (by omega) (x := .int z t') (by simpa using e) (kS (.pure (.int z t'))).1)
   ·refine oif hz fun hk hz => ?_
    obtain ⟨t', e⟩ := IntsAre.get hvs hz
    have hlen := hvs.length
    exact sub_tail hl.typeIs slot_list_getitem.lookup (wpAny_getItem_list_neg hl hk.1 (by rw [List.size_toArray]; omega) (by omega) (x := .int z t') (by rw [List.size_toArray, hlen]; simpa using e) (kS (.pure (.int z t'))).1)
 ·refine obind hs fun i hi hs => obind hs fun x hx hs => obind hs fun mo hm hs => obind hs fun d hd hs => ?_
  revert hv; apply V.refE hi; intro hv
  revert hu; apply V.strE hx; intro hu
  apply VV.str_inv hu; intro t
  revert hm; apply MO.deckE hd; intro hm
  obtain ⟨a, o, rfl, e1, e2, e3, e4⟩ := ref_at Si R hv hm MO.noConfusion
  cases e3 with
  | @eDeck o v1 u1 _ _ hd h1 h2 =>
   have hd' := hd.at e1
   obtain ⟨w, hw, e⟩ : ∃ w, VV Z as w R' ∧ PySem.valueAt [(("left" : Str), v1), ("mixed", u1)] x = some w := by
    split at hs
    ·rename_i hx'
     cases hs; subst hx'
     exact ⟨_, h1, by simp [PySem.valueAt]⟩
    ·refine oif hs fun hx' hs => ?_
     cases hs; subst hx'
     exact ⟨_, h2, valueAt_mixed _ _⟩
   exact sub_tail hd'.typeIs slot_dict_getitem.lookup (wpAny_getItem_of (knd := PySem.strKind prg Ω.w) strKey hd'.mapOf e ((kS hw).2 _))
theorem Den.sub {value slice : Expr} (D : Den q n Γ md value f) (D' : Den q n Γ md slice g) : Den q n Γ md (.Subscript value slice pos) (.bin subF f g) := fun κ => fun h1 h2 h3 => .mk fun c env ok Z Y as s S =>
 Subscript_ (h1.go D ok S fun v Z₁ as₁ s₁ e₁ hv S₁ => h2.go D' ok S₁ fun u Z₂ as₂ s₂ e₂ hu S₂ => sub_ok ok h3 (hv.mono e₂) hu S₂ fun w Z₃ as₃ s₃ e₃ hw S₃ => ⟨_, Z₃, as₃, rfl, (e₁.trans e₂).trans e₃, hw, S₃⟩)
end
theorem EvE.sub {f g : EF} {st s1 s2 : AS} {X U W : V} (h1 : EvE f st (.ok X) s1) (h2 : EvE g s1 (.ok U) s2) (h3 : subV s2.sto X U = some W) : EvE (.bin subF f g) st (.ok W) s2 := .bin h1 h2 h3
noncomputable def partI (X : V) : Option (Option Int) := ((X.int?).map some).or (if X.isN = true then some none else none)
noncomputable def cutI (xs : List Int) (lo hi : Option Int) : List Int := (xs.drop (kms_lo lo xs.length)).take (kms_hi hi xs.length - kms_lo lo xs.length)
noncomputable def sliceV (σ : List MO) (X A B : V) : Option V := (rdI σ X).bind fun xs => (partI A).bind fun lo => (partI B).bind fun hi => if xs.length ≤ 1000000 then some (.ints (cutI xs lo hi)) else none
noncomputable def EF.slice (f g h : EF) : EF := fun q n Γ md t e => ∀ st, ∀ {s1 s2 s3 X A B W}, EvE f st (.ok X) s1 -> EvE g s1 (.ok A) s2 -> EvE h s2 (.ok B) s3 -> sliceV s3.sto X A B = some W -> Ev q n Γ md t e st (.ok W) s3
noncomputable def EF.onI (F : List Int -> V) (f : EF) : EF := fun q n Γ md t e => ∀ st, ∀ {s1 X} {xs : List Int}, EvE f st (.ok X) s1 -> rdI s1.sto X = some xs -> xs.length ≤ 1000000 -> Ev q n Γ md t e st (.ok (F xs)) s1
noncomputable abbrev EF.rev : EF -> EF := .onI fun xs => .ints xs.reverse
noncomputable abbrev EF.len : EF -> EF := .onI fun xs => .int xs.length
noncomputable abbrev EF.copy : EF -> EF := .onI .ints
noncomputable def EF.on1 (F : V -> Option V) (f : EF) : EF := fun q n Γ md t e => ∀ st, ∀ {s1 X W}, EvE f st (.ok X) s1 -> F X = some W -> Ev q n Γ md t e st (.ok W) s1
noncomputable def ordV (X : V) : Option V := (X.str?).bind fun x => if x.length = 1 then some (.int (x.cps.getD 0 0 : Nat)) else none
noncomputable def intK : V -> Option V
 | .int i => some (.int i)
 | .bool b => some (.int (if b then 1 else 0))
 | _ => none
noncomputable abbrev EF.ord : EF -> EF := .on1 ordV
noncomputable abbrev EF.int : EF -> EF := .on1 intK
section
variable {f g h : EF} {st s1 s2 s3 : AS} {X A B W : V} {xs : List Int}
theorem EvE.slice (h1 : EvE f st (.ok X) s1) (h2 : EvE g s1 (.ok A) s2) (h3 : EvE h s2 (.ok B) s3) (h4 : sliceV s3.sto X A B = some W) : EvE (.slice f g h) st (.ok W) s3 := ⟨@fun κ κ κ κ κ κ D => D _ h1 h2 h3 h4⟩
theorem EvE.onI {F : List Int -> V} (h1 : EvE f st (.ok X) s1) (hr : rdI s1.sto X = some xs) (hl : xs.length ≤ 1000000) : EvE (.onI F f) st (.ok (F xs)) s1 := ⟨@fun κ κ κ κ κ κ D => D _ h1 hr hl⟩
theorem EvE.len (h1 : EvE f st (.ok X) s1) (hr : rdI s1.sto X = some xs) (hl : xs.length ≤ 1000000) : EvE f.len st (.ok (.int xs.length)) s1 := .onI h1 hr hl
theorem EvE.rev (h1 : EvE f st (.ok X) s1) (hr : rdI s1.sto X = some xs) (hl : xs.length ≤ 1000000) : EvE f.rev st (.ok (.ints xs.reverse)) s1 := .onI h1 hr hl
theorem EvE.copy (h1 : EvE f st (.ok X) s1) (hr : rdI s1.sto X = some xs) (hl : xs.length ≤ 1000000) : EvE f.copy st (.ok (.ints xs)) s1 := .onI h1 hr hl
theorem EvE.on1 {F : V -> Option V} (h1 : EvE f st (.ok X) s1) (h2 : F X = some W := by rfl) : EvE (.on1 F f) st (.ok W) s1 := ⟨@fun κ κ κ κ κ κ D => D _ h1 h2⟩
end
section
variable {q : Bool} {n k : Nat} {Γ : Gam} {md : Md} {pos p apos : Pos} {c : Cx} {env : Env} {Z Z' : Fz} {Y : Led} {as as' : List Addr} {st s1 : AS} {s : Shared} {v : Value} {X : V} {Xs : List V} {es : List Expr} {fs : List EF} {f g g' : EF} {e : Expr} {x : Str} {T : Value} {xs : List Int}
inductive DenP (q : Bool) (n : Nat) (Γ : Gam) (md : Md) : Option Expr -> EF -> Prop
 | none : DenP q n Γ md none (.val .none)
 | some {e : Expr} {f : EF} : Den q n Γ md e f -> DenP q n Γ md (some e) f
theorem DenP.go {e : Option Expr} (h : EvE f st (.ok X) s1) (D : DenP q n Γ md e f) (ok : Cx.Ok c Γ q n) (S : St c Γ md env Z Y as st s) {Q E : Value -> Shared -> Prop} (k : ∀ v Z₁ as₁ s₁, Ext Z as Z₁ as₁ -> VV Z₁ as₁ v X -> St c Γ md env Z₁ Y as₁ s1 s₁ -> Q v s₁) : wpAny (model prg Ω.w) c.A (evalPart e env) Q E s := by
 cases D with
 | none => exact h.go (e := .Constant .none 0 ⟨0, 0, 0, 0⟩) .cnone ok S k
 | some D => exact h.go D ok S k
theorem partI_of {o : Option Int} (hv : VV Z as v X) (h : partI X = some o) : IsPart v o := by
 refine oor h (fun h => ?_) fun h => oif h fun h1 h => ?_
 ·apply omap h; intro i hi
  revert hv; apply V.intE hi; intro hv
  apply VV.int_inv hv; exact fun t => .int _ _
 ·apply osome h
  revert hv; apply V.isNE h1; intro hv
  apply VV.none_inv hv; exact .none
theorem Den.slice {value : Expr} {lo hi : Option Expr} (D : Den q n Γ md value f) (Dl : DenP q n Γ md lo g) (Dh : DenP q n Γ md hi g') : Den q n Γ md (.Subscript value (.Slice lo hi none p) pos) (.slice f g g') := fun κ => fun h1 h2 h3 h4 => .mk fun c env ok Z Y as s S => by
 refine Subscript_ (h1.go D ok S fun v Z₁ as₁ s₁ e₁ hv S₁ => wpAny_Slice (Dl.go h2 ok S₁ fun a Z₂ as₂ s₂ e₂ ha S₂ => Dh.go h3 ok S₂ fun b Z₃ as₃ s₃ e₃ hb S₃ => wpAny_pure ?_))
 refine obind h4 fun xs hx h4 => obind h4 fun l' hl h4 => obind h4 fun h' hh h4 => oif h4 fun hsz h4 => ?_
 apply osome h4
 apply St.openE S₃; intro gg m M hp tk Si R LO CO EO S'
 obtain ⟨news, N, cv⟩ := Si.NL
 apply rdI_inv Si R ok.gs ((hv.mono e₂).mono e₃) hx; intro av vs hli hvs
 have hli' : (hp.push { cls := .type "slice", data := .fields #[a, b, .none] }).IsList av vs.toArray := hli.push _
 refine sub_tail (Heap.IsList.typeIs (s := { Ω.s₀ with heap := hp.push _, toks := tk }) hli') list_getitem_lookup ?_
 refine wpAny_getItem_list_slice hli' (Heap.IsSliceOf.new ..) (partI_of (ha.mono e₃) hl) (partI_of hb hh) .none (by simp) ?_ (by rw [List.size_toArray, hvs.length]; exact sl hsz)
 have F1 := Si.F.push { cls := .type "slice", data := .fields #[a, b, .none] }
 have N1 := News.push F1 (N.grown fun κ κ e => Heap.get?_push_of_some _ e) { cls := .type "list", data := .seq (slicePick vs.toArray l' h' none) }
 refine ⟨_, _, as₃, rfl, ((e₁.trans e₂).trans e₃).trans Ext.add, .pure (.ints (n := 0) (vs := (slicePick vs.toArray l' h' none).toList) (.inl (.inr ⟨rfl, by rw [Array.toArray_toList]⟩)) (kssn_any hvs)), new_fz Si R LO CO EO cv (F1.push _) N1 ?_⟩
 rw [Heap.size_push]; exact (Si.fresh (Nat.le_succ hp.objs.size)).1
theorem Den.rev {value : Expr} {kk : Nat} {p1 p2 : Pos} (D : Den q n Γ md value f) : Den q n Γ md (.Subscript value (.Slice none none (some (.UnaryOp .USub (.Constant (.int 1) kk p1) p2)) p) pos) (.rev f) := fun κ => fun h1 hx hsz => .mk fun c env ok Z Y as s S => by
 refine Subscript_ (h1.go D ok S fun v Z₁ as₁ s₁ e₁ hv S₁ => wpAny_Slice (wpAny_pure (wpAny_pure ?_)))
 refine wpAny_UnaryOp (x := .Constant (.int 1) kk p1) (pos := p2) (env := env) (wpAny_Constant_int (P.neg_int ?_))
 apply St.openE S₁; intro gg m M hp tk Si R LO CO EO S'
 obtain ⟨news, N, cv⟩ := Si.NL
 apply rdI_inv Si R ok.gs hv hx; intro av vs hli hvs
 have hli' : (hp.push { cls := .type "slice", data := .fields #[.none, .none, .int (-1) (tk + 1)] }).IsList av vs.toArray := hli.push _
 refine sub_tail (Heap.IsList.typeIs (s := { Ω.s₀ with heap := hp.push _, toks := tk + 1 + 1 }) hli') list_getitem_lookup ?_
 refine wpAny_getItem_list_slice hli' (Heap.IsSliceOf.new ..) .none .none (.int _ _) (by decide) ?_ (by rw [List.size_toArray, hvs.length]; exact sl hsz)
 have F1 := Si.F.push { cls := .type "slice", data := .fields #[.none, .none, .int (-1) (tk + 1)] }
 have N1 := News.push F1 (N.grown fun κ κ e => Heap.get?_push_of_some _ e) { cls := .type "list", data := .seq (slicePick vs.toArray none none (some (-1))) }
 refine ⟨_, _, as₁, rfl, e₁.trans Ext.add, .pure (.ints (n := 0) (vs := vs.reverse) (.inl (.inr ⟨rfl, by rw [krv_pick]⟩)) hvs.reverse), new_fz Si R LO CO EO cv (F1.push _) N1 ?_⟩
 rw [Heap.size_push]; exact (Si.fresh (Nat.le_succ hp.objs.size)).1
noncomputable def isBT : Value -> Bool
 | .builtin _ => true
 | .type _ => true
 | _ => false
theorem call_b (hT : isBT T = true) (Df : Den q n Γ md (.Name x p) (.val (.val T))) (Ds : Dens q n Γ md es fs) (hu : unstarred es = true) (h1 : EvL fs st Xs s1) (ok : Cx.Ok c Γ q n) (S : St c Γ md env Z Y as st s) {Q E : Value -> Shared -> Prop}
  (k : ∀ vs Z₁ as₁ s₁, Ext Z as Z₁ as₁ -> VVs Z₁ as₁ vs Xs -> St c Γ md env Z₁ Y as₁ s1 s₁ -> wpAny (model prg Ω.w) c.A (PySem.call T vs) Q E s₁) : wpAny (model prg Ω.w) c.A (eval (.Call (.Name x p) es [] pos) env) Q E s := by
 refine Call_ (EvE.val.go Df ok S fun v Z₁ as₁ s₁ e₁ hv S₁ => ?_)
 apply VV.val_inv hv
 refine callWith_es (P := fun κ => True) hu (fun h κ => ⟨.machine, .inr (.inl rfl), ?_⟩) (h1.go Ds hu ok S₁ fun vs Z₂ as₂ s₂ e₂ hvs S₂ => ⟨trivial, k vs Z₂ as₂ s₂ (e₁.trans e₂) hvs S₂⟩)
 cases T <;> first | exact .now | cases hT
theorem VVs.one {vs : List Value} {C : List Value -> Prop} (h : VVs Z as vs [X]) (k : ∀ v, VV Z as v X -> C [v]) : C vs := by
 cases h with
 | cons a b => cases b; exact k _ a
theorem call_1 (hT : isBT T = true) (Df : Den q n Γ md (.Name x p) (.val (.val T))) (D : Den q n Γ md e f) (hu : unstarred [e] = true) (h1 : EvE f st (.ok X) s1) (ok : Cx.Ok c Γ q n) (S : St c Γ md env Z Y as st s) {Q E : Value -> Shared -> Prop}
  (k : ∀ v Z₁ as₁ s₁, Ext Z as Z₁ as₁ -> VV Z₁ as₁ v X -> St c Γ md env Z₁ Y as₁ s1 s₁ -> wpAny (model prg Ω.w) c.A (PySem.call T [v]) Q E s₁) : wpAny (model prg Ω.w) c.A (eval (.Call (.Name x p) [e] [] pos) env) Q E s :=
 call_b hT Df (.cons D .nil) hu (.cons h1 .nil) ok S fun vs Z₁ as₁ s₁ e₁ hvs S₁ => by apply hvs.one; exact fun v hv => k v Z₁ as₁ s₁ e₁ hv S₁
theorem Den.len (Df : Den q n Γ md (.Name "len" p) (.val (.val (.builtin "len")))) (D : Den q n Γ md e f) (hu : unstarred [e] = true) : Den q n Γ md (.Call (.Name "len" p) [e] [] pos) (.len f) := fun κ => fun h1 hx hsz => .mk fun c env ok Z Y as s S =>
 call_1 rfl Df D hu h1 ok S fun v Z₁ as₁ s₁ e₁ hv S₁ => by
  apply St.openE S₁; intro gg m M hp tk Si R LO CO EO S'
  apply rdI_inv Si R ok.gs hv hx; intro av ws hli hws
  refine call_len_list hli (by rw [List.size_toArray, hws.length]; omega) ?_
  rw [List.size_toArray, hws.length]
  exact ⟨_, Z₁, as₁, rfl, e₁, .pure (.int _ _), S'.toks _⟩
theorem Den.copy (Df : Den q n Γ md (.Name "list" p) (.val (.val (.type "list")))) (D : Den q n Γ md e f) (hu : unstarred [e] = true) : Den q n Γ md (.Call (.Name "list" p) [e] [] pos) (.copy f) := fun κ => fun h1 hx hsz => .mk fun c env ok Z Y as s S =>
 call_1 rfl Df D hu h1 ok S fun v Z₁ as₁ s₁ e₁ hv S₁ => by
  apply St.openE S₁; intro gg m M hp tk Si R LO CO EO S'
  apply rdI_inv Si R ok.gs hv hx; intro av ws hli hws
  obtain ⟨news, N, cv⟩ := Si.NL
  exact list_copyK Si.F N hli (fun D cc h' F' N' lt => ⟨_, _, as₁, rfl, e₁.trans Ext.add, .pure (.ints (.inl (.inr ⟨rfl, rfl⟩)) hws), new_fz Si R LO CO EO cv F' N' (Sit.none_of cv lt)⟩) (by rw [List.size_toArray, hws.length]; exact sl hsz)
theorem Den.ord (Df : Den q n Γ md (.Name "ord" p) (.val (.val (.builtin "ord")))) (D : Den q n Γ md e f) (hu : unstarred [e] = true) : Den q n Γ md (.Call (.Name "ord" p) [e] [] pos) (.ord f) := fun κ => fun h1 hx => .mk fun c env ok Z Y as s S =>
 call_1 rfl Df D hu h1 ok S fun v Z₁ as₁ s₁ e₁ hv S₁ => obind hx fun x hx h => oif h fun hl h => by
  apply osome h
  revert hv; apply V.strE hx; intro hv
  apply VV.str_inv hv; intro t
  exact ord_of_one hl ⟨_, Z₁, as₁, rfl, e₁, .pure (.int _ _), S₁.toks _⟩
theorem Den.int (Df : Den q n Γ md (.Name "int" p) (.val (.val (.type "int")))) (D : Den q n Γ md e f) (hu : unstarred [e] = true) : Den q n Γ md (.Call (.Name "int" p) [e] [] pos) (.int f) := fun κ {κ X W} h1 hx => .mk fun c env ok Z Y as s S =>
 call_1 rfl Df D hu h1 ok S fun v Z₁ as₁ s₁ e₁ hv S₁ => by
  cases X with
  | int i => apply VV.int_inv hv; intro t; apply osome hx; exact call_int_int ⟨_, Z₁, as₁, rfl, e₁, .pure (.int _ _), S₁⟩
  | bool b => apply VV.bool_inv hv; apply osome hx; exact call_int_bool ⟨_, Z₁, as₁, rfl, e₁, .pure (.int _ _), S₁.toks _⟩
  | _ => exact no hx
end
noncomputable def MO.list? : MO -> Option (List V)
 | .list i => some i
 | _ => none
noncomputable def MO.isL : MO -> Bool
 | .ints _ => true
 | .list _ => true
 | _ => false
noncomputable def appM (mo : MO) (X : V) : Option MO := ((mo.ints?).bind fun xs => ((X.int?).bind fun c => if xs.length ≤ 1000000 then some (.ints (xs ++ [c])) else none).or (if X.pureB = true ∧ xs.length ≤ 1000000 then some (.list (xs.map V.int ++ [X])) else none)).or
 ((mo.list?).bind fun xs => if X.pureB = true ∧ xs.length ≤ 1000000 then some (.list (xs ++ [X])) else none)
noncomputable def extM (mo : MO) (X : V) : Option MO := (mo.ints?).bind fun xs => (X.ints?).bind fun ys => if xs.length + ys.length ≤ 1000000 then some (.ints (xs ++ ys)) else none
noncomputable def isL (σ : List MO) (i : Nat) : Bool := (σ[i]?).any MO.isL
noncomputable def EF.chg (F : MO -> V -> Option MO) (f g : EF) : EF := fun q n Γ md t e => (∀ {st s1 l c v τ i X mo mo'}, EvE f st (.ok (.ref i)) s1 -> isL s1.sto i = true -> EvE g s1 (.ok X) ⟨l, c, v, τ⟩ -> τ[i]? = some mo -> F mo X = some mo' -> Ev q n Γ md t e st (.ok .none) ⟨l, c, v, τ.set i mo'⟩) ∧
 ∀ {st s1 s2 i C X}, EvE f st (.ok (.ref i)) s1 -> isL s1.sto i = true -> EvE g s1 (.exn C X) s2 -> Ev q n Γ md t e st (.exn C X) s2
noncomputable abbrev EF.append : EF -> EF -> EF := .chg appM
noncomputable abbrev EF.extend : EF -> EF -> EF := .chg extM
noncomputable def EF.pop0 (f : EF) : EF := fun q n Γ md t e => ∀ st, ∀ {l c v τ i x} {xs : List Int}, EvE f st (.ok (.ref i)) ⟨l, c, v, τ⟩ -> τ[i]? = some (.ints (x :: xs)) -> xs.length ≤ 1000000 -> Ev q n Γ md t e st (.ok (.int x)) ⟨l, c, v, τ.set i (.ints xs)⟩
noncomputable def EF.get2 (f g h : EF) : EF := fun q n Γ md t e => ∀ st, ∀ {s1 s2 s3 D k W}, EvE f st (.ok (.dict D)) s1 -> EvE g s1 (.ok (.int k)) s2 -> EvE h s2 (.ok W) s3 -> W.pureB = true -> Ev q n Γ md t e st (.ok ((atKey D k).getD W)) s3
noncomputable def V.okA : V -> Bool
 | .ints _ => true
 | .int _ => true
 | .tup _ => true
 | _ => false
noncomputable def EF.attr (j : Nat) (f : EF) : EF := fun q n Γ md t e => ∀ st, ∀ {s1 i fl X}, EvE f st (.ok (.inst i)) s1 -> s1.sto[i]? = some (.inst fl) -> fl[j]? = some X -> X.okA = true -> Ev q n Γ md t e st (.ok X) s1
noncomputable def setA (j : Nat) (X : V) (fs : List V) : Option (List V) := if j ≤ fs.length ∧ j < 2 ∧ fs.length ≤ 2 then some (fs.take j ++ X :: fs.drop (j + 1)) else none
noncomputable def SF.setA (j : Nat) (f g : EF) : SF := fun q n Γ b => ∀ st, ∀ {s1 l c v τ i X fl fl'}, EvE f st (.ok X) s1 -> EvE g s1 (.ok (.inst i)) ⟨l, c, v, τ⟩ -> τ[i]? = some (.inst fl) -> Mine.setA j X fl = some fl' -> EvB q n Γ b st .next ⟨l, c, v, τ.set i (.inst fl')⟩
noncomputable def SF.augA (j : Nat) (g f : EF) : SF := fun q n Γ b => ∀ st, ∀ {s1 l c v τ i x y fl fl' fl''}, EvE g st (.ok (.inst i)) s1 -> s1.sto[i]? = some (.inst fl) -> fl[j]? = some (.int x) -> EvE f s1 (.ok (.int y)) ⟨l, c, v, τ⟩ -> τ[i]? = some (.inst fl') -> Mine.setA j (.int (x + y)) fl' = some fl'' -> EvB q n Γ b st .next ⟨l, c, v, τ.set i (.inst fl'')⟩
section
variable {f g h : EF} {st s1 s2 s3 : AS} {X U W : V} {l : List V} {c : List Nat} {v : V} {τ : List MO} {i j : Nat} {C : Addr}
theorem EvE.append {mo mo' : MO} (h1 : EvE f st (.ok (.ref i)) s1) (hL : isL s1.sto i = true) (h2 : EvE g s1 (.ok X) ⟨l, c, v, τ⟩) (hm : τ[i]? = some mo) (ha : appM mo X = some mo') : EvE (.append f g) st (.ok .none) ⟨l, c, v, τ.set i mo'⟩ := ⟨@fun κ κ κ κ κ κ D => D.1 h1 hL h2 hm ha⟩
theorem EvE.appendX (h1 : EvE f st (.ok (.ref i)) s1) (hL : isL s1.sto i = true) (h2 : EvE g s1 (.exn C X) s2) : EvE (.append f g) st (.exn C X) s2 := ⟨@fun κ κ κ κ κ κ D => D.2 h1 hL h2⟩
theorem EvE.extend {mo mo' : MO} (h1 : EvE f st (.ok (.ref i)) s1) (hL : isL s1.sto i = true) (h2 : EvE g s1 (.ok X) ⟨l, c, v, τ⟩) (hm : τ[i]? = some mo) (ha : extM mo X = some mo') : EvE (.extend f g) st (.ok .none) ⟨l, c, v, τ.set i mo'⟩ := ⟨@fun κ κ κ κ κ κ D => D.1 h1 hL h2 hm ha⟩
theorem EvE.extendX (h1 : EvE f st (.ok (.ref i)) s1) (hL : isL s1.sto i = true) (h2 : EvE g s1 (.exn C X) s2) : EvE (.extend f g) st (.exn C X) s2 := ⟨@fun κ κ κ κ κ κ D => D.2 h1 hL h2⟩
theorem EvE.pop0 {x : Int} {xs : List Int} (h1 : EvE f st (.ok (.ref i)) ⟨l, c, v, τ⟩) (hm : τ[i]? = some (.ints (x :: xs))) (hl : xs.length ≤ 1000000) : EvE (.pop0 f) st (.ok (.int x)) ⟨l, c, v, τ.set i (.ints xs)⟩ := ⟨@fun κ κ κ κ κ κ D => D _ h1 hm hl⟩
theorem EvE.get2 {D : List (Int × V)} {k : Int} (h1 : EvE f st (.ok (.dict D)) s1) (h2 : EvE g s1 (.ok (.int k)) s2) (h3 : EvE h s2 (.ok W) s3) (hW : W.pureB = true := by rfl) : EvE (.get2 f g h) st (.ok ((atKey D k).getD W)) s3 := ⟨@fun κ κ κ κ κ κ D => D _ h1 h2 h3 hW⟩
theorem EvE.attr {fl : List V} (h1 : EvE f st (.ok (.inst i)) s1) (hs : s1.sto[i]? = some (.inst fl)) (hj : fl[j]? = some X) (hX : X.okA = true := by rfl) : EvE (.attr j f) st (.ok X) s1 := ⟨@fun κ κ κ κ κ κ D => D _ h1 hs hj hX⟩
theorem EvS.setA {fl fl' : List V} (h1 : EvE f st (.ok X) s1) (h2 : EvE g s1 (.ok (.inst i)) ⟨l, c, v, τ⟩) (h3 : τ[i]? = some (.inst fl)) (h4 : Mine.setA j X fl = some fl') : EvS (.setA j f g) st .next ⟨l, c, v, τ.set i (.inst fl')⟩ := ⟨@fun κ κ κ κ D => D _ h1 h2 h3 h4⟩
theorem EvS.augA {fl fl' fl'' : List V} {x y : Int} (h1 : EvE g st (.ok (.inst i)) s1) (h2 : s1.sto[i]? = some (.inst fl)) (h3 : fl[j]? = some (.int x)) (h4 : EvE f s1 (.ok (.int y)) ⟨l, c, v, τ⟩) (h5 : τ[i]? = some (.inst fl')) (h6 : Mine.setA j (.int (x + y)) fl' = some fl'') :
  EvS (.augA j g f) st .next ⟨l, c, v, τ.set i (.inst fl'')⟩ := ⟨fun D => D _ h1 h2 h3 h4 h5 h6⟩
end
section
variable {q : Bool} {n k : Nat} {Γ : Gam} {md : Md} {pos p apos : Pos}
theorem meth_b {o : Expr} {name : Str} {T id : String} {es : List Expr} {c : Cx} {env : Env} {Q : Value -> Shared -> Prop} {E : Value -> Shared -> Prop} {s : Shared} (pa : PlainAttrs T) (slot : Slot T name id) (hty : typeOf (.builtin id) = pure (.type "method_descriptor")) (hu : unstarred es = true) (hlen : es.length < 20) (hline : (apos.endLine == pos.line) = true) (hbase : attributeBase o name env (eval o env) = eval o env)
  (h : wpAny (model prg Ω.w) c.A (eval o env) (fun ov s₁ => s₁.TypeIs ov T ∧ (∀ a, ov = .ref a -> ∃ ob, s₁.heap.get? a = some ob ∧ ob.dict = none) ∧ wpAny (model prg Ω.w) c.A (spliced (backTo pos (starEach es env))) (fun vs s₂ => wpAny (model prg Ω.w) c.A (PySem.call (.builtin id) (ov :: vs)) Q E s₂) E s₁) E s) :
  wpAny (model prg Ω.w) c.A (eval (.Call (.Attribute o name apos) es [] pos) env) Q E s := by
 refine methCall hu hlen hbase hline (wpAny_mono h (fun ov s₁ h₁ pl => ?_) fun κ κ x => x)
 refine getMethod_builtin h₁.1 pa slot hty h₁.2.1 ?_
 refine callWith_es (P := fun κ => True) hu (fun h κ => ⟨.machine, .inr (.inl rfl), .now⟩) (wpAny_mono h₁.2.2 (fun vs s₂ h₂ => ⟨trivial, h₂⟩) fun κ κ x => x)
theorem list_dict {h : Heap} {a : Addr} {its : Array Value} {nn : Nat} (e : h.get? a = some (listOf its nn)) : ∀ b, Value.ref a = .ref b -> ∃ ob, h.get? b = some ob ∧ ob.dict = none := fun b hb => by cases hb; exact ⟨_, e, rfl⟩
theorem St.chgM {c : Cx} {env : Env} {g h h' : Heap} {m : Str -> Option Value} {M : Addr -> Option (Tag × Obj)} {Z : Fz} {Y : Led} {as : List Addr} {st : AS} {i : Nat} {a : Addr} {o o' : Obj} {mo' : MO} {tk : Tok} (Si : Sit c Γ g m M h) (R : Rel M Z Y as st.sto) (LO : LocOk Γ m Z as st.loc) (CO : CelOk c Γ as st.cl)
  (EO : EnvOk Γ c Z Y as md env st.cv) (hM : M a = some (.mut i, o)) (ha : as[i]? = some a) (hs : Heap.SameBut a h h') (ho : h'.get? a = some o') (he : ER Z as mo' o') : St c Γ md env Z Y as ⟨st.loc, st.cl, st.cv, st.sto.set i mo'⟩ { Ω.s₀ with heap := h', toks := tk } :=
 ⟨g, m, _, h', tk, rfl, Si.chg hM hs ho, R.chg hM ha he, LO, CO, EO⟩
variable {c : Cx} {env : Env} {g₀ h : Heap} {m : Str -> Option Value} {M : Addr -> Option (Tag × Obj)} {Z : Fz} {Y : Led} {as : List Addr} {σ : List MO} {st : AS} {s : Shared} {i j : Nat} {v u : Value} {X A : V} {mo mo' : MO} {o e d : Expr} {f g k' : EF} {name : Str} {fs fs' : List V}
theorem ER.isL {o : Obj} (he : ER Z as mo o) (h : mo.isL = true) : ∃ its nn, o = listOf its nn := by
 cases he with
 | eInts => exact ⟨_, _, rfl⟩
 | eList => exact ⟨_, _, rfl⟩
 | _ => cases h
theorem isL_at {C : Value -> Prop} (Si : Sit c Γ g₀ m M h) (R : Rel M Z Y as σ) (hv : VV Z as v (.ref i)) (hl : isL σ i = true) (k : ∀ a its nn, h.get? a = some (listOf its nn) -> C (.ref a)) : C v := by
 obtain ⟨mo, hm, hl⟩ : ∃ mo, σ[i]? = some mo ∧ mo.isL = true := by
  unfold isL at hl
  cases q : σ[i]? with
  | none => rw [q] at hl; cases hl
  | some mo => rw [q] at hl; exact ⟨mo, rfl, hl⟩
 obtain ⟨a, o, rfl, h1, h2, h3, h4⟩ := ref_at Si R hv hm (fun e => by rw [e] at hl; cases hl)
 obtain ⟨its, nn, rfl⟩ := h3.isL hl
 exact k a its nn h1
theorem MO.listE {C : MO -> Prop} {a : List V} (h : mo.list? = some a) (k : C (.list a)) : C mo := by cases mo <;> first | exact no h | (cases h; exact k)
theorem ER.push_list {o : Obj} {xs : List V} {vs : List Value} {nn : Nat} (hvs : VRs Z vs xs) (hv : VV Z as v X) (hp : X.pureB = true) : ER Z as (.list (xs ++ [X])) (listOf (vs.toArray.push v) nn) := by
 have := ER.eList (Z := Z) (as := as) (n := nn) (hvs.append (.cons (hv.toR hp) .nil))
 simpa using this
theorem ER.ints_inv {o : Obj} {xs : List Int} {C : Obj -> Prop} (he : ER Z as (.ints xs) o) (k : ∀ vs nn, IntsAre vs xs -> C (listOf vs.toArray nn)) : C o := by cases he; exact k _ _ ‹_›
theorem ER.list_inv {o : Obj} {xs : List V} {C : Obj -> Prop} (he : ER Z as (.list xs) o) (k : ∀ vs nn, VRs Z vs xs -> C (listOf vs.toArray nn)) : C o := by cases he; exact k _ _ ‹_›
theorem appM_ok {o : Obj} (he : ER Z as mo o) (hv : VV Z as v A) (h : appM mo A = some mo') : ∃ its nn, o = listOf its nn ∧ its.size ≤ 1000000 ∧ ER Z as mo' (listOf (its.push v) (nn + 1)) := by
 refine oor h (fun h => obind h fun xs hx h => ?_) fun h => obind h fun xs hx h => oif h fun hs h => ?_
 ·revert he; apply MO.intsE hx; intro he
  apply ER.ints_inv he; intro vs nn hi
  refine ⟨_, _, rfl, ?_⟩
  rw [List.size_toArray, hi.length]
  refine oor h (fun h => obind h fun ci hc h => oif h fun hs h => ⟨hs, ?_⟩) fun h => oif h fun hs h => ⟨hs.2, ?_⟩
  ·apply osome h
   revert hv; apply V.intE hc; intro hv
   apply VV.int_inv hv; intro t
   have := ER.eInts (Z := Z) (as := as) (n := nn + 1) (hi.append (.cons ci t .nil))
   simpa using this
  ·apply osome h; exact .push_list (o := o) (.ints hi) hv hs.1
 ·revert he; apply MO.listE hx; intro he
  apply ER.list_inv he; intro vs nn hi
  apply osome h
  exact ⟨_, _, rfl, by rw [List.size_toArray, hi.length]; exact hs.2, .push_list (o := o) hi hv hs.1⟩
theorem arg1 {st s1 : AS} {Q : List Value -> Shared -> Prop} {E : Value -> Shared -> Prop} (h2 : EvE g st (.ok X) s1) (D' : Den q n Γ md e g) (hu : unstarred [e] = true) (ok : Cx.Ok c Γ q n) (S : St c Γ md env Z Y as st s) (k : ∀ v Z₁ as₁ s₁, Ext Z as Z₁ as₁ -> VV Z₁ as₁ v X -> St c Γ md env Z₁ Y as₁ s1 s₁ -> Q [v] s₁) :
  wpAny (model prg Ω.w) c.A (spliced (backTo pos (starEach [e] env))) Q E s :=
 (EvL.cons h2 .nil).go (.cons D' .nil) hu ok S fun vs Z₂ as₂ s₂ e₂ hvs S₂ => by apply hvs.one; exact fun v hv => k v Z₂ as₂ s₂ e₂ hv S₂
theorem chg_go {F : MO -> V -> Option MO} {id : String} (slot : Slot "list" name id) (hty : typeOf (.builtin id) = pure (.type "method_descriptor")) (D : Den q n Γ md o f) (D' : Den q n Γ md e g) (hu : unstarred [e] = true) (hline : (apos.endLine == pos.line) = true) (hbase : ∀ env, attributeBase o name env (eval o env) = eval o env)
  (hc : ∀ {c env Z Y as l cl cv τ i X mo mo' s v a} {Q E : Value -> Shared -> Prop}, Cx.Ok c Γ q n -> VV Z as (.ref a) (.ref i) -> VV Z as v X -> St c Γ md env Z Y as ⟨l, cl, cv, τ⟩ s -> τ[i]? = some mo -> F mo X = some mo' -> (∀ s', St c Γ md env Z Y as ⟨l, cl, cv, τ.set i mo'⟩ s' -> Q .none s') -> wpAny (model prg Ω.w) c.A (PySem.call (.builtin id) [.ref a, v]) Q E s) :
  Den q n Γ md (.Call (.Attribute o name apos) [e] [] pos) (.chg F f g) :=
 ⟨fun h1 hL h2 hm ha => .mk fun c env ok Z Y as s S => meth_b PySem.F.plainAttrs_list slot hty hu (by show 1 < 20; decide) hline (hbase env) (h1.go D ok S fun v Z₁ as₁ s₁ e₁ hv S₁ => by
  apply St.openE S₁; intro gg m M hp tk Si R LO CO EO S'
  have hv₀ := hv
  revert hv₀; apply isL_at Si R hv hL; intro a its nn hg hv
  exact ⟨⟨_, hg, rfl⟩, list_dict hg, arg1 h2 D' hu ok S' fun v' Z₂ as₂ s₂ e₂ hv' S₂ => hc ok (hv.mono e₂) hv' S₂ hm ha fun s' S₃ => ⟨.none, Z₂, as₂, rfl, e₁.trans e₂, .pure .none, S₃⟩⟩),
  fun h1 hL h2 => .mk fun c env ok Z Y as s S => meth_b PySem.F.plainAttrs_list slot hty hu (by show 1 < 20; decide) hline (hbase env) (h1.go D ok S fun v Z₁ as₁ s₁ e₁ hv S₁ => by
  apply St.openE S₁; intro gg m M hp tk Si R LO CO EO S'
  apply isL_at Si R hv hL; intro a its nn hg
  exact ⟨⟨_, hg, rfl⟩, list_dict hg, args_cons (wpAny_mono (h2.goX D' ok S') (fun κ κ x => x) fun κ κ x => x.ext e₁) (starEach_cons hu)⟩)⟩
theorem Den.append (D : Den q n Γ md o f) (D' : Den q n Γ md e g) (hu : unstarred [e] = true) (hline : (apos.endLine == pos.line) = true) (hbase : ∀ env, attributeBase o "append" env (eval o env) = eval o env := by intro _; rfl) :
  Den q n Γ md (.Call (.Attribute o "append" apos) [e] [] pos) (.append f g) := chg_go PySem.F.slot_list_append PySem.F.type_list_append D D' hu hline hbase fun {c env Z Y as l cl cv τ i X mo mo' s v a Q E} ok hr hv S hm ha k => by
 apply St.openE S; intro gg m M hp tk Si R LO CO EO S'
 obtain ⟨a', o', q1, q2, q3, q4, q5⟩ := ref_at Si R hr hm (by rintro rfl; cases ha)
 cases q1
 obtain ⟨its', nn', rfl, hsz, he⟩ := appM_ok q4 hv ha
 exact append_at q2 (fun h' hs ho => k _ (St.chgM Si R LO CO EO q3 q5 hs ho he)) (sl hsz)
theorem Den.extend (D : Den q n Γ md o f) (D' : Den q n Γ md e g) (hu : unstarred [e] = true) (hline : (apos.endLine == pos.line) = true) (hbase : ∀ env, attributeBase o "extend" env (eval o env) = eval o env := by intro _; rfl) :
  Den q n Γ md (.Call (.Attribute o "extend" apos) [e] [] pos) (.extend f g) := chg_go PySem.F.slot_list_extend PySem.F.type_list_extend D D' hu hline hbase fun {c env Z Y as l cl cv τ i X mo mo' s v a Q E} ok hr hv S hm ha k => by
 refine obind ha fun xs h1 ha => obind ha fun ys h2 ha => oif ha fun hsz ha => ?_
 revert k; apply osome ha; intro k
 apply St.openE S; intro gg m M hp tk Si R LO CO EO S'
 revert hm; apply MO.intsE h1; intro hm
 revert hv; apply V.intsE h2; intro hv
 obtain ⟨a', o', q1, q2, q3, q4, q5⟩ := ref_at Si R hr hm MO.noConfusion
 cases q1
 revert q2 q3; apply ER.ints_inv q4; intro vs1 n1 hi q2 q3
 apply VV.ints_inv hv; intro b us n2 hb hj
 have hbg := Si.at R ok.gs hb
 have l1 := hi.length
 have l2 := hj.length
 have hss := sizeLine_eq
 have hup := PySem.IsL.update (h := hp) (l := a) (items := vs1.toArray) (n := n1) q2 (fun x => x ++ us.toArray)
 refine call_meets PySem.F.slot_list_extend ⟨_, q2, rfl⟩ PySem.F.entry_list_extend (PySem.F.args_list_extend_2 _ _) (PySem.AutoSeq1.list_extend_list_list_0 a vs1.toArray n1 b us.toArray n2 ?_ ?_ ?_) ⟨q2, hbg, ?_⟩
 ·simp only [Bool.and_eq_true, Builtin.List.listTooLong, decide_eq_true_eq, not_and, List.size_toArray, hss]
  intro _; omega
 ·rw [List.size_toArray, l1]; exact sl (by omega)
 ·rw [List.size_toArray, List.size_toArray, l1, l2]; omega
 ·refine k _ (St.chgM Si R LO CO EO q3 q5 (Heap.SameBut.update ..) hup ?_)
  have := ER.eInts (Z := Z) (as := as) (n := (if (vs1.toArray ++ us.toArray).size == vs1.toArray.size then n1 else n1 + 1)) (hi.append hj)
  simpa using this
theorem Den.pop0 {kk : Nat} {p1 : Pos} (D : Den q n Γ md o f) (hline : (apos.endLine == pos.line) = true) (hbase : ∀ env, attributeBase o "pop" env (eval o env) = eval o env := by intro _; rfl) :
  Den q n Γ md (.Call (.Attribute o "pop" apos) [.Constant (.int 0) kk p1] [] pos) (.pop0 f) := fun κ {κ κ κ κ κ x κ} h1 hm hsz => .mk fun c env ok Z Y as s S => meth_b PySem.F.plainAttrs_list PySem.F.slot_list_pop PySem.F.type_list_pop (by rfl) (by show 1 < 20; decide) hline (hbase env) (h1.go D ok S fun v Z₁ as₁ s₁ e₁ hv S₁ => by
 apply St.openE S₁; intro gg m M hp tk Si R LO CO EO S'
 obtain ⟨a, o', rfl, q2, q3, q4, q5⟩ := ref_at Si R hv hm MO.noConfusion
 revert q2 q3; apply ER.ints_inv q4; intro vs nn hi q2 q3
 cases hi with
 | @cons _ t vs' _ hi' =>
  refine ⟨⟨_, q2, rfl⟩, list_dict q2, args_cons (wpAny_Constant_int (args_nil ?_)) rfl⟩
  have l1 := hi'.length
  have hup := PySem.IsL.update (h := hp) (l := a) (items := (Value.int x t :: vs').toArray) (n := nn) q2 (fun xs => xs.eraseIdxIfInBounds 0)
  refine call_meets PySem.F.slot_list_pop ⟨_, q2, rfl⟩ PySem.F.entry_list_pop (PySem.F.args_list_pop_2 _ _) (PySem.MeetsSeq.list_pop_at a (Value.int x t :: vs').toArray nn 0 _ 0 (.int x t) (by decide) (by simp [seqIndex?]) (by simp) (by rw [List.size_toArray, List.length_cons, l1]; have := sizeLine_eq; omega)) ⟨q2, ?_⟩
  refine ⟨.int x, Z₁, as₁, rfl, e₁, .pure (.int x t), St.chgM Si R LO CO EO q3 q5 (Heap.SameBut.update ..) hup ?_⟩
  have e0 : (Value.int x t :: vs').toArray.eraseIdxIfInBounds 0 = vs'.toArray := by simp [Array.eraseIdxIfInBounds]
  rw [e0]
  exact .eInts hi')
theorem Den.get2 (D : Den q n Γ md o f) (D' : Den q n Γ md e g) (D'' : Den q n Γ md d k') (hu : unstarred [e, d] = true) (hline : (apos.endLine == pos.line) = true) (hbase : ∀ env, attributeBase o "get" env (eval o env) = eval o env := by intro _; rfl) :
  Den q n Γ md (.Call (.Attribute o "get" apos) [e, d] [] pos) (.get2 f g k') := fun κ {κ κ κ κ kx κ} h1 h2 h3 hpb => .mk fun c env ok Z Y as s S => meth_b F.plainAttrs_dict F.slot_dict_get F.type_dict_get hu (by show 2 < 20; decide) hline (hbase env) (h1.go D ok S fun v Z₁ as₁ s₁ e₁ hv S₁ => by
 apply St.openE S₁; intro gg m M hp tk Si R LO CO EO S'
 apply VV.dict_inv hv; intro a o' kvs' hsm hat hd hr
 have hm := hd.at (Si.at R ok.gs hat)
 refine ⟨hm.typeIs, hm.mapOf.noDict, (EvL.cons h2 (.cons h3 .nil)).go (.cons D' (.cons D'' .nil)) hu ok S' fun vs Z₂ as₂ s₂ e₂ hvs S₂ => ?_⟩
 cases hvs with | cons hv' hvs =>
 apply hvs.one; intro u' hu'
 apply VV.int_inv hv'; intro t
 apply St.openE S₂; intro gg m M hp tk Si R LO CO EO S₂'
 have hm2 := hd.at (Si.at R ok.gs (hat.mono e₂.1))
 refine call_meetsIn F.slot_dict_get hm2.typeIs F.entry_dict_get (F.args_dict_get_3 _ _ _) (meets_dict_get_default (intKind prg Ω.w) a intKey hsm u') ⟨_, hm2.mapOf, _, Z₂, as₂, rfl, e₁.trans e₂, .pure ?_, S₂'.toks _⟩
 rcases find_DRs (x := kx) hr with ⟨k1, k2⟩ | ⟨X, v, k1, k2, k3⟩
 ·rw [k2, k1]; exact hu'.toR hpb
 ·rw [k2, k1]; exact k3.mono e₂.1)
noncomputable def lookS : List (Str × V) -> Str -> Option V
 | [], _ => none
 | (k, X) :: r, n => if k = n then some X else lookS r n
theorem isStr_eq (a b : Str) (t : Tok) : (Value.str a t).isStr b = decide (a = b) := by
 by_cases h : a = b
 ·subst h; simp [Value.isStr]
 ·simp [Value.isStr, h]
theorem getL_cons {kk name : Str} {hs : Int} {t : Tok} {v : Value} {es : List DictEntry} : getL name (⟨hs, .str kk t, v⟩ :: es) = if kk = name then some (some v) else getL name es := by
 unfold getL
 rw [List.find?_cons, List.any_cons]
 simp only [isStr_eq]
 by_cases q : kk = name
 ·simp [q]
 ·simp only [q, decide_false, if_false]
  rfl
theorem getL_of {Z : Fz} {as : List Addr} {es : List DictEntry} {xs : List (Str × V)} (x : SRs Z as es xs) {name : Str} : (lookS xs name = none -> getL name es = some none) ∧ ∀ X, lookS xs name = some X -> ∃ v, getL name es = some (some v) ∧ VV Z as v X := by
 induction x with
 | nil => exact ⟨fun κ => rfl, fun X h => nomatch h⟩
 | @cons kk t hs v X es xs a b ih =>
  unfold lookS
  rw [getL_cons]
  by_cases q : kk = name
  ·simp only [q, if_true]
   exact ⟨(fun h => nomatch h), fun Y h => by (cases h); exact ⟨v, rfl, a⟩⟩
  ·simp only [q, if_false]
   exact ih
theorem okA_handed (h : VV Z as v X) (hA : X.okA = true) : handedIn v = true := by
 cases h with
 | pure y => cases y <;> first | rfl | cases hA
 | ref _ => rfl
 | inst _ _ => rfl
theorem look_zip (hj : scanNames[j]? = some name) (hf : fs[j]? = some A) : lookS (scanNames.zip fs) name = some A := by
 rcases j with _ | _ | j
 ·cases hj
  rcases fs with _ | ⟨a, r⟩
  ·cases hf
  ·cases hf; rfl
 ·cases hj
  rcases fs with _ | ⟨a, _ | ⟨b, r⟩⟩
  ·cases hf
  ·cases hf
  ·cases hf; rfl
 ·cases hj
theorem getAttr_ok (ok : Cx.Ok c Γ q n) (hj : scanNames[j]? = some name) (K : ScanK Ω.K csc name) (S : St c Γ md env Z Y as st s) (hv : VV Z as v (.inst i)) (hm : st.sto[i]? = some (.inst fs)) (hf : fs[j]? = some A) (hA : A.okA = true)
  {Q : Value -> Shared -> Prop} {E : Value -> Shared -> Prop} (hQ : ∀ u, VV Z as u A -> Q u { s with toks := s.toks + 1 }) : wpAny (model prg Ω.w) c.A (getAttr v name true) Q E s := by
 obtain ⟨gg, m, M, hp, tk, rfl, Si, R, LO, CO, EO⟩ := S
 obtain ⟨x, dx, es, nn, rfl, I, sr, _, _, _⟩ := inst_at Si R ok.gs hv hm
 obtain ⟨u, h1, h2⟩ := (getL_of sr).2 A (look_zip hj hf)
 exact get_own Si.F (Si.inK ok.gs) I K.g K.hh K.ha rfl h1 (okA_handed h2 hA) (hQ u h2)
theorem Den.attr (D : Den q n Γ md o f) (hj : scanNames[j]? = some name) (K : ScanK Ω.K csc name) (hbase : ∀ env, attributeBase o name env (eval o env) = eval o env := by intro _; rfl) : Den q n Γ md (.Attribute o name pos) (.attr j f) := fun κ => fun h1 hm hf hA => .mk fun c env ok Z Y as s S => by
 rw [arm_eval_Attribute, hbase env]
 exact wpAny_bind (h1.go D ok S fun v Z₁ as₁ s₁ e₁ hv S₁ => wpAny_bind (wpAny_standAt (wpAny_bind (wpAny_holding (getAttr_ok ok hj K S₁ hv hm hf hA fun u hu => wpAny_bind (wpAny_letTemporaryGo (wpAny_pure ⟨_, Z₁, as₁, rfl, e₁, hu, S₁.toks _⟩)))))))
noncomputable def putS (name : Str) (X : V) : List (Str × V) -> List (Str × V)
 | [] => [(name, X)]
 | (k, U) :: r => if k = name then (k, X) :: r else (k, U) :: putS name X r
theorem SRs.length {es : List DictEntry} {xs : List (Str × V)} (sr : SRs Z as es xs) : es.length = xs.length := by
 induction sr with
 | nil => rfl
 | cons _ _ ih => exact congrArg (· + 1) ih
theorem SRs.put {es : List DictEntry} {xs : List (Str × V)} {hsh : Int} {t : Tok} (sr : SRs Z as es xs) (hv : VV Z as v X) : SRs Z as (putL name hsh (.str name t) v es) (putS name X xs) := by
 induction sr with
 | nil => exact .cons hv .nil
 | @cons k t hs u U es xs a b ih =>
  unfold putL putS
  rw [isStr_eq]
  by_cases e : k = name
  ·rw [if_pos e, if_pos (decide_eq_true e)]; exact .cons hv b
  ·rw [if_neg e, if_neg (by simpa using e)]; exact .cons a ih
theorem zip_put (hj : scanNames[j]? = some name) (hs : setA j X fs = some fs') : putS name X (scanNames.zip fs) = scanNames.zip fs' ∧ fs'.length ≤ 2 ∧ (scanNames.zip fs').length = fs'.length := by
 refine oif hs fun hc hs => ?_
 apply osome hs
 obtain ⟨h1, h2, h3⟩ := hc
 rcases j with _ | _ | j
 ·cases hj
  rcases fs with _ | ⟨a, _ | ⟨b, _ | ⟨d, r⟩⟩⟩
  ·exact ⟨rfl, Nat.le_of_ble_eq_true rfl, rfl⟩
  ·exact ⟨rfl, Nat.le_of_ble_eq_true rfl, rfl⟩
  ·exact ⟨rfl, Nat.le_of_ble_eq_true rfl, rfl⟩
  ·simp at h3
 ·cases hj
  rcases fs with _ | ⟨a, _ | ⟨b, _ | ⟨d, r⟩⟩⟩
  ·simp at h1
  ·exact ⟨rfl, Nat.le_of_ble_eq_true rfl, rfl⟩
  ·exact ⟨rfl, Nat.le_of_ble_eq_true rfl, rfl⟩
  ·simp at h3
 ·cases hj
theorem setAttr_ok (ok : Cx.Ok c Γ q n) (hj : scanNames[j]? = some name) (K : ScanK Ω.K csc name) {l : List V} {cl : List Nat} {cv : V} {τ : List MO} (S : St c Γ md env Z Y as ⟨l, cl, cv, τ⟩ s) (hv : VV Z as v (.inst i)) (hu : VV Z as u A) (hm : τ[i]? = some (.inst fs)) (hf : setA j A fs = some fs')
  {Q : Unit -> Shared -> Prop} {E : Value -> Shared -> Prop} (hQ : ∀ s', St c Γ md env Z Y as ⟨l, cl, cv, τ.set i (.inst fs')⟩ s' -> Q () s') : wpAny (model prg Ω.w) c.A (setAttr v name u) Q E s := by
 apply St.openE S; intro gg m M hp tk Si R LO CO EO S'
 obtain ⟨x, dx, es, nn, rfl, I, sr, hlen, hM, ha⟩ := inst_at Si R ok.gs hv hm
 obtain ⟨z1, z2, z3⟩ := zip_put hj hf
 have p1 := SRs.put (name := name) (hsh := PyData.keyHash Ω.w.params name) (t := tk + 1) sr hu
 rw [z1] at p1
 have p2 := p1.length.trans z3
 have p4 : (getL name es).isSome = true := by
  cases q : lookS (scanNames.zip fs) name with
  | none => rw [(getL_of sr).1 q]; rfl
  | some A => obtain ⟨u, h1, _⟩ := (getL_of sr).2 A q; rw [h1]; rfl
 obtain ⟨news, N, ne, cv⟩ := Si.split hM
 refine set_dict Si.F (Si.inK ok.gs) N I rfl K.hs K.hp K.ht K.hh p4 rfl (.head ne) (by rw [p2]; omega) fun h' F' N' => hQ _ ?_
 exact ⟨gg, m, _, h', _, rfl, Si.of_split cv F' N', R.chg hM ha (.eInst p1 p2), LO, CO, EO⟩
theorem DenS.setA (D : Den q n Γ none e f) (D' : Den q n Γ none o g) (hj : scanNames[j]? = some name) (K : ScanK Ω.K csc name) (hs : ∀ env, swapsWith e (some (.Attribute o name p)) pos.line env = pure false := by intro _; rfl) :
  DenS q n Γ (.Assign [.Attribute o name p] e pos) (.setA j f g) := fun κ => fun h1 h2 hm hf => .mk fun c ok Z Y as s S =>
 plainObj_wpAny_Assign_Attribute (h1.go D ok S fun v Z₁ as₁ s₁ e₁ hv S₁ => h2.go D' ok S₁ fun ov Z₂ as₂ s₂ e₂ hov S₂ => setAttr_ok ok hj K S₂ hov (hv.mono e₂) hm hf fun s' S' => ⟨Z₂, as₂, e₁.trans e₂, S', .next⟩) (hs _)
theorem DenS.augA (D : Den q n Γ none e f) (D' : Den q n Γ none o g) (hj : scanNames[j]? = some name) (K : ScanK Ω.K csc name) :
  DenS q n Γ (.AugAssign (.Attribute o name p) .Add e pos) (.augA j g f) := fun κ => fun h1 h2 h3 h4 h5 h6 => .mk fun c ok Z Y as s S =>
 wpAny_AugAssign_AttributeAny (h1.go D' ok S fun ov Z₁ as₁ s₁ e₁ hov S₁ => getAttr_ok ok hj K S₁ hov h2 h3 rfl fun u hu => by
  apply VV.int_inv hu; intro t
  exact h4.go D ok (S₁.toks _) fun v Z₂ as₂ s₂ e₂ hv S₂ => by
   apply VV.int_inv hv; intro t'
   exact iadd_int (setAttr_ok ok hj K (S₂.toks _) (hov.mono e₂) (.pure (.int _ _)) h5 h6 fun s' S' => ⟨Z₂, as₂, e₁.trans e₂, S', .next⟩))
end
section
variable {q : Bool} {n k : Nat} {Γ : Gam} {md : Md} {pos p apos : Pos} {c : Cx} {env : Env} {Z Z' Z₀ : Fz} {Y Y' O O' : Led} {as as' as₀ : List Addr} {σ : List MO} {st s1 : AS} {s : Shared} {g h h' : Heap} {m : Str -> Option Value} {M : Addr -> Option (Tag × Obj)} {v : Value} {X : V} {vs : List Value} {tk : Tok} {b a I : Addr} {o : Obj}
noncomputable def OFx (Z : Fz) (Y : Led) (b : Addr) (o : Obj) : Prop := OAt Z b o ∨ (b, o) ∈ Y
theorem OFx.mono (hz : ∀ a o, Z a o -> Z' a o) (hY : ∀ p ∈ Y, p ∈ Y') (x : OFx Z Y b o) : OFx Z' Y' b o := x.imp (fun y => y.mono hz) (hY _)
theorem Sit.fx (Si : Sit c Γ g m M h) (R : Rel M Z (O ++ Y) as σ) (gs : Gs c.base) (x : OFx Z Y b o) : h.get? b = some o :=
 x.elim (fun y => Si.at R gs y) fun y => (Si.N _ _ _ (R.y (b, o) (List.mem_append_right _ y))).1
theorem St.fx (S : St c Γ md env Z (O ++ Y) as st s) (ok : Cx.Ok c Γ q n) (x : OFx Z Y b o) : s.heap.get? b = some o := by
 obtain ⟨g, m, M, h, tk, rfl, Si, R, LO, CO, EO⟩ := S; exact Si.fx R ok.gs x
theorem St.own (S : St c Γ md env Z Y as st s) (x : (b, o) ∈ Y) : s.heap.get? b = some o := by
 obtain ⟨g, m, M, h, tk, rfl, Si, R, LO, CO, EO⟩ := S; exact (Si.N _ _ _ (R.y _ x)).1
theorem St.fresh (S : St c Γ md env Z Y as st s) (hb : s.heap.objs.size ≤ b) : ∀ p ∈ Y, b ≠ p.1 := fun p hp e => absurd (Heap.lt_size (S.own (o := p.2) hp)) (by rw [← e]; exact Nat.not_lt.mpr hb)
theorem St.wr (S : St c Γ none (c.env Γ) Z Y as st s) {wr : List Addr} (hw : ∀ b ∈ wr, (∃ o, (b, o) ∈ Y) ∨ s.heap.objs.size ≤ b) (hY : ∀ p ∈ Y', p ∈ Y ∧ p.1 ∉ wr) (hk : ∀ b o, b ∉ wr -> s.heap.get? b = some o -> h'.get? b = some o)
  (x : Addr -> Option Obj) (hx : ∀ b o, x b = some o -> h'.get? b = some o) (hO : ∀ p ∈ O', p.1 ∈ wr ∧ x p.1 = some p.2) (tk : Tok) : St c Γ none (c.env Γ) Z (O' ++ Y') as st { s with heap := h', toks := tk } := by
 obtain ⟨g, m, M, h, tk₀, rfl, Si, R, LO, CO, EO⟩ := S
 obtain ⟨news, N, cv⟩ := Si.NL
 have hn : ∀ b ∈ wr, (∀ t o, M b = some (t, o) -> t = .own) ∧ b ≠ c.L ∧ g.get? b = none := fun b hb => (hw b hb).elim (fun ⟨o, e⟩ => by
  have := R.y _ e
  exact ⟨fun t o' e' => by rw [this] at e'; cases e'; rfl, (Si.N _ _ _ this).2⟩) fun e => by
  have := Si.fresh e
  exact ⟨fun t o' e' => by rw [this.1] at e'; exact no e', this.2⟩
 refine ⟨g, m, fun b => if b ∈ wr then (x b).map (Prod.mk .own) else M b, h', tk, rfl, ⟨Si.B, Si.T, ⟨Si.F.ns.at' fun o e => hk _ _ (fun hb => (hn _ hb).2.1 rfl) e, fun b o e => hk b o (fun hb => by rw [(hn b hb).2.2] at e; exact no e) (Si.F.keep b o e), Si.F.above⟩,
  wr.filterMap (fun b => (x b).map (Prod.mk b)) ++ news.filter (fun p => decide (p.1 ∉ wr)), fun p hp => ?_, fun b t o e => ?_⟩, R.own (fun b t o e ht => ?_) fun p hp => ?_, LO, CO, .fn⟩
 ·rcases List.mem_append.mp hp with hp | hp
  ·obtain ⟨b, hb, e⟩ := List.mem_filterMap.mp hp
   obtain ⟨o, e', rfl⟩ := Option.map_eq_some_iff.mp e
   exact ⟨hx b o e', (hn b hb).2⟩
  ·obtain ⟨h1, h2⟩ := List.mem_filter.mp hp
   exact ⟨hk _ _ (of_decide_eq_true h2) (N p h1).1, (N p h1).2⟩
 ·by_cases hb : b ∈ wr
  ·rw [if_pos hb] at e
   obtain ⟨o', e, h1⟩ := Option.map_eq_some_iff.mp e
   cases h1
   exact List.mem_append_left _ (List.mem_filterMap.mpr ⟨b, hb, by rw [e]; rfl⟩)
  ·rw [if_neg hb] at e
   exact List.mem_append_right _ (List.mem_filter.mpr ⟨cv _ _ _ e, decide_eq_true hb⟩)
 ·exact (if_neg fun hb => ht ((hn b hb).1 t o e)).trans e
 ·rcases List.mem_append.mp hp with hp | hp
  ·rw [if_pos (hO p hp).1, (hO p hp).2]; rfl
  ·exact (if_neg (hY p hp).2).trans (R.y p (hY p hp).1)
structure Own (Z₀ : Fz) (Y : Led) (fp wr : List Addr) (Sx : Nat -> Heap -> Prop) (j : Nat) (O : Led) : Prop where
 keys : O.map (·.1) = wr
 st : ∀ h : Heap, (∀ p ∈ O, h.get? p.1 = some p.2) -> (∀ b o, b ∈ fp -> b ∉ wr -> OFx Z₀ Y b o -> h.get? b = some o) -> Sx j h
variable {fp wr : List Addr} {Sx : Nat -> Heap -> Prop} {j : Nat}
theorem Own.now (ho : Own Z₀ Y fp wr Sx j O) (ok : Cx.Ok c Γ q n) (e : Ext Z₀ as₀ Z as) (hYY : ∀ p ∈ Y, p ∈ Y') (S : St c Γ md env Z (O ++ Y') as st s) : Sx j s.heap :=
 ho.st _ (fun p hp => S.own (List.mem_append_left _ hp)) fun b o κ κ x => S.fx ok (x.mono e.1 hYY)
theorem Own.of (frame : ∀ h h', Sx j h -> (∀ b ∈ fp, ∀ o, h.get? b = some o -> h'.get? b = some o) -> Sx j h') (hob : ∀ b ∈ wr, ∃ o, h'.get? b = some o) (fz : ∀ b ∈ fp, b ∈ wr ∨ ∃ o, OFx Z₀ Y b o) (hat : ∀ b o, b ∉ wr -> OFx Z₀ Y b o -> h'.get? b = some o) (sx : Sx j h') :
  ∃ O', Own Z₀ Y fp wr Sx j O' ∧ ∀ p ∈ O', p.1 ∈ wr ∧ h'.get? p.1 = some p.2 := by
 refine ⟨wr.map (fun b => (b, (h'.get? b).getD (tupOf #[] 0))), ⟨by simp [Function.comp_def], fun h2 k1 k2 => frame h' h2 sx fun b hb o ho' => ?_⟩, fun p hp => ?_⟩
 ·by_cases hw : b ∈ wr
  ·have := k1 (b, (h'.get? b).getD (tupOf #[] 0)) (List.mem_map.mpr ⟨b, hw, rfl⟩)
   rwa [ho'] at this
  ·obtain ⟨o', x⟩ := (fz b hb).resolve_left hw
   have := hat b o' hw x
   rw [ho'] at this; cases this
   exact k2 b o hb hw x
 ·obtain ⟨b, hb, rfl⟩ := List.mem_map.mp hp
  obtain ⟨o, ho⟩ := hob b hb
  exact ⟨hb, by rw [ho]; rfl⟩
theorem Own.in (ho : Own Z₀ Y fp wr Sx j O) : ∀ b ∈ wr, ∃ o, (b, o) ∈ O ++ Y' := fun b hb => by
 rw [← ho.keys] at hb
 obtain ⟨p, hp, rfl⟩ := List.mem_map.mp hb
 exact ⟨p.2, List.mem_append_left _ hp⟩
theorem sepO (sep : ∀ b ∈ wr, ∀ p ∈ Y', b ≠ p.1) : ∀ p ∈ Y', p ∈ O ++ Y' ∧ p.1 ∉ wr := fun p hp => ⟨List.mem_append_right _ hp, fun hb => sep _ hb p hp rfl⟩
theorem Own.step (ho : Own Z₀ Y fp wr Sx j O) {j' : Nat} (frame : ∀ h h', Sx j' h -> (∀ b ∈ fp, ∀ o, h.get? b = some o -> h'.get? b = some o) -> Sx j' h') (hob : ∀ h, Sx j' h -> ∀ b ∈ wr, ∃ o, h.get? b = some o) (fz : ∀ b ∈ fp, b ∈ wr ∨ ∃ o, OFx Z₀ Y b o)
  (ok : Cx.Ok c Γ q n) (e : Ext Z₀ as₀ Z as) (hYY : ∀ p ∈ Y, p ∈ Y') (sep : ∀ b ∈ wr, ∀ p ∈ Y', b ≠ p.1) (S : St c Γ none (c.env Γ) Z (O ++ Y') as st s) (sx : Sx j' h') (hk : ∀ b o, b ∉ wr -> s.heap.get? b = some o -> h'.get? b = some o) (tk : Tok) :
  ∃ O', Own Z₀ Y fp wr Sx j' O' ∧ St c Γ none (c.env Γ) Z (O' ++ Y') as st { s with heap := h', toks := tk } := by
 obtain ⟨O', h1, h2⟩ := Own.of frame (hob h' sx) fz (fun b o hb x => hk b o hb (S.fx ok (x.mono e.1 hYY))) sx
 exact ⟨O', h1, S.wr (fun b hb => .inl (ho.in b hb)) (sepO sep) hk h'.get? (fun κ κ e => e) h2 tk⟩
theorem Own.gone (ho : Own Z₀ Y fp wr Sx j O) (sep : ∀ b ∈ wr, ∀ p ∈ Y', b ≠ p.1) (S : St c Γ none (c.env Γ) Z (O ++ Y') as st s) (hk : ∀ b o, b ∉ wr -> s.heap.get? b = some o -> h'.get? b = some o) (tk : Tok) : St c Γ none (c.env Γ) Z Y' as st { s with heap := h', toks := tk } :=
 S.wr (O' := []) (fun b hb => .inl (ho.in b hb)) (sepO sep) hk (fun κ => none) (fun κ κ e => no e) (fun κ h => nomatch h) tk
structure Feed (c : Cx) (I : Addr) (Vs : List V) (Z : Fz) (as : List Addr) (Y : Led) (fp wr : List Addr) (P : Nat -> Value -> Prop) (Sx : Nat -> Heap -> Prop) : Prop where
 W : Walks prg Ω.w c.A I fp wr Vs.length P Sx
 hob : ∀ j h, Sx j h -> ∀ b ∈ wr, ∃ o, h.get? b = some o
 fz : ∀ b ∈ fp, b ∈ wr ∨ ∃ o, OFx Z Y b o
 vals : ∀ j v X, P j v -> Vs[j]? = some X -> VV Z as v X
variable {Vs : List V} {P : Nat -> Value -> Prop}
theorem Feed.next (F : Feed c I Vs Z₀ as₀ Y fp wr P Sx) (ok : Cx.Ok c Γ q n) (hYY : ∀ p ∈ Y, p ∈ Y') (sep : ∀ b ∈ wr, ∀ p ∈ Y', b ≠ p.1) (hX : Vs[j]? = some X) (ho : Own Z₀ Y fp wr Sx j O) (e : Ext Z₀ as₀ Z as) (S : St c Γ none (c.env Γ) Z (O ++ Y') as st s) {E : Value -> Shared -> Prop} {Q : Option Value -> Shared -> Prop}
  (hQ : ∀ v O' s', VV Z as v X -> P j v -> Own Z₀ Y fp wr Sx (j + 1) O' -> St c Γ none (c.env Γ) Z (O' ++ Y') as st s' -> Q (some v) s') : wpAny (model prg Ω.w) c.A (pyNext (.ref I)) Q E s := by
 refine F.W.item j _ _ E (List.getElem?_eq_some_iff.mp hX).1 (ho.now ok e hYY S) fun v h' tk' hv sx' hk => ?_
 obtain ⟨O', ho', S'⟩ := ho.step (F.W.frame (j + 1)) (F.hob _) F.fz ok e hYY sep S sx' hk tk'
 exact hQ v O' _ ((F.vals j v X hv hX).mono e) hv ho' S'
theorem Feed.end (F : Feed c I Vs Z₀ as₀ Y fp wr P Sx) (ok : Cx.Ok c Γ q n) (hYY : ∀ p ∈ Y, p ∈ Y') (sep : ∀ b ∈ wr, ∀ p ∈ Y', b ≠ p.1) (ho : Own Z₀ Y fp wr Sx Vs.length O) (e : Ext Z₀ as₀ Z as) (S : St c Γ none (c.env Γ) Z (O ++ Y') as st s) {E : Value -> Shared -> Prop} {Q : Option Value -> Shared -> Prop}
  (hQ : ∀ s', St c Γ none (c.env Γ) Z Y' as st s' -> Q none s') : wpAny (model prg Ω.w) c.A (pyNext (.ref I)) Q E s :=
 F.W.done _ _ E (ho.now ok e hYY S) fun h' tk' hk => hQ _ (ho.gone sep S hk tk')
theorem upd_one {s2 : AS} {t : Tg} (h : st.upd [(t, X)] = some s2) : st.put1 t X = some s2 := obind h fun a ha h => by cases h; exact ha
theorem Feed.name (F : Feed c I Vs Z₀ as₀ Y fp wr P Sx) (ok : Cx.Ok c Γ q n) {i : Tg} {x : Str} (hi : TgAt Γ i x) (sep : ∀ b ∈ wr, ∀ p ∈ Y, b ≠ p.1) : Turning c Γ (.Name x p) (.ref I) (Vs.map fun X => [(i, X)]) (Own Z₀ Y fp wr Sx) Y Z₀ as₀ where
 item := fun j u hu O st st₁ Z as s ho e S hup E Q hQ => by
  rw [List.getElem?_map] at hu
  revert hup; apply omap hu; intro X hX hup
  refine F.next ok (fun κ h => h) sep hX ho e S fun v O' s' hv κ ho' S' => ⟨v, rfl, ?_⟩
  show wpAny _ _ (pure ()) _ _ _
  exact wpAny_pure (wpAny_assign_Name (store_tg ok hi hv S' (upd_one hup) fun s'' S'' => hQ O' Z as s'' ho' .refl S''))
 done := fun O st Z as s ho e S E => by
  rw [List.length_map] at ho
  exact F.end ok (fun κ h => h) sep ho e S fun s' S' => ⟨rfl, Z, as, .refl, S'⟩
noncomputable abbrev WF := Nat -> Gam -> Md -> Expr -> Prop
noncomputable abbrev DenW (q : Bool) (n : Nat) (Γ : Gam) (md : Md) (iter : Expr) (f : WF) : Prop := f n Γ md iter
inductive FeedOk (c : Cx) (Γ : Gam) (md : Md) (env : Env) (Vs : List V) (Y : Led) (Z : Fz) (as : List Addr) (st' : AS) (it : Value) (s : Shared) : Prop
 | mk (I : Addr) (fp wr : List Addr) (P : Nat -> Value -> Prop) (Sx : Nat -> Heap -> Prop) (O : Led) (Z' : Fz) (as' : List Addr) : it = .ref I -> Ext Z as Z' as' -> Feed c I Vs Z' as' Y fp wr P Sx -> (∀ b ∈ wr, ∀ p ∈ Y, b ≠ p.1) -> Own Z' Y fp wr Sx 0 O -> St c Γ md env Z' (O ++ Y) as' st' s -> FeedOk c Γ md env Vs Y Z as st' it s
structure GenR (n : Nat) (Γ : Gam) (md : Md) (iter : Expr) (st : AS) (Vs : List V) (st' : AS) : Prop where
 run : ∀ c env, Cx.Ok c Γ true n -> ∀ Z Y as s, St c Γ md env Z Y as st s -> ∀ E, wpAny (model prg Ω.w) c.A (eval iter env) (fun x s₁ => wpAny (model prg Ω.w) c.A (pyIter x) (FeedOk c Γ md env Vs Y Z as st') E s₁) E s
structure EvG (f : WF) (st : AS) (Vs : List V) (st' : AS) : Prop where
 den : ∀ {n Γ md iter}, f n Γ md iter -> GenR n Γ md iter st Vs st'
noncomputable def nameW (i : Tg) (w : WF) : FI := fun q n Γ tgt iter => ∀ st, ∀ {s1 Vs}, EvG w st Vs s1 -> IterR q n Γ tgt iter st (Vs.map fun X => [(i, X)]) s1
theorem EvI.name {i : Tg} {w : WF} (h : EvG w st Vs s1) : EvI (nameW i w) st (Vs.map fun X => [(i, X)]) s1 := ⟨@fun κ κ κ κ κ D => D _ h⟩
theorem DenI.name {iter : Expr} {i : Tg} {x : Str} {w : WF} (D : DenW true n Γ none iter w) (hi : TgAt Γ i x) : DenI true n Γ (.Name x p) iter (nameW i w) := fun κ => fun h => .mk fun c ok Z Y as s S E =>
 wpAny_mono ((h.den D).run c _ ok Z Y as s S E) (fun v s₁ hv => wpAny_mono hv (fun it s₂ hi' => by
  obtain ⟨I, fp, wr, P, Sx, O, Z', as', rfl, e', F, sep, ho, S'⟩ := hi'
  exact ⟨_, O, Z', as', e', F.name ok hi sep, ho, S'⟩) fun κ κ x => x) fun κ κ x => x
theorem St.addO (S : St c Γ md env Z Y as st s) (o : Obj) (tk : Tok) (hf : o.isFreed = false := by rfl) : St c Γ md env Z ((s.heap.objs.size, o) :: Y) as st { s with heap := s.heap.push o, toks := tk } := by
 obtain ⟨g, m, M, h, tk, rfl, Si, R, LO, CO, EO⟩ := S
 have fr := Si.fresh (Nat.le_refl h.objs.size)
 exact ⟨g, m, _, _, _, rfl, Si.add (t := .own) (Nat.le_refl _) (Heap.get?_push_size _ hf) (fun b o e => Heap.get?_push_of_some _ e), R.addY fr.1, LO, CO, EO.more fun p hp => .tail _ hp⟩
theorem St.keeps (S : St c Γ md env Z Y as st s) (hk : ∀ b o, s.heap.get? b = some o -> h'.get? b = some o) (tk : Tok) : St c Γ md env Z Y as st { s with heap := h', toks := tk } := by
 obtain ⟨g, m, M, h, tk, rfl, Si, R, LO, CO, EO⟩ := S
 exact ⟨g, m, M, _, _, rfl, Si.keeps hk, R, LO, CO, EO⟩
theorem feed1 (S : St c Γ md env Z Y as st s) (e : Ext Z₀ as₀ Z as) (o : Obj) (W : Walks prg Ω.w c.A s.heap.objs.size fp [s.heap.objs.size] Vs.length P Sx) (hob : ∀ j h, Sx j h -> ∃ o, h.get? s.heap.objs.size = some o) (fz : ∀ b ∈ fp, b = s.heap.objs.size ∨ ∃ o, OAt Z b o)
  (vals : ∀ j v X, P j v -> Vs[j]? = some X -> VV Z as v X) (h0 : ∀ h : Heap, h.get? s.heap.objs.size = some o -> (∀ b o, b ∈ fp -> b ≠ s.heap.objs.size -> OAt Z b o -> h.get? b = some o) -> Sx 0 h) (hf : o.isFreed = false := by rfl) :
  FeedOk c Γ md env Vs Y Z₀ as₀ st (.ref s.heap.objs.size) { s with heap := s.heap.push o } :=
 ⟨_, fp, _, P, Sx, [(s.heap.objs.size, o)], Z, as, rfl, e, ⟨W, fun j h' hs b hb => List.mem_singleton.mp hb ▸ hob j h' hs, fun b hb => (fz b hb).imp List.mem_singleton.mpr fun ⟨o, h⟩ => ⟨o, .inl h⟩, vals⟩, fun b hb => List.mem_singleton.mp hb ▸ S.fresh (Nat.le_refl _),
  ⟨rfl, fun h' h1 h2 => h0 h' (h1 _ (.head _)) fun b o' hb hn ha => h2 b o' hb (fun h => hn (List.mem_singleton.mp h)) (.inl ha)⟩, S.addO o _ hf⟩
noncomputable def listV (X : V) : Option (List V) := ((X.ints?).map fun xs => xs.map .int).or (((X.gints?).map fun xs => xs.map .int).or X.lst?)
noncomputable def LsAt (Z : Fz) (a : Addr) (vs : List Value) : Prop := ∃ o, OAt Z a o ∧ o.cls = .type "list" ∧ ∃ nn, o.data = .seq vs.toArray nn
theorem LsAt.isList (x : LsAt Z a vs) (h1 : ∀ o, OAt Z a o -> h.get? a = some o) : h.IsList a vs.toArray := by
 obtain ⟨o, x, hc, nn, hd⟩ := x; exact ⟨o, h1 o x, hc, nn, hd⟩
theorem listV_inv {C : Value -> Prop} (hv : VV Z as v X) (h : listV X = some Vs) (k : ∀ a vs, LsAt Z a vs -> VRs Z vs Vs -> C (.ref a)) : C v := by
 refine oor h (fun h => ?_) fun h => oor h (fun h => ?_) fun h => ?_
 ·revert k; apply omap h; intro xs hx k
  revert hv; apply V.intsE hx; intro hv
  apply VV.ints_inv hv; exact fun a vs nn h1 h2 => k a vs ⟨_, h1, rfl, nn, rfl⟩ (.ints h2)
 ·revert k; apply omap h; intro xs hx k
  revert hv; apply V.gintsE hx; intro hv
  apply VV.gints_inv hv; rintro a vs ⟨o, h3, h4, nn, h5⟩ h2; exact k a vs ⟨o, .inr h3, h4, nn, h5⟩ (.ints h2)
 ·revert hv; apply V.lstE h; intro hv
  apply VV.lst_inv hv; exact fun a vs nn h1 h2 => k a vs ⟨_, h1, rfl, nn, rfl⟩ h2
noncomputable def itemsV (X : V) : Option (List V) := (listV X).or ((X.tup?).or (((X.dict?).map fun kvs => kvs.map fun x => .int x.1).or ((X.str?).bind fun x => if x.cps.all (· < 128) = true then some (x.cps.toList.map fun c => .str ⟨#[c]⟩) else none)))
noncomputable def WF.ofE (f : EF) : WF := fun n Γ md iter => ∀ st, ∀ {s1 X Vs}, EvE f st (.ok X) s1 -> itemsV X = some Vs -> GenR n Γ md iter st Vs s1
theorem EvG.ofE {f : EF} (h : EvE f st (.ok X) s1) (hi : itemsV X = some Vs := by rfl) : EvG (.ofE f) st Vs s1 := ⟨@fun κ κ κ κ D => D _ h hi⟩
theorem at_items {w : List Value} (hw : VRs Z w Vs) : ∀ (j : Nat) (v : Value) (X : V), w.toArray[j]? = some v -> Vs[j]? = some X -> VV Z as v X := fun j v X hv hX => by
 obtain ⟨u, h1, h2⟩ := hw.at hX
 rw [List.getElem?_toArray, h1] at hv; cases hv; exact .pure h2
theorem pairs_keys {kvs : List (Int × Value)} {xs : List (Int × V)} (h : DRs Z kvs xs) : kvs.map (·.1) = xs.map (·.1) := by
 induction kvs generalizing xs with
 | nil => cases h; rfl
 | cons p r ih => cases h with | cons a b => exact congrArg (_ :: ·) (ih b)
theorem at_keys {kvs : List (Int × Value)} {xs : List (Int × V)} (hr : DRs Z kvs xs) : ∀ (j : Nat) (v : Value) (X : V), (∃ k x, kvs[j]? = some (k, x) ∧ (intKind prg Ω.w).is k v = true) -> (xs.map fun x => V.int x.1)[j]? = some X -> VV Z as v X := by
 rintro j v X ⟨kk, y, hy, hkey⟩ hX
 have h1 : (kvs.map (·.1))[j]? = some kk := by rw [List.getElem?_map, hy]; rfl
 rw [pairs_keys hr, List.getElem?_map] at h1
 rw [List.getElem?_map] at hX
 obtain ⟨z, hz, rfl⟩ := Option.map_eq_some_iff.mp h1
 rw [hz] at hX; cases hX
 cases v with
 | int i t => cases (show i = z.1 by simpa [intKind, Value.isInt] using hkey); exact .pure (.int _ t)
 | _ => exact absurd hkey (by simp [intKind, Value.isInt])
theorem DenW.ofE {iter : Expr} {f : EF} (D : Den true n Γ md iter f) : DenW true n Γ md iter (.ofE f) := fun κ => fun h hi => .mk fun c env ok Z Y as s S E => h.go D ok S fun v Z₁ as₁ s₁ e₁ hv S₁ => by
 have hh := ok.hh rfl
 apply St.openE S₁; intro g m M hp tk Si R LO CO EO S'
 have ne : ∀ {a o}, OAt Z₁ a o -> hp.objs.size ≠ a := fun x => (Nat.ne_of_lt (Heap.lt_size (Si.at R ok.gs x))).symm
 have at2 : ∀ {a o}, OAt Z₁ a o -> ∀ b ∈ [hp.objs.size, a], b = hp.objs.size ∨ ∃ o, OAt Z₁ b o := fun x b hb => (List.mem_cons.mp hb).imp id fun hb => ⟨_, List.mem_singleton.mp hb ▸ x⟩
 refine oor hi (fun hi => ?_) fun hi => oor hi (fun hi => ?_) fun hi => oor hi (fun hi => ?_) fun hi => obind hi fun x hx hi => oif hi fun ha hi => ?_
 ·apply listV_inv hv hi; intro a vs hl hvs
  obtain ⟨o, hat, _⟩ := id hl
  have W := Walks.list (prog := prg) (w := Ω.w) (A := c.A) hh hp.objs.size a (ne hat).symm vs.toArray
  rw [show vs.toArray.size = _ from List.size_toArray.trans hvs.length] at W
  exact wpAny_pyIter_list (hl.isList fun o x => Si.at R ok.gs x) (feed1 S' e₁ _ W (fun j h' hs => by obtain ⟨⟨o, ho, _⟩, _⟩ := hs; exact ⟨o, ho⟩) (at2 hat) (at_items hvs) fun h' h1 h2 => ⟨⟨_, h1, rfl, rfl⟩, hl.isList fun o x => h2 a o (.tail _ (.head _)) (ne hat).symm x⟩)
 ·revert hv; apply V.tupE hi; intro hv
  apply VV.tup_inv hv; intro a vs nn hat hvs
  have W := Walks.tuple (prog := prg) (w := Ω.w) (A := c.A) hh hp.objs.size a (ne hat).symm vs.toArray
  rw [show vs.toArray.size = _ from List.size_toArray.trans hvs.length] at W
  exact wpAny_pyIter_tuple ⟨_, Si.at R ok.gs hat, rfl, nn, rfl⟩ (feed1 S' e₁ _ W (fun j h' hs => by obtain ⟨⟨o, ho, _⟩, _⟩ := hs; exact ⟨o, ho⟩) (at2 hat) (at_items hvs) fun h' h1 h2 => ⟨⟨_, h1, rfl, rfl⟩, ⟨_, h2 a _ (.tail _ (.head _)) (ne hat).symm hat, rfl, nn, rfl⟩⟩)
 ·apply omap hi; intro kvs hx
  revert hv; apply V.dictE hx; intro hv
  apply VV.dict_inv hv; intro a o kvs' hsm hat hd hr
  obtain ⟨es, ep, d⟩ := hd
  have W := Walks.dictKeys (prog := prg) (w := Ω.w) (knd := intKind prg Ω.w) (A := c.A) hh hp.objs.size a (ne hat).symm kvs' ep
  have l1 := congrArg List.length (pairs_keys hr)
  rw [List.length_map, List.length_map] at l1
  rw [show kvs'.length = (kvs.map fun x => V.int x.1).length by rw [List.length_map, l1]] at W
  have hm : ∀ {h : Heap}, h.get? a = some o -> h.DictAt (intKind prg Ω.w) a kvs' ep := fun e => ⟨o, es, e, d⟩
  exact wpAny_pyIter_dict hsm (hm (Si.at R ok.gs hat)) (feed1 S' e₁ _ W (fun j h' hs => by obtain ⟨⟨o, ho, _⟩, _⟩ := hs; exact ⟨o, ho⟩) (at2 hat) (at_keys hr) fun h' h1 h2 => ⟨⟨_, h1, rfl, by rw [List.length_map, ← l1]; rfl⟩, hm (h2 a _ (.tail _ (.head _)) (ne hat).symm hat)⟩)
 ·apply osome hi
  revert hv; apply V.strE hx; intro hv
  apply VV.str_inv hv; intro t
  have W := Walks.strAscii (prog := prg) (w := Ω.w) (A := c.A) hh hp.objs.size x t
  rw [show x.cps.size = (x.cps.toList.map fun c => V.str ⟨#[c]⟩).length by rw [List.length_map, Array.length_toList]] at W
  refine wpAny_pyIter_ascii ha (feed1 S' e₁ _ W (fun j h' hs => by obtain ⟨o, ho, _⟩ := hs; exact ⟨o, ho⟩) (fun b hb => .inl (List.mem_singleton.mp hb)) ?_ fun h' h1 h2 => ⟨_, h1, rfl, rfl⟩)
  rintro j v X ⟨cc, u, h1, rfl⟩ hX
  rw [List.getElem?_map, Array.getElem?_toList, h1] at hX
  cases hX
  exact .pure (.str _ u)
end
section
variable {q : Bool} {n k : Nat} {Γ : Gam} {md : Md} {pos p apos : Pos} {c : Cx} {env : Env} {Z Z' Z₀ : Fz} {Y Y' O O' : Led} {as as' as₀ : List Addr} {σ : List MO} {st s1 s2 : AS} {s : Shared} {v : Value} {X U : V} {Vs xs us : List V} {e e' : Expr} {f g : EF} {is : List Tg} {l : List (Str × Pos)} {kk : Nat} {tpos : Pos} {I : Addr} {fp wr : List Addr} {Sx : Nat -> Heap -> Prop} {j : Nat}
noncomputable def rangeL (N : Nat) (f : Nat -> Int) : List V := (List.range N).map fun i => .int (f i)
noncomputable def WF.range1 (f : EF) : WF := fun n Γ md iter => ∀ st, ∀ {s1 m}, EvE f st (.ok (.int m)) s1 -> -1000000 ≤ m ∧ m < 1000000 -> GenR n Γ md iter st (rangeL m.toNat fun i => (i : Nat)) s1
noncomputable def WF.rangeD (f : EF) : WF := fun n Γ md iter => ∀ st, ∀ {s1 m}, EvE f st (.ok (.int m)) s1 -> -1 ≤ m ∧ m < 1000000 -> GenR n Γ md iter st (rangeL (m + 1).toNat fun i => m - (i : Nat)) s1
theorem EvG.range1 {m : Int} (h : EvE f st (.ok (.int m)) s1) (hm : -1000000 ≤ m ∧ m < 1000000) : EvG (.range1 f) st (rangeL m.toNat fun i => (i : Nat)) s1 := ⟨@fun κ κ κ κ D => D _ h hm⟩
theorem EvG.rangeD {m : Int} (h : EvE f st (.ok (.int m)) s1) (hm : -1 ≤ m ∧ m < 1000000) : EvG (.rangeD f) st (rangeL (m + 1).toNat fun i => m - (i : Nat)) s1 := ⟨@fun κ κ κ κ D => D _ h hm⟩
theorem rangeL_at {N : Nat} {f : Nat -> Int} (h : (rangeL N f)[j]? = some X) : X = .int (f j) := by
 unfold rangeL at h
 rw [List.getElem?_map] at h
 apply omap h; intro i hi
 obtain ⟨h1, h2⟩ := List.getElem?_eq_some_iff.mp hi
 rw [List.getElem_range] at h2; rw [h2]
theorem range_feed (ok : Cx.Ok c Γ true n) {a cc : Int} {N : Nat} {f : Nat -> Int} (S : St c Γ md env Z Y as st s) (e : Ext Z₀ as₀ Z as) (hf : ∀ j, f j = a + (j : Nat) * cc) :
  FeedOk c Γ md env (rangeL N f) Y Z₀ as₀ st (.ref s.heap.objs.size) { s with heap := s.heap.push { cls := .type "range_iterator", data := .fields #[rawInt a, rawInt (N : Int), rawInt cc] } } := by
 have W := Walks.range (prog := prg) (w := Ω.w) (ok.hh rfl) s.heap.objs.size a cc N
 refine feed1 S e _ (P := fun i v => ∃ t, v = .int (a + i * cc) t) (by rw [show (rangeL N f).length = N by simp [rangeL]]; exact W) (fun j h' hs => ⟨_, hs⟩) (fun b hb => .inl (List.mem_singleton.mp hb)) ?_ fun h' h1 κ => ?_
 ·rintro j v X ⟨t, rfl⟩ hX
  rw [rangeL_at hX, hf]; exact .pure (.int _ t)
 ·show IsRangeIter h' s.heap.objs.size (a + ((0 : Nat) : Int) * cc) ((N : Int) - ((0 : Nat) : Int)) cc
  simpa using h1
theorem DenW.range1 (Df : Den true n Γ md (.Name "range" p) (.val (.val (.type "range")))) (D : Den true n Γ md e f) (hu : unstarred [e] = true) : DenW true n Γ md (.Call (.Name "range" p) [e] [] pos) (.range1 f) := fun κ {κ m} h hm => .mk fun c env ok Z Y as s S E => call_1 rfl Df D hu h ok S fun v Z₁ as₁ s₁ e₁ hv S₁ => by
 apply VV.int_inv hv; intro t
 refine call_range_1 (wpAny_pyIter_range (IsRange.new _ 0 _ 1 _ _ _) (small_one (by omega) (by omega) (by omega) (by omega)) ?_)
 rw [show Builtin.Range.rangeSize 0 m 1 = (m.toNat : Int) from by rw [rangeSize_one]; split <;> omega]
 exact range_feed ok (S₁.keeps (fun b o e => Heap.get?_push_of_some _ e) _) e₁ fun j => by omega
theorem small_down {m : Int} (h : -1 ≤ m) (h' : m < 1000000) : Builtin.Range.small m (-1) (-1) = true ∧ Builtin.Range.rangeSize m (-1) (-1) = ((m + 1).toNat : Int) := by
 have hs : Builtin.Range.rangeSize m (-1) (-1) = ((m + 1).toNat : Int) := by
  unfold Builtin.Range.rangeSize
  rw [if_neg (by decide), Int.neg_neg, Int.ediv_one]
  split <;> omega
 refine ⟨?_, hs⟩
 unfold Builtin.Range.small
 rw [hs]
 simp only [Builtin.Range.rangeFitsLong, Bool.and_eq_true, Bool.or_eq_true, decide_eq_true_eq, beq_iff_eq, show ¬ ((-1 : Int) > 0) by decide, if_false]
 omega
theorem DenW.rangeD {k1 k2 : Nat} {p1 p2 p3 p4 : Pos} (Df : Den true n Γ md (.Name "range" p) (.val (.val (.type "range")))) (D : Den true n Γ md e f) (hu : unstarred [e, .UnaryOp .USub (.Constant (.int 1) k1 p1) p2, .UnaryOp .USub (.Constant (.int 1) k2 p3) p4] = true) :
  DenW true n Γ md (.Call (.Name "range" p) [e, .UnaryOp .USub (.Constant (.int 1) k1 p1) p2, .UnaryOp .USub (.Constant (.int 1) k2 p3) p4] [] pos) (.rangeD f) := fun κ => fun h hm => .mk fun c env ok Z Y as s S E => by
 refine Call_ (EvE.val.go Df ok S fun v Z₁ as₁ s₁ e₁ hv S₁ => ?_)
 apply VV.val_inv hv
 refine callWith_es (P := fun κ => True) hu (fun h κ => ⟨.machine, .inr (.inl rfl), .now⟩) (args_cons (h.go D ok S₁ fun v Z₂ as₂ s₂ e₂ hv S₂ => ?_) (starEach_cons hu))
 apply VV.int_inv hv; intro t
 refine args_cons (wpAny_UnaryOp (wpAny_Constant_int (P.neg_int ?_))) rfl
 refine args_cons (wpAny_UnaryOp (wpAny_Constant_int (P.neg_int (args_nil ⟨trivial, ?_⟩)))) rfl
 obtain ⟨hsm, hsz⟩ := small_down hm.1 hm.2
 refine call_range_3 (by decide) (wpAny_pyIter_range (IsRange.new _ _ (-1) (-1) _ _ _) hsm ?_) (.inl (PyProof.noPylong_small (by decide)))
 rw [hsz]
 exact range_feed ok (S₂.keeps (fun b o e => Heap.get?_push_of_some _ e) _) (e₁.trans e₂) fun j => by omega
noncomputable def namesOf : List (Str × Pos) -> List Expr
 | [] => []
 | (x, p) :: r => .Name x p :: namesOf r
theorem assignEach_names {env : Env} : ∀ (l : List (Str × Pos)), assignEach (namesOf l) env = l.map fun x => (false, assign (.Name x.1 x.2) env)
 | [] => rfl
 | (x, p) :: r => by
  show (false, assign (.Name x p) env) :: assignEach (namesOf r) env = _
  rw [assignEach_names r]; rfl
inductive At3 (Γ : Gam) : List Tg -> List (Str × Pos) -> Prop
 | nil : At3 Γ [] []
 | cons {i : Tg} {x : Str} {p : Pos} {is : List Tg} {l : List (Str × Pos)} : TgAt Γ i x -> At3 Γ is l -> At3 Γ (i :: is) ((x, p) :: l)
theorem assign_all {st₁ : AS} (ok : Cx.Ok c Γ q n) (hl : At3 Γ is l) : ∀ {vs : List Value} {Xs : List V} {st : AS} {s : Shared}, VVs Z as vs Xs -> is.length = Xs.length -> St c Γ none (c.env Γ) Z Y as st s -> st.upd (is.zip Xs) = some st₁ -> ∀ {Q : Unit -> Shared -> Prop} {E : Value -> Shared -> Prop},
  (∀ s', St c Γ none (c.env Γ) Z Y as st₁ s' -> Q () s') -> wpAny (model prg Ω.w) c.A (assignInOrder ((assignEach (namesOf l) (c.env Γ)).map (·.2)) vs) Q E s := by
 induction hl with
 | nil =>
  intro vs Xs st s hvs hlen S hup Q E hQ
  cases hvs with
  | nil => cases hup; exact assignInOrder_nil (hQ s S)
  | cons _ _ => cases hlen
 | cons hi _ ih =>
  intro vs Xs st s hvs hlen S hup Q E hQ
  cases hvs with
  | nil => cases hlen
  | cons hv hvs => exact obind hup fun st₂ hp hup => assignInOrder_cons (wpAny_assign_Name (store_tg ok hi hv S hp fun s' S' => ih hvs (Nat.succ.inj hlen) S' hup hQ))
theorem assign_tup {st₁ : AS} {c : Cx} (ok : Cx.Ok c Γ true n) {is : List Tg} {l : List (Str × Pos)} (hl : At3 Γ is l) (hll : is.length = l.length) {kk : Nat} {t : Addr} {vs : List Value} {Xs : List V} {st : AS} {Z : Fz} {Y : Led} {as : List Addr} {s : Shared} (ht : IsTup s.heap t vs.toArray) (hvs : VVs Z as vs Xs) (hlen : is.length = Xs.length) (S : St c Γ none (c.env Γ) Z Y as st s) (hup : st.upd (is.zip Xs) = some st₁)
  {Q : Unit -> Shared -> Prop} {E : Value -> Shared -> Prop} (hQ : ∀ s', St c Γ none (c.env Γ) Z Y as st₁ s' -> Q () s') : wpAny (model prg Ω.w) c.A (assign (.Tuple (namesOf l) kk pos) (c.env Γ) (.ref t)) Q E s := by
 have h1 := hvs.length
 refine assign_Tuple_tuple (ok.hh rfl) ht ?_ ?_ fun h' he => ?_
 ·rw [assignEach_names, List.length_map, List.size_toArray]; omega
 ·rw [assignEach_names]
  induction l with
  | nil => rfl
  | cons p r ih =>
   rw [List.findIdx?_eq_none_iff]
   intro y hy
   obtain ⟨z, _, rfl⟩ := List.mem_map.mp hy
   rfl
 ·have S' := S.keeps (h' := h') (fun b o e => he b o (Nat.ne_of_lt (Heap.lt_size e)) e) s.toks
  exact assign_all ok hl (by simpa using hvs) hlen S' hup hQ
theorem turn_pair (ok : Cx.Ok c Γ true n) (hl : At3 Γ is l) (hll : is.length = l.length) {N : Nat} {Pt : Nat -> Array Value -> Prop} {Mid : Nat -> Addr -> Heap -> Prop} (W : WalksT prg Ω.w c.A I fp wr N Pt Sx Mid) (hob : ∀ j h, Sx j h -> ∀ b ∈ wr, ∃ o, h.get? b = some o)
  (fz : ∀ b ∈ fp, b ∈ wr ∨ ∃ o, OFx Z₀ Y b o) (sep : ∀ b ∈ wr, ∀ p ∈ Y, b ≠ p.1) {Vs : List (List V)} (hN : Vs.length = N) (hP : ∀ j vals Xs, Pt j vals -> Vs[j]? = some Xs -> VVs Z₀ as₀ vals.toList Xs ∧ is.length = Xs.length) :
  Turning c Γ (.Tuple (namesOf l) kk pos) (.ref I) (Vs.map fun Xs => is.zip Xs) (Own Z₀ Y fp wr Sx) Y Z₀ as₀ where
 item := fun j u hu O st st₁ Z as s ho e S hup E Q hQ => by
  rw [List.getElem?_map] at hu
  revert hup; apply omap hu; intro Xs hX hup
  refine W.item j _ _ E (hN ▸ (List.getElem?_eq_some_iff.mp hX).1) (ho.now ok e (fun κ h => h) S) fun T vals h' tk' hv hge hT hmid hk => ⟨.ref T, rfl, W.go (namesOf l) kk pos j T _ _ E hmid fun h'' sx'' hk' => ?_⟩
  obtain ⟨O', ho', S'⟩ := ho.step (W.frame (j + 1)) (hob _) fz ok e (fun κ h => h) sep S sx'' (fun b o hb ho => hk' b o hb (hk b o hb ho)) tk'
  obtain ⟨hvs, hlen⟩ := hP j vals Xs hv hX
  obtain ⟨oT, hT1, hT2, nT, hT3⟩ := hT
  exact assign_tup ok hl hll (vs := vals.toList) ⟨oT, hk' T oT (W.apart _ _ _ hmid) hT1, hT2, nT, by rw [Array.toArray_toList]; exact hT3⟩ (hvs.mono e) hlen S' hup fun s' S'' => hQ O' Z as s' ho' .refl S''
 done := fun O st Z as s ho e S E => by
  rw [List.length_map, hN] at ho
  exact W.done _ _ E (ho.now ok e (fun κ h => h) S) fun h' tk' hk => ⟨rfl, Z, as, .refl, ho.gone sep S hk tk'⟩
theorem Sit.addAt {c : Cx} {g h : Heap} {m : Str -> Option Value} {M : Addr -> Option (Tag × Obj)} (Si : Sit c Γ g m M h) {a : Addr} {t : Tag} {o : Obj} (ho : h.get? a = some o) (h1 : a ≠ c.L) (h2 : g.get? a = none) : Sit c Γ g m (put M a (some (t, o))) h := by
 obtain ⟨news, N, cv⟩ := Si.NL
 refine Si.of_news cv Si.F fun p hp => ?_
 rcases List.mem_cons.mp hp with rfl | hp
 ·exact ⟨ho, h1, h2⟩
 ·exact N p hp
theorem Sit.drop {c : Cx} {g h h' : Heap} {m : Str -> Option Value} {M : Addr -> Option (Tag × Obj)} {Z : Fz} {Y Y' : Led} {as : List Addr} {σ : List MO} (Si : Sit c Γ g m M h) (R : Rel M Z Y as σ) {a : Addr} {o : Obj} (hm : (a, o) ∈ Y) (hY : ∀ p ∈ Y', p ∈ Y ∧ p.1 ≠ a) (hs : Heap.SameBut a h h') :
  Sit c Γ g m (put M a none) h' ∧ Rel (put M a none) Z Y' as σ ∧ a ≠ c.L ∧ g.get? a = none := by
 have hM := R.y _ hm
 have hn := Si.N _ _ _ hM
 obtain ⟨news, N, ne, cv⟩ := Si.split hM
 refine ⟨⟨Si.B, Si.T, Si.F.change hs hn.2.1 hn.2.2, news, fun p hp => ⟨(hs.2 _ (ne p hp)).trans (N p (.tail _ hp)).1, (N p (.tail _ hp)).2⟩, fun b t o e => ?_⟩, R.own (fun b t o e ht => ?_) (fun p hp => ?_), hn.2⟩
 ·by_cases q : b = a
  ·subst q; rw [put_self] at e; cases e
  ·rw [put_ne q] at e; exact cv _ _ _ q e
 ·rw [put_ne (fun q => by rw [q, hM] at e; cases e; exact ht rfl)]; exact e
 ·rw [put_ne (hY p hp).2]; exact R.y p (hY p hp).1
theorem St.frz (S : St c Γ none (c.env Γ) Z Y as st s) {a : Addr} {o : Obj} (hm : (a, o) ∈ Y) (hY : ∀ p ∈ Y', p ∈ Y ∧ p.1 ≠ a) : St c Γ none (c.env Γ) (fun b p => Z b p ∨ (b = a ∧ p = o)) Y' as st s := by
 obtain ⟨g, m, M, h, tk, rfl, Si, R, LO, CO, EO⟩ := S
 have ho := (Si.N _ _ _ (R.y _ hm)).1
 obtain ⟨h1, h2, h3, h4⟩ := Si.drop R hm hY ⟨rfl, fun κ κ => rfl⟩
 exact ⟨g, m, _, _, _, rfl, h1.addAt (t := .fz) ho h3 h4, h2.addZ put_self, LO.mono Ext.add, CO, .fn⟩
theorem pair_make (ok : Cx.Ok c Γ true n) (hl : At3 Γ is l) (hll : is.length = l.length) {N : Nat} {Pt : Nat -> Array Value -> Prop} {Mid : Nat -> Addr -> Heap -> Prop} (W : WalksT prg Ω.w c.A I fp wr N Pt Sx Mid) (hob : ∀ j h, Sx j h -> ∀ b ∈ wr, ∃ o, h.get? b = some o)
  {h' : Heap} (S : St c Γ none (c.env Γ) Z Y as st s) (e : Ext Z₀ as₀ Z as) (hw : ∀ b ∈ wr, s.heap.objs.size ≤ b) (hk : ∀ b o, s.heap.get? b = some o -> h'.get? b = some o) (sx : Sx 0 h')
  {F : Led} (hF : ∀ p ∈ F, s.heap.objs.size ≤ p.1 ∧ p.1 ∉ wr ∧ h'.get? p.1 = some p.2) (hF1 : F.length ≤ 1) (fz : ∀ b ∈ fp, b ∈ wr ∨ (∃ o, OAt Z b o) ∨ ∃ o, (b, o) ∈ F) {Vs : List (List V)} (hN : Vs.length = N) (hP : ∀ j vals Xs, Pt j vals -> Vs[j]? = some Xs -> VVs Z as vals.toList Xs ∧ is.length = Xs.length) (tk : Tok) :
  ItOk c Γ (.Tuple (namesOf l) kk pos) (Vs.map fun Xs => is.zip Xs) Y Z₀ as₀ st (.ref I) { s with heap := h', toks := tk } := by
 have sep : ∀ b ∈ wr, ∀ p ∈ Y, b ≠ p.1 := fun b hb => S.fresh (hw b hb)
 have fin : ∀ {Z' : Fz}, Ext Z as Z' as -> (∀ p ∈ F, Z' p.1 p.2) -> (∀ b o, b ∉ wr -> OFx Z' Y b o -> h'.get? b = some o) -> (∀ O' : Led, (∀ p ∈ O', p.1 ∈ wr ∧ h'.get? p.1 = some p.2) -> St c Γ none (c.env Γ) Z' (O' ++ Y) as st { s with heap := h', toks := tk }) -> ItOk c Γ (.Tuple (namesOf l) kk pos) (Vs.map fun Xs => is.zip Xs) Y Z₀ as₀ st (.ref I) { s with heap := h', toks := tk } := by
  intro Z' e' hZ hat hS
  have fz' : ∀ b ∈ fp, b ∈ wr ∨ ∃ o, OFx Z' Y b o := fun b hb => (fz b hb).imp id fun h => h.elim (fun ⟨o, x⟩ => ⟨o, .inl (x.mono e'.1)⟩) fun ⟨o, x⟩ => ⟨o, .inl (.inl (hZ _ x))⟩
  obtain ⟨O', h1, h2⟩ := Own.of (W.frame 0) (hob 0 h' sx) fz' hat sx
  exact ⟨_, O', Z', as, e.trans e', turn_pair ok hl hll W hob fz' sep hN fun j vals Xs h1 h2 => ⟨(hP j vals Xs h1 h2).1.mono e', (hP j vals Xs h1 h2).2⟩, h1, hS O' h2⟩
 rcases F with _ | ⟨⟨a, o⟩, _ | _⟩
 ·refine fin .refl (fun κ h => nomatch h) (fun b o κ x => hk _ _ (S.fx (O := []) ok x)) fun O' h2 => S.wr (fun b hb => .inr (hw b hb)) (fun p hp => ⟨hp, fun hb => sep _ hb p hp rfl⟩) (fun b o κ => hk b o) h'.get? (fun κ κ e => e) h2 tk
 ·obtain ⟨f1, f2, f3⟩ := hF _ (.head _)
  have sepA : ∀ p ∈ Y, a ≠ p.1 := S.fresh f1
  have key : ∀ O' : Led, (∀ p ∈ O', p.1 ∈ wr ∧ h'.get? p.1 = some p.2) -> St c Γ none (c.env Γ) Z (((a, o) :: O') ++ Y) as st { s with heap := h', toks := tk } := fun O' h2 => S.wr (wr := a :: wr) (fun b hb => .inr ((List.mem_cons.mp hb).elim (fun h => h ▸ f1) (hw b))) (fun p hp => ⟨hp, fun hb => (List.mem_cons.mp hb).elim (fun h => sepA p hp h.symm) fun hb => sep _ hb p hp rfl⟩) (fun b o κ => hk b o) h'.get? (fun κ κ e => e) (fun p hp => (List.mem_cons.mp hp).elim (fun h => h ▸ ⟨.head _, f3⟩) fun hp => ⟨.tail _ (h2 p hp).1, (h2 p hp).2⟩) tk
  have put : ∀ O' : Led, (∀ p ∈ O', p.1 ∈ wr ∧ h'.get? p.1 = some p.2) -> St c Γ none (c.env Γ) (fun b p => Z b p ∨ (b = a ∧ p = o)) (O' ++ Y) as st { s with heap := h', toks := tk } := fun O' h2 => (key O' h2).frz (.head _) fun p hp => ⟨.tail _ hp, fun q => (List.mem_append.mp hp).elim (fun hp => f2 (q ▸ (h2 p hp).1)) fun hp => sepA p hp q.symm⟩
  refine fin Ext.add (fun p hp => ?_) (fun b o' hb x => ?_) put
  ·cases List.mem_singleton.mp hp; exact .inr ⟨rfl, rfl⟩
  ·exact (put [] (fun κ h => nomatch h)).fx (O := []) ok x
 ·exact absurd hF1 (by simp)
noncomputable def pairUps (is : List Tg) (xs us : List V) : List Up := (xs.zip us).map fun y => is.zip [y.1, y.2]
noncomputable def zipW (is : List Tg) (f g : EF) : FI := fun q n Γ tgt iter => ∀ st, ∀ {s1 s2 X U xs us}, EvE f st (.ok X) s1 -> EvE g s1 (.ok U) s2 -> listV X = some xs -> listV U = some us -> IterR q n Γ tgt iter st (pairUps is xs us) s2
noncomputable def enumW (is : List Tg) (f : EF) : FI := fun q n Γ tgt iter => ∀ st, ∀ {s1 X xs}, EvE f st (.ok X) s1 -> listV X = some xs -> IterR q n Γ tgt iter st (pairUps is (rangeL xs.length fun i => (i : Nat)) xs) s1
theorem EvI.zip (h1 : EvE f st (.ok X) s1) (h2 : EvE g s1 (.ok U) s2) (hx : listV X = some xs) (hu : listV U = some us) : EvI (zipW is f g) st (pairUps is xs us) s2 := ⟨@fun κ κ κ κ κ D => D _ h1 h2 hx hu⟩
theorem EvI.enum (h1 : EvE f st (.ok X) s1) (hx : listV X = some xs) : EvI (enumW is f) st (pairUps is (rangeL xs.length fun i => (i : Nat)) xs) s1 := ⟨@fun κ κ κ κ κ D => D _ h1 hx⟩
theorem isList_keeps {h h' : Heap} {a : Addr} {its : Array Value} (x : h.IsList a its) (hk : ∀ b o, h.get? b = some o -> h'.get? b = some o) : h'.IsList a its := by
 obtain ⟨o, e, r⟩ := x; exact ⟨o, hk _ _ e, r⟩
theorem DenI.zip (Df : Den true n Γ none (.Name "zip" p) (.val (.val (.type "zip")))) (D : Den true n Γ none e f) (D' : Den true n Γ none e' g) (hu : unstarred [e, e'] = true) (hl : At3 Γ is l) (hll : is.length = l.length) (h2 : is.length = 2) :
  DenI true n Γ (.Tuple (namesOf l) kk tpos) (.Call (.Name "zip" p) [e, e'] [] pos) (zipW is f g) := fun κ {κ κ κ κ xs us} hf hg hx hu' => .mk fun c ok Z Y as s S E => call_b rfl Df (.cons D (.cons D' .nil)) hu (.cons hf (.cons hg .nil)) ok S fun vs Z₃ as₃ s₃ e₃ hvs S₃ => by
 cases hvs with | cons hv hvs =>
 apply hvs.one; intro w hw
 apply St.openE S₃; intro gg m M hp tk Si R LO CO EO S'
 apply listV_inv hv hx; intro a vs hla hvs
 apply listV_inv hw hu'; intro b ws hlb hws
 have hl1 := hla.isList fun o x => Si.at R ok.gs x
 have hl2 := hlb.isList fun o x => Si.at R ok.gs x
 have a1 : a < hp.objs.size := by obtain ⟨o, x, _⟩ := hl1; exact Heap.lt_size x
 have b1 : b < hp.objs.size := by obtain ⟨o, x, _⟩ := hl2; exact Heap.lt_size x
 refine call_zip_2 hl1 hl2 fun h' hz hTI hTO hi1 hi2 hsz hk => wpAny_pyIter_zip hz ?_
 have hT2 : h'.get? (hp.objs.size + 2) = some { cls := .type "tuple", data := .seq #[.ref hp.objs.size, .ref (hp.objs.size + 1)] } := hTI
 have n2 : hp.objs.size + 2 ∉ [hp.objs.size + 4, hp.objs.size + 3, hp.objs.size, hp.objs.size + 1] := by simp
 have hmap : pairUps is xs us = ((xs.zip us).map fun y => [y.1, y.2]).map fun Xs => is.zip Xs := by rw [List.map_map]; rfl
 rw [hmap]
 refine pair_make ok hl hll (WalksT.zip2 (prog := prg) (w := Ω.w) (ok.hh rfl) (hp.objs.size + 4) (hp.objs.size + 2) (hp.objs.size + 3) hp.objs.size (hp.objs.size + 1) a b (zipApart_new a1 b1) vs.toArray ws.toArray) ?_ S' e₃ ?_ hk ⟨hz, hTI, ⟨_, _, hTO⟩, hi1, hi2, ?_, ?_⟩ (F := [(hp.objs.size + 2, { cls := .type "tuple", data := .seq #[.ref hp.objs.size, .ref (hp.objs.size + 1)] })]) ?_ (Nat.le_refl 1) ?_ (by rw [List.length_map, List.length_zip, List.size_toArray, List.size_toArray, hvs.length, hws.length]) ?_ tk
 ·rintro j h'' ⟨k1, _, ⟨x1, x2, k3⟩, ⟨y1, k4, _⟩, ⟨y2, k5, _⟩, _⟩
  exact List.forall_mem_cons.mpr ⟨⟨_, k1⟩, List.forall_mem_cons.mpr ⟨⟨_, k3⟩, List.forall_mem_cons.mpr ⟨⟨_, k4⟩, List.forall_mem_cons.mpr ⟨⟨_, k5⟩, nofun⟩⟩⟩⟩
 ·exact List.forall_mem_cons.mpr ⟨Nat.le_add_right _ 4, List.forall_mem_cons.mpr ⟨Nat.le_add_right _ 3, List.forall_mem_cons.mpr ⟨Nat.le_refl _, List.forall_mem_cons.mpr ⟨Nat.le_add_right _ 1, nofun⟩⟩⟩⟩
 ·exact isList_keeps hl1 hk
 ·exact isList_keeps hl2 hk
 ·exact fun p hp' => List.mem_singleton.mp hp' ▸ ⟨Nat.le_add_right _ 2, n2, hT2⟩
 ·obtain ⟨o1, x1, _⟩ := hla
  obtain ⟨o2, x2, _⟩ := hlb
  exact List.forall_mem_cons.mpr ⟨.inl (.head _), List.forall_mem_cons.mpr ⟨.inr (.inr ⟨_, .head _⟩), List.forall_mem_cons.mpr ⟨.inl (.tail _ (.head _)), List.forall_mem_cons.mpr ⟨.inl (.tail _ (.tail _ (.head _))), List.forall_mem_cons.mpr ⟨.inl (.tail _ (.tail _ (.tail _ (.head _)))), List.forall_mem_cons.mpr ⟨.inr (.inl ⟨_, x1⟩), List.forall_mem_cons.mpr ⟨.inr (.inl ⟨_, x2⟩), nofun⟩⟩⟩⟩⟩⟩⟩
 ·rintro j vals Xs ⟨x, y, k1, k2, rfl⟩ hX
  rw [List.getElem?_map] at hX
  apply omap hX; rintro ⟨A, B⟩ hq
  rw [List.getElem?_zip_eq_some] at hq
  exact ⟨.cons (at_items hvs j x A k1 hq.1) (.cons (at_items hws j y B k2 hq.2) .nil), h2⟩
theorem DenI.enum (Df : Den true n Γ none (.Name "enumerate" p) (.val (.val (.type "enumerate")))) (D : Den true n Γ none e f) (hu : unstarred [e] = true) (hl : At3 Γ is l) (hll : is.length = l.length) (h2 : is.length = 2) :
  DenI true n Γ (.Tuple (namesOf l) kk tpos) (.Call (.Name "enumerate" p) [e] [] pos) (enumW is f) := fun κ {κ κ xs} hf hx => .mk fun c ok Z Y as s S E => call_1 rfl Df D hu hf ok S fun v Z₃ as₃ s₃ e₃ hv S₃ => by
 apply St.openE S₃; intro gg m M hp tk Si R LO CO EO S'
 apply listV_inv hv hx; intro a vs hla hvs
 have hl1 := hla.isList fun o x => Si.at R ok.gs x
 have a1 : a < hp.objs.size := by obtain ⟨o, x, _⟩ := hl1; exact Heap.lt_size x
 refine call_enumerate_list hl1 fun h' he hi hsz hk => wpAny_pyIter_enum he ?_
 have hmap : pairUps is (rangeL xs.length fun i => (i : Nat)) xs = (((rangeL xs.length fun i => (i : Nat)).zip xs).map fun y => [y.1, y.2]).map fun Xs => is.zip Xs := by rw [List.map_map]; rfl
 rw [hmap]
 refine pair_make ok hl hll (WalksT.enumerate (prog := prg) (w := Ω.w) (ok.hh rfl) (hp.objs.size + 1) hp.objs.size a (Nat.succ_ne_self _) (Nat.ne_of_lt (Nat.lt_succ_of_lt a1)) (Nat.ne_of_lt a1) vs.toArray) ?_ S' e₃ ?_ hk ⟨⟨_, he⟩, hi, isList_keeps hl1 hk⟩ (F := []) (fun κ h => nomatch h) (Nat.zero_le _) ?_ (by rw [List.length_map, List.length_zip, List.size_toArray, hvs.length]; simp [rangeL]) ?_ tk
 ·rintro j h'' ⟨⟨x1, k1⟩, ⟨y1, k4, _⟩, _⟩
  exact List.forall_mem_cons.mpr ⟨⟨_, k1⟩, List.forall_mem_cons.mpr ⟨⟨_, k4⟩, nofun⟩⟩
 ·exact List.forall_mem_cons.mpr ⟨Nat.le_add_right _ 1, List.forall_mem_cons.mpr ⟨Nat.le_refl _, nofun⟩⟩
 ·obtain ⟨o1, x1, _⟩ := hla
  exact List.forall_mem_cons.mpr ⟨.inl (.head _), List.forall_mem_cons.mpr ⟨.inl (.tail _ (.head _)), List.forall_mem_cons.mpr ⟨.inr (.inl ⟨_, x1⟩), nofun⟩⟩⟩
 ·rintro j vals Xs ⟨t, x, k1, rfl⟩ hX
  rw [List.getElem?_map] at hX
  apply omap hX; rintro ⟨A, B⟩ hq
  rw [List.getElem?_zip_eq_some] at hq
  refine ⟨.cons ?_ (.cons (at_items hvs j x B k1 hq.2) .nil), h2⟩
  rw [rangeL_at hq.1]; exact .pure (.int _ t)
noncomputable def tupsV : List V -> Option (List (List V))
 | [] => some []
 | X :: r => (X.tup?).bind fun Xs => (tupsV r).map (Xs :: ·)
noncomputable def rowsW (is : List Tg) (f : EF) : FI := fun q n Γ tgt iter => ∀ st, ∀ {s1} {L : List (List V)}, ∀ {xs}, EvE f st (.ok (.lst xs)) s1 -> tupsV xs = some L -> (L.all fun Xs => Xs.length == is.length) = true -> IterR q n Γ tgt iter st (L.map fun Xs => is.zip Xs) s1
theorem EvI.rows {L : List (List V)} (h : EvE f st (.ok (.lst xs)) s1) (hL : tupsV xs = some L) (ha : (L.all fun Xs => Xs.length == is.length) = true) : EvI (rowsW is f) st (L.map fun Xs => is.zip Xs) s1 := ⟨@fun κ κ κ κ κ D => D _ h hL ha⟩
theorem tups_map : ∀ {xs : List V} {L : List (List V)}, tupsV xs = some L -> xs = L.map .tup
 | [], _, h => by cases h; rfl
 | X :: r, _, h => obind h fun Xs hX h => by
  apply omap h; intro L hL
  apply V.tupE hX; rw [tups_map hL]; rfl
theorem VVs.ofR {vs : List Value} {Xs : List V} (h : VRs Z vs Xs) : VVs Z as vs Xs := by
 induction vs generalizing Xs with
 | nil => cases h; exact .nil
 | cons v vs ih => cases h with | cons a b => exact .cons (.pure a) (ih b)
theorem DenI.rows (D : Den true n Γ none e f) (hl : At3 Γ is l) (hll : is.length = l.length) : DenI true n Γ (.Tuple (namesOf l) kk tpos) e (rowsW is f) := fun κ {κ L κ} h hL hall => .mk fun c ok Z Y as s S E => h.go D ok S fun v Z₁ as₁ s₁ e₁ hv S₁ => by
 apply St.openE S₁; intro g m M hp tk Si R LO CO EO S'
 apply VV.lst_inv hv; intro a vs nn h1 hvs
 have a1 : a < hp.objs.size := Heap.lt_size (Si.at R ok.gs h1)
 have W := Walks.list (prog := prg) (w := Ω.w) (A := c.A) (ok.hh rfl) hp.objs.size a (Nat.ne_of_lt a1) vs.toArray
 rw [show vs.toArray.size = _ from List.size_toArray.trans hvs.length] at W
 have F : Feed c hp.objs.size _ Z₁ as₁ Y _ _ _ _ := ⟨W, fun j h' hs b hb => by obtain ⟨⟨o, ho, _⟩, _⟩ := hs; exact List.mem_singleton.mp hb ▸ ⟨o, ho⟩, List.forall_mem_cons.mpr ⟨.inl (.head _), List.forall_mem_cons.mpr ⟨.inr ⟨_, .inl h1⟩, nofun⟩⟩, at_items hvs⟩
 have sep : ∀ b ∈ [hp.objs.size], ∀ p ∈ Y, b ≠ p.1 := fun b hb => List.mem_singleton.mp hb ▸ S'.fresh (Nat.le_refl _)
 have own0 : Own Z₁ Y [hp.objs.size, a] [hp.objs.size] (fun i h => h.IsListIter hp.objs.size a i ∧ h.IsList a vs.toArray) 0 [(hp.objs.size, { cls := .type "list_iterator", data := .fields #[.ref a, .int 0 0] })] :=
  ⟨rfl, fun h' k1 k2 => ⟨⟨_, k1 _ (.head _), rfl, rfl⟩, listOf_isList (k2 a _ (.tail _ (.head _)) (fun h => Nat.ne_of_lt a1 (List.mem_singleton.mp h)) (.inl h1))⟩⟩
 refine wpAny_pyIter_list (listOf_isList (Si.at R ok.gs h1)) ⟨_, _, Z₁, as₁, e₁, ⟨?_, ?_⟩, own0, S'.addO _ _⟩
 ·intro j u hu O st st₂ Z as s ho e S hup E Q hQ
  rw [List.getElem?_map] at hu
  revert hup; apply omap hu; intro Xs hX hup
  refine F.next ok (fun κ h => h) sep (X := .tup Xs) (by rw [tups_map hL, List.getElem?_map, hX]; rfl) ho e S fun v O' s' hv κ ho' S' => ⟨v, rfl, ?_⟩
  apply VV.tup_inv hv; intro T us n3 hT hus
  exact wpAny_letOwnedTupleGo_listiter (ho'.now ok e (fun κ h => h) S').1 (assign_tup ok hl hll (vs := us) ⟨_, S'.fx ok (.inl hT), rfl, n3, rfl⟩ (VVs.ofR hus) (beq_iff_eq.mp (List.all_eq_true.mp hall Xs (List.mem_of_getElem? hX))).symm S' hup fun s' S'' => hQ O' Z as s' ho' .refl S'')
 ·intro O st Z as s ho e S E
  rw [List.length_map, show L.length = _ from (List.length_map (f := V.tup) (as := L)).symm.trans (congrArg _ (tups_map hL).symm)] at ho
  exact F.end ok (fun κ h => h) sep ho e S fun s' S' => ⟨rfl, Z, as, .refl, S'⟩
variable {lo lo' : List V} {cl cl' : List Nat} {cv cv' : V} {τ τ' : List MO} {a : Addr} {o : Obj} {mo : MO}
theorem St.take (S : St c Γ none (c.env Γ) Z Y as ⟨lo, cl, cv, τ⟩ s) (hv : VV Z as v (.ref j)) (hm : τ[j]? = some mo) (hne : mo ≠ .gone) : ∃ a o, v = .ref a ∧ as[j]? = some a ∧ s.heap.get? a = some o ∧ ER Z as mo o ∧ (∀ p ∈ Y, p.1 ≠ a) ∧ St c Γ none (c.env Γ) Z ((a, o) :: Y) as ⟨lo, cl, cv, τ.set j .gone⟩ s := by
 obtain ⟨g, m, M, hp, tk, rfl, Si, R, LO, CO, EO⟩ := S
 obtain ⟨a, o, rfl, k1, k2, k3, k4⟩ := ref_at Si R hv hm hne
 have ne : ∀ {b x}, M b = some x -> x.1 ≠ .mut j -> b ≠ a := fun h1 h2 q => by rw [q, k2] at h1; cases h1; exact h2 rfl
 have aY : ∀ p ∈ Y, p.1 ≠ a := fun p hp' => ne (R.y p hp') Tag.noConfusion
 refine ⟨a, o, rfl, k4, k1, k3, aY, g, m, _, hp, tk, rfl, Si.tag (t' := .own) k2, ⟨fun b p e => ?_, fun p hp' => ?_, fun i' mo e ne' => ?_, by simp [R.len], fun t ht => ?_, R.hd⟩, LO, CO, .fn⟩
 ·rw [put_ne (ne (R.z b p e) Tag.noConfusion)]; exact R.z b p e
 ·rcases List.mem_cons.mp hp' with rfl | hp'
  ·exact put_self
  ·rw [put_ne (aY p hp')]; exact R.y p hp'
 ·by_cases q : j = i'
  ·subst q
   rw [List.getElem?_set_self (by simpa using (List.getElem?_eq_some_iff.mp e).1)] at e; cases e; exact absurd rfl ne'
  ·rw [List.getElem?_set_ne q] at e
   obtain ⟨b, p, q1, q2, q3⟩ := R.live i' mo e ne'
   exact ⟨b, p, q1, by rw [put_ne (ne q2 fun e => q (by cases e; rfl))]; exact q2, q3⟩
 ·obtain ⟨p, q1, q2⟩ := R.tab t ht
  exact ⟨p, by rw [put_ne (ne q1 Tag.noConfusion)]; exact q1, q2⟩
theorem St.give (S : St c Γ none (c.env Γ) Z ((a, o) :: Y) as ⟨lo, cl, cv, τ⟩ s) (hg : τ[j]? = some .gone) (ha : as[j]? = some a) (aY : ∀ p ∈ Y, p.1 ≠ a) (he : ER Z as mo o) : St c Γ none (c.env Γ) Z Y as ⟨lo, cl, cv, τ.set j mo⟩ s := by
 obtain ⟨g, m, M, hp, tk, rfl, Si, R, LO, CO, EO⟩ := S
 have ka : M a = some (.own, o) := R.y _ (.head _)
 have ne : ∀ {b x}, M b = some x -> x.1 ≠ .own -> b ≠ a := fun h1 h2 q => by rw [q, ka] at h1; cases h1; exact h2 rfl
 refine ⟨g, m, _, hp, tk, rfl, Si.tag (t' := .mut j) ka, ⟨fun b p e => ?_, fun p hp' => ?_, fun i' mo' e ne' => ?_, by simp [R.len], fun t ht => ?_, R.hd⟩, LO, CO, .fn⟩
 ·rw [put_ne (ne (R.z b p e) Tag.noConfusion)]; exact R.z b p e
 ·rw [put_ne (aY p hp')]; exact R.y p (.tail _ hp')
 ·by_cases q : j = i'
  ·subst q
   rw [List.getElem?_set_self (List.getElem?_eq_some_iff.mp hg).1] at e; cases e
   exact ⟨a, _, ha, put_self, he⟩
  ·rw [List.getElem?_set_ne q] at e
   obtain ⟨b, p, q1, q2, q3⟩ := R.live i' mo' e ne'
   exact ⟨b, p, q1, by rw [put_ne (ne q2 Tag.noConfusion)]; exact q2, q3⟩
 ·obtain ⟨p, q1, q2⟩ := R.tab t ht
  exact ⟨p, by rw [put_ne (ne q1 Tag.noConfusion)]; exact q1, q2⟩
noncomputable def SF.forR (i : Tg) (f : EF) (b : SF) : SF := fun q n Γ x => ∀ st, ∀ {l c v τ l' c' v' τ' j} {xs : List Int}, EvE f st (.ok (.ref j)) ⟨l, c, v, τ⟩ -> τ[j]? = some (.ints xs) -> EvFor b (xs.map fun x => [(i, .int x)]) ⟨l, c, v, τ.set j .gone⟩ .next ⟨l', c', v', τ'⟩ -> τ'[j]? = some .gone -> EvB q n Γ x st .next ⟨l', c', v', τ'.set j (.ints xs)⟩
theorem EvS.forR {i : Tg} {b : SF} {xs : List Int} (h : EvE f st (.ok (.ref j)) ⟨lo, cl, cv, τ⟩) (hm : τ[j]? = some (.ints xs)) (hb : EvFor b (xs.map fun x => [(i, .int x)]) ⟨lo, cl, cv, τ.set j .gone⟩ .next ⟨lo', cl', cv', τ'⟩) (hg : τ'[j]? = some .gone) : EvS (.forR i f b) st .next ⟨lo', cl', cv', τ'.set j (.ints xs)⟩ := ⟨@fun κ κ κ κ D => D _ h hm hb hg⟩
theorem DenS.forR {iter : Expr} {b : List Stmt} {fb : SF} {i : Tg} {x : Str} (D : Den true n Γ none iter f) (Db : DenB true n Γ b fb) (hi : TgAt Γ i x) (hs : ∀ env x, foldedSetIterable iter env x = pure x := by intro _ _; rfl) :
  DenS true n Γ (.For (.Name x p) iter b [] pos) (.forR i f fb) := fun κ {κ κ κ κ κ κ κ κ κ xs} h hm hfor hg => .mk fun c ok Z Y as s S => wpAny_For (h.go D ok S fun v Z₁ as₁ s₁ e₁ hv S₁ => by
 obtain ⟨a, o, rfl, k4, k1, k3, aY, S₀⟩ := S₁.take hv hm MO.noConfusion
 revert k1 S₀; have k3' := k3; apply ER.ints_inv k3'; intro vs nn hvs k1 S₀
 have a1 : a < s₁.heap.objs.size := Heap.lt_size k1
 have W := Walks.list (prog := prg) (w := Ω.w) (A := c.A) (ok.hh rfl) s₁.heap.objs.size a (Nat.ne_of_lt a1) vs.toArray
 rw [show vs.toArray.size = (xs.map V.int).length by rw [List.size_toArray, hvs.length, List.length_map]] at W
 have F : Feed c s₁.heap.objs.size _ Z₁ as₁ ((a, listOf vs.toArray nn) :: Y) _ _ _ _ := ⟨W, fun j h' hs b hb => by obtain ⟨⟨o, ho, _⟩, _⟩ := hs; exact List.mem_singleton.mp hb ▸ ⟨o, ho⟩, List.forall_mem_cons.mpr ⟨.inl (.head _), List.forall_mem_cons.mpr ⟨.inr ⟨_, .inr (.head _)⟩, nofun⟩⟩, at_items (VRs.ints hvs)⟩
 have T := F.name (p := p) ok hi fun b hb => List.mem_singleton.mp hb ▸ S₀.fresh (Nat.le_refl _)
 rw [List.map_map] at T
 refine wpAny_pyIter_list (listOf_isList k1) (codeAny_mono (for_run ok Db T hfor (O := [(s₁.heap.objs.size, { cls := .type "list_iterator", data := .fields #[.ref a, .int 0 0] })]) ⟨rfl, fun h' q1 q2 => ⟨⟨_, q1 _ (.head _), rfl, rfl⟩, listOf_isList (q2 a _ (.tail _ (.head _)) (fun h => Nat.ne_of_lt a1 (List.mem_singleton.mp h)) (.inr (.head _)))⟩⟩ (S₀.addO _ _)) fun res s' hr => ?_)
 cases hr with
 | err x => obtain ⟨_, _, _, _, _, _, hx, _⟩ := x; exact no hx
 | ok x =>
  obtain ⟨Z₃, as₃, e₃, S₃, hm'⟩ := x
  cases hm'
  exact ⟨Z₃, as₃, e₁.trans e₃, S₃.give hg (e₃.at k4) aY (.eInts hvs), .next⟩) (hs _)
end
section
variable {q : Bool} {n k : Nat} {Γ : Gam} {md : Md} {pos p apos px : Pos} {c : Cx} {env : Env} {Z Z' Z₀ : Fz} {Y Y' O O' : Led} {as as' as₀ : List Addr} {st st' s1 s2 : AS} {s : Shared} {v : Value} {X : V} {Vs xs : List V} {e elt iter kx vx : Expr} {ifs : List Expr} {t f g : EF} {I C D : Addr} {fp wr : List Addr} {Sx : Nat -> Heap -> Prop} {P : Nat -> Value -> Prop} {x : Str} {sc : Scope} {cl : List (Str × Addr)} {h' : Heap} {o o' : Obj} {a : Addr}
theorem NsObj.of {h : Heap} {C : Addr} {m : Str -> Option Value} (x : h.Ns C m) : ∃ o, h.get? C = some o ∧ NsObj C o m := by
 obtain ⟨o, es, ep, h1, h2, h3, h4⟩ := x
 exact ⟨o, h1, fun h' e => ⟨o, es, ep, e, h2, h3, h4⟩⟩
theorem closure_ok {sc : Scope} {env : Env} (h : ∀ y, (y, NameKind.free) ∈ sc.names -> ∃ a, env.cells.lookup y = some a) : ∃ cl, closureFor sc env = pure cl ∧ (∀ y a, cl.lookup y = some a -> env.cells.lookup y = some a) ∧ ∀ y, (y, NameKind.free) ∈ sc.names -> ∃ a, cl.lookup y = some a := by
 have key : ∀ (l : List (Str × NameKind)) (acc : List (Str × Addr)), (∀ y, (y, NameKind.free) ∈ l -> ∃ a, env.cells.lookup y = some a) -> (∀ y a, acc.lookup y = some a -> env.cells.lookup y = some a) ->
   ∃ cl, (forIn l acc (fun (x : Str × NameKind) cs => (match x with | (name, kind) => if (kind == NameKind.free) = true then do let a ← cellOf env name; pure (ForInStep.yield ((name, a) :: cs)) else pure (ForInStep.yield cs) : Sem (ForInStep (List (Str × Addr)))))) = pure cl ∧ (∀ y a, cl.lookup y = some a -> env.cells.lookup y = some a) ∧ (∀ y, (y, NameKind.free) ∈ l -> ∃ a, cl.lookup y = some a) ∧ ∀ y a, acc.lookup y = some a -> ∃ a', cl.lookup y = some a' := by
  intro l
  induction l with
  | nil => intro acc _ h2; exact ⟨acc, by simp, h2, (fun y hy => nomatch hy), fun y a e => ⟨a, e⟩⟩
  | cons x r ih =>
   obtain ⟨nm, kd⟩ := x
   intro acc h1 h2
   by_cases hk : kd = .free
   ·subst hk
    obtain ⟨a, ha⟩ := h1 nm (.head _)
    have h2' : ∀ y b, ((nm, a) :: acc).lookup y = some b -> env.cells.lookup y = some b := fun y b e => by
     rw [List.lookup_cons] at e
     cases q : y == nm with
     | true => rw [q] at e; cases e; rw [beq_iff_eq.mp q]; exact ha
     | false => rw [q] at e; exact h2 y b e
    obtain ⟨cl, c1, c2, c3, c4⟩ := ih ((nm, a) :: acc) (fun y hy => h1 y (.tail _ hy)) h2'
    refine ⟨cl, ?_, c2, fun y hy => ?_, fun y b e => ?_⟩
    ·rw [List.forIn_cons]
     simp only [beq_self_eq_true, if_true, cellOf, ha, pure_bind]
     exact c1
    ·rcases List.mem_cons.mp hy with e | hy
     ·cases e; exact c4 nm a (by simp)
     ·exact c3 y hy
    ·by_cases q : y = nm
     ·subst q; exact c4 y a (by simp)
     ·exact c4 y b (by rw [List.lookup_cons, show (y == nm) = false by simpa using q]; exact e)
   ·obtain ⟨cl, c1, c2, c3, c4⟩ := ih acc (fun y hy => h1 y (.tail _ hy)) h2
    refine ⟨cl, ?_, c2, fun y hy => ?_, c4⟩
    ·rw [List.forIn_cons]
     have : (kd == NameKind.free) = false := by simpa using hk
     simp only [this, Bool.false_eq_true, if_false]
     rw [pure_bind]
     exact c1
    ·rcases List.mem_cons.mp hy with e | hy
     ·cases e; exact absurd rfl hk
     ·exact c3 y hy
 obtain ⟨cl, c1, c2, c3, _⟩ := key sc.names [] h fun y a e => nomatch e
 refine ⟨cl, ?_, c2, c3⟩
 unfold closureFor
 show (forIn sc.names [] _ >>= fun r => pure r) = _
 rw [bind_pure]
 exact c1
theorem lookup_mem {α : Type} {l : List (Str × α)} {y : Str} {a : α} (h : l.lookup y = some a) : (y, a) ∈ l := by
 induction l with
 | nil => cases h
 | cons x r ih =>
  obtain ⟨b, v⟩ := x
  rw [List.lookup_cons] at h
  cases q : y == b with
  | true => rw [q] at h; cases h; rw [beq_iff_eq.mp q]; exact .head _
  | false => rw [q] at h; exact .tail _ (ih h)
structure CompSc (Γ : Gam) (sc : Scope) (x : Str) : Prop where
 cell : ∀ y ∈ sc.names, y.2 ≠ .cell
 kind : sc.kind = .function
 names : ∀ y ∈ sc.names, y.2 = .local -> sc.names.lookup y.1 = some .local
 x : sc.names.lookup x = some .local
 free : ∀ y ∈ sc.names, y.2 = .free -> y.1 ∈ Γ.cns
theorem CompSc.clos {c : Cx} {sc : Scope} {x : Str} (h : CompSc Γ sc x) (ok : Cx.Ok c Γ q n) : ∃ cl, closureFor sc (c.env Γ) = pure cl ∧ (∀ y a, cl.lookup y = some a -> c.cells.lookup y = some a) ∧ ∀ y ∈ Γ.cns, sc.names.lookup y = some .free -> ∃ a, cl.lookup y = some a := by
 obtain ⟨cl, h1, h2, h3⟩ := closure_ok (sc := sc) (env := c.env Γ) fun y hy => ok.cl y (h.free _ hy rfl)
 exact ⟨cl, h1, h2, fun y κ hy => h3 y (lookup_mem hy)⟩
theorem St.env0 (S : St c Γ none env Z Y as st s) : env = c.env Γ := by
 obtain ⟨_, _, _, _, _, _, _, _, _, _, EO⟩ := S; cases EO; rfl
theorem St.fn (S : St c Γ md env Z Y as st s) (cv : V) : St c Γ none (c.env Γ) Z Y as ⟨st.loc, st.cl, cv, st.sto⟩ s := by
 obtain ⟨g, m, M, h, tk, e, Si, R, LO, CO, EO⟩ := S; exact ⟨g, m, M, h, tk, e, Si, R, LO, CO, .fn⟩
theorem St.inC (S : St c Γ none (c.env Γ) Z Y as st s) {m : Str -> Option Value} {cv : V} (h1 : (C, o) ∈ Y) (h2 : NsObj C o m) (h3 : m x = some v) (h4 : VV Z as v cv)
  (h5 : ∀ y a, cl.lookup y = some a -> c.cells.lookup y = some a) (h6 : ∀ y ∈ Γ.cns, sc.names.lookup y = some .free -> ∃ a, cl.lookup y = some a) : St c Γ (some (x, sc)) (compEnvC sc cl C (c.env Γ)) Z Y as ⟨st.loc, st.cl, cv, st.sto⟩ s := by
 obtain ⟨g, m', M, h, tk, e, Si, R, LO, CO, EO⟩ := S; exact ⟨g, m', M, h, tk, e, Si, R, LO, CO, .comp h1 h2 h3 h4 h5 h6⟩
theorem St.chgL (S : St c Γ none (c.env Γ) Z Y as st s) (tk : Tok) (hm : (a, o) ∈ Y) (hY : ∀ p ∈ Y', p = (a, o') ∨ (p ∈ Y ∧ p.1 ≠ a)) (hs : Heap.SameBut a s.heap h') (ho : h'.get? a = some o') : St c Γ none (c.env Γ) Z Y' as st { s with heap := h', toks := tk } := by
 obtain ⟨g, m, M, h, tk, rfl, Si, R, LO, CO, EO⟩ := S
 have hM := R.y _ hm
 refine ⟨g, m, _, _, _, rfl, Si.chg (t' := .own) hM hs ho, R.own (fun b t o e ht => ?_) (fun p hp => ?_), LO, CO, .fn⟩
 ·rw [put_ne (fun q => by rw [q, hM] at e; cases e; exact ht rfl)]; exact e
 ·rcases hY p hp with rfl | h
  ·exact put_self
  ·rw [put_ne h.2]; exact R.y p h.1
theorem St.mut1 (S : St c Γ none (c.env Γ) Z Y as st s) (hm : (a, o) ∈ Y) (hY : ∀ p ∈ Y', p ∈ Y ∧ p.1 ≠ a) {mo : MO} (he : ER Z as mo o) :
  (as ++ [a])[st.sto.length]? = some a ∧ St c Γ none (c.env Γ) Z Y' (as ++ [a]) ⟨st.loc, st.cl, st.cv, st.sto ++ [mo]⟩ s := by
 obtain ⟨g, m, M, h, tk, rfl, Si, R, LO, CO, EO⟩ := S
 have ho := (Si.N _ _ _ (R.y _ hm)).1
 obtain ⟨h1, h2, h3, h4⟩ := Si.drop R hm hY ⟨rfl, fun κ κ => rfl⟩
 exact ⟨at_len R.len, g, m, _, _, _, rfl, h1.addAt (t := .mut st.sto.length) ho h3 h4, h2.addM put_self he, LO.mono Ext.addM, CO.mono (Z := Z) (Z' := Z) Ext.addM, .fn⟩
inductive DenC (q : Bool) (n : Nat) (Γ : Gam) (md : Md) : List Expr -> EF -> Prop
 | nil : DenC q n Γ md [] (.val (.bool true))
 | one {e : Expr} {f : EF} : DenT q n Γ md e f -> DenC q n Γ md [e] f
theorem DenC.go {b : Bool} (h : EvE t st (.ok (.bool b)) s1) (D : DenC q n Γ md ifs t) (ok : Cx.Ok c Γ q n) (S : St c Γ md env Z Y as st s) {Q : Bool -> Shared -> Prop} {E : Value -> Shared -> Prop} (k : ∀ Z₁ as₁ s₁, Ext Z as Z₁ as₁ -> St c Γ md env Z₁ Y as₁ s1 s₁ -> Q b s₁) :
  wpAny (model prg Ω.w) c.A (forIn ifs true fun c r => if r = true then do let ok ← isTrue c env (eval c env); pure (ForInStep.yield ok) else pure (ForInStep.yield r)) Q E s := by
 cases D with
 | nil =>
  have H := h.go (e := .Constant (.bool true) 0 ⟨0, 0, 0, 0⟩) .cbool ok S (Q := fun v s₁ => ∀ bb, v = .bool bb -> Q bb s₁) (E := E) fun v Z₁ as₁ s₁ e₁ hv S₁ bb hb => by
   revert hb; apply VV.bool_inv hv; intro hb; cases hb; exact k Z₁ as₁ s₁ e₁ S₁
  exact fun G p hG => H G p hG true rfl
 | one D => exact wpAny_tests_one (h.goT D ok S k)
inductive EvCo {α : Type} (t : EF) (step : AS -> α -> α -> AS -> Prop) : List V -> α -> AS -> α -> AS -> Prop
 | nil {acc : α} {st : AS} : EvCo t step [] acc st acc st
 | skip {X : V} {Vs : List V} {acc res : α} {st s1 s2 : AS} : EvE t ⟨st.loc, st.cl, X, st.sto⟩ (.ok (.bool false)) s1 -> EvCo t step Vs acc s1 res s2 -> EvCo t step (X :: Vs) acc st res s2
 | take {X : V} {Vs : List V} {acc acc' res : α} {st s1 s2 s3 : AS} : EvE t ⟨st.loc, st.cl, X, st.sto⟩ (.ok (.bool true)) s1 -> step s1 acc acc' s2 -> EvCo t step Vs acc' s2 res s3 -> EvCo t step (X :: Vs) acc st res s3
structure CD (wr : List Addr) (C D : Addr) (Y : Led) : Prop where
 cw : C ∉ wr
 dw : D ∉ wr
 ne : C ≠ D
 cy : ∀ p ∈ Y, p.1 ≠ C
 dy : ∀ p ∈ Y, p.1 ≠ D
 sep : ∀ b ∈ wr, ∀ p ∈ Y, b ≠ p.1
variable {oC oC' oD oD' : Obj}
theorem CD.sepY (K : CD wr C D Y) : ∀ b ∈ wr, ∀ p ∈ (C, oC) :: (D, oD) :: Y, b ≠ p.1 := fun b hb => List.forall_mem_cons.mpr ⟨fun e => K.cw (by rw [← (show b = C from e)]; exact hb), List.forall_mem_cons.mpr ⟨fun e => K.dw (by rw [← (show b = D from e)]; exact hb), K.sep b hb⟩⟩
theorem CD.setC (K : CD wr C D Y) (hO : ∀ p ∈ O, p.1 ∈ wr) : ∀ p ∈ O ++ (C, oC') :: (D, oD) :: Y, p = (C, oC') ∨ (p ∈ O ++ (C, oC) :: (D, oD) :: Y ∧ p.1 ≠ C) :=
 List.forall_mem_append.mpr ⟨fun p hp => .inr ⟨List.mem_append_left _ hp, fun e => K.cw (e ▸ hO p hp)⟩, List.forall_mem_cons.mpr ⟨.inl rfl, List.forall_mem_cons.mpr ⟨.inr ⟨List.mem_append_right _ (.tail _ (.head _)), K.ne.symm⟩, fun p hp => .inr ⟨List.mem_append_right _ (.tail _ (.tail _ hp)), K.cy p hp⟩⟩⟩⟩
theorem CD.setD (K : CD wr C D Y) (hO : ∀ p ∈ O, p.1 ∈ wr) : ∀ p ∈ O ++ (C, oC) :: (D, oD') :: Y, p = (D, oD') ∨ (p ∈ O ++ (C, oC) :: (D, oD) :: Y ∧ p.1 ≠ D) :=
 List.forall_mem_append.mpr ⟨fun p hp => .inr ⟨List.mem_append_left _ hp, fun e => K.dw (e ▸ hO p hp)⟩, List.forall_mem_cons.mpr ⟨.inr ⟨List.mem_append_right _ (.head _), K.ne⟩, List.forall_mem_cons.mpr ⟨.inl rfl, fun p hp => .inr ⟨List.mem_append_right _ (.tail _ (.tail _ hp)), K.dy p hp⟩⟩⟩⟩
structure CompK (A : Around) (e : Expr) (x : Str) (px : Pos) (ifs : List Expr) (newAcc : Sem Value) (o₀ : Obj) (TK : Value -> Env -> (Shared -> Prop) -> (Value -> Shared -> Prop) -> Shared -> Prop) : Prop where
 new : ∀ {s Q E}, Q (.ref s.heap.objs.size) { s with heap := s.heap.push o₀ } -> wpAny (model prg Ω.w) A newAcc Q E s
 free : o₀.isFreed = false
 start : ∀ {it acc env R s}, codeAny (model prg Ω.w) A (.compLoop e 0 it acc env) R s -> wpAny (model prg Ω.w) A (pyIter it) (fun it' s' => codeAny (model prg Ω.w) A (.compLoop e 0 it' acc env) R s') (notedBy (model prg Ω.w) A env fun x s' => R (.error x) s') s -> codeAny (model prg Ω.w) A (.compStart e 0 it acc env) R s
 loop : ∀ {I D : Addr} {env : Env} {R : Result -> Shared -> Prop} (J : Nat -> Shared -> Prop), (∀ k s, J k s -> wpAny (model prg Ω.w) A (pyNext (.ref I)) (fun r s₁ => match r with
   | none => R (.ok .next) s₁
   | some v => wpAny (model prg Ω.w) A (assign (.Name x px) env v) (fun κ s₂ => wpAny (model prg Ω.w) A (forIn ifs true fun c r => if r = true then do let ok ← isTrue c env (eval c env); pure (ForInStep.yield ok) else pure (ForInStep.yield r)) (fun ok s₃ =>
      if ok = true then TK (.ref D) env (fun s₅ => ∃ m, m < k ∧ J m s₅) (notedBy (model prg Ω.w) A env fun e s' => R (.error e) s') s₃ else ∃ m, m < k ∧ J m s₃) (notedBy (model prg Ω.w) A env fun e s' => R (.error e) s') s₂) (notedBy (model prg Ω.w) A env fun e s' => R (.error e) s') s₁) (notedBy (model prg Ω.w) A env fun e s' => R (.error e) s') s) ->
  ∀ k s, J k s -> codeAny (model prg Ω.w) A (.compLoop e 0 (.ref I) (.ref D) env) R s
section
variable {α : Type} {newAcc : Sem Value} {o₀ : Obj} {TK : Value -> Env -> (Shared -> Prop) -> (Value -> Shared -> Prop) -> Shared -> Prop} {RA : Fz -> α -> Obj -> Prop} {step : AS -> α -> α -> AS -> Prop} {a₀ res : α} {stE : AS}
structure StepK (c : Cx) (Γ : Gam) (x : Str) (sc : Scope) (TK : Value -> Env -> (Shared -> Prop) -> (Value -> Shared -> Prop) -> Shared -> Prop) (RA : Fz -> α -> Obj -> Prop) (step : AS -> α -> α -> AS -> Prop) : Prop where
 mono : ∀ {Z Z' acc o}, (∀ a o, Z a o -> Z' a o) -> RA Z acc o -> RA Z' acc o
 run : ∀ {D env Z Y as s s1 s2 acc acc' oD J N}, step s1 acc acc' s2 -> St c Γ (some (x, sc)) env Z Y as s1 s -> (D, oD) ∈ Y -> RA Z acc oD -> (∀ Z' as' oD' h' tk s₄, Ext Z as Z' as' -> St c Γ none (c.env Γ) Z' Y as' s2 s₄ -> Heap.SameBut D s₄.heap h' -> h'.get? D = some oD' -> RA Z' acc' oD' -> J { s₄ with heap := h', toks := tk }) -> TK (.ref D) env J N s
inductive CompI (c : Cx) (Γ : Gam) (Vs : List V) (t : EF) (step : AS -> α -> α -> AS -> Prop) (RA : Fz -> α -> Obj -> Prop) (res : α) (stE : AS) (C D : Addr) (Y : Led) (Z₀ : Fz) (as₀ : List Addr) (fp wr : List Addr) (Sx : Nat -> Heap -> Prop) (k : Nat) (s : Shared) : Prop
 | mk (j : Nat) (O : Led) (Z : Fz) (as : List Addr) (oC oD : Obj) (mC : Str -> Option Value) (acc : α) (st : AS) (vs : List V) : Vs.drop j = vs -> j ≤ Vs.length -> k = Vs.length + 1 - j -> Ext Z₀ as₀ Z as -> NsObj C oC mC -> RA Z acc oD -> EvCo t step vs acc st res stE -> Own Z₀ Y fp wr Sx j O -> St c Γ none (c.env Γ) Z (O ++ (C, oC) :: (D, oD) :: Y) as st s -> CompI c Γ Vs t step RA res stE C D Y Z₀ as₀ fp wr Sx k s
theorem comp_turns (K : CompK c.A e x px ifs newAcc o₀ TK) (hst : StepK c Γ x sc TK RA step) (ok : Cx.Ok c Γ true n) (Dt : DenC true n Γ (some (x, sc)) ifs t)
  (hx : sc.names.lookup x = some .local) (hk : sc.kind = .function) (hc1 : ∀ y a, cl.lookup y = some a -> c.cells.lookup y = some a) (hc2 : ∀ y ∈ Γ.cns, sc.names.lookup y = some .free -> ∃ a, cl.lookup y = some a)
  (F : Feed c I Vs Z₀ as₀ Y fp wr P Sx) (cd : CD wr C D Y) {RR : Result -> Shared -> Prop} (hR : ∀ Z as s oC mC oD, Ext Z₀ as₀ Z as -> NsObj C oC mC -> RA Z res oD -> St c Γ none (c.env Γ) Z ((C, oC) :: (D, oD) :: Y) as stE s -> RR (.ok .next) s)
  {mC : Str -> Option Value} (hns : NsObj C oC mC) (hra : RA Z₀ a₀ oD) (hf : EvCo t step Vs a₀ st res stE) (ho : Own Z₀ Y fp wr Sx 0 O) (S : St c Γ none (c.env Γ) Z₀ (O ++ (C, oC) :: (D, oD) :: Y) as₀ st s) :
  codeAny (model prg Ω.w) c.A (.compLoop e 0 (.ref I) (.ref D) (compEnvC sc cl C (c.env Γ))) RR s := by
 refine K.loop (CompI c Γ Vs t step RA res stE C D Y Z₀ as₀ fp wr Sx) ?_ (Vs.length + 1) s ⟨0, O, Z₀, as₀, oC, oD, mC, a₀, st, Vs, rfl, Nat.zero_le _, rfl, .refl, hns, hra, hf, ho, S⟩
 rintro kk s' ⟨j, O, Z, as, oC, oD, mC, acc, st, vs, hd, hj, rfl, e, hns, hra, hf, ho, S⟩
 have hYY : ∀ p ∈ Y, p ∈ (C, oC) :: (D, oD) :: Y := fun p hp => .tail _ (.tail _ hp)
 have go : ∀ {X vs' N J b s1}, vs = X :: vs' -> EvE t ⟨st.loc, st.cl, X, st.sto⟩ (.ok (.bool b)) s1 -> (∀ Z₃ as₃ oC' mC' O' s₃, Ext Z as Z₃ as₃ -> NsObj C oC' mC' -> Own Z₀ Y fp wr Sx (j + 1) O' -> j + 1 ≤ Vs.length -> Vs.drop (j + 1) = vs' -> St c Γ (some (x, sc)) (compEnvC sc cl C (c.env Γ)) Z₃ (O' ++ (C, oC') :: (D, oD) :: Y) as₃ s1 s₃ -> if b = true then TK (.ref D) (compEnvC sc cl C (c.env Γ)) J N s₃ else J s₃) ->
   wpAny (model prg Ω.w) c.A (pyNext (.ref I)) (fun r s₁ => match r with
   | none => RR (.ok .next) s₁
   | some v => wpAny (model prg Ω.w) c.A (assign (.Name x px) (compEnvC sc cl C (c.env Γ)) v) (fun κ s₂ => wpAny (model prg Ω.w) c.A (forIn ifs true fun c_1 r => if r = true then do let ok ← isTrue c_1 (compEnvC sc cl C (c.env Γ)) (eval c_1 (compEnvC sc cl C (c.env Γ))); pure (ForInStep.yield ok) else pure (ForInStep.yield r)) (fun ok s₃ => if ok = true then TK (.ref D) (compEnvC sc cl C (c.env Γ)) J N s₃ else J s₃) N s₂) N s₁) N s' := by
  intro X vs' N J b s1 hvs ht hk'
  obtain ⟨hX, hd', hlt⟩ := drop_cons (hd.trans hvs)
  refine F.next ok hYY cd.sepY hX ho e S fun v O' s₁ hv κ ho' S₁ => ?_
  have hOk : ∀ p ∈ O', p.1 ∈ wr := fun p hp => by rw [← ho'.keys]; exact List.mem_map_of_mem hp
  have hm : ∀ {o}, (C, o) ∈ O' ++ (C, o) :: (D, oD) :: Y := List.mem_append_right _ (.head _)
  refine wpAny_assign_Name (wpAny_storeName_local (env := compEnvC sc cl C (c.env Γ)) (lookup_relabel_local hx) (hns _ (S₁.own hm)) (fun h' hn' hs' => ?_) (by simp [compEnvC, relabel, hk]))
  obtain ⟨oC', hoC', hns'⟩ := NsObj.of hn'
  exact DenC.go (b := b) ht Dt ok (St.inC (x := x) (sc := sc) (cl := cl) (C := C) (v := v) (cv := X) (S₁.chgL _ hm (cd.setC hOk) hs' hoC') hm hns' (by simp) hv hc1 hc2) fun Z₃ as₃ s₃ e₃ S₃ => hk' Z₃ as₃ oC' _ O' s₃ e₃ hns' ho' hlt hd' S₃
 cases hf with
 | nil =>
  obtain rfl : j = Vs.length := Nat.le_antisymm hj (List.drop_eq_nil_iff.mp hd)
  exact F.end ok hYY cd.sepY ho e S fun s₁ S₁ => hR Z as s₁ oC mC oD e hns hra S₁
 | @skip _ _ _ _ _ s1 _ ht hf => exact go rfl ht fun Z₃ as₃ oC' mC' O' s₃ e₃ hns' ho' hlt hd' S₃ => ⟨_, by omega, j + 1, O', Z₃, as₃, oC', oD, mC', acc, _, _, hd', hlt, rfl, e.trans e₃, hns', hst.mono e₃.1 hra, hf, ho', S₃.fn s1.cv⟩
 | take ht hs hf => exact go rfl ht fun Z₃ as₃ oC' mC' O' s₃ e₃ hns' ho' hlt hd' S₃ => hst.run hs S₃ (List.mem_append_right _ (.tail _ (.head _))) (hst.mono e₃.1 hra) fun Z₄ as₄ oD' h' tk s₄ e₄ S₄ hs₄ ho₄ hra' =>
   ⟨_, by omega, j + 1, O', Z₄, as₄, oC', oD', mC', _, _, _, hd', hlt, rfl, (e.trans e₃).trans e₄, hns', hra', hf, ho', S₄.chgL tk (List.mem_append_right _ (.tail _ (.head _))) (cd.setD fun p hp => by rw [← ho'.keys]; exact List.mem_map_of_mem hp) hs₄ ho₄⟩
theorem comp_block {w : WF} {RR : Value -> Addr -> Result -> Shared -> Prop} {E : Value -> Shared -> Prop} (K : CompK c.A e x px ifs newAcc o₀ TK) (hst : StepK c Γ x sc TK RA step) (h0 : ∀ Z, RA Z a₀ o₀) (ok : Cx.Ok c Γ true n) (Dw : DenW true n Γ none iter w) (Dt : DenC true n Γ (some (x, sc)) ifs t) (hsc : CompSc Γ sc x)
  (hc1 : ∀ y a, cl.lookup y = some a -> c.cells.lookup y = some a) (hc2 : ∀ y ∈ Γ.cns, sc.names.lookup y = some .free -> ∃ a, cl.lookup y = some a) (hw : EvG w st Vs s1) (hf : EvCo t step Vs a₀ s1 res stE) (S : St c Γ none (c.env Γ) Z Y as st s)
  (hR : ∀ D C Z' as' s oC mC oD, Ext Z as Z' as' -> NsObj C oC mC -> (D == sysModules) = false -> RA Z' res oD -> CD [] C D Y -> St c Γ none (c.env Γ) Z' ((C, oC) :: (D, oD) :: Y) as' stE s -> RR (.ref D) C (.ok .next) s) :
  wpAny (model prg Ω.w) c.A (eval iter (c.env Γ)) (fun xv s₁ => wpAny (model prg Ω.w) c.A (pyIter xv) (fun it s₂ => wpAny (model prg Ω.w) c.A newAcc (fun acc s₃ => wpAny (model prg Ω.w) c.A (newFunctionEnv sc (c.env Γ).globals cl [] (c.env Γ).qual none .none (some (c.env Γ))) (fun cenv s₄ =>
   codeAny (model prg Ω.w) c.A (.compStart e 0 it acc { cenv with scope := relabel sc (c.env Γ) }) (RR acc cenv.locals) s₄) E s₃) E s₂) E s₁) E s := by
 refine wpAny_mono ((hw.den Dw).run c _ ok Z Y as s S E) (fun xv s₁ h₁ => wpAny_mono h₁ (fun it s₂ h₂ => ?_) fun κ κ e => e) fun κ κ e => e
 obtain ⟨I, fp, wr, P, Sx, O, Z', as', rfl, e₀, F, sep, ho, S₂⟩ := h₂
 have hmod : (s₂.heap.objs.size == sysModules) = false := by
  obtain ⟨g, m, M, h, tk, rfl, Si, R, LO, CO, EO⟩ := S₂
  exact beq_eq_false_iff_ne.mpr (Nat.ne_of_gt (modules_low ((Si.top ok.gs).nolimit.keeps Si.F.keep)))
 refine K.new (wpAny_newFunctionEnv hsc.cell (fun y hy => nomatch hy) (fun h₁ hns₁ hsb₁ => ?_) hsc.kind)
 obtain ⟨oC, hoC, hnsC⟩ := NsObj.of hns₁
 have hsz : (s₂.heap.push o₀).objs.size = s₂.heap.objs.size + 1 := Heap.size_push ..
 have hlt : s₂.heap.objs.size < (s₂.heap.push o₀).objs.size := by rw [hsz]; exact Nat.lt_succ_self _
 have hk1 : ∀ b o, s₂.heap.get? b = some o -> h₁.get? b = some o := fun b o e => hsb₁.extBut b o (Nat.ne_of_lt (Nat.lt_trans (Heap.lt_size e) hlt)) (Heap.get?_push_of_some _ (Heap.get?_push_of_some _ e))
 have hoD : h₁.get? s₂.heap.objs.size = some o₀ := hsb₁.extBut _ _ (Nat.ne_of_lt hlt) (Heap.get?_push_of_some _ (Heap.get?_push_size _ K.free))
 have fr : ∀ b, s₂.heap.objs.size ≤ b -> (∀ p ∈ Y, p.1 ≠ b) ∧ b ∉ wr := fun b hb => ⟨fun p hp q => S₂.fresh hb p (List.mem_append_right _ hp) q.symm, fun h => by
  obtain ⟨o, h⟩ := ho.in (Y' := Y) b h; exact S₂.fresh hb _ h rfl⟩
 have cd : CD wr (s₂.heap.push o₀).objs.size s₂.heap.objs.size Y := ⟨(fr _ (Nat.le_of_lt hlt)).2, (fr _ (Nat.le_refl _)).2, Nat.ne_of_gt hlt, (fr _ (Nat.le_of_lt hlt)).1, (fr _ (Nat.le_refl _)).1, sep⟩
 have a1 : ∀ b ∈ [(s₂.heap.push o₀).objs.size, s₂.heap.objs.size], s₂.heap.objs.size ≤ b := List.forall_mem_cons.mpr ⟨Nat.le_of_lt hlt, List.forall_mem_cons.mpr ⟨Nat.le_refl _, fun κ h => nomatch h⟩⟩
 have a2 : ∀ p ∈ [((s₂.heap.push o₀).objs.size, oC), (s₂.heap.objs.size, o₀)], p.1 ∈ [(s₂.heap.push o₀).objs.size, s₂.heap.objs.size] ∧ h₁.get? p.1 = some p.2 := List.forall_mem_cons.mpr ⟨⟨.head _, hoC⟩, List.forall_mem_cons.mpr ⟨⟨.tail _ (.head _), hoD⟩, fun κ h => nomatch h⟩⟩
 have S₅ : St c Γ none (c.env Γ) Z' (O ++ ((s₂.heap.push o₀).objs.size, oC) :: (s₂.heap.objs.size, o₀) :: Y) as' s1 { s₂ with heap := h₁, toks := s₂.toks + ([] : List (Str × Value)).length } := by
  refine (S₂.wr (Y' := O ++ Y) (fun b hb => .inr (a1 b hb)) (fun p hp => ⟨hp, fun hb => S₂.fresh (a1 _ hb) p hp rfl⟩) (fun b o κ => hk1 b o) h₁.get? (fun κ κ e => e) a2 _).sub fun p hp => ?_
  exact (List.mem_append.mp hp).elim (fun h => List.mem_append_right _ (List.mem_append_left _ h)) fun h => (List.mem_cons.mp h).elim (fun h => h ▸ .head _) fun h => (List.mem_cons.mp h).elim (fun h => h ▸ .tail _ (.head _)) fun h => List.mem_append_right _ (List.mem_append_right _ h)
 have loop := comp_turns (e := e) (step := step) K hst ok Dt hsc.x hsc.kind hc1 hc2 F cd (RR := RR (.ref s₂.heap.objs.size) (s₂.heap.push o₀).objs.size)
  (fun Z'' as'' s oC mC oD e' h1 h2 h5 => hR _ _ Z'' as'' s oC mC oD (e₀.trans e') h1 hmod h2 ⟨nofun, nofun, cd.ne, cd.cy, cd.dy, nofun⟩ h5) hnsC (h0 _) hf ho S₅
 exact K.start loop (F.W.self 0 _ _ _ (ho.now ok .refl (fun p hp => .tail _ (.tail _ hp)) S₅) loop)
end
end
section
variable {q : Bool} {n k : Nat} {Γ : Gam} {md : Md} {pos p apos px py : Pos} {c : Cx} {env : Env} {Z Z' Z₀ : Fz} {Y Y' O O' : Led} {as as' as₀ : List Addr} {st st' s1 s2 stE : AS} {s : Shared} {v : Value} {X : V} {Vs xs : List V} {e elt iter kx vx : Expr} {ifs : List Expr} {t f g : EF} {I C D : Addr} {x y : Str} {sc : Scope} {h' : Heap} {o o' : Obj} {a : Addr} {w : WF} {A : Around} {i : Nat}
section
variable {α : Type} {newAcc : Sem Value} {o₀ : Obj} {TK : Value -> Env -> (Shared -> Prop) -> (Value -> Shared -> Prop) -> Shared -> Prop} {RA : Fz -> α -> Obj -> Prop} {step : AS -> α -> α -> AS -> Prop} {a₀ res : α}
theorem St.letC {oC : Obj} (S : St c Γ none (c.env Γ) Z Y as st s) (hm : (C, oC) ∈ Y) (hY : ∀ p ∈ Y', p ∈ Y ∧ p.1 ≠ C) (hs : Heap.SameBut C s.heap h') : St c Γ none (c.env Γ) Z Y' as st { s with heap := h' } :=
 S.wr (O' := []) (wr := [C]) (fun b hb => .inl ⟨oC, List.mem_singleton.mp hb ▸ hm⟩) (fun p hp => ⟨(hY p hp).1, fun hb => (hY p hp).2 (List.mem_singleton.mp hb)⟩) (fun b o hb e => (hs.2 b fun q => hb (List.mem_singleton.mpr q)).trans e) (fun κ => none) (fun κ κ e => nomatch e) (fun κ h => nomatch h) s.toks
theorem comp_val {Q E : Value -> Shared -> Prop} {pos' : Pos} {gs : List Comprehension} (hcl : clausesOf e = ⟨.Name x px, iter, ifs, 0⟩ :: gs) (hs : ∀ env x, foldedSetIterable iter env x = pure x) (K : CompK c.A e x px ifs newAcc o₀ (TK)) (hst : StepK c Γ x sc TK RA step) (h0 : ∀ Z, RA Z a₀ o₀)
  (ok : Cx.Ok c Γ true n) (Dw : DenW true n Γ none iter w) (Dt : DenC true n Γ (some (x, sc)) ifs t) (hsc : CompSc Γ sc x) (hw : EvG w st Vs s1) (hf : EvCo t step Vs a₀ s1 res stE) (S : St c Γ none (c.env Γ) Z Y as st s)
  (k : ∀ D Z' as' s oD, Ext Z as Z' as' -> (D == sysModules) = false -> RA Z' res oD -> (∀ p ∈ Y, p.1 ≠ D) -> St c Γ none (c.env Γ) Z' ((D, oD) :: Y) as' stE s -> Q (.ref D) s) :
  wpAny (model prg Ω.w) c.A (comprehension e sc (c.env Γ) pos' newAcc false (eval iter (c.env Γ)) none) Q E s := by
 obtain ⟨cl, hcl', hc1, hc2⟩ := hsc.clos ok
 exact wpAny_comprehension_free hcl (hs _) hcl' hsc.kind hsc.names (comp_block K hst h0 ok Dw Dt hsc hc1 hc2 hw hf S fun D C Z' as' s' oC mC oD e₁ hns hm ra cd S' => ⟨mC, hns _ (S'.own (.head _)), fun h' hs' => k D Z' as' _ oD e₁ hm ra cd.dy (S'.letC (.head _) (List.forall_mem_cons.mpr ⟨⟨.tail _ (.head _), cd.ne.symm⟩, fun p hp => ⟨.tail _ (.tail _ hp), cd.cy p hp⟩⟩) hs')⟩)
theorem comp_set {E : Value -> Shared -> Prop} {pos' : Pos} {gs : List Comprehension} (hcl : clausesOf e = ⟨.Name x px, iter, ifs, 0⟩ :: gs) (hs : ∀ env x, foldedSetIterable iter env x = pure x) (K : CompK c.A e x px ifs newAcc o₀ (TK)) (hst : StepK c Γ x sc TK RA step) (h0 : ∀ Z, RA Z a₀ o₀)
  (ok : Cx.Ok c Γ true n) (Dw : DenW true n Γ none iter w) (Dt : DenC true n Γ (some (x, sc)) ifs t) (hsc : CompSc Γ sc x) (hw : EvG w st Vs s1) (hf : EvCo t step Vs a₀ s1 res stE) (S : St c Γ none (c.env Γ) Z Y as st s) (hi : Γ.lns[i]? = some y) (hl : Γ.scope.names.lookup y = some .local)
  (fz : ∀ {Z D o}, Z D o -> (D == sysModules) = false -> RA Z res o -> VR Z (.ref D) X) :
  wpAny (model prg Ω.w) c.A (comprehension e sc (c.env Γ) pos' newAcc false (eval iter (c.env Γ)) (some (assign (.Name y py) (c.env Γ)))) (fun κ => PS c Γ Y Z as .next ⟨stE.loc.set i X, stE.cl, st.cv, stE.sto⟩ .next) E s := by
 obtain ⟨cl, hcl', hc1, hc2⟩ := hsc.clos ok
 refine wpAny_comprehension_free hcl (hs _) hcl' hsc.kind hsc.names (comp_block K hst h0 ok Dw Dt hsc hc1 hc2 hw hf S fun D C Z' as' s' oC mC oD e₁ hns hm ra cd S' => ?_)
 have S₂ := S'.frz (Y' := (C, oC) :: Y) (.tail _ (.head _)) (List.forall_mem_cons.mpr ⟨⟨.head _, cd.ne⟩, fun p hp => ⟨.tail _ (.tail _ hp), cd.dy p hp⟩⟩)
 exact wpAny_assign_Name (store_loc ok hi hl (.pure (fz (.inr ⟨rfl, rfl⟩) hm (hst.mono (fun κ κ => .inl) ra))) S₂ fun s'' S'' => ⟨mC, hns _ (S''.own (.head _)), fun h' hs' => ⟨_, as', e₁.trans .add, (S''.letC (.head _) (fun p hp => ⟨.tail _ hp, cd.cy p hp⟩) hs').fn _, .next⟩⟩)
end
noncomputable def RL (Z : Fz) (acc : List V) (o : Obj) : Prop := ∃ vs nn, o = listOf vs.toArray nn ∧ VRs Z vs acc
noncomputable def LStep (f : EF) (st : AS) (acc acc' : List V) (st' : AS) : Prop := ∃ R, EvE f st (.ok R) st' ∧ R.pureB = true ∧ acc' = acc ++ [R]
noncomputable def LStepB (f : EF) (st : AS) (acc acc' : List V) (st' : AS) : Prop := acc.length ≤ 1000000 ∧ LStep f st acc acc' st'
noncomputable abbrev TKL (A : Around) (elt : Expr) (acc : Value) (env : Env) (J : Shared -> Prop) (N : Value -> Shared -> Prop) : Shared -> Prop := wpAny (model prg Ω.w) A (eval elt env) (fun x s => wpAny (model prg Ω.w) A (call (.builtin "list.append") [acc, x]) (fun κ => J) N s) N
theorem listK : CompK A (.ListComp elt [⟨.Name x px, iter, ifs, 0⟩] sc pos) x px ifs (newList []) (listOf #[] 0) (TKL A elt) :=
 ⟨fun h => wpAny_newObj_type h, rfl, fun h0 h => codeAny_compStart_list h0 h, fun J h k s hJ => codeAny_compLoop_tests J h k hJ⟩
theorem RL.mono {acc : List V} (hz : ∀ a o, Z a o -> Z' a o) (x : RL Z acc o) : RL Z' acc o := by obtain ⟨vs, nn, h1, h2⟩ := x; exact ⟨vs, nn, h1, h2.mono hz⟩
theorem EvCo.len {acc res : List V} (h : EvCo t (LStep g) Vs acc st res st') : acc.length ≤ res.length ∧ (res.length ≤ 1000000 -> EvCo t (LStepB g) Vs acc st res st') := by
 induction h with
 | nil => exact ⟨Nat.le_refl _, fun κ => .nil⟩
 | skip h _ ih => exact ⟨ih.1, fun hl => .skip h (ih.2 hl)⟩
 | take h hs _ ih =>
  have hs' := hs
  obtain ⟨R, h1, h2, rfl⟩ := hs
  have h3 := ih.1
  rw [List.length_append, List.length_singleton] at h3
  exact ⟨Nat.le_of_succ_le h3, fun hl => .take h ⟨Nat.le_trans (Nat.le_of_succ_le h3) hl, hs'⟩ (ih.2 hl)⟩
theorem list_step (ok : Cx.Ok c Γ true n) (Dg : Den true n Γ (some (x, sc)) elt g) : StepK c Γ x sc (TKL c.A elt) RL (LStepB g) := ⟨RL.mono, fun {D env Z Y as s s1 s2 acc acc' oD J N} h S hm ra k => by
 obtain ⟨hlen, R, hg, hp, rfl⟩ := h
 obtain ⟨vs, nn, rfl, hvs⟩ := ra
 refine hg.go Dg ok S fun v Z₁ as₁ s₁ e₁ hv S₁ => append_at (S₁.own hm) (fun h' hs ho => k Z₁ as₁ _ h' _ s₁ e₁ (S₁.fn s2.cv) hs ho ⟨vs ++ [v], nn + 1, by rw [show (vs ++ [v]).toArray = vs.toArray.push v by simp], (hvs.mono e₁.1).append (.cons (hv.toR hp) .nil)⟩) (sl (by rw [List.size_toArray, hvs.length]; exact hlen))⟩
noncomputable def EF.comp (w : WF) (t f : EF) : EF := fun q n Γ md tt e => ∀ st, ∀ {s1 Vs res stE}, EvG w st Vs s1 -> EvCo t (LStep f) Vs [] s1 res stE -> res.length ≤ 1000000 -> Ev q n Γ md tt e st (.ok (mkList res)) ⟨stE.loc, stE.cl, st.cv, stE.sto⟩
noncomputable def EF.compM (w : WF) (t f : EF) : EF := fun q n Γ md tt e => ∀ st, ∀ {s1 Vs res stE xs}, EvG w st Vs s1 -> EvCo t (LStep f) Vs [] s1 res stE -> res.length ≤ 1000000 -> toInts res = some xs -> Ev q n Γ md tt e st (.ok (.ref stE.sto.length)) ⟨stE.loc, stE.cl, st.cv, stE.sto ++ [.ints xs]⟩
noncomputable def SF.setComp (i : Nat) (w : WF) (t f : EF) : SF := fun q n Γ b => ∀ st, ∀ {s1 Vs res stE}, EvG w st Vs s1 -> EvCo t (LStep f) Vs [] s1 res stE -> res.length ≤ 1000000 -> EvB q n Γ b st .next ⟨stE.loc.set i (mkList res), stE.cl, st.cv, stE.sto⟩
section
variable {res : List V}
theorem EvE.comp (hw : EvG w st Vs s1) (hf : EvCo t (LStep f) Vs [] s1 res stE) (hl : res.length ≤ 1000000) : EvE (.comp w t f) st (.ok (mkList res)) ⟨stE.loc, stE.cl, st.cv, stE.sto⟩ := ⟨@fun κ κ κ κ κ κ D => D _ hw hf hl⟩
theorem EvE.compM {xs : List Int} (hw : EvG w st Vs s1) (hf : EvCo t (LStep f) Vs [] s1 res stE) (hl : res.length ≤ 1000000) (hx : toInts res = some xs) : EvE (.compM w t f) st (.ok (.ref stE.sto.length)) ⟨stE.loc, stE.cl, st.cv, stE.sto ++ [.ints xs]⟩ := ⟨@fun κ κ κ κ κ κ D => D _ hw hf hl hx⟩
theorem EvS.setComp (hw : EvG w st Vs s1) (hf : EvCo t (LStep f) Vs [] s1 res stE) (hl : res.length ≤ 1000000) : EvS (.setComp i w t f) st .next ⟨stE.loc.set i (mkList res), stE.cl, st.cv, stE.sto⟩ := ⟨@fun κ κ κ κ D => D _ hw hf hl⟩
theorem RL.fz (hz : Z D o) (_ : (D == sysModules) = false) (ra : RL Z res o) : VR Z (.ref D) (Mine.mkList res) := by
 obtain ⟨vs, nn, rfl, h⟩ := ra; exact .mkList (.inl hz) h
end
theorem Den.comp (Dw : DenW true n Γ none iter w) (Dt : DenC true n Γ (some (x, sc)) ifs t) (Dg : Den true n Γ (some (x, sc)) elt g) (hsc : CompSc Γ sc x) (hs : ∀ env x, foldedSetIterable iter env x = pure x := by intro _ _; rfl) :
  Den true n Γ none (.ListComp elt [⟨.Name x px, iter, ifs, 0⟩] sc pos) (.comp w t g) := fun κ => fun hw hf hl => .mk fun c env ok Z Y as s S => by
 obtain rfl := S.env0
 exact comp_val rfl hs listK (list_step ok Dg) (fun κ => ⟨[], 0, rfl, .nil⟩) ok Dw Dt hsc hw (hf.len.2 hl) S fun D Z' as' s oD e hm ra hd S' => ⟨_, _, as', rfl, e.trans .add, .pure (RL.fz (.inr ⟨rfl, rfl⟩) hm (ra.mono fun κ κ => .inl)), (S'.frz (.head _) fun p hp => ⟨.tail _ hp, hd p hp⟩).fn _⟩
theorem Den.compM (Dw : DenW true n Γ none iter w) (Dt : DenC true n Γ (some (x, sc)) ifs t) (Dg : Den true n Γ (some (x, sc)) elt g) (hsc : CompSc Γ sc x) (hs : ∀ env x, foldedSetIterable iter env x = pure x := by intro _ _; rfl) :
  Den true n Γ none (.ListComp elt [⟨.Name x px, iter, ifs, 0⟩] sc pos) (.compM w t g) := fun κ => fun hw hf hl hx => .mk fun c env ok Z Y as s S => by
 obtain rfl := S.env0
 refine comp_val rfl hs listK (list_step ok Dg) (fun κ => ⟨[], 0, rfl, .nil⟩) ok Dw Dt hsc hw (hf.len.2 hl) S fun D Z' as' s oD e hm ra hd S' => ?_
 obtain ⟨vs, nn, rfl, hvs⟩ := ra
 obtain ⟨h1, S₂⟩ := S'.mut1 (Y' := Y) (.head _) (fun p hp => ⟨.tail _ hp, hd p hp⟩) (.eInts (toInts_of hx hvs))
 exact ⟨_, Z', _, rfl, e.trans .addM, .ref h1, S₂.fn _⟩
theorem DenS.setComp (Dw : DenW true n Γ none iter w) (Dt : DenC true n Γ (some (x, sc)) ifs t) (Dg : Den true n Γ (some (x, sc)) elt g) (hsc : CompSc Γ sc x) (hi : Γ.lns[i]? = some y) (hl : Γ.scope.names.lookup y = some .local)
  (hsw : ∀ c : Cx, swapsWith (.ListComp elt [⟨.Name x px, iter, ifs, 0⟩] sc pos) (some (.Name y py)) p.line (c.env Γ) = pure true) (hs : ∀ env x, foldedSetIterable iter env x = pure x := by intro _ _; rfl) :
  DenS true n Γ (.Assign [.Name y py] (.ListComp elt [⟨.Name x px, iter, ifs, 0⟩] sc pos) p) (.setComp i w t g) := fun κ => fun hw hf hl' => .mk fun c ok Z Y as s S => by
 show wpAny _ _ (exec _ _) _ _ _
 rw [exec_Assign_Name_used _ _ _ _ (hsw _)]
 refine wpAny_bind (wpAny_standAt (wpAny_bind ?_))
 show wpAny _ c.A (do let _ ← comprehension (.ListComp elt [⟨.Name x px, iter, ifs, 0⟩] sc pos) sc (c.env Γ) _ (newList []) false (eval iter (c.env Γ)) (some (assign (.Name y py) (c.env Γ)))) _ _ s
 exact wpAny_bind (wpAny_mono (comp_set (py := py) rfl hs listK (list_step ok Dg) (fun κ => ⟨[], 0, rfl, .nil⟩) ok Dw Dt hsc hw (hf.len.2 hl') S hi hl RL.fz) (fun κ s' hq => wpAny_pure (wpAny_pure hq)) fun κ κ e => e)
noncomputable def storeV (kvs : List (Int × V)) (k : Int) (v : V) : List (Int × V) :=
 if kvs.any (fun kv => kv.1 = k) then kvs.map (fun kv => if kv.1 = k then (kv.1, v) else kv) else kvs ++ [(k, v)]
noncomputable abbrev emptyD : Obj := { cls := .type "dict", dict := none, data := .dict #[] }
section
variable {K : Type} [DecidableEq K] {u : World} {knd : KeyKind prg u K} {h : Heap} {kvs kvs' : List (Int × Value)} {xs xs' : List (Int × V)}
theorem DObj.of {kvs : List (K × Value)} (x : h.DictOf knd a kvs) : ∃ o, h.get? a = some o ∧ DObj knd o kvs := by
 obtain ⟨o, es, ep, h1, r⟩ := x; exact ⟨o, h1, es, ep, r⟩
theorem DObj.empty : DObj knd emptyD [] := ⟨#[], 0, ⟨rfl, rfl, rfl⟩, rfl, fun κ he => by simp at he, Pairs.nil, List.nodup_nil⟩
theorem DRs.length (h : DRs Z kvs xs) : kvs.length = xs.length := by
 induction kvs generalizing xs with
 | nil => cases h; rfl
 | cons p r ih => cases h with | cons a b => rw [List.length_cons, List.length_cons, ih b]
theorem DRs.any (h : DRs Z kvs xs) (k : Int) : kvs.any (fun kv => kv.1 = k) = xs.any (fun kv => kv.1 = k) := by
 induction kvs generalizing xs with
 | nil => cases h; rfl
 | cons p r ih => cases h with | cons a b => rw [List.any_cons, List.any_cons, ih b]
theorem DRs.append (h : DRs Z kvs xs) (h' : DRs Z kvs' xs') : DRs Z (kvs ++ kvs') (xs ++ xs') := by
 induction kvs generalizing xs with
 | nil => cases h; exact h'
 | cons p r ih => cases h with | cons a b => exact .cons a (ih b)
theorem DRs.map (h : DRs Z kvs xs) {k : Int} (hv : VR Z v X) : DRs Z (kvs.map fun kv => if kv.1 = k then (kv.1, v) else kv) (xs.map fun kv => if kv.1 = k then (kv.1, X) else kv) := by
 induction kvs generalizing xs with
 | nil => cases h; exact .nil
 | cons p r ih =>
  cases h with
  | @cons k0 v0 X0 _ _ a b =>
   by_cases e : k0 = k
   ·rw [List.map_cons, List.map_cons, if_pos e, if_pos e]; exact .cons hv (ih b)
   ·rw [List.map_cons, List.map_cons, if_neg e, if_neg e]; exact .cons a (ih b)
theorem DRs.store (h : DRs Z kvs xs) {k : Int} (hv : VR Z v X) : DRs Z (stored kvs k v) (storeV xs k X) := by
 unfold stored storeV
 rw [h.any]
 split
 ·exact h.map hv
 ·exact h.append (.cons hv .nil)
end
noncomputable def RD (Z : Fz) (acc : List (Int × V)) (o : Obj) : Prop := ∃ kvs, DObj (intKind prg Ω.w) o kvs ∧ DRs Z kvs acc
noncomputable def DStep (f g : EF) (st : AS) (acc acc' : List (Int × V)) (st' : AS) : Prop := ∃ j s₁ R, EvE f st (.ok (.int j)) s₁ ∧ EvE g s₁ (.ok R) st' ∧ R.pureB = true ∧ acc.length ≤ 1000000 ∧ acc' = storeV acc j R
noncomputable abbrev TKD (A : Around) (kx vx : Expr) (acc : Value) (env : Env) (J : Shared -> Prop) (N : Value -> Shared -> Prop) : Shared -> Prop := wpAny (model prg Ω.w) A (eval kx env) (fun k => wpAny (model prg Ω.w) A (eval vx env) (fun x => wpAny (model prg Ω.w) A (match acc with | .ref D => dictSet D k x | _ => pure ()) (fun κ => J) N) N) N
theorem dictK : CompK A (.DictComp kx vx [⟨.Name x px, iter, ifs, 0⟩] sc pos) x px ifs newDict emptyD (TKD A kx vx) :=
 ⟨fun h => wpAny_newObj_type h, rfl, fun h0 h => codeAny_compStart_dict h0 h, fun J h k s hJ => codeAny_compLoop_testsD J h k hJ⟩
theorem RD.mono {acc : List (Int × V)} (hz : ∀ a o, Z a o -> Z' a o) (x : RD Z acc o) : RD Z' acc o := by obtain ⟨kvs, h1, h2⟩ := x; exact ⟨kvs, h1, h2.mono hz⟩
theorem dict_step (ok : Cx.Ok c Γ true n) (Df : Den true n Γ (some (x, sc)) kx f) (Dg : Den true n Γ (some (x, sc)) vx g) : StepK c Γ x sc (TKD c.A kx vx) RD (DStep f g) := ⟨RD.mono, fun {D env Z Y as s s1 s2 acc acc' oD J N} h S hm ra k => by
 obtain ⟨j, sm, R, hf, hg, hp, hlen, rfl⟩ := h
 obtain ⟨kvs, ho, hr⟩ := ra
 refine hf.go Df ok S fun kv Z₁ as₁ s₁ e₁ hk S₁ => hg.go Dg ok S₁ fun v Z₂ as₂ s₂ e₂ hv S₂ => ?_
 apply VV.int_inv hk; intro tk
 have hr' := hr.mono (e₁.trans e₂).1
 refine wpAny_dictSet_pairs (knd := intKind prg Ω.w) (k := j) intKey (ho.at (S₂.own hm)) (fun h₅ hd₅ hs₅ => ?_) (sl (by rw [hr'.length]; exact hlen))
 obtain ⟨oD', ho₅, hoD'⟩ := DObj.of hd₅
 exact k Z₂ as₂ oD' h₅ _ s₂ (e₁.trans e₂) (S₂.fn s2.cv) hs₅ ho₅ ⟨_, hoD', hr'.store (hv.toR hp)⟩⟩
noncomputable def EF.compD (w : WF) (t f g : EF) : EF := fun q n Γ md tt e => ∀ st, ∀ {s1 Vs res stE}, EvG w st Vs s1 -> EvCo t (DStep f g) Vs [] s1 res stE -> Ev q n Γ md tt e st (.ok (.dict res)) ⟨stE.loc, stE.cl, st.cv, stE.sto⟩
noncomputable def SF.setCompD (i : Nat) (w : WF) (t f g : EF) : SF := fun q n Γ b => ∀ st, ∀ {s1 Vs res stE}, EvG w st Vs s1 -> EvCo t (DStep f g) Vs [] s1 res stE -> EvB q n Γ b st .next ⟨stE.loc.set i (.dict res), stE.cl, st.cv, stE.sto⟩
section
variable {res : List (Int × V)}
theorem EvE.compD (hw : EvG w st Vs s1) (hf : EvCo t (DStep f g) Vs [] s1 res stE) : EvE (.compD w t f g) st (.ok (.dict res)) ⟨stE.loc, stE.cl, st.cv, stE.sto⟩ := ⟨@fun κ κ κ κ κ κ D => D _ hw hf⟩
theorem EvS.setCompD (hw : EvG w st Vs s1) (hf : EvCo t (DStep f g) Vs [] s1 res stE) : EvS (.setCompD i w t f g) st .next ⟨stE.loc.set i (.dict res), stE.cl, st.cv, stE.sto⟩ := ⟨@fun κ κ κ κ D => D _ hw hf⟩
theorem RD.fz (hz : Z D o) (hm : (D == sysModules) = false) (ra : RD Z res o) : VR Z (.ref D) (.dict res) := by
 obtain ⟨kvs, h1, h2⟩ := ra; exact .dict hm (.inl hz) h1 h2
end
theorem Den.compD (Dw : DenW true n Γ none iter w) (Dt : DenC true n Γ (some (x, sc)) ifs t) (Df : Den true n Γ (some (x, sc)) kx f) (Dg : Den true n Γ (some (x, sc)) vx g) (hsc : CompSc Γ sc x) (hs : ∀ env x, foldedSetIterable iter env x = pure x := by intro _ _; rfl) :
  Den true n Γ none (.DictComp kx vx [⟨.Name x px, iter, ifs, 0⟩] sc pos) (.compD w t f g) := fun κ => fun hw hf => .mk fun c env ok Z Y as s S => by
 obtain rfl := S.env0
 exact comp_val rfl hs dictK (dict_step ok Df Dg) (fun κ => ⟨[], .empty, .nil⟩) ok Dw Dt hsc hw hf S fun D Z' as' s oD e hm ra hd S' => ⟨_, _, as', rfl, e.trans .add, .pure (RD.fz (.inr ⟨rfl, rfl⟩) hm (ra.mono fun κ κ => .inl)), (S'.frz (.head _) fun p hp => ⟨.tail _ hp, hd p hp⟩).fn _⟩
theorem DenS.setCompD (Dw : DenW true n Γ none iter w) (Dt : DenC true n Γ (some (x, sc)) ifs t) (Df : Den true n Γ (some (x, sc)) kx f) (Dg : Den true n Γ (some (x, sc)) vx g) (hsc : CompSc Γ sc x) (hi : Γ.lns[i]? = some y) (hl : Γ.scope.names.lookup y = some .local)
  (hsw : ∀ c : Cx, swapsWith (.DictComp kx vx [⟨.Name x px, iter, ifs, 0⟩] sc pos) (some (.Name y py)) p.line (c.env Γ) = pure true) (hs : ∀ env x, foldedSetIterable iter env x = pure x := by intro _ _; rfl) :
  DenS true n Γ (.Assign [.Name y py] (.DictComp kx vx [⟨.Name x px, iter, ifs, 0⟩] sc pos) p) (.setCompD i w t f g) := fun κ => fun hw hf => .mk fun c ok Z Y as s S => by
 show wpAny _ _ (exec _ _) _ _ _
 rw [exec_Assign_Name_used _ _ _ _ (hsw _)]
 refine wpAny_bind (wpAny_standAt (wpAny_bind ?_))
 show wpAny _ c.A (do let _ ← comprehension (.DictComp kx vx [⟨.Name x px, iter, ifs, 0⟩] sc pos) sc (c.env Γ) _ newDict false (eval iter (c.env Γ)) (some (assign (.Name y py) (c.env Γ)))) _ _ s
 exact wpAny_bind (wpAny_mono (comp_set (py := py) rfl hs dictK (dict_step ok Df Dg) (fun κ => ⟨[], .empty, .nil⟩) ok Dw Dt hsc hw hf S hi hl RD.fz) (fun κ s' hq => wpAny_pure (wpAny_pure hq)) fun κ κ e => e)
end
section
variable {q : Bool} {n k : Nat} {Γ : Gam} {md : Md} {pos p : Pos} {c : Cx} {Z : Fz} {Y : Led} {as : List Addr} {st st' s1 s2 s3 : AS} {s : Shared} {X U W : V} {Xs : List V} {e l r₁ r₂ value : Expr} {es : List Expr} {f g h : EF} {fs : List EF} {is : List Tg} {ls : List (Str × Pos)} {kk k2 : Nat} {tpos vpos : Pos} {o₁ o₂ : CmpOp}
inductive SetU (is : List Tg) : V -> AS -> Fl -> AS -> Prop
 | mk {Xs : List V} {st st' : AS} : Xs.length = is.length -> st.upd (is.zip Xs) = some st' -> SetU is (.tup Xs) st .next st'
noncomputable abbrev SF.setU (is : List Tg) (f : EF) : SF := .of f (SetU is)
noncomputable def SF.setT (is : List Tg) (fs : List EF) : SF := fun q n Γ b => ∀ st, ∀ {s1 s2 Xs}, EvL fs st Xs s1 -> Xs.length = is.length ∧ Xs.length ≤ 3 -> s1.upd (is.reverse.zip Xs.reverse) = some s2 -> EvB q n Γ b st .next s2
theorem EvS.setU (h : EvE f st (.ok (.tup Xs)) s1) (hn : Xs.length = is.length) (hu : s1.upd (is.zip Xs) = some s2) : EvS (.setU is f) st .next s2 := .of h (.mk hn hu)
theorem EvS.setT (h : EvL fs st Xs s1) (hn : Xs.length = is.length ∧ Xs.length ≤ 3) (hu : s1.upd (is.reverse.zip Xs.reverse) = some s2) : EvS (.setT is fs) st .next s2 := ⟨@fun κ κ κ κ D => D _ h hn hu⟩
theorem DenS.setU (D : Den true n Γ none value f) (hl : At3 Γ is ls) (hll : is.length = ls.length)
  (hs : ∀ c : Cx, swapsWithSole [.Tuple (namesOf ls) kk tpos] value pos.line (c.env Γ) = pure false) (hw : ∀ c : Cx, swappedStores [.Tuple (namesOf ls) kk tpos] value (c.env Γ) = pure none) :
  DenS true n Γ (.Assign [.Tuple (namesOf ls) kk tpos] value pos) (.setU is f) :=
 ⟨fun h k => .mk fun c ok Z Y as s S => Assign_Tuple (h.go D ok S fun v Z₁ as₁ s₁ e₁ hv S₁ => by
  obtain ⟨hlen, hup⟩ := k
  apply VV.tup_inv hv; intro a vs nn ht hvs
  exact assign_tup ok hl hll ⟨_, St.fx (O := []) S₁ ok (.inl ht), rfl, _, rfl⟩ (VVs.ofR hvs) hlen.symm S₁ hup fun s' S' => ⟨Z₁, as₁, e₁, S', .next⟩) (hs c) (hw c), fun h => .mk fun c ok Z Y as s S => Assign_Tuple (h.goX D ok S) (hs c) (hw c)⟩
theorem At3.app {is is' : List Tg} {l l' : List (Str × Pos)} (h : At3 Γ is l) (h' : At3 Γ is' l') : At3 Γ (is ++ is') (l ++ l') := by
 induction h with
 | nil => exact h'
 | cons a _ ih => exact .cons a ih
theorem At3.rev {is : List Tg} {l : List (Str × Pos)} (h : At3 Γ is l) : At3 Γ is.reverse l.reverse := by
 induction h with
 | nil => exact .nil
 | cons a _ ih => rw [List.reverse_cons, List.reverse_cons]; exact ih.app (.cons a .nil)
theorem VVs.app {vs vs' : List Value} {Xs Xs' : List V} (h : VVs Z as vs Xs) (h' : VVs Z as vs' Xs') : VVs Z as (vs ++ vs') (Xs ++ Xs') := by
 induction h with
 | nil => exact h'
 | cons a _ ih => exact .cons a ih
theorem VVs.rev {vs : List Value} {Xs : List V} (h : VVs Z as vs Xs) : VVs Z as vs.reverse Xs.reverse := by
 induction h with
 | nil => exact .nil
 | cons a _ ih => rw [List.reverse_cons, List.reverse_cons]; exact ih.app (.cons a .nil)
theorem assign_all' {st₁ : AS} (ok : Cx.Ok c Γ q n) (hl : At3 Γ is ls) : ∀ {vs : List Value} {Xs : List V} {st : AS} {s : Shared}, VVs Z as vs Xs -> is.length = Xs.length -> St c Γ none (c.env Γ) Z Y as st s -> st.upd (is.zip Xs) = some st₁ -> ∀ {Q : Unit -> Shared -> Prop} {E : Value -> Shared -> Prop},
  (∀ s', St c Γ none (c.env Γ) Z Y as st₁ s' -> Q () s') -> wpAny (model prg Ω.w) c.A (assignInOrder (ls.map fun x => bindName (c.env Γ) x.1) vs) Q E s := by
 induction hl with
 | nil =>
  intro vs Xs st s hvs hlen S hup Q E hQ
  cases hvs with
  | nil => cases hup; exact assignInOrder_nil (hQ s S)
  | cons _ _ => cases hlen
 | cons hi _ ih =>
  intro vs Xs st s hvs hlen S hup Q E hQ
  cases hvs with
  | nil => cases hlen
  | cons hv hvs =>
   exact obind hup fun st₂ hp hup => assignInOrder_cons (wpAny_bindName (store_tg ok hi hv S hp fun s' S' => ih hvs (Nat.succ.inj hlen) S' hup hQ))
theorem DenS.setT {names : List Str} (D : Dens true n Γ none es fs) (hu : unstarred es = true) (hl : At3 Γ is ls) (hnm : ls.map (·.1) = names) (hll : is.length = ls.length)
  (hs : ∀ c : Cx, swapsWithSole [.Tuple (namesOf ls) kk tpos] (.Tuple es k2 vpos) pos.line (c.env Γ) = pure false) (hw : ∀ c : Cx, swappedStores [.Tuple (namesOf ls) kk tpos] (.Tuple es k2 vpos) (c.env Γ) = pure (some names)) :
  DenS true n Γ (.Assign [.Tuple (namesOf ls) kk tpos] (.Tuple es k2 vpos) pos) (.setT is fs) := fun κ => fun h hn hup => .mk fun c ok Z Y as s S => Assign_Tuple_swapped (names := names) (Tuple_ (h.go D hu ok S fun vs Z₁ as₁ s₁ e₁ hvs S₁ => by
 have hvl := hvs.length
 have hnl : vs.toArray.size = names.length := by rw [← hnm, List.length_map, List.size_toArray, hvl, hn.1, hll]
 refine wpAny_newTuple ?_ (sl (by rw [show vs.length = _ from hvl]; exact Nat.le_trans hn.2 (by decide)))
 rw [← hnl]
 refine unpackItems_tuple (items := vs.toArray) (ok.hh rfl) ⟨_, Heap.get?_push_size _ rfl, rfl, _, rfl⟩ fun h' he => ?_
 have S₃ := S₁.keeps (h' := h') (fun b o e => he b o (Nat.ne_of_lt (Heap.lt_size (Heap.get?_push_of_some _ e))) (Heap.get?_push_of_some _ e)) s₁.toks
 rw [show names.reverse.map (fun n => bindName (c.env Γ) n) = ls.reverse.map fun x => bindName (c.env Γ) x.1 by rw [← hnm, ← List.map_reverse, List.map_map]; rfl]
 exact assign_all' ok hl.rev hvs.rev (by rw [List.length_reverse, List.length_reverse, hn.1]) S₃ hup fun s' S' => ⟨Z₁, as₁, e₁, S', .next⟩)) (hs c) (hw c)
inductive ChR (o₂ : CmpOp) (h : EF) (U : V) : Bool -> AS -> Bool -> AS -> Prop
 | F {s : AS} : ChR o₂ h U false s false s
 | T {s s3 : AS} {W : V} {b : Bool} : EvE h s (.ok W) s3 -> cmpV o₂ s3.sto U W = some b -> ChR o₂ h U true s b s3
noncomputable def EF.chain (o₁ o₂ : CmpOp) (f g h : EF) : EF := fun q n Γ md t e => ∀ st, ∀ {s1 s2 s3 X U b b'}, EvE f st (.ok X) s1 -> EvE g s1 (.ok U) s2 -> cmpV o₁ s2.sto X U = some b -> ChR o₂ h U b s2 b' s3 -> Ev q n Γ md t e st (.ok (.bool b')) s3
theorem EvE.chainT {b : Bool} (h1 : EvE f st (.ok X) s1) (h2 : EvE g s1 (.ok U) s2) (h3 : cmpV o₁ s2.sto X U = some true) (h4 : EvE h s2 (.ok W) s3) (h5 : cmpV o₂ s3.sto U W = some b) : EvE (.chain o₁ o₂ f g h) st (.ok (.bool b)) s3 := ⟨@fun κ κ κ κ κ κ D => D _ h1 h2 h3 (.T h4 h5)⟩
theorem EvE.chainF (h1 : EvE f st (.ok X) s1) (h2 : EvE g s1 (.ok U) s2) (h3 : cmpV o₁ s2.sto X U = some false) : EvE (.chain o₁ o₂ f g h) st (.ok (.bool false)) s2 := ⟨@fun κ κ κ κ κ κ D => D _ h1 h2 h3 .F⟩
theorem cmp_go {op : CmpOp} {b : Bool} {c : Cx} {env : Env} {v u : Value} {Q E : Value -> Shared -> Prop} (ok : Cx.Ok c Γ q n) (h : cmpV op st.sto X U = some b) (hv : VV Z as v X) (hu : VV Z as u U) (S : St c Γ md env Z Y as st s) (k : ∀ Z₁ as₁ s₁, Ext Z as Z₁ as₁ -> St c Γ md env Z₁ Y as₁ st s₁ -> Q (.bool b) s₁) : wpAny (model prg Ω.w) c.A (compareOp op v u) Q E s :=
 cmp_ok op ok (congrArg (Option.map V.bool) h) hv hu S fun w Z₁ as₁ s₁ e₁ hw S₁ => by
  revert S₁; apply VV.bool_inv hw; exact k Z₁ as₁ s₁ e₁
theorem Den.chain (D : Den q n Γ md l f) (D₁ : Den q n Γ md r₁ g) (D₂ : Den q n Γ md r₂ h) (hm : lastMarks [o₁, o₂] [r₁, r₂] = false := by with_unfolding_all rfl) :
  Den q n Γ md (.Compare l [o₁, o₂] [r₁, r₂] pos) (.chain o₁ o₂ f g h) := fun κ => fun h1 h2 h3 h4 => .mk fun c env ok Z Y as s S => Compare_chain (ops := []) (rs := []) (h1.go D ok S fun v Z₁ as₁ s₁ e₁ hv S₁ => chain_link (h2.go D₁ ok S₁ fun u Z₂ as₂ s₂ e₂ hu S₂ => cmp_go ok h3 (hv.mono e₂) hu S₂ fun Z₃ as₃ s₃ e₃ S₃ => wpAny_truthy_bool (by
  have e₁₃ := (e₁.trans e₂).trans e₃
  cases h4 with
  | F => exact ⟨_, Z₃, as₃, rfl, e₁₃, .pure (.bool _), S₃⟩
  | T h4 h5 => exact chain_last (h4.go D₂ ok S₃ fun w Z₄ as₄ s₄ e₄ hw S₄ => cmp_go ok h5 ((hu.mono e₃).mono e₄) hw S₄ fun Z₅ as₅ s₅ e₅ S₅ => ⟨_, Z₅, as₅, rfl, (e₁₃.trans e₄).trans e₅, .pure (.bool _), S₅⟩)))) hm
theorem DenT.chain (D : Den q n Γ md l f) (D₁ : Den q n Γ md r₁ g) (D₂ : Den q n Γ md r₂ h) (hm : lastMarks [o₁, o₂] [r₁, r₂] = false := by with_unfolding_all rfl) :
  DenT q n Γ md (.Compare l [o₁, o₂] [r₁, r₂] pos) (.chain o₁ o₂ f g h) := fun κ => fun h1 h2 h3 h4 => .mk fun c env ok Z Y as s S => isTrue_chain (ops := []) (rs := []) (h1.go D ok S fun v Z₁ as₁ s₁ e₁ hv S₁ => test_link (h2.go D₁ ok S₁ fun u Z₂ as₂ s₂ e₂ hu S₂ => cmp_go ok h3 (hv.mono e₂) hu S₂ fun Z₃ as₃ s₃ e₃ S₃ => wpAny_truthy_bool (by
  have e₁₃ := (e₁.trans e₂).trans e₃
  cases h4 with
  | F => exact ⟨Z₃, as₃, rfl, e₁₃, S₃⟩
  | T h4 h5 => exact test_last (h4.go D₂ ok S₃ fun w Z₄ as₄ s₄ e₄ hw S₄ => cmp_go ok h5 ((hu.mono e₃).mono e₄) hw S₄ fun Z₅ as₅ s₅ e₅ S₅ => wpAny_truthy_bool ⟨Z₅, as₅, rfl, (e₁₃.trans e₄).trans e₅, S₅⟩)))) hm
noncomputable def negV (X : V) : Option V := (X.int?).map fun i => .int (-i)
noncomputable abbrev EF.neg (f : EF) : EF := .on1 negV f
theorem EvE.neg {a : Int} (h1 : EvE f st (.ok (.int a)) s1) : EvE f.neg st (.ok (.int (-a))) s1 := .on1 h1
theorem Den.neg (D : Den q n Γ md e f) : Den q n Γ md (.UnaryOp .USub e pos) f.neg := fun κ {κ X κ} h hF => .mk fun c env ok Z Y as s S => wpAny_UnaryOp (h.go D ok S fun v Z₁ as₁ s₁ e₁ hv S₁ => by
 apply omap hF; intro i hi
 revert hv; apply V.intE hi; intro hv
 apply VV.int_inv hv; intro t
 exact PyProof.Rows.neg_int ⟨_, Z₁, as₁, rfl, e₁, .pure (.int _ _), S₁.toks _⟩)
end
section
variable {q : Bool} {n k kk : Nat} {Γ : Gam} {md : Md} {pos p : Pos} {c : Cx} {Z : Fz} {Y : Led} {as : List Addr} {σ σ' : List MO} {st s1 : AS} {s : Shared} {v : Value} {X : V} {Xs : List V} {es : List Expr} {f : EF} {fs : List EF} {F : CF} {r : Out} {M : Addr -> Option (Tag × Obj)} {o o' : Obj} {l : LamI} {cd P : Addr} {x : Str}
theorem Rel.tabChg {P : Addr} (R : Rel M Z Y as σ) (hm : M P = some (.tab, o)) (hT : ∀ t ∈ tabsL, t.2 = P -> TabE Z t.1 o') : Rel (put M P (some (.tab, o'))) Z Y as σ := by
 have ne : ∀ {b x}, M b = some x -> x.1 ≠ .tab -> b ≠ P := fun h1 h2 q => by rw [q, hm] at h1; cases h1; exact h2 rfl
 refine ⟨fun b p e => ?_, fun p hp => ?_, fun j mo e n => ?_, R.len, fun t ht => ?_, R.hd⟩
 ·rw [put_ne (ne (R.z b p e) Tag.noConfusion)]; exact R.z b p e
 ·rw [put_ne (ne (R.y p hp) Tag.noConfusion)]; exact R.y p hp
 ·obtain ⟨b, p, h1, h2, h3⟩ := R.live j mo e n
  exact ⟨b, p, h1, by rw [put_ne (ne h2 Tag.noConfusion)]; exact h2, h3⟩
 ·by_cases q : t.2 = P
  ·exact ⟨o', by rw [q, put_self], hT t ht q⟩
  ·obtain ⟨p, h1, h2⟩ := R.tab t ht
   exact ⟨p, by rw [put_ne q]; exact h1, h2⟩
noncomputable abbrev lamObj (l : LamI) (pm : Value) (c' : Addr) (ctv : Value) : Obj := kla_obj "<lambda>" l.qual l.params l.body l.scope [] pm c' ctv
theorem Den.lam (hcd : Γ.cd = some cd) (hT : (cd, P) ∈ tabsL) (hP1 : ∀ t ∈ tabsL, t.2 = P -> t.1 = cd) (hl : lamAt kk = some l) (hq : ∀ c : Cx, (c.env Γ).qual ++ "<lambda>" = l.qual) (hin : (cd, pos, l.qual) ∈ lposL) (hone : ∀ y ∈ lposL, y.1 = cd -> y.2.1 = pos ∧ y.2.2 = l.qual)
  (hclos : ∀ c : Cx, closureFor l.scope (c.env Γ) = pure []) (hdef : ∀ env, defaultsOf l.params env = ([], [])) : Den q n Γ none (.Lambda l.params l.body l.scope pos) (.val (.lam kk)) := fun st => .mk fun c env ok Z Y as s S => by
 apply St.open0 S; intro g m M hp tk Si R LO CO S'
 refine kla_eval (hdef _) ?_
 rw [hq]
 obtain ⟨o, hM, hE⟩ := R.tab _ hT
 have C := (R.hd _ hT).keeps (Si.stG ok.gs)
 rcases hE with rfl | ⟨pos', q', c', oc, vs, t, h1, rfl, h3, h4, h5⟩
 ·obtain ⟨news, N, ne, cv⟩ := Si.split hM
  refine kla_nest Si.F N (Si.top ok.gs) C (ok.cd _ hcd) (.head ne) trivial rfl (hclos c) fun f c' oc vs t ctv h' tk' F' N' hd hv hlt hcf => ?_
  have nP : ∀ b, c' ≤ b -> b ≠ P := fun b hb e => absurd (hlt _ (.head _)) (Nat.not_lt.mpr (e ▸ hb))
  have nM : ∀ b, c' ≤ b -> M b = none := fun b hb => by
   cases q : M b with
   | none => rfl
   | some x => exact absurd (hlt _ (.tail _ (cv b x.1 x.2 (nP b hb) q))) (Nat.not_lt.mpr hb)
  have R₁ := (R.addZ (o := oc) (nM c' (Nat.le_refl _))).addZ (a := f) (o := lamObj l ((Ω.mg "__name__").getD .none) c' ctv) (by rw [put_ne (Nat.ne_of_gt hcf)]; exact nM f (Nat.le_of_lt hcf))
  have R₂ := R₁.tabChg (P := P) (o := tabObj #[]) (o' := tabObj (#[] ++ #[rawInt pos.line, rawInt pos.col, .ref c'])) (by rw [put_ne (nP f (Nat.le_of_lt hcf)).symm, put_ne (nP c' (Nat.le_refl _)).symm]; exact hM) fun t ht e => .inr ⟨pos, l.qual, c', oc, vs, _, by rw [hP1 t ht e]; exact hin, rfl, .inl (.inr ⟨rfl, rfl⟩), hd, hv⟩
  have ext := (Ext.add (Z := Z) (as := as) (a := c') (o := oc)).trans (Ext.add (a := f) (o := lamObj l ((Ω.mg "__name__").getD .none) c' ctv))
  refine ⟨.lam kk, _, as, rfl, ext, .pure (.lam hl (.inr ⟨rfl, rfl⟩) (.inl (.inr ⟨rfl, rfl⟩)) hd hv), g, m, _, h', tk', rfl, ⟨Si.B, Si.T, F', _, N', fun b t' o' e => ?_⟩, R₂, LO.mono ext, CO.mono ext, .fn⟩
  by_cases e1 : b = P
  ·subst e1; rw [put_self] at e; cases e; exact .tail _ (.tail _ (.head _))
  rw [put_ne e1] at e
  by_cases e2 : b = f
  ·subst e2; rw [put_self] at e; cases e; exact .head _
  rw [put_ne e2] at e
  by_cases e3 : b = c'
  ·subst e3; rw [put_self] at e; cases e; exact .tail _ (.head _)
  rw [put_ne e3] at e
  exact .tail _ (.tail _ (.tail _ (cv b t' o' e1 e)))
 ·obtain ⟨rfl, rfl⟩ := hone _ h1 rfl
  obtain ⟨news, N, cv⟩ := Si.NL
  refine kla_hit (c' := c') Si.F N (Si.top ok.gs) C (ok.cd _ hcd) (cv _ _ _ hM) (by trivial) (by simp [codeAmong, rawInt]) (hclos c) fun f ctv h' tk' F' N' hlt => ?_
  have ext := Ext.add (Z := Z) (as := as) (a := f) (o := lamObj l ((Ω.mg "__name__").getD .none) c' ctv)
  exact ⟨.lam kk, _, as, rfl, ext, .pure (.lam hl (.inr ⟨rfl, rfl⟩) (.inl h3) h4 h5), g, m, _, h', tk', rfl, Si.of_news cv F' N', R.addZ (Sit.none_of cv hlt), LO.mono ext, CO.mono ext, .fn⟩
theorem lamL_c : (lamL.map (·.c)).Nodup := by decide +kernel
theorem map_inj {α β : Type} {f : α -> β} : ∀ {l : List α}, (l.map f).Nodup -> ∀ {a b}, a ∈ l -> b ∈ l -> f a = f b -> a = b
 | x :: r, h, a, b, ha, hb, e => by
  rw [List.map_cons, List.nodup_cons] at h
  rcases List.mem_cons.mp ha with rfl | ha'
  ·rcases List.mem_cons.mp hb with rfl | hb'
   ·rfl
   ·exact absurd (e ▸ List.mem_map_of_mem hb') h.1
  ·rcases List.mem_cons.mp hb with rfl | hb'
   ·exact absurd (e ▸ List.mem_map_of_mem ha') h.1
   ·exact map_inj h.2 ha' hb' e
theorem Den.lamK (hl : lamAt kk = some l) (hcd : Γ.cd = some l.c) (hT : (l.c, P) ∈ tabsL) (hP1 : ∀ t ∈ tabsL, t.2 = P -> t.1 = l.c) (hq : ∀ c : Cx, (c.env Γ).qual ++ "<lambda>" = l.qual) (hclos : ∀ c : Cx, closureFor l.scope (c.env Γ) = pure []) (hdef : ∀ env, defaultsOf l.params env = ([], [])) : Den q n Γ none (.Lambda l.params l.body l.scope l.pos) (.val (.lam kk)) :=
 Den.lam hcd hT hP1 hl hq (List.mem_map_of_mem (List.mem_of_getElem? hl)) (fun y hy e => by
  obtain ⟨m, hm, rfl⟩ := List.mem_map.mp hy
  rw [map_inj lamL_c hm (List.mem_of_getElem? hl) e]; exact ⟨rfl, rfl⟩) hclos hdef
noncomputable def runL (np : Nat) (f : EF) : CF := fun k X => ∀ Xs, ∀ {σ r st₁}, EvE f ⟨Xs, [], .undef, σ⟩ r st₁ -> Xs.length = np -> r.lo σ.length = true ∧ (st₁.sto.take σ.length).all (·.lo σ.length) = true -> FunR k X Xs σ r (st₁.sto.take σ.length)
theorem EvF.runL {np : Nat} (h : EvE f ⟨Xs, [], .undef, σ⟩ r s1) (hl : Xs.length = np) (h3 : r.lo σ.length = true ∧ (s1.sto.take σ.length).all (·.lo σ.length) = true) : EvF (runL np f) Xs σ r (s1.sto.take σ.length) := ⟨@fun κ κ D => D _ h hl h3⟩
theorem VR.lam_inv {C : Value -> Prop} (x : VR Z v (.lam kk)) (hl : lamAt kk = some l)
  (k : ∀ f c' oc vs t ctv pm, Z f (lamObj l pm c' ctv) -> Z c' oc -> oc.data = .fields vs -> vs[1]? = some (.str l.qual t) -> C (.ref f)) : C v := by
 cases x with
 | lam hl' z1 z2 d1 d2 => rw [hl] at hl'; cases hl'; exact k _ _ _ _ _ _ _ z1 z2 d1 d2
theorem FunV.lam {np : Nat} {names : List Str} (hl : lamAt kk = some l) (D : Den true k ⟨l.scope, l.qual, names, [], none⟩ none l.body f)
  (hb : bindsAt np fun vs => ∀ pm cdv ct : Value, bindArgs (kla_fn "<lambda>" l.qual l.params l.body l.scope [] pm cdv ct) ⟨vs, []⟩ = pure (names.zip vs))
  (hnl : names.length = np) (hnd : names.Nodup) (hloc : ∀ y ∈ names, l.scope.names.lookup y = some .local) (hcell : ∀ x ∈ l.scope.names, x.2 ≠ .cell) (hk : l.scope.kind = .function) (hco : l.scope.isCoroutine = false) (hgen : l.scope.isGenerator = false) :
  runL np f k (.lam kk) := fun Xs {σ r st₁} h hlen h3 => .mk fun c Γ md env ok A hA lo cl cv vs fv Z Y as s hfv hvs S => by
 apply St.openE S; intro g m M hp tk Si R LO CO EO S'
 apply VR.lam_inv hfv hl; intro fa c' oc cvs t ctv pm z1 z2 d1 d2
 have hfr : A.frames = some (c.env Γ :: c.outer) := hA.fr.trans ok.hA
 have T := Si.top ok.gs
 have hvl : vs.length = np := hvs.length.trans hlen
 have hzl : (names.zip vs).map (·.1) = names := List.map_fst_zip (by rw [hvl, hnl]; exact Nat.le_refl _)
 obtain ⟨g₁, F₁, hst, hsz, _, mk⟩ := enter_sit (Γ₁ := ⟨l.scope, l.qual, names, [], none⟩) Si hfr ok.hk
 obtain ⟨dA, dB, dC⟩ := ArOk.deep ok hA
 refine kla_callFunE (fd := kla_fn "<lambda>" l.qual l.params l.body l.scope [] pm (.ref c') ctv) (body := l.body) dA (Si.N _ _ _ (R.z _ _ z1)).1 rfl hco hgen rfl ⟨c', oc, cvs, t, rfl, (Si.N _ _ _ (R.z _ _ z2)).1, d1, d2⟩ ?_
 rw [bindsAt_ok hb vs hvl]
 refine wpAny_pure (wpAny_newFunctionEnv hcell (fun y hy => hloc y.1 (by rw [← hzl]; exact List.mem_map_of_mem hy)) (fun h₁ hns hsb => ⟨((T.nolimit).keeps Si.F.keep).fresh _ hsb, ?_⟩) hk)
 have hk₁ : ∀ b o, hp.get? b = some o -> h₁.get? b = some o := fun b o e => hsb.extBut b o (Nat.ne_of_lt (Heap.lt_size e)) (Heap.get?_push_of_some _ e)
 have ok₁ : Cx.Ok (c.sub Γ A ⟨l.scope, l.qual, names, [], none⟩ g₁ hp.objs.size fa (.ref c') []) ⟨l.scope, l.qual, names, [], none⟩ true k := ⟨Around.frames_deeper hfr, hk, fun κ => hA.hh, ok.gs, dB, dC,
  (fun y hy => nomatch hy), hnd, fun a e => nomatch e⟩
 refine kla_codeExpr (wpAny_mono (EvV.run (h.den D) _ _ ok₁ Z Y as { Ω.s₀ with heap := h₁, toks := tk + (names.zip vs).length } ⟨g₁, _, M, h₁, _, rfl, mk _ h₁ fa (.ref c') [] hns hk₁, R, (fun i x X hi hX hne => by
   obtain ⟨v, e1, e2⟩ := VVs.at hvs hX
   exact ⟨v, lookup_rev (by rw [hzl]; exact hnd) (lookup_zip hnd hi e1), e2⟩), (fun j x hj => nomatch hj), .fn⟩) (fun v s' hs => ?_) fun e s' he => ?_)
 ·obtain ⟨X', Z', as', rfl, e1, hv, S'⟩ := hs
  exact callee_ret (keep := false) (st := ⟨lo, cl, cv, σ⟩) ok Si R F₁ hst LO CO EO (fun κ => h3.2) e1 S' hv fun κ => h3.1
 ·cases r with
  | ok X => exact he.no
  | exn C t => exact callee_exn (keep := false) (st := ⟨lo, cl, cv, σ⟩) ok Si R F₁ hst LO CO ok₁ (fun κ => h3.2) .refl he
noncomputable def EF.callV (T : V -> CF -> Prop) (f : EF) (fs : List EF) : EF := fun q n Γ md t e => ∀ st, ∀ {s1 X F Xs l cl cv σ σ' r}, EvE f st (.ok X) s1 -> T X F -> EvL fs s1 Xs ⟨l, cl, cv, σ⟩ -> EvF F Xs σ r σ' -> Ev q n Γ md t e st r ⟨l, cl, cv, σ'⟩
theorem EvE.callV {T : V -> CF -> Prop} {lo : List V} {cl : List Nat} {cv : V} (h : EvE f st (.ok X) s1) (hT : T X F) (h1 : EvL fs s1 Xs ⟨lo, cl, cv, σ⟩) (hF : EvF F Xs σ r σ') : EvE (.callV T f fs) st r ⟨lo, cl, cv, σ'⟩ := ⟨@fun κ κ κ κ κ κ D => D _ h hT h1 hF⟩
theorem Den.callV {T : V -> CF -> Prop} (Df : Den true n Γ md (.Name x p) f) (Ds : Dens true n Γ md es fs) (HT : ∀ X F, T X F -> ∃ k, k < n ∧ F k X ∧ ((∃ a, X = .val (.ref a) ∧ keepIn Ω.K (.ref a) = true) ∨ ∃ kk, X = .lam kk)) (hu : unstarred es = true) :
  Den true n Γ md (.Call (.Name x p) es [] pos) (.callV T f fs) := fun κ {κ X F κ κ κ κ κ κ κ} h0 hT h1 hF => .mk fun c env ok Z Y as s S => by
 refine Call_ (h0.go Df ok S fun v Z₁ as₁ s₁ e₁ hv S₁ => ?_)
 obtain ⟨k, hk, HF, ⟨a, rfl, hkeep⟩ | ⟨kk, rfl⟩⟩ := HT X F hT
 ·apply VV.val_inv hv
  exact callWith_es (P := Ω.K.In) hu (keeps_K hkeep) (h1.go Ds hu ok S₁ fun vs Z₂ as₂ s₂ e₂ hvs S₂ => ⟨S₂.inK ok, call_run hF HF ok hk (e₁.trans e₂) (.val _) hvs S₂⟩)
 ·cases hv with
  | pure hv =>
   have hv' := hv
   cases hv with
   | @lam fa c' oc cvs t ctv pm _ l hl z1 z2 d1 d2 =>
   exact callWith_es (P := fun h => h.get? fa = some (lamObj l pm c' ctv)) hu (fun h hp => ⟨.frame, .inl rfl, (Looks.ld (part := none) hp).andThen .now⟩) (h1.go Ds hu ok S₁ fun vs Z₂ as₂ s₂ e₂ hvs S₂ =>
    ⟨St.fx (O := []) S₂ ok (.inl (.inl (e₂.1 _ _ z1))), call_run hF HF ok hk (e₁.trans e₂) (hv'.mono e₂.1) hvs S₂⟩)
end
theorem lam_ok : ∀ l ∈ lamL, (∀ y ∈ [("code" : Str)], l.scope.names.lookup y = some .local) ∧ (∀ x ∈ l.scope.names, x.2 ≠ .cell) ∧ l.scope.kind = .function ∧ l.scope.isCoroutine = false ∧ l.scope.isGenerator = false := by decide +kernel
theorem FunV.code {k kk : Nat} {l : LamI} {f : EF} (hl : lamAt kk = some l) (D : Den true k ⟨l.scope, l.qual, ["code"], [], none⟩ none l.body f) (hb : ∀ a pm cdv ct : Value, bindArgs (kla_fn "<lambda>" l.qual l.params l.body l.scope [] pm cdv ct) ⟨[a], []⟩ = pure [(("code" : Str), a)]) : runL 1 f k (.lam kk) :=
 let ⟨h1, h2, h3, h4, h5⟩ := lam_ok l (List.mem_of_getElem? hl)
 FunV.lam hl D hb rfl (by decide) h1 h2 h3 h4 h5
section
variable {q : Bool} {n k : Nat} {Γ : Gam} {md : Md} {pos p : Pos} {e : Expr} {f : EF} {F : CF} {x : Str} {fI : Addr} {st : AS} {X cv : V} {l : List V} {cl : List Nat} {τ τ' : List MO}
noncomputable def EF.newScan (F : CF) (f : EF) : EF := fun q n Γ md t e => ∀ st, ∀ {X l cl cv τ τ'}, EvE f st (.ok X) ⟨l, cl, cv, τ⟩ -> EvF F [.inst τ.length, X] (τ ++ [.inst []]) (.ok .none) τ' -> Ev q n Γ md t e st (.ok (.inst τ.length)) ⟨l, cl, cv, τ'⟩
theorem EvE.newScan (h : EvE f st (.ok X) ⟨l, cl, cv, τ⟩) (hF : EvF F [.inst τ.length, X] (τ ++ [.inst []]) (.ok .none) τ') : EvE (.newScan F f) st (.ok (.inst τ.length)) ⟨l, cl, cv, τ'⟩ := ⟨@fun κ κ κ κ κ κ D => D _ h hF⟩
theorem ArOk.type {c : Cx} (ok : Cx.Ok c Γ true n) {C : Addr} {rest : List Value} : ArOk c (c.A.under (.builtin "type.__call__" ⟨.ref C :: rest, []⟩)) :=
 ⟨rfl, ok.hh rfl, by show c.A.depth + _ ≤ _; exact Nat.add_le_add_left (Nat.le_of_ble_eq_true rfl) _, by show c.A.units + _ ≤ _; exact Nat.add_le_add_left (Nat.le_of_ble_eq_true rfl) _⟩
theorem Den.newScan (Df : Den true n Γ md (.Name x p) (.val (.val (.ref csc)))) (D : Den true n Γ md e f) (HF : Fun k fI F) (hk : k < n) (hkeep : keepIn Ω.K (.ref csc) = true) (hu : unstarred [e] = true)
  (hm : makesIn Ω.K csc = true) (hi : findIn Ω.K (.ref csc) "__init__" = some (some (.ref fI))) (hfn : isFn Ω.K (.ref fI) = true) :
  Den true n Γ md (.Call (.Name x p) [e] [] pos) (.newScan F f) := fun κ {κ κ κ κ τ κ} h hF => .mk fun c env ok Z Y as s S => Call_ (EvE.val.go Df ok S fun v Z₁ as₁ s₁ e₁ hv S₁ => by
 apply VV.val_inv hv
 refine callWith_es (P := Ω.K.In) hu (keeps_K hkeep) ((EvL.cons h .nil).go (.cons D .nil) hu ok S₁ fun vs Z₂ as₂ s₂ e₂ hvs S₂ => ⟨S₂.inK ok, ?_⟩)
 apply hvs.one; intro v hv
 apply St.openE S₂; intro g m M hp tk Si R LO CO EO S'
 obtain ⟨news, N, cv⟩ := Si.NL
 refine call_cls Si.F (Si.inK ok.gs) N hm hi hfn fun x dx h' F' N' lt hdx => ?_
 have nM : ∀ b, dx ≤ b -> M b = none := fun b hb => by
  cases q : M b with
  | none => rfl
  | some y => exact absurd (lt _ (cv b y.1 y.2 q)) (Nat.not_lt.mpr hb)
 have R₁ := (R.addM (a := dx) (o := dictOf [] 0) (mo := .inst []) (nM dx (Nat.le_refl _)) (.eInst .nil rfl)).addZ (a := x) (o := instObj csc dx) (by rw [put_ne (Nat.ne_of_gt hdx)]; exact nM x (Nat.le_of_lt hdx))
 have ext := (Ext.addM (Z := Z₂) (as := as₂) (l := dx)).trans (Ext.add (a := x) (o := instObj csc dx))
 have hat : (as₂ ++ [dx])[τ.length]? = some dx := at_len R.len
 refine codeAny_mono ((hF.den HF).run c Γ md env (ok.less hk) _ (ArOk.type ok) _ _ _ [.ref x, v] _ _ Y _ _ (.val _) (.cons (.inst (.inl (.inr ⟨rfl, rfl⟩)) hat) (.cons (hv.mono ext) .nil)) ⟨g, m, _, h', tk, rfl, ⟨Si.B, Si.T, F', _, N', fun b t' o' e => ?_⟩, R₁, LO.mono ext, CO.mono ext, EO.mono ext⟩) fun res s' hr => ?_
 ·by_cases e2 : b = x
  ·subst e2; rw [put_self] at e; cases e; exact .head _
  rw [put_ne e2] at e
  by_cases e3 : b = dx
  ·subst e3; rw [put_self] at e; cases e; exact .tail _ (.head _)
  rw [put_ne e3] at e
  exact .tail _ (.tail _ (cv b t' o' e))
 ·cases hr with
  | ret x => exact x.inv fun Z₄ as₄ e₄ hv₄ S₄ => ⟨VV.none_inv (C := fun u => u = .none) hv₄ rfl, _, Z₄, as₄, rfl, ((e₁.trans e₂).trans ext).trans e₄, VV.mono e₄ (.inst (.inl (.inr ⟨rfl, rfl⟩)) hat), S₄⟩
  | err x => exact x.no)
end
section
variable {w : World} {A : Around} {R : Result -> Shared -> Prop} {h : Heap} {g : Array GenState} {d : Drawn} {t : Nat} {os : OsState}
variable {nm q : Str} {C N : Addr} {bs bm : List Value} {hdct : Bool} {sn : List Str} {sub : List Value} {ab : Bool} {col : Option Bool} {dd : Option Addr} {k0 k1 k2 k3 k5 : Option Value}
theorem exc_new (hB : bm.contains (.type "Exception") = true) (hA : bm.contains (.type "AttributeError") = false) (hN : bm.contains (.type "NameError") = false) {rest : List Value} (hC : h.get? C = some (excClassObj nm q C N bs bm hdct sn sub ab col dd k0 k1 k2 k3 k5 "Exception.__new__"))
  (hq : R (.ok (.ret (.ref (h.objs.size + 1)))) ⟨(h.push { cls := .type "tuple", data := .seq rest.toArray }).push { cls := .ref C, data := .fields #[.ref h.objs.size, .none, .none, .none, .bool false, .none] }, g, d, t, os⟩) (hrest : rest.length ≤ sizeLine) :
  codeAny (model prg w) A (.builtin "Exception.__new__" ⟨.ref C :: rest, []⟩) R ⟨h, g, d, t, os⟩ := by
 have Fn := PySem.F.excBase_Exception
 have hcB : (Value.ref C :: bm).contains (.type "Exception") = true := by rw [List.contains_cons, hB, Bool.or_true]
 have hcA : (Value.ref C :: bm).contains (.type "AttributeError") = false := by rw [List.contains_cons, hA]; rfl
 have hcN : (Value.ref C :: bm).contains (.type "NameError") = false := by rw [List.contains_cons, hN]; rfl
 have hends := Fn.ends
 refine PySem.codeAny_builtinAt Fn.entry ?_
 unfold Builtin.«BaseException.__new__»
 refine PySem.wpAt_bind ?_
 show PySem.wpAt _ _ _ (stack >>= _) _ _ _
 refine PySem.wpAt_bind (PySem.wpAt_stack fun p below => PySem.wpAt_of_wpAny ?_)
 wp_walk
 refine PySem.wpAt_of_wpAny ?_
 rw [Fn.owner]
 repeat (first | with_reducible refine wpAny_madeHere_exc Fn.canon hC ?_ | with_reducible refine wpAny_loadPart_at hC ?_ | (with_reducible refine wpAny_isSubtype_exc hC ?_; first | rw [hcB] | rw [hcA] | rw [hcN]) | wp_step)
 show R _ _
 rw [Heap.size_push]
 exact hq
theorem exc_type_call {K : Frag} {fI : Addr} (X : K.In h) (hC : h.get? C = some (excClassObj nm q C N bs bm hdct sn sub ab col dd k0 k1 k2 k3 k5 "Exception.__new__")) (hB : bm.contains (.type "Exception") = true) (hA : bm.contains (.type "AttributeError") = false) (hN : bm.contains (.type "NameError") = false)
  (hi : findIn K (.ref C) "__init__" = some (some (.ref fI))) (hf : typeIn K (.ref fI) = some (.type "function")) {rest : List Value} (hrest : rest.length ≤ sizeLine) {Q : PySem.Fin -> Shared -> Prop} {E : Value -> Shared -> Prop}
  (hq : wpAny (model prg w) A (call (.ref fI) (.ref (h.objs.size + 1) :: rest)) (fun v s' => v = .none ∧ Q (.done (.ret (.ref (h.objs.size + 1)))) s') E
   ⟨(h.push { cls := .type "tuple", data := .seq rest.toArray }).push { cls := .ref C, data := .fields #[.ref h.objs.size, .none, .none, .none, .bool false, .none] }, g, d, t, os⟩) :
  wpAny (model prg w) A (Builtin.«type.__call__» ⟨.ref C :: rest, []⟩) Q E ⟨h, g, d, t, os⟩ := by
 have Fn := PySem.F.excBase_Exception
 repeat (first | with_reducible refine wpAny_loadPart_at hC ?_ | with_reducible refine wpAny_madeBy_exc hC ?_ | wp_step)
 refine codeAny_call_builtin_code (Code.quiet_builtin _ Fn.quiet) (wpAny_check_new_subU Fn hB .base hC ?_)
 refine exc_new hB hA hN hC ?_ hrest
 show wpAny _ _ _ _ _ _
 have hk : ∀ b o, h.get? b = some o -> ((h.push { cls := .type "tuple", data := .seq rest.toArray }).push { cls := .ref C, data := .fields #[.ref h.objs.size, .none, .none, .none, .bool false, .none] }).get? b = some o := fun b o e => Heap.get?_push_of_some _ (Heap.get?_push_of_some _ e)
 have hC₁ := hk _ _ hC
 have X₁ := X.keeps hk
 have hget : ((h.push { cls := .type "tuple", data := .seq rest.toArray }).push { cls := .ref C, data := .fields #[.ref h.objs.size, .none, .none, .none, .bool false, .none] }).get? (h.objs.size + 1) = some
   { cls := .ref C, data := .fields #[.ref h.objs.size, .none, .none, .none, .bool false, .none] } := by heap_get
 have hcC : (Value.ref C :: bm).contains (.ref C) = true := by simp
 unfold isInstance
 repeat (first | with_reducible refine wpAny_loadPart_at hget ?_ | (with_reducible refine wpAny_isSubtype_exc hC₁ ?_; rw [hcC]) | wp_step)
 show wpAny _ _ (typeLookup (.ref C) _) _ _ _
 refine (looks_findIn X₁ hi).here ?_
 refine wpAny_holding (wpAny_bind ((bind_fn X₁ (.ref (h.objs.size + 1)) hf).here ?_))
 refine wpAny_bind (wpAny_mono hq (fun v s' z => ?_) fun κ κ z => z)
 obtain ⟨rfl, z⟩ := z
 exact wpAny_pure (wpAny_pure z)
theorem exc_call {K : Frag} {fI : Addr} (X : K.In h) (hC : h.get? C = some (excClassObj nm q C N bs bm hdct sn sub ab col dd k0 k1 k2 k3 k5 "Exception.__new__")) (hB : bm.contains (.type "Exception") = true) (hA : bm.contains (.type "AttributeError") = false) (hN : bm.contains (.type "NameError") = false)
  (hi : findIn K (.ref C) "__init__" = some (some (.ref fI))) (hf : typeIn K (.ref fI) = some (.type "function")) {rest : List Value} (hrest : rest.length ≤ sizeLine) {Q : Value -> Shared -> Prop} {E : Value -> Shared -> Prop}
  (hq : wpAny (model prg w) (A.under (.builtin "type.__call__" ⟨.ref C :: rest, []⟩)) (call (.ref fI) (.ref (h.objs.size + 1) :: rest)) (fun v s' => v = .none ∧ Q (.ref (h.objs.size + 1)) s') E
   ⟨(h.push { cls := .type "tuple", data := .seq rest.toArray }).push { cls := .ref C, data := .fields #[.ref h.objs.size, .none, .none, .none, .bool false, .none] }, g, d, t, os⟩) :
  wpAny (model prg w) A (call (.ref C) rest) Q E ⟨h, g, d, t, os⟩ := by
 have f1 := tc_lookup
 have f2 := tc_bind (.ref C)
 have hT : (⟨h, g, d, t, os⟩ : Shared).TypeIs (.ref C) "type" := ⟨_, hC, rfl⟩
 refine wpAny_call (codeAny_of_tree ?_)
 show wpAny _ _ (callAny (.ref C) _) _ _ _
 repeat (any_goals (first | assumption | with_reducible refine wpAny_loadPart_at hC ?_ | wp_step))
 refine ⟨rfl, ?_⟩
 refine codeAny_call_builtin_at (Code.quiet_builtin _ (by decide +kernel)) entry_typeCall (wpAny_check_type_call_sub hC ?_)
 exact exc_type_call X hC hB hA hN hi hf hrest hq
end
end Mine
open PySem.Builtin
open PySem.Builtin.ObjectAttr
namespace Mine
theorem refuse_exc (self : Value) {l : List Value} (h : ExcOver l) : refuseLoop self "__setattr__" l = pure () := by
 induction h with
 | base => exact PySem.F.store_Exception.passes self
 | ref _ ih => rw [refuseLoop_ref]; exact ih
theorem exc_has {l : List Value} (h : ExcOver l) : l.contains (.type "object") = true ∧ l.contains (.type "Exception") = true ∧ l.isEmpty = false := by
 induction h with
 | base => exact ⟨by simp, by simp, rfl⟩
 | ref _ ih => exact ⟨by rw [List.contains_cons, ih.1, Bool.or_true], by rw [List.contains_cons, ih.2.1, Bool.or_true], rfl⟩
section
variable {w : World} {A : Around} {K : Frag} {C x : Addr} {s : Shared} {R : Result -> Shared -> Prop}
theorem exc_osa {cd : ClassData} {fs : Array Value} {osl : Array (Option Value)} {name : Str} {tk : Tok} {v : Value} (X : K.In s.heap) (hx : s.heap.get? x = some ⟨.ref C, none, .fields fs, osl⟩) (hc : clsIn K C = some cd) (ho : ExcOver cd.mro) (hd : cd.hasDict = true) (ht : takerIn K C name = some none)
  (h : ∀ h', (∀ b o, b ≠ x -> s.heap.get? b = some o -> h'.get? b = some o) -> h'.get? x = some ⟨.ref C, some s.heap.objs.size, .fields fs, osl⟩ -> h'.get? s.heap.objs.size = some (dictOf [⟨PyData.keyHash w.params name, .str name s.toks, v⟩] 1) ->
   R (.ok (.ret .none)) { s with heap := h', toks := s.toks + 1 }) :
  codeAny (model prg w) A (.call (.builtin "object.__setattr__") ⟨[.ref x, .str name tk, v], []⟩) R s := by
 have SF := PySem.F.store_object
 have I : InstAt s.heap x ⟨.ref C, none, .fields fs, osl⟩ C none := ⟨hx, rfl, rfl, trivial⟩
 obtain ⟨h1, _, ne⟩ := exc_has ho
 have sub : Looks (model prg w) s.heap (isInstance (.ref x) (.type "object")) true := I.type.andThen (looks_mroIn X (by unfold mroIn; rw [hc, Option.bind_some, if_neg (by rw [ne]; decide), h1]))
 refine codeAny_call_builtin SF.slot.plain SF.entry (@check_slot (model prg w) _ _ s "object.__setattr__" "object" "__setattr__" (.ref x) [.str name tk, v] [] _ SF.kind SF.split sub (SF.args (.ref x) (.str name tk) v) ?_)
 obtain ⟨attr, ha, hr⟩ := Option.bind_eq_some_iff.mp ht
 have hm : Looks (model prg w) s.heap (mroOf (.ref C)) cd.mro := (looks_clsIn X hc).andThen .now
 have L3 : Looks (model prg w) s.heap (storeTaker? attr) none := by
  cases attr with
  | none => cases hr; exact .now
  | some a =>
   obtain ⟨b, hb, hb'⟩ := Option.map_eq_some_iff.mp hr
   refine (looks_takesIn X hb).andThen ?_
   cases b <;> first | exact .now | cases hb'
 rw [osa_eq, refuse_eq]
 refine wpAny_bind (wpAny_bind (I.type.here (wpAny_bind (hm.here ?_))))
 rw [refuse_exc _ ho]
 refine wpAny_pure (wpAny_bind (I.type.here (wpAny_bind ((looks_findIn X ha).here (wpAny_bind (L3.here ?_))))))
 have hxl := Heap.lt_size hx
 have hne : x ≠ s.heap.objs.size := Nat.ne_of_lt hxl
 refine wpAny_bind (wpAny_pure (wpAny_bind (wpAny_bind (wpAny_loadPart hx (wpAny_bind ((looks_clsIn X hc).here ?_))))))
 rw [hd]
 show wpAny _ _ (alloc _ >>= _) _ _ _
 refine wpAny_bind (wpAny_alloc ?_)
 have hx₁ := Heap.get?_push_of_some { cls := .type "dict", data := .dict #[] } hx
 refine wpAny_bind (wpAny_update hx₁ ?_)
 refine wpAny_pure (a := some s.heap.objs.size) ?_
 have hxu : ((s.heap.push { cls := .type "dict", data := .dict #[] }).update x fun o => { o with dict := some s.heap.objs.size }).get? x = some ⟨.ref C, some s.heap.objs.size, .fields fs, osl⟩ := Heap.get?_update_self _ hx₁ rfl
 have hdu : ((s.heap.push { cls := .type "dict", data := .dict #[] }).update x fun o => { o with dict := some s.heap.objs.size }).get? s.heap.objs.size = some { cls := .type "dict", data := .dict #[] } := (Heap.get?_update_other _ _ hne).trans (Heap.get?_push_size _ rfl)
 have old : ∀ b o, b ≠ x -> s.heap.get? b = some o -> ((s.heap.push { cls := .type "dict", data := .dict #[] }).update x fun o => { o with dict := some s.heap.objs.size }).get? b = some o := fun b o hb e => (Heap.get?_update_other _ _ (Ne.symm hb)).trans (Heap.get?_push_of_some _ e)
 generalize (s.heap.push { cls := .type "dict", data := .dict #[] }).update x (fun o => { o with dict := some s.heap.objs.size }) = H at hxu hdu old
 show wpAny _ _ (storeInDict s.heap.objs.size (.str name tk) name v) _ _ ⟨H, s.gens, s.drawn, s.toks, s.os⟩
 refine wpAny_bind (wpAny_pure (wpAny_bind ?_))
 unfold nsSet
 refine wpAny_bind (wpAny_bind (wpAny_askSetting (wpAny_pure (wpAny_bind (wpAny_mkText (wpAny_bind (wpAny_loadPart hdu ?_)))))))
 dsimp only
 rw [show aRefKeyMayBeTheName name #[] = false from rfl, if_neg (by decide)]
 refine wpAny_updatePart hdu ?_
 have hd3 := Heap.get?_update_self (Obj.putName name (PyData.keyHash w.params name) (.str name s.toks) v) hdu rfl
 have hD : Obj.putName name (PyData.keyHash w.params name) (.str name s.toks) v { cls := .type "dict", data := .dict #[] } = dictOf [⟨PyData.keyHash w.params name, .str name s.toks, v⟩] 1 := by
  exact putName_dict name _ _ v [] 0
 rw [hD] at hd3
 refine wpAny_bind (wpAny_lookBehind hd3 (by exact pastItsLine_dict (by rw [sizeLine_eq]; show 1 ≤ 16777216 + 1; omega)) ?_)
 refine wpAny_pure (h _ (fun b o hb e => (Heap.get?_update_other _ _ (fun q => ?_)).trans (old b o hb e)) ((Heap.get?_update_other _ _ hne.symm).trans hxu) hd3)
 subst q
 exact Nat.lt_irrefl _ (Heap.lt_size e)
end
noncomputable abbrev excObj (C : Addr) (dx : Option Addr) (t : Addr) : Obj := { cls := .ref C, dict := dx, data := .fields #[.ref t, .none, .none, .none, .bool false, .none] }
section
variable {M : Model} {A : Around} {E : Value -> Shared -> Prop}
variable {nm q : Str} {C N : Addr} {bs bm : List Value} {hdct : Bool} {sn : List Str} {sub : List Value} {ab : Bool} {col : Option Bool} {dd : Option Addr} {k0 k1 k2 k3 k5 : Option Value} {newId : String}
theorem exc_raise {s : Shared} {env : Env} {x : Sem Value} {Q : Flow -> Shared -> Prop} (hbase : bm.contains (.type "BaseException") = true) (hh : A.handled = none)
  (h : wpAny M A x (fun v s₁ => ∃ e t dx, v = .ref e ∧ s₁.heap.get? C = some (excClassObj nm q C N bs bm hdct sn sub ab col dd k0 k1 k2 k3 k5 newId) ∧ s₁.heap.get? e = some (excObj C (some dx) t) ∧ E (.ref e) s₁) E s) :
  wpAny M A (raiseStmt env (some x) none) Q E s := by
 have hcB : (Value.ref C :: bm).contains (.type "BaseException") = true := by rw [List.contains_cons, hbase, Bool.or_true]
 unfold raiseStmt
 refine wpAny_bind (wpAny_mono h (fun v s₁ h₁ => ?_) fun κ κ x => x)
 obtain ⟨e, t, dx, rfl, hC, he, hE⟩ := h₁
 obtain ⟨hp, g, d, tk, os⟩ := s₁
 repeat (first | with_reducible refine wpAny_loadPart_at he ?_ | with_reducible refine wpAny_loadPart_at hC ?_ | (with_reducible refine wpAny_isSubtype_exc hC ?_; rw [hcB]) | wp_step)
 exact wpAny_raiseNew_none hh hE
end
section
variable {q : Bool} {n k : Nat} {Γ Γ₁ : Gam} {md : Md} {pos p cpos : Pos} {c : Cx} {A : Around} {Z Z' : Fz} {Y Y' : Led} {as as' : List Addr} {st st' s1 : AS} {s : Shared} {X : V} {a d : Addr} {o o' od : Obj} {h' : Heap} {x : Str} {e : Expr} {f : EF} {C fI : Addr} {body : List Stmt}
theorem St.swapNew (tk : Tok) (S : St c Γ none (c.env Γ) Z ((a, o) :: Y) as st s) (hY : ∀ p ∈ Y, p.1 ≠ a) (hk : ∀ b p, b ≠ a -> s.heap.get? b = some p -> h'.get? b = some p) (ha : h'.get? a = some o') (hd : h'.get? d = some od) (hb : s.heap.objs.size ≤ d) :
  St c Γ none (c.env Γ) (fun b p => Z b p ∨ (b = d ∧ p = od)) ((a, o') :: Y) as st { s with heap := h', toks := tk } := by
 have fr := S.fresh hb
 have hda : d ≠ a := fr _ (.head _)
 refine St.frz (a := d) (o := od) (S.wr (Y' := Y) (wr := [a, d]) (O' := [(a, o'), (d, od)]) (List.forall_mem_cons.mpr ⟨.inl ⟨o, .head _⟩, List.forall_mem_cons.mpr ⟨.inr hb, fun κ h => nomatch h⟩⟩) (fun p hp => ⟨.tail _ hp, fun h => (List.mem_cons.mp h).elim (hY p hp) fun h => fr p (.tail _ hp) (List.mem_singleton.mp h).symm⟩)
  (fun b p hn => hk b p fun q => hn (q ▸ .head _)) h'.get? (fun κ κ e => e) (List.forall_mem_cons.mpr ⟨⟨.head _, ha⟩, List.forall_mem_cons.mpr ⟨⟨.tail _ (.head _), hd⟩, fun κ h => nomatch h⟩⟩) tk) (.tail _ (.head _)) ?_
 exact List.forall_mem_cons.mpr ⟨⟨.head _, hda.symm⟩, fun p hp => ⟨.tail _ (.tail _ hp), fun q => fr p (.tail _ hp) q.symm⟩⟩
theorem St.len (S : St c Γ md env Z Y as st s) : as.length = st.sto.length := by
 obtain ⟨g, m, M, h, tk, e, Si, R, LO, CO, EO⟩ := S; exact R.len
theorem Ext.same (e : Ext Z as Z' as') (h : as.length = as'.length) : as' = as := by
 obtain ⟨_, t, rfl⟩ := e
 rw [List.length_append] at h
 rw [List.eq_nil_of_length_eq_zero (show t.length = 0 by omega), List.append_nil]
theorem V.pureB.isDef (h : X.pureB = true) : X.isDef = true := by cases X <;> first | rfl | cases h
theorem init_run (IK : InitK Ω.K C fI) (IF : InitF Ω.K fI Γ₁ body) (ok : Cx.Ok c Γ true (n + 1)) (hA : ArOk c A) {e t : Addr} {v : Value} (S : St c Γ none (c.env Γ) Z ((e, excObj C none t) :: Y) as st s) (heY : ∀ p ∈ Y, p.1 ≠ e) (hv : VR Z v X) (hX : X.pureB = true)
  {E : Value -> Shared -> Prop} {Q : Value -> Shared -> Prop} (hQ : ∀ Z' dx hs tk nn v' s', Ext Z as Z' as -> Z' dx (dictOf [⟨hs, .str "told" tk, v'⟩] nn) -> VR Z' v' X -> St c Γ none (c.env Γ) Z' ((e, excObj C (some dx) t) :: Y) as st s' -> Q .none s') :
  wpAny (model prg Ω.w) A (call (.ref fI) [.ref e, v]) Q E s := by
 obtain ⟨name, params, dV, kV, doc, pm, cdv, ct, oc, an, od, osl, ho, hcd, hb⟩ := IF.fn
 obtain ⟨p1, p2, p3, p4, rfl⟩ := IF.body
 obtain ⟨nm, qq, N0, bs, bm, sn, sub, ab, col, dd, k0, k1, k2, k3, k5, hC, hB1, _, _, _, hov⟩ := IK.cls
 apply St.openE S; intro g m M hp tk Si R LO CO EO S'
 have hfr : A.frames = some (c.env Γ :: c.outer) := hA.fr.trans ok.hA
 have X₀ := Si.inK ok.gs |>.keeps Si.F.keep
 obtain ⟨g₁, F₁, hst, hsz, _, mk⟩ := enter_sit (Γ₁ := Γ₁) Si hfr ok.hk
 obtain ⟨dA, dB, dC⟩ := ArOk.deep (k := 0) (ok.less (Nat.succ_le_succ (Nat.zero_le n))) hA
 refine wpAny_call (codeAny_call_def (fd := fnX name Γ₁.qual params _ Γ₁.scope [] dV kV doc pm an cdv ct) (binds := [("self", .ref e), ("told", v)]) dA (X₀ _ _ ho) rfl ((Si.top ok.gs).nolimit.keeps Si.F.keep) (codeRec_of X₀ hcd) rfl
  (hb { Ω.s₀ with heap := hp, toks := tk } _ _ X₀) IF.cell (List.forall_mem_cons.mpr ⟨IF.self, List.forall_mem_cons.mpr ⟨IF.told, fun κ h => nomatch h⟩⟩) (fun h₁ hns hk₁ => ?_) IF.co IF.gen IF.kind)
 have ok₁ : Cx.Ok (c.sub Γ A Γ₁ g₁ hp.objs.size fI cdv []) Γ₁ true 0 := ⟨Around.frames_deeper hfr, IF.kind, fun κ => hA.hh, ok.gs, dB, dC,
  (fun y hy => by rw [IF.cns] at hy; cases hy), by rw [IF.lns]; decide, fun a ha => by rw [IF.cd] at ha; cases ha⟩
 have S₂ : St (c.sub Γ A Γ₁ g₁ hp.objs.size fI cdv []) Γ₁ none ((c.sub Γ A Γ₁ g₁ hp.objs.size fI cdv []).env Γ₁) Z ((e, excObj C none t) :: Y) as ⟨[.val (.ref e), X], [], .undef, st.sto⟩ { Ω.s₀ with heap := h₁, toks := tk + 2 } := by
  refine ⟨g₁, _, M, h₁, _, rfl, mk _ h₁ fI cdv [] hns hk₁, R, fun i x X' hi hX' hne => ?_, fun j x hj => (by rw [IF.cns] at hj; cases hj), .fn⟩
  rw [IF.lns] at hi
  match i, hi, hX' with
  | 0, hi, hX' => cases hi; cases hX'; exact ⟨.ref e, by rfl, .pure (.val _)⟩
  | 1, hi, hX' => cases hi; cases hX'; exact ⟨v, by rfl, .pure hv⟩
  | i + 2, hi, _ => cases hi
 refine wpAny_execs_cons ?_
 have Dt : Den true 0 Γ₁ none (.Name "told" p3) (.loc 1) := Den.loc (by rw [IF.lns]; rfl) IF.told
 have Ds : Den true 0 Γ₁ none (.Name "self" p1) (.loc 0) := Den.loc (by rw [IF.lns]; rfl) IF.self
 refine plainObj_wpAny_Assign_Attribute ((EvE.loc rfl (V.pureB.isDef hX)).go Dt ok₁ S₂ fun v' Z₃ as₃ s₃ e₃ hv' S₃ => (EvE.loc rfl).go Ds ok₁ S₃ fun u Z₄ as₄ s₄ e₄ hu S₄ => ?_) rfl
 apply VV.val_inv hu
 obtain rfl : as₄ = as := (e₃.trans e₄).same (R.len.trans S₄.len.symm)
 have X4 := S₄.inK ok₁
 have he4 := S₄.own (.head _)
 have hcd' : clsIn Ω.K C = some { name := nm, bases := bs, mro := .ref C :: bm, ns := N0, qualname := qq, hasDict := true, slotNames := sn, subclasses := sub, abstract := ab, collection := col, hasDel := false } := by
  unfold clsIn; rw [hC]
 refine set_plain X4 (C := C) (ox := excObj C none t) (od := none) ⟨he4, rfl, rfl, trivial⟩ IK.seta ?_
 refine exc_osa X4 he4 hcd' hov rfl IK.tak fun h' o1 o2 o3 => wpAny_execs_nil ?_
 exact hQ _ _ _ _ _ v' _ ((e₃.trans e₄).trans .add) (.inr ⟨rfl, rfl⟩) (((hv'.mono e₄).toR hX).mono fun κ κ => .inl) (back (st₁ := ⟨[.val (.ref e), X], [], .undef, st.sto⟩) (md := none) (env := c.env Γ) ok Si F₁ hst rfl rfl LO CO .fn ((e₃.trans e₄).trans .add) (Yx := [(e, excObj C (some s₄.heap.objs.size) t)]) (S₄.swapNew _ heY o1 o2 o3 (Nat.le_refl _)))
noncomputable def SF.raise (C : Addr) (f : EF) : SF := fun q n Γ b => ∀ st, ∀ {s1 X}, EvE f st (.ok X) s1 -> X.pureB = true -> EvB q n Γ b st (.exn C X) s1
theorem EvS.raise (h : EvE f st (.ok X) s1) (hp : X.pureB = true := by rfl) : EvS (.raise C f) st (.exn C X) s1 := ⟨@fun κ κ κ κ D => D _ h hp⟩
theorem DenS.raise {np : Pos} (IK : InitK Ω.K C fI) (IF : InitF Ω.K fI Γ₁ body) (Df : Den true (n + 1) Γ none (.Name x np) (.val (.val (.ref C)))) (D : Den true (n + 1) Γ none e f) (hu : unstarred [e] = true) :
  DenS true (n + 1) Γ (.Raise (some (.Call (.Name x np) [e] [] cpos)) none pos) (.raise C f) :=
 fun κ {κ X} h hp => .mk fun c ok Z Y as s S => by
  obtain ⟨nm, qq, N0, bs, bm, sn, sub, ab, col, dd, k0, k1, k2, k3, k5, hC, hB, hA, hN, hBE, hov⟩ := IK.cls
  show wpAny _ _ (exec _ _) _ _ _
  rw [arm_exec_Raise]
  refine wpAny_bind (wpAny_standAt (exc_raise (C := C) (nm := nm) (q := qq) (N := N0) (bs := bs) (bm := bm) (sn := sn) (sub := sub) (ab := ab) (col := col) (dd := dd) (k0 := k0) (k1 := k1) (k2 := k2) (k3 := k3) (k5 := k5) (newId := "Exception.__new__") (hdct := true) hBE (ok.hh rfl) (wpAny_bind (wpAny_mono (Call_ (EvE.val.go Df ok S fun v Z₁ as₁ s₁ e₁ hv S₁ => ?_)) (fun v s₁ hv => wpAny_bind (wpAny_standAt (wpAny_pure hv))) fun κ κ x => x))))
  apply VV.val_inv hv
  refine callWith_es (P := Ω.K.In) hu (keeps_K IK.keep) ((EvL.cons h .nil).go (.cons D .nil) hu ok S₁ fun vs Z₂ as₂ s₂ e₂ hvs S₂ => ⟨S₂.inK ok, ?_⟩)
  apply hvs.one; intro v hv
  apply St.openE S₂; intro g m M hp2 tk Si R LO CO EO S'
  have X₂ := S'.inK ok
  refine exc_call X₂ (X₂ _ _ hC) hB hA hN IK.init IK.fn (sl (by show 1 ≤ 1000000; omega)) ?_
  have S₃ := (S'.keeps (h' := hp2.push { cls := .type "tuple", data := .seq [v].toArray }) (fun b o e => Heap.get?_push_of_some _ e) tk).addO (excObj C none hp2.objs.size) tk
  have hsz : (hp2.push { cls := .type "tuple", data := .seq [v].toArray }).objs.size = hp2.objs.size + 1 := Heap.size_push ..
  have heY : ∀ p ∈ Y, p.1 ≠ hp2.objs.size + 1 := fun p hp' e => S'.fresh (Nat.le_succ _) p hp' e.symm
  rw [show (Shared.heap _).objs.size = _ from hsz] at S₃
  refine init_run IK IF ok (ArOk.type ok) S₃ heY (hv.toR hp) hp fun Z' dx hs tk' nn v' s' ex hz hvr S₄ => ⟨rfl, hp2.objs.size + 1, hp2.objs.size, dx, rfl, S₄.inK ok _ _ hC, S₄.own (.head _), ?_⟩
  exact ⟨C, X, Z', as₂, [(hp2.objs.size + 1, excObj C (some dx) hp2.objs.size)], _, rfl, (e₁.trans e₂).trans ex, rfl, ⟨_, dx, nn, hs, tk', v', _, _, .head _, rfl, rfl, hz, hvr, rfl, rfl, .inl rfl⟩, fun p hp' p' hp'' => by rw [List.mem_singleton.mp hp']; exact (heY p' hp'').symm, S₄⟩
end
noncomputable def initL (V : List V) (li : List (Option Nat)) : List Mine.V := li.map fun | some i => (V[i]?).getD .undef | none => .undef
noncomputable def initC (V : List V) (ci : List (Option Nat)) : List MO := ci.map fun | some i => .cell ((V[i]?).getD .undef) | none => .cell0
noncomputable def runFC (np : Nat) (dXs : List V) (li ci : List (Option Nat)) (f : SF) : CF := fun k X => ∀ Xs, ∀ {σ r₁ st₁ r}, EvS f ⟨initL (Xs ++ dXs) li, (List.range ci.length).map (σ.length + ·), .undef, σ ++ initC (Xs ++ dXs) ci⟩ r₁ st₁ -> Xs.length = np -> r₁.out = some r ->
 r.lo σ.length = true ∧ (st₁.sto.take σ.length).all (·.lo σ.length) = true -> FunR k X Xs σ r (st₁.sto.take σ.length)
section
variable {q : Bool} {n k : Nat} {Γ Γ₁ : Gam} {Z : Fz} {Y : Led} {Xs : List V} {σ : List MO} {r : Out} {r₁ : Fl} {s1 : AS}
theorem EvF.runFC {np : Nat} {dXs : List V} {li ci : List (Option Nat)} {f : SF} (h : EvS f ⟨initL (Xs ++ dXs) li, (List.range ci.length).map (σ.length + ·), .undef, σ ++ initC (Xs ++ dXs) ci⟩ r₁ s1) (hl : Xs.length = np) (ho : r₁.out = some r) (h3 : r.lo σ.length = true ∧ (s1.sto.take σ.length).all (·.lo σ.length) = true) : EvF (runFC np dXs li ci f) Xs σ r (s1.sto.take σ.length) := ⟨@fun κ κ D => D _ h hl ho h3⟩
theorem Rel.addMs (L : List ((Addr × Obj) × MO)) : ∀ {M : Addr -> Option (Tag × Obj)} {as : List Addr} {σ : List MO}, Rel M Z Y as σ -> (∀ x ∈ L, M x.1.1 = none ∧ ER Z as x.2 x.1.2) -> (L.map (·.1.1)).Nodup ->
  ∃ M', Rel M' Z Y (as ++ L.map (·.1.1)) (σ ++ L.map (·.2)) ∧ ∀ b t o, M' b = some (t, o) -> M b = some (t, o) ∨ ∃ x ∈ L, x.1 = (b, o) := by
 induction L with
 | nil => intro M as σ R _ _; exact ⟨M, by rw [List.map_nil, List.map_nil, List.append_nil, List.append_nil]; exact R, fun b t o e => .inl e⟩
 | cons x L ih =>
  intro M as σ R h hn
  rw [List.map_cons, List.nodup_cons] at hn
  have R₁ := R.addM (h x (.head _)).1 (h x (.head _)).2
  obtain ⟨M', R', hM⟩ := ih R₁ (fun y hy => ⟨by
   rw [put_ne (fun e => hn.1 (by rw [← e]; exact List.mem_map_of_mem hy))]; exact (h y (.tail _ hy)).1, (h y (.tail _ hy)).2.mono Ext.addM⟩) hn.2
  refine ⟨M', by rw [List.append_assoc, List.append_assoc] at R'; exact R', fun b t o e => ?_⟩
  rcases hM b t o e with e | ⟨y, hy, e1⟩
  ·by_cases q : b = x.1.1
   ·subst q; rw [put_self] at e; cases e; exact .inr ⟨x, .head _, rfl⟩
   ·rw [put_ne q] at e; exact .inl e
  ·exact .inr ⟨y, .tail _ hy, e1⟩
theorem cells_at {cm : Str -> Option Value} {cs : List (Str × Addr)} {cells : List (Addr × Obj)} (x : CellsAre cm cs cells) : cells.map (·.1) = cs.map (·.2) ∧ ∀ (j : Nat) (n : Str) (c : Addr), cs[j]? = some (n, c) -> ∃ o : Obj, cells[j]? = some (c, o) ∧ o.data = .cell (cm n) := by
 induction x with
 | nil => exact ⟨rfl, fun j n c h => nomatch h⟩
 | @cons n c o cs cells hd _ ih =>
  refine ⟨congrArg _ ih.1, fun j n' c' h => ?_⟩
  cases j with
  | zero => cases h; exact ⟨o, rfl, hd⟩
  | succ j => exact ih.2 j n' c' h
noncomputable def CelL (Γ : Gam) (names : List Str) (ws : List Value) (z : Str × Option Nat) : Prop := z.2.elim True fun i => bindL (fun y => Γ.scope.names.lookup y) (names.zip ws) (fun κ => none) z.1 = ws[i]?
theorem zip_mem {α β : Type} {l : List α} {m : List β} {j : Nat} {a : α} {b : β} (h1 : l[j]? = some a) (h2 : m[j]? = some b) : (a, b) ∈ l.zip m := List.mem_of_getElem? (List.getElem?_zip_eq_some.mpr ⟨h1, h2⟩)
theorem Fun.mkC {body : List Stmt} {a : Addr} {np : Nat} {names : List Str} {dvs : List Value} {dXs : List V} {li ci : List (Option Nat)} {f : SF} (D : DenB true k Γ₁ body f) (FK : FnK Ω.K a Γ₁ body np names dvs)
  (hnl : names.length = np + dvs.length) (hkind : ∀ n, All (fun x => Γ₁.scope.names.lookup x = some .local ∨ (Γ₁.scope.names.lookup x = some .cell ∧ ((cellsFrom n Γ₁.scope.names []).lookup x).isSome = true)) names)
  (hcn : (cellsFrom 0 Γ₁.scope.names []).map (·.1) = Γ₁.cns) (hcd2 : Γ₁.cns.Nodup) (hlnd : Γ₁.lns.Nodup) (hcl : ci.length = Γ₁.cns.length)
  (hL : bindsAt (np + dvs.length) fun ws => All (CelL Γ₁ names ws) (Γ₁.lns.zip li))
  (hC : bindsAt (np + dvs.length) fun ws => All (fun z => bindC (fun y => Γ₁.scope.names.lookup y) (names.zip ws) (fun κ => none) z.1 = z.2.bind fun i => ws[i]?) (Γ₁.cns.zip ci))
  (hci : ∀ i, some i ∈ ci -> i < np + dvs.length)
  (hd : ∀ Z as, VVs Z as dvs dXs) (hk : Γ₁.scope.kind = .function := by rfl) (hco : Γ₁.scope.isCoroutine = false := by rfl) (hgen : Γ₁.scope.isGenerator = false := by rfl) :
  Fun k a (runFC np dXs li ci f) := fun Xs {σ r₁ st₁ r} h hlen ho h3 => .mk fun c Γ md env ok A hA lo ccl cv vs fv Z Y as s hfv hvs S => by
 obtain ⟨_, name, params, dV, kV, doc, pm, cdv, ct, oc, an, od, osl, ho', hcd, hb, hcdv⟩ := FK
 cases hfv
 apply St.openE S; intro g m M hp tk Si R LO CO EO S'
 have hfr : A.frames = some (c.env Γ :: c.outer) := hA.fr.trans ok.hA
 have X := Si.inK ok.gs |>.keeps Si.F.keep
 have hvl : vs.length = np := hvs.length.trans hlen
 have hws := hvs.append (hd Z as)
 have hwl : (vs ++ dvs).length = np + dvs.length := by rw [List.length_append, hvl]
 have hzl : (names.zip (vs ++ dvs)).map (·.1) = names := List.map_fst_zip (by rw [hwl, hnl]; exact Nat.le_refl _)
 obtain ⟨g₁, F₁, hst, hsz, hgh, mk⟩ := enter_sit (Γ₁ := Γ₁) Si hfr ok.hk
 obtain ⟨dA, dB, dC⟩ := ArOk.deep ok hA
 refine codeAny_call_function dA (X _ _ ho') rfl hco hgen rfl (codeRec_of X hcd) ((hb { Ω.s₀ with heap := hp, toks := tk } vs hvl X) _ _ _ _ ?_)
 refine wpAny_newFunctionEnv_cells hk (fun x hx => (hkind _).mem (by rw [← hzl]; exact List.mem_map_of_mem hx)) fun env' he s' x => ?_
 subst he
 refine ⟨((Si.top ok.gs).nolimit.keeps Si.F.keep).keeps x.toInCall.keep, codeAny_func ?_⟩
 obtain ⟨h₁, tk₁, rfl, _⟩ := x.done
 have hk₁ := x.toInCall.keep
 have xc : ∀ n c, (cellsFrom (hp.objs.size + 1) Γ₁.scope.names []).lookup n = some c -> h₁.IsCell c ((bindC (fun y => Γ₁.scope.names.lookup y) (names.zip (vs ++ dvs)) fun κ => none) n) := x.cell
 have xa : ∀ n c, (n, c) ∈ cellsFrom (hp.objs.size + 1) Γ₁.scope.names [] -> hp.objs.size < c := x.above
 have xp : (cellsFrom (hp.objs.size + 1) Γ₁.scope.names []).Pairwise fun x y => x.2 ≠ y.2 := x.apart
 have xns : h₁.Ns hp.objs.size (bindL (fun y => Γ₁.scope.names.lookup y) (names.zip (vs ++ dvs)) fun κ => none) := x.toInCall.ns
 have hnames := (cellsFrom_names Γ₁.scope.names (hp.objs.size + 1) 0 [] [] rfl).trans hcn
 show wpAny (model prg Ω.w) (c.sub Γ A Γ₁ g₁ hp.objs.size a cdv (cellsFrom (hp.objs.size + 1) Γ₁.scope.names [])).A (execs body ((c.sub Γ A Γ₁ g₁ hp.objs.size a cdv (cellsFrom (hp.objs.size + 1) Γ₁.scope.names [])).env Γ₁)) _ _ _
 clear x
 generalize cellsFrom (hp.objs.size + 1) Γ₁.scope.names [] = cl at xc xa xp hnames
 have hnd : (cl.map (·.1)).Nodup := by rw [hnames]; exact hcd2
 obtain ⟨cells, NC, YC⟩ := Cl.news (h₀ := hp) (Nat.le_refl _) fun n c hm => ⟨xc n c (lookup_of_mem_nodup hnd hm), xa n c hm⟩
 obtain ⟨ca1, ca2⟩ := cells_at YC
 have hap : (cells.map (·.1)).Nodup := by
  rw [ca1, List.Nodup, List.pairwise_map]; exact xp
 have l1 : cells.length = cl.length := by have := congrArg List.length ca1; rwa [List.length_map, List.length_map] at this
 have l2 : cl.length = Γ₁.cns.length := by have := congrArg List.length hnames; rwa [List.length_map] at this
 have hclook : ∀ (j : Nat) (y : Str), Γ₁.cns[j]? = some y -> ∃ b, cl[j]? = some (y, b) ∧ cl.lookup y = some b := fun j y hj => by
  rw [← hnames, List.getElem?_map] at hj
  apply omap hj; intro z q
  exact ⟨z.2, q, lookup_of_mem_nodup hnd (List.mem_of_getElem? q)⟩
 have lc : cells.length = (initC (Xs ++ dXs) ci).length := by rw [initC, List.length_map, l1, l2, hcl]
 have hx1 : (cells.zip (initC (Xs ++ dXs) ci)).map (·.1.1) = cells.map (·.1) :=
  (List.map_map (f := Prod.fst) (g := Prod.fst)).symm.trans (congrArg (List.map Prod.fst) (List.map_fst_zip (Nat.le_of_eq lc)))
 have hx2 : (cells.zip (initC (Xs ++ dXs) ci)).map (·.2) = initC (Xs ++ dXs) ci := List.map_snd_zip (Nat.le_of_eq lc.symm)
 have hx3 : ∀ y ∈ cells.zip (initC (Xs ++ dXs) ci), M y.1.1 = none ∧ ER Z as y.2 y.1.2 := fun y hy => by
  obtain ⟨j, hj⟩ := List.getElem?_of_mem hy
  obtain ⟨hcj, hmj⟩ := List.getElem?_zip_eq_some.mp hj
  have hN := NC _ (List.mem_of_getElem? hcj)
  refine ⟨?_, ?_⟩
  ·cases q : M y.1.1 with
   | none => rfl
   | some z => exact no (hN.2.2.symm.trans (Si.N _ z.1 z.2 q).1)
  ·have hjc : j < cl.length := l1 ▸ (List.getElem?_eq_some_iff.mp hcj).1
   obtain ⟨o, e1, e2⟩ := ca2 j (cl[j]).1 (cl[j]).2 (List.getElem?_eq_getElem hjc)
   rw [hcj] at e1
   have hyn : Γ₁.cns[j]? = some (cl[j]).1 := by rw [← hnames, List.getElem?_map, List.getElem?_eq_getElem hjc]; rfl
   unfold initC at hmj
   rw [List.getElem?_map] at hmj
   obtain ⟨oi, hcij, hm⟩ := Option.map_eq_some_iff.mp hmj
   rw [← hm, Option.some.inj e1]
   rw [(bindsAt_ok hC _ hwl).mem (zip_mem hyn hcij)] at e2
   cases oi with
   | none => exact .eCell0 e2
   | some i =>
    have hiX : i < (Xs ++ dXs).length := by rw [← hws.length, hwl]; exact hci i (List.mem_of_getElem? hcij)
    obtain ⟨v, f1, f2⟩ := VVs.at hws (List.getElem?_eq_getElem hiX)
    rw [Option.bind_some, f1] at e2
    exact .eCell e2 (by rw [List.getElem?_eq_getElem hiX]; exact f2)
 obtain ⟨M', R', hM'⟩ := Rel.addMs _ R hx3 (by rw [hx1]; exact hap)
 rw [hx1, hx2] at R'
 have S₁ := mk _ h₁ a cdv cl xns hk₁
 have S₂ : Sit (c.sub Γ A Γ₁ g₁ hp.objs.size a cdv cl) Γ₁ g₁ (bindL (fun y => Γ₁.scope.names.lookup y) (names.zip (vs ++ dvs)) fun κ => none) M' h₁ := by
  obtain ⟨news, N, cv⟩ := S₁.NL
  refine ⟨S₁.B, S₁.T, S₁.F, news ++ cells, fun p hp' => (List.mem_append.mp hp').elim (N p) fun hp' => ?_, fun b t o e => ?_⟩
  ·have := NC p hp'
   refine ⟨this.1, this.2.1, ?_⟩
   cases q : g₁.get? p.1 with
   | none => rfl
   | some o => exact no (this.2.2.symm.trans (hgh _ _ q))
  ·rcases hM' b t o e with e | ⟨y, hy, e⟩
   ·exact List.mem_append_left _ (cv b t o e)
   ·exact List.mem_append_right _ (e ▸ (List.of_mem_zip hy).1)
 have e₀ : Ext Z as Z (as ++ cells.map (·.1)) := ⟨fun κ κ e => e, _, rfl⟩
 have ok₁ : Cx.Ok (c.sub Γ A Γ₁ g₁ hp.objs.size a cdv cl) Γ₁ true k := ⟨Around.frames_deeper hfr, hk, fun κ => hA.hh, ok.gs, dB, dC,
  (fun y hy => by
   obtain ⟨j, hj⟩ := List.getElem?_of_mem hy
   obtain ⟨b, _, h2⟩ := hclook j y hj
   exact ⟨b, h2⟩), hlnd, hcdv⟩
 refine callee_end (keep := false) (st := ⟨lo, ccl, cv, σ⟩) ok Si R F₁ hst LO CO EO ok₁ e₀ ho (fun κ => h3) (EvB.run (h.den D) _ ok₁ Z Y _ _ ⟨g₁, _, M', h₁, _, rfl, S₂, R', ?_, ?_, .fn⟩)
 ·intro i x X hi hX hne
  unfold initL at hX
  rw [List.getElem?_map] at hX
  obtain ⟨oi, q, hm⟩ := Option.map_eq_some_iff.mp hX
  cases oi with
  | none => exact absurd hm.symm hne
  | some i' =>
   replace hm : ((Xs ++ dXs)[i']?).getD V.undef = X := hm
   cases qX : (Xs ++ dXs)[i']? with
   | none => rw [qX] at hm; exact absurd hm.symm hne
   | some X' =>
    rw [qX] at hm
    replace hm : X' = X := hm
    obtain ⟨v, f1, f2⟩ := VVs.at hws qX
    exact ⟨v, ((bindsAt_ok hL _ hwl).mem (zip_mem hi q)).trans f1, hm ▸ f2.mono e₀⟩
 ·intro j y hj
  obtain ⟨b, h1, h2⟩ := hclook j y hj
  have hjl : j < ci.length := hcl ▸ (List.getElem?_eq_some_iff.mp hj).1
  refine ⟨σ.length + j, b, by rw [List.getElem?_map, List.getElem?_range hjl]; rfl, ?_, h2⟩
  rw [ca1, List.getElem?_append_right (by rw [R.len]; exact Nat.le_add_right _ _), R.len, Nat.add_sub_cancel_left, List.getElem?_map, h1]; rfl
end
section
variable {w : World} {A : Around} {E : Value -> Shared -> Prop} {s : Shared} {K : Frag} {x C : Addr} {ox : Obj} {od : Option Obj} {name : Str} {expr : Bool} {Q : Value -> Shared -> Prop}
theorem get_exc {v : Value} {cd : ClassData} (X : K.In s.heap) (I : W.InstAt s.heap x ox C od) (hga : findIn K (.ref C) "__getattribute__" = some (some (.builtin "BaseException.__getattribute__"))) (hgg : findIn K (.ref C) "__getattr__" = some none) (hc : clsIn K C = some cd) (hne : cd.mro.isEmpty = false) (hb : cd.mro.contains (.type "BaseException") = true)
  (hf : findObj K C od name = some (.value v)) (hh : handedIn v = true) (h : Q v { s with toks := s.toks + 1 }) : wpAny (model prg w) A (getAttr (.ref x) name expr) Q E s := by
 have FB := PySem.F.attr_Exception
 obtain ⟨hp, g, d, t, os⟩ := s
 have L0 := I.type (M := model prg w)
 have L1 := looks_findIn (M := model prg w) X hga
 have L2 := looks_findIn (M := model prg w) X hgg
 have L3 := looks_find (M := model prg w) X I hf
 have f3 := FB.ga.bind (.ref x)
 have hk : builtinKind "BaseException.__getattribute__" = some .slot := by decide +kernel
 have hsplit : splitId "BaseException.__getattribute__" = some ("BaseException", "__getattribute__") := by decide +kernel
 have sub : Looks (model prg w) hp (isInstance (.ref x) (.type "BaseException")) true := L0.andThen (looks_mroIn X (by unfold mroIn; rw [hc, Option.bind_some, if_neg (by rw [hne]; decide), hb]))
 have hx0 : (expr && onTheHeap (Value.builtin "BaseException.__getattribute__")) = false := by cases expr <;> rfl
 have hx2 : (Value.builtin "BaseException.__getattribute__" == Value.builtin "object.__getattribute__") = false := by decide +kernel
 unfold getAttr getAttrBy
 refine wpAny_bind (wpAny_mkText (wpAny_holding (wpAny_bind (L0.at (wpAny_bind (L1.at ?_))))))
 dsimp only
 rw [hx2, Bool.and_false, if_neg (by decide)]
 unfold getAttrByItsOwn hookBefore callGetattribute boundAndCalled
 rw [hx0]
 refine wpAny_bind (L2.at ?_)
 refine wpAny_bind (wpAny_attempt (wpAny_holding ?_))
 simp only [Bool.false_eq_true, if_false]
 refine wpAny_bind (wpAny_of_eq f3 ?_)
 refine wpAny_call (codeAny_call_builtin FB.ga.plain PySem.F.entry_bexc_ga (@check_slot (model prg w) _ _ _ "BaseException.__getattribute__" "BaseException" "__getattribute__" (.ref x) [.str name t] [] _ hk hsplit sub (PySem.F.args_bexc_ga _ _) ?_))
 unfold Builtin.«object.__getattribute__»
 refine wpAny_bind (wpAny_pure (wpAny_bind (wpAny_pure (wpAny_bind (L0.at (wpAny_bind (L3.at ?_)))))))
 refine wpAny_pure ?_
 show wpAny _ _ (handedOut v) _ _ _
 rw [handedOut_of hh]; exact wpAny_pure h
end
noncomputable def EF.told (C : Addr) (f : EF) : EF := fun q n Γ md tt e => ∀ st, ∀ {s1 t}, EvE f st (.ok (.exc C t)) s1 -> t.okA = true -> Ev q n Γ md tt e st (.ok t) s1
noncomputable def Fl.isOk : Fl -> Bool
 | .next => true
 | .ret _ => true
 | _ => false
noncomputable def SF.tryE (C : Addr) (i : Nat) (b hd : SF) : SF := fun q n Γ x => (∀ {st s1 r}, EvS b st r s1 -> r.isOk = true -> EvB q n Γ x st r s1) ∧
 ∀ {st l cl cv τ t r l' cl' cv' τ'}, EvS b st (.exn C t) ⟨l, cl, cv, τ⟩ -> EvS hd ⟨l.set i (.exc C t), cl, cv, τ⟩ r ⟨l', cl', cv', τ'⟩ -> r.isOk = true -> EvB q n Γ x st r ⟨l'.set i .undef, cl', cv', τ'⟩
section
variable {q : Bool} {n k i : Nat} {Γ : Gam} {md : Md} {pos p np hpos : Pos} {c c' : Cx} {Z Z' : Fz} {Y : Led} {as as' : List Addr} {st st' s1 : AS} {s : Shared} {X t : V} {o : Expr} {f : EF} {C : Addr} {b hd fb fh : SF} {r : Fl} {l l' : List V} {cl cl' : List Nat} {cv cv' : V} {τ τ' : List MO} {x nm' : Str}
theorem EvE.told (h : EvE f st (.ok (.exc C t)) s1) (ht : t.okA = true := by rfl) : EvE (.told C f) st (.ok t) s1 := ⟨@fun κ κ κ κ κ κ D => D _ h ht⟩
theorem EvS.try0 (h : EvS b st r s1) (hr : r.isOk = true := by rfl) : EvS (.tryE C i b hd) st r s1 := ⟨@fun κ κ κ κ D => D.1 h hr⟩
theorem EvS.tryX (h : EvS b st (.exn C t) ⟨l, cl, cv, τ⟩) (hh : EvS hd ⟨l.set i (.exc C t), cl, cv, τ⟩ r ⟨l', cl', cv', τ'⟩) (hr : r.isOk = true := by rfl) : EvS (.tryE C i b hd) st r ⟨l'.set i .undef, cl', cv', τ'⟩ := ⟨@fun κ κ κ κ D => D.2 h hh hr⟩
theorem Den.told (D : Den q n Γ md o f) (K : ToldK Ω.K C) (hbase : ∀ env, attributeBase o "told" env (eval o env) = eval o env := by intro _; rfl) : Den q n Γ md (.Attribute o "told" pos) (.told C f) := fun κ => fun h hA => .mk fun c env ok Z Y as s S => by
 rw [arm_eval_Attribute, hbase env]
 refine wpAny_bind (h.go D ok S fun v Z₁ as₁ s₁ e₁ hv S₁ => wpAny_bind (wpAny_standAt (wpAny_bind (wpAny_holding ?_))))
 cases hv with
 | pure hv =>
  cases hv with
  | @exc e dx _ oe hs tt v nn _ z1 h1 h2 h3 z2 hvt =>
   have fx : ∀ {b o}, Z₁ b o -> s₁.heap.get? b = some o := fun z => St.fx (O := []) S₁ ok (.inl (.inl z))
   obtain ⟨cd, c1, c2, c3⟩ := K.cd
   have hl : getL "told" [⟨hs, .str "told" tt, v⟩] = some (some v) := by simp [getL, isStr_eq]
   refine get_exc (S₁.inK ok) (od := some (dictOf [⟨hs, .str "told" tt, v⟩] nn)) ⟨fx z1, h1, h2, by rw [h3]; exact fx z2⟩ K.ga K.gg c1 c2 c3 (findObj_own K.hd K.at_ rfl hl) (okA_handed (as := as₁) (.pure hvt) hA) ?_
   exact wpAny_bind (wpAny_letTemporaryGo (wpAny_pure ⟨_, Z₁, as₁, rfl, e₁, .pure hvt, S₁.toks _⟩))
theorem St.withA (S : St c Γ none (c.env Γ) Z Y as st s) (A : Around) : St { c with A := A } Γ none (c.env Γ) Z Y as st s := by
 obtain ⟨g, m, M, hp, tk, e, Si, R, LO, CO, EO⟩ := S
 exact ⟨g, m, M, hp, tk, e, ⟨Si.B, Si.T, Si.F, Si.NL⟩, R, LO, CO, EnvOk.fn (c := { c with A := A })⟩
theorem St.woA {A : Around} (S : St { c with A := A } Γ none (c.env Γ) Z Y as st s) : St c Γ none (c.env Γ) Z Y as st s := St.withA (c := { c with A := A }) S c.A
theorem name_goes (ok : Cx.Ok c Γ q n) (hi : Γ.lns[i]? = some nm') (hl : Γ.scope.names.lookup nm' = some .local) (S : St c Γ none (c.env Γ) Z Y as ⟨l, cl, cv, τ⟩ s) {A : Around} {Q : Unit -> Shared -> Prop} {E : Value -> Shared -> Prop} (hQ : ∀ s', St c Γ none (c.env Γ) Z Y as ⟨l.set i .undef, cl, cv, τ⟩ s' -> Q () s') :
  wpAny (model prg Ω.w) A (do bindName (c.env Γ) nm' .none; unbindBehindTheSuite (c.env Γ) nm' hpos) Q E s := by
 apply St.openE S; intro g m M hp tk Si R LO CO EO S'
 refine wpAny_nameGoes_keeps (m := m) hl Si.F.ns (by show (Γ.scope.kind == .class || (Γ.scope.kind == .module && c.L != mainGlobals)) = false; rw [ok.hk]; rfl) fun h' v hn hsb => hQ _ ⟨g, _, M, h', _, rfl, Si.set hn hsb, R, fun j y U hj hU hne => ?_, CO, .fn⟩
 by_cases hji : i = j
 ·subst hji
  rw [List.getElem?_set_self (by simpa using (List.getElem?_eq_some_iff.mp hU).1)] at hU
  cases hU; exact absurd rfl hne
 ·rw [List.getElem?_set_ne hji] at hU
  obtain ⟨u, h1, h2⟩ := LO j y U hj hU hne
  obtain ⟨l3, e3⟩ := List.getElem?_eq_some_iff.mp hi
  obtain ⟨l4, e4⟩ := List.getElem?_eq_some_iff.mp hj
  exact ⟨u, (if_neg fun e => hji ((List.getElem_inj ok.nd).mp (e3.trans (e ▸ e4.symm)))).trans h1, h2⟩
theorem DenS.tryE {body : List Stmt} {b₀ : Stmt} {suite : List Stmt} (hcls : ExcC Ω.K C) (Db : DenB true n Γ body fb) (Dn : Den false n Γ none (.Name x np) (.val (.val (.ref C)))) (Dh : DenB false n Γ (b₀ :: suite) fh) (hi : Γ.lns[i]? = some nm') (hl : Γ.scope.names.lookup nm' = some .local) :
  DenS true n Γ (.Try body [.ExceptHandler (some (.Name x np)) (some nm') (b₀ :: suite) hpos] [] [] pos) (.tryE C i fb fh) :=
 ⟨fun {κ κ r} h hr => .mk fun c ok Z Y as s S => wpAny_Try_except (wpAny_mono (EvB.run (h.den Db) c ok Z Y as s S) (fun fl s₁ hs => by
   obtain ⟨Z₁, as₁, e₁, S₁, hm⟩ := hs
   cases hm with
   | next => exact wpAny_execs_nil (env := c.env Γ) ⟨Z₁, as₁, e₁, S₁, .next⟩
   | ret hv => exact ⟨Z₁, as₁, e₁, S₁, .ret hv⟩
   | brk => cases hr
   | cont => cases hr) fun e s₁ he => by
  cases r with
  | exn C t => cases hr
  | _ => exact he.no),
 fun {κ κ κ κ κ t r κ κ κ κ} h hh hr => .mk fun c ok Z Y as s S => wpAny_Try_except (wpAny_mono (EvB.run (h.den Db) c ok Z Y as s S) (fun fl s₁ hs => by
   obtain ⟨Z₁, as₁, e₁, S₁, hm⟩ := hs
   cases hm) fun e s₁ he => by
  obtain ⟨_, _, _, _, _, _, _, _, _, _, _, _, _, _, _, hC, _, _, _, hBE, _⟩ := hcls
  obtain ⟨_, _, Z₁, as₁, Yx, a, hx, e₁, rfl, X, sep, S₁⟩ := he
  cases hx
  refine note_ex ok ok.hA X sep S₁ fun s₂ Yx₂ X₂ T₂ sep₂ S₂ => ?_
  refine flight_ex X₂ T₂ sep₂ S₂ (fl' := .none) rfl (.inl rfl) fun s₃ Yx₃ X₃ T₃ sep₃ S₃ => ?_
  have ok' : Cx.Ok { c with A := c.A.mark (some (.ref a)) } Γ false n := ⟨ok.hA, ok.hk, (fun h => nomatch h), ok.gs, ok.dep, ok.un, ok.cl, ok.nd, ok.cd⟩
  refine wpAny_handleBy_cons (codeAny_handlers_test (EvE.val.go Dn ok' (S₃.withA _) fun v Z₄ as₄ s₄ e₄ hv S₄ => ?_)) (by intro q; cases q)
  apply VV.val_inv hv
  have S₅ := S₄.woA
  have X₅ : ExAt c C t a Z₄ Yx₃ := by
   obtain ⟨oe, dx, nn, hs, t', v, vs, a0, x1, x2, x3, x4, x5, x6, x7, x8⟩ := X₃
   exact ⟨oe, dx, nn, hs, t', v, vs, a0, x1, x2, x3, e₄.1 _ _ x4, x5.mono e₄.1, x6, x7, x8⟩
  obtain ⟨oe4, hoe4, hcls4⟩ : ∃ oe, s₄.heap.get? a = some oe ∧ oe.cls = .ref C := by
   obtain ⟨oe, dx, nn, hs, t', v, vs, a0, x1, x2, _⟩ := X₅
   exact ⟨oe, S₅.own (List.mem_append_left _ x1), x2⟩
  have hget := S₅.inK ok _ _ hC
  obtain ⟨hp4, g4, d4, tk4, os4⟩ := s₄
  refine wpAny_excMatches_sub_self hget hoe4 hcls4 hBE (codeAny_handlers_suite_as ?_)
  refine flight_ex X₅ T₃ sep₃ S₅ (fl' := .none) rfl (.inl rfl) fun s₆ Yx₆ X₆ T₆ sep₆ S₆ => ?_
  obtain ⟨oe, dx, nn, hs, t', v, vs, a0, x1, x2, x3, x4, x5, x6, _⟩ := X₆
  have S₇ := S₆.frz (Y' := Y) (List.mem_append_left _ x1) fun p hp => ⟨List.mem_append_right _ hp, (sep₆ _ x1 p hp).symm⟩
  refine store_loc (c := { c with A := c.A.mark (some (.ref a)) }) ok' hi hl (X := .exc C t) (.pure (.exc (.inr ⟨rfl, rfl⟩) x2 (by unfold notCls; rw [x6]) x3 (.inl x4) (x5.mono fun κ κ => .inl))) (S₇.withA _) fun s₈ S₈ => ?_
  refine wpAny_mono (EvB.run (hh.den Dh) _ ok' _ Y as₄ s₈ S₈) (fun fl s₉ hs => ?_) fun e s₉ he => ?_
  ·obtain ⟨Z₉, as₉, e₉, S₉, hm⟩ := hs
   have ex := ((e₁.trans e₄).trans .add).trans e₉
   cases hm with
   | next => exact name_goes ok hi hl S₉.woA fun s' S' => ⟨Z₉, as₉, ex, S', .next⟩
   | ret hv => exact name_goes ok hi hl S₉.woA fun s' S' => ⟨Z₉, as₉, ex, S', .ret hv⟩
   | brk => cases hr
   | cont => cases hr
  ·cases r with
   | exn C t => cases hr
   | _ => exact he.no)⟩
end
inductive EvP : List (EF × EF) -> AS -> List (V × V) -> AS -> Prop
 | nil {st : AS} : EvP [] st [] st
 | cons {f g : EF} {fs : List (EF × EF)} {st s1 s2 s3 : AS} {X U : V} {l : List (V × V)} : EvE f st (.ok X) s1 -> EvE g s1 (.ok U) s2 -> EvP fs s2 l s3 -> EvP ((f, g) :: fs) st ((X, U) :: l) s3
inductive DenPs (q : Bool) (n : Nat) (Γ : Gam) (md : Md) : List (Option Expr) -> List Expr -> List (EF × EF) -> Prop
 | nil : DenPs q n Γ md [] [] []
 | cons {k v : Expr} {ks : List (Option Expr)} {vs : List Expr} {f g : EF} {fs : List (EF × EF)} : Den q n Γ md k f -> Den q n Γ md v g -> DenPs q n Γ md ks vs fs -> DenPs q n Γ md (some k :: ks) (v :: vs) ((f, g) :: fs)
inductive VPs (Z : Fz) (as : List Addr) : List (Value × Value) -> List (V × V) -> Prop
 | nil : VPs Z as [] []
 | cons {a b : Value} {X U : V} {vs : List (Value × Value)} {l : List (V × V)} : VV Z as a X -> VV Z as b U -> VPs Z as vs l -> VPs Z as ((a, b) :: vs) ((X, U) :: l)
noncomputable def intKeys : List (V × V) -> Option (List (Int × V))
 | [] => some []
 | (X, U) :: r => (X.int?).bind fun k => if U.pureB = true then (intKeys r).map ((k, U) :: ·) else none
noncomputable def EF.dictI (fs : List (EF × EF)) : EF := fun q n Γ md t e => ∀ st, ∀ {l s1 kvs}, EvP fs st l s1 -> intKeys l = some kvs -> (kvs.map (·.1)).Nodup -> Ev q n Γ md t e st (.ok (.dict kvs)) s1
noncomputable def EF.deck (f g : EF) : EF := fun q n Γ md t e => ∀ st, ∀ {s1 X U l cl cv τ}, EvE f st (.ok X) s1 -> EvE g s1 (.ok U) ⟨l, cl, cv, τ⟩ -> Ev q n Γ md t e st (.ok (.ref τ.length)) ⟨l, cl, cv, τ ++ [.deck X U]⟩
noncomputable def SF.setMix (f g : EF) : SF := fun q n Γ b => ∀ st, ∀ {s1 U i l cl cv τ L M}, EvE f st (.ok U) s1 -> EvE g s1 (.ok (.ref i)) ⟨l, cl, cv, τ⟩ -> τ[i]? = some (.deck L M) -> EvB q n Γ b st .next ⟨l, cl, cv, τ.set i (.deck L U)⟩
noncomputable def SF.fdivL (i : Nat) (f : EF) : SF := fun q n Γ x => ∀ l, ∀ {cl cv τ a b l' cl' cv' τ'}, l[i]? = some (.int a) -> EvE f ⟨l, cl, cv, τ⟩ (.ok (.int b)) ⟨l', cl', cv', τ'⟩ -> b ≠ 0 ∧ b.natAbs < 1073741824 -> EvB q n Γ x ⟨l, cl, cv, τ⟩ .next ⟨l'.set i (.int (a.fdiv b)), cl', cv', τ'⟩
section
variable {q : Bool} {n k i : Nat} {Γ : Gam} {md : Md} {pos p : Pos} {c : Cx} {env : Env} {Z Z' : Fz} {Y : Led} {as as' : List Addr} {st st' s1 : AS} {s : Shared} {X U L M : V} {o e : Expr} {f g : EF} {fs : List (EF × EF)} {l : List V} {cl : List Nat} {cv : V} {τ : List MO} {l' : List V} {cl' : List Nat} {cv' : V} {τ' : List MO} {x : Str} {ks : List (Option Expr)} {vs : List Expr} {ps : List (V × V)} {kvs : List (Int × V)} {ws : List (Value × Value)}
theorem EvE.dictI (h : EvP fs st ps s1) (hk : intKeys ps = some kvs) (hn : (kvs.map (·.1)).Nodup) : EvE (.dictI fs) st (.ok (.dict kvs)) s1 := ⟨@fun κ κ κ κ κ κ D => D _ h hk hn⟩
theorem EvE.deck (h1 : EvE f st (.ok X) s1) (h2 : EvE g s1 (.ok U) ⟨l, cl, cv, τ⟩) : EvE (.deck f g) st (.ok (.ref τ.length)) ⟨l, cl, cv, τ ++ [.deck X U]⟩ := ⟨@fun κ κ κ κ κ κ D => D _ h1 h2⟩
theorem EvS.setMix (h1 : EvE f st (.ok U) s1) (h2 : EvE g s1 (.ok (.ref i)) ⟨l, cl, cv, τ⟩) (h3 : τ[i]? = some (.deck L M)) : EvS (.setMix f g) st .next ⟨l, cl, cv, τ.set i (.deck L U)⟩ := ⟨@fun κ κ κ κ D => D _ h1 h2 h3⟩
theorem EvS.fdivL {a b : Int} (h1 : l[i]? = some (.int a)) (h2 : EvE f ⟨l, cl, cv, τ⟩ (.ok (.int b)) ⟨l', cl', cv', τ'⟩) (h3 : b ≠ 0 ∧ b.natAbs < 1073741824) : EvS (.fdivL i f) ⟨l, cl, cv, τ⟩ .next ⟨l'.set i (.int (a.fdiv b)), cl', cv', τ'⟩ := ⟨@fun κ κ κ κ D => D _ h1 h2 h3⟩
theorem EvP.go (h : EvP fs st ps s1) (ok : Cx.Ok c Γ q n) : ∀ {ks : List (Option Expr)} {vs : List Expr} {Z : Fz} {as : List Addr} {s : Shared} {Q : List (Value × Value) -> Shared -> Prop} {E : Value -> Shared -> Prop}, DenPs q n Γ md ks vs fs -> St c Γ md env Z Y as st s ->
  (∀ ws Z₁ as₁ s₁, Ext Z as Z₁ as₁ -> VPs Z₁ as₁ ws ps -> St c Γ md env Z₁ Y as₁ s1 s₁ -> Q ws s₁) -> wpAny (model prg Ω.w) c.A (evalPairs (pairTrees ks vs env pos)) Q E s := by
 induction h with
 | nil =>
  intro ks vs Z as s Q E D S hk
  cases D; exact pairTrees_nil_walk (hk [] Z as s .refl .nil S)
 | cons h1 h2 _ ih =>
  intro ks vs Z as s Q E D S hk
  cases D with | cons Df Dg D =>
  exact pairTrees_cons_walk (h1.go Df ok S fun a Z₁ as₁ s₁ e₁ ha S₁ => h2.go Dg ok S₁ fun b Z₂ as₂ s₂ e₂ hb S₂ => ih D S₂ fun ws Z₃ as₃ s₃ e₃ hws S₃ => hk _ Z₃ as₃ s₃ ((e₁.trans e₂).trans e₃) (.cons ((ha.mono e₂).mono e₃) (hb.mono e₃) hws) S₃)
theorem dict_make {K : Type} [DecidableEq K] {knd : KeyKind prg Ω.w K} {P : Fz -> List Addr -> List (K × Value) -> Prop} {Q E : Value -> Shared -> Prop} (h : EvP fs st ps s1) (D : DenPs q n Γ none ks vs fs) (hall : ks.all (·.isSome) = true) (hl : ks.length = vs.length) (h0 : ks ≠ []) (hlen : ks.length ≤ 15) (ok : Cx.Ok c Γ q n) (S : St c Γ none (c.env Γ) Z Y as st s)
  (hc : ∀ {Z as ws}, VPs Z as ws ps -> ∃ kv, Carries knd ws kv ∧ (kv.map (·.1)).Nodup ∧ P Z as kv) (k : ∀ a o kv Z' as' s', Ext Z as Z' as' -> (a == sysModules) = false -> DObj knd o kv -> P Z' as' kv -> (∀ p ∈ Y, p.1 ≠ a) -> St c Γ none (c.env Γ) Z' ((a, o) :: Y) as' s1 s' -> Q (.ref a) s') :
  wpAny (model prg Ω.w) c.A (eval (.Dict ks vs pos) (c.env Γ)) Q E s := by
 have hm : (s.heap.objs.size == sysModules) = false := by
  obtain ⟨g, m, M, h, tk, rfl, Si, R, LO, CO, EO⟩ := S
  exact beq_eq_false_iff_ne.mpr (Nat.ne_of_gt (modules_low ((Si.top ok.gs).nolimit.keeps Si.F.keep)))
 have hf : ∀ p ∈ Y, p.1 ≠ s.heap.objs.size := fun p hp e => S.fresh (Nat.le_refl _) p hp e.symm
 refine wpAny_Dict_walk (knd := knd) hall hl h0 hlen (h.go ok D (S.addO emptyD s.toks) fun ws Z₁ as₁ s₁ e₁ hws S₁ => ?_)
 obtain ⟨kv, c1, c2, c3⟩ := hc hws
 refine ⟨kv, c1, DObj.empty.at (S₁.own (.head _)), fun h' hd hs => ?_⟩
 rw [merged_nil_of_nodup _ c2] at hd
 obtain ⟨o, ho, hdo⟩ := DObj.of hd
 exact k _ o kv Z₁ as₁ _ e₁ hm hdo c3 hf (S₁.chgL _ (.head _) (List.forall_mem_cons.mpr ⟨.inl rfl, fun p hp => .inr ⟨.tail _ hp, hf p hp⟩⟩) hs ho)
theorem intKeys_ok : ∀ {ws : List (Value × Value)} {l : List (V × V)} {kvs : List (Int × V)}, VPs Z as ws l -> intKeys l = some kvs -> ∃ kv, Carries (intKind prg Ω.w) ws kv ∧ DRs Z kv kvs ∧ kv.map (·.1) = kvs.map (·.1)
 | _, _, _, .nil, h => by cases h; exact ⟨[], trivial, .nil, rfl⟩
 | _, _, _, .cons (a := a) (b := b) (X := X) (U := U) ha hb r, h => obind h fun k hk h => oif h fun hp h => by
  apply omap h; intro kvs' h'
  obtain ⟨kv, h1, h2, h3⟩ := intKeys_ok r h'
  revert ha; apply V.intE hk; intro ha
  apply VV.int_inv ha; intro t
  exact ⟨(k, b) :: kv, ⟨intKey, rfl, h1⟩, .cons (hb.toR hp) h2, by rw [List.map_cons, List.map_cons, h3]⟩
theorem Den.dictI (D : DenPs q n Γ none ks vs fs) (hall : ks.all (·.isSome) = true) (hl : ks.length = vs.length) (h0 : ks ≠ []) (hlen : ks.length ≤ 15) : Den q n Γ none (.Dict ks vs pos) (.dictI fs) := fun κ {κ κ kvs} h hk hn => .mk fun c env ok Z Y as s S => by
 obtain rfl := S.env0
 exact dict_make (knd := intKind prg Ω.w) (P := fun Z κ kv => DRs Z kv kvs) h D hall hl h0 hlen ok S (fun {Z as ws} hws => by
  obtain ⟨kv, c1, c2, c3⟩ := intKeys_ok hws hk
  exact ⟨kv, c1, by rw [c3]; exact hn, c2⟩) fun a o kv Z' as' s' e hm hd hr hf S' => ⟨_, _, as', rfl, e.trans .add, .pure (.dict hm (.inl (.inr ⟨rfl, rfl⟩)) hd (hr.mono fun κ κ => .inl)), S'.frz (.head _) fun p hp => ⟨.tail _ hp, hf p hp⟩⟩
theorem Den.deck {kp1 kp2 : Pos} {k1 k2 : Nat} {v1 v2 : Expr} (D1 : Den q n Γ none v1 f) (D2 : Den q n Γ none v2 g) : Den q n Γ none (.Dict [some (.Constant (.str "left") k1 kp1), some (.Constant (.str "mixed") k2 kp2)] [v1, v2] pos) (.deck f g) := fun κ {κ X U κ κ κ κ} h1 h2 => .mk fun c env ok Z Y as s S => by
 obtain rfl := S.env0
 refine dict_make (knd := PySem.strKind prg Ω.w) (P := fun Z as kv => ∃ b b', kv = [(("left" : Str), b), (("mixed" : Str), b')] ∧ VV Z as b X ∧ VV Z as b' U) (.cons EvE.val h1 (.cons EvE.val h2 .nil)) (.cons Den.cstr D1 (.cons Den.cstr D2 .nil)) rfl rfl (fun h => nomatch h) (Nat.le_add_left 2 13) ok S (fun {Z as ws} hws => ?_) fun a o kv Z' as' s' e hm hd hr hf S' => ?_
 ·cases hws with
  | @cons _ b _ _ _ _ ha hb hws => cases hws with
   | @cons _ b' _ _ _ _ ha' hb' hws =>
    cases hws
    apply VV.str_inv ha; intro t
    apply VV.str_inv ha'; intro t'
    exact ⟨[(("left" : Str), b), (("mixed" : Str), b')], ⟨strKey, rfl, strKey, rfl, trivial⟩, by show List.Nodup [("left" : Str), "mixed"]; decide, _, _, rfl, hb, hb'⟩
 ·obtain ⟨b, b', rfl, hb, hb'⟩ := hr
  obtain ⟨h1, S₂⟩ := S'.mut1 (Y' := Y) (.head _) (fun p hp => ⟨.tail _ hp, hf p hp⟩) (.eDeck hd hb hb')
  exact ⟨_, Z', _, rfl, e.trans .addM, .ref h1, S₂⟩
theorem DenS.setMix {kk : Nat} {kp : Pos} (D : Den q n Γ none e f) (D' : Den q n Γ none o g) (hs : ∀ env, swapsWith e (some (.Subscript o (.Constant (.str "mixed") kk kp) p)) pos.line env = pure false := by intro _; rfl) :
  DenS q n Γ (.Assign [.Subscript o (.Constant (.str "mixed") kk kp) p] e pos) (.setMix f g) := fun κ => fun h1 h2 hm => .mk fun c ok Z Y as s S => by
 refine wpAny_Assign_Subscript (h1.go D ok S fun v Z₁ as₁ s₁ e₁ hv S₁ => h2.go D' ok S₁ fun ov Z₂ as₂ s₂ e₂ hov S₂ => wpAny_Constant_str ?_) (hs _)
 have S₃ := S₂.toks (s₂.toks + 1)
 revert S₃
 apply St.openE S₂; intro gg m M hp tk Si R LO CO EO _ S₃
 obtain ⟨a, o, rfl, k1, k2, k3, k4⟩ := ref_at Si R hov hm MO.noConfusion
 cases k3 with
 | @eDeck _ v0 u0 _ _ hd hl hu =>
  refine wpAny_setItem_pairs (knd := PySem.strKind prg Ω.w) (kvs := [("left", v0), ("mixed", u0)]) strKey (hd.at k1) (fun h' hd' hsb => ?_) (sl (by show 2 ≤ 1000000; omega))
  obtain ⟨o', ho', hdo⟩ := DObj.of hd'
  have hst : stored [(("left" : Str), v0), ("mixed", u0)] "mixed" v = ([(("left" : Str), v0), (("mixed" : Str), v)] : List (Str × Value)) := by
   have hne : ("left" : Str) ≠ "mixed" := by decide
   simp [stored, hne]
  rw [hst] at hdo
  exact ⟨Z₂, as₂, e₁.trans e₂, St.chgM (tk := tk + 1 + 1) Si R LO CO EO k2 k4 hsb ho' (.eDeck hdo hl (hv.mono e₂)), .next⟩
theorem DenS.fdivL (D : Den q n Γ none e f) (hi : Γ.lns[i]? = some x) (hl : Γ.scope.names.lookup x = some .local) : DenS q n Γ (.AugAssign (.Name x p) .FloorDiv e pos) (.fdivL i f) := fun κ => fun ha h hb => .mk fun c ok Z Y as s S => by
 apply St.openE S; intro g m M hp tk Si R LO CO EO S'
 obtain ⟨v, hv, hvv⟩ := LO i x _ hi ha V.noConfusion
 refine wpAny_AugAssign_Name (wpAny_loadName_local ok.hk hl Si.F.ns hv ?_)
 clear hv; apply VV.int_inv hvv; intro t
 refine h.go D ok S' fun v Z₁ as₁ s₁ e₁ hv S₁ => ?_
 apply VV.int_inv hv; intro t'
 exact PyProof.Rows.ifloordiv_int hb.1 (store_loc ok hi hl (.pure (.int _ _)) (S₁.toks _) fun s' S'' => ⟨Z₁, as₁, e₁, S'', .next⟩) (.inl (PyProof.noPylong_small hb.2))
end
noncomputable def mulF : F2 := fun κ X U => (X.ints?).bind fun xs => (U.int?).bind fun x => if x = 0 then some (.ints []) else if x = 1 ∧ xs.length ≤ 1000000 then some (.ints xs) else none
noncomputable def inLF : F2 := fun σ X U => (X.int?).bind fun x => (rdI σ U).map fun xs => .bool (xs.any (· == x))
noncomputable def notInB : F2 := fun κ X U => (X.int?).bind fun x => (U.bytes?).bind fun b => if 0 ≤ x ∧ x < 256 then some (.bool (!(b.contains x.toNat.toUInt8))) else none
noncomputable def listB (X : V) : Option V := (X.bytes?).bind fun b => if b.size ≤ 1000 then some (.ints (b.toList.map fun c => (c.toNat : Int))) else none
noncomputable def EF.indexB (f g : EF) : EF := fun q n Γ md t e => ∀ st, ∀ {s1 s2} {b : Array UInt8} {x : Int}, ∀ {i}, EvE f st (.ok (.bytes b)) s1 -> EvE g s1 (.ok (.int x)) s2 -> 0 ≤ x ∧ x < 256 ∧ b.size ≤ 1000 -> Builtin.Bytes.find? b #[x.toNat.toUInt8] 0 b.size = some i -> Ev q n Γ md t e st (.ok (.int (i : Nat))) s2
theorem EvE.indexB {f g : EF} {st s1 s2 : AS} {b : Array UInt8} {x : Int} {i : Nat} (h1 : EvE f st (.ok (.bytes b)) s1) (h2 : EvE g s1 (.ok (.int x)) s2) (h3 : 0 ≤ x ∧ x < 256 ∧ b.size ≤ 1000) (h4 : Builtin.Bytes.find? b #[x.toNat.toUInt8] 0 b.size = some i) : EvE (.indexB f g) st (.ok (.int (i : Nat))) s2 := ⟨@fun κ κ κ κ κ κ D => D _ h1 h2 h3 h4⟩
noncomputable def SF.addL (i : Nat) (f : EF) : SF := fun q n Γ x => ∀ l, ∀ {cl cv τ a b l' cl' cv' τ'}, l[i]? = some (.int a) -> EvE f ⟨l, cl, cv, τ⟩ (.ok (.int b)) ⟨l', cl', cv', τ'⟩ -> EvB q n Γ x ⟨l, cl, cv, τ⟩ .next ⟨l'.set i (.int (a + b)), cl', cv', τ'⟩
section
theorem gives_contains (b : Array UInt8) (i : Int) (t u : Tok) (h0 : 0 ≤ i) (h1 : i < 256) : Gives (Builtin.«bytes.__contains__» ⟨[.bytes b t, .int i u], []⟩) (.val (.bool (b.contains i.toNat.toUInt8))) := by
 refine .of_wp fun M A E s Q hq => ?_
 have hlt : (decide (i < 0) || decide (i ≥ 256)) = false := by simp; omega
 show wpAny M A (Builtin.Bytes.containsIn "bytes.__contains__" (.bytes b t) (.int i u) >>= fun r => ret (.bool r)) _ E s
 refine wpAny_bind ?_
 unfold Builtin.Bytes.containsIn
 simp only [KBy.buffer_eq, pure_bind]
 obtain ⟨hp, g, d, tk, os⟩ := s
 refine wpAny_bind (wpAny_attempt ?_)
 refine wpAny_bind (wpAny_pure ?_)
 refine wpAny_pure ?_
 dsimp only
 rw [hlt, if_neg (by decide)]
 exact wpAny_pure (wpAny_pure ⟨_, rfl, hq⟩)
theorem slot_index : Slot "bytes" "index" "bytes.index" :=
 .of (owner := "bytes") (n := "index") (by rw [typeLookup_type, builtinLookup_eq_fast]; kernel_rfl) (by decide +kernel) (by decide +kernel) (by decide +kernel)
  (by first | exact .inl (by decide +kernel) | exact .inr (by decide +kernel)) (by rw [isSubtype_type]; kernel_rfl)
theorem type_index : typeOf (.builtin "bytes.index") = pure (.type "method_descriptor") := by show builtinType _ = _; rw [builtinType_eq_fast]; kernel_rfl
theorem entry_index : entryFor table "bytes.index" = some Builtin.«bytes.index» := entryFor_of_tree (by kernel_rfl)
theorem args_index (a b : Value) : argsOk "bytes.index" ⟨[a, b], []⟩ := by
 unfold argsOk; rw [signature?_of (id := "bytes.index") (n := ['x', 'e', 'd', 'n', 'i']) (o := ['s', 'e', 't', 'y', 'b']) (by kernel_rfl) FB.owner_bytes]; kernel_rfl
theorem int_noBuffer : typeLookup (.type "int") "__buffer__" = pure none := by rw [typeLookup_type, builtinLookup_eq_fast]; kernel_rfl
theorem buffer_int {id : String} {i : Int} {u : Tok} : Builtin.Bytes.buffer? id (.int i u) = pure none := by
 have h : specialOf (.int i u) "__buffer__" = pure none := by
  unfold specialOf
  rw [show typeOf (.int i u) = pure (.type "int") from rfl, pure_bind, int_noBuffer]
 unfold Builtin.Bytes.buffer?
 rw [h]; rfl
theorem gives_index (b : Array UInt8) (x : Int) (t u : Tok) (h0 : 0 ≤ x) (h1 : x < 256) (i : Nat) (hb : 1 ≤ b.size) (hf : Builtin.Bytes.find? b #[x.toNat.toUInt8] 0 b.size = some i) : Gives (Builtin.«bytes.index» ⟨[.bytes b t, .int x u], []⟩) (.int (i : Nat)) := by
 refine .of_wp fun M A E s Q hq => ?_
 have hlt : (decide (x < 0) || decide (x ≥ 256)) = false := by simp; omega
 show wpAny M A (Builtin.Bytes.searchArgs .bytes "index" ⟨[.bytes b t, .int x u], []⟩ >>= _) _ E s
 refine wpAny_bind ?_
 unfold Builtin.Bytes.searchArgs
 refine wpAny_bind (wpAny_pure (a := (Value.bytes b t, [Value.int x u])) ?_)
 refine wpAny_bind (wpAny_pure (a := (none : Option Int)) ?_)
 refine wpAny_bind (wpAny_pure (a := (none : Option Int)) ?_)
 simp only [List.headD_cons, buffer_int, pure_bind]
 have f1 : specialOf (.int x u) "__index__" = pure (some (.builtin "int.__index__")) := by
  unfold specialOf
  rw [show typeOf (.int x u) = pure (.type "int") from rfl, pure_bind, PySem.F.slot_int_index.lookup]
 rw [f1]
 simp only [pure_bind, Option.isNone_some, Bool.false_eq_true, if_false]
 refine wpAny_bind (wpAny_pure (a := x) ?_)
 rw [hlt, if_neg (by decide)]
 refine wpAny_bind (wpAny_pure (a := b) ?_)
 refine wpAny_pure ?_
 have hw : Builtin.Bytes.window b.size none none = (0, (b.size : Int)) := by
  simp only [Builtin.Bytes.window, Option.getD_none]
  refine Prod.ext (by simp) ?_
  show min (b.size : Int) (if (b.size : Int) < 0 then max 0 ((b.size : Int) + b.size) else (b.size : Int)) = b.size
  rw [if_neg (by omega)]; omega
 have hsz : ¬ ((b.size : Int) - 0 < ((#[x.toNat.toUInt8] : Array UInt8).size : Int)) := by
  show ¬ ((b.size : Int) - 0 < ((1 : Nat) : Int)); omega
 simp only [hw, if_neg hsz, Option.bind_some, Int.toNat_zero, Int.toNat_natCast, hf]
 exact wpAny_bind (wpAny_mkInt (wpAny_pure ⟨_, rfl, hq⟩))
end
section
variable {q : Bool} {n k i : Nat} {Γ : Gam} {md : Md} {pos p apos : Pos} {st s1 : AS} {X U W : V} {σ : List MO} {o e : Expr} {f g : EF} {l : List V} {cl : List Nat} {cv : V} {τ : List MO} {l' : List V} {cl' : List Nat} {cv' : V} {τ' : List MO} {x : Str}
theorem EvS.addL {a b : Int} (h1 : l[i]? = some (.int a)) (h2 : EvE f ⟨l, cl, cv, τ⟩ (.ok (.int b)) ⟨l', cl', cv', τ'⟩) : EvS (.addL i f) ⟨l, cl, cv, τ⟩ .next ⟨l'.set i (.int (a + b)), cl', cv', τ'⟩ := ⟨@fun κ κ κ κ D => D _ h1 h2⟩
theorem DenS.addL (D : Den q n Γ none e f) (hi : Γ.lns[i]? = some x) (hl : Γ.scope.names.lookup x = some .local) : DenS q n Γ (.AugAssign (.Name x p) .Add e pos) (.addL i f) := fun κ => fun ha h => .mk fun c ok Z Y as s S => by
 apply St.openE S; intro g m M hp tk Si R LO CO EO S'
 obtain ⟨v, hv, hvv⟩ := LO i x _ hi ha V.noConfusion
 refine wpAny_AugAssign_Name (wpAny_loadName_local ok.hk hl Si.F.ns hv ?_)
 clear hv; apply VV.int_inv hvv; intro t
 refine h.go D ok S' fun v Z₁ as₁ s₁ e₁ hv S₁ => ?_
 apply VV.int_inv hv; intro t'
 exact PyProof.Rows.iadd_int (store_loc ok hi hl (.pure (.int _ _)) (S₁.toks _) fun s' S'' => ⟨Z₁, as₁, e₁, S'', .next⟩)
theorem mul_ok : OpB (binaryOp .Mult) mulF := fun {c Γ md env q n v u X U st R Z Y as s Q E} ok h hv hu S k => by
 refine obind h fun xs h1 h => obind h fun x h2 h => ?_
 revert hv; apply V.intsE h1; intro hv
 revert hu; apply V.intE h2; intro hu
 apply St.openE S; intro g m M hp tk Si R' LO CO EO S'
 apply VV.ints_inv hv; intro a vs nn hat hvs
 apply VV.int_inv hu; intro t
 obtain ⟨news, N, cv⟩ := Si.NL
 have hl := hvs.length
 have mk : ∀ (ws : List Value) (ys : List Int), R = .ints ys -> IntsAre ws ys -> ∀ h', Fr g c.L h' m -> News g c.L h' ((hp.objs.size, listOf ws.toArray 0) :: news) -> Q (.ref hp.objs.size) { Ω.s₀ with heap := h', toks := tk } := fun ws ys hR hw h' F' N' =>
  k _ _ as _ Ext.add (hR ▸ .pure (.ints (n := 0) (.inl (.inr ⟨rfl, rfl⟩)) hw)) (new_fz Si R' LO CO EO cv F' N' (Si.fresh (Nat.le_refl _)).1)
 by_cases hx0 : x = 0
 ·rw [if_pos hx0] at h; subst hx0
  refine mul_list Si.F N (Si.at R' ok.gs hat) (by omega) (by omega) (by simp) fun h' F' N' => mk [] [] (Option.some.inj h).symm .nil h' F' ?_
  rwa [show List.foldl (fun x1 x2 : Array Value => x1 ++ x2) #[] (List.replicate (if vs.toArray.isEmpty = true then 0 else (0 : Int).toNat) vs.toArray) = ([] : List Value).toArray by split <;> rfl] at N'
 ·rw [if_neg hx0] at h
  refine oif h fun hx hR => ?_
  obtain ⟨rfl, hxl⟩ := hx
  refine mul_list Si.F N (Si.at R' ok.gs hat) (by omega) (by omega) (by simp; omega) fun h' F' N' => mk vs xs (Option.some.inj hR).symm hvs h' F' ?_
  rwa [show List.foldl (fun x1 x2 : Array Value => x1 ++ x2) #[] (List.replicate (if vs.toArray.isEmpty = true then 0 else (1 : Int).toNat) vs.toArray) = vs.toArray by
   cases vs with
   | nil => rfl
   | cons v vs => simp] at N'
theorem inL_ok : OpB (compareOp .In) inLF := fun {c Γ md env q n v u X U st R Z Y as s Q E} ok h hv hu S k => by
 refine obind h fun x h1 h => ?_
 obtain ⟨xs, h2, rfl⟩ := Option.map_eq_some_iff.mp h
 revert hv; apply V.intE h1; intro hv
 apply St.openE S; intro g m M hp tk Si R' LO CO EO S'
 apply rdI_inv Si R' ok.gs hu h2; intro a vs hli hvs
 apply VV.int_inv hv; intro t
 exact in_list_ints hli hvs (k _ Z as _ .refl (.pure (.bool _)) S')
theorem notInB_ok : OpB (compareOp .NotIn) notInB := fun {c Γ md env q n v u X U st R Z Y as s Q E} ok h hv hu S k => by
 refine obind h fun x h1 h => obind h fun b h2 h => oif h fun hx h => ?_
 revert hv; apply V.intE h1; intro hv
 revert hu; apply V.bytesE h2; intro hu
 revert k; apply osome h; intro k
 apply VV.int_inv hv; intro t
 apply VV.bytes_inv hu; intro u
 exact notIn_gives (typeIs_bytes s _ _) FB.slot_bytes_contains FB.entry_bytes_contains (FB.args_bytes_contains_2 _ _) (gives_contains _ _ _ _ hx.1 hx.2) (k _ Z as _ .refl (.pure (.bool _)) S)
theorem notInB_bool {R : V} (h : notInB σ X U = some R) : ∃ b, R = .bool b := obind h fun x h1 h => obind h fun b h2 h => oif h fun hx h => ⟨_, (Option.some.inj h).symm⟩
theorem inL_bool {R : V} (h : inLF σ X U = some R) : ∃ b, R = .bool b := obind h fun x h1 h => by apply omap h; exact fun κ κ => ⟨_, rfl⟩
theorem find_pos {b : Array UInt8} {y : UInt8} {i : Nat} (h : Builtin.Bytes.find? b #[y] 0 b.size = some i) : 1 ≤ b.size := by
 refine Nat.pos_of_ne_zero fun h0 => ?_
 cases Array.eq_empty_of_size_eq_zero h0
 simp [Builtin.Bytes.find?] at h
theorem Den.indexB (D : Den q n Γ md o f) (D' : Den q n Γ md e g) (hu : unstarred [e] = true) (hline : (apos.endLine == pos.line) = true) (hbase : ∀ env, attributeBase o "index" env (eval o env) = eval o env := by intro _; rfl) :
  Den q n Γ md (.Call (.Attribute o "index" apos) [e] [] pos) (.indexB f g) := fun κ {κ κ b x i} h1 h2 hx hi => .mk fun c env ok Z Y as s S => by
 refine meth_b FB.plainAttrs_bytes slot_index type_index hu (by show 1 < 20; decide) hline (hbase env) (h1.go D ok S fun v Z₁ as₁ s₁ e₁ hv S₁ => ?_)
 apply VV.bytes_inv hv; intro t
 refine ⟨typeIs_bytes _ _ _, (fun a e => nomatch e), (EvL.cons h2 .nil).go (.cons D' .nil) hu ok S₁ fun vs Z₂ as₂ s₂ e₂ hvs S₂ => ?_⟩
 apply hvs.one; intro v hv
 apply VV.int_inv hv; intro u
 exact call_gives slot_index (typeIs_bytes _ _ _) entry_index (args_index _ _) (gives_index b x t u hx.1 hx.2.1 i (find_pos hi) hi) ⟨_, Z₂, as₂, rfl, e₁.trans e₂, .pure (.int _ _), S₂.toks _⟩
end
noncomputable abbrev ByteAt (b : Array UInt8) (i : Nat) (v : Value) : Prop := ∃ c u, b[i]? = some c ∧ v = .int (c.toNat : Int) u
section
variable {w : World} {A : Around} {E : Value -> Shared -> Prop} {s : Shared}
theorem extend_bytes {R : Result -> Shared -> Prop} (hh : A.handled = none) (x : Array UInt8) (t : Tok) (S : Addr) (res : Value) (c₀ : Nat) (hS : s.heap.get? S = some { cls := .type "list", data := .seq #[] c₀ })
  (hR : ∀ h' tk acc' c', (∀ b o, b ≠ S -> s.heap.get? b = some o -> h'.get? b = some o) -> h'.get? S = some { cls := .type "list", dict := none, data := .seq acc' c', slots := #[] } ->
   ItemsOf (ByteAt x) acc' x.size -> R (.ok (.ret res)) { s with heap := h', toks := tk }) (hn : x.size ≤ sizeLine) :
  wpAny (model prg w) A.in1 (Builtin.List.listExtendWith (.ref S) (.bytes x t) res)
   (fun fin s' => match fin with | .done f => R (.ok f) s' | .again c' => c'.quiet = true ∧ codeAny (model prg w) A c' R s') (fun e s' => R (.error e) s') s := by
 have hSI : S ≠ s.heap.objs.size := Nat.ne_of_lt (Heap.lt_size hS)
 have hSf : S ∉ [s.heap.objs.size] := fun hm => hSI (List.mem_singleton.mp hm)
 unfold Builtin.List.listExtendWith
 refine wpAny_bind (wpAny_typeOf (T := "bytes") (v := .bytes x t) rfl ?_)
 have h1 : Builtin.List.listSameRef (.ref S) (.bytes x t) = false := rfl
 have h2 : (Value.type "bytes" == Value.type "list") = false := by decide
 have h3 : (Value.type "bytes" == Value.type "tuple") = false := by decide
 simp only [h1, h2, h3, Bool.or_false, Bool.false_eq_true, if_false]
 refine wpAny_bind (KBw.pyIter_bytes ?_)
 refine wpAny_bind (wpAny_holding ?_)
 unfold Builtin.List.listLengthHint
 refine wpAny_bind (wpAny_specialOf (T := "bytes") (v := .bytes x t) rfl FB.slot_bytes_len.lookup ?_)
 wp_delta
 refine wpAny_bind (wpAny_isInstance (T := "bytes") (v := .bytes x t) (b := true) rfl (by rw [isSubtype_type]; kernel_rfl) ?_)
 show wpAny _ _ (typeOf (Value.bytes x t) >>= _) _ _ _
 refine wpAny_bind (wpAny_typeOf (T := "bytes") (v := .bytes x t) rfl ?_)
 refine wpAny_pure ?_
 rw [if_neg (by decide)]
 refine wpAny_pure ⟨plainId_quiet PySem.F.plain_extend_loop _, codeAny_extend_loopS (KBw.walks (A := A.in1) hh s.heap.objs.size x t).toS hn _ hSf _ x.size 0 _ _ _ rfl (Nat.zero_le _) ⟨_, Heap.get?_push_size _ rfl, rfl, rfl⟩ (Heap.get?_push_of_some _ hS) (ItemsOf.nil _) fun s' acc' c' hm hS' hacc => ?_⟩
 rw [Moved.eq_with hm]
 refine hR s'.heap s'.toks acc' c' (fun b ob hb e => hm.heap b ob (fun hmem => ?_) (Heap.get?_push_of_some _ e)) hS' hacc
 rcases List.mem_cons.mp hmem with e' | hmem
 ·exact hb e'
 ·exact absurd (Heap.lt_size e) (by rw [List.mem_singleton.mp hmem]; exact Nat.lt_irrefl _)
theorem init_bytes {R : Result -> Shared -> Prop} (hh : A.handled = none) (x : Array UInt8) (t : Tok) (S : Addr) (hS : s.heap.get? S = some { cls := .type "list", data := .seq #[] })
  (hR : ∀ h' tk acc' c', (∀ b o, b ≠ S -> s.heap.get? b = some o -> h'.get? b = some o) -> h'.get? S = some { cls := .type "list", dict := none, data := .seq acc' c', slots := #[] } ->
   ItemsOf (ByteAt x) acc' x.size -> R (.ok (.ret .none)) { s with heap := h', toks := tk }) (hn : x.size ≤ sizeLine) :
  wpAny (model prg w) A.in1 (Builtin.«list.__init__» ⟨[.ref S, .bytes x t], []⟩)
   (fun fin s' => match fin with | .done f => R (.ok f) s' | .again c' => c'.quiet = true ∧ codeAny (model prg w) A c' R s') (fun e s' => R (.error e) s') s := by
 show wpAny _ _ (do let old ← Builtin.List.listItems (.ref S); Builtin.List.listUpdate (.ref S) (fun κ => #[]); letGo old.toList.reverse; Builtin.List.listExtendWith (.ref S) (.bytes x t) .none) _ _ s
 refine wpAny_bind ?_
 unfold Builtin.List.listItems
 refine wpAny_bind (wpAny_seqItems hS rfl (wpAny_pure ?_))
 show wpAny _ _ (updateSeq S (fun κ => #[]) >>= fun κ => letGo (#[] : Array Value).toList.reverse >>= fun κ => Builtin.List.listExtendWith (.ref S) (.bytes x t) .none) _ _ s
 refine wpAny_bind (wpAny_updateSeq hS rfl ?_)
 have hS₂ := Heap.get?_update_self (Obj.mapSeq (fun κ => (#[] : Array Value))) hS rfl
 have oth : ∀ b o, b ≠ S -> s.heap.get? b = some o -> (s.heap.update S (Obj.mapSeq (fun κ => (#[] : Array Value)))).get? b = some o :=
  fun b o hb e => (Heap.get?_update_other _ _ (Ne.symm hb)).trans e
 refine wpAny_bind (wpAny_letGo ?_)
 refine extend_bytes hh x t S .none _ hS₂ (fun h' tk acc' c' hk hS' hacc => ?_) hn
 exact hR h' tk acc' c' (fun b o hb e => hk b o hb (oth b o hb e)) hS' hacc
theorem list_bytes {Q : Value -> Shared -> Prop} (hh : A.handled = none) (x : Array UInt8) (t : Tok)
  (hQ : ∀ h' tk acc' c', (∀ b o, s.heap.get? b = some o -> h'.get? b = some o) ->
   h'.get? s.heap.objs.size = some { cls := .type "list", dict := none, data := .seq acc' c', slots := #[] } -> ItemsOf (ByteAt x) acc' x.size -> Q (.ref s.heap.objs.size) { s with heap := h', toks := tk }) (hn : x.size ≤ sizeLine) :
  wpAny (model prg w) A (call (.type "list") [.bytes x t]) Q E s := by
 refine callType_codes (Q₁ := fun obj s₁ => obj = .ref s.heap.objs.size ∧ s₁ = { s with heap := s.heap.push { cls := .type "list", data := .seq #[] } }) PySem.F.called_list (PySem.F.typeCall_list_1 _) PySem.F.entry_list_init
  (code_list_new _ ⟨rfl, rfl⟩) fun obj s₁ h₁ => ?_
 obtain ⟨rfl, rfl⟩ := h₁
 have hS : (s.heap.push { cls := .type "list", data := .seq #[] }).get? s.heap.objs.size = some { cls := .type "list", data := .seq #[] } := Heap.get?_push_size _ rfl
 refine ⟨⟨_, hS, rfl⟩, PySem.F.args_list_init_2 _ _, init_bytes (A := A.in1) hh x t _ hS (fun h' tk acc' c' hk hS' hacc => ?_) hn⟩
 exact ⟨rfl, hQ h' tk acc' c' (fun b o e => hk b o (Nat.ne_of_lt (Heap.lt_size e)) (Heap.get?_push_of_some _ e)) hS' hacc⟩
end
section
variable {q : Bool} {n k : Nat} {Γ : Gam} {md : Md} {pos p : Pos} {Z : Fz} {Y : Led} {as : List Addr} {st : AS} {c : Cx} {env : Env} {s : Shared} {e : Expr} {f : EF}
theorem ints_of : ∀ {vs : List Value} {ns : List Int}, vs.length = ns.length -> (∀ (j : Nat) v, vs[j]? = some v -> ∃ u n, ns[j]? = some n ∧ v = .int n u) -> IntsAre vs ns
 | [], [], _, _ => .nil
 | v :: vs, n :: ns, hl, h => by
  obtain ⟨u, n', e1, rfl⟩ := h 0 v rfl
  cases e1
  exact .cons n u (ints_of (Nat.succ.inj hl) fun j v hj => h (j + 1) v hj)
theorem St.addF {a : Addr} {o : Obj} {h' : Heap} (S : St c Γ md env Z Y as st s) (tk : Tok) (hb : s.heap.objs.size ≤ a) (ho : h'.get? a = some o) (hk : ∀ b o, s.heap.get? b = some o -> h'.get? b = some o) :
  St c Γ md env (fun b p => Z b p ∨ (b = a ∧ p = o)) Y as st { s with heap := h', toks := tk } := by
 obtain ⟨g, m, M, h, tk, rfl, Si, R, LO, CO, EO⟩ := S
 have fr := Si.fresh hb
 exact ⟨g, m, _, _, _, rfl, Si.add (t := .fz) hb ho hk, R.addZ fr.1, LO.mono Ext.add, CO, EO.mono Ext.add⟩
theorem bytes_ints (b : Array UInt8) (acc : Array Value) (h : ItemsOf (ByteAt b) acc b.size) : IntsAre acc.toList (b.toList.map fun c => (c.toNat : Int)) := by
 refine ints_of (by simp [h.1]) fun j v hj => ?_
 obtain ⟨c, u, e1, rfl⟩ := h.2 j v (by simpa using hj)
 exact ⟨u, _, by rw [List.getElem?_map]; simp [e1], rfl⟩
noncomputable abbrev EF.lstB (f : EF) : EF := .on1 listB f
theorem Den.lstB (Df : Den true n Γ md (.Name "list" p) (.val (.val (.type "list")))) (D : Den true n Γ md e f) (hu : unstarred [e] = true) : Den true n Γ md (.Call (.Name "list" p) [e] [] pos) (.lstB f) := fun κ => fun h hF => .mk fun c env ok Z Y as s S => call_1 rfl Df D hu h ok S fun v Z₁ as₁ s₁ e₁ hv S₁ => by
 refine obind hF fun b hb hF => oif hF fun hl hF => ?_
 revert hv; apply V.bytesE hb; intro hv
 apply VV.bytes_inv hv; intro t
 exact list_bytes (ok.hh rfl) b _ (fun h' tk acc' c' hk hg hi => ⟨_, _, as₁, (congrArg Out.ok (Option.some.inj hF)).symm, e₁.trans .add, .pure (.ints (vs := acc'.toList) (n := c') (.inl (.inr ⟨rfl, by rw [Array.toArray_toList]⟩)) (bytes_ints b acc' hi)), S₁.addF (h' := h') tk (Nat.le_refl _) hg hk⟩) (sl (Nat.le_trans hl (by decide)))
end
noncomputable def ins (x : Int) : List Int -> List Int
 | [] => [x]
 | y :: r => if x ≤ y then x :: y :: r else y :: ins x r
noncomputable def isort : List Int -> List Int
 | [] => []
 | x :: r => ins x (isort r)
theorem ins_perm (x : Int) : ∀ l, (ins x l).Perm (x :: l)
 | [] => .refl _
 | y :: r => by
  unfold ins
  split
  ·exact .refl _
  ·exact ((ins_perm x r).cons y).trans (.swap x y r)
theorem isort_perm : ∀ l, (isort l).Perm l
 | [] => .refl _
 | x :: r => (ins_perm x _).trans ((isort_perm r).cons x)
theorem ins_sorted (x : Int) : ∀ {l : List Int}, l.Pairwise (· ≤ ·) -> (ins x l).Pairwise (· ≤ ·)
 | [], _ => by simp [ins]
 | y :: r, h => by
  rw [List.pairwise_cons] at h
  unfold ins
  split
  ·rename_i hxy
   rw [List.pairwise_cons, List.pairwise_cons]
   exact ⟨fun z hz => by rcases List.mem_cons.mp hz with rfl | hz; exact hxy; exact Int.le_trans hxy (h.1 z hz), h⟩
  ·rename_i hxy
   rw [List.pairwise_cons]
   refine ⟨fun z hz => ?_, ins_sorted x h.2⟩
   rcases List.mem_cons.mp ((ins_perm x r).mem_iff.mp hz) with rfl | hz
   ·omega
   ·exact h.1 z hz
theorem isort_sorted : ∀ l : List Int, (isort l).Pairwise (· ≤ ·)
 | [] => .nil
 | x :: r => ins_sorted x (isort_sorted r)
noncomputable def sortK (X : V) : Option V := (X.dict?).bind fun kvs => if kvs.length < 64 then some (.ints (isort (kvs.map (·.1)))) else none
noncomputable abbrev EF.sorted (f : EF) : EF := .on1 sortK f
section
variable {q : Bool} {n k : Nat} {Γ : Gam} {md : Md} {pos p : Pos} {Z : Fz} {e : Expr} {f : EF}
theorem DRs.keys {kvs : List (Int × Value)} {xs : List (Int × V)} (h : DRs Z kvs xs) : kvs.map (·.1) = xs.map (·.1) := by
 induction kvs generalizing xs with
 | nil => cases h; rfl
 | cons p r ih => cases h with | cons a b => rw [List.map_cons, List.map_cons, ih b]
theorem Den.sorted (Df : Den true n Γ md (.Name "sorted" p) (.val (.val (.builtin "sorted")))) (D : Den true n Γ md e f) (hu : unstarred [e] = true) : Den true n Γ md (.Call (.Name "sorted" p) [e] [] pos) (.sorted f) := fun κ => fun h hF => .mk fun c env ok Z Y as s S => call_1 rfl Df D hu h ok S fun v Z₁ as₁ s₁ e₁ hv S₁ => by
 refine obind hF fun xs hx hF => oif hF fun hlen hF => ?_
 revert hv; apply V.dictE hx; intro hv
 apply St.openE S₁; intro g m M hp tk Si R LO CO EO S'
 apply VV.dict_inv hv; intro a o kvs hsm hat hd hdr
 obtain ⟨ep, hda⟩ := (hd.at (Si.at R ok.gs hat)).dictAt
 obtain ⟨news, N, cv⟩ := Si.NL
 have hkl := hdr.length
 refine kdu_sorted (kdl_dict (knd := intKind prg Ω.w) (kvs := kvs) (ep := ep) hsm) (ok.hh rfl) Si.F N hda (sl (by omega)) fun B h' tk' vs F' N' lt hl hP => ?_
 have hI : IntsAre vs (kvs.map (·.1)) := ints_of (by rw [hl, List.length_map]) fun j v hj => by
  obtain ⟨k, x, h1, h2⟩ := hP j v hj
  obtain ⟨t, rfl⟩ := Value.isInt_shape h2
  exact ⟨t, k, by rw [List.getElem?_map, h1]; rfl, rfl⟩
 refine ksk_lsort (D := B) (its := vs.toArray) (n := 0) (news' := fun o => (B, o) :: news) F' N' (fun o => .head fun p hp e => Nat.lt_irrefl _ (Nat.lt_of_lt_of_eq (lt p hp) e.symm)) (by simp) hI (by rw [List.length_map, hkl]; exact hlen) fun vs' ns' cc h'' F'' N'' hI' hl' hp' hs' κ => ?_
 have e : ns' = isort (xs.map (·.1)) := by
  rw [← hdr.keys]
  exact List.Perm.eq_of_pairwise (fun a b κ κ h1 h2 => Int.le_antisymm h1 h2) hs' (isort_sorted _) (hp'.trans (isort_perm _).symm)
 exact ⟨_, _, as₁, (congrArg Out.ok (Option.some.inj hF)).symm, e₁.trans .add, .pure (.ints (vs := vs') (n := cc) (.inl (.inr ⟨rfl, rfl⟩)) (e ▸ hI')), new_fz Si R LO CO EO cv F'' N'' (Sit.none_of cv lt)⟩
noncomputable def EF.binX (F : F2) (f g : EF) : EF := fun q n Γ md t e => EF.bin F f g q n Γ md t e ∧ ∀ st, ∀ {s1 C X}, EvE f st (.exn C X) s1 -> Ev q n Γ md t e st (.exn C X) s1
theorem EvE.binX {F : F2} {f g : EF} {st s1 s2 : AS} {X U W : V} (h1 : EvE f st (.ok X) s1) (h2 : EvE g s1 (.ok U) s2) (h3 : F s2.sto X U = some W) : EvE (.binX F f g) st (.ok W) s2 := ⟨@fun κ κ κ κ κ κ D => D.1 _ h1 h2 h3⟩
theorem EvE.binXX {F : F2} {f g : EF} {st s1 : AS} {C : Addr} {X : V} (h1 : EvE f st (.exn C X) s1) : EvE (.binX F f g) st (.exn C X) s1 := ⟨@fun κ κ κ κ κ κ D => D.2 _ h1⟩
theorem Den.cmpX {op : CmpOp} {F : F2} {e' : Expr} {g : EF} (D : Den q n Γ md e f) (D' : Den q n Γ md e' g) (O : OpB (compareOp op) F) (hm : behindInMarks op e' = false := by with_unfolding_all rfl) : Den q n Γ md (.Compare e [op] [e'] pos) (.binX F f g) :=
 ⟨Den.cmp D D' O hm, fun κ => fun h => .mk fun c env ok Z Y as s S => wpAny_Compare1 (h.goX D ok S) hm⟩
theorem DenT.fail : DenT q n Γ md e .fail := trivial
theorem Den.fail : Den q n Γ md e .fail := trivial
end
theorem b_len : bootBuiltins "len" = some (.builtin "len") := by kernel_rfl
theorem b_ord : bootBuiltins "ord" = some (.builtin "ord") := by kernel_rfl
theorem b_list : bootBuiltins "list" = some (.type "list") := by kernel_rfl
theorem b_int : bootBuiltins "int" = some (.type "int") := by kernel_rfl
theorem b_sorted : bootBuiltins "sorted" = some (.builtin "sorted") := by kernel_rfl
theorem b_range : bootBuiltins "range" = some (.type "range") := by kernel_rfl
theorem b_zip : bootBuiltins "zip" = some (.type "zip") := by kernel_rfl
theorem b_enumerate : bootBuiltins "enumerate" = some (.type "enumerate") := by kernel_rfl
theorem Den.newScanK {n k : Nat} {Γ : Gam} {md : Md} {p pos : Pos} {x : Str} {fI : Addr} {F : CF} {e : Expr} {f : EF} (Df : Den true n Γ md (.Name x p) (.val (.val (.ref csc)))) (D : Den true n Γ md e f) (HF : Fun k fI F) (hm : NewK Ω.K csc fI) (hk : k < n) (hu : unstarred [e] = true) :
  Den true n Γ md (.Call (.Name x p) [e] [] pos) (.newScan F f) :=
 Den.newScan Df D HF hk hm.keep hu hm.m hm.i hm.fn
noncomputable def rowV (x : Int × List UInt8 × List Int) : V := .tup [.int x.1, .bytes x.2.1.toArray, .ints x.2.2]
theorem isInts_ok {vs : List Value} : ∀ {ns : List Int}, isInts vs ns = true -> IntsAre vs ns := by
 induction vs with
 | nil =>
  intro ns h
  cases ns with
  | nil => exact .nil
  | cons n ns => cases h
 | cons v vs ih =>
  intro ns h
  cases ns with
  | nil => cases h
  | cons n ns =>
   have h1 := Bool.and_eq_true_iff.mp h
   have h2 := Bool.and_eq_true_iff.mp h1.2
   have h3 := Value.isInt_shape h2.1
   refine h3.elim fun t e => ?_
   rw [show v = .int n t from e]
   exact .cons n t (ih (Bool.and_eq_true_iff.mpr ⟨by simpa using h1.1, h2.2⟩))
theorem ents_ok {Z : Fz} {es : List DictEntry} : ∀ {l : List (Int × Int)}, isEnts es l = true -> ∃ kvs : List (Int × Value), (∀ e ∈ es, ∃ k, (intKind prg Ω.w).is k e.key = true ∧ e.hash = (intKind prg Ω.w).hash k) ∧ Pairs (intKind prg Ω.w) es kvs ∧ kvs.map (·.1) = l.map (·.1) ∧ DRs Z kvs (l.map fun x => (x.1, .int x.2)) := by
 induction es with
 | nil =>
  intro l h
  cases l with
  | nil => exact ⟨[], (fun e he => nomatch he), .nil, rfl, .nil⟩
  | cons n ns => cases h
 | cons e r ih =>
  intro l h
  cases l with
  | nil => cases h
  | cons x l =>
   have h1 := Bool.and_eq_true_iff.mp h
   have h2 := Bool.and_eq_true_iff.mp h1.2
   have h3 := Bool.and_eq_true_iff.mp h2.1
   have h4 := Bool.and_eq_true_iff.mp h3.2
   obtain ⟨kvs, q1, q2, q3, q4⟩ := ih (l := l) (Bool.and_eq_true_iff.mpr ⟨by simpa using h1.1, h2.2⟩)
   obtain ⟨t, ev⟩ := Value.isInt_shape h4.1
   refine ⟨(x.1, e.val) :: kvs, List.forall_mem_cons.mpr ⟨⟨x.1, h3.1, of_decide_eq_true h4.2⟩, q1⟩, .cons h3.1 rfl q2, by rw [List.map_cons, List.map_cons, q3], .cons ?_ q4⟩
   rw [show e.val = .int x.2 t from ev]
   exact .int _ t
section
variable (H : HC)
include H
theorem tupTab {Z : Fz} {a : Addr} {ns : List Int} (h : SeqF "tuple" Ω.K a ns) : VR Z (.ref a) (.tup (ns.map .int)) :=
 h.elim fun vs h => h.elim fun n h => .tup (.inr (H.KX _ _ h.1)) (.ints (isInts_ok h.2))
theorem lstTab {Z : Fz} {a : Addr} {ns : List Int} (h : SeqF "list" Ω.K a ns) : VR Z (.ref a) (.ints ns) :=
 h.elim fun vs h => h.elim fun n h => .ints (.inr (H.KX _ _ h.1)) (isInts_ok h.2)
theorem dictTab {Z : Fz} {a : Addr} {l : List (Int × Int)} (ha : (a == sysModules) = false) (hn : (l.map (·.1)).Nodup) (h : DictF Ω.K a l) : VR Z (.ref a) (.dict (l.map fun x => (x.1, .int x.2))) := by
 obtain ⟨es, n, h1, h2⟩ := h
 obtain ⟨kvs, q1, q2, q3, q4⟩ := ents_ok (Z := Z) h2
 exact .dict ha (.inr (H.KX _ _ h1)) ⟨_, _, ⟨rfl, rfl, rfl⟩, rfl, fun e he => q1 e (Array.mem_toList_iff.mpr he), q2, by rw [q3]; exact hn⟩ q4
theorem row_ok {Z : Fz} {z : Value × (Int × List UInt8 × List Int)} (h : RowF Ω.K z) : VR Z z.1 (rowV z.2) := by
 obtain ⟨a, t, u, l, n, e, h1, h2⟩ := h
 rw [e]
 exact .tup (.inr (H.KX _ _ h1)) (.cons (.int _ t) (.cons (.bytes _ u) (.cons (lstTab H h2) .nil)))
theorem rows_ok {Z : Fz} {vs : List Value} : ∀ {xs : List (Int × List UInt8 × List Int)}, vs.length = xs.length -> All (RowF Ω.K) (vs.zip xs) -> VRs Z vs (xs.map rowV) := by
 induction vs with
 | nil =>
  intro xs e h
  cases xs with
  | nil => exact .nil
  | cons x xs => cases e
 | cons v r ih =>
  intro xs e h
  cases xs with
  | nil => cases e
  | cons x xs => exact .cons (row_ok H h.1) (ih (Nat.succ.inj e) h.2)
theorem rowsTab {Z : Fz} {a : Addr} {xs : List (Int × List UInt8 × List Int)} (h : RowsF Ω.K a xs) : VR Z (.ref a) (.lst (xs.map rowV)) :=
 h.elim fun vs h => h.elim fun n h => .lst (.inr (H.KX _ _ h.1)) (rows_ok H h.2.1 h.2.2)
noncomputable def v_ESCAPE_BLANKS : V := .tup ([32, 9, 10, 12, 13].map .int)
noncomputable def v_ESCAPE_RUST_BLANKS : V := .tup ([32, 9, 10, 13].map .int)
noncomputable def v_ESCAPE_C_NAMED : V := .tup ([36, 64, 96].map .int)
noncomputable def v_ESCAPE_JSON : V := .dict (l_ESCAPE_JSON.map fun x => (x.1, .int x.2))
noncomputable def v_ESCAPE_PYTHON : V := .dict (l_ESCAPE_PYTHON.map fun x => (x.1, .int x.2))
noncomputable def v_ESCAPE_RUST : V := .dict (l_ESCAPE_RUST.map fun x => (x.1, .int x.2))
noncomputable def v__law_pool : V := .ints lawPool
noncomputable def v__law_signs : V := .ints lawSigns
noncomputable def v__law_rows : V := .lst (lawRows.map rowV)
noncomputable def v_HEX_DIGITS : V := .bytes #[48, 49, 50, 51, 52, 53, 54, 55, 56, 57, 65, 66, 67, 68, 69, 70]
theorem r_ESCAPE_BLANKS (Z : Fz) : VR Z (.ref 107) v_ESCAPE_BLANKS := tupTab H H.KK.t_ESCAPE_BLANKS
theorem r_ESCAPE_RUST_BLANKS (Z : Fz) : VR Z (.ref 108) v_ESCAPE_RUST_BLANKS := tupTab H H.KK.t_ESCAPE_RUST_BLANKS
theorem r_ESCAPE_C_NAMED (Z : Fz) : VR Z (.ref 114) v_ESCAPE_C_NAMED := tupTab H H.KK.t_ESCAPE_C_NAMED
theorem r_ESCAPE_JSON (Z : Fz) : VR Z (.ref 111) v_ESCAPE_JSON := dictTab H (by decide) (by decide) H.KK.t_ESCAPE_JSON
theorem r_ESCAPE_PYTHON (Z : Fz) : VR Z (.ref 112) v_ESCAPE_PYTHON := dictTab H (by decide) (by decide) H.KK.t_ESCAPE_PYTHON
theorem r_ESCAPE_RUST (Z : Fz) : VR Z (.ref 113) v_ESCAPE_RUST := dictTab H (by decide) (by decide) H.KK.t_ESCAPE_RUST
theorem r__law_pool (Z : Fz) : VR Z (.ref 422) v__law_pool := lstTab H H.KK.t__law_pool
theorem r__law_signs (Z : Fz) : VR Z (.ref 423) v__law_signs := lstTab H H.KK.t__law_signs
theorem r__law_rows (Z : Fz) : VR Z (.ref 434) v__law_rows := rowsTab H (xs := lawRows) H.KK.t__law_rows
theorem r_HEX_DIGITS (Z : Fz) : VR Z (.bytes #[48, 49, 50, 51, 52, 53, 54, 55, 56, 57, 65, 66, 67, 68, 69, 70] 203) v_HEX_DIGITS := .bytes _ _
end
section
variable (H : HC)
include H
noncomputable def f_is_code : SF := (.seq (.retK (.chain .LtE .LtE (.val (.int 0)) (.loc 0) (.val (.int 1114111)))) .nop)
noncomputable def c_is_code : CF := runF false 1 0 [] f_is_code
theorem D_is_code : DenB true 1 (gm 0) (bd 0) f_is_code :=
 (.cons (.retK (.chain .cint (.loc rfl rfl) (.glo (H.g 1) (fun Z => .int _ _) rfl))) .nil)
theorem F_is_code : Fun 1 66 c_is_code :=
 H.F 0 (D_is_code H)
noncomputable def f_is_high : SF := (.seq (.retK (.chain .LtE .LtE (.val (.int 55296)) (.loc 0) (.val (.int 56319)))) .nop)
noncomputable def c_is_high : CF := runF false 1 0 [] f_is_high
theorem D_is_high : DenB true 1 (gm 1) (bd 1) f_is_high :=
 (.cons (.retK (.chain (.glo (H.g 2) (fun Z => .int _ _) rfl) (.loc rfl rfl) (.glo (H.g 3) (fun Z => .int _ _) rfl))) .nil)
theorem F_is_high : Fun 1 73 c_is_high :=
 H.F 1 (D_is_high H)
noncomputable def f_is_low : SF := (.seq (.retK (.chain .LtE .LtE (.val (.int 56320)) (.loc 0) (.val (.int 57343)))) .nop)
noncomputable def c_is_low : CF := runF false 1 0 [] f_is_low
theorem D_is_low : DenB true 1 (gm 2) (bd 2) f_is_low :=
 (.cons (.retK (.chain (.glo (H.g 4) (fun Z => .int _ _) rfl) (.loc rfl rfl) (.glo (H.g 5) (fun Z => .int _ _) rfl))) .nil)
theorem F_is_low : Fun 1 80 c_is_low :=
 H.F 2 (D_is_low H)
noncomputable def f_is_surrogate : SF := (.seq (.retK (.chain .LtE .LtE (.val (.int 55296)) (.loc 0) (.val (.int 57343)))) .nop)
noncomputable def c_is_surrogate : CF := runF false 1 0 [] f_is_surrogate
theorem D_is_surrogate : DenB true 1 (gm 3) (bd 3) f_is_surrogate :=
 (.cons (.retK (.chain (.glo (H.g 2) (fun Z => .int _ _) rfl) (.loc rfl rfl) (.glo (H.g 5) (fun Z => .int _ _) rfl))) .nil)
theorem F_is_surrogate : Fun 1 87 c_is_surrogate :=
 H.F 3 (D_is_surrogate H)
noncomputable def f_is_scalar : SF := (.seq (.retK (.and2 (.call c_is_code [(.loc 0)]) (.not (.call c_is_surrogate [(.loc 0)])))) .nop)
noncomputable def c_is_scalar : CF := runF false 1 0 [] f_is_scalar
theorem D_is_scalar : DenB true 2 (gm 4) (bd 4) f_is_scalar :=
 (.cons (.retK (.and2 (.call (.glo (H.g 11) (fun Z => .val _) rfl) (.cons (.loc rfl rfl) .nil) (F_is_code H) (by decide) (H.fn 0).keep rfl) (.not (.call (.glo (H.g 14) (fun Z => .val _) rfl) (.cons (.loc rfl rfl) .nil) (F_is_surrogate H) (by decide) (H.fn 3).keep rfl)))) .nil)
theorem F_is_scalar : Fun 2 94 c_is_scalar :=
 H.F 4 (D_is_scalar H)
noncomputable def f_check_scalars : SF := (.seq (.for (nameW (.l 1) (.ofE (.loc 0))) (.seq (.ite (.not (.tru (.call c_is_scalar [(.loc 1)]))) (.seq (.raise 57 (.loc 1)) .nop) .nop) .nop)) .nop)
noncomputable def c_check_scalars : CF := runF false 1 1 [] f_check_scalars
theorem D_check_scalars : DenB true 3 (gm 5) (bd 5) f_check_scalars :=
 (.cons (.for (.name (.ofE (.loc rfl rfl)) (.l rfl rfl)) (.cons (.ite (.not (.of (.call (.glo (H.g 15) (fun Z => .val _) rfl) (.cons (.loc rfl rfl) .nil) (F_is_scalar H) (by decide) (H.fn 4).keep rfl))) (.cons (.raise H.KK.ik_BadCode H.KK.if_ (.glo (H.g 63) (fun Z => .val _) rfl) (.loc rfl rfl) rfl) .nil) .nil) .nil)) .nil)
theorem F_check_scalars : Fun 3 101 c_check_scalars :=
 H.F 5 (D_check_scalars H)
noncomputable def f_codes_of : SF := (.seq (.retK (.comp (.ofE (.loc 0)) (.val (.bool true)) (.ord .cv))) .nop)
noncomputable def c_codes_of : CF := runF false 1 0 [] f_codes_of
theorem D_codes_of : DenB true 1 (gm 6) (bd 6) f_codes_of :=
 (.cons (.retK (.comp (.ofE (.loc rfl rfl)) .nil (.ord (.bltC (H.g 77) b_ord (by decide) rfl rfl) (.cvar rfl rfl) rfl) ⟨by decide +kernel, by rfl, by decide +kernel, by rfl, by decide +kernel⟩)) .nil)
theorem F_codes_of : Fun 1 106 c_codes_of :=
 H.F 6 (D_codes_of H)
noncomputable def f_escape_digit : SF := (.seq (.ite (.chain .LtE .LtE (.val (.int 48)) (.loc 0) (.val (.int 57))) (.seq (.retK (.bin (binF .Sub) (.loc 0) (.val (.int 48)))) .nop) .nop) (.seq (.ite (.chain .LtE .LtE (.val (.int 65)) (.loc 0) (.val (.int 70))) (.seq (.retK (.bin (binF .Sub) (.loc 0) (.val (.int 55)))) .nop) .nop) (.seq (.ite (.chain .LtE .LtE (.val (.int 97)) (.loc 0) (.val (.int 102))) (.seq (.retK (.bin (binF .Sub) (.loc 0) (.val (.int 87)))) .nop) .nop) (.seq (.retK (.val .none)) .nop))))
noncomputable def c_escape_digit : CF := runF false 1 0 [] f_escape_digit
theorem D_escape_digit : DenB true 1 (gm 7) (bd 7) f_escape_digit :=
 (.cons (.ite (.chain .cint (.loc rfl rfl) .cint) (.cons (.retK (.op (.loc rfl rfl) .cint)) .nil) .nil) (.cons (.ite (.chain .cint (.loc rfl rfl) .cint) (.cons (.retK (.op (.loc rfl rfl) .cint)) .nil) .nil) (.cons (.ite (.chain .cint (.loc rfl rfl) .cint) (.cons (.retK (.op (.loc rfl rfl) .cint)) .nil) .nil) (.cons (.retK .cnone) .nil))))
theorem F_escape_digit : Fun 1 121 c_escape_digit :=
 H.F 7 (D_escape_digit H)
noncomputable def f_escape_digits : SF := (.seq (.setL 3 .newL) (.seq (.wh (.orL [(.bin (cmpF .Gt) (.loc 0) (.val (.int 0))), (.bin (cmpF .Lt) (.len (.loc 3)) (.loc 2))]) (.seq (.exp (.append (.loc 3) (.bin subF (.val v_HEX_DIGITS) (.bin (binF .Mod) (.loc 0) (.loc 1))))) (.seq (.fdivL 0 (.loc 1)) .nop))) (.seq (.retK (.rev (.loc 3))) .nop)))
noncomputable def c_escape_digits : CF := runF false 3 1 [] f_escape_digits
theorem D_escape_digits : DenB true 1 (gm 8) (bd 8) f_escape_digits :=
 (.cons (.setL .newL rfl rfl) (.cons (.wh (.or (.cons (.cm (.loc rfl rfl) .cint) (.cons (.cm (.len (.blt (H.g 0) b_len (by decide) rfl) (.loc rfl rfl) rfl) (.loc rfl rfl)) .nil))) (.cons (.exp (.append (.loc rfl rfl) (.sub (.glo (H.g 76) (fun Z => r_HEX_DIGITS H Z) rfl) (.op (.loc rfl rfl) (.loc rfl rfl))) rfl rfl)) (.cons (.fdivL (.loc rfl rfl) rfl rfl) .nil))) (.cons (.retK (.rev (.loc rfl rfl))) .nil)))
theorem F_escape_digits : Fun 1 128 c_escape_digits :=
 H.F 8 (D_escape_digits H)
noncomputable def f_escape_shown : SF := (.seq (.setT [(.l 3), (.l 4)] [.newL, (.val (.bool false))]) (.seq (.for (nameW (.l 2) (.ofE (.loc 0))) (.seq (.ite (.chain .LtE .LtE (.val (.int 32)) (.loc 2) (.val (.int 126))) (.seq (.setL 4 (.val (.bool true))) .nop) (.seq (.ite (.orL [(.bin (cmpF .Is) (.loc 1) (.val .none)), (.bin (cmpF .LtE) (.loc 2) (.val (.int 159)))]) (.seq (.setL 4 (.val (.bool false))) .nop) (.seq (.ite .fail (.seq (.setL 4 .fail) .nop) .nop) .nop)) .nop)) (.seq (.exp (.append (.loc 3) (.loc 4))) .nop))) (.seq (.ret (.loc 3)) .nop)))
noncomputable def c_escape_shown : CF := runF false 2 3 [] f_escape_shown
theorem D_escape_shown : DenB true 1 (gm 9) (bd 9) f_escape_shown :=
 (.cons (.setT (ls := [("found", ⟨61, 4, 61, 9⟩), ("is_shown", ⟨61, 11, 61, 19⟩)]) (.cons .newL (.cons .cbool .nil)) rfl (.cons (.l rfl rfl) (.cons (.l rfl rfl) .nil)) rfl rfl (fun κ => rfl) (fun κ => rfl)) (.cons (.for (.name (.ofE (.loc rfl rfl)) (.l rfl rfl)) (.cons (.ite (.chain .cint (.loc rfl rfl) .cint) (.cons (.setL .cbool rfl rfl) .nil) (.cons (.ite (.or (.cons (.cm (.loc rfl rfl) .cnone) (.cons (.cm (.loc rfl rfl) .cint) .nil))) (.cons (.setL .cbool rfl rfl) .nil) (.cons (.ite .fail (.cons (.setL .fail rfl rfl) .nil) .nil) .nil)) .nil)) (.cons (.exp (.append (.loc rfl rfl) (.loc rfl rfl) rfl rfl)) .nil))) (.cons (.ret (.loc rfl rfl)) .nil)))
theorem F_escape_shown : Fun 1 136 c_escape_shown :=
 H.F 9 (D_escape_shown H)
end
section
variable (H : HC)
include H
noncomputable def f_scan_init : SF := (.seq (.setA 0 (.loc 1) (.loc 0)) (.seq (.setA 1 (.val (.int 0)) (.loc 0)) .nop))
noncomputable def c_scan_init : CF := runF false 2 0 [] f_scan_init
theorem D_scan_init : DenB true 1 (gm 49) (bd 49) f_scan_init :=
 (.cons (.setA (j := 0) (.loc rfl rfl) (.loc rfl rfl) rfl H.KK.sk_text) (.cons (.setA (j := 1) .cint (.loc rfl rfl) rfl H.KK.sk_place) .nil))
theorem F_scan_init : Fun 1 162 c_scan_init :=
 H.F 49 (D_scan_init H)
noncomputable def f_scan_is_over : SF := (.seq (.retK (.bin (cmpF .Eq) (.attr 1 (.loc 0)) (.len (.attr 0 (.loc 0))))) .nop)
noncomputable def c_scan_is_over : CF := runF false 1 0 [] f_scan_is_over
theorem D_scan_is_over : DenB true 1 (gm 50) (bd 50) f_scan_is_over :=
 (.cons (.retK (.cm (.attr (j := 1) (.loc rfl rfl) rfl H.KK.sk_place) (.len (.blt (H.g 0) b_len (by decide) rfl) (.attr (j := 0) (.loc rfl rfl) rfl H.KK.sk_text) rfl))) .nil)
theorem F_scan_is_over : Fun 1 169 c_scan_is_over :=
 H.F 50 (D_scan_is_over H)
noncomputable def f_scan_sign : SF := (.seq (.retK (.ite (.bin (cmpF .Eq) (.attr 1 (.loc 0)) (.len (.attr 0 (.loc 0)))) (.neg (.val (.int 1))) (.bin subF (.attr 0 (.loc 0)) (.attr 1 (.loc 0))))) .nop)
noncomputable def c_scan_sign : CF := runF false 1 0 [] f_scan_sign
theorem D_scan_sign : DenB true 1 (gm 51) (bd 51) f_scan_sign :=
 (.cons (.retK (.ite (.cm (.attr (j := 1) (.loc rfl rfl) rfl H.KK.sk_place) (.len (.blt (H.g 0) b_len (by decide) rfl) (.attr (j := 0) (.loc rfl rfl) rfl H.KK.sk_text) rfl)) (.neg .cint) (.sub (.attr (j := 0) (.loc rfl rfl) rfl H.KK.sk_text) (.attr (j := 1) (.loc rfl rfl) rfl H.KK.sk_place)))) .nil)
theorem F_scan_sign : Fun 1 176 c_scan_sign :=
 H.F 51 (D_scan_sign H)
noncomputable def f_scan_take : SF := (.seq (.ite (.bin (cmpF .Eq) (.attr 1 (.loc 0)) (.len (.attr 0 (.loc 0)))) (.seq (.raise 45 (.tup [(.loc 1), (.val (.str "end"))])) .nop) .nop) (.seq (.augA 1 (.loc 0) (.val (.int 1))) (.seq (.retK (.bin subF (.attr 0 (.loc 0)) (.bin (binF .Sub) (.attr 1 (.loc 0)) (.val (.int 1))))) .nop)))
noncomputable def c_scan_take : CF := runF false 2 0 [] f_scan_take
theorem D_scan_take : DenB true 1 (gm 52) (bd 52) f_scan_take :=
 (.cons (.ite (.cm (.attr (j := 1) (.loc rfl rfl) rfl H.KK.sk_place) (.len (.blt (H.g 0) b_len (by decide) rfl) (.attr (j := 0) (.loc rfl rfl) rfl H.KK.sk_text) rfl)) (.cons (.raise H.KK.ik_BadEncoding H.KK.if_ (.glo (H.g 62) (fun Z => .val _) rfl) (.tup (.cons (.loc rfl rfl) (.cons .cstr .nil)) rfl) rfl) .nil) .nil) (.cons (.augA (j := 1) .cint (.loc rfl rfl) rfl H.KK.sk_place) (.cons (.retK (.sub (.attr (j := 0) (.loc rfl rfl) rfl H.KK.sk_text) (.op (.attr (j := 1) (.loc rfl rfl) rfl H.KK.sk_place) .cint))) .nil)))
theorem F_scan_take : Fun 1 183 c_scan_take :=
 H.F 52 (D_scan_take H)
noncomputable def f_scan_due : SF := (.seq (.ite (.bin (cmpF .NotEq) (.meth c_scan_sign (.loc 0) []) (.loc 1)) (.seq (.raise 45 (.tup [(.loc 2), (.loc 3)])) .nop) .nop) (.seq (.augA 1 (.loc 0) (.val (.int 1))) .nop))
noncomputable def c_scan_due : CF := runF false 4 0 [] f_scan_due
theorem D_scan_due : DenB true 2 (gm 53) (bd 53) f_scan_due :=
 (.cons (.ite (.cm (.methK (.loc rfl rfl) .nil (F_scan_sign H) (H.fn 51).keep H.KK.m_sign (by decide) rfl (by decide) (by decide) rfl) (.loc rfl rfl)) (.cons (.raise H.KK.ik_BadEncoding H.KK.if_ (.glo (H.g 62) (fun Z => .val _) rfl) (.tup (.cons (.loc rfl rfl) (.cons (.loc rfl rfl) .nil)) rfl) rfl) .nil) .nil) (.cons (.augA (j := 1) .cint (.loc rfl rfl) rfl H.KK.sk_place) .nil))
theorem F_scan_due : Fun 2 190 c_scan_due :=
 H.F 53 (D_scan_due H)
noncomputable def f_scan_number : SF := (.seq (.setU [(.l 7), (.l 6)] (.tup [(.val (.int 0)), (.val (.int 0))])) (.seq (.wh (.bin (cmpF .Lt) (.loc 6) (.loc 3)) (.seq (.setL 5 (.call c_escape_digit [(.meth c_scan_sign (.loc 0) [])])) (.seq (.ite (.orL [(.bin (cmpF .Is) (.loc 5) (.val .none)), (.bin (cmpF .GtE) (.loc 5) (.loc 1))]) (.seq .brk .nop) .nop) (.seq (.setL 7 (.bin (binF .Add) (.bin (binF .Mult) (.loc 7) (.loc 1)) (.loc 5))) (.seq (.addL 6 (.val (.int 1))) (.seq (.augA 1 (.loc 0) (.val (.int 1))) .nop)))))) (.seq (.ite (.bin (cmpF .Lt) (.loc 6) (.loc 2)) (.seq (.raise 45 (.tup [(.loc 4), (.val (.str "digits"))])) .nop) .nop) (.seq (.retK (.loc 7)) .nop))))
noncomputable def c_scan_number : CF := runF false 5 3 [] f_scan_number
theorem D_scan_number : DenB true 2 (gm 54) (bd 54) f_scan_number :=
 (.cons (.setU (ls := [("value", ⟨107, 8, 107, 13⟩), ("many", ⟨107, 15, 107, 19⟩)]) (.tup (.cons .cint (.cons .cint .nil)) rfl) (.cons (.l rfl rfl) (.cons (.l rfl rfl) .nil)) rfl (fun κ => rfl) (fun κ => rfl)) (.cons (.wh (.cm (.loc rfl rfl) (.loc rfl rfl)) (.cons (.setL (.call (.glo (H.g 18) (fun Z => .val _) rfl) (.cons (.methK (.loc rfl rfl) .nil (F_scan_sign H) (H.fn 51).keep H.KK.m_sign (by decide) rfl (by decide) (by decide) rfl) .nil) (F_escape_digit H) (by decide) (H.fn 7).keep rfl) rfl rfl) (.cons (.ite (.or (.cons (.cm (.loc rfl rfl) .cnone) (.cons (.cm (.loc rfl rfl) (.loc rfl rfl)) .nil))) (.cons .brk .nil) .nil) (.cons (.setL (.op (.op (.loc rfl rfl) (.loc rfl rfl)) (.loc rfl rfl)) rfl rfl) (.cons (.addL .cint rfl rfl) (.cons (.augA (j := 1) .cint (.loc rfl rfl) rfl H.KK.sk_place) .nil)))))) (.cons (.ite (.cm (.loc rfl rfl) (.loc rfl rfl)) (.cons (.raise H.KK.ik_BadEncoding H.KK.if_ (.glo (H.g 62) (fun Z => .val _) rfl) (.tup (.cons (.loc rfl rfl) (.cons .cstr .nil)) rfl) rfl) .nil) .nil) (.cons (.retK (.loc rfl rfl)) .nil))))
theorem F_scan_number : Fun 2 197 c_scan_number :=
 H.F 54 (D_scan_number H)
noncomputable def f_scan_pass_all : SF := (.seq (.wh (.bin (cmpF .In) (.meth c_scan_sign (.loc 0) []) (.loc 1)) (.seq (.augA 1 (.loc 0) (.val (.int 1))) .nop)) .nop)
noncomputable def c_scan_pass_all : CF := runF false 2 0 [] f_scan_pass_all
theorem D_scan_pass_all : DenB true 2 (gm 55) (bd 55) f_scan_pass_all :=
 (.cons (.wh (.cm (.methK (.loc rfl rfl) .nil (F_scan_sign H) (H.fn 51).keep H.KK.m_sign (by decide) rfl (by decide) (by decide) rfl) (.loc rfl rfl)) (.cons (.augA (j := 1) .cint (.loc rfl rfl) rfl H.KK.sk_place) .nil)) .nil)
theorem F_scan_pass_all : Fun 2 204 c_scan_pass_all :=
 H.F 55 (D_scan_pass_all H)
noncomputable def f_escape_scalar : SF := (.seq (.ite (.not (.tru (.call c_is_scalar [(.loc 0)]))) (.seq (.raise 45 (.tup [(.loc 1), (.val (.str "code"))])) .nop) .nop) (.seq (.retK (.loc 0)) .nop))
noncomputable def c_escape_scalar : CF := runF false 2 0 [] f_escape_scalar
theorem D_escape_scalar : DenB true 3 (gm 12) (bd 12) f_escape_scalar :=
 (.cons (.ite (.not (.of (.call (.glo (H.g 15) (fun Z => .val _) rfl) (.cons (.loc rfl rfl) .nil) (F_is_scalar H) (by decide) (H.fn 4).keep rfl))) (.cons (.raise H.KK.ik_BadEncoding H.KK.if_ (.glo (H.g 62) (fun Z => .val _) rfl) (.tup (.cons (.loc rfl rfl) (.cons .cstr .nil)) rfl) rfl) .nil) .nil) (.cons (.retK (.loc rfl rfl)) .nil))
theorem F_escape_scalar : Fun 3 218 c_escape_scalar :=
 H.F 12 (D_escape_scalar H)
end
section
variable (H : HC)
include H
noncomputable def f_escape_json_sign (CC : CF) : SF := (.seq (.ite (.bin (cmpF .Lt) (.loc 0) (.val (.int 65536))) (.seq (.retK (.bin (binF .Add) (.list [(.val (.int 92)), (.val (.int 117))]) (.call c_escape_digits [(.loc 0), (.val (.int 16)), (.val (.int 4))]))) .nop) .nop) (.seq (.setL 1 (.bin (binF .Sub) (.loc 0) (.val (.int 65536)))) (.seq (.retK (.bin (binF .Add) (.call CC [(.bin (binF .Add) (.val (.int 55296)) (.bin (binF .FloorDiv) (.loc 1) (.val (.int 1024))))]) (.call CC [(.bin (binF .Add) (.val (.int 56320)) (.bin (binF .Mod) (.loc 1) (.val (.int 1024))))]))) .nop)))
noncomputable def c0_escape_json_sign : CF := runF false 1 1 [] (f_escape_json_sign fun κ κ => True)
noncomputable def c_escape_json_sign : CF := runF false 1 1 [] (f_escape_json_sign c0_escape_json_sign)
theorem D_escape_json_sign {j : Nat} {CC : CF} (hj : 0 < j) (HC : Fun j 232 CC) : DenB true (j + 1) (gm 14) (bd 14) (f_escape_json_sign CC) :=
 (.cons (.ite (.cm (.loc rfl rfl) (.glo (H.g 7) (fun Z => .int _ _) rfl)) (.cons (.retK (.op (.list (.cons (.glo (H.g 9) (fun Z => .int _ _) rfl) (.cons .cint .nil)) rfl) (.call (.glo (H.g 19) (fun Z => .val _) rfl) (.cons (.loc rfl rfl) (.cons .cint (.cons .cint .nil))) (F_escape_digits H) (by omega) (H.fn 8).keep rfl))) .nil) .nil) (.cons (.setL (.op (.loc rfl rfl) (.glo (H.g 7) (fun Z => .int _ _) rfl)) rfl rfl) (.cons (.retK (.op (.call (.glo (H.g 25) (fun Z => .val _) rfl) (.cons (.op (.glo (H.g 2) (fun Z => .int _ _) rfl) (.op (.loc rfl rfl) .cint)) .nil) HC (by omega) (H.fn 14).keep rfl) (.call (.glo (H.g 25) (fun Z => .val _) rfl) (.cons (.op (.glo (H.g 4) (fun Z => .int _ _) rfl) (.op (.loc rfl rfl) .cint)) .nil) HC (by omega) (H.fn 14).keep rfl))) .nil)))
theorem F0_escape_json_sign : Fun 2 232 c0_escape_json_sign :=
 H.F 14 (D_escape_json_sign H (by decide) (j := 1) (CC := fun κ κ => True) trivial)
theorem F_escape_json_sign : Fun 3 232 c_escape_json_sign :=
 H.F 14 (D_escape_json_sign H (by decide) (F0_escape_json_sign H))
noncomputable def f_escape_python_sign : SF := (.seq (.ite (.bin (cmpF .Lt) (.loc 0) (.val (.int 256))) (.seq (.retK (.bin (binF .Add) (.list [(.val (.int 92)), (.val (.int 120))]) (.call c_escape_digits [(.loc 0), (.val (.int 16)), (.val (.int 2))]))) .nop) .nop) (.seq (.ite (.bin (cmpF .Lt) (.loc 0) (.val (.int 65536))) (.seq (.retK (.bin (binF .Add) (.list [(.val (.int 92)), (.val (.int 117))]) (.call c_escape_digits [(.loc 0), (.val (.int 16)), (.val (.int 4))]))) .nop) .nop) (.seq (.retK (.bin (binF .Add) (.list [(.val (.int 92)), (.val (.int 85))]) (.call c_escape_digits [(.loc 0), (.val (.int 16)), (.val (.int 8))]))) .nop)))
noncomputable def c_escape_python_sign : CF := runF false 1 0 [] f_escape_python_sign
theorem D_escape_python_sign : DenB true 2 (gm 18) (bd 18) f_escape_python_sign :=
 (.cons (.ite (.cm (.loc rfl rfl) .cint) (.cons (.retK (.op (.list (.cons (.glo (H.g 9) (fun Z => .int _ _) rfl) (.cons .cint .nil)) rfl) (.call (.glo (H.g 19) (fun Z => .val _) rfl) (.cons (.loc rfl rfl) (.cons .cint (.cons .cint .nil))) (F_escape_digits H) (by decide) (H.fn 8).keep rfl))) .nil) .nil) (.cons (.ite (.cm (.loc rfl rfl) (.glo (H.g 7) (fun Z => .int _ _) rfl)) (.cons (.retK (.op (.list (.cons (.glo (H.g 9) (fun Z => .int _ _) rfl) (.cons .cint .nil)) rfl) (.call (.glo (H.g 19) (fun Z => .val _) rfl) (.cons (.loc rfl rfl) (.cons .cint (.cons .cint .nil))) (F_escape_digits H) (by decide) (H.fn 8).keep rfl))) .nil) .nil) (.cons (.retK (.op (.list (.cons (.glo (H.g 9) (fun Z => .int _ _) rfl) (.cons .cint .nil)) rfl) (.call (.glo (H.g 19) (fun Z => .val _) rfl) (.cons (.loc rfl rfl) (.cons .cint (.cons .cint .nil))) (F_escape_digits H) (by decide) (H.fn 8).keep rfl))) .nil)))
theorem F_escape_python_sign : Fun 2 261 c_escape_python_sign :=
 H.F 18 (D_escape_python_sign H)
noncomputable def f_escape_c_sign : SF := (.seq (.ite (.bin (cmpF .Lt) (.loc 0) (.val (.int 160))) (.seq (.retK (.bin (binF .Add) (.list [(.val (.int 92))]) (.call c_escape_digits [(.loc 0), (.val (.int 8)), (.val (.int 3))]))) .nop) .nop) (.seq (.ite (.bin (cmpF .Lt) (.loc 0) (.val (.int 65536))) (.seq (.retK (.bin (binF .Add) (.list [(.val (.int 92)), (.val (.int 117))]) (.call c_escape_digits [(.loc 0), (.val (.int 16)), (.val (.int 4))]))) .nop) .nop) (.seq (.retK (.bin (binF .Add) (.list [(.val (.int 92)), (.val (.int 85))]) (.call c_escape_digits [(.loc 0), (.val (.int 16)), (.val (.int 8))]))) .nop)))
noncomputable def c_escape_c_sign : CF := runF false 1 0 [] f_escape_c_sign
theorem D_escape_c_sign : DenB true 2 (gm 22) (bd 22) f_escape_c_sign :=
 (.cons (.ite (.cm (.loc rfl rfl) .cint) (.cons (.retK (.op (.list (.cons (.glo (H.g 9) (fun Z => .int _ _) rfl) .nil) rfl) (.call (.glo (H.g 19) (fun Z => .val _) rfl) (.cons (.loc rfl rfl) (.cons .cint (.cons .cint .nil))) (F_escape_digits H) (by decide) (H.fn 8).keep rfl))) .nil) .nil) (.cons (.ite (.cm (.loc rfl rfl) (.glo (H.g 7) (fun Z => .int _ _) rfl)) (.cons (.retK (.op (.list (.cons (.glo (H.g 9) (fun Z => .int _ _) rfl) (.cons .cint .nil)) rfl) (.call (.glo (H.g 19) (fun Z => .val _) rfl) (.cons (.loc rfl rfl) (.cons .cint (.cons .cint .nil))) (F_escape_digits H) (by decide) (H.fn 8).keep rfl))) .nil) .nil) (.cons (.retK (.op (.list (.cons (.glo (H.g 9) (fun Z => .int _ _) rfl) (.cons .cint .nil)) rfl) (.call (.glo (H.g 19) (fun Z => .val _) rfl) (.cons (.loc rfl rfl) (.cons .cint (.cons .cint .nil))) (F_escape_digits H) (by decide) (H.fn 8).keep rfl))) .nil)))
theorem F_escape_c_sign : Fun 2 290 c_escape_c_sign :=
 H.F 22 (D_escape_c_sign H)
noncomputable def f_escape_rust_sign : SF := (.seq (.retK (.bin (binF .Add) (.bin (binF .Add) (.list [(.val (.int 92)), (.val (.int 117)), (.val (.int 123))]) (.call c_escape_digits [(.loc 0), (.val (.int 16)), (.val (.int 1))])) (.list [(.val (.int 125))]))) .nop)
noncomputable def c_escape_rust_sign : CF := runF false 1 0 [] f_escape_rust_sign
theorem D_escape_rust_sign : DenB true 2 (gm 26) (bd 26) f_escape_rust_sign :=
 (.cons (.retK (.op (.op (.list (.cons (.glo (H.g 9) (fun Z => .int _ _) rfl) (.cons .cint (.cons .cint .nil))) rfl) (.call (.glo (H.g 19) (fun Z => .val _) rfl) (.cons (.loc rfl rfl) (.cons .cint (.cons .cint .nil))) (F_escape_digits H) (by decide) (H.fn 8).keep rfl)) (.list (.cons .cint .nil) rfl))) .nil)
theorem F_escape_rust_sign : Fun 2 319 c_escape_rust_sign :=
 H.F 26 (D_escape_rust_sign H)
noncomputable def f_escape_css_sign : SF := (.seq (.retK (.bin (binF .Add) (.bin (binF .Add) (.list [(.val (.int 92))]) (.call c_escape_digits [(.loc 0), (.val (.int 16)), (.val (.int 1))])) (.list [(.val (.int 32))]))) .nop)
noncomputable def c_escape_css_sign : CF := runF false 1 0 [] f_escape_css_sign
theorem D_escape_css_sign : DenB true 2 (gm 36) (bd 36) f_escape_css_sign :=
 (.cons (.retK (.op (.op (.list (.cons (.glo (H.g 9) (fun Z => .int _ _) rfl) .nil) rfl) (.call (.glo (H.g 19) (fun Z => .val _) rfl) (.cons (.loc rfl rfl) (.cons .cint (.cons .cint .nil))) (F_escape_digits H) (by decide) (H.fn 8).keep rfl)) (.list (.cons .cint .nil) rfl))) .nil)
theorem F_escape_css_sign : Fun 2 389 c_escape_css_sign :=
 H.F 36 (D_escape_css_sign H)
noncomputable def f_escape_is_xml : SF := (.seq (.ite (.orL [(.not (.tru (.call c_is_scalar [(.loc 0)]))), (.andL [(.bin (cmpF .Lt) (.loc 0) (.val (.int 32))), (.bin (cmpF .NotIn) (.loc 0) (.tup [(.val (.int 9)), (.val (.int 10)), (.val (.int 13))]))])]) (.seq (.retK (.val (.bool false))) .nop) .nop) (.seq (.retK (.bin (cmpF .NotIn) (.loc 0) (.tup [(.val (.int 65534)), (.val (.int 65535))]))) .nop))
noncomputable def c_escape_is_xml : CF := runF false 1 0 [] f_escape_is_xml
theorem D_escape_is_xml : DenB true 3 (gm 32) (bd 32) f_escape_is_xml :=
 (.cons (.ite (.or (.cons (.not (.of (.call (.glo (H.g 15) (fun Z => .val _) rfl) (.cons (.loc rfl rfl) .nil) (F_is_scalar H) (by decide) (H.fn 4).keep rfl))) (.cons (.and (.cons (.cm (.loc rfl rfl) .cint) (.cons (.cm (.loc rfl rfl) (.tup (.cons .cint (.cons .cint (.cons .cint .nil))) rfl)) .nil))) .nil))) (.cons (.retK .cbool) .nil) .nil) (.cons (.retK (.cm (.loc rfl rfl) (.tup (.cons .cint (.cons .cint .nil)) rfl))) .nil))
theorem F_escape_is_xml : Fun 3 362 c_escape_is_xml :=
 H.F 32 (D_escape_is_xml H)
noncomputable def f_escape_xml_names : SF := (.seq (.retK (.dictI [((.val (.int 38)), (.call c_codes_of [(.val (.str "amp"))])), ((.val (.int 60)), (.call c_codes_of [(.val (.str "lt"))])), ((.val (.int 62)), (.call c_codes_of [(.val (.str "gt"))])), ((.val (.int 34)), (.call c_codes_of [(.val (.str "quot"))])), ((.val (.int 39)), (.call c_codes_of [(.val (.str "apos"))]))])) .nop)
noncomputable def c_escape_xml_names : CF := runF false 0 0 [] f_escape_xml_names
theorem D_escape_xml_names : DenB true 2 (gm 31) (bd 31) f_escape_xml_names :=
 (.cons (.retK (.dictI (.cons .cint (.call (.glo (H.g 17) (fun Z => .val _) rfl) (.cons .cstr .nil) (F_codes_of H) (by decide) (H.fn 6).keep rfl) (.cons .cint (.call (.glo (H.g 17) (fun Z => .val _) rfl) (.cons .cstr .nil) (F_codes_of H) (by decide) (H.fn 6).keep rfl) (.cons .cint (.call (.glo (H.g 17) (fun Z => .val _) rfl) (.cons .cstr .nil) (F_codes_of H) (by decide) (H.fn 6).keep rfl) (.cons .cint (.call (.glo (H.g 17) (fun Z => .val _) rfl) (.cons .cstr .nil) (F_codes_of H) (by decide) (H.fn 6).keep rfl) (.cons .cint (.call (.glo (H.g 17) (fun Z => .val _) rfl) (.cons .cstr .nil) (F_codes_of H) (by decide) (H.fn 6).keep rfl) .nil))))) rfl rfl (by simp) (by decide))) .nil)
theorem F_escape_xml_names : Fun 2 355 c_escape_xml_names :=
 H.F 31 (D_escape_xml_names H)
noncomputable def f_lam_4 : EF := (.bin (binF .Add) (.bin (binF .Add) (.call c_codes_of [(.val (.str "&#x"))]) (.call c_escape_digits [(.loc 0), (.val (.int 16)), (.val (.int 1))])) (.list [(.val (.int 59))]))
noncomputable def c_lam_4 : CF := runL 1 f_lam_4
theorem DL_4 : Den true 2 ⟨lam4.scope, lam4.qual, ["code"], [], none⟩ none lam4.body f_lam_4 :=
 (.op (.op (.call (.glo (H.g 17) (fun Z => .val _) rfl) (.cons .cstr .nil) (F_codes_of H) (by decide) (H.fn 6).keep rfl) (.call (.glo (H.g 19) (fun Z => .val _) rfl) (.cons (.loc rfl rfl) (.cons .cint (.cons .cint .nil))) (F_escape_digits H) (by decide) (H.fn 8).keep rfl)) (.list (.cons .cint .nil) rfl))
theorem V_lam_4 : c_lam_4 2 (.lam 4) :=
 FunV.code rfl (DL_4 H) fun a pm cdv ct => by rfl
theorem lam_4 {q : Bool} {n : Nat} : Den q n (gm 33) none (.Lambda lam4.params lam4.body lam4.scope lam4.pos) (.val (.lam 4)) :=
 Den.lamK (P := 365) rfl rfl (by decide +kernel) (by decide +kernel) (fun c => rfl) (fun c => by rfl) (fun env => by rfl)
noncomputable def f_lam_0 : EF := (.and3 (.bin (cmpF .GtE) (.loc 0) (.val (.int 32))) (.bin (cmpF .NotEq) (.loc 0) (.val (.int 34))) (.call c_is_scalar [(.loc 0)]))
noncomputable def c_lam_0 : CF := runL 1 f_lam_0
theorem DL_0 : Den true 3 ⟨lam0.scope, lam0.qual, ["code"], [], none⟩ none lam0.body f_lam_0 :=
 (.and3 (.cm (.loc rfl rfl) .cint) (.cm (.loc rfl rfl) (.glo (H.g 10) (fun Z => .int _ _) rfl)) (.call (.glo (H.g 15) (fun Z => .val _) rfl) (.cons (.loc rfl rfl) .nil) (F_is_scalar H) (by decide) (H.fn 4).keep rfl))
theorem V_lam_0 : c_lam_0 3 (.lam 0) :=
 FunV.code rfl (DL_0 H) fun a pm cdv ct => by rfl
theorem lam_0 {q : Bool} {n : Nat} : Den q n (gm 17) none (.Lambda lam0.params lam0.body lam0.scope lam0.pos) (.val (.lam 0)) :=
 Den.lamK (P := 249) rfl rfl (by decide +kernel) (by decide +kernel) (fun c => rfl) (fun c => by rfl) (fun env => by rfl)
noncomputable def f_lam_1 : EF := (.val (.bool true))
noncomputable def c_lam_1 : CF := runL 1 f_lam_1
theorem DL_1 : Den true 1 ⟨lam1.scope, lam1.qual, ["code"], [], none⟩ none lam1.body f_lam_1 :=
 .cbool
theorem V_lam_1 : c_lam_1 1 (.lam 1) :=
 FunV.code rfl (DL_1 H) fun a pm cdv ct => by rfl
theorem lam_1 {q : Bool} {n : Nat} : Den q n (gm 21) none (.Lambda lam1.params lam1.body lam1.scope lam1.pos) (.val (.lam 1)) :=
 Den.lamK (P := 278) rfl rfl (by decide +kernel) (by decide +kernel) (fun c => rfl) (fun c => by rfl) (fun env => by rfl)
noncomputable def f_lam_2 : EF := (.and2 (.bin (cmpF .NotIn) (.loc 0) (.tup [(.val (.int 10)), (.val (.int 34))])) (.call c_is_scalar [(.loc 0)]))
noncomputable def c_lam_2 : CF := runL 1 f_lam_2
theorem DL_2 : Den true 3 ⟨lam2.scope, lam2.qual, ["code"], [], none⟩ none lam2.body f_lam_2 :=
 (.and2 (.cm (.loc rfl rfl) (.tup (.cons .cint (.cons (.glo (H.g 10) (fun Z => .int _ _) rfl) .nil)) rfl)) (.call (.glo (H.g 15) (fun Z => .val _) rfl) (.cons (.loc rfl rfl) .nil) (F_is_scalar H) (by decide) (H.fn 4).keep rfl))
theorem V_lam_2 : c_lam_2 3 (.lam 2) :=
 FunV.code rfl (DL_2 H) fun a pm cdv ct => by rfl
theorem lam_2 {q : Bool} {n : Nat} : Den q n (gm 25) none (.Lambda lam2.params lam2.body lam2.scope lam2.pos) (.val (.lam 2)) :=
 Den.lamK (P := 307) rfl rfl (by decide +kernel) (by decide +kernel) (fun c => rfl) (fun c => by rfl) (fun env => by rfl)
noncomputable def f_lam_3 : EF := (.and2 (.bin (cmpF .NotIn) (.loc 0) (.tup [(.val (.int 13)), (.val (.int 34))])) (.call c_is_scalar [(.loc 0)]))
noncomputable def c_lam_3 : CF := runL 1 f_lam_3
theorem DL_3 : Den true 3 ⟨lam3.scope, lam3.qual, ["code"], [], none⟩ none lam3.body f_lam_3 :=
 (.and2 (.cm (.loc rfl rfl) (.tup (.cons .cint (.cons (.glo (H.g 10) (fun Z => .int _ _) rfl) .nil)) rfl)) (.call (.glo (H.g 15) (fun Z => .val _) rfl) (.cons (.loc rfl rfl) .nil) (F_is_scalar H) (by decide) (H.fn 4).keep rfl))
theorem V_lam_3 : c_lam_3 3 (.lam 3) :=
 FunV.code rfl (DL_3 H) fun a pm cdv ct => by rfl
theorem lam_3 {q : Bool} {n : Nat} : Den q n (gm 30) none (.Lambda lam3.params lam3.body lam3.scope lam3.pos) (.val (.lam 3)) :=
 Den.lamK (P := 343) rfl rfl (by decide +kernel) (by decide +kernel) (fun c => rfl) (fun c => by rfl) (fun env => by rfl)
noncomputable def f_lam_5 : EF := (.bin (cmpF .NotIn) (.loc 0) (.tup [(.val (.int 10)), (.val (.int 12)), (.val (.int 13)), (.val (.int 34))]))
noncomputable def c_lam_5 : CF := runL 1 f_lam_5
theorem DL_5 : Den true 1 ⟨lam5.scope, lam5.qual, ["code"], [], none⟩ none lam5.body f_lam_5 :=
 (.cm (.loc rfl rfl) (.tup (.cons .cint (.cons .cint (.cons .cint (.cons (.glo (H.g 10) (fun Z => .int _ _) rfl) .nil)))) rfl))
theorem V_lam_5 : c_lam_5 1 (.lam 5) :=
 FunV.code rfl (DL_5 H) fun a pm cdv ct => by rfl
theorem lam_5 {q : Bool} {n : Nat} : Den q n (gm 39) none (.Lambda lam5.params lam5.body lam5.scope lam5.pos) (.val (.lam 5)) :=
 Den.lamK (P := 404) rfl rfl (by decide +kernel) (by decide +kernel) (fun c => rfl) (fun c => by rfl) (fun env => by rfl)
end
section
variable (H : HC)
include H
inductive t_write : V -> CF -> Prop
 | escape_json_sign : t_write (.val (.ref 232)) c_escape_json_sign
 | escape_python_sign : t_write (.val (.ref 261)) c_escape_python_sign
 | escape_c_sign : t_write (.val (.ref 290)) c_escape_c_sign
 | escape_rust_sign : t_write (.val (.ref 319)) c_escape_rust_sign
 | escape_css_sign : t_write (.val (.ref 389)) c_escape_css_sign
 | lam_4 : t_write (.lam 4) c_lam_4
theorem h_write : ∀ X F, t_write X F -> ∃ k, k < 4 ∧ F k X ∧ ((∃ a, X = .val (.ref a) ∧ keepIn Ω.K (.ref a) = true) ∨ ∃ kk, X = .lam kk) := by
 intro X F h
 cases h
 ·exact ⟨_, by decide, F_escape_json_sign H, .inl ⟨_, rfl, (H.fn 14).keep⟩⟩
 ·exact ⟨_, by decide, F_escape_python_sign H, .inl ⟨_, rfl, (H.fn 18).keep⟩⟩
 ·exact ⟨_, by decide, F_escape_c_sign H, .inl ⟨_, rfl, (H.fn 22).keep⟩⟩
 ·exact ⟨_, by decide, F_escape_rust_sign H, .inl ⟨_, rfl, (H.fn 26).keep⟩⟩
 ·exact ⟨_, by decide, F_escape_css_sign H, .inl ⟨_, rfl, (H.fn 36).keep⟩⟩
 ·exact ⟨_, by decide, V_lam_4 H, .inr ⟨_, rfl⟩⟩
noncomputable def f_escape_written : SF := (.seq (.setL 5 .newL) (.seq (.for (zipW [(.l 4), (.l 6)] (.loc 0) (.call c_escape_shown [(.loc 0), (.loc 1)])) (.seq (.ite (.bin (cmpF .In) (.loc 4) (.loc 2)) (.seq (.exp (.extend (.loc 5) (.bin subF (.loc 2) (.loc 4)))) .nop) (.seq (.ite (.tru (.loc 6)) (.seq (.exp (.append (.loc 5) (.loc 4))) .nop) (.seq (.exp (.extend (.loc 5) (.callV t_write (.loc 3) [(.loc 4)]))) .nop)) .nop)) .nop)) (.seq (.ret (.loc 5)) .nop)))
noncomputable def c_escape_written : CF := runF false 4 3 [] f_escape_written
theorem D_escape_written : DenB true 4 (gm 10) (bd 10) f_escape_written :=
 (.cons (.setL .newL rfl rfl) (.cons (.for (.zip (l := [("code", ⟨73, 8, 73, 12⟩), ("is_shown", ⟨73, 14, 73, 22⟩)]) (.blt (H.g 82) b_zip (by decide) rfl) (.loc rfl rfl) (.call (.glo (H.g 20) (fun Z => .val _) rfl) (.cons (.loc rfl rfl) (.cons (.loc rfl rfl) .nil)) (F_escape_shown H) (by decide) (H.fn 9).keep rfl) rfl (.cons (.l rfl rfl) (.cons (.l rfl rfl) .nil)) rfl rfl) (.cons (.ite (.cm (.loc rfl rfl) (.loc rfl rfl)) (.cons (.exp (.extend (.loc rfl rfl) (.sub (.loc rfl rfl) (.loc rfl rfl)) rfl rfl)) .nil) (.cons (.ite (.of (.loc rfl rfl)) (.cons (.exp (.append (.loc rfl rfl) (.loc rfl rfl) rfl rfl)) .nil) (.cons (.exp (.extend (.loc rfl rfl) (.callV (.loc rfl rfl) (.cons (.loc rfl rfl) .nil) (h_write H) rfl) rfl rfl)) .nil)) .nil)) .nil)) (.cons (.ret (.loc rfl rfl)) .nil)))
theorem F_escape_written : Fun 4 143 c_escape_written :=
 H.F 10 (D_escape_written H)
end
section
variable (H : HC)
include H
noncomputable def f_escape_short : SF := (.seq (.retK (.compD (.ofE (.cel 1)) (.bin (cmpF .NotEq) .cv (.cel 0)) (.bin subF (.cel 1) .cv) (.list [(.val (.int 92)), .cv]))) .nop)
theorem D_escape_short : DenB true 1 (gm 11) (bd 11) f_escape_short :=
 (.cons (.retK (.compD (.ofE (.cel rfl rfl)) (.one (.cm (.cvar rfl rfl) (.ccel (j := 0) rfl rfl rfl rfl))) (.sub (.ccel (j := 1) rfl rfl rfl rfl) (.cvar rfl rfl)) (.list (.cons (.gloC (H.g 9) (fun Z => .int _ _) rfl rfl) (.cons (.cvar rfl rfl) .nil)) rfl) ⟨by decide +kernel, by rfl, by decide +kernel, by rfl, by decide +kernel⟩)) .nil)
noncomputable def c_escape_short : CF := runFC 2 [] [] [some 1, some 0] f_escape_short
theorem F_escape_short : Fun 1 148 c_escape_short :=
 Fun.mkC (D_escape_short H) (H.fn 11).toK rfl
  (fun n => ⟨.inr ⟨rfl, rfl⟩, .inr ⟨rfl, rfl⟩, trivial⟩) (by rfl) (by decide) (by decide) rfl (fun a b => trivial) (fun a b => ⟨rfl, rfl, trivial⟩)
  (fun i hi => by simp at hi; show i < 2; omega) (fun Z as => .nil)
noncomputable def f_escape_json : SF := (.seq (.exp (.call c_check_scalars [(.loc 0)])) (.seq (.retK (.call c_escape_written [(.loc 0), (.loc 1), (.call c_escape_short [(.val v_ESCAPE_JSON), (.val (.int 47))]), (.val (.val (.ref 232)))])) .nop))
noncomputable def c_escape_json : CF := runF false 1 0 [.none] f_escape_json
theorem D_escape_json : DenB true 5 (gm 15) (bd 15) f_escape_json :=
 (.cons (.exp (.call (.glo (H.g 16) (fun Z => .val _) rfl) (.cons (.loc rfl rfl) .nil) (F_check_scalars H) (by decide) (H.fn 5).keep rfl)) (.cons (.retK (.call (.glo (H.g 21) (fun Z => .val _) rfl) (.cons (.loc rfl rfl) (.cons (.loc rfl rfl) (.cons (.call (.glo (H.g 22) (fun Z => .val _) rfl) (.cons (.glo (H.g 67) (fun Z => r_ESCAPE_JSON H Z) rfl) (.cons .cint .nil)) (F_escape_short H) (by decide) (H.fn 11).keep rfl) (.cons (.glo (H.g 25) (fun Z => .val _) rfl) .nil)))) (F_escape_written H) (by decide) (H.fn 10).keep rfl)) .nil))
theorem F_escape_json : Fun 5 240 c_escape_json :=
 H.F 15 (D_escape_json H)
noncomputable def f_escape_python : SF := (.seq (.retK (.call c_escape_written [(.loc 0), (.loc 1), (.call c_escape_short [(.val v_ESCAPE_PYTHON), (.val .none)]), (.val (.val (.ref 261)))])) .nop)
noncomputable def c_escape_python : CF := runF false 1 0 [.none] f_escape_python
theorem D_escape_python : DenB true 5 (gm 19) (bd 19) f_escape_python :=
 (.cons (.retK (.call (.glo (H.g 21) (fun Z => .val _) rfl) (.cons (.loc rfl rfl) (.cons (.loc rfl rfl) (.cons (.call (.glo (H.g 22) (fun Z => .val _) rfl) (.cons (.glo (H.g 68) (fun Z => r_ESCAPE_PYTHON H Z) rfl) (.cons .cnone .nil)) (F_escape_short H) (by decide) (H.fn 11).keep rfl) (.cons (.glo (H.g 29) (fun Z => .val _) rfl) .nil)))) (F_escape_written H) (by decide) (H.fn 10).keep rfl)) .nil)
theorem F_escape_python : Fun 5 269 c_escape_python :=
 H.F 19 (D_escape_python H)
noncomputable def f_escape_c : SF := (.seq (.exp (.call c_check_scalars [(.loc 0)])) (.seq (.retK (.call c_escape_written [(.loc 0), (.loc 1), (.call c_escape_short [(.val v_ESCAPE_PYTHON), (.val .none)]), (.val (.val (.ref 290)))])) .nop))
noncomputable def c_escape_c : CF := runF false 1 0 [.none] f_escape_c
theorem D_escape_c : DenB true 5 (gm 23) (bd 23) f_escape_c :=
 (.cons (.exp (.call (.glo (H.g 16) (fun Z => .val _) rfl) (.cons (.loc rfl rfl) .nil) (F_check_scalars H) (by decide) (H.fn 5).keep rfl)) (.cons (.retK (.call (.glo (H.g 21) (fun Z => .val _) rfl) (.cons (.loc rfl rfl) (.cons (.loc rfl rfl) (.cons (.call (.glo (H.g 22) (fun Z => .val _) rfl) (.cons (.glo (H.g 68) (fun Z => r_ESCAPE_PYTHON H Z) rfl) (.cons .cnone .nil)) (F_escape_short H) (by decide) (H.fn 11).keep rfl) (.cons (.glo (H.g 33) (fun Z => .val _) rfl) .nil)))) (F_escape_written H) (by decide) (H.fn 10).keep rfl)) .nil))
theorem F_escape_c : Fun 5 298 c_escape_c :=
 H.F 23 (D_escape_c H)
noncomputable def f_escape_rust : SF := (.seq (.exp (.call c_check_scalars [(.loc 0)])) (.seq (.retK (.call c_escape_written [(.loc 0), (.loc 1), (.call c_escape_short [(.val v_ESCAPE_RUST), (.val .none)]), (.val (.val (.ref 319)))])) .nop))
noncomputable def c_escape_rust : CF := runF false 1 0 [.none] f_escape_rust
theorem D_escape_rust : DenB true 5 (gm 27) (bd 27) f_escape_rust :=
 (.cons (.exp (.call (.glo (H.g 16) (fun Z => .val _) rfl) (.cons (.loc rfl rfl) .nil) (F_check_scalars H) (by decide) (H.fn 5).keep rfl)) (.cons (.retK (.call (.glo (H.g 21) (fun Z => .val _) rfl) (.cons (.loc rfl rfl) (.cons (.loc rfl rfl) (.cons (.call (.glo (H.g 22) (fun Z => .val _) rfl) (.cons (.glo (H.g 69) (fun Z => r_ESCAPE_RUST H Z) rfl) (.cons .cnone .nil)) (F_escape_short H) (by decide) (H.fn 11).keep rfl) (.cons (.glo (H.g 37) (fun Z => .val _) rfl) .nil)))) (F_escape_written H) (by decide) (H.fn 10).keep rfl)) .nil))
theorem F_escape_rust : Fun 5 327 c_escape_rust :=
 H.F 27 (D_escape_rust H)
noncomputable def f_escape_css : SF := (.seq (.for (nameW (.l 2) (.ofE (.loc 0))) (.seq (.ite (.orL [(.bin (cmpF .Eq) (.loc 2) (.val (.int 0))), (.not (.tru (.call c_is_scalar [(.loc 2)])))]) (.seq (.raise 57 (.loc 2)) .nop) .nop) .nop)) (.seq (.setCompD 3 (.ofE (.tup [(.val (.int 92)), (.val (.int 34))])) (.val (.bool true)) .cv (.list [(.val (.int 92)), .cv])) (.seq (.retK (.call c_escape_written [(.loc 0), (.loc 1), (.loc 3), (.val (.val (.ref 389)))])) .nop)))
noncomputable def c_escape_css : CF := runF false 1 2 [.none] f_escape_css
theorem D_escape_css : DenB true 5 (gm 37) (bd 37) f_escape_css :=
 (.cons (.for (.name (.ofE (.loc rfl rfl)) (.l rfl rfl)) (.cons (.ite (.or (.cons (.cm (.loc rfl rfl) .cint) (.cons (.not (.of (.call (.glo (H.g 15) (fun Z => .val _) rfl) (.cons (.loc rfl rfl) .nil) (F_is_scalar H) (by decide) (H.fn 4).keep rfl))) .nil))) (.cons (.raise H.KK.ik_BadCode H.KK.if_ (.glo (H.g 63) (fun Z => .val _) rfl) (.loc rfl rfl) rfl) .nil) .nil) .nil)) (.cons (.setCompD (.ofE (.tup (.cons (.glo (H.g 9) (fun Z => .int _ _) rfl) (.cons (.glo (H.g 10) (fun Z => .int _ _) rfl) .nil)) rfl)) .nil (.cvar rfl rfl) (.list (.cons (.gloC (H.g 9) (fun Z => .int _ _) rfl rfl) (.cons (.cvar rfl rfl) .nil)) rfl) ⟨by decide +kernel, by rfl, by decide +kernel, by rfl, by decide +kernel⟩ rfl rfl (fun κ => rfl)) (.cons (.retK (.call (.glo (H.g 21) (fun Z => .val _) rfl) (.cons (.loc rfl rfl) (.cons (.loc rfl rfl) (.cons (.loc rfl rfl) (.cons (.glo (H.g 47) (fun Z => .val _) rfl) .nil)))) (F_escape_written H) (by decide) (H.fn 10).keep rfl)) .nil)))
theorem F_escape_css : Fun 5 395 c_escape_css :=
 H.F 37 (D_escape_css H)
noncomputable def f_escape_xml : SF := (.seq (.for (nameW (.l 2) (.ofE (.loc 0))) (.seq (.ite (.not (.tru (.call c_escape_is_xml [(.loc 2)]))) (.seq (.raise 57 (.loc 2)) .nop) .nop) .nop)) (.seq (.setC 0 (.call c_escape_xml_names [])) (.seq (.setCompD 3 (.ofE (.cel 0)) (.val (.bool true)) .cv (.bin (binF .Add) (.bin (binF .Add) (.list [(.val (.int 38))]) (.bin subF (.cel 0) .cv)) (.list [(.val (.int 59))]))) (.seq (.retK (.call c_escape_written [(.loc 0), (.loc 1), (.loc 3), (.val (.lam 4))])) .nop))))
theorem D_escape_xml : DenB true 5 (gm 33) (bd 33) f_escape_xml :=
 (.cons (.for (.name (.ofE (.loc rfl rfl)) (.l rfl rfl)) (.cons (.ite (.not (.of (.call (.glo (H.g 43) (fun Z => .val _) rfl) (.cons (.loc rfl rfl) .nil) (F_escape_is_xml H) (by decide) (H.fn 32).keep rfl))) (.cons (.raise H.KK.ik_BadCode H.KK.if_ (.glo (H.g 63) (fun Z => .val _) rfl) (.loc rfl rfl) rfl) .nil) .nil) .nil)) (.cons (.setC (.call (.glo (H.g 42) (fun Z => .val _) rfl) .nil (F_escape_xml_names H) (by decide) (H.fn 31).keep rfl) rfl rfl) (.cons (.setCompD (.ofE (.cel rfl rfl)) .nil (.cvar rfl rfl) (.op (.op (.list (.cons .cint .nil) rfl) (.sub (.ccel (j := 0) rfl rfl rfl rfl) (.cvar rfl rfl))) (.list (.cons .cint .nil) rfl)) ⟨by decide +kernel, by rfl, by decide +kernel, by rfl, by decide +kernel⟩ rfl rfl (fun κ => rfl)) (.cons (.retK (.call (.glo (H.g 21) (fun Z => .val _) rfl) (.cons (.loc rfl rfl) (.cons (.loc rfl rfl) (.cons (.loc rfl rfl) (.cons (lam_4 H) .nil)))) (F_escape_written H) (by decide) (H.fn 10).keep rfl)) .nil))))
noncomputable def c_escape_xml : CF := runFC 1 [.none] [some 0, some 1, none, none] [none] f_escape_xml
theorem F_escape_xml : Fun 5 368 c_escape_xml :=
 Fun.mkC (D_escape_xml H) (H.fn 33).toK rfl
  (fun n => ⟨.inl rfl, .inl rfl, trivial⟩) (by rfl) (by decide) (by decide) rfl (fun a b => ⟨rfl, rfl, trivial, trivial, trivial⟩) (fun a b => ⟨rfl, trivial⟩)
  (fun i hi => by simp at hi) (fun Z as => .cons (.pure .none) .nil)
end
section
variable (H : HC)
include H
noncomputable def f_escape_json_read : SF := (.seq (.setL 2 (.meth c_scan_take (.loc 0) [(.loc 1)])) (.seq (.ite (.bin (cmpF .In) (.loc 2) (.val v_ESCAPE_JSON)) (.seq (.retK (.list [(.bin subF (.val v_ESCAPE_JSON) (.loc 2))])) .nop) .nop) (.seq (.ite (.bin (cmpF .NotEq) (.loc 2) (.val (.int 117))) (.seq (.raise 45 (.tup [(.loc 1), (.val (.str "escape"))])) .nop) .nop) (.seq (.setL 4 (.meth c_scan_number (.loc 0) [(.val (.int 16)), (.val (.int 4)), (.val (.int 4)), (.loc 1)])) (.seq (.ite (.tru (.call c_is_high [(.loc 4)])) (.seq (.exp (.meth c_scan_due (.loc 0) [(.val (.int 92)), (.loc 1), (.val (.str "surrogate"))])) (.seq (.exp (.meth c_scan_due (.loc 0) [(.val (.int 117)), (.loc 1), (.val (.str "surrogate"))])) (.seq (.setL 3 (.meth c_scan_number (.loc 0) [(.val (.int 16)), (.val (.int 4)), (.val (.int 4)), (.loc 1)])) (.seq (.ite (.not (.tru (.call c_is_low [(.loc 3)]))) (.seq (.raise 45 (.tup [(.loc 1), (.val (.str "surrogate"))])) .nop) .nop) (.seq (.retK (.list [(.bin (binF .Sub) (.bin (binF .Add) (.bin (binF .Add) (.val (.int 65536)) (.bin (binF .Mult) (.bin (binF .Sub) (.loc 4) (.val (.int 55296))) (.val (.int 1024)))) (.loc 3)) (.val (.int 56320)))])) .nop))))) .nop) (.seq (.ite (.tru (.call c_is_low [(.loc 4)])) (.seq (.raise 45 (.tup [(.loc 1), (.val (.str "surrogate"))])) .nop) .nop) (.seq (.retK (.list [(.loc 4)])) .nop)))))))
noncomputable def c_escape_json_read : CF := runF false 2 3 [] f_escape_json_read
theorem D_escape_json_read : DenB true 3 (gm 16) (bd 16) f_escape_json_read :=
 (.cons (.setL (.methK (.loc rfl rfl) (.cons (.loc rfl rfl) .nil) (F_scan_take H) (H.fn 52).keep H.KK.m_take (by decide) rfl (by decide) (by decide) rfl) rfl rfl) (.cons (.ite (.cm (.loc rfl rfl) (.glo (H.g 67) (fun Z => r_ESCAPE_JSON H Z) rfl)) (.cons (.retK (.list (.cons (.sub (.glo (H.g 67) (fun Z => r_ESCAPE_JSON H Z) rfl) (.loc rfl rfl)) .nil) rfl)) .nil) .nil) (.cons (.ite (.cm (.loc rfl rfl) .cint) (.cons (.raise H.KK.ik_BadEncoding H.KK.if_ (.glo (H.g 62) (fun Z => .val _) rfl) (.tup (.cons (.loc rfl rfl) (.cons .cstr .nil)) rfl) rfl) .nil) .nil) (.cons (.setL (.methK (.loc rfl rfl) (.cons .cint (.cons .cint (.cons .cint (.cons (.loc rfl rfl) .nil)))) (F_scan_number H) (H.fn 54).keep H.KK.m_number (by decide) rfl (by decide) (by decide) rfl) rfl rfl) (.cons (.ite (.of (.call (.glo (H.g 12) (fun Z => .val _) rfl) (.cons (.loc rfl rfl) .nil) (F_is_high H) (by decide) (H.fn 1).keep rfl)) (.cons (.exp (.methK (.loc rfl rfl) (.cons (.glo (H.g 9) (fun Z => .int _ _) rfl) (.cons (.loc rfl rfl) (.cons .cstr .nil))) (F_scan_due H) (H.fn 53).keep H.KK.m_due (by decide) rfl (by decide) (by decide) rfl)) (.cons (.exp (.methK (.loc rfl rfl) (.cons .cint (.cons (.loc rfl rfl) (.cons .cstr .nil))) (F_scan_due H) (H.fn 53).keep H.KK.m_due (by decide) rfl (by decide) (by decide) rfl)) (.cons (.setL (.methK (.loc rfl rfl) (.cons .cint (.cons .cint (.cons .cint (.cons (.loc rfl rfl) .nil)))) (F_scan_number H) (H.fn 54).keep H.KK.m_number (by decide) rfl (by decide) (by decide) rfl) rfl rfl) (.cons (.ite (.not (.of (.call (.glo (H.g 13) (fun Z => .val _) rfl) (.cons (.loc rfl rfl) .nil) (F_is_low H) (by decide) (H.fn 2).keep rfl))) (.cons (.raise H.KK.ik_BadEncoding H.KK.if_ (.glo (H.g 62) (fun Z => .val _) rfl) (.tup (.cons (.loc rfl rfl) (.cons .cstr .nil)) rfl) rfl) .nil) .nil) (.cons (.retK (.list (.cons (.op (.op (.op (.glo (H.g 7) (fun Z => .int _ _) rfl) (.op (.op (.loc rfl rfl) (.glo (H.g 2) (fun Z => .int _ _) rfl)) .cint)) (.loc rfl rfl)) (.glo (H.g 4) (fun Z => .int _ _) rfl)) .nil) rfl)) .nil))))) .nil) (.cons (.ite (.of (.call (.glo (H.g 13) (fun Z => .val _) rfl) (.cons (.loc rfl rfl) .nil) (F_is_low H) (by decide) (H.fn 2).keep rfl)) (.cons (.raise H.KK.ik_BadEncoding H.KK.if_ (.glo (H.g 62) (fun Z => .val _) rfl) (.tup (.cons (.loc rfl rfl) (.cons .cstr .nil)) rfl) rfl) .nil) .nil) (.cons (.retK (.list (.cons (.loc rfl rfl) .nil) rfl)) .nil)))))))
theorem F_escape_json_read : Fun 3 247 c_escape_json_read :=
 H.F 16 (D_escape_json_read H)
noncomputable def f_escape_python_read : SF := (.seq (.setL 3 (.dictI [((.val (.int 120)), (.val (.int 2))), ((.val (.int 117)), (.val (.int 4))), ((.val (.int 85)), (.val (.int 8)))])) (.seq (.setL 2 (.meth c_scan_sign (.loc 0) [])) (.seq (.ite (.bin (cmpF .In) (.loc 2) (.tup [(.val (.int 48)), (.val (.int 49)), (.val (.int 50)), (.val (.int 51)), (.val (.int 52)), (.val (.int 53)), (.val (.int 54)), (.val (.int 55))])) (.seq (.retK (.list [(.meth c_scan_number (.loc 0) [(.val (.int 8)), (.val (.int 1)), (.val (.int 3)), (.loc 1)])])) .nop) .nop) (.seq (.setL 2 (.meth c_scan_take (.loc 0) [(.loc 1)])) (.seq (.ite (.bin (cmpF .In) (.loc 2) (.val v_ESCAPE_PYTHON)) (.seq (.retK (.list [(.bin subF (.val v_ESCAPE_PYTHON) (.loc 2))])) .nop) .nop) (.seq (.ite (.bin (cmpF .In) (.loc 2) (.loc 3)) (.seq (.setL 4 (.meth c_scan_number (.loc 0) [(.val (.int 16)), (.bin subF (.loc 3) (.loc 2)), (.bin subF (.loc 3) (.loc 2)), (.loc 1)])) (.seq (.ite (.not (.tru (.call c_is_code [(.loc 4)]))) (.seq (.raise 45 (.tup [(.loc 1), (.val (.str "code"))])) .nop) .nop) (.seq (.retK (.list [(.loc 4)])) .nop))) .nop) (.seq (.ite (.bin (cmpF .Eq) (.loc 2) (.val (.int 78))) (.seq (.raise 45 (.tup [(.loc 1), (.val (.str "name"))])) .nop) .nop) (.seq (.retK (.ite (.bin (cmpF .Eq) (.loc 2) (.val (.int 10))) (.list []) (.list [(.val (.int 92)), (.loc 2)]))) .nop))))))))
noncomputable def c_escape_python_read : CF := runF false 2 3 [] f_escape_python_read
theorem D_escape_python_read : DenB true 3 (gm 20) (bd 20) f_escape_python_read :=
 (.cons (.setL (.dictI (.cons .cint .cint (.cons .cint .cint (.cons .cint .cint .nil))) rfl rfl (by simp) (by decide)) rfl rfl) (.cons (.setL (.methK (.loc rfl rfl) .nil (F_scan_sign H) (H.fn 51).keep H.KK.m_sign (by decide) rfl (by decide) (by decide) rfl) rfl rfl) (.cons (.ite (.cm (.loc rfl rfl) (.tup (.cons .cint (.cons .cint (.cons .cint (.cons .cint (.cons .cint (.cons .cint (.cons .cint (.cons .cint .nil)))))))) rfl)) (.cons (.retK (.list (.cons (.methK (.loc rfl rfl) (.cons .cint (.cons .cint (.cons .cint (.cons (.loc rfl rfl) .nil)))) (F_scan_number H) (H.fn 54).keep H.KK.m_number (by decide) rfl (by decide) (by decide) rfl) .nil) rfl)) .nil) .nil) (.cons (.setL (.methK (.loc rfl rfl) (.cons (.loc rfl rfl) .nil) (F_scan_take H) (H.fn 52).keep H.KK.m_take (by decide) rfl (by decide) (by decide) rfl) rfl rfl) (.cons (.ite (.cm (.loc rfl rfl) (.glo (H.g 68) (fun Z => r_ESCAPE_PYTHON H Z) rfl)) (.cons (.retK (.list (.cons (.sub (.glo (H.g 68) (fun Z => r_ESCAPE_PYTHON H Z) rfl) (.loc rfl rfl)) .nil) rfl)) .nil) .nil) (.cons (.ite (.cm (.loc rfl rfl) (.loc rfl rfl)) (.cons (.setL (.methK (.loc rfl rfl) (.cons .cint (.cons (.sub (.loc rfl rfl) (.loc rfl rfl)) (.cons (.sub (.loc rfl rfl) (.loc rfl rfl)) (.cons (.loc rfl rfl) .nil)))) (F_scan_number H) (H.fn 54).keep H.KK.m_number (by decide) rfl (by decide) (by decide) rfl) rfl rfl) (.cons (.ite (.not (.of (.call (.glo (H.g 11) (fun Z => .val _) rfl) (.cons (.loc rfl rfl) .nil) (F_is_code H) (by decide) (H.fn 0).keep rfl))) (.cons (.raise H.KK.ik_BadEncoding H.KK.if_ (.glo (H.g 62) (fun Z => .val _) rfl) (.tup (.cons (.loc rfl rfl) (.cons .cstr .nil)) rfl) rfl) .nil) .nil) (.cons (.retK (.list (.cons (.loc rfl rfl) .nil) rfl)) .nil))) .nil) (.cons (.ite (.cm (.loc rfl rfl) .cint) (.cons (.raise H.KK.ik_BadEncoding H.KK.if_ (.glo (H.g 62) (fun Z => .val _) rfl) (.tup (.cons (.loc rfl rfl) (.cons .cstr .nil)) rfl) rfl) .nil) .nil) (.cons (.retK (.ite (.cm (.loc rfl rfl) .cint) (.list .nil rfl) (.list (.cons (.glo (H.g 9) (fun Z => .int _ _) rfl) (.cons (.loc rfl rfl) .nil)) rfl))) .nil))))))))
theorem F_escape_python_read : Fun 3 276 c_escape_python_read :=
 H.F 20 (D_escape_python_read H)
noncomputable def f_escape_c_read : SF := (.seq (.setL 2 (.meth c_scan_sign (.loc 0) [])) (.seq (.ite (.bin (cmpF .In) (.loc 2) (.tup [(.val (.int 48)), (.val (.int 49)), (.val (.int 50)), (.val (.int 51)), (.val (.int 52)), (.val (.int 53)), (.val (.int 54)), (.val (.int 55))])) (.seq (.retK (.list [(.meth c_scan_number (.loc 0) [(.val (.int 8)), (.val (.int 1)), (.val (.int 3)), (.loc 1)])])) .nop) .nop) (.seq (.setL 2 (.meth c_scan_take (.loc 0) [(.loc 1)])) (.seq (.ite (.orL [(.bin (cmpF .In) (.loc 2) (.val v_ESCAPE_PYTHON)), (.bin (cmpF .Eq) (.loc 2) (.val (.int 63)))]) (.seq (.retK (.list [(.get2 (.val v_ESCAPE_PYTHON) (.loc 2) (.loc 2))])) .nop) .nop) (.seq (.ite (.bin (cmpF .Eq) (.loc 2) (.val (.int 10))) (.seq (.retK (.list [])) .nop) .nop) (.seq (.ite (.bin (cmpF .Eq) (.loc 2) (.val (.int 120))) (.seq (.retK (.list [(.call c_escape_scalar [(.meth c_scan_number (.loc 0) [(.val (.int 16)), (.val (.int 1)), (.len (.attr 0 (.loc 0))), (.loc 1)]), (.loc 1)])])) .nop) .nop) (.seq (.ite (.bin (cmpF .NotIn) (.loc 2) (.tup [(.val (.int 117)), (.val (.int 85))])) (.seq (.raise 45 (.tup [(.loc 1), (.val (.str "escape"))])) .nop) .nop) (.seq (.setL 3 (.ite (.bin (cmpF .Eq) (.loc 2) (.val (.int 117))) (.val (.int 4)) (.val (.int 8)))) (.seq (.setL 4 (.call c_escape_scalar [(.meth c_scan_number (.loc 0) [(.val (.int 16)), (.loc 3), (.loc 3), (.loc 1)]), (.loc 1)])) (.seq (.ite (.andL [(.bin (cmpF .Lt) (.loc 4) (.val (.int 160))), (.bin (cmpF .NotIn) (.loc 4) (.val v_ESCAPE_C_NAMED))]) (.seq (.raise 45 (.tup [(.loc 1), (.val (.str "code"))])) .nop) .nop) (.seq (.retK (.list [(.loc 4)])) .nop)))))))))))
noncomputable def c_escape_c_read : CF := runF false 2 3 [] f_escape_c_read
theorem D_escape_c_read : DenB true 4 (gm 24) (bd 24) f_escape_c_read :=
 (.cons (.setL (.methK (.loc rfl rfl) .nil (F_scan_sign H) (H.fn 51).keep H.KK.m_sign (by decide) rfl (by decide) (by decide) rfl) rfl rfl) (.cons (.ite (.cm (.loc rfl rfl) (.tup (.cons .cint (.cons .cint (.cons .cint (.cons .cint (.cons .cint (.cons .cint (.cons .cint (.cons .cint .nil)))))))) rfl)) (.cons (.retK (.list (.cons (.methK (.loc rfl rfl) (.cons .cint (.cons .cint (.cons .cint (.cons (.loc rfl rfl) .nil)))) (F_scan_number H) (H.fn 54).keep H.KK.m_number (by decide) rfl (by decide) (by decide) rfl) .nil) rfl)) .nil) .nil) (.cons (.setL (.methK (.loc rfl rfl) (.cons (.loc rfl rfl) .nil) (F_scan_take H) (H.fn 52).keep H.KK.m_take (by decide) rfl (by decide) (by decide) rfl) rfl rfl) (.cons (.ite (.or (.cons (.cm (.loc rfl rfl) (.glo (H.g 68) (fun Z => r_ESCAPE_PYTHON H Z) rfl)) (.cons (.cm (.loc rfl rfl) .cint) .nil))) (.cons (.retK (.list (.cons (.get2 (.glo (H.g 68) (fun Z => r_ESCAPE_PYTHON H Z) rfl) (.loc rfl rfl) (.loc rfl rfl) rfl rfl) .nil) rfl)) .nil) .nil) (.cons (.ite (.cm (.loc rfl rfl) .cint) (.cons (.retK (.list .nil rfl)) .nil) .nil) (.cons (.ite (.cm (.loc rfl rfl) .cint) (.cons (.retK (.list (.cons (.call (.glo (H.g 23) (fun Z => .val _) rfl) (.cons (.methK (.loc rfl rfl) (.cons .cint (.cons .cint (.cons (.len (.blt (H.g 0) b_len (by decide) rfl) (.attr (j := 0) (.loc rfl rfl) rfl H.KK.sk_text) rfl) (.cons (.loc rfl rfl) .nil)))) (F_scan_number H) (H.fn 54).keep H.KK.m_number (by decide) rfl (by decide) (by decide) rfl) (.cons (.loc rfl rfl) .nil)) (F_escape_scalar H) (by decide) (H.fn 12).keep rfl) .nil) rfl)) .nil) .nil) (.cons (.ite (.cm (.loc rfl rfl) (.tup (.cons .cint (.cons .cint .nil)) rfl)) (.cons (.raise H.KK.ik_BadEncoding H.KK.if_ (.glo (H.g 62) (fun Z => .val _) rfl) (.tup (.cons (.loc rfl rfl) (.cons .cstr .nil)) rfl) rfl) .nil) .nil) (.cons (.setL (.ite (.cm (.loc rfl rfl) .cint) .cint .cint) rfl rfl) (.cons (.setL (.call (.glo (H.g 23) (fun Z => .val _) rfl) (.cons (.methK (.loc rfl rfl) (.cons .cint (.cons (.loc rfl rfl) (.cons (.loc rfl rfl) (.cons (.loc rfl rfl) .nil)))) (F_scan_number H) (H.fn 54).keep H.KK.m_number (by decide) rfl (by decide) (by decide) rfl) (.cons (.loc rfl rfl) .nil)) (F_escape_scalar H) (by decide) (H.fn 12).keep rfl) rfl rfl) (.cons (.ite (.and (.cons (.cm (.loc rfl rfl) .cint) (.cons (.cm (.loc rfl rfl) (.glo (H.g 70) (fun Z => r_ESCAPE_C_NAMED H Z) rfl)) .nil))) (.cons (.raise H.KK.ik_BadEncoding H.KK.if_ (.glo (H.g 62) (fun Z => .val _) rfl) (.tup (.cons (.loc rfl rfl) (.cons .cstr .nil)) rfl) rfl) .nil) .nil) (.cons (.retK (.list (.cons (.loc rfl rfl) .nil) rfl)) .nil)))))))))))
theorem F_escape_c_read : Fun 4 305 c_escape_c_read :=
 H.F 24 (D_escape_c_read H)
noncomputable def f_escape_rust_braces : SF := (.seq (.exp (.meth c_scan_due (.loc 0) [(.val (.int 123)), (.loc 1), (.val (.str "escape"))])) (.seq (.setT [(.l 3), (.l 2)] [(.meth c_scan_number (.loc 0) [(.val (.int 16)), (.val (.int 1)), (.val (.int 1)), (.loc 1)]), (.val (.int 1))]) (.seq (.wh (.bin (cmpF .NotEq) (.meth c_scan_sign (.loc 0) []) (.val (.int 125))) (.seq (.ite (.bin (cmpF .Eq) (.meth c_scan_sign (.loc 0) []) (.val (.int 95))) (.seq (.augA 1 (.loc 0) (.val (.int 1))) .nop) (.seq (.ite (.bin (cmpF .Eq) (.loc 2) (.val (.int 6))) (.seq (.raise 45 (.tup [(.loc 1), (.val (.str "digits"))])) .nop) (.seq (.setT [(.l 3), (.l 2)] [(.bin (binF .Add) (.bin (binF .Mult) (.loc 3) (.val (.int 16))) (.meth c_scan_number (.loc 0) [(.val (.int 16)), (.val (.int 1)), (.val (.int 1)), (.loc 1)])), (.bin (binF .Add) (.loc 2) (.val (.int 1)))]) .nop)) .nop)) .nop)) (.seq (.augA 1 (.loc 0) (.val (.int 1))) (.seq (.retK (.call c_escape_scalar [(.loc 3), (.loc 1)])) .nop)))))
noncomputable def c_escape_rust_braces : CF := runF false 2 2 [] f_escape_rust_braces
theorem D_escape_rust_braces : DenB true 4 (gm 28) (bd 28) f_escape_rust_braces :=
 (.cons (.exp (.methK (.loc rfl rfl) (.cons .cint (.cons (.loc rfl rfl) (.cons .cstr .nil))) (F_scan_due H) (H.fn 53).keep H.KK.m_due (by decide) rfl (by decide) (by decide) rfl)) (.cons (.setT (ls := [("value", ⟨227, 4, 227, 9⟩), ("many", ⟨227, 11, 227, 15⟩)]) (.cons (.methK (.loc rfl rfl) (.cons .cint (.cons .cint (.cons .cint (.cons (.loc rfl rfl) .nil)))) (F_scan_number H) (H.fn 54).keep H.KK.m_number (by decide) rfl (by decide) (by decide) rfl) (.cons .cint .nil)) rfl (.cons (.l rfl rfl) (.cons (.l rfl rfl) .nil)) rfl rfl (fun κ => rfl) (fun κ => rfl)) (.cons (.wh (.cm (.methK (.loc rfl rfl) .nil (F_scan_sign H) (H.fn 51).keep H.KK.m_sign (by decide) rfl (by decide) (by decide) rfl) .cint) (.cons (.ite (.cm (.methK (.loc rfl rfl) .nil (F_scan_sign H) (H.fn 51).keep H.KK.m_sign (by decide) rfl (by decide) (by decide) rfl) .cint) (.cons (.augA (j := 1) .cint (.loc rfl rfl) rfl H.KK.sk_place) .nil) (.cons (.ite (.cm (.loc rfl rfl) .cint) (.cons (.raise H.KK.ik_BadEncoding H.KK.if_ (.glo (H.g 62) (fun Z => .val _) rfl) (.tup (.cons (.loc rfl rfl) (.cons .cstr .nil)) rfl) rfl) .nil) (.cons (.setT (ls := [("value", ⟨234, 12, 234, 17⟩), ("many", ⟨234, 19, 234, 23⟩)]) (.cons (.op (.op (.loc rfl rfl) .cint) (.methK (.loc rfl rfl) (.cons .cint (.cons .cint (.cons .cint (.cons (.loc rfl rfl) .nil)))) (F_scan_number H) (H.fn 54).keep H.KK.m_number (by decide) rfl (by decide) (by decide) rfl)) (.cons (.op (.loc rfl rfl) .cint) .nil)) rfl (.cons (.l rfl rfl) (.cons (.l rfl rfl) .nil)) rfl rfl (fun κ => rfl) (fun κ => rfl)) .nil)) .nil)) .nil)) (.cons (.augA (j := 1) .cint (.loc rfl rfl) rfl H.KK.sk_place) (.cons (.retK (.call (.glo (H.g 23) (fun Z => .val _) rfl) (.cons (.loc rfl rfl) (.cons (.loc rfl rfl) .nil)) (F_escape_scalar H) (by decide) (H.fn 12).keep rfl)) .nil)))))
theorem F_escape_rust_braces : Fun 4 334 c_escape_rust_braces :=
 H.F 28 (D_escape_rust_braces H)
noncomputable def f_escape_rust_read : SF := (.seq (.setL 2 (.meth c_scan_take (.loc 0) [(.loc 1)])) (.seq (.ite (.bin (cmpF .In) (.loc 2) (.val v_ESCAPE_RUST)) (.seq (.retK (.list [(.bin subF (.val v_ESCAPE_RUST) (.loc 2))])) .nop) .nop) (.seq (.ite (.bin (cmpF .Eq) (.loc 2) (.val (.int 10))) (.seq (.exp (.meth c_scan_pass_all (.loc 0) [(.val v_ESCAPE_RUST_BLANKS)])) (.seq (.retK (.list [])) .nop)) .nop) (.seq (.ite (.bin (cmpF .Eq) (.loc 2) (.val (.int 117))) (.seq (.retK (.list [(.call c_escape_rust_braces [(.loc 0), (.loc 1)])])) .nop) .nop) (.seq (.ite (.bin (cmpF .NotEq) (.loc 2) (.val (.int 120))) (.seq (.raise 45 (.tup [(.loc 1), (.val (.str "escape"))])) .nop) .nop) (.seq (.setL 3 (.meth c_scan_number (.loc 0) [(.val (.int 16)), (.val (.int 2)), (.val (.int 2)), (.loc 1)])) (.seq (.ite (.bin (cmpF .Gt) (.loc 3) (.val (.int 127))) (.seq (.raise 45 (.tup [(.loc 1), (.val (.str "code"))])) .nop) .nop) (.seq (.retK (.list [(.loc 3)])) .nop))))))))
noncomputable def c_escape_rust_read : CF := runF false 2 2 [] f_escape_rust_read
theorem D_escape_rust_read : DenB true 5 (gm 29) (bd 29) f_escape_rust_read :=
 (.cons (.setL (.methK (.loc rfl rfl) (.cons (.loc rfl rfl) .nil) (F_scan_take H) (H.fn 52).keep H.KK.m_take (by decide) rfl (by decide) (by decide) rfl) rfl rfl) (.cons (.ite (.cm (.loc rfl rfl) (.glo (H.g 69) (fun Z => r_ESCAPE_RUST H Z) rfl)) (.cons (.retK (.list (.cons (.sub (.glo (H.g 69) (fun Z => r_ESCAPE_RUST H Z) rfl) (.loc rfl rfl)) .nil) rfl)) .nil) .nil) (.cons (.ite (.cm (.loc rfl rfl) .cint) (.cons (.exp (.methK (.loc rfl rfl) (.cons (.glo (H.g 66) (fun Z => r_ESCAPE_RUST_BLANKS H Z) rfl) .nil) (F_scan_pass_all H) (H.fn 55).keep H.KK.m_pass_all (by decide) rfl (by decide) (by decide) rfl)) (.cons (.retK (.list .nil rfl)) .nil)) .nil) (.cons (.ite (.cm (.loc rfl rfl) .cint) (.cons (.retK (.list (.cons (.call (.glo (H.g 39) (fun Z => .val _) rfl) (.cons (.loc rfl rfl) (.cons (.loc rfl rfl) .nil)) (F_escape_rust_braces H) (by decide) (H.fn 28).keep rfl) .nil) rfl)) .nil) .nil) (.cons (.ite (.cm (.loc rfl rfl) .cint) (.cons (.raise H.KK.ik_BadEncoding H.KK.if_ (.glo (H.g 62) (fun Z => .val _) rfl) (.tup (.cons (.loc rfl rfl) (.cons .cstr .nil)) rfl) rfl) .nil) .nil) (.cons (.setL (.methK (.loc rfl rfl) (.cons .cint (.cons .cint (.cons .cint (.cons (.loc rfl rfl) .nil)))) (F_scan_number H) (H.fn 54).keep H.KK.m_number (by decide) rfl (by decide) (by decide) rfl) rfl rfl) (.cons (.ite (.cm (.loc rfl rfl) .cint) (.cons (.raise H.KK.ik_BadEncoding H.KK.if_ (.glo (H.g 62) (fun Z => .val _) rfl) (.tup (.cons (.loc rfl rfl) (.cons .cstr .nil)) rfl) rfl) .nil) .nil) (.cons (.retK (.list (.cons (.loc rfl rfl) .nil) rfl)) .nil))))))))
theorem F_escape_rust_read : Fun 5 341 c_escape_rust_read :=
 H.F 29 (D_escape_rust_read H)
noncomputable def f_escape_css_read : SF := (.seq (.ite (.bin (cmpF .Is) (.call c_escape_digit [(.meth c_scan_sign (.loc 0) [])]) (.val .none)) (.seq (.setL 2 (.meth c_scan_take (.loc 0) [(.loc 1)])) (.seq (.ite (.andL [(.bin (cmpF .Eq) (.loc 2) (.val (.int 13))), (.bin (cmpF .Eq) (.meth c_scan_sign (.loc 0) []) (.val (.int 10)))]) (.seq (.augA 1 (.loc 0) (.val (.int 1))) .nop) .nop) (.seq (.retK (.ite (.bin (cmpF .In) (.loc 2) (.tup [(.val (.int 10)), (.val (.int 12)), (.val (.int 13))])) (.list []) (.list [(.loc 2)]))) .nop))) .nop) (.seq (.setL 3 (.meth c_scan_number (.loc 0) [(.val (.int 16)), (.val (.int 1)), (.val (.int 6)), (.loc 1)])) (.seq (.ite (.bin (cmpF .Eq) (.meth c_scan_sign (.loc 0) []) (.val (.int 13))) (.seq (.augA 1 (.loc 0) (.val (.int 1))) (.seq (.ite (.bin (cmpF .Eq) (.meth c_scan_sign (.loc 0) []) (.val (.int 10))) (.seq (.augA 1 (.loc 0) (.val (.int 1))) .nop) .nop) .nop)) (.seq (.ite (.bin (cmpF .In) (.meth c_scan_sign (.loc 0) []) (.val v_ESCAPE_BLANKS)) (.seq (.augA 1 (.loc 0) (.val (.int 1))) .nop) .nop) .nop)) (.seq (.retK (.list [(.loc 3)])) .nop))))
noncomputable def c_escape_css_read : CF := runF false 2 2 [] f_escape_css_read
theorem D_escape_css_read : DenB true 3 (gm 38) (bd 38) f_escape_css_read :=
 (.cons (.ite (.cm (.call (.glo (H.g 18) (fun Z => .val _) rfl) (.cons (.methK (.loc rfl rfl) .nil (F_scan_sign H) (H.fn 51).keep H.KK.m_sign (by decide) rfl (by decide) (by decide) rfl) .nil) (F_escape_digit H) (by decide) (H.fn 7).keep rfl) .cnone) (.cons (.setL (.methK (.loc rfl rfl) (.cons (.loc rfl rfl) .nil) (F_scan_take H) (H.fn 52).keep H.KK.m_take (by decide) rfl (by decide) (by decide) rfl) rfl rfl) (.cons (.ite (.and (.cons (.cm (.loc rfl rfl) .cint) (.cons (.cm (.methK (.loc rfl rfl) .nil (F_scan_sign H) (H.fn 51).keep H.KK.m_sign (by decide) rfl (by decide) (by decide) rfl) .cint) .nil))) (.cons (.augA (j := 1) .cint (.loc rfl rfl) rfl H.KK.sk_place) .nil) .nil) (.cons (.retK (.ite (.cm (.loc rfl rfl) (.tup (.cons .cint (.cons .cint (.cons .cint .nil))) rfl)) (.list .nil rfl) (.list (.cons (.loc rfl rfl) .nil) rfl))) .nil))) .nil) (.cons (.setL (.methK (.loc rfl rfl) (.cons .cint (.cons .cint (.cons .cint (.cons (.loc rfl rfl) .nil)))) (F_scan_number H) (H.fn 54).keep H.KK.m_number (by decide) rfl (by decide) (by decide) rfl) rfl rfl) (.cons (.ite (.cm (.methK (.loc rfl rfl) .nil (F_scan_sign H) (H.fn 51).keep H.KK.m_sign (by decide) rfl (by decide) (by decide) rfl) .cint) (.cons (.augA (j := 1) .cint (.loc rfl rfl) rfl H.KK.sk_place) (.cons (.ite (.cm (.methK (.loc rfl rfl) .nil (F_scan_sign H) (H.fn 51).keep H.KK.m_sign (by decide) rfl (by decide) (by decide) rfl) .cint) (.cons (.augA (j := 1) .cint (.loc rfl rfl) rfl H.KK.sk_place) .nil) .nil) .nil)) (.cons (.ite (.cm (.methK (.loc rfl rfl) .nil (F_scan_sign H) (H.fn 51).keep H.KK.m_sign (by decide) rfl (by decide) (by decide) rfl) (.glo (H.g 65) (fun Z => r_ESCAPE_BLANKS H Z) rfl)) (.cons (.augA (j := 1) .cint (.loc rfl rfl) rfl H.KK.sk_place) .nil) .nil) .nil)) (.cons (.retK (.list (.cons (.loc rfl rfl) .nil) rfl)) .nil))))
theorem F_escape_css_read : Fun 3 402 c_escape_css_read :=
 H.F 38 (D_escape_css_read H)
inductive t_read : V -> CF -> Prop
 | escape_json_read : t_read (.val (.ref 247)) c_escape_json_read
 | escape_python_read : t_read (.val (.ref 276)) c_escape_python_read
 | escape_c_read : t_read (.val (.ref 305)) c_escape_c_read
 | escape_rust_read : t_read (.val (.ref 341)) c_escape_rust_read
 | escape_css_read : t_read (.val (.ref 402)) c_escape_css_read
theorem h_read : ∀ X F, t_read X F -> ∃ k, k < 6 ∧ F k X ∧ ((∃ a, X = .val (.ref a) ∧ keepIn Ω.K (.ref a) = true) ∨ ∃ kk, X = .lam kk) := by
 intro X F h
 cases h
 ·exact ⟨_, by decide, F_escape_json_read H, .inl ⟨_, rfl, (H.fn 16).keep⟩⟩
 ·exact ⟨_, by decide, F_escape_python_read H, .inl ⟨_, rfl, (H.fn 20).keep⟩⟩
 ·exact ⟨_, by decide, F_escape_c_read H, .inl ⟨_, rfl, (H.fn 24).keep⟩⟩
 ·exact ⟨_, by decide, F_escape_rust_read H, .inl ⟨_, rfl, (H.fn 29).keep⟩⟩
 ·exact ⟨_, by decide, F_escape_css_read H, .inl ⟨_, rfl, (H.fn 38).keep⟩⟩
inductive t_is_bare : V -> CF -> Prop
 | lam_0 : t_is_bare (.lam 0) c_lam_0
 | lam_1 : t_is_bare (.lam 1) c_lam_1
 | lam_2 : t_is_bare (.lam 2) c_lam_2
 | lam_3 : t_is_bare (.lam 3) c_lam_3
 | lam_5 : t_is_bare (.lam 5) c_lam_5
theorem h_is_bare : ∀ X F, t_is_bare X F -> ∃ k, k < 6 ∧ F k X ∧ ((∃ a, X = .val (.ref a) ∧ keepIn Ω.K (.ref a) = true) ∨ ∃ kk, X = .lam kk) := by
 intro X F h
 cases h
 ·exact ⟨_, by decide, V_lam_0 H, .inr ⟨_, rfl⟩⟩
 ·exact ⟨_, by decide, V_lam_1 H, .inr ⟨_, rfl⟩⟩
 ·exact ⟨_, by decide, V_lam_2 H, .inr ⟨_, rfl⟩⟩
 ·exact ⟨_, by decide, V_lam_3 H, .inr ⟨_, rfl⟩⟩
 ·exact ⟨_, by decide, V_lam_5 H, .inr ⟨_, rfl⟩⟩
noncomputable def f_escape_read : SF := (.seq (.setT [(.l 6), (.l 5)] [(.newScan c_scan_init (.loc 0)), .newL]) (.seq (.wh (.not (.tru (.meth c_scan_is_over (.loc 6) []))) (.seq (.setL 3 (.attr 1 (.loc 6))) (.seq (.setL 4 (.meth c_scan_take (.loc 6) [(.loc 3)])) (.seq (.ite (.bin (cmpF .Eq) (.loc 4) (.val (.int 92))) (.seq (.exp (.extend (.loc 5) (.callV t_read (.loc 1) [(.loc 6), (.loc 3)]))) .nop) (.seq (.ite (.tru (.callV t_is_bare (.loc 2) [(.loc 4)])) (.seq (.exp (.append (.loc 5) (.loc 4))) .nop) (.seq (.raise 45 (.tup [(.loc 3), (.val (.str "sign"))])) .nop)) .nop)) .nop)))) (.seq (.ret (.loc 5)) .nop)))
noncomputable def c_escape_read : CF := runF false 3 4 [] f_escape_read
theorem D_escape_read : DenB true 6 (gm 13) (bd 13) f_escape_read :=
 (.cons (.setT (ls := [("scan", ⟨127, 4, 127, 8⟩), ("found", ⟨127, 10, 127, 15⟩)]) (.cons (.newScanK (.glo (H.g 64) (fun Z => .val _) rfl) (.loc rfl rfl) (F_scan_init H) H.KK.new (by decide) rfl) (.cons .newL .nil)) rfl (.cons (.l rfl rfl) (.cons (.l rfl rfl) .nil)) rfl rfl (fun κ => rfl) (fun κ => rfl)) (.cons (.wh (.not (.of (.methK (.loc rfl rfl) .nil (F_scan_is_over H) (H.fn 50).keep H.KK.m_is_over (by decide) rfl (by decide) (by decide) rfl))) (.cons (.setL (.attr (j := 1) (.loc rfl rfl) rfl H.KK.sk_place) rfl rfl) (.cons (.setL (.methK (.loc rfl rfl) (.cons (.loc rfl rfl) .nil) (F_scan_take H) (H.fn 52).keep H.KK.m_take (by decide) rfl (by decide) (by decide) rfl) rfl rfl) (.cons (.ite (.cm (.loc rfl rfl) (.glo (H.g 9) (fun Z => .int _ _) rfl)) (.cons (.exp (.extend (.loc rfl rfl) (.callV (.loc rfl rfl) (.cons (.loc rfl rfl) (.cons (.loc rfl rfl) .nil)) (h_read H) rfl) rfl rfl)) .nil) (.cons (.ite (.of (.callV (.loc rfl rfl) (.cons (.loc rfl rfl) .nil) (h_is_bare H) rfl)) (.cons (.exp (.append (.loc rfl rfl) (.loc rfl rfl) rfl rfl)) .nil) (.cons (.raise H.KK.ik_BadEncoding H.KK.if_ (.glo (H.g 62) (fun Z => .val _) rfl) (.tup (.cons (.loc rfl rfl) (.cons .cstr .nil)) rfl) rfl) .nil)) .nil)) .nil)))) (.cons (.ret (.loc rfl rfl)) .nil)))
theorem F_escape_read : Fun 6 225 c_escape_read :=
 H.F 13 (D_escape_read H)
noncomputable def f_unescape_json : SF := (.seq (.retK (.call c_escape_read [(.loc 0), (.val (.val (.ref 247))), (.val (.lam 0))])) .nop)
noncomputable def c_unescape_json : CF := runF false 1 0 [] f_unescape_json
theorem D_unescape_json : DenB true 7 (gm 17) (bd 17) f_unescape_json :=
 (.cons (.retK (.call (.glo (H.g 24) (fun Z => .val _) rfl) (.cons (.loc rfl rfl) (.cons (.glo (H.g 27) (fun Z => .val _) rfl) (.cons (lam_0 H) .nil))) (F_escape_read H) (by decide) (H.fn 13).keep rfl)) .nil)
theorem F_unescape_json : Fun 7 254 c_unescape_json :=
 H.F 17 (D_unescape_json H)
noncomputable def f_unescape_python : SF := (.seq (.retK (.call c_escape_read [(.loc 0), (.val (.val (.ref 276))), (.val (.lam 1))])) .nop)
noncomputable def c_unescape_python : CF := runF false 1 0 [] f_unescape_python
theorem D_unescape_python : DenB true 7 (gm 21) (bd 21) f_unescape_python :=
 (.cons (.retK (.call (.glo (H.g 24) (fun Z => .val _) rfl) (.cons (.loc rfl rfl) (.cons (.glo (H.g 31) (fun Z => .val _) rfl) (.cons (lam_1 H) .nil))) (F_escape_read H) (by decide) (H.fn 13).keep rfl)) .nil)
theorem F_unescape_python : Fun 7 283 c_unescape_python :=
 H.F 21 (D_unescape_python H)
noncomputable def f_unescape_c : SF := (.seq (.retK (.call c_escape_read [(.loc 0), (.val (.val (.ref 305))), (.val (.lam 2))])) .nop)
noncomputable def c_unescape_c : CF := runF false 1 0 [] f_unescape_c
theorem D_unescape_c : DenB true 7 (gm 25) (bd 25) f_unescape_c :=
 (.cons (.retK (.call (.glo (H.g 24) (fun Z => .val _) rfl) (.cons (.loc rfl rfl) (.cons (.glo (H.g 35) (fun Z => .val _) rfl) (.cons (lam_2 H) .nil))) (F_escape_read H) (by decide) (H.fn 13).keep rfl)) .nil)
theorem F_unescape_c : Fun 7 312 c_unescape_c :=
 H.F 25 (D_unescape_c H)
noncomputable def f_unescape_rust : SF := (.seq (.retK (.call c_escape_read [(.loc 0), (.val (.val (.ref 341))), (.val (.lam 3))])) .nop)
noncomputable def c_unescape_rust : CF := runF false 1 0 [] f_unescape_rust
theorem D_unescape_rust : DenB true 7 (gm 30) (bd 30) f_unescape_rust :=
 (.cons (.retK (.call (.glo (H.g 24) (fun Z => .val _) rfl) (.cons (.loc rfl rfl) (.cons (.glo (H.g 40) (fun Z => .val _) rfl) (.cons (lam_3 H) .nil))) (F_escape_read H) (by decide) (H.fn 13).keep rfl)) .nil)
theorem F_unescape_rust : Fun 7 348 c_unescape_rust :=
 H.F 30 (D_unescape_rust H)
noncomputable def f_unescape_css : SF := (.seq (.setL 1 (.call c_escape_read [(.loc 0), (.val (.val (.ref 402))), (.val (.lam 5))])) (.seq (.retK (.comp (.ofE (.loc 1)) (.val (.bool true)) (.ite (.andL [(.bin (cmpF .NotEq) .cv (.val (.int 0))), (.tru (.call c_is_scalar [.cv]))]) .cv (.val (.int 65533))))) .nop))
noncomputable def c_unescape_css : CF := runF false 1 1 [] f_unescape_css
theorem D_unescape_css : DenB true 7 (gm 39) (bd 39) f_unescape_css :=
 (.cons (.setL (.call (.glo (H.g 24) (fun Z => .val _) rfl) (.cons (.loc rfl rfl) (.cons (.glo (H.g 49) (fun Z => .val _) rfl) (.cons (lam_5 H) .nil))) (F_escape_read H) (by decide) (H.fn 13).keep rfl) rfl rfl) (.cons (.retK (.comp (.ofE (.loc rfl rfl)) .nil (.ite (.and (.cons (.cm (.cvar rfl rfl) .cint) (.cons (.of (.call (.gloC (H.g 15) (fun Z => .val _) rfl rfl) (.cons (.cvar rfl rfl) .nil) (F_is_scalar H) (by decide) (H.fn 4).keep rfl)) .nil))) (.cvar rfl rfl) (.gloC (H.g 6) (fun Z => .int _ _) rfl rfl)) ⟨by decide +kernel, by rfl, by decide +kernel, by rfl, by decide +kernel⟩)) .nil))
theorem F_unescape_css : Fun 7 407 c_unescape_css :=
 H.F 39 (D_unescape_css H)
end
section
variable (H : HC)
include H
noncomputable def f_escape_xml_read : SF := (.seq (.ite (.bin (cmpF .Eq) (.meth c_scan_sign (.loc 0) []) (.val (.int 35))) (.seq (.augA 1 (.loc 0) (.val (.int 1))) (.seq (.setL 3 (.val (.int 10))) (.seq (.ite (.bin (cmpF .Eq) (.meth c_scan_sign (.loc 0) []) (.val (.int 120))) (.seq (.augA 1 (.loc 0) (.val (.int 1))) (.seq (.setL 3 (.val (.int 16))) .nop)) .nop) (.seq (.setL 6 (.meth c_scan_number (.loc 0) [(.loc 3), (.val (.int 1)), (.len (.attr 0 (.loc 0))), (.loc 1)])) (.seq (.exp (.meth c_scan_due (.loc 0) [(.val (.int 59)), (.loc 1), (.val (.str "escape"))])) (.seq (.ite (.not (.tru (.call c_escape_is_xml [(.loc 6)]))) (.seq (.raise 45 (.tup [(.loc 1), (.val (.str "code"))])) .nop) .nop) (.seq (.retK (.loc 6)) .nop))))))) .nop) (.seq (.setL 5 .newL) (.seq (.wh (.bin (cmpF .NotEq) (.meth c_scan_sign (.loc 0) []) (.val (.int 59))) (.seq (.exp (.append (.loc 5) (.meth c_scan_take (.loc 0) [(.loc 1)]))) .nop)) (.seq (.augA 1 (.loc 0) (.val (.int 1))) (.seq (.for (nameW (.l 4) (.ofE (.on1 sortK (.loc 2)))) (.seq (.ite (.bin (cmpF .Eq) (.bin subF (.loc 2) (.loc 4)) (.loc 5)) (.seq (.retK (.loc 4)) .nop) .nop) .nop)) (.seq (.raise 45 (.tup [(.loc 1), (.val (.str "name"))])) .nop))))))
noncomputable def c_escape_xml_read : CF := runF false 3 4 [] f_escape_xml_read
theorem D_escape_xml_read : DenB true 4 (gm 34) (bd 34) f_escape_xml_read :=
 (.cons (.ite (.cm (.methK (.loc rfl rfl) .nil (F_scan_sign H) (H.fn 51).keep H.KK.m_sign (by decide) rfl (by decide) (by decide) rfl) .cint) (.cons (.augA (j := 1) .cint (.loc rfl rfl) rfl H.KK.sk_place) (.cons (.setL .cint rfl rfl) (.cons (.ite (.cm (.methK (.loc rfl rfl) .nil (F_scan_sign H) (H.fn 51).keep H.KK.m_sign (by decide) rfl (by decide) (by decide) rfl) .cint) (.cons (.augA (j := 1) .cint (.loc rfl rfl) rfl H.KK.sk_place) (.cons (.setL .cint rfl rfl) .nil)) .nil) (.cons (.setL (.methK (.loc rfl rfl) (.cons (.loc rfl rfl) (.cons .cint (.cons (.len (.blt (H.g 0) b_len (by decide) rfl) (.attr (j := 0) (.loc rfl rfl) rfl H.KK.sk_text) rfl) (.cons (.loc rfl rfl) .nil)))) (F_scan_number H) (H.fn 54).keep H.KK.m_number (by decide) rfl (by decide) (by decide) rfl) rfl rfl) (.cons (.exp (.methK (.loc rfl rfl) (.cons .cint (.cons (.loc rfl rfl) (.cons .cstr .nil))) (F_scan_due H) (H.fn 53).keep H.KK.m_due (by decide) rfl (by decide) (by decide) rfl)) (.cons (.ite (.not (.of (.call (.glo (H.g 43) (fun Z => .val _) rfl) (.cons (.loc rfl rfl) .nil) (F_escape_is_xml H) (by decide) (H.fn 32).keep rfl))) (.cons (.raise H.KK.ik_BadEncoding H.KK.if_ (.glo (H.g 62) (fun Z => .val _) rfl) (.tup (.cons (.loc rfl rfl) (.cons .cstr .nil)) rfl) rfl) .nil) .nil) (.cons (.retK (.loc rfl rfl)) .nil))))))) .nil) (.cons (.setL .newL rfl rfl) (.cons (.wh (.cm (.methK (.loc rfl rfl) .nil (F_scan_sign H) (H.fn 51).keep H.KK.m_sign (by decide) rfl (by decide) (by decide) rfl) .cint) (.cons (.exp (.append (.loc rfl rfl) (.methK (.loc rfl rfl) (.cons (.loc rfl rfl) .nil) (F_scan_take H) (H.fn 52).keep H.KK.m_take (by decide) rfl (by decide) (by decide) rfl) rfl rfl)) .nil)) (.cons (.augA (j := 1) .cint (.loc rfl rfl) rfl H.KK.sk_place) (.cons (.for (.name (.ofE (.sorted (.blt (H.g 80) b_sorted (by decide) rfl) (.loc rfl rfl) rfl)) (.l rfl rfl)) (.cons (.ite (.cm (.sub (.loc rfl rfl) (.loc rfl rfl)) (.loc rfl rfl)) (.cons (.retK (.loc rfl rfl)) .nil) .nil) .nil)) (.cons (.raise H.KK.ik_BadEncoding H.KK.if_ (.glo (H.g 62) (fun Z => .val _) rfl) (.tup (.cons (.loc rfl rfl) (.cons .cstr .nil)) rfl) rfl) .nil))))))
theorem F_escape_xml_read : Fun 4 375 c_escape_xml_read :=
 H.F 34 (D_escape_xml_read H)
noncomputable def f_unescape_xml : SF := (.seq (.setT [(.l 5), (.l 3), (.l 4)] [(.newScan c_scan_init (.loc 0)), .newL, (.call c_escape_xml_names [])]) (.seq (.wh (.not (.tru (.meth c_scan_is_over (.loc 5) []))) (.seq (.setL 1 (.attr 1 (.loc 5))) (.seq (.setL 2 (.meth c_scan_take (.loc 5) [(.loc 1)])) (.seq (.ite (.bin (cmpF .Eq) (.loc 2) (.val (.int 38))) (.seq (.exp (.append (.loc 3) (.call c_escape_xml_read [(.loc 5), (.loc 1), (.loc 4)]))) .nop) (.seq (.ite (.andL [(.bin (cmpF .NotEq) (.loc 2) (.val (.int 60))), (.tru (.call c_escape_is_xml [(.loc 2)]))]) (.seq (.exp (.append (.loc 3) (.loc 2))) .nop) (.seq (.raise 45 (.tup [(.loc 1), (.val (.str "sign"))])) .nop)) .nop)) .nop)))) (.seq (.ret (.loc 3)) .nop)))
noncomputable def c_unescape_xml : CF := runF false 1 5 [] f_unescape_xml
theorem D_unescape_xml : DenB true 5 (gm 35) (bd 35) f_unescape_xml :=
 (.cons (.setT (ls := [("scan", ⟨288, 4, 288, 8⟩), ("found", ⟨288, 10, 288, 15⟩), ("names", ⟨288, 17, 288, 22⟩)]) (.cons (.newScanK (.glo (H.g 64) (fun Z => .val _) rfl) (.loc rfl rfl) (F_scan_init H) H.KK.new (by decide) rfl) (.cons .newL (.cons (.call (.glo (H.g 42) (fun Z => .val _) rfl) .nil (F_escape_xml_names H) (by decide) (H.fn 31).keep rfl) .nil))) rfl (.cons (.l rfl rfl) (.cons (.l rfl rfl) (.cons (.l rfl rfl) .nil))) rfl rfl (fun κ => rfl) (fun κ => rfl)) (.cons (.wh (.not (.of (.methK (.loc rfl rfl) .nil (F_scan_is_over H) (H.fn 50).keep H.KK.m_is_over (by decide) rfl (by decide) (by decide) rfl))) (.cons (.setL (.attr (j := 1) (.loc rfl rfl) rfl H.KK.sk_place) rfl rfl) (.cons (.setL (.methK (.loc rfl rfl) (.cons (.loc rfl rfl) .nil) (F_scan_take H) (H.fn 52).keep H.KK.m_take (by decide) rfl (by decide) (by decide) rfl) rfl rfl) (.cons (.ite (.cm (.loc rfl rfl) .cint) (.cons (.exp (.append (.loc rfl rfl) (.call (.glo (H.g 45) (fun Z => .val _) rfl) (.cons (.loc rfl rfl) (.cons (.loc rfl rfl) (.cons (.loc rfl rfl) .nil))) (F_escape_xml_read H) (by decide) (H.fn 34).keep rfl) rfl rfl)) .nil) (.cons (.ite (.and (.cons (.cm (.loc rfl rfl) .cint) (.cons (.of (.call (.glo (H.g 43) (fun Z => .val _) rfl) (.cons (.loc rfl rfl) .nil) (F_escape_is_xml H) (by decide) (H.fn 32).keep rfl)) .nil))) (.cons (.exp (.append (.loc rfl rfl) (.loc rfl rfl) rfl rfl)) .nil) (.cons (.raise H.KK.ik_BadEncoding H.KK.if_ (.glo (H.g 62) (fun Z => .val _) rfl) (.tup (.cons (.loc rfl rfl) (.cons .cstr .nil)) rfl) rfl) .nil)) .nil)) .nil)))) (.cons (.ret (.loc rfl rfl)) .nil)))
theorem F_unescape_xml : Fun 5 382 c_unescape_xml :=
 H.F 35 (D_unescape_xml H)
noncomputable def f_escape_row : SF := (.seq (.setL 2 .newL) (.seq (.for (nameW (.l 1) (.ofE (.loc 0))) (.seq (.ite (.not (.tru (.call c_is_code [(.loc 1)]))) (.seq (.raise 57 (.loc 1)) .nop) .nop) (.seq (.ite (.bin (cmpF .NotEq) (.loc 2) (.list [])) (.seq (.exp (.append (.loc 2) (.val (.int 32)))) .nop) .nop) (.seq (.exp (.extend (.loc 2) (.bin (binF .Add) (.list [(.val (.int 85)), (.val (.int 43))]) (.call c_escape_digits [(.loc 1), (.val (.int 16)), (.val (.int 4))])))) .nop)))) (.seq (.ret (.loc 2)) .nop)))
noncomputable def c_escape_row : CF := runF false 1 2 [] f_escape_row
theorem D_escape_row : DenB true 2 (gm 40) (bd 40) f_escape_row :=
 (.cons (.setL .newL rfl rfl) (.cons (.for (.name (.ofE (.loc rfl rfl)) (.l rfl rfl)) (.cons (.ite (.not (.of (.call (.glo (H.g 11) (fun Z => .val _) rfl) (.cons (.loc rfl rfl) .nil) (F_is_code H) (by decide) (H.fn 0).keep rfl))) (.cons (.raise H.KK.ik_BadCode H.KK.if_ (.glo (H.g 63) (fun Z => .val _) rfl) (.loc rfl rfl) rfl) .nil) .nil) (.cons (.ite (.cm (.loc rfl rfl) (.list .nil rfl)) (.cons (.exp (.append (.loc rfl rfl) .cint rfl rfl)) .nil) .nil) (.cons (.exp (.extend (.loc rfl rfl) (.op (.list (.cons .cint (.cons .cint .nil)) rfl) (.call (.glo (H.g 19) (fun Z => .val _) rfl) (.cons (.loc rfl rfl) (.cons .cint (.cons (.glo (H.g 8) (fun Z => .int _ _) rfl) .nil))) (F_escape_digits H) (by decide) (H.fn 8).keep rfl)) rfl rfl)) .nil)))) (.cons (.ret (.loc rfl rfl)) .nil)))
theorem F_escape_row : Fun 2 414 c_escape_row :=
 H.F 40 (D_escape_row H)
noncomputable def f_unescape_row : SF := (.seq (.setT [(.l 3), (.l 2)] [(.newScan c_scan_init (.loc 0)), .newL]) (.seq (.exp (.meth c_scan_pass_all (.loc 3) [(.val v_ESCAPE_BLANKS)])) (.seq (.wh (.not (.tru (.meth c_scan_is_over (.loc 3) []))) (.seq (.setL 1 (.attr 1 (.loc 3))) (.seq (.exp (.meth c_scan_due (.loc 3) [(.val (.int 85)), (.loc 1), (.val (.str "escape"))])) (.seq (.exp (.meth c_scan_due (.loc 3) [(.val (.int 43)), (.loc 1), (.val (.str "escape"))])) (.seq (.setL 4 (.meth c_scan_number (.loc 3) [(.val (.int 16)), (.val (.int 4)), (.val (.int 6)), (.loc 1)])) (.seq (.ite (.orL [(.bin (cmpF .Gt) (.loc 4) (.val (.int 1114111))), (.andL [(.not (.tru (.meth c_scan_is_over (.loc 3) []))), (.bin (cmpF .NotIn) (.meth c_scan_sign (.loc 3) []) (.val v_ESCAPE_BLANKS))])]) (.seq (.raise 45 (.tup [(.loc 1), (.val (.str "code"))])) .nop) .nop) (.seq (.exp (.append (.loc 2) (.loc 4))) (.seq (.exp (.meth c_scan_pass_all (.loc 3) [(.val v_ESCAPE_BLANKS)])) .nop)))))))) (.seq (.ret (.loc 2)) .nop))))
noncomputable def c_unescape_row : CF := runF false 1 4 [] f_unescape_row
theorem D_unescape_row : DenB true 3 (gm 41) (bd 41) f_unescape_row :=
 (.cons (.setT (ls := [("scan", ⟨334, 4, 334, 8⟩), ("found", ⟨334, 10, 334, 15⟩)]) (.cons (.newScanK (.glo (H.g 64) (fun Z => .val _) rfl) (.loc rfl rfl) (F_scan_init H) H.KK.new (by decide) rfl) (.cons .newL .nil)) rfl (.cons (.l rfl rfl) (.cons (.l rfl rfl) .nil)) rfl rfl (fun κ => rfl) (fun κ => rfl)) (.cons (.exp (.methK (.loc rfl rfl) (.cons (.glo (H.g 65) (fun Z => r_ESCAPE_BLANKS H Z) rfl) .nil) (F_scan_pass_all H) (H.fn 55).keep H.KK.m_pass_all (by decide) rfl (by decide) (by decide) rfl)) (.cons (.wh (.not (.of (.methK (.loc rfl rfl) .nil (F_scan_is_over H) (H.fn 50).keep H.KK.m_is_over (by decide) rfl (by decide) (by decide) rfl))) (.cons (.setL (.attr (j := 1) (.loc rfl rfl) rfl H.KK.sk_place) rfl rfl) (.cons (.exp (.methK (.loc rfl rfl) (.cons .cint (.cons (.loc rfl rfl) (.cons .cstr .nil))) (F_scan_due H) (H.fn 53).keep H.KK.m_due (by decide) rfl (by decide) (by decide) rfl)) (.cons (.exp (.methK (.loc rfl rfl) (.cons .cint (.cons (.loc rfl rfl) (.cons .cstr .nil))) (F_scan_due H) (H.fn 53).keep H.KK.m_due (by decide) rfl (by decide) (by decide) rfl)) (.cons (.setL (.methK (.loc rfl rfl) (.cons .cint (.cons (.glo (H.g 8) (fun Z => .int _ _) rfl) (.cons .cint (.cons (.loc rfl rfl) .nil)))) (F_scan_number H) (H.fn 54).keep H.KK.m_number (by decide) rfl (by decide) (by decide) rfl) rfl rfl) (.cons (.ite (.or (.cons (.cm (.loc rfl rfl) (.glo (H.g 1) (fun Z => .int _ _) rfl)) (.cons (.and (.cons (.not (.of (.methK (.loc rfl rfl) .nil (F_scan_is_over H) (H.fn 50).keep H.KK.m_is_over (by decide) rfl (by decide) (by decide) rfl))) (.cons (.cm (.methK (.loc rfl rfl) .nil (F_scan_sign H) (H.fn 51).keep H.KK.m_sign (by decide) rfl (by decide) (by decide) rfl) (.glo (H.g 65) (fun Z => r_ESCAPE_BLANKS H Z) rfl)) .nil))) .nil))) (.cons (.raise H.KK.ik_BadEncoding H.KK.if_ (.glo (H.g 62) (fun Z => .val _) rfl) (.tup (.cons (.loc rfl rfl) (.cons .cstr .nil)) rfl) rfl) .nil) .nil) (.cons (.exp (.append (.loc rfl rfl) (.loc rfl rfl) rfl rfl)) (.cons (.exp (.methK (.loc rfl rfl) (.cons (.glo (H.g 65) (fun Z => r_ESCAPE_BLANKS H Z) rfl) .nil) (F_scan_pass_all H) (H.fn 55).keep H.KK.m_pass_all (by decide) rfl (by decide) (by decide) rfl)) .nil)))))))) (.cons (.ret (.loc rfl rfl)) .nil))))
theorem F_unescape_row : Fun 3 421 c_unescape_row :=
 H.F 41 (D_unescape_row H)
end
section
variable (H : HC)
include H
noncomputable def f__law_deck : SF := (.seq (.setT [(.l 2), (.l 3)] [(.compM (.ofE (.slice (.loc 0) (.val .none) (.val (.int 24)))) (.val (.bool true)) (.bin (binF .Mod) (.int .cv) (.val (.int 1000003)))), (.val (.int 5407))]) (.seq (.forR (.l 1) (.loc 2) (.seq (.setL 3 (.bin (binF .Mod) (.bin (binF .Add) (.bin (binF .Add) (.bin (binF .Mult) (.loc 3) (.val (.int 31))) (.loc 1)) (.val (.int 1))) (.val (.int 1000003)))) .nop)) (.seq (.retK (.deck (.loc 2) (.loc 3))) .nop)))
noncomputable def c__law_deck : CF := runF true 1 3 [] f__law_deck
theorem D__law_deck : DenB true 1 (gm 42) (bd 42) f__law_deck :=
 (.cons (.setT (ls := [("left", ⟨351, 4, 351, 8⟩), ("mixed", ⟨351, 10, 351, 15⟩)]) (.cons (.compM (.ofE (.slice (.loc rfl rfl) .none (.some .cint))) .nil (.op (.int (.bltC (H.g 79) b_int (by decide) rfl rfl) (.cvar rfl rfl) rfl) .cint) ⟨by decide +kernel, by rfl, by decide +kernel, by rfl, by decide +kernel⟩) (.cons .cint .nil)) rfl (.cons (.l rfl rfl) (.cons (.l rfl rfl) .nil)) rfl rfl (fun κ => rfl) (fun κ => rfl)) (.cons (.forR (.loc rfl rfl) (.cons (.setL (.op (.op (.op (.op (.loc rfl rfl) .cint) (.loc rfl rfl)) .cint) .cint) rfl rfl) .nil) (.l rfl rfl)) (.cons (.retK (.deck (.loc rfl rfl) (.loc rfl rfl))) .nil)))
theorem F__law_deck : Fun 1 439 c__law_deck :=
 H.F (keep := true) 42 (D__law_deck H)
noncomputable def f__law_draw : SF := (.seq (.ite (.bin (cmpF .NotEq) (.bin subF (.loc 0) (.val (.str "left"))) (.list [])) (.seq (.retK (.bin (binF .Mod) (.pop0 (.bin subF (.loc 0) (.val (.str "left")))) (.loc 1))) .nop) .nop) (.seq (.setMix (.bin (binF .Mod) (.bin (binF .Add) (.bin (binF .Mult) (.bin subF (.loc 0) (.val (.str "mixed"))) (.val (.int 4801))) (.val (.int 97))) (.val (.int 1000003))) (.loc 0)) (.seq (.retK (.bin (binF .Mod) (.bin (binF .FloorDiv) (.bin subF (.loc 0) (.val (.str "mixed"))) (.val (.int 7))) (.loc 1))) .nop)))
noncomputable def c__law_draw : CF := runF false 2 0 [] f__law_draw
theorem D__law_draw : DenB true 1 (gm 43) (bd 43) f__law_draw :=
 (.cons (.ite (.cm (.sub (.loc rfl rfl) .cstr) (.list .nil rfl)) (.cons (.retK (.op (.pop0 (.sub (.loc rfl rfl) .cstr) rfl) (.loc rfl rfl))) .nil) .nil) (.cons (.setMix (.op (.op (.op (.sub (.loc rfl rfl) .cstr) .cint) .cint) .cint) (.loc rfl rfl)) (.cons (.retK (.op (.op (.sub (.loc rfl rfl) .cstr) .cint) (.loc rfl rfl))) .nil)))
theorem F__law_draw : Fun 1 446 c__law_draw :=
 H.F 43 (D__law_draw H)
noncomputable def f__law_written : SF := (.seq (.setL 3 (.val .none)) (.seq (.tryE 57 2 (.seq (.ite (.bin (cmpF .Eq) (.loc 0) (.val (.int 0))) (.seq (.setL 3 (.call c_escape_json [(.loc 1)])) .nop) (.seq (.ite (.bin (cmpF .Eq) (.loc 0) (.val (.int 1))) (.seq (.setL 3 (.call c_escape_python [(.loc 1)])) .nop) (.seq (.ite (.bin (cmpF .Eq) (.loc 0) (.val (.int 2))) (.seq (.setL 3 (.call c_escape_c [(.loc 1)])) .nop) (.seq (.ite (.bin (cmpF .Eq) (.loc 0) (.val (.int 3))) (.seq (.setL 3 (.call c_escape_rust [(.loc 1)])) .nop) (.seq (.setL 3 (.ite (.bin (cmpF .Eq) (.loc 0) (.val (.int 4))) (.call c_escape_xml [(.loc 1)]) (.call c_escape_css [(.loc 1)]))) .nop)) .nop)) .nop)) .nop)) .nop) (.seq (.setL 3 (.told 57 (.loc 2))) .nop)) (.seq (.retK (.loc 3)) .nop)))
noncomputable def c__law_written : CF := runF false 2 2 [] f__law_written
theorem D__law_written : DenB true 6 (gm 44) (bd 44) f__law_written :=
 (.cons (.setL .cnone rfl rfl) (.cons (.tryE H.KK.ik_BadCode.cls (.cons (.ite (.cm (.loc rfl rfl) .cint) (.cons (.setL (.call (.glo (H.g 26) (fun Z => .val _) rfl) (.cons (.loc rfl rfl) .nil) (F_escape_json H) (by decide) (H.fn 15).keep rfl) rfl rfl) .nil) (.cons (.ite (.cm (.loc rfl rfl) .cint) (.cons (.setL (.call (.glo (H.g 30) (fun Z => .val _) rfl) (.cons (.loc rfl rfl) .nil) (F_escape_python H) (by decide) (H.fn 19).keep rfl) rfl rfl) .nil) (.cons (.ite (.cm (.loc rfl rfl) .cint) (.cons (.setL (.call (.glo (H.g 34) (fun Z => .val _) rfl) (.cons (.loc rfl rfl) .nil) (F_escape_c H) (by decide) (H.fn 23).keep rfl) rfl rfl) .nil) (.cons (.ite (.cm (.loc rfl rfl) .cint) (.cons (.setL (.call (.glo (H.g 38) (fun Z => .val _) rfl) (.cons (.loc rfl rfl) .nil) (F_escape_rust H) (by decide) (H.fn 27).keep rfl) rfl rfl) .nil) (.cons (.setL (.ite (.cm (.loc rfl rfl) .cint) (.call (.glo (H.g 44) (fun Z => .val _) rfl) (.cons (.loc rfl rfl) .nil) (F_escape_xml H) (by decide) (H.fn 33).keep rfl) (.call (.glo (H.g 48) (fun Z => .val _) rfl) (.cons (.loc rfl rfl) .nil) (F_escape_css H) (by decide) (H.fn 37).keep rfl)) rfl rfl) .nil)) .nil)) .nil)) .nil)) .nil) (.glo (H.g 63) (fun Z => .val _) rfl) (.cons (.setL (.told (.loc rfl rfl) H.KK.tk_BadCode) rfl rfl) .nil) rfl rfl) (.cons (.retK (.loc rfl rfl)) .nil)))
theorem F__law_written : Fun 6 453 c__law_written :=
 H.F 44 (D__law_written H)
noncomputable def f__law_read : SF := (.seq (.ite (.bin (cmpF .Lt) (.loc 0) (.val (.int 3))) (.seq (.retK (.ite (.bin (cmpF .Eq) (.loc 0) (.val (.int 0))) (.call c_unescape_json [(.loc 1)]) (.ite (.bin (cmpF .Eq) (.loc 0) (.val (.int 1))) (.call c_unescape_python [(.loc 1)]) (.call c_unescape_c [(.loc 1)])))) .nop) .nop) (.seq (.retK (.ite (.bin (cmpF .Eq) (.loc 0) (.val (.int 3))) (.call c_unescape_rust [(.loc 1)]) (.ite (.bin (cmpF .Eq) (.loc 0) (.val (.int 4))) (.call c_unescape_xml [(.loc 1)]) (.call c_unescape_css [(.loc 1)])))) .nop))
noncomputable def c__law_read : CF := runF false 2 0 [] f__law_read
theorem D__law_read : DenB true 8 (gm 45) (bd 45) f__law_read :=
 (.cons (.ite (.cm (.loc rfl rfl) .cint) (.cons (.retK (.ite (.cm (.loc rfl rfl) .cint) (.call (.glo (H.g 28) (fun Z => .val _) rfl) (.cons (.loc rfl rfl) .nil) (F_unescape_json H) (by decide) (H.fn 17).keep rfl) (.ite (.cm (.loc rfl rfl) .cint) (.call (.glo (H.g 32) (fun Z => .val _) rfl) (.cons (.loc rfl rfl) .nil) (F_unescape_python H) (by decide) (H.fn 21).keep rfl) (.call (.glo (H.g 36) (fun Z => .val _) rfl) (.cons (.loc rfl rfl) .nil) (F_unescape_c H) (by decide) (H.fn 25).keep rfl)))) .nil) .nil) (.cons (.retK (.ite (.cm (.loc rfl rfl) .cint) (.call (.glo (H.g 41) (fun Z => .val _) rfl) (.cons (.loc rfl rfl) .nil) (F_unescape_rust H) (by decide) (H.fn 30).keep rfl) (.ite (.cm (.loc rfl rfl) .cint) (.call (.glo (H.g 46) (fun Z => .val _) rfl) (.cons (.loc rfl rfl) .nil) (F_unescape_xml H) (by decide) (H.fn 35).keep rfl) (.call (.glo (H.g 50) (fun Z => .val _) rfl) (.cons (.loc rfl rfl) .nil) (F_unescape_css H) (by decide) (H.fn 39).keep rfl)))) .nil))
theorem F__law_read : Fun 8 460 c__law_read :=
 H.F 45 (D__law_read H)
noncomputable def f__law_lacks : SF := (.seq (.ite (.chain .LtE .LtE (.val (.int 55296)) (.loc 1) (.val (.int 57343))) (.seq (.retK (.bin (cmpF .NotEq) (.loc 0) (.val (.int 1)))) .nop) .nop) (.seq (.retK (.or2 (.and3 (.bin (cmpF .Eq) (.loc 0) (.val (.int 4))) (.bin (cmpF .Lt) (.loc 1) (.val (.int 32))) (.bin (cmpF .NotIn) (.loc 1) (.tup [(.val (.int 9)), (.val (.int 10)), (.val (.int 13))]))) (.and2 (.bin (cmpF .Eq) (.loc 0) (.val (.int 5))) (.bin (cmpF .Eq) (.loc 1) (.val (.int 0)))))) .nop))
noncomputable def c__law_lacks : CF := runF false 2 0 [] f__law_lacks
theorem D__law_lacks : DenB true 1 (gm 46) (bd 46) f__law_lacks :=
 (.cons (.ite (.chain .cint (.loc rfl rfl) .cint) (.cons (.retK (.cm (.loc rfl rfl) .cint)) .nil) .nil) (.cons (.retK (.or2 (.and3 (.cm (.loc rfl rfl) .cint) (.cm (.loc rfl rfl) .cint) (.cm (.loc rfl rfl) (.tup (.cons .cint (.cons .cint (.cons .cint .nil))) rfl))) (.and2 (.cm (.loc rfl rfl) .cint) (.cm (.loc rfl rfl) .cint)))) .nil))
theorem F__law_lacks : Fun 1 467 c__law_lacks :=
 H.F 46 (D__law_lacks H)
noncomputable def f__law_hex : SF := (.seq (.setL 1 (.val (.int 0))) (.seq (.for (nameW (.l 2) (.ofE (.loc 0))) (.seq (.ite (.bin notInB (.loc 2) (.val (.bytes [48, 49, 50, 51, 52, 53, 54, 55, 56, 57, 97, 98, 99, 100, 101, 102, 65, 66, 67, 68, 69, 70].toArray))) (.seq (.retK (.val .none)) .nop) .nop) (.seq (.setL 1 (.bin (binF .Add) (.bin (binF .Mult) (.loc 1) (.val (.int 16))) (.indexB (.val (.bytes [48, 49, 50, 51, 52, 53, 54, 55, 56, 57, 97, 98, 99, 100, 101, 102].toArray)) (.ite (.chain .Lt .Lt (.val (.int 64)) (.loc 2) (.val (.int 71))) (.bin (binF .Add) (.loc 2) (.val (.int 32))) (.loc 2))))) .nop))) (.seq (.retK (.ite (.bin (cmpF .Eq) (.len (.loc 0)) (.val (.int 4))) (.loc 1) (.val .none))) .nop)))
noncomputable def c__law_hex : CF := runF false 1 2 [] f__law_hex
theorem D__law_hex : DenB true 1 (gm 47) (bd 47) f__law_hex :=
 (.cons (.setL .cint rfl rfl) (.cons (.for (.name (.ofE (.loc rfl rfl)) (.l rfl rfl)) (.cons (.ite (.cmp (.loc rfl rfl) .cbytes notInB_ok notInB_bool) (.cons (.retK .cnone) .nil) .nil) (.cons (.setL (.op (.op (.loc rfl rfl) .cint) (.indexB .cbytes (.ite (.chain .cint (.loc rfl rfl) .cint) (.op (.loc rfl rfl) .cint) (.loc rfl rfl)) rfl rfl)) rfl rfl) .nil))) (.cons (.retK (.ite (.cm (.len (.blt (H.g 0) b_len (by decide) rfl) (.loc rfl rfl) rfl) .cint) (.loc rfl rfl) .cnone)) .nil)))
theorem F__law_hex : Fun 1 474 c__law_hex :=
 H.F 47 (D__law_hex H)
end
section
variable (H : HC)
include H
noncomputable def f__law_json : SF := (.seq (.setT [(.l 4), (.l 1), (.l 2)] [(.list []), (.val (.int 0)), (.val .none)]) (.seq (.wh (.bin (cmpF .Lt) (.loc 1) (.len (.loc 0))) (.seq (.setT [(.l 3), (.l 7)] [(.bin subF (.loc 0) (.loc 1)), (.list [(.loc 1)])]) (.seq (.ite (.andL [(.bin (cmpF .IsNot) (.loc 2) (.val .none)), (.bin (cmpF .NotEq) (.slice (.loc 0) (.loc 1) (.bin (binF .Add) (.loc 1) (.val (.int 2)))) (.list [(.val (.int 92)), (.val (.int 117))]))]) (.seq (.retK (.tup [(.val .none), (.list [(.loc 2), (.loc 1)])])) .nop) .nop) (.seq (.ite (.orL [(.bin (cmpF .Eq) (.loc 3) (.val (.int 34))), (.bin (cmpF .Lt) (.loc 3) (.val (.int 32)))]) (.seq (.retK (.tup [(.val .none), (.loc 7)])) .nop) .nop) (.seq (.ite (.bin (cmpF .NotEq) (.loc 3) (.val (.int 92))) (.seq (.setT [(.l 4), (.l 1)] [(.bin (binF .Add) (.loc 4) (.list [(.loc 3)])), (.bin (binF .Add) (.loc 1) (.val (.int 1)))]) .nop) (.seq (.ite (.bin (cmpF .Eq) (.slice (.loc 0) (.bin (binF .Add) (.loc 1) (.val (.int 1))) (.bin (binF .Add) (.loc 1) (.val (.int 2)))) (.list [(.val (.int 117))])) (.seq (.setL 6 (.call c__law_hex [(.slice (.loc 0) (.bin (binF .Add) (.loc 1) (.val (.int 2))) (.bin (binF .Add) (.loc 1) (.val (.int 6))))])) (.seq (.ite (.orL [(.bin (cmpF .Is) (.loc 6) (.val .none)), (.andL [(.bin (cmpF .IsNot) (.loc 2) (.val .none)), (.not (.chain .LtE .LtE (.val (.int 56320)) (.loc 6) (.val (.int 57343))))])]) (.seq (.retK (.tup [(.val .none), (.bin (binF .Add) (.loc 7) (.ite (.bin (cmpF .IsNot) (.loc 2) (.val .none)) (.list [(.loc 2)]) (.list [])))])) .nop) .nop) (.seq (.ite (.bin (cmpF .IsNot) (.loc 2) (.val .none)) (.seq (.setT [(.l 4), (.l 2)] [(.bin (binF .Add) (.slice (.loc 4) (.val .none) (.neg (.val (.int 1)))) (.list [(.bin (binF .Sub) (.bin (binF .Add) (.bin (binF .Add) (.val (.int 65536)) (.bin (binF .Mult) (.bin (binF .Sub) (.bin subF (.loc 4) (.neg (.val (.int 1)))) (.val (.int 55296))) (.val (.int 1024)))) (.loc 6)) (.val (.int 56320)))])), (.val .none)]) .nop) (.seq (.ite (.chain .LtE .LtE (.val (.int 56320)) (.loc 6) (.val (.int 57343))) (.seq (.retK (.tup [(.val .none), (.loc 7)])) .nop) (.seq (.setT [(.l 4), (.l 2)] [(.bin (binF .Add) (.loc 4) (.list [(.loc 6)])), (.ite (.chain .LtE .LtE (.val (.int 55296)) (.loc 6) (.val (.int 56319))) (.loc 1) (.val .none))]) .nop)) .nop)) (.seq (.setL 1 (.bin (binF .Add) (.loc 1) (.val (.int 6)))) .nop)))) (.seq (.setL 5 (.dictI [((.val (.int 34)), (.val (.int 34))), ((.val (.int 92)), (.val (.int 92))), ((.val (.int 47)), (.val (.int 47))), ((.val (.int 98)), (.val (.int 8))), ((.val (.int 102)), (.val (.int 12))), ((.val (.int 110)), (.val (.int 10))), ((.val (.int 114)), (.val (.int 13))), ((.val (.int 116)), (.val (.int 9)))])) (.seq (.ite (.orL [(.bin (cmpF .Eq) (.bin (binF .Add) (.loc 1) (.val (.int 1))) (.len (.loc 0))), (.bin (cmpF .NotIn) (.bin subF (.loc 0) (.bin (binF .Add) (.loc 1) (.val (.int 1)))) (.loc 5))]) (.seq (.retK (.tup [(.val .none), (.loc 7)])) .nop) .nop) (.seq (.setT [(.l 4), (.l 1)] [(.bin (binF .Add) (.loc 4) (.list [(.bin subF (.loc 5) (.bin subF (.loc 0) (.bin (binF .Add) (.loc 1) (.val (.int 1)))))])), (.bin (binF .Add) (.loc 1) (.val (.int 2)))]) .nop)))) .nop)) .nop))))) (.seq (.retK (.ite (.bin (cmpF .Is) (.loc 2) (.val .none)) (.tup [(.loc 4), (.list [])]) (.tup [(.val .none), (.list [(.loc 2), (.len (.loc 0))])]))) .nop)))
noncomputable def c__law_json : CF := runF false 1 7 [] f__law_json
theorem D__law_json : DenB true 2 (gm 48) (bd 48) f__law_json :=
 (.cons (.setT (ls := [("found", ⟨392, 4, 392, 9⟩), ("at", ⟨392, 11, 392, 13⟩), ("begun", ⟨392, 15, 392, 20⟩)]) (.cons (.list .nil rfl) (.cons .cint (.cons .cnone .nil))) rfl (.cons (.l rfl rfl) (.cons (.l rfl rfl) (.cons (.l rfl rfl) .nil))) rfl rfl (fun κ => rfl) (fun κ => rfl)) (.cons (.wh (.cm (.loc rfl rfl) (.len (.blt (H.g 0) b_len (by decide) rfl) (.loc rfl rfl) rfl)) (.cons (.setT (ls := [("code", ⟨394, 8, 394, 12⟩), ("place", ⟨394, 14, 394, 19⟩)]) (.cons (.sub (.loc rfl rfl) (.loc rfl rfl)) (.cons (.list (.cons (.loc rfl rfl) .nil) rfl) .nil)) rfl (.cons (.l rfl rfl) (.cons (.l rfl rfl) .nil)) rfl rfl (fun κ => rfl) (fun κ => rfl)) (.cons (.ite (.and (.cons (.cm (.loc rfl rfl) .cnone) (.cons (.cm (.slice (.loc rfl rfl) (.some (.loc rfl rfl)) (.some (.op (.loc rfl rfl) .cint))) (.list (.cons .cint (.cons .cint .nil)) rfl)) .nil))) (.cons (.retK (.tup (.cons .cnone (.cons (.list (.cons (.loc rfl rfl) (.cons (.loc rfl rfl) .nil)) rfl) .nil)) rfl)) .nil) .nil) (.cons (.ite (.or (.cons (.cm (.loc rfl rfl) .cint) (.cons (.cm (.loc rfl rfl) .cint) .nil))) (.cons (.retK (.tup (.cons .cnone (.cons (.loc rfl rfl) .nil)) rfl)) .nil) .nil) (.cons (.ite (.cm (.loc rfl rfl) .cint) (.cons (.setT (ls := [("found", ⟨400, 12, 400, 17⟩), ("at", ⟨400, 19, 400, 21⟩)]) (.cons (.op (.loc rfl rfl) (.list (.cons (.loc rfl rfl) .nil) rfl)) (.cons (.op (.loc rfl rfl) .cint) .nil)) rfl (.cons (.l rfl rfl) (.cons (.l rfl rfl) .nil)) rfl rfl (fun κ => rfl) (fun κ => rfl)) .nil) (.cons (.ite (.cm (.slice (.loc rfl rfl) (.some (.op (.loc rfl rfl) .cint)) (.some (.op (.loc rfl rfl) .cint))) (.list (.cons .cint .nil) rfl)) (.cons (.setL (.call (.glo (H.g 58) (fun Z => .val _) rfl) (.cons (.slice (.loc rfl rfl) (.some (.op (.loc rfl rfl) .cint)) (.some (.op (.loc rfl rfl) .cint))) .nil) (F__law_hex H) (by decide) (H.fn 47).keep rfl) rfl rfl) (.cons (.ite (.or (.cons (.cm (.loc rfl rfl) .cnone) (.cons (.and (.cons (.cm (.loc rfl rfl) .cnone) (.cons (.not (.chain .cint (.loc rfl rfl) .cint)) .nil))) .nil))) (.cons (.retK (.tup (.cons .cnone (.cons (.op (.loc rfl rfl) (.ite (.cm (.loc rfl rfl) .cnone) (.list (.cons (.loc rfl rfl) .nil) rfl) (.list .nil rfl))) .nil)) rfl)) .nil) .nil) (.cons (.ite (.cm (.loc rfl rfl) .cnone) (.cons (.setT (ls := [("found", ⟨406, 16, 406, 21⟩), ("begun", ⟨406, 23, 406, 28⟩)]) (.cons (.op (.slice (.loc rfl rfl) .none (.some (.neg .cint))) (.list (.cons (.op (.op (.op .cint (.op (.op (.sub (.loc rfl rfl) (.neg .cint)) .cint) .cint)) (.loc rfl rfl)) .cint) .nil) rfl)) (.cons .cnone .nil)) rfl (.cons (.l rfl rfl) (.cons (.l rfl rfl) .nil)) rfl rfl (fun κ => rfl) (fun κ => rfl)) .nil) (.cons (.ite (.chain .cint (.loc rfl rfl) .cint) (.cons (.retK (.tup (.cons .cnone (.cons (.loc rfl rfl) .nil)) rfl)) .nil) (.cons (.setT (ls := [("found", ⟨410, 16, 410, 21⟩), ("begun", ⟨410, 23, 410, 28⟩)]) (.cons (.op (.loc rfl rfl) (.list (.cons (.loc rfl rfl) .nil) rfl)) (.cons (.ite (.chain .cint (.loc rfl rfl) .cint) (.loc rfl rfl) .cnone) .nil)) rfl (.cons (.l rfl rfl) (.cons (.l rfl rfl) .nil)) rfl rfl (fun κ => rfl) (fun κ => rfl)) .nil)) .nil)) (.cons (.setL (.op (.loc rfl rfl) .cint) rfl rfl) .nil)))) (.cons (.setL (.dictI (.cons .cint .cint (.cons .cint .cint (.cons .cint .cint (.cons .cint .cint (.cons .cint .cint (.cons .cint .cint (.cons .cint .cint (.cons .cint .cint .nil)))))))) rfl rfl (by simp) (by decide)) rfl rfl) (.cons (.ite (.or (.cons (.cm (.op (.loc rfl rfl) .cint) (.len (.blt (H.g 0) b_len (by decide) rfl) (.loc rfl rfl) rfl)) (.cons (.cm (.sub (.loc rfl rfl) (.op (.loc rfl rfl) .cint)) (.loc rfl rfl)) .nil))) (.cons (.retK (.tup (.cons .cnone (.cons (.loc rfl rfl) .nil)) rfl)) .nil) .nil) (.cons (.setT (ls := [("found", ⟨416, 12, 416, 17⟩), ("at", ⟨416, 19, 416, 21⟩)]) (.cons (.op (.loc rfl rfl) (.list (.cons (.sub (.loc rfl rfl) (.sub (.loc rfl rfl) (.op (.loc rfl rfl) .cint))) .nil) rfl)) (.cons (.op (.loc rfl rfl) .cint) .nil)) rfl (.cons (.l rfl rfl) (.cons (.l rfl rfl) .nil)) rfl rfl (fun κ => rfl) (fun κ => rfl)) .nil)))) .nil)) .nil))))) (.cons (.retK (.ite (.cm (.loc rfl rfl) .cnone) (.tup (.cons (.loc rfl rfl) (.cons (.list .nil rfl) .nil)) rfl) (.tup (.cons .cnone (.cons (.list (.cons (.loc rfl rfl) (.cons (.len (.blt (H.g 0) b_len (by decide) rfl) (.loc rfl rfl) rfl) .nil)) rfl) .nil)) rfl))) .nil)))
theorem F__law_json : Fun 2 481 c__law_json :=
 H.F 48 (D__law_json H)
end
section
variable (H : HC)
include H
noncomputable def f_law : SF := (.seq (.setC 1 (.call c__law_deck [(.loc 0)])) (.seq (.setComp 13 (.range1 (.call c__law_draw [(.cel 1), (.val (.int 6))])) (.val (.bool true)) (.bin subF (.val v__law_pool) (.call c__law_draw [(.cel 1), (.val (.int 20))]))) (.seq (.for (nameW (.c 2) (.range1 (.val (.int 6)))) (.seq (.setT [(.l 6), (.l 14)] [(.comp (.ofE (.loc 13)) (.tru (.call c__law_lacks [(.cel 2), .cv])) .cv), (.call c__law_written [(.cel 2), (.copy (.loc 13))])]) (.seq (.ite (.bin (cmpF .NotEq) (.loc 6) (.list [])) (.seq (.ite (.bin (cmpF .NotEq) (.loc 14) (.bin subF (.loc 6) (.val (.int 0)))) (.seq (.retK (.val (.bool false))) .nop) .nop) .nop) (.seq (.ite (.orL [(.bin (cmpF .NotEq) (.comp (.ofE (.loc 14)) (.not (.chain .LtE .LtE (.val (.int 32)) .cv (.val (.int 126)))) .cv) (.list [])), (.bin (cmpF .NotEq) (.call c__law_read [(.cel 2), (.loc 14)]) (.loc 13))]) (.seq (.retK (.val (.bool false))) .nop) (.seq (.ite (.andL [(.bin (cmpF .Eq) (.cel 2) (.val (.int 0))), (.bin (cmpF .NotEq) (.call c__law_json [(.copy (.loc 14))]) (.tup [(.loc 13), (.list [])]))]) (.seq (.retK (.val (.bool false))) .nop) .nop) .nop)) .nop)) .nop))) (.seq (.for (rowsW [(.c 2), (.l 8), (.l 1)] (.val v__law_rows)) (.seq (.ite (.bin (cmpF .NotEq) (.copy (.call c__law_read [(.cel 2), (.on1 listB (.loc 8))])) (.loc 1)) (.seq (.retK (.val (.bool false))) .nop) .nop) .nop)) (.seq (.setT [(.l 10), (.l 15), (.l 3)] [(.list []), (.list [(.val (.int 32))]), (.bin subF (.list [(.list [(.val (.int 32))]), (.list [(.val (.int 9))]), (.list [(.val (.int 10)), (.val (.int 32))]), (.list [(.val (.int 13)), (.val (.int 10))])]) (.call c__law_draw [(.cel 1), (.val (.int 4))]))]) (.seq (.for (enumW [(.l 5), (.c 0)] (.loc 13)) (.seq (.setL 7 (.ite (.bin (cmpF .Lt) (.cel 0) (.val (.int 65536))) (.val (.int 4)) (.ite (.bin (cmpF .Lt) (.cel 0) (.val (.int 1048576))) (.val (.int 5)) (.val (.int 6))))) (.seq (.setL 11 (.bin (binF .Add) (.list [(.val (.int 85)), (.val (.int 43))]) (.comp (.rangeD (.bin (binF .Sub) (.loc 7) (.val (.int 1)))) (.val (.bool true)) (.bin subF (.val (.bytes [48, 49, 50, 51, 52, 53, 54, 55, 56, 57, 65, 66, 67, 68, 69, 70].toArray)) (.bin (binF .Mod) (.bin (binF .FloorDiv) (.cel 0) (.bin (binF .Pow) (.val (.int 16)) .cv)) (.val (.int 16))))))) (.seq (.setT [(.l 10), (.l 15)] [(.bin (binF .Add) (.bin (binF .Add) (.loc 10) (.bin mulF (.list [(.val (.int 32))]) (.int (.bin (cmpF .Gt) (.loc 5) (.val (.int 0)))))) (.loc 11)), (.bin (binF .Add) (.bin (binF .Add) (.loc 15) (.loc 11)) (.loc 3))]) .nop)))) (.seq (.ite (.orL [(.bin (cmpF .NotEq) (.call c_escape_row [(.copy (.loc 13))]) (.loc 10)), (.bin (cmpF .NotEq) (.call c_unescape_row [(.loc 15)]) (.loc 13))]) (.seq (.retK (.val (.bool false))) .nop) .nop) (.seq (.setComp 11 (.range1 (.call c__law_draw [(.cel 1), (.val (.int 4))])) (.val (.bool true)) (.bin subF (.val v__law_signs) (.call c__law_draw [(.cel 1), (.val (.int 24))]))) (.seq (.setL 4 (.list [(.val (.int 92)), (.val (.int 117)), (.val (.int 100)), (.val (.int 56)), (.val (.int 51)), (.val (.int 100))])) (.seq (.setL 12 (.list [(.loc 4), (.bin (binF .Add) (.loc 4) (.list [(.val (.int 92)), (.val (.int 117)), (.val (.int 68)), (.val (.int 69)), (.val (.int 48)), (.val (.int 48))])), (.list [(.val (.int 92)), (.val (.int 117)), (.val (.int 48)), (.val (.int 48)), (.val (.int 101)), (.val (.int 57))]), (.slice (.loc 4) (.val .none) (.val (.int 5))), (.list [])])) (.seq (.setL 12 (.bin (binF .Add) (.loc 12) (.list [(.bin (binF .Add) (.loc 4) (.bin subF (.loc 12) (.val (.int 2)))), (.bin (binF .Add) (.loc 4) (.loc 4)), (.bin (binF .Add) (.loc 4) (.list [(.val (.int 92)), (.val (.int 117)), (.val (.int 68)), (.val (.int 67)), (.val (.int 48)), (.val (.int 48))]))]))) (.seq (.setL 11 (.bin (binF .Add) (.loc 11) (.bin subF (.loc 12) (.call c__law_draw [(.cel 1), (.val (.int 8))])))) (.seq (.setL 11 (.bin (binF .Add) (.loc 11) (.comp (.range1 (.call c__law_draw [(.cel 1), (.val (.int 4))])) (.val (.bool true)) (.bin subF (.val v__law_signs) (.call c__law_draw [(.cel 1), (.val (.int 24))]))))) (.seq (.setU [(.l 1), (.l 9)] (.call c__law_json [(.loc 11)])) (.seq (.tryE 45 2 (.seq (.retK (.binX (cmpF .Eq) (.call c_unescape_json [(.copy (.loc 11))]) (.loc 1))) .nop) (.seq (.retK (.and2 (.bin (cmpF .Is) (.loc 1) (.val .none)) (.bin inLF (.bin subF (.told 45 (.loc 2)) (.val (.int 0))) (.loc 9)))) .nop)) .nop)))))))))))))))
theorem D_law : DenB true 9 gam_law (bodyOf (stmtAt 78)) f_law :=
 (.cons (.setC (.call (.glo (H.g 53) (fun Z => .val _) rfl) (.cons (.loc rfl rfl) .nil) (F__law_deck H) (by decide) (H.fn 42).keep rfl) rfl rfl) (.cons (.setComp (.range1 (.blt (H.g 81) b_range (by decide) rfl) (.call (.glo (H.g 54) (fun Z => .val _) rfl) (.cons (.cel rfl rfl) (.cons .cint .nil)) (F__law_draw H) (by decide) (H.fn 43).keep rfl) rfl) .nil (.sub (.gloC (H.g 71) (fun Z => r__law_pool H Z) rfl rfl) (.call (.gloC (H.g 54) (fun Z => .val _) rfl rfl) (.cons (.ccel (j := 1) rfl rfl rfl rfl) (.cons .cint .nil)) (F__law_draw H) (by decide) (H.fn 43).keep rfl)) ⟨by decide +kernel, by rfl, by decide +kernel, by rfl, by decide +kernel⟩ rfl rfl (fun κ => rfl)) (.cons (.for (.name (.range1 (.blt (H.g 81) b_range (by decide) rfl) .cint rfl) (.c rfl rfl)) (.cons (.setT (ls := [("lacks", ⟨422, 8, 422, 13⟩), ("told", ⟨422, 15, 422, 19⟩)]) (.cons (.comp (.ofE (.loc rfl rfl)) (.one (.of (.call (.gloC (H.g 57) (fun Z => .val _) rfl rfl) (.cons (.ccel (j := 2) rfl rfl rfl rfl) (.cons (.cvar rfl rfl) .nil)) (F__law_lacks H) (by decide) (H.fn 46).keep rfl))) (.cvar rfl rfl) ⟨by decide +kernel, by rfl, by decide +kernel, by rfl, by decide +kernel⟩) (.cons (.call (.glo (H.g 55) (fun Z => .val _) rfl) (.cons (.cel rfl rfl) (.cons (.copy (.blt (H.g 78) b_list (by decide) rfl) (.loc rfl rfl) rfl) .nil)) (F__law_written H) (by decide) (H.fn 44).keep rfl) .nil)) rfl (.cons (.l rfl rfl) (.cons (.l rfl rfl) .nil)) rfl rfl (fun κ => rfl) (fun κ => rfl)) (.cons (.ite (.cm (.loc rfl rfl) (.list .nil rfl)) (.cons (.ite (.cm (.loc rfl rfl) (.sub (.loc rfl rfl) .cint)) (.cons (.retK .cbool) .nil) .nil) .nil) (.cons (.ite (.or (.cons (.cm (.comp (.ofE (.loc rfl rfl)) (.one (.not (.chain .cint (.cvar rfl rfl) .cint))) (.cvar rfl rfl) ⟨by decide +kernel, by rfl, by decide +kernel, by rfl, by decide +kernel⟩) (.list .nil rfl)) (.cons (.cm (.call (.glo (H.g 56) (fun Z => .val _) rfl) (.cons (.cel rfl rfl) (.cons (.loc rfl rfl) .nil)) (F__law_read H) (by decide) (H.fn 45).keep rfl) (.loc rfl rfl)) .nil))) (.cons (.retK .cbool) .nil) (.cons (.ite (.and (.cons (.cm (.cel rfl rfl) .cint) (.cons (.cm (.call (.glo (H.g 59) (fun Z => .val _) rfl) (.cons (.copy (.blt (H.g 78) b_list (by decide) rfl) (.loc rfl rfl) rfl) .nil) (F__law_json H) (by decide) (H.fn 48).keep rfl) (.tup (.cons (.loc rfl rfl) (.cons (.list .nil rfl) .nil)) rfl)) .nil))) (.cons (.retK .cbool) .nil) .nil) .nil)) .nil)) .nil))) (.cons (.for (.rows (l := [("way", ⟨430, 8, 430, 11⟩), ("octets", ⟨430, 13, 430, 19⟩), ("due", ⟨430, 21, 430, 24⟩)]) (.glo (H.g 73) (fun Z => r__law_rows H Z) rfl) (.cons (.c rfl rfl) (.cons (.l rfl rfl) (.cons (.l rfl rfl) .nil))) rfl) (.cons (.ite (.cm (.copy (.blt (H.g 78) b_list (by decide) rfl) (.call (.glo (H.g 56) (fun Z => .val _) rfl) (.cons (.cel rfl rfl) (.cons (.lstB (.blt (H.g 78) b_list (by decide) rfl) (.loc rfl rfl) rfl) .nil)) (F__law_read H) (by decide) (H.fn 45).keep rfl) rfl) (.loc rfl rfl)) (.cons (.retK .cbool) .nil) .nil) .nil)) (.cons (.setT (ls := [("row", ⟨433, 4, 433, 7⟩), ("wide", ⟨433, 9, 433, 13⟩), ("gap", ⟨433, 15, 433, 18⟩)]) (.cons (.list .nil rfl) (.cons (.list (.cons .cint .nil) rfl) (.cons (.sub (.list (.cons (.list (.cons .cint .nil) rfl) (.cons (.list (.cons .cint .nil) rfl) (.cons (.list (.cons .cint (.cons .cint .nil)) rfl) (.cons (.list (.cons .cint (.cons .cint .nil)) rfl) .nil)))) rfl) (.call (.glo (H.g 54) (fun Z => .val _) rfl) (.cons (.cel rfl rfl) (.cons .cint .nil)) (F__law_draw H) (by decide) (H.fn 43).keep rfl)) .nil))) rfl (.cons (.l rfl rfl) (.cons (.l rfl rfl) (.cons (.l rfl rfl) .nil))) rfl rfl (fun κ => rfl) (fun κ => rfl)) (.cons (.for (.enum (l := [("k", ⟨434, 8, 434, 9⟩), ("code", ⟨434, 11, 434, 15⟩)]) (.blt (H.g 83) b_enumerate (by decide) rfl) (.loc rfl rfl) rfl (.cons (.l rfl rfl) (.cons (.c rfl rfl) .nil)) rfl rfl) (.cons (.setL (.ite (.cm (.cel rfl rfl) .cint) .cint (.ite (.cm (.cel rfl rfl) .cint) .cint .cint)) rfl rfl) (.cons (.setL (.op (.list (.cons .cint (.cons .cint .nil)) rfl) (.comp (.rangeD (.blt (H.g 81) b_range (by decide) rfl) (.op (.loc rfl rfl) .cint) rfl) .nil (.sub .cbytes (.op (.op (.ccel (j := 0) rfl rfl rfl rfl) (.op .cint (.cvar rfl rfl))) .cint)) ⟨by decide +kernel, by rfl, by decide +kernel, by rfl, by decide +kernel⟩)) rfl rfl) (.cons (.setT (ls := [("row", ⟨437, 8, 437, 11⟩), ("wide", ⟨437, 13, 437, 17⟩)]) (.cons (.op (.op (.loc rfl rfl) (.bin (.list (.cons .cint .nil) rfl) (.int (.blt (H.g 79) b_int (by decide) rfl) (.cm (.loc rfl rfl) .cint) rfl) mul_ok)) (.loc rfl rfl)) (.cons (.op (.op (.loc rfl rfl) (.loc rfl rfl)) (.loc rfl rfl)) .nil)) rfl (.cons (.l rfl rfl) (.cons (.l rfl rfl) .nil)) rfl rfl (fun κ => rfl) (fun κ => rfl)) .nil)))) (.cons (.ite (.or (.cons (.cm (.call (.glo (H.g 51) (fun Z => .val _) rfl) (.cons (.copy (.blt (H.g 78) b_list (by decide) rfl) (.loc rfl rfl) rfl) .nil) (F_escape_row H) (by decide) (H.fn 40).keep rfl) (.loc rfl rfl)) (.cons (.cm (.call (.glo (H.g 52) (fun Z => .val _) rfl) (.cons (.loc rfl rfl) .nil) (F_unescape_row H) (by decide) (H.fn 41).keep rfl) (.loc rfl rfl)) .nil))) (.cons (.retK .cbool) .nil) .nil) (.cons (.setComp (.range1 (.blt (H.g 81) b_range (by decide) rfl) (.call (.glo (H.g 54) (fun Z => .val _) rfl) (.cons (.cel rfl rfl) (.cons .cint .nil)) (F__law_draw H) (by decide) (H.fn 43).keep rfl) rfl) .nil (.sub (.gloC (H.g 72) (fun Z => r__law_signs H Z) rfl rfl) (.call (.gloC (H.g 54) (fun Z => .val _) rfl rfl) (.cons (.ccel (j := 1) rfl rfl rfl rfl) (.cons .cint .nil)) (F__law_draw H) (by decide) (H.fn 43).keep rfl)) ⟨by decide +kernel, by rfl, by decide +kernel, by rfl, by decide +kernel⟩ rfl rfl (fun κ => rfl)) (.cons (.setL (.list (.cons .cint (.cons .cint (.cons .cint (.cons .cint (.cons .cint (.cons .cint .nil)))))) rfl) rfl rfl) (.cons (.setL (.list (.cons (.loc rfl rfl) (.cons (.op (.loc rfl rfl) (.list (.cons .cint (.cons .cint (.cons .cint (.cons .cint (.cons .cint (.cons .cint .nil)))))) rfl)) (.cons (.list (.cons .cint (.cons .cint (.cons .cint (.cons .cint (.cons .cint (.cons .cint .nil)))))) rfl) (.cons (.slice (.loc rfl rfl) .none (.some .cint)) (.cons (.list .nil rfl) .nil))))) rfl) rfl rfl) (.cons (.setL (.op (.loc rfl rfl) (.list (.cons (.op (.loc rfl rfl) (.sub (.loc rfl rfl) .cint)) (.cons (.op (.loc rfl rfl) (.loc rfl rfl)) (.cons (.op (.loc rfl rfl) (.list (.cons .cint (.cons .cint (.cons .cint (.cons .cint (.cons .cint (.cons .cint .nil)))))) rfl)) .nil))) rfl)) rfl rfl) (.cons (.setL (.op (.loc rfl rfl) (.sub (.loc rfl rfl) (.call (.glo (H.g 54) (fun Z => .val _) rfl) (.cons (.cel rfl rfl) (.cons .cint .nil)) (F__law_draw H) (by decide) (H.fn 43).keep rfl))) rfl rfl) (.cons (.setL (.op (.loc rfl rfl) (.comp (.range1 (.blt (H.g 81) b_range (by decide) rfl) (.call (.glo (H.g 54) (fun Z => .val _) rfl) (.cons (.cel rfl rfl) (.cons .cint .nil)) (F__law_draw H) (by decide) (H.fn 43).keep rfl) rfl) .nil (.sub (.gloC (H.g 72) (fun Z => r__law_signs H Z) rfl rfl) (.call (.gloC (H.g 54) (fun Z => .val _) rfl rfl) (.cons (.ccel (j := 1) rfl rfl rfl rfl) (.cons .cint .nil)) (F__law_draw H) (by decide) (H.fn 43).keep rfl)) ⟨by decide +kernel, by rfl, by decide +kernel, by rfl, by decide +kernel⟩)) rfl rfl) (.cons (.setU (ls := [("due", ⟨446, 4, 446, 7⟩), ("places", ⟨446, 9, 446, 15⟩)]) (.call (.glo (H.g 59) (fun Z => .val _) rfl) (.cons (.loc rfl rfl) .nil) (F__law_json H) (by decide) (H.fn 48).keep rfl) (.cons (.l rfl rfl) (.cons (.l rfl rfl) .nil)) rfl (fun κ => rfl) (fun κ => rfl)) (.cons (.tryE H.KK.ik_BadEncoding.cls (.cons (.retK (.cmpX (.call (.glo (H.g 28) (fun Z => .val _) rfl) (.cons (.copy (.blt (H.g 78) b_list (by decide) rfl) (.loc rfl rfl) rfl) .nil) (F_unescape_json H) (by decide) (H.fn 17).keep rfl) (.loc rfl rfl) (cmp_ok _))) .nil) (.glo (H.g 62) (fun Z => .val _) rfl) (.cons (.retK (.and2 (.cm (.loc rfl rfl) .cnone) (.cmp (.sub (.told (.loc rfl rfl) H.KK.tk_BadEncoding) .cint) (.loc rfl rfl) inL_ok))) .nil) rfl rfl) .nil)))))))))))))))
end
noncomputable def st0 (ns : List Int) : AS := ⟨(.gints ns) :: List.replicate 15 .undef, [0, 1, 2], .undef, [.cell0, .cell0, .cell0]⟩
noncomputable def led0 (L : Addr) (o1 o2 o3 : Obj) (b : Addr) : Option (Tag × Obj) :=
 if b = L + 3 then some (.mut 0, o3) else if b = L + 1 then some (.mut 1, o1) else if b = L + 2 then some (.mut 2, o2) else if b ∈ tabsL.map (·.2) then some (.tab, tabObj #[]) else none
theorem walk_law (plain : ∀ ns : List Int, ns.length ≤ 63 -> ∃ st', EvS f_law (st0 ns) (.ret (.bool true)) st') : Claim Ω := by
 intro KK KX TP L fa a cd h₁ tk o1 o2 o3 vs ns m news F hm hL hI hlen B N n1 n2 n3 nt lt c1 c2 c3 hd
 have H : HC := ⟨KK, KX⟩
 obtain ⟨st', hf⟩ := plain ns hlen
 replace nt : ∀ t ∈ tabsL, (t.2, tabObj #[]) ∈ news := fun t h => nt.mem h
 replace lt : ∀ t ∈ tabsL, t.2 < L := fun t h => lt.mem h
 replace hd : ∀ t ∈ tabsL, CodeHd Ω.G t.1 t.2 := fun t h => hd.mem h
 let c : Cx := { A := callerA.deeper (envOfC "law" (scopeOf (stmtAt 78)) L fa cd), A₀ := callerA, base := Ω.G, outer := [], h₀ := Ω.G, L := L, f := fa, cdv := cd, cells := cellsFrom (L + 1) (scopeOf (stmtAt 78)).names [] }
 have hcells : c.cells = [(("code" : Str), L + 3), (("way" : Str), L + 2), (("deck" : Str), L + 1)] := by rfl
 have ok : Cx.Ok c gam_law true 9 := by
  refine ⟨Around.frames_deeper rfl, by decide +kernel, fun κ => rfl, ⟨fun b o e => e, H.KX, TP⟩, by show callerA.depth + 1 + 4 * 9 ≤ 900; decide +kernel, by show callerA.units + 3 + 60 * 9 ≤ 9000; decide +kernel, fun y hy => ?_, by decide +kernel, fun a h => nomatch h⟩
  rw [hcells]
  have : y = "code" ∨ y = "deck" ∨ y = "way" := by simpa [gam_law] using hy
  rcases this with rfl | rfl | rfl
  ·exact ⟨L + 3, by rfl⟩
  ·exact ⟨L + 1, by rfl⟩
  ·exact ⟨L + 2, by rfl⟩
 have ht : ∀ t ∈ tabsL, led0 L o1 o2 o3 t.2 = some (.tab, tabObj #[]) := fun t h => by
  have h1 := lt t h
  have h2 : t.2 ∈ tabsL.map (·.2) := List.mem_map_of_mem h
  unfold led0
  rw [if_neg (Nat.ne_of_lt (Nat.lt_of_lt_of_le h1 (Nat.le_add_right L 3))), if_neg (Nat.ne_of_lt (Nat.lt_of_lt_of_le h1 (Nat.le_add_right L 1))), if_neg (Nat.ne_of_lt (Nat.lt_of_lt_of_le h1 (Nat.le_add_right L 2))), if_pos h2]
 have l3 : led0 L o1 o2 o3 (L + 3) = some (.mut 0, o3) := by unfold led0; rw [if_pos rfl]
 have l1 : led0 L o1 o2 o3 (L + 1) = some (.mut 1, o1) := by unfold led0; rw [if_neg (fun q => by have := Nat.add_left_cancel q; omega), if_pos rfl]
 have l2 : led0 L o1 o2 o3 (L + 2) = some (.mut 2, o2) := by unfold led0; rw [if_neg (fun q => by have := Nat.add_left_cancel q; omega), if_neg (fun q => by have := Nat.add_left_cancel q; omega), if_pos rfl]
 have S : St c gam_law none (c.env gam_law) (fun κ κ => False) [] [L + 3, L + 1, L + 2] (st0 ns) { Ω.s₀ with heap := h₁, toks := tk } := by
  have Si : Sit c gam_law Ω.G m (led0 L o1 o2 o3) h₁ := by
   refine ⟨B, KtsTurn.refl, F, news, N, fun b t o e => ?_⟩
   unfold led0 at e
   split at e
   ·rename_i q; cases e; rw [q]; exact n3
   split at e
   ·rename_i q; cases e; rw [q]; exact n1
   split at e
   ·rename_i q; cases e; rw [q]; exact n2
   split at e
   ·rename_i q
    cases e
    obtain ⟨t, q1, rfl⟩ := List.mem_map.mp q
    exact nt t q1
   ·cases e
  have R : Rel (led0 L o1 o2 o3) (fun κ κ => False) [] [L + 3, L + 1, L + 2] (st0 ns).sto := by
   refine ⟨fun κ κ h => h.elim, (fun κ h => nomatch h), fun i mo e hne => ?_, rfl, fun t h => ⟨_, ht t h, .inl rfl⟩, hd⟩
   match i, e with
   | 0, e => cases e; exact ⟨_, _, rfl, l3, .eCell0 c3⟩
   | 1, e => cases e; exact ⟨_, _, rfl, l1, .eCell0 c1⟩
   | 2, e => cases e; exact ⟨_, _, rfl, l2, .eCell0 c2⟩
  refine ⟨Ω.G, m, led0 L o1 o2 o3, h₁, tk, rfl, Si, R, fun i x X h1 h2 h3 => ?_, fun j x h => ?_, .fn⟩
  ·cases i with
   | zero =>
    cases h1
    cases h2
    exact ⟨_, hm, .pure (.gints hL hI)⟩
   | succ i =>
    refine absurd ?_ h3
    have h4 : (List.replicate 15 V.undef)[i]? = some X := h2
    exact List.eq_of_mem_replicate (List.mem_of_getElem? h4)
  ·match j, h with
   | 0, h => cases h; exact ⟨0, L + 3, rfl, rfl, by rfl⟩
   | 1, h => cases h; exact ⟨1, L + 1, rfl, rfl, by rfl⟩
   | 2, h => cases h; exact ⟨2, L + 2, rfl, rfl, by rfl⟩
 refine wpAny_mono (EvB.run (hf.den (D_law H)) c ok _ _ _ _ S) (fun f s' h => ?_) fun e s' h => h.no
 obtain ⟨Z', as', ex, S', hv⟩ := h
 cases hv with
 | ret hv =>
  obtain ⟨g, m', M', h', t', rfl, Si, R, _, _, _⟩ := S'
  have G : ∀ t ∈ tabsL, GrownAt t.2 h' := fun t h => by
   obtain ⟨o, q1, q2⟩ := R.tab t h
   have q3 := (Si.N _ _ _ q1).1
   rcases q2 with rfl | ⟨pos, qual, c', oc, vs, t', _, rfl, _⟩
   ·exact ⟨_, q3⟩
   ·exact ⟨_, q3⟩
  exact ⟨VV.bool_inv (C := fun u => Flow.ret u = .ret (.bool true)) hv rfl, h', m', t', rfl, ⟨Si.F.ns, fun b o e => Si.F.keep b o (Si.T.other b o e (by simp [c])), F.above⟩,
   G _ (.head _), G _ (.tail _ (.head _)), G _ (.tail _ (.tail _ (.head _))), G _ (.tail _ (.tail _ (.tail _ (.head _)))), G _ (.tail _ (.tail _ (.tail _ (.tail _ (.head _))))), G _ (.tail _ (.tail _ (.tail _ (.tail _ (.tail _ (.head _)))))), trivial⟩
theorem sub_dict {τ : List MO} {D : List (Int × V)} {k : Int} {W : V} (h : atKey D k = some W) : subV τ (.dict D) (.int k) = some W := by
 show Option.or (Option.or (atKey D k) _) _ = _; rw [h]; rfl
theorem rd_ref {τ : List MO} {i : Nat} {xs : List Int} (h : τ[i]? = some (.ints xs)) : rdI τ (.ref i) = some xs := by
 show (τ[i]?).bind MO.ints? = _; rw [h]; rfl
theorem app_int {xs : List Int} {x : Int} (h : xs.length ≤ 1000000) : appM (.ints xs) (.int x) = some (.ints (xs ++ [x])) := by
 show Option.or (Option.or (if _ then _ else _) _) _ = _; rw [if_pos h]; rfl
theorem isL_of {τ : List MO} {i : Nat} {mo : MO} (h : τ[i]? = some mo) (hm : mo.isL = true := by rfl) : isL τ i = true := by unfold isL; rw [h]; exact hm
theorem ext_ints {xs ys : List Int} (h : xs.length + ys.length ≤ 1000000) : extM (.ints xs) (.ints ys) = some (.ints (xs ++ ys)) := if_pos h
theorem sub_ints {τ : List MO} {xs : List Int} {k : Int} : subV τ (.ints xs) (.int k) = (atI xs k).map V.int := Option.or_none (o := (atI xs k).map V.int)
noncomputable def Lo (σ : List MO) : Prop := ∀ x ∈ σ, x.lo σ.length = true
theorem Lo.set {σ : List MO} (h : Lo σ) {i : Nat} {x : MO} (hx : x.lo σ.length = true) : Lo (σ.set i x) := fun y hy => by
 rw [List.length_set]
 rcases List.mem_or_eq_of_mem_set hy with hy | rfl
 ·exact h y hy
 ·exact hx
section
variable {np nl : Nat} {dXs Xs : List V} {f : SF} {σ τ j : List MO} {X : V} {l : List V} {c : List Nat} {v : V} {C : Addr} {r₁ : Fl} {r : Out}
theorem cut_lo (hl : τ.length = σ.length) (hτ : Lo τ) : (τ ++ j).take σ.length = τ ∧ τ.all (·.lo σ.length) = true :=
 ⟨by rw [← hl, List.take_left], List.all_eq_true.mpr fun x hx => by rw [← hl]; exact hτ x hx⟩
theorem run_gen (h : EvS f ⟨Xs ++ dXs ++ List.replicate nl .undef, [], .undef, σ⟩ r₁ ⟨l, c, v, τ ++ j⟩) (hn : Xs.length = np) (hl : τ.length = σ.length) (ho : r₁.out = some r) (hX : r.lo σ.length = true) (hτ : Lo τ) : EvF (runF false np nl dXs f) Xs σ r τ := by
 obtain ⟨e, e2⟩ := cut_lo (j := j) hl hτ
 exact ⟨@fun κ κ D => e ▸ D _ h hn ho fun κ => ⟨hX, e.symm ▸ e2⟩⟩
theorem run_ret (h : EvS f ⟨Xs ++ dXs ++ List.replicate nl .undef, [], .undef, σ⟩ (.ret X) ⟨l, c, v, τ ++ j⟩) (hn : Xs.length = np) (hl : τ.length = σ.length) (hX : X.lo σ.length = true) (hτ : Lo τ) : EvF (runF false np nl dXs f) Xs σ (.ok X) τ := run_gen h hn hl rfl hX hτ
theorem run_next (h : EvS f ⟨Xs ++ dXs ++ List.replicate nl .undef, [], .undef, σ⟩ .next ⟨l, c, v, τ ++ j⟩) (hn : Xs.length = np) (hl : τ.length = σ.length) (hτ : Lo τ) : EvF (runF false np nl dXs f) Xs σ (.ok .none) τ := run_gen h hn hl rfl rfl hτ
theorem run_exn (h : EvS f ⟨Xs ++ dXs ++ List.replicate nl .undef, [], .undef, σ⟩ (.exn C X) ⟨l, c, v, τ ++ j⟩) (hn : Xs.length = np) (hl : τ.length = σ.length) (hτ : Lo τ) : EvF (runF false np nl dXs f) Xs σ (.exn C X) τ := run_gen h hn hl rfl rfl hτ
theorem run_ret0 (h : EvS f ⟨Xs ++ dXs ++ List.replicate nl .undef, [], .undef, σ⟩ (.ret X) ⟨l, c, v, τ⟩) (hn : Xs.length = np := by rfl) (hl : τ.length = σ.length := by rfl) (hX : X.lo σ.length = true := by rfl) (hτ : Lo τ) : EvF (runF false np nl dXs f) Xs σ (.ok X) τ :=
 run_gen (j := []) (by rw [List.append_nil]; exact h) hn hl rfl hX hτ
theorem run_next0 (h : EvS f ⟨Xs ++ dXs ++ List.replicate nl .undef, [], .undef, σ⟩ .next ⟨l, c, v, τ⟩) (hn : Xs.length = np := by rfl) (hl : τ.length = σ.length := by rfl) (hτ : Lo τ) : EvF (runF false np nl dXs f) Xs σ (.ok .none) τ :=
 run_gen (j := []) (by rw [List.append_nil]; exact h) hn hl rfl rfl hτ
theorem run_exn0 (h : EvS f ⟨Xs ++ dXs ++ List.replicate nl .undef, [], .undef, σ⟩ (.exn C X) ⟨l, c, v, τ⟩) (hn : Xs.length = np := by rfl) (hl : τ.length = σ.length := by rfl) (hτ : Lo τ) : EvF (runF false np nl dXs f) Xs σ (.exn C X) τ :=
 run_gen (j := []) (by rw [List.append_nil]; exact h) hn hl rfl rfl hτ
theorem run_keep (h : EvS f ⟨Xs ++ dXs ++ List.replicate nl .undef, [], .undef, σ⟩ (.ret X) ⟨l, c, v, τ⟩) (hn : Xs.length = np := by rfl) : EvF (runF true np nl dXs f) Xs σ (.ok X) τ := ⟨@fun κ κ D => D _ h hn rfl fun q => nomatch q⟩
theorem runC_gen {li ci : List (Option Nat)} {cs : List Nat} (h : EvS f ⟨initL (Xs ++ dXs) li, (List.range ci.length).map (σ.length + ·), .undef, σ ++ initC (Xs ++ dXs) ci⟩ r₁ ⟨l, cs, v, τ ++ j⟩) (hn : Xs.length = np) (hl : τ.length = σ.length) (ho : r₁.out = some r) (hX : r.lo σ.length = true) (hτ : Lo τ) : EvF (runFC np dXs li ci f) Xs σ r τ := by
 obtain ⟨e, e2⟩ := cut_lo (j := j) hl hτ
 exact ⟨@fun κ κ D => Eq.mp (congrArg (FunR _ _ _ _ _) e) (D _ h hn ho ⟨hX, Eq.mpr (congrArg (fun x : List MO => x.all (·.lo σ.length) = true) e) e2⟩)⟩
theorem runL_ret0 {f : EF} (h : EvE f ⟨Xs, [], .undef, σ⟩ (.ok X) ⟨l, c, v, σ⟩) (hn : Xs.length = np := by rfl) (hX : X.lo σ.length = true := by rfl) (hτ : Lo σ) : EvF (runL np f) Xs σ (.ok X) σ := by
 obtain ⟨e, e2⟩ := cut_lo (j := []) rfl hτ
 rw [List.append_nil] at e
 exact ⟨@fun κ κ D => Eq.mp (congrArg (FunR _ _ _ _ _) e) (D _ h hn ⟨hX, Eq.mpr (congrArg (fun x : List MO => x.all (·.lo σ.length) = true) e) e2⟩)⟩
end
theorem V.lo_mono {n m : Nat} (h : n ≤ m) {x : V} (hx : x.lo n = true) : x.lo m = true := by
 cases x <;> first | rfl | exact decide_eq_true (Nat.lt_of_lt_of_le (of_decide_eq_true hx) h)
theorem MO.lo_mono {n m : Nat} (h : n ≤ m) {x : MO} (hx : x.lo n = true) : x.lo m = true := by
 cases x with
 | inst fs => exact List.all_eq_true.mpr fun y hy => V.lo_mono h (List.all_eq_true.mp hx y hy)
 | deck l u => exact Bool.and_eq_true_iff.mpr ⟨V.lo_mono h (Bool.and_eq_true_iff.mp hx).1, V.lo_mono h (Bool.and_eq_true_iff.mp hx).2⟩
 | cell v => exact V.lo_mono h hx
 | _ => rfl
noncomputable def Plain (j : List MO) : Prop := ∀ x ∈ j, ∀ n, x.lo n = true
theorem Plain.nil : Plain [] := fun κ h => nomatch h
theorem Plain.cons {j : List MO} {xs : List Int} (h : Plain j) : Plain (.ints xs :: j) := fun x hx => by
 rcases List.mem_cons.mp hx with rfl | hx
 ·exact fun κ => rfl
 ·exact h x hx
theorem Lo.append {σ j : List MO} (h : Lo σ) (hj : Plain j) : Lo (σ ++ j) := fun x hx => by
 rcases List.mem_append.mp hx with hx | hx
 ·exact MO.lo_mono (by rw [List.length_append]; exact Nat.le_add_right ..) (h x hx)
 ·exact hj x hx _
noncomputable def ss (σ : List MO) (T : List Int) (p : Nat) (j : List MO) : List MO := σ ++ .inst [.ints T, .int p] :: j
section
variable {σ j : List MO} {T r : List Int} {p q : Nat} {x n : Int}
theorem ss_get : (ss σ T p j)[σ.length]? = some (.inst [.ints T, .int p]) := by simp [ss]
theorem ss_set : (ss σ T p j).set σ.length (.inst [.ints T, .int (q : Int)]) = ss σ T q j := by simp [ss]
theorem ss_len : (ss σ T p j).length = (ss σ T q j).length := by simp [ss]
structure Sc (σ : List MO) (T : List Int) (p : Nat) (j : List MO) (r : List Int) : Prop where
 lo : Lo σ
 pl : Plain j
 hT : T.length ≤ 100000
 hr : T.drop p = r
 hp : p ≤ T.length
theorem Sc.all (S : Sc σ T p j r) : Lo (ss σ T p j) := S.lo.append fun x hx => by
 rcases List.mem_cons.mp hx with rfl | hx
 ·exact fun κ => rfl
 ·exact S.pl x hx
theorem Sc.get (S : Sc σ T p j (x :: r)) : T[p]? = some x := by
 have := S.hr
 have h2 := congrArg (·[0]?) this
 simpa using h2
theorem Sc.lt (S : Sc σ T p j (x :: r)) : p < T.length := (List.getElem?_eq_some_iff.mp S.get).1
theorem Sc.next (S : Sc σ T p j (x :: r)) : Sc σ T (p + 1) j r :=
 ⟨S.lo, S.pl, S.hT, by rw [← List.drop_drop, S.hr]; rfl, S.lt⟩
theorem Sc.tail {j' : List MO} (S : Sc σ T p j r) (h : Plain j') : Sc σ T p j' r := ⟨S.lo, h, S.hT, S.hr, S.hp⟩
theorem Sc.end (S : Sc σ T p j []) : p = T.length := by
 have := congrArg List.length S.hr
 simp at this
 have := S.hp
 omega
noncomputable def sg : List Int -> Int
 | [] => -1
 | x :: _ => x
theorem is_range {a b : Int} {f : SF} (hf : f = .seq (.retK (.chain .LtE .LtE (.val (.int a)) (.loc 0) (.val (.int b)))) .nop) (h : Lo σ) : EvF (runF false 1 0 [] f) [.int n] σ (.ok (.bool (decide (a ≤ n) && decide (n ≤ b)))) σ := by
 subst hf
 by_cases h0 : a ≤ n
 ·exact run_ret0 (.one (.retK (.chainT .val (.loc rfl) (congrArg some (decide_eq_true h0)) .val (by rw [decide_eq_true h0]; rfl)))) (hτ := h)
 ·exact run_ret0 (.one (.retK (by rw [decide_eq_false h0]; exact .chainF .val (.loc rfl) (congrArg some (decide_eq_false h0))))) (hτ := h)
noncomputable def inR (a b n : Int) : Bool := decide (a ≤ n) && decide (n ≤ b)
theorem is_code_eq (h : Lo σ) : EvF c_is_code [.int n] σ (.ok (.bool (inR 0 1114111 n))) σ := is_range rfl h
theorem is_high_eq (h : Lo σ) : EvF c_is_high [.int n] σ (.ok (.bool (inR 55296 56319 n))) σ := is_range rfl h
theorem is_low_eq (h : Lo σ) : EvF c_is_low [.int n] σ (.ok (.bool (inR 56320 57343 n))) σ := is_range rfl h
theorem is_surrogate_eq (h : Lo σ) : EvF c_is_surrogate [.int n] σ (.ok (.bool (inR 55296 57343 n))) σ := is_range rfl h
noncomputable def scal (n : Int) : Bool := inR 0 1114111 n && !inR 55296 57343 n
theorem is_scalar_eq (h : Lo σ) : EvF c_is_scalar [.int n] σ (.ok (.bool (scal n))) σ := by
 unfold scal
 cases h0 : inR 0 1114111 n with
 | true => exact run_ret0 (.one (.retK (.and2T (.call (.cons (.loc rfl) .nil) (h0 ▸ is_code_eq h)) (.not (.call (.cons (.loc rfl) .nil) (is_surrogate_eq h)))))) (hτ := h)
 | false => exact run_ret0 (.one (.retK (.and2F (.call (.cons (.loc rfl) .nil) (h0 ▸ is_code_eq h))))) (hτ := h)
noncomputable def dg (c : Int) : Option Int := if inR 48 57 c then some (c - 48) else if inR 65 70 c then some (c - 55) else if inR 97 102 c then some (c - 87) else none
noncomputable def optV : Option Int -> V
 | none => .none
 | some i => .int i
theorem EvE.range {a b : Int} {f : EF} {st s1 : AS} {τ : List MO} {l : List V} {c : List Nat} {v : V} (h : EvE f ⟨l, c, v, τ⟩ (.ok (.int n)) ⟨l, c, v, τ⟩) : EvE (.chain .LtE .LtE (.val (.int a)) f (.val (.int b))) ⟨l, c, v, τ⟩ (.ok (.bool (inR a b n))) ⟨l, c, v, τ⟩ := by
 unfold inR
 by_cases h0 : a ≤ n
 ·exact .chainT .val h (congrArg some (decide_eq_true h0)) .val (by rw [decide_eq_true h0]; rfl)
 ·rw [decide_eq_false h0]; exact .chainF .val h (congrArg some (decide_eq_false h0))
theorem digit_eq (h : Lo σ) : EvF c_escape_digit [.int n] σ (.ok (optV (dg n))) σ := by
 unfold dg
 have e {a b : Int} : EvE (.chain .LtE .LtE (.val (.int a)) (.loc 0) (.val (.int b))) ⟨[.int n], [], .undef, σ⟩ (.ok (.bool (inR a b n))) ⟨[.int n], [], .undef, σ⟩ := .range (st := ⟨[], [], .undef, []⟩) (s1 := ⟨[], [], .undef, []⟩) (.loc rfl)
 cases h1 : inR 48 57 n with
 | true => exact run_ret0 (.seqX (.iteT (h1 ▸ e) (.one (.retK (.op (.loc rfl) .val))))) (hτ := h)
 | false =>
  cases h2 : inR 65 70 n with
  | true => exact run_ret0 (.seq (.iteF (h1 ▸ e) .nop) (.seqX (.iteT (h2 ▸ e) (.one (.retK (.op (.loc rfl) .val)))))) (hτ := h)
  | false =>
   cases h3 : inR 97 102 n with
   | true => exact run_ret0 (.seq (.iteF (h1 ▸ e) .nop) (.seq (.iteF (h2 ▸ e) .nop) (.seqX (.iteT (h3 ▸ e) (.one (.retK (.op (.loc rfl) .val))))))) (hτ := h)
   | false => exact run_ret0 (.seq (.iteF (h1 ▸ e) .nop) (.seq (.iteF (h2 ▸ e) .nop) (.seq (.iteF (h3 ▸ e) .nop) (.one (.retK .val))))) (hτ := h)
theorem rd_ints {τ : List MO} {xs : List Int} : rdI τ (.ints xs) = some xs := rfl
section
variable {l : List V} {c : List Nat} {v : V}
theorem Sc.place (hl : l[0]? = some (.inst σ.length)) : EvE (.attr 1 (.loc 0)) ⟨l, c, v, ss σ T p j⟩ (.ok (.int p)) ⟨l, c, v, ss σ T p j⟩ := .attr (.loc hl) ss_get rfl
theorem Sc.text (hl : l[0]? = some (.inst σ.length)) : EvE (.attr 0 (.loc 0)) ⟨l, c, v, ss σ T p j⟩ (.ok (.ints T)) ⟨l, c, v, ss σ T p j⟩ := .attr (.loc hl) ss_get rfl
theorem Sc.over (S : Sc σ T p j r) (hl : l[0]? = some (.inst σ.length)) : EvE (.bin (cmpF .Eq) (.attr 1 (.loc 0)) (.len (.attr 0 (.loc 0)))) ⟨l, c, v, ss σ T p j⟩ (.ok (.bool r.isEmpty)) ⟨l, c, v, ss σ T p j⟩ := by
 refine .cmp (Sc.place hl) (.len (Sc.text hl) rfl (by have := S.hT; omega)) ?_
 show some ((p : Int) == (T.length : Int)) = _
 cases r with
 | nil => have := S.end; subst this; simp
 | cons x r =>
  have h1 := S.lt
  have h2 : ¬ (p : Int) = T.length := by omega
  exact congrArg some (beq_eq_false_iff_ne.mpr h2)
theorem Sc.step (hl : l[0]? = some (.inst σ.length)) : EvS (.augA 1 (.loc 0) (.val (.int 1))) ⟨l, c, v, ss σ T p j⟩ .next ⟨l, c, v, ss σ T (p + 1) j⟩ := by
 have := EvS.augA (l := l) (c := c) (v := v) (τ := ss σ T p j) (j := 1) (fl'' := [.ints T, .int ((p : Int) + 1)]) (EvE.loc (cl := c) (v := v) hl) ss_get rfl (.val (X := .int 1)) ss_get (rfl : Mine.setA 1 (.int ((p : Int) + 1)) [.ints T, .int p] = some [.ints T, .int ((p : Int) + 1)])
 rwa [show ((p : Int) + 1) = ((p + 1 : Nat) : Int) by omega, ss_set] at this
end
theorem over_eq (S : Sc σ T p j r) : EvF c_scan_is_over [.inst σ.length] (ss σ T p j) (.ok (.bool r.isEmpty)) (ss σ T p j) := run_ret0 (.one (.retK (S.over rfl))) (hτ := S.all)
theorem Sc.item (S : Sc σ T p j (x :: r)) {τ : List MO} : subV τ (.ints T) (.int p) = some (.int x) := by
 have h1 := S.lt
 have h2 := S.hT
 have h3 : 0 ≤ (p : Int) ∧ (p : Int) < 1000000 := by omega
 refine sub_ints.trans ?_
 rw [atI, if_pos h3, Int.toNat_natCast, S.get]; rfl
theorem sign_eq (S : Sc σ T p j r) : EvF c_scan_sign [.inst σ.length] (ss σ T p j) (.ok (.int (sg r))) (ss σ T p j) := by
 cases r with
 | nil => exact run_ret0 (.one (.retK (.iteT (S.over rfl) (.neg .val)))) (hτ := S.all)
 | cons x r => exact run_ret0 (.one (.retK (.iteF (S.over rfl) (.sub (Sc.text rfl) (Sc.place rfl) S.item)))) (hτ := S.all)
theorem take_eq {b : V} (S : Sc σ T p j (x :: r)) (hb : b.isDef = true) : EvF c_scan_take [.inst σ.length, b] (ss σ T p j) (.ok (.int x)) (ss σ T (p + 1) j) :=
 run_ret0 (.seq (.iteF (S.over rfl) .nop) (.seq (Sc.step rfl) (.one (.retK (.sub (Sc.text rfl) (.op (Sc.place rfl) .val (by show some (V.int (((p + 1 : Nat) : Int) - 1)) = some (.int p); congr 2; omega)) S.item))))) (hl := ss_len) (hτ := S.next.all)
theorem take_end {b : Int} (S : Sc σ T p j []) : EvF c_scan_take [.inst σ.length, .int b] (ss σ T p j) (.exn 45 (.tup [.int b, .str "end"])) (ss σ T p j) :=
 run_exn0 (.seqX (.iteT (S.over rfl) (.one (.raise (.tup (.cons (.loc rfl) (.cons .val .nil))))))) (hτ := S.all)
theorem EvE.sign {g : EF} {l : List V} {c : List Nat} {v : V} (S : Sc σ T p j r) (hg : EvE g ⟨l, c, v, ss σ T p j⟩ (.ok (.inst σ.length)) ⟨l, c, v, ss σ T p j⟩) : EvE (.meth c_scan_sign g []) ⟨l, c, v, ss σ T p j⟩ (.ok (.int (sg r))) ⟨l, c, v, ss σ T p j⟩ :=
 .meth hg ss_get .nil (sign_eq S)
theorem due_eq {b w : V} (S : Sc σ T p j (x :: r)) : EvF c_scan_due [.inst σ.length, .int x, b, w] (ss σ T p j) (.ok .none) (ss σ T (p + 1) j) :=
 run_next0 (.seq (.iteF (.cmp (.sign S (.loc rfl)) (.loc rfl) (by show some (!(sg (x :: r) == x)) = _; simp [sg])) .nop) (.one (Sc.step rfl))) (hl := ss_len) (hτ := S.next.all)
theorem due_no {b : Int} {w : Str} (S : Sc σ T p j r) (hx : sg r ≠ x) : EvF c_scan_due [.inst σ.length, .int x, .int b, .str w] (ss σ T p j) (.exn 45 (.tup [.int b, .str w])) (ss σ T p j) :=
 run_exn0 (.seqX (.iteT (.cmp (.sign S (.loc rfl)) (.loc rfl) (by show some (!(sg r == x)) = _; simp [hx])) (.one (.raise (.tup (.cons (.loc rfl) (.cons (.loc rfl) .nil))))))) (hτ := S.all)
theorem escape_scalar_ok {b : V} (h : Lo σ) (hn : scal n = true) : EvF c_escape_scalar [.int n, b] σ (.ok (.int n)) σ :=
 run_ret0 (.seq (.iteF (.not (b := true) (.tru (.call (.cons (.loc rfl) .nil) (hn ▸ is_scalar_eq h)))) .nop) (.one (.retK (.loc rfl)))) (hτ := h)
end
section
variable {σ j : List MO} {T r : List Int} {p q : Nat} {x n : Int} {l : List V} {c : List Nat} {v : V} {st s1 : AS} {i : Nat} {f : EF}
noncomputable def num (base : Int) : Nat -> List Int -> Int -> Option (Nat × Int × List Int)
 | 0, r, v => some (0, v, r)
 | k + 1, r, v => match dg (sg r) with
  | none => some (0, v, r)
  | some d => if d < base then (if small v then (num base k r.tail (v * base + d)).map fun y => (y.1 + 1, y.2) else none) else some (0, v, r)
noncomputable def numT : EF := .bin (cmpF .Lt) (.loc 6) (.loc 3)
noncomputable def numB : SF := (.seq (.setL 5 (.call c_escape_digit [(.meth c_scan_sign (.loc 0) [])])) (.seq (.ite (.orL [(.bin (cmpF .Is) (.loc 5) (.val .none)), (.bin (cmpF .GtE) (.loc 5) (.loc 1))]) (.seq .brk .nop) .nop) (.seq (.setL 7 (.bin (binF .Add) (.bin (binF .Mult) (.loc 7) (.loc 1)) (.loc 5))) (.seq (.addL 6 (.val (.int 1))) (.seq (.augA 1 (.loc 0) (.val (.int 1))) .nop)))))
theorem dg_some {d : Int} (h : dg (sg r) = some d) : ∃ x r', r = x :: r' := by
 cases r with
 | nil => cases h
 | cons x r => exact ⟨x, r, rfl⟩
theorem num_loop {base : Int} {X2 b : V} : ∀ {K F : Nat} {many m : Nat} {u w : Int} {r r' : List Int} {p : Nat} {d : V}, Sc σ T p j r -> num base K r u = some (m, w, r') ->
  ∃ d', EvW numT numB (F + K + 1) ⟨[.inst σ.length, .int base, X2, .int ((many + K : Nat)), b, d, .int (many : Nat), .int u], [], .undef, ss σ T p j⟩ .next
   ⟨[.inst σ.length, .int base, X2, .int ((many + K : Nat)), b, d', .int ((many + m : Nat)), .int w], [], .undef, ss σ T (p + m) j⟩ ∧ Sc σ T (p + m) j r' := by
 intro K
 induction K with
 | zero =>
  intro F many m u w r r' p d S h
  cases h
  exact ⟨d, .wh0 (.cmp (.loc rfl) (.loc rfl) (congrArg some (decide_eq_false (Int.lt_irrefl _)))), S⟩
 | succ K ih =>
  intro F many m u w r r' p d S h
  have ht : ∀ d, EvE numT ⟨[.inst σ.length, .int base, X2, .int ((many + (K + 1) : Nat)), b, d, .int (many : Nat), .int u], [], .undef, ss σ T p j⟩ (.ok (.bool true)) ⟨[.inst σ.length, .int base, X2, .int ((many + (K + 1) : Nat)), b, d, .int (many : Nat), .int u], [], .undef, ss σ T p j⟩ :=
   fun d => .cmp (.loc rfl) (.loc rfl) (congrArg some (decide_eq_true (by omega)))
  have hd := EvS.setL (i := 5) (EvE.call (.cons (.sign (g := .loc 0) (c := []) (v := .undef) (l := [.inst σ.length, .int base, X2, .int ((many + (K + 1) : Nat)), b, d, .int (many : Nat), .int u]) S (.loc rfl)) .nil) (digit_eq S.all))
  unfold num at h
  cases hq : dg (sg r) with
  | none =>
   rw [hq] at h hd
   cases h
   exact ⟨.none, .whB (ht d) (.seq hd (.seqX (.iteT (.orT (.cmp (.loc rfl) .val)) (.one .brk)))), S⟩
  | some e =>
   rw [hq] at h hd
   simp only at h
   by_cases hb : e < base
   ·rw [if_pos hb] at h
    by_cases hs : small u = true
    ·rw [if_pos hs] at h
     obtain ⟨y, r₁, rfl⟩ := dg_some hq
     obtain ⟨⟨m₁, w₁, r₂⟩, h1, h2⟩ := Option.map_eq_some_iff.mp h
     cases h2
     obtain ⟨d', hr, S'⟩ := ih (F := F) (many := many + 1) (d := .int e) S.next h1
     rw [show many + 1 + K = many + (K + 1) by omega, show many + 1 + m₁ = many + (m₁ + 1) by omega, show p + 1 + m₁ = p + (m₁ + 1) by omega] at hr
     rw [show p + 1 + m₁ = p + (m₁ + 1) by omega] at S'
     refine ⟨d', ?_, S'⟩
     refine .wh1 (k := F + K + 1) (ht d) (.seq hd (.seq (.iteF (.orF (.cmp (.loc rfl) .val) (.orF (.cmp (.loc rfl) (.loc rfl) (congrArg some (decide_eq_false (by omega)))) .orN)) .nop) (.seq (.setL (.op (.op (.loc rfl) (.loc rfl) (if_pos hs)) (.loc rfl) rfl)) (.seq (.addL rfl .val) (.one (Sc.step rfl)))))) hr
    ·rw [if_neg hs] at h; cases h
   ·rw [if_neg hb] at h
    cases h
    exact ⟨.int e, .whB (ht d) (.seq hd (.seqX (.iteT (.orF (.cmp (.loc rfl) .val) (.orT (.cmp (.loc rfl) (.loc rfl) (congrArg some (decide_eq_true (by omega)))))) (.one .brk)))), S⟩
theorem number_ok {base : Int} {K least m : Nat} {w : Int} {r' : List Int} {b : V} (S : Sc σ T p j r) (h : num base K r 0 = some (m, w, r')) (hK : K ≤ 100000) (hm : least ≤ m) (hb : b.isDef = true) :
  EvF c_scan_number [.inst σ.length, .int base, .int least, .int (K : Nat), b] (ss σ T p j) (.ok (.int w)) (ss σ T (p + m) j) ∧ Sc σ T (p + m) j r' := by
 obtain ⟨d', hr, S'⟩ := num_loop (F := 1000000 - K - 1) (many := 0) (X2 := .int least) (b := b) (d := .undef) S h
 rw [show 1000000 - K - 1 + K + 1 = 1000000 by omega, Nat.zero_add, Nat.zero_add] at hr
 exact ⟨run_ret0 (.seq (.setU (.tup (.cons .val (.cons .val .nil))) rfl rfl) (.seq (.wh hr) (.seq (.iteF (.cmp (.loc rfl) (.loc rfl) (congrArg some (decide_eq_false (by omega)))) .nop) (.one (.retK (.loc rfl)))))) (hl := ss_len) (hτ := S'.all), S'⟩
theorem number_no {base : Int} {K least m : Nat} {w b : Int} {r' : List Int} (S : Sc σ T p j r) (h : num base K r 0 = some (m, w, r')) (hK : K ≤ 100000) (hm : m < least) :
  EvF c_scan_number [.inst σ.length, .int base, .int least, .int (K : Nat), .int b] (ss σ T p j) (.exn 45 (.tup [.int b, .str "digits"])) (ss σ T (p + m) j) := by
 obtain ⟨d', hr, S'⟩ := num_loop (F := 1000000 - K - 1) (many := 0) (X2 := .int least) (b := .int b) (d := .undef) S h
 rw [show 1000000 - K - 1 + K + 1 = 1000000 by omega, Nat.zero_add, Nat.zero_add] at hr
 exact run_exn0 (.seq (.setU (.tup (.cons .val (.cons .val .nil))) rfl rfl) (.seq (.wh hr) (.seqX (.iteT (.cmp (.loc rfl) (.loc rfl) (congrArg some (decide_eq_true (by omega)))) (.one (.raise (.tup (.cons (.loc rfl) (.cons .val .nil))))))))) (hl := ss_len) (hτ := S'.all)
end
theorem last_get {α : Type} {σ : List α} {x : α} : (σ ++ [x])[σ.length]? = some x := by simp
theorem last_set {α : Type} {σ : List α} {x y : α} : (σ ++ [x]).set σ.length y = σ ++ [y] := by simp
section
variable {σ j : List MO} {T r : List Int} {p q : Nat} {x n : Int} {l : List V} {c : List Nat} {v : V} {st s1 : AS} {i : Nat} {f : EF}
noncomputable def bl (x : Int) : Bool := [32, 9, 10, 12, 13].any (· == x)
theorem pass_loop : ∀ {r : List Int} {p F : Nat}, Sc σ T p j r -> ∃ p', EvW (.bin (cmpF .In) (.meth c_scan_sign (.loc 0) []) (.loc 1)) (.seq (.augA 1 (.loc 0) (.val (.int 1))) .nop) (F + r.length + 1) ⟨[.inst σ.length, v_ESCAPE_BLANKS], [], .undef, ss σ T p j⟩ .next
   ⟨[.inst σ.length, v_ESCAPE_BLANKS], [], .undef, ss σ T p' j⟩ ∧ Sc σ T p' j (r.dropWhile bl) := by
 intro r
 induction r with
 | nil => exact fun {p F} S => ⟨p, .wh0 (.cmp (.sign S (.loc rfl)) (.loc rfl) rfl), S⟩
 | cons x r ih =>
  intro p F S
  have ht : EvE (.bin (cmpF .In) (.meth c_scan_sign (.loc 0) []) (.loc 1)) ⟨[.inst σ.length, v_ESCAPE_BLANKS], [], .undef, ss σ T p j⟩ (.ok (.bool (bl x))) ⟨[.inst σ.length, v_ESCAPE_BLANKS], [], .undef, ss σ T p j⟩ := .cmp (.sign S (.loc rfl)) (.loc rfl) rfl
  rw [List.dropWhile_cons]
  cases hb : bl x with
  | true =>
   obtain ⟨p', h1, h2⟩ := ih (F := F) S.next
   exact ⟨p', .wh1 (k := F + r.length + 1) (hb ▸ ht) (.one (Sc.step rfl)) h1, h2⟩
  | false => exact ⟨p, .wh0 (hb ▸ ht), S⟩
theorem pass_eq (S : Sc σ T p j r) : ∃ p', EvF c_scan_pass_all [.inst σ.length, v_ESCAPE_BLANKS] (ss σ T p j) (.ok .none) (ss σ T p' j) ∧ Sc σ T p' j (r.dropWhile bl) := by
 have hl : r.length ≤ 100000 := by rw [← S.hr, List.length_drop]; have := S.hT; omega
 obtain ⟨p', h1, h2⟩ := pass_loop (F := 1000000 - r.length - 1) S
 rw [show 1000000 - r.length - 1 + r.length + 1 = 1000000 by omega] at h1
 exact ⟨p', run_next0 (.one (.wh h1)) (hl := ss_len) (hτ := h2.all), h2⟩
noncomputable def dgs (base : Int) (least : Nat) : Nat -> Int -> List Int -> Option (List Int)
 | 0, _, _ => none
 | k + 1, n, fd => if 0 < n ∨ fd.length < least then ((subV [] v_HEX_DIGITS (.int (n.fmod base))).bind V.int?).bind (fun x => dgs base least k (n.fdiv base) (fd ++ [x])) else some fd.reverse
noncomputable def digT : EF := .orL [(.bin (cmpF .Gt) (.loc 0) (.val (.int 0))), (.bin (cmpF .Lt) (.len (.loc 3)) (.loc 2))]
noncomputable def digB : SF := .seq (.exp (.append (.loc 3) (.bin subF (.val v_HEX_DIGITS) (.bin (binF .Mod) (.loc 0) (.loc 1))))) (.seq (.fdivL 0 (.loc 1)) .nop)
theorem dig_loop {base : Int} {least : Nat} (hb : base ≠ 0 ∧ base.natAbs < 1073741824) : ∀ {K F : Nat} {n : Int} {fd ds : List Int}, dgs base least K n fd = some ds -> fd.length + K ≤ 1000000 ->
  ∃ n', EvW digT digB (F + K) ⟨[.int n, .int base, .int least, .ref σ.length], [], .undef, σ ++ [.ints fd]⟩ .next ⟨[.int n', .int base, .int least, .ref σ.length], [], .undef, σ ++ [.ints ds.reverse]⟩ ∧ ds.length ≤ fd.length + K := by
 intro K
 induction K with
 | zero => intro F n fd ds h; cases h
 | succ K ih =>
  intro F n fd ds h hl
  have hr : rdI (σ ++ [.ints fd]) (.ref σ.length) = some fd := rd_ref last_get
  have h2 : EvE (.bin (cmpF .Lt) (.len (.loc 3)) (.loc 2)) ⟨[.int n, .int base, .int least, .ref σ.length], [], .undef, σ ++ [.ints fd]⟩ (.ok (.bool (decide (fd.length < least)))) ⟨[.int n, .int base, .int least, .ref σ.length], [], .undef, σ ++ [.ints fd]⟩ :=
   .cmp (.len (.loc rfl) hr (by omega)) (.loc rfl) (congrArg some (decide_eq_decide.mpr (by omega)))
  have h1 : EvE (.bin (cmpF .Gt) (.loc 0) (.val (.int 0))) ⟨[.int n, .int base, .int least, .ref σ.length], [], .undef, σ ++ [.ints fd]⟩ (.ok (.bool (decide (0 < n)))) ⟨[.int n, .int base, .int least, .ref σ.length], [], .undef, σ ++ [.ints fd]⟩ := .cmp (.loc rfl) .val
  unfold dgs at h
  by_cases hc : 0 < n ∨ fd.length < least
  ·rw [if_pos hc] at h
   have ht : EvE digT ⟨[.int n, .int base, .int least, .ref σ.length], [], .undef, σ ++ [.ints fd]⟩ (.ok (.bool true)) ⟨[.int n, .int base, .int least, .ref σ.length], [], .undef, σ ++ [.ints fd]⟩ := by
    by_cases q : 0 < n
    ·exact .orT (decide_eq_true q ▸ h1)
    ·exact .orF (decide_eq_false q ▸ h1) (.orT (decide_eq_true (hc.resolve_left q) ▸ h2))
   refine obind h fun x hx h => obind hx fun X hX hx => ?_
   revert hX; apply V.intE hx; intro hX
   ·obtain ⟨n', h3, h4⟩ := ih (F := F) h (by rw [List.length_append]; exact (by omega : fd.length + 1 + K ≤ 1000000))
    refine ⟨n', .wh1 ht (.seq (.exp (.append (mo := .ints fd) (mo' := .ints (fd ++ [x])) (.loc rfl) (isL_of last_get) (.sub (U := .int (n.fmod base)) (W := .int x) .val (.op (.loc rfl) (.loc rfl) (if_pos hb.1)) hX) last_get (app_int (by omega)))) (.one (.fdivL rfl (.loc rfl) hb))) ?_, ?_⟩
    ·rw [last_set]; exact h3
    ·rw [List.length_append] at h4; exact (by have : ds.length ≤ fd.length + 1 + K := h4; omega)
  ·rw [if_neg hc] at h
   cases h
   refine ⟨n, ?_, by rw [List.length_reverse]; omega⟩
   rw [List.reverse_reverse]
   exact .wh0 (k := F + K) (.orF (decide_eq_false (fun q => hc (.inl q)) ▸ h1) (.orF (decide_eq_false (fun q => hc (.inr q)) ▸ h2) .orN))
theorem digits_eq {base : Int} {least : Nat} {ds : List Int} (h : Lo σ) (hb : base ≠ 0 ∧ base.natAbs < 1073741824) (hd : dgs base least 30 n [] = some ds) : EvF c_escape_digits [.int n, .int base, .int least] σ (.ok (.ints ds)) σ := by
 obtain ⟨n', h1, h2⟩ := dig_loop (F := 1000000 - 30) hb hd (by simp)
 have h3 : ds.length ≤ 30 := by simpa using h2
 have h4 := EvE.rev (f := .loc 3) (st := ⟨[.int n', .int base, .int least, .ref σ.length], [], .undef, σ ++ [.ints ds.reverse]⟩) (xs := ds.reverse) (.loc rfl) (rd_ref last_get) (by rw [List.length_reverse]; omega)
 rw [List.reverse_reverse] at h4
 exact run_ret (j := [.ints ds.reverse]) (.seq (.setL .newL) (.seq (.wh h1) (.one (.retK h4)))) rfl rfl rfl h
end
section
variable {σ j : List MO} {T r : List Int} {p q : Nat} {x n : Int} {l : List V} {c : List Nat} {v : V} {st s1 : AS} {i : Nat} {f : EF}
theorem EvI.ints {i : Tg} {t : List Int} (h : EvE f st (.ok (.ints t)) s1) : EvI (nameW i (.ofE f)) st (t.map fun x => [(i, .int x)]) s1 := by
 have := EvI.name (i := i) (EvG.ofE h (Vs := t.map .int))
 rw [List.map_map] at this; exact this
theorem EvS.retLast {xs : List Int} (h : EvE f ⟨l, c, v, σ ++ [.ints xs]⟩ (.ok (.ref σ.length)) ⟨l, c, v, σ ++ [.ints xs]⟩) : EvS (.ret f) ⟨l, c, v, σ ++ [.ints xs]⟩ (.ret (.ints xs)) ⟨l, c, v, σ ++ [.gone]⟩ := by
 have := EvS.ret h last_get; rwa [last_set] at this
theorem EvS.retLastL {xs : List V} (h : EvE f ⟨l, c, v, σ ++ [.list xs]⟩ (.ok (.ref σ.length)) ⟨l, c, v, σ ++ [.list xs]⟩) : EvS (.ret f) ⟨l, c, v, σ ++ [.list xs]⟩ (.ret (.lst xs)) ⟨l, c, v, σ ++ [.gone]⟩ := by
 have := EvS.retL h last_get; rwa [last_set] at this
theorem isL_last {xs : List Int} : isL (σ ++ [.ints xs]) σ.length = true := isL_of last_get
theorem EvS.extLast {g : EF} {xs ys : List Int} (h : EvE f ⟨l, c, v, σ ++ [.ints xs]⟩ (.ok (.ref σ.length)) ⟨l, c, v, σ ++ [.ints xs]⟩) (h2 : EvE g ⟨l, c, v, σ ++ [.ints xs]⟩ (.ok (.ints ys)) ⟨l, c, v, σ ++ [.ints xs]⟩) (hl : xs.length + ys.length ≤ 1000000) :
  EvS (.exp (.extend f g)) ⟨l, c, v, σ ++ [.ints xs]⟩ .next ⟨l, c, v, σ ++ [.ints (xs ++ ys)]⟩ := by
 have := EvE.extend (mo' := .ints (xs ++ ys)) h isL_last h2 last_get (if_pos hl); rw [last_set] at this; exact .exp this
theorem EvS.appLast {g : EF} {xs : List Int} {y : Int} (h : EvE f ⟨l, c, v, σ ++ [.ints xs]⟩ (.ok (.ref σ.length)) ⟨l, c, v, σ ++ [.ints xs]⟩) (h2 : EvE g ⟨l, c, v, σ ++ [.ints xs]⟩ (.ok (.int y)) ⟨l, c, v, σ ++ [.ints xs]⟩) (hl : xs.length ≤ 1000000) :
  EvS (.exp (.append f g)) ⟨l, c, v, σ ++ [.ints xs]⟩ .next ⟨l, c, v, σ ++ [.ints (xs ++ [y])]⟩ := by
 have := EvE.append (mo' := .ints (xs ++ [y])) h isL_last h2 last_get (app_int hl); rw [last_set] at this; exact .exp this
noncomputable def shM : List Bool -> MO
 | [] => .ints []
 | bs => .list (bs.map .bool)
noncomputable def shV : List Bool -> V
 | [] => .ints []
 | bs => .lst (bs.map .bool)
theorem shM_app {bs : List Bool} {b : Bool} (h : bs.length ≤ 1000000) : appM (shM bs) (.bool b) = some (shM (bs ++ [b])) := by
 cases bs with
 | nil => rfl
 | cons a r =>
  show (if V.pureB (.bool b) = true ∧ ((a :: r).map V.bool).length ≤ 1000000 then some (MO.list ((a :: r).map V.bool ++ [.bool b])) else none) = _
  rw [if_pos ⟨rfl, by rw [List.length_map]; exact h⟩]
  simp [shM]
theorem shM_isL {bs : List Bool} : isL (σ ++ [shM bs]) σ.length = true := by
 unfold isL; rw [last_get]; cases bs <;> rfl
theorem listV_shV {bs : List Bool} : listV (shV bs) = some (bs.map .bool) := by cases bs <;> rfl
noncomputable def shB : SF := .seq (.ite (.chain .LtE .LtE (.val (.int 32)) (.loc 2) (.val (.int 126))) (.seq (.setL 4 (.val (.bool true))) .nop) (.seq (.ite (.orL [(.bin (cmpF .Is) (.loc 1) (.val .none)), (.bin (cmpF .LtE) (.loc 2) (.val (.int 159)))]) (.seq (.setL 4 (.val (.bool false))) .nop) (.seq (.ite .fail (.seq (.setL 4 .fail) .nop) .nop) .nop)) .nop)) (.seq (.exp (.append (.loc 3) (.loc 4))) .nop)
theorem shown_loop {X : V} : ∀ {t : List Int} {bs : List Bool} {a2 : V} {b4 : Bool}, bs.length + t.length ≤ 1000000 -> ∃ X2 X4, EvFor shB (t.map fun x => [(.l 2, .int x)]) ⟨[X, .none, a2, .ref σ.length, .bool b4], [], .undef, σ ++ [shM bs]⟩ .next
  ⟨[X, .none, X2, .ref σ.length, X4], [], .undef, σ ++ [shM (bs ++ t.map (inR 32 126))]⟩ := by
 intro t
 induction t with
 | nil => intro bs a2 b4 _; exact ⟨a2, .bool b4, by simp only [List.map_nil, List.append_nil]; exact .for0⟩
 | cons x t ih =>
  intro bs a2 b4 hl
  rw [List.length_cons] at hl
  obtain ⟨X2, X4, h⟩ := ih (bs := bs ++ [inR 32 126 x]) (a2 := .int x) (b4 := inR 32 126 x) (by rw [List.length_append]; exact (by omega : bs.length + 1 + t.length ≤ 1000000))
  refine ⟨X2, X4, .for1 rfl (.seq (s1 := ⟨[X, .none, .int x, .ref σ.length, .bool (inR 32 126 x)], [], .undef, σ ++ [shM bs]⟩) ?_ (.one (.exp (.append (.loc rfl) shM_isL (.loc rfl) last_get (shM_app (by omega)))))) ?_⟩
  ·have e : EvE (.chain .LtE .LtE (.val (.int 32)) (.loc 2) (.val (.int 126))) ⟨[X, .none, .int x, .ref σ.length, .bool b4], [], .undef, σ ++ [shM bs]⟩ (.ok (.bool (inR 32 126 x))) ⟨[X, .none, .int x, .ref σ.length, .bool b4], [], .undef, σ ++ [shM bs]⟩ := .range (st := ⟨[], [], .undef, []⟩) (s1 := ⟨[], [], .undef, []⟩) (.loc rfl)
   cases hb : inR 32 126 x with
   | true => exact .iteT (hb ▸ e) (.one (.setL .val))
   | false => exact .iteF (hb ▸ e) (.one (.iteT (.orT (.cmp (.loc rfl) .val)) (.one (.setL .val))))
  ·rw [last_set]
   rw [List.append_assoc] at h
   exact h
theorem shown_eq {t : List Int} (h : Lo σ) (ht : t.length ≤ 1000000) : EvF c_escape_shown [.ints t, .none] σ (.ok (shV (t.map (inR 32 126)))) σ := by
 obtain ⟨X2, X4, h1⟩ := shown_loop (σ := σ) (X := .ints t) (t := t) (bs := []) (a2 := .undef) (b4 := false) (by simpa using ht)
 have h2 : EvS (.ret (.loc 3)) ⟨[.ints t, .none, X2, .ref σ.length, X4], [], .undef, σ ++ [shM (t.map (inR 32 126))]⟩ (.ret (shV (t.map (inR 32 126)))) ⟨[.ints t, .none, X2, .ref σ.length, X4], [], .undef, σ ++ [.gone]⟩ := by
  cases t with
  | nil => exact .retLast (.loc rfl)
  | cons a t => exact .retLastL (.loc rfl)
 exact run_ret (j := [.gone]) (.seq (.setT (.cons .newL (.cons .val .nil)) ⟨rfl, Nat.le_succ 2⟩ rfl) (.seq (.for (.ints (.loc rfl)) h1) (.one h2))) rfl rfl (by cases t <;> rfl) h
noncomputable def wrB : SF := .seq (.ite (.bin (cmpF .In) (.loc 4) (.loc 2)) (.seq (.exp (.extend (.loc 5) (.bin subF (.loc 2) (.loc 4)))) .nop) (.seq (.ite (.tru (.loc 6)) (.seq (.exp (.append (.loc 5) (.loc 4))) .nop) (.seq (.exp (.extend (.loc 5) (.callV t_write (.loc 3) [(.loc 4)]))) .nop)) .nop)) .nop
noncomputable def Writes (short : List (Int × V)) (F : CF) (ch : Int -> List Int) (c : Int) : Prop :=
 (ch c).length ≤ 100 ∧ (atKey short c = some (.ints (ch c)) ∨ (atKey short c = none ∧ ((inR 32 126 c = true ∧ ch c = [c]) ∨ (inR 32 126 c = false ∧ ∀ σ, Lo σ -> EvF F [.int c] σ (.ok (.ints (ch c))) σ))))
theorem written_loop {X0 W : V} {F : CF} {short : List (Int × V)} {ch : Int -> List Int} (hW : t_write W F) (hd : W.isDef = true) (hσ : Lo σ) : ∀ {t fd : List Int} {a4 a6 : V}, (∀ c ∈ t, Writes short F ch c) -> fd.length + 100 * t.length ≤ 1000000 ->
  ∃ X4 X6, EvFor wrB (t.map fun x => [(.l 4, .int x), (.l 6, .bool (inR 32 126 x))]) ⟨[X0, .none, .dict short, W, a4, .ref σ.length, a6], [], .undef, σ ++ [.ints fd]⟩ .next
   ⟨[X0, .none, .dict short, W, X4, .ref σ.length, X6], [], .undef, σ ++ [.ints (fd ++ t.flatMap ch)]⟩ := by
 intro t
 induction t with
 | nil => intro fd a4 a6 _ _; exact ⟨a4, a6, by rw [List.flatMap_nil, List.append_nil]; exact .for0⟩
 | cons x t ih =>
  intro fd a4 a6 hw hl
  rw [List.length_cons] at hl
  obtain ⟨h0, h1⟩ := hw x (.head _)
  obtain ⟨X4, X6, h⟩ := ih (fd := fd ++ ch x) (a4 := .int x) (a6 := .bool (inR 32 126 x)) (fun c hc => hw c (.tail _ hc)) (by rw [List.length_append]; omega)
  rw [List.append_assoc] at h
  refine ⟨X4, X6, .for1 rfl (.one (s1 := ⟨[X0, .none, .dict short, W, .int x, .ref σ.length, .bool (inR 32 126 x)], [], .undef, σ ++ [.ints (fd ++ ch x)]⟩) ?_) h⟩
  rcases h1 with h1 | ⟨h1, h2⟩
  ·exact .iteT (.cmp (.loc rfl) (.loc rfl) (by show some (atKey short x).isSome = _; rw [h1]; rfl)) (.one (.extLast (.loc rfl) (.sub (X := .dict short) (U := .int x) (W := .ints (ch x)) (.loc rfl) (.loc rfl) (sub_dict h1)) (by omega)))
  ·refine .iteF (.cmp (.loc rfl) (.loc rfl) (by show some (atKey short x).isSome = _; rw [h1]; rfl)) (.one ?_)
   rcases h2 with ⟨h2, h3⟩ | ⟨h2, h3⟩
   ·rw [h2, h3]
    exact .iteT (.tru (.loc rfl)) (.one (.appLast (.loc rfl) (.loc rfl) (by omega)))
   ·rw [h2]
    exact .iteF (.tru (.loc rfl)) (.one (.extLast (.loc rfl) (.callV (.loc rfl hd) hW (.cons (.loc rfl) .nil) (h3 _ (hσ.append (Plain.nil.cons)))) (by omega)))
theorem written_eq {W : V} {F : CF} {short : List (Int × V)} {ch : Int -> List Int} {t : List Int} (hW : t_write W F) (hd : W.isDef = true) (hσ : Lo σ) (hw : ∀ c ∈ t, Writes short F ch c) (hl : t.length ≤ 1000) :
  EvF c_escape_written [.ints t, .none, .dict short, W] σ (.ok (.ints (t.flatMap ch))) σ := by
 obtain ⟨X4, X6, h1⟩ := written_loop (σ := σ) (X0 := .ints t) (fd := []) (a4 := .undef) (a6 := .undef) hW hd hσ hw (by simp; omega)
 have h2 : EvE (.call c_escape_shown [(.loc 0), (.loc 1)]) ⟨[.ints t, .none, .dict short, W, .undef, .ref σ.length, .undef], [], .undef, σ ++ [.ints []]⟩ (.ok (shV (t.map (inR 32 126)))) ⟨[.ints t, .none, .dict short, W, .undef, .ref σ.length, .undef], [], .undef, σ ++ [.ints []]⟩ :=
  .call (.cons (.loc rfl) (.cons (.loc rfl) .nil)) (shown_eq (hσ.append Plain.nil.cons) (by omega))
 have hz := EvI.zip (is := [.l 4, .l 6]) (EvE.loc (i := 0) rfl) h2 (rfl : listV (.ints t) = some (t.map .int)) listV_shV
 rw [show pairUps [.l 4, .l 6] (t.map V.int) ((t.map (inR 32 126)).map V.bool) = t.map fun x => [(.l 4, .int x), (.l 6, .bool (inR 32 126 x))] by unfold pairUps; rw [List.map_map, List.zip_map', List.map_map]; rfl] at hz
 exact run_ret (j := [.gone]) (.seq (.setL .newL) (.seq (.for hz h1) (.one (.retLast (.loc rfl))))) rfl rfl rfl hσ
end
section
variable {σ j τ : List MO} {T r : List Int} {p q : Nat} {x n : Int} {l : List V} {c : List Nat} {v : V} {st s1 : AS} {i : Nat} {f : EF}
noncomputable def foldD (tt : Int -> Bool) (kf : Int -> Int) (gv : Int -> V) : List Int -> List (Int × V) -> List (Int × V)
 | [], acc => acc
 | k :: ks, acc => if tt k then foldD tt kf gv ks (storeV acc (kf k) (gv k)) else foldD tt kf gv ks acc
theorem storeV_len (acc : List (Int × V)) (k : Int) (u : V) : (storeV acc k u).length ≤ acc.length + 1 := by
 unfold storeV; split
 ·rw [List.length_map]; exact Nat.le_succ _
 ·rw [List.length_append]; exact Nat.le_refl _
theorem compD_loop {t f g : EF} {tt : Int -> Bool} {kf : Int -> Int} {gv : Int -> V} : ∀ {ks : List Int} {acc : List (Int × V)} {v : V}, (∀ k ∈ ks, EvE t ⟨l, c, .int k, τ⟩ (.ok (.bool (tt k))) ⟨l, c, .int k, τ⟩ ∧ (tt k = true -> EvE f ⟨l, c, .int k, τ⟩ (.ok (.int (kf k))) ⟨l, c, .int k, τ⟩ ∧ EvE g ⟨l, c, .int k, τ⟩ (.ok (gv k)) ⟨l, c, .int k, τ⟩ ∧ (gv k).pureB = true)) ->
  acc.length + ks.length ≤ 1000000 -> ∃ v', EvCo t (DStep f g) (ks.map .int) acc ⟨l, c, v, τ⟩ (foldD tt kf gv ks acc) ⟨l, c, v', τ⟩ := by
 intro ks
 induction ks with
 | nil => exact fun {acc v} κ κ => ⟨v, .nil⟩
 | cons k ks ih =>
  intro acc v h hl
  rw [List.length_cons] at hl
  obtain ⟨h1, h2⟩ := h k (.head _)
  have hh : ∀ k ∈ ks, _ := fun k hk => h k (.tail _ hk)
  rw [List.map_cons, foldD]
  cases q : tt k with
  | true =>
   obtain ⟨h3, h4, h5⟩ := h2 q
   have h6 := storeV_len acc (kf k) (gv k)
   obtain ⟨v', h7⟩ := ih (acc := storeV acc (kf k) (gv k)) (v := .int k) hh (by omega)
   exact ⟨v', .take (q ▸ h1) ⟨_, _, _, h3, h4, h5, by omega, rfl⟩ (by rw [if_pos rfl]; exact h7)⟩
  | false =>
   obtain ⟨v', h7⟩ := ih (acc := acc) (v := .int k) hh (by omega)
   exact ⟨v', .skip (q ▸ h1) (by rw [if_neg Bool.false_ne_true]; exact h7)⟩
noncomputable def shortD (D : List (Int × V)) (lv : V) (b : Int -> Bool) : List (Int × V) := foldD b (fun k => match atKey D k with | some (.int u) => u | _ => 0) (fun k => .ints [92, k]) (D.map (·.1)) []
theorem short_eq {D : List (Int × V)} {lv : V} {b : Int -> Bool} (h : Lo σ) (hD : ∀ k ∈ D.map (·.1), ∃ u, atKey D k = some (.int u)) (hlv : lv.isDef = true) (hlo : ∀ n, lv.lo n = true) (hb : ∀ σ k, eqV σ (.int k) lv = some (!b k)) (hl : D.length ≤ 1000) :
  EvF c_escape_short [.dict D, lv] σ (.ok (.dict (shortD D lv b))) σ := by
 have h0 : (σ ++ [MO.cell lv, .cell (.dict D)])[σ.length + 0]? = some (.cell lv) := by simp
 have h1 : (σ ++ [MO.cell lv, .cell (.dict D)])[σ.length + 1]? = some (.cell (.dict D)) := by simp
 have hstep : ∀ k ∈ D.map (·.1), EvE (.bin (cmpF .NotEq) .cv (.cel 0)) ⟨[], [σ.length + 0, σ.length + 1], .int k, σ ++ [.cell lv, .cell (.dict D)]⟩ (.ok (.bool (b k))) ⟨[], [σ.length + 0, σ.length + 1], .int k, σ ++ [.cell lv, .cell (.dict D)]⟩ ∧
   (b k = true -> EvE (.bin subF (.cel 1) .cv) ⟨[], [σ.length + 0, σ.length + 1], .int k, σ ++ [.cell lv, .cell (.dict D)]⟩ (.ok (.int (match atKey D k with | some (.int u) => u | _ => 0))) ⟨[], [σ.length + 0, σ.length + 1], .int k, σ ++ [.cell lv, .cell (.dict D)]⟩ ∧
    EvE (.list [(.val (.int 92)), .cv]) ⟨[], [σ.length + 0, σ.length + 1], .int k, σ ++ [.cell lv, .cell (.dict D)]⟩ (.ok (.ints [92, k])) ⟨[], [σ.length + 0, σ.length + 1], .int k, σ ++ [.cell lv, .cell (.dict D)]⟩ ∧ (V.ints [92, k]).pureB = true) := by
  refine fun k hk => ⟨.cmp .cv (.cel rfl h0 ) (by show (eqV _ (.int k) lv).map (!·) = _; rw [hb]; simp), fun κ => ⟨?_, .list (.cons .val (.cons .cv .nil)), rfl⟩⟩
  obtain ⟨u, hu⟩ := hD k hk
  simp only [hu]
  exact .sub (X := .dict D) (U := .int k) (.cel rfl h1) .cv (sub_dict hu)
 obtain ⟨v', hv⟩ := compD_loop (v := .undef) (kf := fun k => match atKey D k with | some (.int u) => u | _ => 0) (gv := fun k => .ints [92, k]) (acc := []) hstep (by simp; omega)
 have e : EvS f_escape_short ⟨[], [σ.length + 0, σ.length + 1], .undef, σ ++ [.cell lv, .cell (.dict D)]⟩ (.ret (.dict (shortD D lv b))) ⟨[], [σ.length + 0, σ.length + 1], .undef, σ ++ [.cell lv, .cell (.dict D)]⟩ := by
  have h2 : EvE (.cel 1) ⟨[], [σ.length + 0, σ.length + 1], .undef, σ ++ [.cell lv, .cell (.dict D)]⟩ (.ok (.dict D)) ⟨[], [σ.length + 0, σ.length + 1], .undef, σ ++ [.cell lv, .cell (.dict D)]⟩ := .cel rfl h1
  exact .one (.retK (.compD (.ofE h2 (show some (D.map fun kv => V.int kv.1) = _ by rw [List.map_map]; rfl)) hv))
 exact runC_gen (j := [.cell lv, .cell (.dict D)]) e rfl rfl rfl rfl h
end
section
variable {σ j τ : List MO} {T r : List Int} {p q : Nat} {x n m : Int} {l : List V} {c : List Nat} {v : V} {st s1 : AS} {i : Nat} {f g : EF}
theorem dgs_len {base : Int} {least : Nat} : ∀ {K : Nat} {n : Int} {fd ds : List Int}, dgs base least K n fd = some ds -> ds.length ≤ fd.length + K
 | 0, _, _, _, h => nomatch h
 | K + 1, n, fd, ds, h => by
  unfold dgs at h
  split at h
  ·refine obind h fun x hx h => ?_
   have := dgs_len h
   rw [List.length_append] at this
   exact (by have h2 : ds.length ≤ fd.length + 1 + K := this; omega)
  ·cases h; rw [List.length_reverse]; omega
noncomputable def wd (pre : List Int) (base : Int) (least : Nat) (n : Int) : Option (List Int) := (dgs base least 30 n []).map (pre ++ ·)
theorem add_ints {xs ys : List Int} (h : xs.length + ys.length ≤ 1000000) : binV .Add τ (.ints xs) (.ints ys) = some (.ints (xs ++ ys)) := if_pos h
theorem wd_run {pre ws : List Int} {base : Int} {least : Nat} (h : Lo σ) (hb : base ≠ 0 ∧ base.natAbs < 1073741824) (hw : wd pre base least n = some ws) (hp : pre.length ≤ 10)
  (hf : EvE f ⟨l, c, v, σ⟩ (.ok (.ints pre)) ⟨l, c, v, σ⟩) (hg : EvE g ⟨l, c, v, σ⟩ (.ok (.int n)) ⟨l, c, v, σ⟩) : EvE (.bin (binF .Add) f (.call c_escape_digits [g, .val (.int base), .val (.int least)])) ⟨l, c, v, σ⟩ (.ok (.ints ws)) ⟨l, c, v, σ⟩ ∧ ws.length ≤ 40 := by
 obtain ⟨ds, h1, rfl⟩ := Option.map_eq_some_iff.mp hw
 have h2 : ds.length ≤ 0 + 30 := dgs_len h1
 rw [List.length_append]
 exact ⟨.op hf (.call (.cons hg (.cons .val (.cons .val .nil))) (digits_eq h hb h1)) (add_ints (by omega)), by omega⟩
noncomputable def SignOk (F : CF) (w : Int -> Option (List Int)) : Prop := ∀ n ws σ, Lo σ -> w n = some ws -> EvF F [.int n] σ (.ok (.ints ws)) σ
theorem lt_true (h : n < m) (hg : EvE g ⟨l, c, v, σ⟩ (.ok (.int n)) ⟨l, c, v, σ⟩) : EvE (.bin (cmpF .Lt) g (.val (.int m))) ⟨l, c, v, σ⟩ (.ok (.bool true)) ⟨l, c, v, σ⟩ := .cmp hg .val (congrArg some (decide_eq_true h))
theorem lt_false (h : ¬ n < m) (hg : EvE g ⟨l, c, v, σ⟩ (.ok (.int n)) ⟨l, c, v, σ⟩) : EvE (.bin (cmpF .Lt) g (.val (.int m))) ⟨l, c, v, σ⟩ (.ok (.bool false)) ⟨l, c, v, σ⟩ := .cmp hg .val (congrArg some (decide_eq_false h))
theorem b16 : (16 : Int) ≠ 0 ∧ (16 : Int).natAbs < 1073741824 := by decide
theorem b8 : (8 : Int) ≠ 0 ∧ (8 : Int).natAbs < 1073741824 := by decide
noncomputable def wJ0 (n : Int) : Option (List Int) := if n < 65536 then wd [92, 117] 16 4 n else none
noncomputable def wJ (n : Int) : Option (List Int) := if n < 65536 then wd [92, 117] 16 4 n else match wJ0 (55296 + (n - 65536).fdiv 1024), wJ0 (56320 + (n - 65536).fmod 1024) with
 | some a, some b => some (a ++ b)
 | _, _ => none
theorem json_small {CC : CF} {ws : List Int} (h : Lo σ) (hn : n < 65536) (hw : wd [92, 117] 16 4 n = some ws) : EvF (runF false 1 1 [] (f_escape_json_sign CC)) [.int n] σ (.ok (.ints ws)) σ ∧ ws.length ≤ 40 :=
 have := wd_run (l := [.int n, .undef]) (c := []) (v := .undef) (g := .loc 0) h b16 hw (by decide) (EvE.list (.cons .val (.cons .val .nil))) (.loc rfl)
 ⟨run_ret0 (.seqX (.iteT (lt_true hn (.loc rfl)) (.one (.retK this.1)))) (hτ := h), this.2⟩
theorem wJ0_run {ws : List Int} (h : Lo σ) (hw : wJ0 n = some ws) : EvF c0_escape_json_sign [.int n] σ (.ok (.ints ws)) σ ∧ ws.length ≤ 40 := by
 unfold wJ0 at hw
 split at hw
 ·rename_i hn; exact json_small h hn hw
 ·cases hw
set_option tactic.hygienic true in
theorem json_sign : SignOk c_escape_json_sign wJ := by
 intro n ws σ h hw
 unfold wJ at hw
 split at hw
 ·rename_i hn; exact (json_small h hn hw).1
 ·rename_i hn
  split at hw
  ·rename_i a b ha hb
   cases hw
   obtain ⟨h1, h2⟩ := wJ0_run h ha
   obtain ⟨h3, h4⟩ := wJ0_run h hb
   exact run_ret0 (.seq (.iteF (lt_false hn (.loc rfl)) .nop) (.seq (.setL (.op (.loc rfl) .val)) (.one (.retK (.op (.call (.cons (.op .val (.op (.loc rfl) .val)) .nil) h1) (.call (.cons (.op .val (.op (.loc rfl) .val)) .nil) h3) (add_ints (by omega))))))) (hτ := h)
  ·cases hw
noncomputable def wP (n : Int) : Option (List Int) := if n < 256 then wd [92, 120] 16 2 n else if n < 65536 then wd [92, 117] 16 4 n else wd [92, 85] 16 8 n
theorem python_sign : SignOk c_escape_python_sign wP := by
 intro n ws σ h hw
 unfold wP at hw
 have go {pre : List Int} {k : Nat} {f : EF} (hw : wd pre 16 k n = some ws) (hp : pre.length ≤ 10) (hf : EvE f ⟨[.int n], [], .undef, σ⟩ (.ok (.ints pre)) ⟨[.int n], [], .undef, σ⟩) := (wd_run (g := .loc 0) h b16 hw hp hf (.loc rfl)).1
 split at hw
 ·rename_i hn; exact run_ret0 (.seqX (.iteT (lt_true hn (.loc rfl)) (.one (.retK (go hw (by decide) (EvE.list (.cons .val (.cons .val .nil)))))))) (hτ := h)
 ·rename_i hn
  refine run_ret0 (l := [.int n]) (c := []) (v := .undef) (.seq (s1 := ⟨[.int n], [], .undef, σ⟩) (.iteF (lt_false hn (.loc rfl)) .nop) ?_) (hτ := h)
  split at hw
  ·rename_i hn2; exact .seqX (.iteT (lt_true hn2 (.loc rfl)) (.one (.retK (go hw (by decide) (EvE.list (.cons .val (.cons .val .nil)))))))
  ·rename_i hn2; exact .seq (.iteF (lt_false hn2 (.loc rfl)) .nop) (.one (.retK (go hw (by decide) (EvE.list (.cons .val (.cons .val .nil))))))
noncomputable def wC (n : Int) : Option (List Int) := if n < 160 then wd [92] 8 3 n else if n < 65536 then wd [92, 117] 16 4 n else wd [92, 85] 16 8 n
theorem c_sign : SignOk c_escape_c_sign wC := by
 intro n ws σ h hw
 unfold wC at hw
 have go {pre : List Int} {k : Nat} {f : EF} (hw : wd pre 16 k n = some ws) (hp : pre.length ≤ 10) (hf : EvE f ⟨[.int n], [], .undef, σ⟩ (.ok (.ints pre)) ⟨[.int n], [], .undef, σ⟩) := (wd_run (g := .loc 0) h b16 hw hp hf (.loc rfl)).1
 split at hw
 ·rename_i hn; exact run_ret0 (.seqX (.iteT (lt_true hn (.loc rfl)) (.one (.retK (wd_run (g := .loc 0) h b8 hw (by decide) (EvE.list (.cons .val .nil)) (.loc rfl)).1)))) (hτ := h)
 ·rename_i hn
  refine run_ret0 (l := [.int n]) (c := []) (v := .undef) (.seq (s1 := ⟨[.int n], [], .undef, σ⟩) (.iteF (lt_false hn (.loc rfl)) .nop) ?_) (hτ := h)
  split at hw
  ·rename_i hn2; exact .seqX (.iteT (lt_true hn2 (.loc rfl)) (.one (.retK (go hw (by decide) (EvE.list (.cons .val (.cons .val .nil)))))))
  ·rename_i hn2; exact .seq (.iteF (lt_false hn2 (.loc rfl)) .nop) (.one (.retK (go hw (by decide) (EvE.list (.cons .val (.cons .val .nil))))))
noncomputable def wR (n : Int) : Option (List Int) := (wd [92, 117, 123] 16 1 n).map (· ++ [125])
noncomputable def wX (n : Int) : Option (List Int) := (wd [38, 35, 120] 16 1 n).map (· ++ [59])
noncomputable def wS (n : Int) : Option (List Int) := (wd [92] 16 1 n).map (· ++ [32])
theorem rust_sign : SignOk c_escape_rust_sign wR := by
 intro n ws σ h hw
 obtain ⟨w1, h1, rfl⟩ := Option.map_eq_some_iff.mp hw
 have h2 := wd_run (l := [.int n]) (c := []) (v := .undef) (g := .loc 0) (f := .list [.val (.int 92), .val (.int 117), .val (.int 123)]) h b16 h1 (by decide) (EvE.list (.cons .val (.cons .val (.cons .val .nil)))) (.loc rfl)
 exact run_ret0 (.one (.retK (.op h2.1 (EvE.list (.cons .val .nil)) (add_ints (by have := h2.2; exact (by omega : w1.length + 1 ≤ 1000000)))))) (hτ := h)
theorem css_sign : SignOk c_escape_css_sign wS := by
 intro n ws σ h hw
 obtain ⟨w1, h1, rfl⟩ := Option.map_eq_some_iff.mp hw
 have h2 := wd_run (l := [.int n]) (c := []) (v := .undef) (g := .loc 0) (f := .list [.val (.int 92)]) h b16 h1 (by decide) (EvE.list (.cons .val .nil)) (.loc rfl)
 exact run_ret0 (.one (.retK (.op h2.1 (EvE.list (.cons .val .nil)) (add_ints (by have := h2.2; exact (by omega : w1.length + 1 ≤ 1000000)))))) (hτ := h)
theorem codes_loop {s : Str} : ∀ {cs : List Nat} {acc : List V} {v : V}, ∃ v', EvCo (.val (.bool true)) (LStep (.ord .cv)) (cs.map fun c => .str ⟨#[c]⟩) acc ⟨[.str s], [], v, σ⟩ (acc ++ cs.map fun c => V.int (c : Nat)) ⟨[.str s], [], v', σ⟩
 | [], acc, v => ⟨v, by rw [List.map_nil, List.map_nil, List.append_nil]; exact .nil⟩
 | c :: cs, acc, v => by
  obtain ⟨v', h⟩ := codes_loop (s := s) (cs := cs) (acc := acc ++ [.int (c : Nat)]) (v := .str ⟨#[c]⟩)
  rw [List.append_assoc] at h
  exact ⟨v', .take .val ⟨.int (c : Nat), .on1 .cv, rfl, rfl⟩ h⟩
theorem codes_of_eq {s : Str} (xs : List Nat) (h : Lo σ) (he : itemsV (.str s) = some (xs.map fun c => .str ⟨#[c]⟩)) (hx : xs.length ≤ 1000) {ns : List Int} (hn : mkList (xs.map fun c => V.int (c : Nat)) = .ints ns) : EvF c_codes_of [.str s] σ (.ok (.ints ns)) σ := by
 obtain ⟨v', hv⟩ := codes_loop (σ := σ) (s := s) (cs := xs) (acc := []) (v := .undef)
 have := EvE.comp (.ofE (.loc (i := 0) rfl) he) hv (by rw [List.length_append, List.length_map]; exact (by omega : 0 + xs.length ≤ 1000000))
 rw [List.nil_append, hn] at this
 exact run_ret0 (.one (.retK this)) (hτ := h)
theorem xml_sign : SignOk c_lam_4 wX := by
 intro n ws σ h hw
 obtain ⟨w1, h1, rfl⟩ := Option.map_eq_some_iff.mp hw
 have h2 := wd_run (l := [.int n]) (c := []) (v := .undef) (g := .loc 0) (f := .call c_codes_of [(.val (.str "&#x"))]) h b16 h1 (by decide) (.call (.cons .val .nil) (codes_of_eq [38, 35, 120] h (by kernel_rfl) (by decide) rfl)) (.loc rfl)
 exact runL_ret0 (.op h2.1 (EvE.list (.cons .val .nil)) (add_ints (by have := h2.2; exact (by omega : w1.length + 1 ≤ 1000000)))) (hτ := h)
end
section
variable {σ j τ : List MO} {T r : List Int} {p q : Nat} {x n m : Int} {l : List V} {c : List Nat} {v : V} {st s1 : AS} {i : Nat} {f g : EF}
theorem chk_loop {test : EF} {bad : Int -> Bool} (hi : i < l.length) (ht : ∀ x, EvE test ⟨l.set i (.int x), c, v, τ⟩ (.ok (.bool (bad x))) ⟨l.set i (.int x), c, v, τ⟩) : ∀ {t : List Int} {a : V},
  (∃ X, t.find? bad = none ∧ EvFor (.seq (.ite test (.seq (.raise 57 (.loc i)) .nop) .nop) .nop) (t.map fun x => [(.l i, .int x)]) ⟨l.set i a, c, v, τ⟩ .next ⟨l.set i X, c, v, τ⟩) ∨
  ∃ y, t.find? bad = some y ∧ EvFor (.seq (.ite test (.seq (.raise 57 (.loc i)) .nop) .nop) .nop) (t.map fun x => [(.l i, .int x)]) ⟨l.set i a, c, v, τ⟩ (.exn 57 (.int y)) ⟨l.set i (.int y), c, v, τ⟩ := by
 intro t
 induction t with
 | nil => exact fun {a} => .inl ⟨a, rfl, .for0⟩
 | cons x t ih =>
  intro a
  have hu : AS.upd ⟨l.set i a, c, v, τ⟩ [(Tg.l i, .int x)] = some ⟨l.set i (.int x), c, v, τ⟩ := by
   show some (⟨(l.set i a).set i (.int x), c, v, τ⟩ : AS) = _
   rw [List.set_set]
  have hg : (l.set i (.int x))[i]? = some (.int x) := List.getElem?_set_self hi
  rw [List.find?_cons]
  cases hb : bad x with
  | true => exact .inr ⟨x, rfl, .forX hu (.one (.iteT (hb ▸ ht x) (.one (.raise (.loc hg)))))⟩
  | false =>
   rcases ih (a := .int x) with ⟨X, h1, h2⟩ | ⟨y, h1, h2⟩
   ·exact .inl ⟨X, h1, .for1 hu (.one (.iteF (hb ▸ ht x) .nop)) h2⟩
   ·exact .inr ⟨y, h1, .for1 hu (.one (.iteF (hb ▸ ht x) .nop)) h2⟩
noncomputable def ckO : Option Int -> Out
 | none => .ok .none
 | some y => .exn 57 (.int y)
theorem check_eq {t : List Int} (h : Lo σ) : EvF c_check_scalars [.ints t] σ (ckO (t.find? (fun x => !scal x))) σ := by
 have ht : ∀ x : Int, EvE (.not (.tru (.call c_is_scalar [(.loc 1)]))) ⟨[V.ints t, .undef].set 1 (.int x), [], .undef, σ⟩ (.ok (.bool (!scal x))) ⟨[V.ints t, .undef].set 1 (.int x), [], .undef, σ⟩ :=
  fun x => .not (.tru (.call (.cons (.loc rfl) .nil) (is_scalar_eq h)))
 rcases chk_loop (l := [.ints t, .undef]) (i := 1) (by exact Nat.lt_succ_self 1) ht (t := t) (a := .undef) with ⟨X, h1, h2⟩ | ⟨y, h1, h2⟩
 ·rw [h1]; exact run_next0 (.one (.for (.ints (.loc rfl)) h2)) (hτ := h)
 ·rw [h1]; exact run_exn0 (.one (.for (.ints (.loc rfl)) h2)) (hτ := h)
noncomputable def chW (short : List (Int × V)) (w : Int -> Option (List Int)) (c : Int) : List Int := match atKey short c with
 | some (.ints s) => s
 | _ => if inR 32 126 c then [c] else (w c).getD []
noncomputable def okW (short : List (Int × V)) (w : Int -> Option (List Int)) (c : Int) : Bool := decide ((chW short w c).length ≤ 100) && match atKey short c with
 | some (.ints _) => true
 | some _ => false
 | none => inR 32 126 c || (w c).isSome
theorem writes_of {short : List (Int × V)} {w : Int -> Option (List Int)} {F : CF} (hF : SignOk F w) {c : Int} (h : okW short w c = true) : Writes short F (chW short w) c := by
 unfold okW at h
 obtain ⟨h1, h2⟩ := Bool.and_eq_true_iff.mp h
 refine ⟨of_decide_eq_true h1, ?_⟩
 unfold chW
 cases hq : atKey short c with
 | some X =>
  rw [hq] at h2
  cases X <;> first | exact .inl rfl | cases h2
 | none =>
  rw [hq] at h2
  refine .inr ⟨rfl, ?_⟩
  simp only
  cases hr : inR 32 126 c with
  | true => exact .inl ⟨rfl, rfl⟩
  | false =>
   refine .inr ⟨rfl, fun σ hσ => ?_⟩
   rw [hr] at h2
   cases hw : w c with
   | none => rw [hw] at h2; cases h2
   | some ws => simp only [Bool.false_eq_true, if_false, Option.getD_some]; exact hF c ws σ hσ hw
noncomputable def sJ : List (Int × V) := shortD (l_ESCAPE_JSON.map fun x => (x.1, .int x.2)) (.int 47) (fun k => k != 47)
noncomputable def sP : List (Int × V) := shortD (l_ESCAPE_PYTHON.map fun x => (x.1, .int x.2)) .none (fun k => true)
noncomputable def sR : List (Int × V) := shortD (l_ESCAPE_RUST.map fun x => (x.1, .int x.2)) .none (fun k => true)
noncomputable def sS : List (Int × V) := [(92, .ints [92, 92]), (34, .ints [92, 34])]
noncomputable def sXn : List (Int × V) := [(38, .ints [97, 109, 112]), (60, .ints [108, 116]), (62, .ints [103, 116]), (34, .ints [113, 117, 111, 116]), (39, .ints [97, 112, 111, 115])]
noncomputable def sX : List (Int × V) := [(38, .ints [38, 97, 109, 112, 59]), (60, .ints [38, 108, 116, 59]), (62, .ints [38, 103, 116, 59]), (34, .ints [38, 113, 117, 111, 116, 59]), (39, .ints [38, 97, 112, 111, 115, 59])]
theorem keys_of {D : List (Int × Int)} (h : D.all (fun x => (atKey (D.map fun x => (x.1, V.int x.2)) x.1).isSome && match atKey (D.map fun x => (x.1, V.int x.2)) x.1 with | some (.int _) => true | _ => false) = true) :
  ∀ k ∈ (D.map fun x => (x.1, V.int x.2)).map (·.1), ∃ u, atKey (D.map fun x => (x.1, V.int x.2)) k = some (.int u) := fun k hk => by
 rw [List.map_map] at hk
 obtain ⟨x, hx, rfl⟩ := List.mem_map.mp hk
 have := List.all_eq_true.mp h x hx
 show ∃ u, atKey (D.map fun x => (x.1, V.int x.2)) x.1 = some (.int u)
 cases q : atKey (D.map fun x => (x.1, V.int x.2)) x.1 with
 | none => rw [q] at this; cases this
 | some X => rw [q] at this; cases X <;> first | exact ⟨_, rfl⟩ | cases this
theorem shortJ_eq (h : Lo σ) : EvF c_escape_short [v_ESCAPE_JSON, .int 47] σ (.ok (.dict sJ)) σ := short_eq h (keys_of (by decide +kernel)) rfl (fun κ => rfl) (fun σ k => by show some (k == 47) = some (!(k != 47)); simp [bne]) (by decide)
theorem shortP_eq (h : Lo σ) : EvF c_escape_short [v_ESCAPE_PYTHON, .none] σ (.ok (.dict sP)) σ := short_eq h (keys_of (by decide +kernel)) rfl (fun κ => rfl) (fun σ k => rfl) (by decide)
theorem shortR_eq (h : Lo σ) : EvF c_escape_short [v_ESCAPE_RUST, .none] σ (.ok (.dict sR)) σ := short_eq h (keys_of (by decide +kernel)) rfl (fun κ => rfl) (fun σ k => rfl) (by decide)
noncomputable def resW (bad : Int -> Bool) (short : List (Int × V)) (w : Int -> Option (List Int)) (t : List Int) : Out := match t.find? bad with
 | none => .ok (.ints (t.flatMap (chW short w)))
 | some y => .exn 57 (.int y)
theorem wr_ok {W : V} {F : CF} {short : List (Int × V)} {w : Int -> Option (List Int)} {t : List Int} {f2 f3 f4 : EF} (hl : t.length ≤ 1000) (hσ : Lo σ) (hw : ∀ c ∈ t, okW short w c = true) (hW : t_write W F) (hd : W.isDef = true) (hF : SignOk F w) (h0 : EvE f ⟨l, c, v, σ⟩ (.ok (.ints t)) ⟨l, c, v, σ⟩) (h2 : EvE f2 ⟨l, c, v, σ⟩ (.ok .none) ⟨l, c, v, σ⟩) (h3 : EvE f3 ⟨l, c, v, σ⟩ (.ok (.dict short)) ⟨l, c, v, σ⟩) (h4 : EvE f4 ⟨l, c, v, σ⟩ (.ok W) ⟨l, c, v, σ⟩) :
  EvE (.call c_escape_written [f, f2, f3, f4]) ⟨l, c, v, σ⟩ (.ok (.ints (t.flatMap (chW short w)))) ⟨l, c, v, σ⟩ :=
 .call (.cons h0 (.cons h2 (.cons h3 (.cons h4 .nil)))) (written_eq hW hd hσ (fun c hc => writes_of hF (hw c hc)) hl)
theorem escape_json_eq {t : List Int} (hσ : Lo σ) (hl : t.length ≤ 1000) (hw : ∀ c ∈ t, okW sJ wJ c = true) : EvF c_escape_json [.ints t] σ (resW (fun x => !scal x) sJ wJ t) σ := by
 have hc := check_eq (t := t) hσ
 unfold resW
 cases q : t.find? (fun x => !scal x) with
 | none =>
  rw [q] at hc
  exact run_ret0 (.seq (.exp (.call (.cons (.loc rfl) .nil) hc)) (.one (.retK (wr_ok hl hσ hw .escape_json_sign rfl json_sign (.loc rfl) (.loc rfl) (.call (.cons .val (.cons .val .nil)) (shortJ_eq hσ)) .val)))) (hτ := hσ)
 | some y =>
  rw [q] at hc
  exact run_exn0 (.seqX (.ofX (.call (.cons (.loc rfl) .nil) hc))) (hτ := hσ)
theorem escape_python_eq {t : List Int} (hσ : Lo σ) (hl : t.length ≤ 1000) (hw : ∀ c ∈ t, okW sP wP c = true) : EvF c_escape_python [.ints t] σ (resW (fun x => false) sP wP t) σ := by
 unfold resW
 rw [List.find?_eq_none.mpr (fun κ κ => Bool.false_ne_true)]
 exact run_ret0 (.one (.retK (wr_ok hl hσ hw .escape_python_sign rfl python_sign (.loc rfl) (.loc rfl) (.call (.cons .val (.cons .val .nil)) (shortP_eq hσ)) .val))) (hτ := hσ)
theorem escape_c_eq {t : List Int} (hσ : Lo σ) (hl : t.length ≤ 1000) (hw : ∀ c ∈ t, okW sP wC c = true) : EvF c_escape_c [.ints t] σ (resW (fun x => !scal x) sP wC t) σ := by
 have hc := check_eq (t := t) hσ
 unfold resW
 cases q : t.find? (fun x => !scal x) with
 | none =>
  rw [q] at hc
  exact run_ret0 (.seq (.exp (.call (.cons (.loc rfl) .nil) hc)) (.one (.retK (wr_ok hl hσ hw .escape_c_sign rfl c_sign (.loc rfl) (.loc rfl) (.call (.cons .val (.cons .val .nil)) (shortP_eq hσ)) .val)))) (hτ := hσ)
 | some y =>
  rw [q] at hc
  exact run_exn0 (.seqX (.ofX (.call (.cons (.loc rfl) .nil) hc))) (hτ := hσ)
theorem escape_rust_eq {t : List Int} (hσ : Lo σ) (hl : t.length ≤ 1000) (hw : ∀ c ∈ t, okW sR wR c = true) : EvF c_escape_rust [.ints t] σ (resW (fun x => !scal x) sR wR t) σ := by
 have hc := check_eq (t := t) hσ
 unfold resW
 cases q : t.find? (fun x => !scal x) with
 | none =>
  rw [q] at hc
  exact run_ret0 (.seq (.exp (.call (.cons (.loc rfl) .nil) hc)) (.one (.retK (wr_ok hl hσ hw .escape_rust_sign rfl rust_sign (.loc rfl) (.loc rfl) (.call (.cons .val (.cons .val .nil)) (shortR_eq hσ)) .val)))) (hτ := hσ)
 | some y =>
  rw [q] at hc
  exact run_exn0 (.seqX (.ofX (.call (.cons (.loc rfl) .nil) hc))) (hτ := hσ)
noncomputable def isx (n : Int) : Bool := if !scal n || (decide (n < 32) && ![9, 10, 13].any (· == n)) then false else ![65534, 65535].any (· == n)
theorem is_xml_eq (h : Lo σ) : EvF c_escape_is_xml [.int n] σ (.ok (.bool (isx n))) σ := by
 have e1 : EvE (.not (.tru (.call c_is_scalar [(.loc 0)]))) ⟨[.int n], [], .undef, σ⟩ (.ok (.bool (!scal n))) ⟨[.int n], [], .undef, σ⟩ := .not (.tru (.call (.cons (.loc rfl) .nil) (is_scalar_eq h)))
 have e2 : EvE (.bin (cmpF .Lt) (.loc 0) (.val (.int 32))) ⟨[.int n], [], .undef, σ⟩ (.ok (.bool (decide (n < 32)))) ⟨[.int n], [], .undef, σ⟩ := .cmp (.loc rfl) .val
 have e3 : EvE (.bin (cmpF .NotIn) (.loc 0) (.tup [(.val (.int 9)), (.val (.int 10)), (.val (.int 13))])) ⟨[.int n], [], .undef, σ⟩ (.ok (.bool (![9, 10, 13].any (· == n)))) ⟨[.int n], [], .undef, σ⟩ := .cmp (.loc rfl) (.tup (.cons .val (.cons .val (.cons .val .nil))))
 have e4 : EvE (.bin (cmpF .NotIn) (.loc 0) (.tup [(.val (.int 65534)), (.val (.int 65535))])) ⟨[.int n], [], .undef, σ⟩ (.ok (.bool (![65534, 65535].any (· == n)))) ⟨[.int n], [], .undef, σ⟩ := .cmp (.loc rfl) (.tup (.cons .val (.cons .val .nil)))
 unfold isx
 cases q1 : !scal n with
 | true => exact run_ret0 (.seqX (.iteT (.orT (q1 ▸ e1)) (.one (.retK .val)))) (hτ := h)
 | false =>
  cases q2 : decide (n < 32) with
  | true =>
   cases q3 : ![9, 10, 13].any (· == n) with
   | true => exact run_ret0 (.seqX (.iteT (.orF (q1 ▸ e1) (.orT (.andT (q2 ▸ e2) (.andT (q3 ▸ e3) .andN)))) (.one (.retK .val)))) (hτ := h)
   | false => exact run_ret0 (.seq (.iteF (.orF (q1 ▸ e1) (.orF (.andT (q2 ▸ e2) (.andF (q3 ▸ e3))) .orN)) .nop) (.one (.retK e4))) (hτ := h)
  | false => exact run_ret0 (.seq (.iteF (.orF (q1 ▸ e1) (.orF (.andF (q2 ▸ e2)) .orN)) .nop) (.one (.retK e4))) (hτ := h)
theorem xml_names_eq (h : Lo σ) : EvF c_escape_xml_names [] σ (.ok (.dict sXn)) σ := by
 have e : EvS f_escape_xml_names ⟨[], [], .undef, σ⟩ (.ret (.dict sXn)) ⟨[], [], .undef, σ⟩ := by
  have c1 := codes_of_eq (s := "amp") (ns := [97, 109, 112]) [97, 109, 112] h (by kernel_rfl) (by decide) rfl
  have c2 := codes_of_eq (s := "lt") (ns := [108, 116]) [108, 116] h (by kernel_rfl) (by decide) rfl
  have c3 := codes_of_eq (s := "gt") (ns := [103, 116]) [103, 116] h (by kernel_rfl) (by decide) rfl
  have c4 := codes_of_eq (s := "quot") (ns := [113, 117, 111, 116]) [113, 117, 111, 116] h (by kernel_rfl) (by decide) rfl
  have c5 := codes_of_eq (s := "apos") (ns := [97, 112, 111, 115]) [97, 112, 111, 115] h (by kernel_rfl) (by decide) rfl
  exact .one (.retK (.dictI (.cons .val (.call (.cons .val .nil) c1) (.cons .val (.call (.cons .val .nil) c2) (.cons .val (.call (.cons .val .nil) c3) (.cons .val (.call (.cons .val .nil) c4) (.cons .val (.call (.cons .val .nil) c5) .nil))))) rfl (by decide)))
 exact run_ret0 e (hτ := h)
theorem escape_css_eq {t : List Int} (hσ : Lo σ) (hl : t.length ≤ 1000) (hw : ∀ c ∈ t, okW sS wS c = true) : EvF c_escape_css [.ints t] σ (resW (fun x => x == 0 || !scal x) sS wS t) σ := by
 have ht : ∀ x : Int, EvE (.orL [(.bin (cmpF .Eq) (.loc 2) (.val (.int 0))), (.not (.tru (.call c_is_scalar [(.loc 2)])))]) ⟨[V.ints t, .none, .undef, .undef].set 2 (.int x), [], .undef, σ⟩ (.ok (.bool (x == 0 || !scal x))) ⟨[V.ints t, .none, .undef, .undef].set 2 (.int x), [], .undef, σ⟩ := fun x => by
  have e1 : EvE (.bin (cmpF .Eq) (.loc 2) (.val (.int 0))) ⟨[V.ints t, .none, .int x, .undef], [], .undef, σ⟩ (.ok (.bool (x == 0))) ⟨[V.ints t, .none, .int x, .undef], [], .undef, σ⟩ := .cmp (.loc rfl) .val
  have e2 : EvE (.not (.tru (.call c_is_scalar [(.loc 2)]))) ⟨[V.ints t, .none, .int x, .undef], [], .undef, σ⟩ (.ok (.bool (!scal x))) ⟨[V.ints t, .none, .int x, .undef], [], .undef, σ⟩ := .not (.tru (.call (.cons (.loc rfl) .nil) (is_scalar_eq hσ)))
  cases q1 : x == 0 with
  | true => exact .orT (q1 ▸ e1)
  | false =>
   cases q2 : !scal x with
   | true => exact .orF (q1 ▸ e1) (.orT (q2 ▸ e2))
   | false => exact .orF (q1 ▸ e1) (.orF (q2 ▸ e2) .orN)
 unfold resW
 rcases chk_loop (l := [.ints t, .none, .undef, .undef]) (i := 2) (by exact Nat.le_succ 3) ht (t := t) (a := .undef) with ⟨X, h1, h2⟩ | ⟨y, h1, h2⟩
 ·rw [h1]
  obtain ⟨v', hv⟩ := compD_loop (l := [.ints t, .none, X, .undef]) (c := []) (τ := σ) (v := .undef) (t := .val (.bool true)) (f := .cv) (g := .list [.val (.int 92), .cv]) (tt := fun κ => true) (kf := fun k => k) (gv := fun k => .ints [92, k]) (ks := [92, 34]) (acc := []) (fun k hk => ⟨.val, fun κ => ⟨.cv, .list (.cons .val (.cons .cv .nil)), rfl⟩⟩) (by decide)
  exact run_ret0 (.seq (.for (.ints (.loc rfl)) h2) (.seq (s1 := ⟨[.ints t, .none, X, .dict sS], [], .undef, σ⟩) (.setCompD (i := 3) (.ofE (.tup (.cons .val (.cons .val .nil))) (rfl : itemsV (.tup [.int 92, .int 34]) = some ([92, 34].map .int))) hv) (.one (.retK (wr_ok hl hσ hw .escape_css_sign rfl css_sign (.loc rfl) (.loc rfl) (.loc rfl) .val))))) (hτ := hσ)
 ·rw [h1]; exact run_exn0 (.seqX (.for (.ints (.loc rfl)) h2)) (hτ := hσ)
theorem escape_xml_eq {t : List Int} (hσ : Lo σ) (hl : t.length ≤ 1000) (hw : ∀ c ∈ t, okW sX wX c = true) : EvF c_escape_xml [.ints t] σ (resW (fun x => !isx x) sX wX t) σ := by
 have ht : ∀ x : Int, EvE (.not (.tru (.call c_escape_is_xml [(.loc 2)]))) ⟨[V.ints t, .none, .undef, .undef].set 2 (.int x), [σ.length + 0], .undef, σ ++ [.cell0]⟩ (.ok (.bool (!isx x))) ⟨[V.ints t, .none, .undef, .undef].set 2 (.int x), [σ.length + 0], .undef, σ ++ [.cell0]⟩ :=
  fun x => .not (.tru (.call (.cons (.loc rfl) .nil) (is_xml_eq (hσ.append fun y hy => by rcases List.mem_singleton.mp hy with rfl; exact fun κ => rfl))))
 unfold resW
 rcases chk_loop (l := [.ints t, .none, .undef, .undef]) (i := 2) (by exact Nat.le_succ 3) ht (t := t) (a := .undef) with ⟨X, h1, h2⟩ | ⟨y, h1, h2⟩
 ·rw [h1]
  have hlo : Lo (σ ++ [.cell (.dict sXn)]) := hσ.append fun y hy => by rcases List.mem_singleton.mp hy with rfl; exact fun κ => rfl
  have hg : (σ ++ [MO.cell (.dict sXn)])[σ.length + 0]? = some (.cell (.dict sXn)) := last_get
  have hset : EvS (.setC 0 (.call c_escape_xml_names [])) ⟨[.ints t, .none, X, .undef], [σ.length + 0], .undef, σ ++ [.cell0]⟩ .next ⟨[.ints t, .none, X, .undef], [σ.length + 0], .undef, σ ++ [.cell (.dict sXn)]⟩ := by
   have := EvS.setC (j := 0) (EvE.call (.nil (st := ⟨[.ints t, .none, X, .undef], [σ.length + 0], .undef, σ ++ [.cell0]⟩)) (xml_names_eq (hσ.append fun y hy => by rcases List.mem_singleton.mp hy with rfl; exact fun κ => rfl))) rfl (last_get (σ := σ) (x := MO.cell0))
   rw [Nat.add_zero, last_set] at this; exact this
  have hcomp : EvS (.setCompD 3 (.ofE (.cel 0)) (.val (.bool true)) .cv (.bin (binF .Add) (.bin (binF .Add) (.list [(.val (.int 38))]) (.bin subF (.cel 0) .cv)) (.list [(.val (.int 59))]))) ⟨[.ints t, .none, X, .undef], [σ.length + 0], .undef, σ ++ [.cell (.dict sXn)]⟩ .next ⟨[.ints t, .none, X, .dict sX], [σ.length + 0], .undef, σ ++ [.cell (.dict sXn)]⟩ := by
   obtain ⟨v', hv⟩ := compD_loop (l := [.ints t, .none, X, .undef]) (c := [σ.length + 0]) (τ := σ ++ [.cell (.dict sXn)]) (v := .undef) (t := .val (.bool true)) (f := .cv) (g := .bin (binF .Add) (.bin (binF .Add) (.list [(.val (.int 38))]) (.bin subF (.cel 0) .cv)) (.list [(.val (.int 59))]))
    (tt := fun κ => true) (kf := fun k => k) (gv := fun k => match atKey sXn k with | some (.ints xs) => .ints ([38] ++ xs ++ [59]) | _ => .none) (ks := [38, 60, 62, 34, 39]) (acc := []) (fun k hk => ⟨.val, fun κ => ⟨.cv, by
     obtain ⟨xs, hx, hxl⟩ : ∃ xs, atKey sXn k = some (.ints xs) ∧ xs.length ≤ 10 := by
      simp only [List.mem_cons, List.not_mem_nil, or_false] at hk
      rcases hk with rfl | rfl | rfl | rfl | rfl <;> exact ⟨_, rfl, by decide⟩
     simp only [hx]
     exact .op (.op (.list (.cons .val .nil)) (.sub (X := .dict sXn) (U := .int k) (W := .ints xs) (.cel rfl hg) .cv (sub_dict hx)) (add_ints (xs := [38]) (by simp; omega))) (.list (.cons .val .nil)) (add_ints (xs := [38] ++ xs) (ys := [59]) (by simp; omega)), by
     simp only [List.mem_cons, List.not_mem_nil, or_false] at hk
     rcases hk with rfl | rfl | rfl | rfl | rfl <;> rfl⟩⟩) (by decide)
   exact .setCompD (.ofE (.cel rfl hg) (rfl : itemsV (.dict sXn) = some ([38, 60, 62, 34, 39].map .int))) hv
  have e : EvS f_escape_xml ⟨[.ints t, .none, .undef, .undef], [σ.length + 0], .undef, σ ++ [.cell0]⟩ (.ret (.ints (t.flatMap (chW sX wX)))) ⟨[.ints t, .none, X, .dict sX], [σ.length + 0], .undef, σ ++ [.cell (.dict sXn)]⟩ := .seq (.for (.ints (.loc rfl)) h2) (.seq hset (.seq hcomp (.one (.retK (wr_ok hl hlo hw .lam_4 rfl xml_sign (.loc rfl) (.loc rfl) (.loc rfl) .val)))))
  exact runC_gen (j := [.cell (.dict sXn)]) e rfl rfl rfl rfl hσ
 ·rw [h1]; exact runC_gen (j := [.cell0]) (EvS.seqX (.for (.ints (.loc rfl)) h2)) rfl rfl rfl rfl hσ
end
section
variable {σ j τ : List MO} {T r : List Int} {p q : Nat} {x n m : Int} {l : List V} {c : List Nat} {v : V} {st s1 : AS} {i : Nat} {f g : EF}
theorem found_get {fd : List Int} : (ss σ T p [.ints fd])[σ.length + 1]? = some (.ints fd) := by simp [ss]
theorem found_set {fd fd' : List Int} : (ss σ T p [.ints fd]).set (σ.length + 1) (.ints fd') = ss σ T p [.ints fd'] := by simp [ss]
theorem found_isL {fd : List Int} : isL (ss σ T p [.ints fd]) (σ.length + 1) = true := isL_of found_get
theorem EvS.extF {xs ys : List Int} (h : EvE f ⟨l, c, v, ss σ T p [.ints xs]⟩ (.ok (.ref (σ.length + 1))) ⟨l, c, v, ss σ T p [.ints xs]⟩) (h2 : EvE g ⟨l, c, v, ss σ T p [.ints xs]⟩ (.ok (.ints ys)) ⟨l, c, v, ss σ T q [.ints xs]⟩) (hl : xs.length + ys.length ≤ 1000000) :
  EvS (.exp (.extend f g)) ⟨l, c, v, ss σ T p [.ints xs]⟩ .next ⟨l, c, v, ss σ T q [.ints (xs ++ ys)]⟩ := by
 have := EvE.extend (mo' := .ints (xs ++ ys)) h found_isL h2 found_get (if_pos hl); rw [found_set] at this; exact .exp this
theorem EvS.appF {xs : List Int} {y : Int} (h : EvE f ⟨l, c, v, ss σ T p [.ints xs]⟩ (.ok (.ref (σ.length + 1))) ⟨l, c, v, ss σ T p [.ints xs]⟩) (h2 : EvE g ⟨l, c, v, ss σ T p [.ints xs]⟩ (.ok (.int y)) ⟨l, c, v, ss σ T q [.ints xs]⟩) (hl : xs.length ≤ 1000000) :
  EvS (.exp (.append f g)) ⟨l, c, v, ss σ T p [.ints xs]⟩ .next ⟨l, c, v, ss σ T q [.ints (xs ++ [y])]⟩ := by
 have := EvE.append (mo' := .ints (xs ++ [y])) h found_isL h2 found_get (app_int hl); rw [found_set] at this; exact .exp this
noncomputable def ReadS (F : CF) (rd : List Int -> Option (List Int × List Int)) : Prop := ∀ σ T p j r b ys r', Sc σ T p j r -> rd r = some (ys, r') -> ∃ p', EvF F [.inst σ.length, .int b] (ss σ T p j) (.ok (.ints ys)) (ss σ T p' j) ∧ Sc σ T p' j r'
noncomputable def ReadX (F : CF) (rd : List Int -> Option (List Int × List Int)) : Prop := ∀ σ T p j r b, Sc σ T p j r -> rd r = none -> ∃ w p', EvF F [.inst σ.length, .int b] (ss σ T p j) (.exn 45 (.tup [.int b, .str w])) (ss σ T p' j)
noncomputable def GoodRd (rd : List Int -> Option (List Int × List Int)) : Prop := ∀ r ys r', rd r = some (ys, r') -> r'.length ≤ r.length ∧ ys.length + r'.length ≤ r.length + 1
noncomputable def BareIs (F : CF) (bare : Int -> Bool) : Prop := ∀ x σ, Lo σ -> EvF F [.int x] σ (.ok (.bool (bare x))) σ
noncomputable def rdAll (rd : List Int -> Option (List Int × List Int)) (bare : Int -> Bool) : Nat -> List Int -> List Int -> Except Nat (List Int)
 | 0, _, _ => .error 0
 | k + 1, [], acc => .ok acc
 | k + 1, x :: r, acc => if x = 92 then (match rd r with
  | some (ys, r') => rdAll rd bare k r' (acc ++ ys)
  | none => .error (r.length + 1)) else if bare x then rdAll rd bare k r (acc ++ [x]) else .error (r.length + 1)
noncomputable def readT : EF := .not (.tru (.meth c_scan_is_over (.loc 6) []))
noncomputable def readB : SF := (.seq (.setL 3 (.attr 1 (.loc 6))) (.seq (.setL 4 (.meth c_scan_take (.loc 6) [(.loc 3)])) (.seq (.ite (.bin (cmpF .Eq) (.loc 4) (.val (.int 92))) (.seq (.exp (.extend (.loc 5) (.callV t_read (.loc 1) [(.loc 6), (.loc 3)]))) .nop) (.seq (.ite (.tru (.callV t_is_bare (.loc 2) [(.loc 4)])) (.seq (.exp (.append (.loc 5) (.loc 4))) .nop) (.seq (.raise 45 (.tup [(.loc 3), (.val (.str "sign"))])) .nop)) .nop)) .nop)))
theorem read_loop {X0 R B : V} {F Fb : CF} {rd : List Int -> Option (List Int × List Int)} {bare : Int -> Bool} (hR : t_read R F) (hB : t_is_bare B Fb) (dR : R.isDef = true) (dB : B.isDef = true) (hF : ReadS F rd) (hg : GoodRd rd) (hb : BareIs Fb bare) {Fu : Nat} :
  ∀ {k : Nat} {r acc : List Int} {p : Nat} {X3 X4 : V}, r.length < k -> acc.length + r.length ≤ 100000 -> Sc σ T p [.ints acc] r ->
   (∀ res, rdAll rd bare k r acc = .ok res -> ∃ X3' X4', EvW readT readB (Fu + k) ⟨[X0, R, B, X3, X4, .ref (σ.length + 1), .inst σ.length], [], .undef, ss σ T p [.ints acc]⟩ .next ⟨[X0, R, B, X3', X4', .ref (σ.length + 1), .inst σ.length], [], .undef, ss σ T T.length [.ints res]⟩) ∧
   (ReadX F rd -> ∀ m, rdAll rd bare k r acc = .error m -> m ≤ T.length ∧ ∃ w l' p' acc', EvW readT readB (Fu + k) ⟨[X0, R, B, X3, X4, .ref (σ.length + 1), .inst σ.length], [], .undef, ss σ T p [.ints acc]⟩ (.exn 45 (.tup [.int ((T.length - m : Nat)), .str w])) ⟨l', [], .undef, ss σ T p' [.ints acc']⟩) := by
 intro k
 induction k with
 | zero => intro r acc p X3 X4 h; exact absurd h (Nat.not_lt_zero _)
 | succ k ih =>
  intro r acc p X3 X4 hk hl S
  have ht : EvE readT ⟨[X0, R, B, X3, X4, .ref (σ.length + 1), .inst σ.length], [], .undef, ss σ T p [.ints acc]⟩ (.ok (.bool (!r.isEmpty))) ⟨[X0, R, B, X3, X4, .ref (σ.length + 1), .inst σ.length], [], .undef, ss σ T p [.ints acc]⟩ := .not (.tru (.meth (.loc rfl) ss_get .nil (over_eq S)))
  cases r with
  | nil =>
   refine ⟨fun res h => ?_, fun κ m h => nomatch h⟩
   cases h
   rw [← S.end]
   exact ⟨X3, X4, .wh0 (k := Fu + k) ht⟩
  | cons x r =>
   rw [List.length_cons] at hk hl
   have hp : (p : Int) = ((T.length - (r.length + 1) : Nat) : Int) := by
    have h1 := congrArg List.length S.hr
    rw [List.length_drop, List.length_cons] at h1
    have := S.hp
    omega
   have hm : r.length + 1 ≤ T.length := by
    have h1 := congrArg List.length S.hr
    rw [List.length_drop, List.length_cons] at h1
    omega
   have h1 : EvS (.setL 3 (.attr 1 (.loc 6))) ⟨[X0, R, B, X3, X4, .ref (σ.length + 1), .inst σ.length], [], .undef, ss σ T p [.ints acc]⟩ .next ⟨[X0, R, B, .int p, X4, .ref (σ.length + 1), .inst σ.length], [], .undef, ss σ T p [.ints acc]⟩ := .setL (.attr (.loc rfl) ss_get rfl)
   have h2 : EvS (.setL 4 (.meth c_scan_take (.loc 6) [(.loc 3)])) ⟨[X0, R, B, .int p, X4, .ref (σ.length + 1), .inst σ.length], [], .undef, ss σ T p [.ints acc]⟩ .next ⟨[X0, R, B, .int p, .int x, .ref (σ.length + 1), .inst σ.length], [], .undef, ss σ T (p + 1) [.ints acc]⟩ :=
    .setL (.meth (.loc rfl) ss_get (.cons (.loc rfl) .nil) (take_eq S rfl))
   have h3 : EvE (.bin (cmpF .Eq) (.loc 4) (.val (.int 92))) ⟨[X0, R, B, .int p, .int x, .ref (σ.length + 1), .inst σ.length], [], .undef, ss σ T (p + 1) [.ints acc]⟩ (.ok (.bool (x == 92))) ⟨[X0, R, B, .int p, .int x, .ref (σ.length + 1), .inst σ.length], [], .undef, ss σ T (p + 1) [.ints acc]⟩ := .cmp (.loc rfl) .val
   unfold rdAll
   by_cases hx : x = 92
   ·rw [if_pos hx]
    rw [beq_iff_eq.mpr hx] at h3
    cases hr : rd r with
    | some y =>
     obtain ⟨ys, r'⟩ := y
     obtain ⟨g1, g2⟩ := hg _ _ _ hr
     obtain ⟨p', h4, S'⟩ := hF σ T (p + 1) [.ints acc] r p ys r' S.next hr
     have h5 : EvS readB ⟨[X0, R, B, X3, X4, .ref (σ.length + 1), .inst σ.length], [], .undef, ss σ T p [.ints acc]⟩ .next ⟨[X0, R, B, .int p, .int x, .ref (σ.length + 1), .inst σ.length], [], .undef, ss σ T p' [.ints (acc ++ ys)]⟩ :=
      .seq h1 (.seq h2 (.one (.iteT h3 (.one (.extF (.loc rfl) (.callV (.loc rfl dR) hR (.cons (.loc rfl) (.cons (.loc rfl) .nil)) h4) (by omega))))))
     obtain ⟨i1, i2⟩ := ih (r := r') (acc := acc ++ ys) (p := p') (X3 := .int p) (X4 := .int x) (by omega) (by rw [List.length_append]; omega) (S'.tail (Plain.nil.cons))
     refine ⟨fun res h => ?_, fun hX m h => ?_⟩
     ·obtain ⟨a, b, e⟩ := i1 res h
      exact ⟨a, b, .wh1 (k := Fu + k) ht h5 e⟩
     ·obtain ⟨hm', w, l', q, acc', e⟩ := i2 hX m h
      exact ⟨hm', w, l', q, acc', .wh1 (k := Fu + k) ht h5 e⟩
    | none =>
     refine ⟨(fun res h => nomatch h), fun hX m h => ?_⟩
     cases h
     obtain ⟨w, p', h4⟩ := hX σ T (p + 1) [.ints acc] r p S.next hr
     rw [← hp]
     exact ⟨hm, w, _, p', acc, .whX (k := Fu + k) ht (.seq h1 (.seq h2 (.one (.iteT h3 (.one (.ofX (.extendX (.loc rfl) found_isL (.callV (.loc rfl dR) hR (.cons (.loc rfl) (.cons (.loc rfl) .nil)) h4))))))))⟩
   ·rw [if_neg hx]
    rw [beq_eq_false_iff_ne.mpr hx] at h3
    have h4 : EvE (.tru (.callV t_is_bare (.loc 2) [(.loc 4)])) ⟨[X0, R, B, .int p, .int x, .ref (σ.length + 1), .inst σ.length], [], .undef, ss σ T (p + 1) [.ints acc]⟩ (.ok (.bool (bare x))) ⟨[X0, R, B, .int p, .int x, .ref (σ.length + 1), .inst σ.length], [], .undef, ss σ T (p + 1) [.ints acc]⟩ :=
     .tru (.callV (.loc rfl dB) hB (.cons (.loc rfl) .nil) (hb x _ S.next.all))
    cases hbx : bare x with
    | true =>
     have h5 : EvS readB ⟨[X0, R, B, X3, X4, .ref (σ.length + 1), .inst σ.length], [], .undef, ss σ T p [.ints acc]⟩ .next ⟨[X0, R, B, .int p, .int x, .ref (σ.length + 1), .inst σ.length], [], .undef, ss σ T (p + 1) [.ints (acc ++ [x])]⟩ :=
      .seq h1 (.seq h2 (.one (.iteF h3 (.one (.iteT (hbx ▸ h4) (.one (.appF (.loc rfl) (.loc rfl) (by omega))))))))
     obtain ⟨i1, i2⟩ := ih (r := r) (acc := acc ++ [x]) (p := p + 1) (X3 := .int p) (X4 := .int x) (by omega) (by rw [List.length_append]; exact (by omega : acc.length + 1 + r.length ≤ 100000)) (S.next.tail (Plain.nil.cons))
     simp only [if_true]
     refine ⟨fun res h => ?_, fun hX m h => ?_⟩
     ·obtain ⟨a, b, e⟩ := i1 res h
      exact ⟨a, b, .wh1 (k := Fu + k) ht h5 e⟩
     ·obtain ⟨hm', w, l', q, acc', e⟩ := i2 hX m h
      exact ⟨hm', w, l', q, acc', .wh1 (k := Fu + k) ht h5 e⟩
    | false =>
     simp only [Bool.false_eq_true, if_false]
     refine ⟨(fun res h => nomatch h), fun hX m h => ?_⟩
     cases h
     rw [← hp]
     exact ⟨hm, _, _, p + 1, acc, .whX (k := Fu + k) ht (.seq h1 (.seq h2 (.one (.iteF h3 (.one (.iteF (hbx ▸ h4) (.one (.raise (.tup (.cons (.loc rfl) (.cons .val .nil)))))))))))⟩
theorem init_eq {t : List Int} (h : Lo σ) : EvF c_scan_init [.inst σ.length, .ints t] (σ ++ [.inst []]) (.ok .none) (ss σ t 0 []) := by
 have e1 : (σ ++ [MO.inst []])[σ.length]? = some (.inst []) := last_get
 have e2 : (σ ++ [MO.inst [.ints t]])[σ.length]? = some (.inst [.ints t]) := last_get
 have h1 := EvS.setA (l := [.inst σ.length, .ints t]) (c := []) (v := .undef) (f := .loc 1) (g := .loc 0) (j := 0) (EvE.loc rfl) (EvE.loc rfl) e1 (rfl : Mine.setA 0 (.ints t) [] = some [.ints t])
 rw [last_set] at h1
 have h2 := EvS.setA (l := [.inst σ.length, .ints t]) (c := []) (v := .undef) (f := .val (.int 0)) (g := .loc 0) (j := 1) EvE.val (EvE.loc rfl) e2 (rfl : Mine.setA 1 (.int 0) [.ints t] = some [.ints t, .int 0])
 rw [last_set] at h2
 exact run_next0 (.seq h1 (.one h2)) (hl := by rw [ss]; simp) (hτ := h.append fun y hy => by rcases List.mem_singleton.mp hy with rfl; exact fun κ => rfl)
theorem escape_read_eq {t : List Int} {R B : V} {F Fb : CF} {rd : List Int -> Option (List Int × List Int)} {bare : Int -> Bool} (h : Lo σ) (ht : t.length ≤ 100000) (hR : t_read R F) (hB : t_is_bare B Fb) (dR : R.isDef = true) (dB : B.isDef = true) (hF : ReadS F rd) (hg : GoodRd rd) (hb : BareIs Fb bare) :
  (∀ res, rdAll rd bare (t.length + 1) t [] = .ok res -> EvF c_escape_read [.ints t, R, B] σ (.ok (.ints res)) σ) ∧
  (ReadX F rd -> ∀ m, rdAll rd bare (t.length + 1) t [] = .error m -> m ≤ t.length ∧ ∃ w, EvF c_escape_read [.ints t, R, B] σ (.exn 45 (.tup [.int ((t.length - m : Nat)), .str w])) σ) := by
 have S : Sc σ t 0 [.ints []] t := ⟨h, Plain.nil.cons, ht, rfl, Nat.zero_le _⟩
 obtain ⟨i1, i2⟩ := read_loop (X0 := .ints t) hR hB dR dB hF hg hb (Fu := 1000000 - (t.length + 1)) (k := t.length + 1) (X3 := .undef) (X4 := .undef) (Nat.lt_succ_self _) (by simp; omega) S
 rw [show 1000000 - (t.length + 1) + (t.length + 1) = 1000000 by omega] at i1 i2
 have hs : EvS (.setT [(.l 6), (.l 5)] [(.newScan c_scan_init (.loc 0)), .newL]) ⟨[.ints t, R, B, .undef, .undef, .undef, .undef], [], .undef, σ⟩ .next ⟨[.ints t, R, B, .undef, .undef, .ref (σ.length + 1), .inst σ.length], [], .undef, ss σ t 0 [.ints []]⟩ := by
  refine .setT (.cons (.newScan (.loc rfl) (init_eq h)) (.cons .newL .nil)) ⟨rfl, Nat.le_succ 2⟩ ?_
  have e : (ss σ t 0 []).length = σ.length + 1 := by simp [ss]
  have e2 : ss σ t 0 [] ++ [.ints []] = ss σ t 0 [.ints []] := by simp [ss]
  show some (⟨[.ints t, R, B, .undef, .undef, .ref (ss σ t 0 []).length, .inst σ.length], [], .undef, ss σ t 0 [] ++ [.ints []]⟩ : AS) = _
  rw [e, e2]
 refine ⟨fun res hr => ?_, fun hX m hr => ?_⟩
 ·obtain ⟨a, b, e⟩ := i1 res hr
  have h2 := EvS.ret (f := .loc 5) (l := [.ints t, R, B, a, b, .ref (σ.length + 1), .inst σ.length]) (cl := []) (v := .undef) (τ := ss σ t t.length [.ints res]) (i := σ.length + 1) (.loc rfl) found_get
  have e3 : (ss σ t t.length [.ints res]).set (σ.length + 1) .gone = σ ++ [.inst [.ints t, .int t.length], .gone] := by simp [ss]
  rw [e3] at h2
  exact run_ret (.seq hs (.seq (.wh e) (.one h2))) rfl rfl rfl h
 ·obtain ⟨hm, w, l', p', acc', e⟩ := i2 hX m hr
  exact ⟨hm, w, run_exn (j := [.inst [.ints t, .int p'], .ints acc']) (.seq hs (.seqX (.wh e))) rfl rfl h⟩
end
section
variable {σ j τ : List MO} {T r : List Int} {p q : Nat} {x n m : Int} {l : List V} {c : List Nat} {v : V} {st s1 : AS} {i : Nat} {f g : EF}
noncomputable def digs (base : Int) : Nat -> List Int -> Int -> Option (Int × List Int)
 | 0, r, v => some (v, r)
 | _ + 1, [], _ => none
 | k + 1, x :: r, v => match dg x with
  | some d => if d < base then digs base k r (v * base + d) else none
  | none => none
theorem dg_lo {d : Int} (h : dg x = some d) : 0 ≤ d ∧ d < 16 := by
 unfold dg inR at h
 split at h
 ·rename_i q; cases h; simp at q; omega
 split at h
 ·rename_i q; cases h; simp at q; omega
 split at h
 ·rename_i q; cases h; simp at q; omega
 ·cases h
theorem small_of {u : Int} {a : Nat} (h0 : 0 ≤ u) (h1 : u < 16 ^ a) (ha : a ≤ 9) : small u = true := by
 have h2 : (16 : Int) ^ a ≤ 16 ^ 9 := by
  have : (16 : Nat) ^ a ≤ 16 ^ 9 := Nat.pow_le_pow_right (by decide) ha
  exact_mod_cast this
 have h3 : (16 : Int) ^ 9 = 68719476736 := by decide
 exact decide_eq_true (by omega)
theorem pow_up {u d base : Int} {a : Nat} (h0 : 0 ≤ u) (h1 : u < 16 ^ a) (hb : base ≤ 16) (hb0 : 0 ≤ base) (hd : 0 ≤ d) (hd2 : d < base) : 0 ≤ u * base + d ∧ u * base + d < 16 ^ (a + 1) := by
 have h2 : 0 ≤ u * base := Int.mul_nonneg h0 hb0
 have h3 : (u + 1) * base ≤ (16 ^ a) * 16 := Int.mul_le_mul (by omega) hb hb0 (by omega)
 rw [Int.pow_succ]
 rw [Int.add_mul, Int.one_mul] at h3
 omega
theorem num_digs {base : Int} (hb : base ≤ 16) (hb0 : 0 ≤ base) : ∀ {k a : Nat} {r : List Int} {u : Int}, 0 ≤ u -> u < 16 ^ a -> a + k ≤ 9 ->
  (∀ w r', digs base k r u = some (w, r') -> num base k r u = some (k, w, r') ∧ r'.length + k = r.length ∧ 0 ≤ w ∧ w < 16 ^ (a + k)) ∧ (digs base k r u = none -> ∃ m w r', num base k r u = some (m, w, r') ∧ m < k) := by
 intro k
 induction k with
 | zero =>
  intro a r u h0 h1 _
  refine ⟨fun w r' h => ?_, fun h => nomatch h⟩
  cases h
  exact ⟨rfl, rfl, h0, h1⟩
 | succ k ih =>
  intro a r u h0 h1 hk
  cases r with
  | nil => exact ⟨(fun w r' h => nomatch h), fun κ => ⟨0, u, [], rfl, Nat.succ_pos _⟩⟩
  | cons x r =>
   unfold digs num
   show (∀ w r', (match dg x with | some d => if d < base then digs base k r (u * base + d) else none | none => none) = some (w, r') -> _ = _ ∧ _) ∧ (_ -> ∃ m w r', (match dg x with | none => some (0, u, x :: r) | some d => if d < base then (if small u then (num base k r (u * base + d)).map fun y => (y.1 + 1, y.2) else none) else some (0, u, x :: r)) = some (m, w, r') ∧ m < k + 1)
   cases hd : dg x with
   | none => exact ⟨(fun w r' h => nomatch h), fun κ => ⟨0, u, _, rfl, Nat.succ_pos _⟩⟩
   | some d =>
    obtain ⟨d0, d1⟩ := dg_lo hd
    simp only [sg, hd, List.tail_cons]
    by_cases hdb : d < base
    ·obtain ⟨u0, u1⟩ := pow_up h0 h1 hb hb0 d0 hdb
     obtain ⟨i1, i2⟩ := ih (a := a + 1) (r := r) u0 u1 (by omega)
     rw [if_pos hdb, if_pos hdb, if_pos (small_of h0 h1 (by omega))]
     refine ⟨fun w r' h => ?_, fun h => ?_⟩
     ·obtain ⟨e1, e2, e3, e4⟩ := i1 w r' h
      rw [e1]
      exact ⟨rfl, by rw [List.length_cons]; omega, e3, by rw [show a + (k + 1) = a + 1 + k by omega]; exact e4⟩
     ·obtain ⟨m, w, r', e1, e2⟩ := i2 h
      rw [e1]
      exact ⟨m + 1, w, r', rfl, by omega⟩
    ·rw [if_neg hdb, if_neg hdb]
     exact ⟨(fun w r' h => nomatch h), fun κ => ⟨0, u, _, rfl, Nat.succ_pos _⟩⟩
theorem digs_num {base : Int} {k : Nat} {w : Int} {r r' : List Int} (hb : base ≤ 16) (hb0 : 0 ≤ base) (hk : k ≤ 8) (h : digs base k r 0 = some (w, r')) : num base k r 0 = some (k, w, r') ∧ r'.length + k = r.length ∧ 0 ≤ w ∧ w < 16 ^ k := by
 have := ((num_digs hb hb0 (a := 0) (k := k) (r := r) (u := 0) (Int.le_refl _) (by decide) (by omega)).1 w r' h)
 rwa [Nat.zero_add] at this
theorem EvE.number {b : V} {base w : Int} {K least m : Nat} {r' : List Int} {g1 g2 g3 g4 : EF} (S : Sc σ T p j r) (hn : num base K r 0 = some (m, w, r')) (hK : K ≤ 100000) (hm : least ≤ m) (hb : b.isDef = true) (h0 : EvE f ⟨l, c, v, ss σ T p j⟩ (.ok (.inst σ.length)) ⟨l, c, v, ss σ T p j⟩)
  (h1 : EvE g1 ⟨l, c, v, ss σ T p j⟩ (.ok (.int base)) ⟨l, c, v, ss σ T p j⟩) (h2 : EvE g2 ⟨l, c, v, ss σ T p j⟩ (.ok (.int least)) ⟨l, c, v, ss σ T p j⟩) (h3 : EvE g3 ⟨l, c, v, ss σ T p j⟩ (.ok (.int (K : Nat))) ⟨l, c, v, ss σ T p j⟩) (h4 : EvE g4 ⟨l, c, v, ss σ T p j⟩ (.ok b) ⟨l, c, v, ss σ T p j⟩) :
  EvE (.meth c_scan_number f [g1, g2, g3, g4]) ⟨l, c, v, ss σ T p j⟩ (.ok (.int w)) ⟨l, c, v, ss σ T (p + m) j⟩ ∧ Sc σ T (p + m) j r' :=
 have h := number_ok S hn hK hm hb
 ⟨.meth h0 ss_get (.cons h1 (.cons h2 (.cons h3 (.cons h4 .nil)))) h.1, h.2⟩
theorem EvE.numberX {b : Int} {base w : Int} {K least m : Nat} {r' : List Int} {g1 g2 g3 g4 : EF} (S : Sc σ T p j r) (hn : num base K r 0 = some (m, w, r')) (hK : K ≤ 100000) (hm : m < least) (h0 : EvE f ⟨l, c, v, ss σ T p j⟩ (.ok (.inst σ.length)) ⟨l, c, v, ss σ T p j⟩)
  (h1 : EvE g1 ⟨l, c, v, ss σ T p j⟩ (.ok (.int base)) ⟨l, c, v, ss σ T p j⟩) (h2 : EvE g2 ⟨l, c, v, ss σ T p j⟩ (.ok (.int least)) ⟨l, c, v, ss σ T p j⟩) (h3 : EvE g3 ⟨l, c, v, ss σ T p j⟩ (.ok (.int (K : Nat))) ⟨l, c, v, ss σ T p j⟩) (h4 : EvE g4 ⟨l, c, v, ss σ T p j⟩ (.ok (.int b)) ⟨l, c, v, ss σ T p j⟩) :
  EvE (.meth c_scan_number f [g1, g2, g3, g4]) ⟨l, c, v, ss σ T p j⟩ (.exn 45 (.tup [.int b, .str "digits"])) ⟨l, c, v, ss σ T (p + m) j⟩ :=
 .meth h0 ss_get (.cons h1 (.cons h2 (.cons h3 (.cons h4 .nil)))) (number_no S hn hK hm)
theorem EvS.due {x : Int} {b w : V} {g1 g2 g3 : EF} (S : Sc σ T p j (x :: r)) (h0 : EvE f ⟨l, c, v, ss σ T p j⟩ (.ok (.inst σ.length)) ⟨l, c, v, ss σ T p j⟩)
  (h1 : EvE g1 ⟨l, c, v, ss σ T p j⟩ (.ok (.int x)) ⟨l, c, v, ss σ T p j⟩) (h2 : EvE g2 ⟨l, c, v, ss σ T p j⟩ (.ok b) ⟨l, c, v, ss σ T p j⟩) (h3 : EvE g3 ⟨l, c, v, ss σ T p j⟩ (.ok w) ⟨l, c, v, ss σ T p j⟩) :
  EvS (.exp (.meth c_scan_due f [g1, g2, g3])) ⟨l, c, v, ss σ T p j⟩ .next ⟨l, c, v, ss σ T (p + 1) j⟩ := .exp (.meth h0 ss_get (.cons h1 (.cons h2 (.cons h3 .nil))) (due_eq S))
theorem EvS.dueX {x : Int} {b : Int} {w : Str} {g1 g2 g3 : EF} (S : Sc σ T p j r) (hx : sg r ≠ x) (h0 : EvE f ⟨l, c, v, ss σ T p j⟩ (.ok (.inst σ.length)) ⟨l, c, v, ss σ T p j⟩)
  (h1 : EvE g1 ⟨l, c, v, ss σ T p j⟩ (.ok (.int x)) ⟨l, c, v, ss σ T p j⟩) (h2 : EvE g2 ⟨l, c, v, ss σ T p j⟩ (.ok (.int b)) ⟨l, c, v, ss σ T p j⟩) (h3 : EvE g3 ⟨l, c, v, ss σ T p j⟩ (.ok (.str w)) ⟨l, c, v, ss σ T p j⟩) :
  EvS (.exp (.meth c_scan_due f [g1, g2, g3])) ⟨l, c, v, ss σ T p j⟩ (.exn 45 (.tup [.int b, .str w])) ⟨l, c, v, ss σ T p j⟩ := .ofX (.meth h0 ss_get (.cons h1 (.cons h2 (.cons h3 .nil))) (due_no S hx))
theorem EvE.take {b : V} {x : Int} (S : Sc σ T p j (x :: r)) (hb : b.isDef = true) (h0 : EvE f ⟨l, c, v, ss σ T p j⟩ (.ok (.inst σ.length)) ⟨l, c, v, ss σ T p j⟩) (h1 : EvE g ⟨l, c, v, ss σ T p j⟩ (.ok b) ⟨l, c, v, ss σ T p j⟩) :
  EvE (.meth c_scan_take f [g]) ⟨l, c, v, ss σ T p j⟩ (.ok (.int x)) ⟨l, c, v, ss σ T (p + 1) j⟩ := .meth h0 ss_get (.cons h1 .nil) (take_eq S hb)
end
section
variable {σ j τ : List MO} {T r : List Int} {p q : Nat} {x n m : Int} {l : List V} {c : List Nat} {v : V} {st s1 : AS} {i : Nat} {f g : EF}
noncomputable def dJ : List (Int × V) := l_ESCAPE_JSON.map fun x => (x.1, .int x.2)
noncomputable def atI' (D : List (Int × V)) (x : Int) : Option Int := match atKey D x with
 | some (.int u) => some u
 | _ => none
noncomputable def rdJ2 (v : Int) : List Int -> Option (List Int × List Int)
 | a :: b :: r => if a = 92 ∧ b = 117 then (match digs 16 4 r 0 with
  | some (lo, r') => if inR 56320 57343 lo then some ([65536 + (v - 55296) * 1024 + lo - 56320], r') else none
  | none => none) else none
 | _ => none
noncomputable def rdJ : List Int -> Option (List Int × List Int)
 | [] => none
 | x :: r => match atI' dJ x with
  | some u => some ([u], r)
  | none => if x = 117 then (match digs 16 4 r 0 with
   | some (v, r') => if inR 55296 56319 v then rdJ2 v r' else if inR 56320 57343 v then none else some ([v], r')
   | none => none) else none
theorem rdJ2_good {v : Int} {ys r' : List Int} (h : rdJ2 v r = some (ys, r')) : r'.length + 6 = r.length ∧ ys.length = 1 := by
 unfold rdJ2 at h
 split at h
 ·split at h
  ·split at h
   ·rename_i hd
    split at h
    ·cases h
     obtain ⟨_, h2, _⟩ := digs_num (by decide) (by decide) (by decide) hd
     simp only [List.length_cons]
     exact ⟨by omega, rfl⟩
    ·cases h
   ·cases h
  ·cases h
 ·cases h
set_option tactic.hygienic true in
theorem rdJ_good : GoodRd rdJ := fun r ys r' h => by
 unfold rdJ at h
 split at h
 ·cases h
 ·rename_i x r
  rw [List.length_cons]
  split at h
  ·cases h; exact ⟨by omega, by show 1 + _ ≤ _; omega⟩
  ·split at h
   ·split at h
    ·rename_i hd
     obtain ⟨_, h2, _⟩ := digs_num (by decide) (by decide) (by decide) hd
     split at h
     ·obtain ⟨h3, h4⟩ := rdJ2_good h; omega
     ·split at h
      ·cases h
      ·cases h; exact ⟨by omega, by show 1 + _ ≤ _; omega⟩
    ·cases h
   ·cases h
theorem atI_some {D : List (Int × V)} {x u : Int} (h : atI' D x = some u) : atKey D x = some (.int u) := by
 unfold atI' at h
 split at h
 ·cases h; assumption
 ·cases h
theorem atI_none {D : List (Int × Int)} {x : Int} (h : atI' (D.map fun x => (x.1, .int x.2)) x = none) : atKey (D.map fun x => (x.1, V.int x.2)) x = none := by
 unfold atI' atKey at h
 unfold atKey
 rw [List.find?_map] at *
 cases q : List.find? ((fun kv : Int × V => decide (kv.1 = x)) ∘ fun x : Int × Int => (x.1, V.int x.2)) D with
 | none => rfl
 | some y => rw [q] at h; cases h
theorem json_u (b : Int) (S : Sc σ T p j (117 :: r)) : EvS (.setL 2 (.meth c_scan_take (.loc 0) [(.loc 1)])) ⟨[.inst σ.length, .int b, .undef, .undef, .undef], [], .undef, ss σ T p j⟩ .next ⟨[.inst σ.length, .int b, .int 117, .undef, .undef], [], .undef, ss σ T (p + 1) j⟩ := .setL (.take S rfl (.loc rfl) (.loc rfl))
noncomputable def restJ : SF := (.seq (.ite (.tru (.call c_is_high [(.loc 4)])) (.seq (.exp (.meth c_scan_due (.loc 0) [(.val (.int 92)), (.loc 1), (.val (.str "surrogate"))])) (.seq (.exp (.meth c_scan_due (.loc 0) [(.val (.int 117)), (.loc 1), (.val (.str "surrogate"))])) (.seq (.setL 3 (.meth c_scan_number (.loc 0) [(.val (.int 16)), (.val (.int 4)), (.val (.int 4)), (.loc 1)])) (.seq (.ite (.not (.tru (.call c_is_low [(.loc 3)]))) (.seq (.raise 45 (.tup [(.loc 1), (.val (.str "surrogate"))])) .nop) .nop) (.seq (.retK (.list [(.bin (binF .Sub) (.bin (binF .Add) (.bin (binF .Add) (.val (.int 65536)) (.bin (binF .Mult) (.bin (binF .Sub) (.loc 4) (.val (.int 55296))) (.val (.int 1024)))) (.loc 3)) (.val (.int 56320)))])) .nop))))) .nop) (.seq (.ite (.tru (.call c_is_low [(.loc 4)])) (.seq (.raise 45 (.tup [(.loc 1), (.val (.str "surrogate"))])) .nop) .nop) (.seq (.retK (.list [(.loc 4)])) .nop)))
set_option tactic.hygienic true in
theorem json_S : ReadS c_escape_json_read rdJ := by
 intro σ T p j r b ys r' S h
 unfold rdJ at h
 split at h
 ·cases h
 ·rename_i x r
  have e1 : EvS (.setL 2 (.meth c_scan_take (.loc 0) [(.loc 1)])) ⟨[.inst σ.length, .int b, .undef, .undef, .undef], [], .undef, ss σ T p j⟩ .next ⟨[.inst σ.length, .int b, .int x, .undef, .undef], [], .undef, ss σ T (p + 1) j⟩ := .setL (.take S rfl (.loc rfl) (.loc rfl))
  have e2 {b2 : Bool} (hq : (atKey dJ x).isSome = b2) : EvE (.bin (cmpF .In) (.loc 2) (.val v_ESCAPE_JSON)) ⟨[.inst σ.length, .int b, .int x, .undef, .undef], [], .undef, ss σ T (p + 1) j⟩ (.ok (.bool b2)) ⟨[.inst σ.length, .int b, .int x, .undef, .undef], [], .undef, ss σ T (p + 1) j⟩ := .cmp (.loc rfl) .val (congrArg some hq)
  split at h
  ·rename_i u hu
   cases h
   have hk := atI_some hu
   exact ⟨p + 1, run_ret0 (.seq e1 (.seqX (.iteT (e2 (by rw [hk]; rfl)) (.one (.retK (.list (Xs := [.int u]) (.cons (.sub (X := v_ESCAPE_JSON) (U := .int x) .val (.loc rfl) (sub_dict hk)) .nil))))))) (hl := ss_len) (hτ := S.next.all), S.next⟩
  ·rename_i hu
   have hk : atKey dJ x = none := atI_none hu
   split at h
   ·rename_i hx
    subst hx
    split at h
    ·rename_i v r2 hd
     obtain ⟨h2, _, h3, h4⟩ := digs_num (by decide) (by decide) (by decide) hd
     obtain ⟨e3, S3⟩ := EvE.number (f := .loc 0) (g1 := .val (.int 16)) (g2 := .val (.int 4)) (g3 := .val (.int 4)) (g4 := .loc 1) (l := [.inst σ.length, .int b, .int 117, .undef, .undef]) (c := []) (v := .undef) (least := 4) S.next h2 (by decide) (Nat.le_refl _) (b := .int b) rfl (.loc rfl) .val .val .val (.loc rfl)
     have pre {fl : Fl} {s2 : AS} (hr : EvS restJ ⟨[.inst σ.length, .int b, .int 117, .undef, .int v], [], .undef, ss σ T (p + 1 + 4) j⟩ fl s2) : EvS f_escape_json_read ⟨[.inst σ.length, .int b, .undef, .undef, .undef], [], .undef, ss σ T p j⟩ fl s2 := EvS.seq e1 (.seq (.iteF (e2 (by rw [hk]; rfl)) .nop) (.seq (.iteF (EvE.cmp (op := .NotEq) (.loc rfl) .val) .nop) (.seq (.setL e3) hr)))
     have eh : EvE (.tru (.call c_is_high [(.loc 4)])) ⟨[.inst σ.length, .int b, .int 117, .undef, .int v], [], .undef, ss σ T (p + 1 + 4) j⟩ (.ok (.bool (inR 55296 56319 v))) ⟨[.inst σ.length, .int b, .int 117, .undef, .int v], [], .undef, ss σ T (p + 1 + 4) j⟩ := .tru (.call (.cons (.loc rfl) .nil) (is_high_eq S3.all))
     split at h
     ·rename_i hh
      unfold rdJ2 at h
      split at h
      ·rename_i a b' r3
       split at h
       ·rename_i hab
        obtain ⟨rfl, rfl⟩ := hab
        split at h
        ·rename_i lo r4 hd2
         split at h
         ·rename_i hlo
          cases h
          obtain ⟨k2, _, k3, k4⟩ := digs_num (by decide) (by decide) (by decide) hd2
          obtain ⟨e4, S4⟩ := EvE.number (f := .loc 0) (g1 := .val (.int 16)) (g2 := .val (.int 4)) (g3 := .val (.int 4)) (g4 := .loc 1) (l := [.inst σ.length, .int b, .int 117, .undef, .int v]) (c := []) (v := .undef) (least := 4) S3.next.next k2 (by decide) (Nat.le_refl _) (b := .int b) rfl (.loc rfl) .val .val .val (.loc rfl)
          have hp16 : (16 : Int) ^ 4 = 65536 := by decide
          have hs : small (v - 55296) = true := decide_eq_true (by omega)
          refine ⟨_, run_ret0 (pre (.seqX (.iteT (hh ▸ eh) (.seq (.due S3 (.loc rfl) .val (.loc rfl) .val) (.seq (.due S3.next (.loc rfl) .val (.loc rfl) .val) (.seq (.setL e4) (.seq (.iteF (.not (b := true) (.tru (.call (.cons (.loc rfl) .nil) (hlo ▸ is_low_eq S4.all)))) .nop) (.one (.retK (.list (Xs := [.int (65536 + (v - 55296) * 1024 + lo - 56320)]) (.cons (.op (W := .int (65536 + (v - 55296) * 1024 + lo - 56320)) (.op (W := .int (65536 + (v - 55296) * 1024 + lo)) (.op (W := .int (65536 + (v - 55296) * 1024)) .val (.op (W := .int ((v - 55296) * 1024)) (.op (.loc rfl) .val) .val (by show (if small (v - 55296) = true then some (V.int ((v - 55296) * 1024)) else none) = _; rw [if_pos hs])) rfl) (.loc rfl) rfl) .val rfl) .nil))))))))))) (hl := ss_len) (hτ := S4.all), S4⟩
         ·cases h
        ·cases h
       ·cases h
      ·cases h
     ·rename_i hh
      split at h
      ·cases h
      ·rename_i hlo
       cases h
       refine ⟨_, run_ret0 (pre (.seq (.iteF (Bool.eq_false_iff.mpr hh ▸ eh) .nop) (.seq (.iteF (.tru (.call (.cons (.loc rfl) .nil) (Bool.eq_false_iff.mpr hlo ▸ is_low_eq S3.all))) .nop) (.one (.retK (.list (Xs := [.int v]) (.cons (.loc rfl) .nil))))))) (hl := ss_len) (hτ := S3.all), S3⟩
    ·cases h
   ·cases h
end
section
variable {σ j τ : List MO} {T r : List Int} {p q : Nat} {x n m : Int} {l : List V} {c : List Nat} {v : V} {st s1 : AS} {i : Nat} {f g : EF}
theorem digs_none {base : Int} {k : Nat} (hb : base ≤ 16) (hb0 : 0 ≤ base) (hk : k ≤ 8) (h : digs base k r 0 = none) : ∃ m w r', num base k r 0 = some (m, w, r') ∧ m < k :=
 (num_digs hb hb0 (a := 0) (k := k) (r := r) (u := 0) (Int.le_refl _) (by decide) (by omega)).2 h
theorem json_X : ReadX c_escape_json_read rdJ := by
 intro σ T p j r b S h
 cases r with
 | nil => exact ⟨_, p, run_exn0 (.seqX (.ofX (.meth (.loc rfl) ss_get (.cons (.loc rfl) .nil) (take_end S)))) (hτ := S.all)⟩
 | cons x r =>
  have e1 : EvS (.setL 2 (.meth c_scan_take (.loc 0) [(.loc 1)])) ⟨[.inst σ.length, .int b, .undef, .undef, .undef], [], .undef, ss σ T p j⟩ .next ⟨[.inst σ.length, .int b, .int x, .undef, .undef], [], .undef, ss σ T (p + 1) j⟩ := .setL (.take S rfl (.loc rfl) (.loc rfl))
  have e2 {b2 : Bool} (hq : (atKey dJ x).isSome = b2) : EvE (.bin (cmpF .In) (.loc 2) (.val v_ESCAPE_JSON)) ⟨[.inst σ.length, .int b, .int x, .undef, .undef], [], .undef, ss σ T (p + 1) j⟩ (.ok (.bool b2)) ⟨[.inst σ.length, .int b, .int x, .undef, .undef], [], .undef, ss σ T (p + 1) j⟩ := .cmp (.loc rfl) .val (congrArg some hq)
  unfold rdJ at h
  simp only at h
  cases hu : atI' dJ x with
  | some u => rw [hu] at h; cases h
  | none =>
   rw [hu] at h
   have hk : atKey dJ x = none := atI_none hu
   have e2 := e2 (b2 := false) (by rw [hk]; rfl)
   have e3 : EvE (.bin (cmpF .NotEq) (.loc 2) (.val (.int 117))) ⟨[.inst σ.length, .int b, .int x, .undef, .undef], [], .undef, ss σ T (p + 1) j⟩ (.ok (.bool (!(x == 117)))) ⟨[.inst σ.length, .int b, .int x, .undef, .undef], [], .undef, ss σ T (p + 1) j⟩ := .cmp (.loc rfl) .val
   by_cases hx : x = 117
   ·subst hx
    simp only [if_true] at h
    cases hd : digs 16 4 r 0 with
    | none =>
     obtain ⟨m, w, r', h1, h2⟩ := digs_none (by decide) (by decide) (by decide) hd
     exact ⟨_, p + 1 + m, run_exn0 (.seq e1 (.seq (.iteF e2 .nop) (.seq (.iteF e3 .nop) (.seqX (.ofX (.numberX S.next h1 (by decide) h2 (.loc rfl) .val .val .val (.loc rfl))))))) (hl := ss_len) (hτ := (number_ok S.next h1 (by decide) (Nat.zero_le _) (b := .int b) rfl).2.all)⟩
    | some y =>
     obtain ⟨v, r2⟩ := y
     rw [hd] at h
     simp only at h
     obtain ⟨h2, _, h3, h4⟩ := digs_num (by decide) (by decide) (by decide) hd
     obtain ⟨e4, S3⟩ := EvE.number (f := .loc 0) (g1 := .val (.int 16)) (g2 := .val (.int 4)) (g3 := .val (.int 4)) (g4 := .loc 1) (l := [.inst σ.length, .int b, .int 117, .undef, .undef]) (c := []) (v := .undef) (least := 4) S.next h2 (by decide) (Nat.le_refl _) (b := .int b) rfl (.loc rfl) .val .val .val (.loc rfl)
     have pre {fl : Fl} {s2 : AS} (hr : EvS restJ ⟨[.inst σ.length, .int b, .int 117, .undef, .int v], [], .undef, ss σ T (p + 1 + 4) j⟩ fl s2) : EvS f_escape_json_read ⟨[.inst σ.length, .int b, .undef, .undef, .undef], [], .undef, ss σ T p j⟩ fl s2 := EvS.seq e1 (.seq (.iteF e2 .nop) (.seq (.iteF e3 .nop) (.seq (.setL e4) hr)))
     have eh : EvE (.tru (.call c_is_high [(.loc 4)])) ⟨[.inst σ.length, .int b, .int 117, .undef, .int v], [], .undef, ss σ T (p + 1 + 4) j⟩ (.ok (.bool (inR 55296 56319 v))) ⟨[.inst σ.length, .int b, .int 117, .undef, .int v], [], .undef, ss σ T (p + 1 + 4) j⟩ := .tru (.call (.cons (.loc rfl) .nil) (is_high_eq S3.all))
     cases hh : inR 55296 56319 v with
     | true =>
      rw [hh] at h eh
      simp only [if_true] at h
      by_cases ha : sg r2 = 92
      ·cases r2 with
       | nil => cases ha
       | cons a r3 =>
        have ha : a = 92 := ha
        subst ha
        by_cases hb : sg r3 = 117
        ·cases r3 with
         | nil => cases hb
         | cons b' r4 =>
          have hb : b' = 117 := hb
          subst hb
          unfold rdJ2 at h
          simp only [and_self, if_true] at h
          cases hd2 : digs 16 4 r4 0 with
          | none =>
           obtain ⟨m, w, r', k1, k2⟩ := digs_none (by decide) (by decide) (by decide) hd2
           exact ⟨_, _, run_exn0 (pre (.seqX (.iteT eh (.seq (.due S3 (.loc rfl) .val (.loc rfl) .val) (.seq (.due S3.next (.loc rfl) .val (.loc rfl) .val) (.seqX (.ofX (.numberX S3.next.next k1 (by decide) k2 (.loc rfl) .val .val .val (.loc rfl))))))))) (hl := ss_len) (hτ := (number_ok S3.next.next k1 (by decide) (Nat.zero_le _) (b := .int b) rfl).2.all)⟩
          | some y =>
           obtain ⟨lo, r5⟩ := y
           rw [hd2] at h
           simp only at h
           obtain ⟨k2, _⟩ := digs_num (by decide) (by decide) (by decide) hd2
           obtain ⟨e5, S5⟩ := EvE.number (f := .loc 0) (g1 := .val (.int 16)) (g2 := .val (.int 4)) (g3 := .val (.int 4)) (g4 := .loc 1) (l := [.inst σ.length, .int b, .int 117, .undef, .int v]) (c := []) (v := .undef) (least := 4) S3.next.next k2 (by decide) (Nat.le_refl _) (b := .int b) rfl (.loc rfl) .val .val .val (.loc rfl)
           cases hlo : inR 56320 57343 lo with
           | true => rw [hlo] at h; cases h
           | false =>
            exact ⟨_, _, run_exn0 (pre (.seqX (.iteT eh (.seq (.due S3 (.loc rfl) .val (.loc rfl) .val) (.seq (.due S3.next (.loc rfl) .val (.loc rfl) .val) (.seq (.setL e5) (.seqX (.iteT (.not (b := false) (.tru (.call (.cons (.loc rfl) .nil) (hlo ▸ is_low_eq S5.all)))) (.one (.raise (.tup (.cons (.loc rfl) (.cons .val .nil))))))))))))) (hl := ss_len) (hτ := S5.all)⟩
        ·exact ⟨_, _, run_exn0 (pre (.seqX (.iteT eh (.seq (.due S3 (.loc rfl) .val (.loc rfl) .val) (.seqX (.dueX S3.next hb (.loc rfl) .val (.loc rfl) .val)))))) (hl := ss_len) (hτ := S3.next.all)⟩
      ·exact ⟨_, _, run_exn0 (pre (.seqX (.iteT eh (.seqX (.dueX S3 ha (.loc rfl) .val (.loc rfl) .val))))) (hl := ss_len) (hτ := S3.all)⟩
     | false =>
      rw [hh] at h eh
      simp only [Bool.false_eq_true, if_false] at h
      cases hlo : inR 56320 57343 v with
      | true => exact ⟨_, _, run_exn0 (pre (.seq (.iteF eh .nop) (.seqX (.iteT (.tru (.call (.cons (.loc rfl) .nil) (hlo ▸ is_low_eq S3.all))) (.one (.raise (.tup (.cons (.loc rfl) (.cons .val .nil))))))))) (hl := ss_len) (hτ := S3.all)⟩
      | false => rw [hlo] at h; cases h
   ·rw [beq_eq_false_iff_ne.mpr hx] at e3
    exact ⟨_, p + 1, run_exn0 (.seq e1 (.seq (.iteF e2 .nop) (.seqX (.iteT e3 (.one (.raise (.tup (.cons (.loc rfl) (.cons .val .nil))))))))) (hl := ss_len) (hτ := S.next.all)⟩
noncomputable def bareJ (x : Int) : Bool := decide (32 ≤ x) && (!(x == 34) && scal x)
theorem EvE.and3T {k : EF} {s2 s3 : AS} {R : Out} (h1 : EvE f st (.ok (.bool true)) s1) (h2 : EvE g s1 (.ok (.bool true)) s2) (h3 : EvE k s2 R s3) : EvE (.and3 f g k) st R s3 := EvE.and2T h1 (EvE.and2T h2 h3)
theorem EvE.and3F {k : EF} (h1 : EvE f st (.ok (.bool false)) s1) : EvE (.and3 f g k) st (.ok (.bool false)) s1 := EvE.and2F h1
theorem EvE.and3G {k : EF} {s2 : AS} (h1 : EvE f st (.ok (.bool true)) s1) (h2 : EvE g s1 (.ok (.bool false)) s2) : EvE (.and3 f g k) st (.ok (.bool false)) s2 := EvE.and2T h1 (EvE.and2F h2)
theorem bareJ_eq : BareIs c_lam_0 bareJ := fun x σ h => by
 have e1 : EvE (.bin (cmpF .GtE) (.loc 0) (.val (.int 32))) ⟨[.int x], [], .undef, σ⟩ (.ok (.bool (decide (32 ≤ x)))) ⟨[.int x], [], .undef, σ⟩ := .cmp (.loc rfl) .val
 have e2 : EvE (.bin (cmpF .NotEq) (.loc 0) (.val (.int 34))) ⟨[.int x], [], .undef, σ⟩ (.ok (.bool (!(x == 34)))) ⟨[.int x], [], .undef, σ⟩ := .cmp (.loc rfl) .val
 have e3 : EvE (.call c_is_scalar [(.loc 0)]) ⟨[.int x], [], .undef, σ⟩ (.ok (.bool (scal x))) ⟨[.int x], [], .undef, σ⟩ := .call (.cons (.loc rfl) .nil) (is_scalar_eq h)
 unfold bareJ
 cases q1 : decide (32 ≤ x) with
 | false => exact runL_ret0 (.and3F (q1 ▸ e1)) (hτ := h)
 | true =>
  cases q2 : !(x == 34) with
  | false => exact runL_ret0 (.and3G (q1 ▸ e1) (q2 ▸ e2)) (hτ := h)
  | true => exact runL_ret0 (.and3T (q1 ▸ e1) (q2 ▸ e2) e3) (hτ := h)
theorem unescape_json_eq {t : List Int} (h : Lo σ) (ht : t.length ≤ 100000) :
  (∀ res, rdAll rdJ bareJ (t.length + 1) t [] = .ok res -> EvF c_unescape_json [.ints t] σ (.ok (.ints res)) σ) ∧
  (∀ m, rdAll rdJ bareJ (t.length + 1) t [] = .error m -> m ≤ t.length ∧ ∃ w, EvF c_unescape_json [.ints t] σ (.exn 45 (.tup [.int ((t.length - m : Nat)), .str w])) σ) := by
 obtain ⟨i1, i2⟩ := escape_read_eq (R := .val (.ref 247)) (B := .lam 0) h ht .escape_json_read .lam_0 rfl rfl json_S rdJ_good bareJ_eq
 refine ⟨fun res hr => run_ret0 (.one (.retK (.call (.cons (.loc rfl) (.cons .val (.cons .val .nil))) (i1 res hr)))) (hτ := h), fun m hm => ?_⟩
 obtain ⟨h1, w, h2⟩ := i2 json_X m hm
 exact ⟨h1, w, run_exn0 (.one (.ofX (.call (.cons (.loc rfl) (.cons .val (.cons .val .nil))) h2))) (hτ := h)⟩
end
section
variable {σ j τ : List MO} {T r : List Int} {p q : Nat} {x n m : Int} {l : List V} {c : List Nat} {v : V} {st s1 : AS} {i : Nat} {f g : EF}
noncomputable def numM (base : Int) : Nat -> List Int -> Int -> Option (Nat × Int × List Int)
 | 0, r, v => some (0, v, r)
 | _ + 1, [], _ => none
 | k + 1, x :: r, v => match dg x with
  | none => some (0, v, x :: r)
  | some d => if d < base then (if small v then (match numM base k r (v * base + d) with | some (m, w, r') => some (m + 1, w, r') | none => none) else none) else some (0, v, x :: r)
set_option tactic.hygienic true in
theorem numM_num {base : Int} : ∀ {k m : Nat} {r r' : List Int} {u w : Int}, numM base k r u = some (m, w, r') -> num base k r u = some (m, w, r') ∧ r'.length + m = r.length
 | 0, _, _, _, _, _, h => by cases h; exact ⟨rfl, rfl⟩
 | k + 1, m, [], r', u, w, h => nomatch h
 | k + 1, m, x :: r, r', u, w, h => by
  unfold numM at h
  unfold num
  show (match dg x with | none => some (0, u, x :: r) | some d => if d < base then (if small u then (num base k r (u * base + d)).map fun (y : Nat × Int × List Int) => (y.1 + 1, y.2) else none) else some (0, u, x :: r)) = _ ∧ _
  cases hd : dg x with
  | none => rw [hd] at h; cases h; exact ⟨rfl, rfl⟩
  | some d =>
   rw [hd] at h
   simp only at h ⊢
   split at h
   ·rename_i h1
    split at h
    ·rename_i h2
     split at h
     ·rename_i m' w' r'' hq
      cases h
      obtain ⟨e1, e2⟩ := numM_num hq
      rw [if_pos h1, if_pos h2, e1]
      exact ⟨rfl, by rw [List.length_cons]; omega⟩
     ·cases h
    ·cases h
   ·rename_i h1
    cases h
    rw [if_neg h1]
    exact ⟨rfl, rfl⟩
noncomputable def dP : List (Int × V) := l_ESCAPE_PYTHON.map fun x => (x.1, .int x.2)
noncomputable def dR : List (Int × V) := l_ESCAPE_RUST.map fun x => (x.1, .int x.2)
noncomputable def oct (x : Int) : Bool := [48, 49, 50, 51, 52, 53, 54, 55].any (· == x)
noncomputable def octE : EF := .bin (cmpF .In) (.loc 2) (.tup [(.val (.int 48)), (.val (.int 49)), (.val (.int 50)), (.val (.int 51)), (.val (.int 52)), (.val (.int 53)), (.val (.int 54)), (.val (.int 55))])
theorem oct_run (hl : l[2]? = some (.int x)) : EvE octE ⟨l, c, v, τ⟩ (.ok (.bool (oct x))) ⟨l, c, v, τ⟩ := .cmp (.loc hl) (.tup (.cons .val (.cons .val (.cons .val (.cons .val (.cons .val (.cons .val (.cons .val (.cons .val .nil))))))))) rfl
noncomputable def rdP : List Int -> Option (List Int × List Int)
 | [] => none
 | x :: r => if oct x then (match numM 8 3 (x :: r) 0 with
   | some (m, v, r') => if 1 ≤ m then some ([v], r') else none
   | none => none)
  else match atI' dP x with
  | some u => some ([u], r)
  | none => match (if x = 120 then some 2 else if x = 117 then some 4 else if x = 85 then some 8 else none) with
   | some k => (match digs 16 k r 0 with
    | some (v, r') => if inR 0 1114111 v then some ([v], r') else none
    | none => none)
   | none => none
set_option tactic.hygienic true in
theorem rdP_good : GoodRd rdP := fun r ys r' h => by
 unfold rdP at h
 split at h
 ·cases h
 ·rename_i x r
  rw [List.length_cons]
  split at h
  ·split at h
   ·rename_i hm
    have := (numM_num hm).2
    rw [List.length_cons] at this
    split at h
    ·cases h; exact ⟨by omega, by show 1 + _ ≤ _; omega⟩
    ·cases h
   ·cases h
  ·split at h
   ·cases h; exact ⟨by omega, by show 1 + _ ≤ _; omega⟩
   ·split at h
    ·rename_i k hk
     have k8 : k ≤ 8 := by
      split at hk
      ·cases hk; decide
      split at hk
      ·cases hk; decide
      split at hk
      ·cases hk; decide
      ·cases hk
     split at h
     ·rename_i hd
      obtain ⟨_, h2, _⟩ := digs_num (by decide) (by decide) k8 hd
      split at h
      ·cases h; exact ⟨by omega, by show 1 + _ ≤ _; omega⟩
      ·cases h
     ·cases h
    ·cases h
noncomputable def sz : V := .dict [(120, .int 2), (117, .int 4), (85, .int 8)]
set_option tactic.hygienic true in
theorem python_S : ReadS c_escape_python_read rdP := by
 intro σ T p j r b ys r' S h
 unfold rdP at h
 split at h
 ·cases h
 ·rename_i x r
  have e0 : EvS (.setL 3 (.dictI [((.val (.int 120)), (.val (.int 2))), ((.val (.int 117)), (.val (.int 4))), ((.val (.int 85)), (.val (.int 8)))])) ⟨[.inst σ.length, .int b, .undef, .undef, .undef], [], .undef, ss σ T p j⟩ .next ⟨[.inst σ.length, .int b, .undef, sz, .undef], [], .undef, ss σ T p j⟩ :=
   .setL (.dictI (.cons .val .val (.cons .val .val (.cons .val .val .nil))) rfl (by decide))
  have e1 : EvS (.setL 2 (.meth c_scan_sign (.loc 0) [])) ⟨[.inst σ.length, .int b, .undef, sz, .undef], [], .undef, ss σ T p j⟩ .next ⟨[.inst σ.length, .int b, .int x, sz, .undef], [], .undef, ss σ T p j⟩ := .setL (.sign S (.loc rfl))
  have e2 : EvE octE ⟨[.inst σ.length, .int b, .int x, sz, .undef], [], .undef, ss σ T p j⟩ (.ok (.bool (oct x))) ⟨[.inst σ.length, .int b, .int x, sz, .undef], [], .undef, ss σ T p j⟩ := oct_run rfl
  split at h
  ·rename_i ho
   split at h
   ·rename_i m w r2 hm
    split at h
    ·rename_i hm1
     cases h
     obtain ⟨e3, S3⟩ := EvE.number (f := .loc 0) (g1 := .val (.int 8)) (g2 := .val (.int 1)) (g3 := .val (.int 3)) (g4 := .loc 1) (l := [.inst σ.length, .int b, .int x, sz, .undef]) (c := []) (v := .undef) (least := 1) S (numM_num hm).1 (by decide) hm1 (b := .int b) rfl (.loc rfl) .val .val .val (.loc rfl)
     exact ⟨_, run_ret0 (.seq e0 (.seq e1 (.seqX (.iteT (ho ▸ e2) (.one (.retK (.list (Xs := [.int w]) (.cons e3 .nil)))))))) (hl := ss_len) (hτ := S3.all), S3⟩
    ·cases h
   ·cases h
  ·rename_i ho
   have e4 : EvS (.setL 2 (.meth c_scan_take (.loc 0) [(.loc 1)])) ⟨[.inst σ.length, .int b, .int x, sz, .undef], [], .undef, ss σ T p j⟩ .next ⟨[.inst σ.length, .int b, .int x, sz, .undef], [], .undef, ss σ T (p + 1) j⟩ := .setL (.take S rfl (.loc rfl) (.loc rfl))
   have e5 {b2 : Bool} (hq : (atKey dP x).isSome = b2) : EvE (.bin (cmpF .In) (.loc 2) (.val v_ESCAPE_PYTHON)) ⟨[.inst σ.length, .int b, .int x, sz, .undef], [], .undef, ss σ T (p + 1) j⟩ (.ok (.bool b2)) ⟨[.inst σ.length, .int b, .int x, sz, .undef], [], .undef, ss σ T (p + 1) j⟩ := .cmp (.loc rfl) .val (congrArg some hq)
   have e2 := Bool.eq_false_iff.mpr ho ▸ e2
   split at h
   ·rename_i u hu
    cases h
    have hk := atI_some hu
    exact ⟨p + 1, run_ret0 (.seq e0 (.seq e1 (.seq (.iteF e2 .nop) (.seq e4 (.seqX (.iteT (e5 (by rw [hk]; rfl)) (.one (.retK (.list (Xs := [.int u]) (.cons (.sub (X := v_ESCAPE_PYTHON) (U := .int x) .val (.loc rfl) (sub_dict hk)) .nil)))))))))) (hl := ss_len) (hτ := S.next.all), S.next⟩
   ·rename_i hu
    have hk : atKey dP x = none := atI_none hu
    split at h
    ·rename_i k hkk
     have hks : k ≤ 8 ∧ inV x sz = some true ∧ ∀ τ, subV τ sz (.int x) = some (.int (k : Nat)) := by
      split at hkk
      ·rename_i q; cases hkk; subst q; exact ⟨by decide, rfl, fun κ => rfl⟩
      split at hkk
      ·rename_i q; cases hkk; subst q; exact ⟨by decide, rfl, fun κ => rfl⟩
      split at hkk
      ·rename_i q; cases hkk; subst q; exact ⟨by decide, rfl, fun κ => rfl⟩
      ·cases hkk
     obtain ⟨k8, k1, k2⟩ := hks
     split at h
     ·rename_i w r2 hd
      split at h
      ·rename_i hw
       cases h
       obtain ⟨h2, _⟩ := digs_num (by decide) (by decide) k8 hd
       obtain ⟨e6, S3⟩ := EvE.number (f := .loc 0) (g1 := .val (.int 16)) (g2 := .bin subF (.loc 3) (.loc 2)) (g3 := .bin subF (.loc 3) (.loc 2)) (g4 := .loc 1) (l := [.inst σ.length, .int b, .int x, sz, .undef]) (c := []) (v := .undef) (least := k) S.next h2 (by omega) (Nat.le_refl _) (b := .int b) rfl (.loc rfl) .val (.sub (X := sz) (.loc rfl) (.loc rfl) (k2 _)) (.sub (X := sz) (.loc rfl) (.loc rfl) (k2 _)) (.loc rfl)
       exact ⟨_, run_ret0 (.seq e0 (.seq e1 (.seq (.iteF e2 .nop) (.seq e4 (.seq (.iteF (e5 (by rw [hk]; rfl)) .nop) (.seqX (.iteT (.cmp (.loc rfl) (.loc rfl) k1) (.seq (.setL e6) (.seq (.iteF (.not (b := true) (.tru (.call (.cons (.loc rfl) .nil) (hw ▸ is_code_eq S3.all)))) .nop) (.one (.retK (.list (Xs := [.int w]) (.cons (.loc rfl) .nil))))))))))))) (hl := ss_len) (hτ := S3.all), S3⟩
      ·cases h
     ·cases h
    ·cases h
theorem bareP_eq : BareIs c_lam_1 (fun κ => true) := fun x σ h => runL_ret0 .val (hτ := h)
noncomputable def rdC : List Int -> Option (List Int × List Int)
 | [] => none
 | x :: r => if oct x then (match numM 8 3 (x :: r) 0 with
   | some (m, v, r') => if 1 ≤ m then some ([v], r') else none
   | none => none)
  else match atI' dP x with
  | some u => some ([u], r)
  | none => match (if x = 117 then some 4 else if x = 85 then some 8 else none) with
   | some k => (match digs 16 k r 0 with
    | some (v, r') => if scal v && !(decide (v < 160)) then some ([v], r') else none
    | none => none)
   | none => none
set_option tactic.hygienic true in
theorem rdC_good : GoodRd rdC := fun r ys r' h => by
 unfold rdC at h
 split at h
 ·cases h
 ·rename_i x r
  rw [List.length_cons]
  split at h
  ·split at h
   ·rename_i hm
    have := (numM_num hm).2
    rw [List.length_cons] at this
    split at h
    ·cases h; exact ⟨by omega, by show 1 + _ ≤ _; omega⟩
    ·cases h
   ·cases h
  ·split at h
   ·cases h; exact ⟨by omega, by show 1 + _ ≤ _; omega⟩
   ·split at h
    ·rename_i k hk
     have k8 : k ≤ 8 := by
      split at hk
      ·cases hk; decide
      split at hk
      ·cases hk; decide
      ·cases hk
     split at h
     ·rename_i hd
      obtain ⟨_, h2, _⟩ := digs_num (by decide) (by decide) k8 hd
      split at h
      ·cases h; exact ⟨by omega, by show 1 + _ ≤ _; omega⟩
      ·cases h
     ·cases h
    ·cases h
set_option tactic.hygienic true in
theorem c_S : ReadS c_escape_c_read rdC := by
 intro σ T p j r b ys r' S h
 unfold rdC at h
 split at h
 ·cases h
 ·rename_i x r
  have e1 : EvS (.setL 2 (.meth c_scan_sign (.loc 0) [])) ⟨[.inst σ.length, .int b, .undef, .undef, .undef], [], .undef, ss σ T p j⟩ .next ⟨[.inst σ.length, .int b, .int x, .undef, .undef], [], .undef, ss σ T p j⟩ := .setL (.sign S (.loc rfl))
  have e2 : EvE octE ⟨[.inst σ.length, .int b, .int x, .undef, .undef], [], .undef, ss σ T p j⟩ (.ok (.bool (oct x))) ⟨[.inst σ.length, .int b, .int x, .undef, .undef], [], .undef, ss σ T p j⟩ := oct_run rfl
  split at h
  ·rename_i ho
   split at h
   ·rename_i m w r2 hm
    split at h
    ·rename_i hm1
     cases h
     obtain ⟨e3, S3⟩ := EvE.number (f := .loc 0) (g1 := .val (.int 8)) (g2 := .val (.int 1)) (g3 := .val (.int 3)) (g4 := .loc 1) (l := [.inst σ.length, .int b, .int x, .undef, .undef]) (c := []) (v := .undef) (least := 1) S (numM_num hm).1 (by decide) hm1 (b := .int b) rfl (.loc rfl) .val .val .val (.loc rfl)
     exact ⟨_, run_ret0 (.seq e1 (.seqX (.iteT (ho ▸ e2) (.one (.retK (.list (Xs := [.int w]) (.cons e3 .nil))))))) (hl := ss_len) (hτ := S3.all), S3⟩
    ·cases h
   ·cases h
  ·rename_i ho
   have e4 : EvS (.setL 2 (.meth c_scan_take (.loc 0) [(.loc 1)])) ⟨[.inst σ.length, .int b, .int x, .undef, .undef], [], .undef, ss σ T p j⟩ .next ⟨[.inst σ.length, .int b, .int x, .undef, .undef], [], .undef, ss σ T (p + 1) j⟩ := .setL (.take S rfl (.loc rfl) (.loc rfl))
   have e5 {b2 : Bool} (hq : (atKey dP x).isSome = b2) : EvE (.bin (cmpF .In) (.loc 2) (.val v_ESCAPE_PYTHON)) ⟨[.inst σ.length, .int b, .int x, .undef, .undef], [], .undef, ss σ T (p + 1) j⟩ (.ok (.bool b2)) ⟨[.inst σ.length, .int b, .int x, .undef, .undef], [], .undef, ss σ T (p + 1) j⟩ := .cmp (.loc rfl) .val (congrArg some hq)
   have e2 := Bool.eq_false_iff.mpr ho ▸ e2
   split at h
   ·rename_i u hu
    cases h
    have hk := atI_some hu
    have hg := EvE.get2 (f := .val v_ESCAPE_PYTHON) (g := .loc 2) (h := .loc 2) (st := ⟨[.inst σ.length, .int b, .int x, .undef, .undef], [], .undef, ss σ T (p + 1) j⟩) (W := .int x) (.val (X := .dict dP)) (.loc rfl) (.loc rfl) rfl
    rw [hk] at hg
    exact ⟨p + 1, run_ret0 (.seq e1 (.seq (.iteF e2 .nop) (.seq e4 (.seqX (.iteT (.orT (e5 (by rw [hk]; rfl))) (.one (.retK (.list (Xs := [.int u]) (.cons hg .nil))))))))) (hl := ss_len) (hτ := S.next.all), S.next⟩
   ·rename_i hu
    have hk : atKey dP x = none := atI_none hu
    split at h
    ·rename_i k hkk
     have hks : k ≤ 8 ∧ (x == 63) = false ∧ (x == 10) = false ∧ (x == 120) = false ∧ (inV x (.tup [.int 117, .int 85])).map (!·) = some false ∧ V.int (k : Nat) = (if x = 117 then V.int 4 else .int 8) := by
      split at hkk
      ·rename_i q; cases hkk; subst q; exact ⟨by decide, rfl, rfl, rfl, rfl, rfl⟩
      split at hkk
      ·rename_i q; cases hkk; subst q; exact ⟨by decide, rfl, rfl, rfl, rfl, rfl⟩
      ·cases hkk
     obtain ⟨k8, k1, k2, k3, k4, k5⟩ := hks
     split at h
     ·rename_i w r2 hd
      split at h
      ·rename_i hw
       cases h
       obtain ⟨w1, w2⟩ := Bool.and_eq_true_iff.mp hw
       obtain ⟨h2, _⟩ := digs_num (by decide) (by decide) k8 hd
       obtain ⟨e6, S3⟩ := EvE.number (f := .loc 0) (g1 := .val (.int 16)) (g2 := .loc 3) (g3 := .loc 3) (g4 := .loc 1) (l := [.inst σ.length, .int b, .int x, .int (k : Nat), .undef]) (c := []) (v := .undef) (least := k) S.next h2 (by omega) (Nat.le_refl _) (b := .int b) rfl (.loc rfl) .val (.loc rfl) (.loc rfl) (.loc rfl)
       have e7 : EvS (.setL 3 (.ite (.bin (cmpF .Eq) (.loc 2) (.val (.int 117))) (.val (.int 4)) (.val (.int 8)))) ⟨[.inst σ.length, .int b, .int x, .undef, .undef], [], .undef, ss σ T (p + 1) j⟩ .next ⟨[.inst σ.length, .int b, .int x, .int (k : Nat), .undef], [], .undef, ss σ T (p + 1) j⟩ := by
        rw [k5]
        have e8 : EvE (.bin (cmpF .Eq) (.loc 2) (.val (.int 117))) ⟨[.inst σ.length, .int b, .int x, .undef, .undef], [], .undef, ss σ T (p + 1) j⟩ (.ok (.bool (x == 117))) ⟨[.inst σ.length, .int b, .int x, .undef, .undef], [], .undef, ss σ T (p + 1) j⟩ := .cmp (.loc rfl) .val
        by_cases hx : x = 117
        ·rw [if_pos hx]; rw [beq_iff_eq.mpr hx] at e8; exact .setL (.iteT e8 .val)
        ·rw [if_neg hx]; rw [beq_eq_false_iff_ne.mpr hx] at e8; exact .setL (.iteF e8 .val)
       exact ⟨_, run_ret0 (.seq e1 (.seq (.iteF e2 .nop) (.seq e4 (.seq (.iteF (.orF (e5 (by rw [hk]; rfl)) (.orF (.cmp (.loc rfl) .val (congrArg some k1)) .orN)) .nop) (.seq (.iteF (.cmp (.loc rfl) .val (congrArg some k2)) .nop) (.seq (.iteF (.cmp (.loc rfl) .val (congrArg some k3)) .nop) (.seq (.iteF (.cmp (.loc rfl) (.tup (Xs := [.int 117, .int 85]) (.cons .val (.cons .val .nil))) k4) .nop)
        (.seq e7 (.seq (.setL (.call (.cons e6 (.cons (.loc rfl) .nil)) (escape_scalar_ok S3.all w1))) (.seq (.iteF (.andF (.cmp (.loc rfl) .val (congrArg some (by simpa using w2)))) .nop) (.one (.retK (.list (Xs := [.int w]) (.cons (.loc rfl) .nil))))))))))))))  (hl := ss_len) (hτ := S3.all), S3⟩
      ·cases h
     ·cases h
    ·cases h
noncomputable def bareC (x : Int) : Bool := (![10, 34].any (· == x)) && scal x
theorem bare_eq {F : CF} {ns : List Int} {a : Int} (hF : F = runL 1 (.and2 (.bin (cmpF .NotIn) (.loc 0) (.tup [.val (.int a), .val (.int 34)])) (.call c_is_scalar [(.loc 0)]))) : BareIs F fun x => (![a, 34].any (· == x)) && scal x := fun x σ h => by
 subst hF
 have e1 : EvE (.bin (cmpF .NotIn) (.loc 0) (.tup [.val (.int a), .val (.int 34)])) ⟨[.int x], [], .undef, σ⟩ (.ok (.bool (![a, 34].any (· == x)))) ⟨[.int x], [], .undef, σ⟩ := .cmp (.loc rfl) (.tup (Xs := [.int a, .int 34]) (.cons .val (.cons .val .nil)))
 have e3 : EvE (.call c_is_scalar [(.loc 0)]) ⟨[.int x], [], .undef, σ⟩ (.ok (.bool (scal x))) ⟨[.int x], [], .undef, σ⟩ := .call (.cons (.loc rfl) .nil) (is_scalar_eq h)
 show EvF _ _ _ (.ok (.bool ((![a, 34].any (· == x)) && scal x))) _
 cases q1 : ![a, 34].any (· == x) with
 | false => exact runL_ret0 (.and2F (q1 ▸ e1)) (hτ := h)
 | true => exact runL_ret0 (.and2T (q1 ▸ e1) e3) (hτ := h)
end
section
variable {σ j τ : List MO} {T r : List Int} {p q : Nat} {x n m : Int} {l : List V} {c : List Nat} {v : V} {st s1 : AS} {i : Nat} {f g : EF}
noncomputable def brs : List Int -> Int -> Nat -> Option (Int × List Int)
 | [], _, _ => none
 | x :: r, v, many => if x = 125 then some (v, r) else if x = 95 then none else if many = 6 then none else match dg x with
  | some d => brs r (v * 16 + d) (many + 1)
  | none => none
noncomputable def brT : EF := .bin (cmpF .NotEq) (.meth c_scan_sign (.loc 0) []) (.val (.int 125))
noncomputable def brB : SF := (.seq (.ite (.bin (cmpF .Eq) (.meth c_scan_sign (.loc 0) []) (.val (.int 95))) (.seq (.augA 1 (.loc 0) (.val (.int 1))) .nop) (.seq (.ite (.bin (cmpF .Eq) (.loc 2) (.val (.int 6))) (.seq (.raise 45 (.tup [(.loc 1), (.val (.str "digits"))])) .nop) (.seq (.setT [(.l 3), (.l 2)] [(.bin (binF .Add) (.bin (binF .Mult) (.loc 3) (.val (.int 16))) (.meth c_scan_number (.loc 0) [(.val (.int 16)), (.val (.int 1)), (.val (.int 1)), (.loc 1)])), (.bin (binF .Add) (.loc 2) (.val (.int 1)))]) .nop)) .nop)) .nop)
theorem num_one {d : Int} (hd : dg x = some d) : num 16 1 (x :: r) 0 = some (1, d, r) := by
 obtain ⟨d0, d1⟩ := dg_lo hd
 show (match dg x with | none => some (0, (0 : Int), x :: r) | some d => if d < 16 then (if small 0 then (some (0, 0 * 16 + d, r)).map fun (y : Nat × Int × List Int) => (y.1 + 1, y.2) else none) else some (0, 0, x :: r)) = _
 rw [hd]
 simp only [d1, if_true]
 rw [if_pos (by decide)]
 simp
set_option tactic.hygienic true in
theorem brs_loop {b : Int} {F : Nat} : ∀ {r r' : List Int} {u w : Int} {many p : Nat}, 0 ≤ u -> u < 16 ^ many -> many ≤ 6 -> brs r u many = some (w, r') -> Sc σ T p j r ->
  ∃ many' p', EvW brT brB (F + r.length) ⟨[.inst σ.length, .int b, .int (many : Nat), .int u], [], .undef, ss σ T p j⟩ .next ⟨[.inst σ.length, .int b, .int (many' : Nat), .int w], [], .undef, ss σ T p' j⟩ ∧ Sc σ T p' j (125 :: r') ∧ r'.length + 1 ≤ r.length := by
 intro r
 induction r with
 | nil => intro r' u w many p _ _ _ h; cases h
 | cons x r ih =>
  intro r' u w many p h0 h1 hm h S
  have ht : EvE brT ⟨[.inst σ.length, .int b, .int (many : Nat), .int u], [], .undef, ss σ T p j⟩ (.ok (.bool (!(x == 125)))) ⟨[.inst σ.length, .int b, .int (many : Nat), .int u], [], .undef, ss σ T p j⟩ := .cmp (.sign S (.loc rfl)) .val
  unfold brs at h
  split at h
  ·rename_i hx
   cases h
   subst hx
   exact ⟨many, p, .wh0 (k := F + r.length) ht, S, Nat.le_refl _⟩
  ·rename_i hx
   rw [beq_eq_false_iff_ne.mpr hx] at ht
   split at h
   ·cases h
   ·rename_i hx2
    split at h
    ·cases h
    ·rename_i hm6
     split at h
     ·rename_i d hd
      obtain ⟨d0, d1⟩ := dg_lo hd
      obtain ⟨u0, u1⟩ := pow_up (base := 16) h0 h1 (by decide) (by decide) d0 d1
      obtain ⟨e3, S3⟩ := EvE.number (f := .loc 0) (g1 := .val (.int 16)) (g2 := .val (.int 1)) (g3 := .val (.int 1)) (g4 := .loc 1) (l := [.inst σ.length, .int b, .int (many : Nat), .int u]) (c := []) (v := .undef) (K := 1) (least := 1) S (num_one hd) (by decide) (Nat.le_refl _) (b := .int b) rfl (.loc rfl) .val .val .val (.loc rfl)
      obtain ⟨many', p', h3, h4, h5⟩ := ih u0 u1 (by omega) h S3
      refine ⟨many', p', .wh1 (k := F + r.length) ht (.one (.iteF (.cmp (.sign S (.loc rfl)) .val (congrArg some (beq_eq_false_iff_ne.mpr hx2))) (.one (.iteF (.cmp (.loc rfl) .val (congrArg some (beq_eq_false_iff_ne.mpr (by omega)))) (.one (.setT (Xs := [.int (u * 16 + d), .int ((many + 1 : Nat))]) (.cons (.op (.op (W := .int (u * 16)) (.loc rfl) .val ?_) e3 rfl) (.cons (.op (.loc rfl) .val ?_) .nil)) ⟨rfl, Nat.le_succ 2⟩ rfl)))))) h3, h4, by rw [List.length_cons]; omega⟩
      ·show (if small u = true then some (V.int (u * 16)) else none) = _
       rw [if_pos (small_of h0 h1 (by omega))]
      ·show some (V.int ((many : Int) + 1)) = _
       congr 2
     ·cases h
noncomputable def rdR : List Int -> Option (List Int × List Int)
 | [] => none
 | x :: r => match atI' dR x with
  | some u => some ([u], r)
  | none => if x = 117 then (match r with
   | y :: d :: r2 => if y = 123 then (match dg d with
    | some u => (match brs r2 u 1 with
     | some (w, r3) => if scal w then some ([w], r3) else none
     | none => none)
    | none => none) else none
   | _ => none) else if x = 120 then (match digs 16 2 r 0 with
    | some (w, r') => if w ≤ 127 then some ([w], r') else none
    | none => none) else none
theorem brs_len : ∀ {r r' : List Int} {u w : Int} {many : Nat}, brs r u many = some (w, r') -> r'.length + 1 ≤ r.length
 | [], _, _, _, _, h => nomatch h
 | x :: r, r', u, w, many, h => by
  unfold brs at h
  rw [List.length_cons]
  split at h
  ·cases h; exact Nat.le_refl _
  split at h
  ·cases h
  split at h
  ·cases h
  split at h
  ·have := brs_len h; omega
  ·cases h
set_option tactic.hygienic true in
theorem rdR_good : GoodRd rdR := fun r ys r' h => by
 unfold rdR at h
 split at h
 ·cases h
 ·rename_i x r
  rw [List.length_cons]
  split at h
  ·cases h; exact ⟨by omega, by show 1 + _ ≤ _; omega⟩
  ·split at h
   ·split at h
    ·split at h
     ·split at h
      ·split at h
       ·rename_i hb
        have := brs_len hb
        split at h
        ·cases h; simp only [List.length_cons, List.length_nil]; omega
        ·cases h
       ·cases h
      ·cases h
     ·cases h
    ·cases h
   ·split at h
    ·split at h
     ·rename_i hd
      obtain ⟨_, h2, _⟩ := digs_num (by decide) (by decide) (by decide) hd
      split at h
      ·cases h; exact ⟨by omega, by show 1 + _ ≤ _; omega⟩
      ·cases h
     ·cases h
    ·cases h
set_option tactic.hygienic true in
theorem rust_S : ReadS c_escape_rust_read rdR := by
 intro σ T p j r b ys r' S h
 unfold rdR at h
 split at h
 ·cases h
 ·rename_i x r
  have e4 : EvS (.setL 2 (.meth c_scan_take (.loc 0) [(.loc 1)])) ⟨[.inst σ.length, .int b, .undef, .undef], [], .undef, ss σ T p j⟩ .next ⟨[.inst σ.length, .int b, .int x, .undef], [], .undef, ss σ T (p + 1) j⟩ := .setL (.take S rfl (.loc rfl) (.loc rfl))
  have e5 {b2 : Bool} (hq : (atKey dR x).isSome = b2) : EvE (.bin (cmpF .In) (.loc 2) (.val v_ESCAPE_RUST)) ⟨[.inst σ.length, .int b, .int x, .undef], [], .undef, ss σ T (p + 1) j⟩ (.ok (.bool b2)) ⟨[.inst σ.length, .int b, .int x, .undef], [], .undef, ss σ T (p + 1) j⟩ := .cmp (.loc rfl) .val (congrArg some hq)
  split at h
  ·rename_i u hu
   cases h
   have hk := atI_some hu
   exact ⟨p + 1, run_ret0 (.seq e4 (.seqX (.iteT (e5 (by rw [hk]; rfl)) (.one (.retK (.list (Xs := [.int u]) (.cons (.sub (X := v_ESCAPE_RUST) (U := .int x) .val (.loc rfl) (sub_dict hk)) .nil))))))) (hl := ss_len) (hτ := S.next.all), S.next⟩
  ·rename_i hu
   have hk : atKey dR x = none := atI_none hu
   split at h
   ·rename_i hx
    subst hx
    split at h
    ·rename_i y d r2
     split at h
     ·rename_i hy
      subst hy
      split at h
      ·rename_i u hd
       split at h
       ·rename_i w r3 hb
        split at h
        ·rename_i hw
         cases h
         have S1 := S.next
         obtain ⟨d0, d1⟩ := dg_lo hd
         obtain ⟨e3, S3⟩ := EvE.number (f := .loc 0) (g1 := .val (.int 16)) (g2 := .val (.int 1)) (g3 := .val (.int 1)) (g4 := .loc 1) (l := [.inst σ.length, .int b, .undef, .undef]) (c := []) (v := .undef) (K := 1) (least := 1) S1.next (num_one hd) (by decide) (Nat.le_refl _) (b := .int b) rfl (.loc rfl) .val .val .val (.loc rfl)
         have hl : r2.length ≤ 100000 := by rw [← S3.hr, List.length_drop]; have := S.hT; omega
         obtain ⟨many', p', h3, h4, h5⟩ := brs_loop (b := b) (F := 1000000 - r2.length) (many := 1) d0 (by simpa using d1) (by decide) hb S3
         rw [show 1000000 - r2.length + r2.length = 1000000 by omega] at h3
         have hbr : EvF c_escape_rust_braces [.inst σ.length, .int b] (ss σ T (p + 1) j) (.ok (.int w)) (ss σ T (p' + 1) j) :=
          run_ret0 (.seq (.due S1 (.loc rfl) .val (.loc rfl) .val) (.seq (.setT (Xs := [.int u, .int 1]) (.cons e3 (.cons .val .nil)) ⟨rfl, Nat.le_succ 2⟩ rfl) (.seq (.wh h3) (.seq (Sc.step rfl) (.one (.retK (.call (.cons (.loc rfl) (.cons (.loc rfl) .nil)) (escape_scalar_ok h4.next.all hw)))))))) (hl := ss_len) (hτ := h4.next.all)
         exact ⟨_, run_ret0 (.seq e4 (.seq (.iteF (e5 (by rw [hk]; rfl)) .nop) (.seq (.iteF (.cmp (.loc rfl) .val) .nop) (.seqX (.iteT (.cmp (.loc rfl) .val) (.one (.retK (.list (Xs := [.int w]) (.cons (.call (.cons (.loc rfl) (.cons (.loc rfl) .nil)) hbr) .nil))))))))) (hl := ss_len) (hτ := h4.next.all), h4.next⟩
        ·cases h
       ·cases h
      ·cases h
     ·cases h
    ·cases h
   ·split at h
    ·rename_i hx
     subst hx
     split at h
     ·rename_i w r2 hd
      split at h
      ·rename_i hw
       cases h
       obtain ⟨h2, _⟩ := digs_num (by decide) (by decide) (by decide) hd
       obtain ⟨e3, S3⟩ := EvE.number (f := .loc 0) (g1 := .val (.int 16)) (g2 := .val (.int 2)) (g3 := .val (.int 2)) (g4 := .loc 1) (l := [.inst σ.length, .int b, .int 120, .undef]) (c := []) (v := .undef) (K := 2) (least := 2) S.next h2 (by decide) (Nat.le_refl _) (b := .int b) rfl (.loc rfl) .val .val .val (.loc rfl)
       exact ⟨_, run_ret0 (.seq e4 (.seq (.iteF (e5 (by rw [hk]; rfl)) .nop) (.seq (.iteF (.cmp (.loc rfl) .val) .nop) (.seq (.iteF (.cmp (.loc rfl) .val) .nop) (.seq (.iteF (.cmp (op := .NotEq) (.loc rfl) .val) .nop) (.seq (.setL e3) (.seq (.iteF (.cmp (.loc rfl) .val (congrArg some (decide_eq_false (by omega)))) .nop) (.one (.retK (.list (Xs := [.int w]) (.cons (.loc rfl) .nil))))))))))) (hl := ss_len) (hτ := S3.all), S3⟩
      ·cases h
     ·cases h
    ·cases h
noncomputable def rdS : List Int -> Option (List Int × List Int)
 | [] => none
 | x :: r => match dg x with
  | none => if [10, 12, 13].any (· == x) then none else some ([x], r)
  | some _ => match numM 16 6 (x :: r) 0 with
   | some (m, w, y :: r') => if 1 ≤ m ∧ y ≠ 13 then (if bl y then some ([w], r') else some ([w], y :: r')) else none
   | _ => none
set_option tactic.hygienic true in
theorem rdS_good : GoodRd rdS := fun r ys r' h => by
 unfold rdS at h
 split at h
 ·cases h
 ·rename_i x r
  rw [List.length_cons]
  split at h
  ·split at h
   ·cases h
   ·cases h; exact ⟨by omega, by show 1 + _ ≤ _; omega⟩
  ·split at h
   ·rename_i hm
    have := (numM_num hm).2
    simp only [List.length_cons] at this
    split at h
    ·split at h
     ·cases h; simp only [List.length_cons, List.length_nil]; omega
     ·cases h; simp only [List.length_cons, List.length_nil]; omega
    ·cases h
   ·cases h
set_option tactic.hygienic true in
theorem css_S : ReadS c_escape_css_read rdS := by
 intro σ T p j r b ys r' S h
 unfold rdS at h
 split at h
 ·cases h
 ·rename_i x r
  have e0 : EvE (.call c_escape_digit [(.meth c_scan_sign (.loc 0) [])]) ⟨[.inst σ.length, .int b, .undef, .undef], [], .undef, ss σ T p j⟩ (.ok (optV (dg x))) ⟨[.inst σ.length, .int b, .undef, .undef], [], .undef, ss σ T p j⟩ := .call (.cons (.sign S (.loc rfl)) .nil) (digit_eq S.all)
  split at h
  ·rename_i hd
   rw [hd] at e0
   split at h
   ·cases h
   ·rename_i hx
    cases h
    have e4 : EvS (.setL 2 (.meth c_scan_take (.loc 0) [(.loc 1)])) ⟨[.inst σ.length, .int b, .undef, .undef], [], .undef, ss σ T p j⟩ .next ⟨[.inst σ.length, .int b, .int x, .undef], [], .undef, ss σ T (p + 1) j⟩ := .setL (.take S rfl (.loc rfl) (.loc rfl))
    have hx13 : (x == 13) = false := by
     cases q : x == 13 with
     | false => rfl
     | true => rw [beq_iff_eq.mp q] at hx; exact absurd rfl hx
    exact ⟨p + 1, run_ret0 (.seqX (.iteT (.cmp e0 .val rfl) (.seq e4 (.seq (.iteF (.andF (.cmp (.loc rfl) .val (congrArg some hx13))) .nop) (.one (.retK (.iteF (.cmp (.loc rfl) (.tup (Xs := [.int 10, .int 12, .int 13]) (.cons .val (.cons .val (.cons .val .nil)))) (congrArg some (Bool.eq_false_iff.mpr hx))) (.list (Xs := [.int x]) (.cons (.loc rfl) .nil)))))))) ) (hl := ss_len) (hτ := S.next.all), S.next⟩
  ·rename_i d hd
   rw [hd] at e0
   split at h
   ·rename_i m w y r2 hm
    split at h
    ·rename_i hmy
     obtain ⟨e3, S3⟩ := EvE.number (f := .loc 0) (g1 := .val (.int 16)) (g2 := .val (.int 1)) (g3 := .val (.int 6)) (g4 := .loc 1) (l := [.inst σ.length, .int b, .undef, .undef]) (c := []) (v := .undef) (least := 1) S (numM_num hm).1 (by decide) hmy.1 (b := .int b) rfl (.loc rfl) .val .val .val (.loc rfl)
     have e5 : EvE (.bin (cmpF .In) (.meth c_scan_sign (.loc 0) []) (.val v_ESCAPE_BLANKS)) ⟨[.inst σ.length, .int b, .undef, .int w], [], .undef, ss σ T (p + m) j⟩ (.ok (.bool (bl y))) ⟨[.inst σ.length, .int b, .undef, .int w], [], .undef, ss σ T (p + m) j⟩ := .cmp (.sign S3 (.loc rfl)) .val rfl
     have e6 : EvE (.bin (cmpF .Eq) (.meth c_scan_sign (.loc 0) []) (.val (.int 13))) ⟨[.inst σ.length, .int b, .undef, .int w], [], .undef, ss σ T (p + m) j⟩ (.ok (.bool false)) ⟨[.inst σ.length, .int b, .undef, .int w], [], .undef, ss σ T (p + m) j⟩ := .cmp (.sign S3 (.loc rfl)) .val (congrArg some (beq_eq_false_iff_ne.mpr hmy.2))
     split at h
     ·rename_i hbl
      cases h
      exact ⟨_, run_ret0 (.seq (.iteF (.cmp e0 .val rfl) .nop) (.seq (.setL e3) (.seq (.iteF e6 (.one (.iteT (hbl ▸ e5) (.one (Sc.step rfl))))) (.one (.retK (.list (Xs := [.int w]) (.cons (.loc rfl) .nil))))))) (hl := ss_len) (hτ := S3.next.all), S3.next⟩
     ·rename_i hbl
      cases h
      exact ⟨_, run_ret0 (.seq (.iteF (.cmp e0 .val rfl) .nop) (.seq (.setL e3) (.seq (.iteF e6 (.one (.iteF (Bool.eq_false_iff.mpr hbl ▸ e5) .nop))) (.one (.retK (.list (Xs := [.int w]) (.cons (.loc rfl) .nil))))))) (hl := ss_len) (hτ := S3.all), S3⟩
    ·cases h
   ·cases h
noncomputable def bareS (x : Int) : Bool := ![10, 12, 13, 34].any (· == x)
theorem bareS_eq : BareIs c_lam_5 bareS := fun x σ h => runL_ret0 (.cmp (.loc rfl) (.tup (Xs := [.int 10, .int 12, .int 13, .int 34]) (.cons .val (.cons .val (.cons .val (.cons .val .nil))))) rfl) (hτ := h)
end
noncomputable def ChunkG {β : Type} (hd : Int) (out : Int -> β) (rd : List Int -> Option (β × List Int)) (bare : Int -> Bool) (ch : Int -> List Int) (c : Int) : Prop :=
 (ch c = [c] ∧ (c == hd) = false ∧ bare c = true) ∨ (ch c = hd :: (ch c).tail ∧ ∀ s, rd ((ch c).tail ++ s) = some (out c, s))
noncomputable abbrev ChunkOk (rd : List Int -> Option (List Int × List Int)) (bare : Int -> Bool) (ch : Int -> List Int) (c : Int) : Prop := ChunkG 92 (fun c => [c]) rd bare ch c
noncomputable def plainW (hd : Int) (ch : Int -> List Int) (bare : Int -> Bool) (c : Int) : Bool := decide (ch c = [c]) && (!(c == hd) && bare c)
theorem pool_g {β : Type} {hd : Int} {out : Int -> β} {rd : List Int -> Option (β × List Int)} {bad bare ok : Int -> Bool} {ch : Int -> List Int}
  (h1 : lawPool.all (fun c => ok c && ((ch c).all (inR 32 126) && (bad c || (plainW hd ch bare c || decide (ch c = hd :: (ch c).tail))))) = true)
  (h2 : (lawPool.filter fun c => !(bad c || plainW hd ch bare c)).map (fun c s => rd ((ch c).tail ++ s)) = (lawPool.filter fun c => !(bad c || plainW hd ch bare c)).map fun c s => some (out c, s)) :
  ∀ c ∈ lawPool, ok c = true ∧ (ch c).all (inR 32 126) = true ∧ (bad c = true ∨ ChunkG hd out rd bare ch c) := fun c hc => by
 have a := Bool.and_eq_true_iff.mp (List.all_eq_true.mp h1 c hc)
 have b := Bool.and_eq_true_iff.mp a.2
 refine ⟨a.1, b.1, ?_⟩
 cases q : bad c with
 | true => exact .inl rfl
 | false =>
  cases p : plainW hd ch bare c with
  | true =>
   have p1 := Bool.and_eq_true_iff.mp p
   have p2 := Bool.and_eq_true_iff.mp p1.2
   exact .inr (.inl ⟨of_decide_eq_true p1.1, Eq.mp (Bool.not_eq_true' _) p2.1, p2.2⟩)
  | false =>
   have d := b.2
   rw [q, p] at d
   exact .inr (.inr ⟨of_decide_eq_true d, fun s => congrFun (List.map_inj_left.mp h2 c (List.mem_filter.mpr ⟨hc, by rw [q, p]; rfl⟩)) s⟩)
theorem rdAll_flat {rd : List Int -> Option (List Int × List Int)} {bare : Int -> Bool} {ch : Int -> List Int} : ∀ {t acc : List Int} {k : Nat}, (∀ c ∈ t, ChunkOk rd bare ch c) -> (t.flatMap ch).length < k -> rdAll rd bare k (t.flatMap ch) acc = .ok (acc ++ t)
 | [], acc, k + 1, _, _ => by rw [List.append_nil]; rfl
 | [], acc, 0, _, h => absurd h (Nat.not_lt_zero _)
 | c :: t, acc, k, h, hk => by
  rw [List.flatMap_cons] at hk ⊢
  rcases h c (.head _) with ⟨h1, h2, h3⟩ | ⟨h1, h2⟩
  ·rw [h1] at hk ⊢
   cases k with
   | zero => exact absurd hk (Nat.not_lt_zero _)
   | succ k =>
    show (if c = 92 then _ else if bare c then rdAll rd bare k (t.flatMap ch) (acc ++ [c]) else _) = _
    rw [if_neg (beq_eq_false_iff_ne.mp h2), if_pos h3, rdAll_flat (fun x hx => h x (.tail _ hx)) (by simp only [List.length_append, List.length_cons, List.length_nil] at hk; omega), List.append_assoc]; rfl
  ·have hs := h2 (t.flatMap ch)
   rw [h1] at hk ⊢
   cases k with
   | zero => exact absurd hk (Nat.not_lt_zero _)
   | succ k =>
    show (match rd ((ch c).tail ++ t.flatMap ch) with | some (ys, r') => rdAll rd bare k r' (acc ++ ys) | none => _) = _
    rw [hs]
    show rdAll rd bare k (t.flatMap ch) (acc ++ [c]) = _
    rw [rdAll_flat (fun x hx => h x (.tail _ hx)) (by simp only [List.length_append, List.length_cons, List.length_nil] at hk; omega), List.append_assoc]; rfl
noncomputable def PoolOk (bad : Int -> Bool) (rd : List Int -> Option (List Int × List Int)) (bare : Int -> Bool) (short : List (Int × V)) (w : Int -> Option (List Int)) (c : Int) : Prop :=
 okW short w c = true ∧ (chW short w c).all (inR 32 126) = true ∧ (bad c = true ∨ ChunkOk rd bare (chW short w) c)
theorem poolJ : ∀ c ∈ lawPool, PoolOk (fun x => !scal x) rdJ bareJ sJ wJ c := pool_g (by decide +kernel) (by kernel_rfl)
theorem poolP : ∀ c ∈ lawPool, PoolOk (fun x => false) rdP (fun κ => true) sP wP c := pool_g (by decide +kernel) (by kernel_rfl)
theorem poolC : ∀ c ∈ lawPool, PoolOk (fun x => !scal x) rdC (fun x => (![10, 34].any (· == x)) && scal x) sP wC c := pool_g (by decide +kernel) (by kernel_rfl)
theorem poolR : ∀ c ∈ lawPool, PoolOk (fun x => !scal x) rdR (fun x => (![13, 34].any (· == x)) && scal x) sR wR c := pool_g (by decide +kernel) (by kernel_rfl)
theorem poolS : ∀ c ∈ lawPool, PoolOk (fun x => x == 0 || !scal x) rdS bareS sS wS c := pool_g (by decide +kernel) (by kernel_rfl)
section
variable {σ : List MO} {t : List Int}
theorem unescape_python_eq {res : List Int} (h : Lo σ) (ht : t.length ≤ 100000) (hr : rdAll rdP (fun κ => true) (t.length + 1) t [] = .ok res) : EvF c_unescape_python [.ints t] σ (.ok (.ints res)) σ :=
 run_ret0 (.one (.retK (.call (.cons (.loc rfl) (.cons .val (.cons .val .nil))) ((escape_read_eq (R := .val (.ref 276)) (B := .lam 1) h ht .escape_python_read .lam_1 rfl rfl python_S rdP_good bareP_eq).1 res hr)))) (hτ := h)
theorem unescape_c_eq {res : List Int} (h : Lo σ) (ht : t.length ≤ 100000) (hr : rdAll rdC (fun x => (![10, 34].any (· == x)) && scal x) (t.length + 1) t [] = .ok res) : EvF c_unescape_c [.ints t] σ (.ok (.ints res)) σ :=
 run_ret0 (.one (.retK (.call (.cons (.loc rfl) (.cons .val (.cons .val .nil))) ((escape_read_eq (R := .val (.ref 305)) (B := .lam 2) h ht .escape_c_read .lam_2 rfl rfl c_S rdC_good (bare_eq (ns := []) rfl)).1 res hr)))) (hτ := h)
theorem unescape_rust_eq {res : List Int} (h : Lo σ) (ht : t.length ≤ 100000) (hr : rdAll rdR (fun x => (![13, 34].any (· == x)) && scal x) (t.length + 1) t [] = .ok res) : EvF c_unescape_rust [.ints t] σ (.ok (.ints res)) σ :=
 run_ret0 (.one (.retK (.call (.cons (.loc rfl) (.cons .val (.cons .val .nil))) ((escape_read_eq (R := .val (.ref 341)) (B := .lam 3) h ht .escape_rust_read .lam_3 rfl rfl rust_S rdR_good (bare_eq (ns := []) rfl)).1 res hr)))) (hτ := h)
noncomputable def foldC (tt : Int -> Bool) (gv : Int -> V) : List Int -> List V -> List V
 | [], acc => acc
 | k :: ks, acc => if tt k then foldC tt gv ks (acc ++ [gv k]) else foldC tt gv ks acc
theorem foldC_eq {tt : Int -> Bool} {gv : Int -> V} : ∀ {ks : List Int} {acc : List V}, foldC tt gv ks acc = acc ++ (ks.filter tt).map gv
 | [], acc => (List.append_nil _).symm
 | k :: ks, acc => by
  unfold foldC
  rw [List.filter_cons]
  split
  ·rw [foldC_eq]; simp
  ·rw [foldC_eq]
theorem comp_loop {l : List V} {c : List Nat} {τ : List MO} {tst g : EF} {tt : Int -> Bool} {gv : Int -> V} : ∀ {ks : List Int} {acc : List V} {v : V}, (∀ k ∈ ks, EvE tst ⟨l, c, .int k, τ⟩ (.ok (.bool (tt k))) ⟨l, c, .int k, τ⟩ ∧ (tt k = true -> EvE g ⟨l, c, .int k, τ⟩ (.ok (gv k)) ⟨l, c, .int k, τ⟩ ∧ (gv k).pureB = true)) ->
  acc.length + ks.length ≤ 1000000 -> ∃ v', EvCo tst (LStep g) (ks.map .int) acc ⟨l, c, v, τ⟩ (acc ++ (ks.filter tt).map gv) ⟨l, c, v', τ⟩ := by
 intro ks
 induction ks with
 | nil => exact fun {acc v} κ hl => ⟨v, by rw [List.map_nil, List.filter_nil, List.map_nil, List.append_nil]; exact .nil⟩
 | cons k ks ih =>
  intro acc v h hl
  rw [List.length_cons] at hl
  obtain ⟨h1, h2⟩ := h k (.head _)
  have hh : ∀ k ∈ ks, _ := fun k hk => h k (.tail _ hk)
  cases q : tt k with
  | true =>
   obtain ⟨h4, h5⟩ := h2 q
   obtain ⟨v', e⟩ := ih (acc := acc ++ [gv k]) (v := .int k) hh (by rw [List.length_append]; exact (by omega : acc.length + 1 + ks.length ≤ 1000000))
   rw [List.append_assoc] at e
   exact ⟨v', by rw [List.filter_cons, if_pos q]; exact .take (q ▸ h1) ⟨_, h4, h5, rfl⟩ e⟩
  | false =>
   obtain ⟨v', e⟩ := ih (acc := acc) (v := .int k) hh (by omega)
   exact ⟨v', by rw [List.filter_cons, if_neg (Bool.eq_false_iff.mp q)]; exact .skip (q ▸ h1) e⟩
theorem toInts_map {xs : List Int} : toInts (xs.map .int) = some xs := by
 induction xs with
 | nil => rfl
 | cons x xs ih => show (toInts (xs.map .int)).map (x :: ·) = _; rw [ih]; rfl
theorem mkList_map {xs : List Int} : mkList (xs.map .int) = .ints xs := by unfold mkList; rw [toInts_map]
theorem unescape_css_eq {res : List Int} (h : Lo σ) (ht : t.length ≤ 100000) (hr : rdAll rdS bareS (t.length + 1) t [] = .ok res) (hl : res.length ≤ 100000) (hok : ∀ c ∈ res, (c == 0) = false ∧ scal c = true) : EvF c_unescape_css [.ints t] σ (.ok (.ints res)) σ := by
 have e1 := (escape_read_eq (R := .val (.ref 402)) (B := .lam 5) h ht .escape_css_read .lam_5 rfl rfl css_S rdS_good bareS_eq).1 res hr
 obtain ⟨v', e2⟩ := comp_loop (l := [.ints t, .ints res]) (c := []) (τ := σ) (tst := .val (.bool true)) (g := .ite (.andL [(.bin (cmpF .NotEq) .cv (.val (.int 0))), (.tru (.call c_is_scalar [.cv]))]) .cv (.val (.int 65533))) (tt := fun κ => true) (gv := .int) (ks := res) (acc := []) (v := .undef)
  (fun k hk => ⟨.val, fun κ => ⟨.iteT (.andT (.cmp .cv .val (congrArg some (by show (!(k == 0)) = true; rw [(hok k hk).1]; rfl))) (.andT (.tru (.call (.cons .cv .nil) ((hok k hk).2 ▸ is_scalar_eq h))) .andN)) .cv, rfl⟩⟩) (by simp; omega)
 rw [List.filter_eq_self.mpr (fun κ κ => rfl), List.nil_append] at e2
 refine run_ret0 (l := [.ints t, .ints res]) (c := []) (v := .undef) (.seq (.setL (.call (.cons (.loc rfl) (.cons .val (.cons .val .nil))) e1)) (.one (.retK ?_))) (hτ := h)
 have := EvE.comp (.ofE (.loc (i := 1) (cl := []) (v := .undef) (l := [.ints t, .ints res]) rfl) (rfl : itemsV (.ints res) = some (res.map .int))) e2 (by rw [List.length_map]; omega)
 rw [mkList_map] at this; exact this
end
section
variable {σ j τ : List MO} {T r : List Int} {p q N : Nat} {x n m : Int} {l : List V} {c : List Nat} {v : V} {st s1 : AS} {i : Nat} {f g : EF}
set_option tactic.hygienic true in
theorem numM_mono {base : Int} : ∀ {k m K : Nat} {r r' : List Int} {u w y : Int}, numM base k r u = some (m, w, y :: r') -> m < k -> m < K -> num base K r u = some (m, w, y :: r')
 | 0, _, _, _, _, _, _, _, _, h, _ => absurd h (Nat.not_lt_zero _)
 | k + 1, m, 0, _, _, _, _, _, _, _, h => absurd h (Nat.not_lt_zero _)
 | k + 1, m, K + 1, [], r', u, w, y, h, _, _ => nomatch h
 | k + 1, m, K + 1, x :: r, r', u, w, y, h, h1, h2 => by
  unfold numM at h
  show (match dg x with | none => some (0, u, x :: r) | some d => if d < base then (if small u then (num base K r (u * base + d)).map fun (y : Nat × Int × List Int) => (y.1 + 1, y.2) else none) else some (0, u, x :: r)) = _
  cases hd : dg x with
  | none => rw [hd] at h; exact h
  | some d =>
   rw [hd] at h
   simp only at h ⊢
   split at h
   ·rename_i k1
    split at h
    ·rename_i k2
     split at h
     ·rename_i m' w' r'' hq
      cases h
      rw [if_pos k1, if_pos k2, numM_mono (K := K) hq (by omega) (by omega)]
      rfl
     ·cases h
    ·cases h
   ·rename_i k1
    rw [if_neg k1]; exact h
noncomputable def nm : List Int -> Option (List Int × List Int)
 | [] => none
 | x :: r => if x = 59 then some ([], r) else match nm r with
  | some (a, r') => some (x :: a, r')
  | none => none
noncomputable def nameOf (k : Int) : List Int := match atKey sXn k with
 | some (.ints xs) => xs
 | _ => []
noncomputable def rdX : List Int -> Option (Int × List Int)
 | [] => none
 | x :: r => if x = 35 then (match r with
   | y :: r2 => if y = 120 then (match numM 16 8 r2 0 with
    | some (m, w, z :: r3) => if 1 ≤ m ∧ m < 8 ∧ z = 59 ∧ isx w = true then some (w, r3) else none
    | _ => none) else (match numM 10 8 (y :: r2) 0 with
    | some (m, w, z :: r3) => if 1 ≤ m ∧ m < 8 ∧ z = 59 ∧ isx w = true then some (w, r3) else none
    | _ => none)
   | _ => none)
  else match nm (x :: r) with
   | some (a, r') => (match [34, 38, 39, 60, 62].find? (fun k => nameOf k == a) with
    | some w => some (w, r')
    | none => none)
   | none => none
theorem ss_snoc {y : MO} : ss σ T p (j ++ [y]) = ss σ T p j ++ [y] := by simp [ss]
theorem ss_length : (ss σ T p j).length = σ.length + 1 + j.length := by simp [ss]; omega
theorem tail_get {y : MO} (hN : N = σ.length + 1 + j.length) : (ss σ T p (j ++ [y]))[N]? = some y := by
 rw [ss_snoc, hN, ← ss_length (T := T) (p := p)]; exact last_get
theorem tail_set {y z : MO} (hN : N = σ.length + 1 + j.length) : (ss σ T p (j ++ [y])).set N z = ss σ T p (j ++ [z]) := by
 rw [ss_snoc, hN, ← ss_length (T := T) (p := p), last_set, ss_snoc]
theorem Plain.snoc {xs : List Int} (h : Plain j) : Plain (j ++ [.ints xs]) := fun x hx => by
 rcases List.mem_append.mp hx with hx | hx
 ·exact h x hx
 ·rcases List.mem_singleton.mp hx with rfl; exact fun κ => rfl
set_option tactic.hygienic true in
theorem nm_loop {l2 l3 l4 l6 : V} {b : Int} {F : Nat} (hj : Plain j) (hN : N = σ.length + 1 + j.length) : ∀ {r a r' xs : List Int} {p : Nat}, nm r = some (a, r') -> xs.length + r.length ≤ 100000 -> Sc σ T p (j ++ [.ints xs]) r ->
  ∃ p', EvW (.bin (cmpF .NotEq) (.meth c_scan_sign (.loc 0) []) (.val (.int 59))) (.seq (.exp (.append (.loc 5) (.meth c_scan_take (.loc 0) [(.loc 1)]))) .nop) (F + r.length) ⟨[.inst σ.length, .int b, l2, l3, l4, .ref N, l6], [], .undef, ss σ T p (j ++ [.ints xs])⟩ .next
   ⟨[.inst σ.length, .int b, l2, l3, l4, .ref N, l6], [], .undef, ss σ T p' (j ++ [.ints (xs ++ a)])⟩ ∧ Sc σ T p' (j ++ [.ints (xs ++ a)]) (59 :: r') := by
 intro r
 induction r with
 | nil => intro a r' xs p h; cases h
 | cons x r ih =>
  intro a r' xs p h hl S
  rw [List.length_cons] at hl
  have ht : EvE (.bin (cmpF .NotEq) (.meth c_scan_sign (.loc 0) []) (.val (.int 59))) ⟨[.inst σ.length, .int b, l2, l3, l4, .ref N, l6], [], .undef, ss σ T p (j ++ [.ints xs])⟩ (.ok (.bool (!(x == 59)))) ⟨[.inst σ.length, .int b, l2, l3, l4, .ref N, l6], [], .undef, ss σ T p (j ++ [.ints xs])⟩ := .cmp (.sign S (.loc rfl)) .val
  unfold nm at h
  split at h
  ·rename_i hx
   cases h
   subst hx
   exact ⟨p, by rw [List.append_nil]; exact .wh0 (k := F + r.length) ht, by rw [List.append_nil]; exact S⟩
  ·rename_i hx
   rw [beq_eq_false_iff_ne.mpr hx] at ht
   split at h
   ·rename_i a2 r2 hq
    cases h
    obtain ⟨p', h1, h2⟩ := ih (xs := xs ++ [x]) hq (by rw [List.length_append]; exact (by omega : xs.length + 1 + r.length ≤ 100000)) (S.next.tail hj.snoc)
    rw [List.append_assoc] at h1 h2
    have e := EvE.append (f := .loc 5) (i := N) (mo := .ints xs) (mo' := .ints (xs ++ [x])) (.loc rfl) (isL_of (tail_get hN)) (.take (g := .loc 1) (f := .loc 0) (l := [.inst σ.length, .int b, l2, l3, l4, .ref N, l6]) (c := []) (v := .undef) S rfl (b := .int b) (.loc rfl) (.loc rfl)) (tail_get hN) (app_int (by omega))
    rw [tail_set hN] at e
    exact ⟨p', .wh1 (k := F + r.length) ht (.one (.exp e)) h1, h2⟩
   ·cases h
theorem name_loop {a : List Int} {l1 l3 l6 : V} (hN : rdI τ (.ref N) = some a) : ∀ {ks : List Int} {w : Int} {l4 : V}, (∀ k ∈ ks, atKey sXn k = some (.ints (nameOf k))) -> ks.find? (fun k => nameOf k == a) = some w ->
  EvFor (.seq (.ite (.bin (cmpF .Eq) (.bin subF (.loc 2) (.loc 4)) (.loc 5)) (.seq (.retK (.loc 4)) .nop) .nop) .nop) (ks.map fun x => [(.l 4, .int x)]) ⟨[.inst σ.length, l1, .dict sXn, l3, l4, .ref N, l6], [], .undef, τ⟩ (.ret (.int w)) ⟨[.inst σ.length, l1, .dict sXn, l3, .int w, .ref N, l6], [], .undef, τ⟩ := by
 intro ks
 induction ks with
 | nil => intro w l4 _ h; cases h
 | cons k ks ih =>
  intro w l4 hk h
  have e : EvE (.bin (cmpF .Eq) (.bin subF (.loc 2) (.loc 4)) (.loc 5)) ⟨[.inst σ.length, l1, .dict sXn, l3, .int k, .ref N, l6], [], .undef, τ⟩ (.ok (.bool (decide (nameOf k = a)))) ⟨[.inst σ.length, l1, .dict sXn, l3, .int k, .ref N, l6], [], .undef, τ⟩ :=
   .cmp (.sub (X := .dict sXn) (U := .int k) (.loc rfl) (.loc rfl) (sub_dict (hk k (.head _)))) (.loc rfl) (by
    show (rdI τ (.ref N)).map (fun ys => decide (nameOf k = ys)) = _
    rw [hN]; rfl)
  rw [List.find?_cons] at h
  by_cases hq : nameOf k = a
  ·rw [beq_iff_eq.mpr hq] at h
   cases h
   exact .forX rfl (.one (.iteT (decide_eq_true hq ▸ e) (.one (.retK (.loc rfl)))))
  ·rw [beq_eq_false_iff_ne.mpr hq] at h
   exact .for1 rfl (.one (.iteF (decide_eq_false hq ▸ e) .nop)) (ih (fun x hx => hk x (.tail _ hx)) h)
theorem sg_ne {y : Int} (h : x ≠ y) : some (sg (x :: r) == y) = some false := congrArg some (beq_eq_false_iff_ne.mpr h)
set_option tactic.hygienic true in
theorem xml_S {b w : Int} {r' : List Int} (S : Sc σ T p j r) (h : rdX r = some (w, r')) : ∃ p', EvF c_escape_xml_read [.inst σ.length, .int b, .dict sXn] (ss σ T p j) (.ok (.int w)) (ss σ T p' j) ∧ Sc σ T p' j r' := by
 unfold rdX at h
 split at h
 ·cases h
 ·rename_i x r
  have e0 : EvE (.bin (cmpF .Eq) (.meth c_scan_sign (.loc 0) []) (.val (.int 35))) ⟨[.inst σ.length, .int b, .dict sXn, .undef, .undef, .undef, .undef], [], .undef, ss σ T p j⟩ (.ok (.bool (x == 35))) ⟨[.inst σ.length, .int b, .dict sXn, .undef, .undef, .undef, .undef], [], .undef, ss σ T p j⟩ := .cmp (.sign S (.loc rfl)) .val
  split at h
  ·rename_i hx
   subst hx
   split at h
   ·rename_i y r2
    split at h
    ·rename_i hy
     subst hy
     split at h
     ·rename_i m w' z r3 hm
      split at h
      ·rename_i hc
       obtain ⟨hm1, hm8, rfl, hw⟩ := hc
       cases h
       have hlen := (numM_num hm).2
       have hT : m < T.length := by
        have h1 := congrArg List.length S.hr
        rw [List.length_drop] at h1
        simp only [List.length_cons] at h1 hlen
        omega
       obtain ⟨e3, S3⟩ := EvE.number (f := .loc 0) (g1 := .loc 3) (g2 := .val (.int 1)) (g3 := .len (.attr 0 (.loc 0))) (g4 := .loc 1) (l := [.inst σ.length, .int b, .dict sXn, .int 16, .undef, .undef, .undef]) (c := []) (v := .undef) (K := T.length) (least := 1) S.next.next (numM_mono hm hm8 hT) (by have := S.hT; omega) hm1 (b := .int b) rfl (.loc rfl) (.loc rfl) .val (.len (Sc.text rfl) rfl (by have := S.hT; omega)) (.loc rfl)
       exact ⟨_, run_ret0 (.seqX (.iteT e0 (.seq (Sc.step rfl) (.seq (.setL .val) (.seq (.iteT (.cmp (.sign S.next (.loc rfl)) .val) (.seq (Sc.step rfl) (.one (.setL .val)))) (.seq (.setL e3) (.seq (.due S3 (.loc rfl) .val (.loc rfl) .val) (.seq (.iteF (.not (b := true) (.tru (.call (.cons (.loc rfl) .nil) (hw ▸ is_xml_eq S3.next.all)))) .nop) (.one (.retK (.loc rfl))))))))))) (hl := ss_len) (hτ := S3.next.all), S3.next⟩
      ·cases h
     ·cases h
    ·rename_i hy
     split at h
     ·rename_i m w' z r3 hm
      split at h
      ·rename_i hc
       obtain ⟨hm1, hm8, rfl, hw⟩ := hc
       cases h
       have hlen := (numM_num hm).2
       have hT : m < T.length := by
        have h1 := congrArg List.length S.hr
        rw [List.length_drop] at h1
        simp only [List.length_cons] at h1 hlen
        omega
       obtain ⟨e3, S3⟩ := EvE.number (f := .loc 0) (g1 := .loc 3) (g2 := .val (.int 1)) (g3 := .len (.attr 0 (.loc 0))) (g4 := .loc 1) (l := [.inst σ.length, .int b, .dict sXn, .int 10, .undef, .undef, .undef]) (c := []) (v := .undef) (K := T.length) (least := 1) S.next (numM_mono hm hm8 hT) (by have := S.hT; omega) hm1 (b := .int b) rfl (.loc rfl) (.loc rfl) .val (.len (Sc.text rfl) rfl (by have := S.hT; omega)) (.loc rfl)
       exact ⟨_, run_ret0 (.seqX (.iteT e0 (.seq (Sc.step rfl) (.seq (.setL .val) (.seq (.iteF (.cmp (.sign S.next (.loc rfl)) .val (congrArg some (beq_eq_false_iff_ne.mpr hy))) .nop) (.seq (.setL e3) (.seq (.due S3 (.loc rfl) .val (.loc rfl) .val) (.seq (.iteF (.not (b := true) (.tru (.call (.cons (.loc rfl) .nil) (hw ▸ is_xml_eq S3.next.all)))) .nop) (.one (.retK (.loc rfl))))))))))) (hl := ss_len) (hτ := S3.next.all), S3.next⟩
      ·cases h
     ·cases h
   ·cases h
  ·rename_i hx
   rw [beq_eq_false_iff_ne.mpr hx] at e0
   split at h
   ·rename_i a r2 ha
    split at h
    ·rename_i w' hf
     cases h
     have hl : (x :: r).length ≤ 100000 := by rw [← S.hr, List.length_drop]; have := S.hT; omega
     have hN : (ss σ T p j).length = σ.length + 1 + j.length := ss_length
     have Sx : Sc σ T p (j ++ [.ints []]) (x :: r) := S.tail S.pl.snoc
     obtain ⟨p', h1, h2⟩ := nm_loop (b := b) (l2 := .dict sXn) (l3 := .undef) (l4 := .undef) (l6 := .undef) (F := 1000000 - (x :: r).length) S.pl hN ha (by simpa using hl) Sx
     rw [show 1000000 - (x :: r).length + (x :: r).length = 1000000 by omega, List.nil_append] at h1
     rw [List.nil_append] at h2
     have S3 := h2.next
     have h3 : rdI (ss σ T (p' + 1) (j ++ [.ints a])) (.ref (ss σ T p j).length) = some a := rd_ref (tail_get hN)
     have h4 := name_loop (σ := σ) (l1 := .int b) (l3 := .undef) (l6 := .undef) h3 (ks := [34, 38, 39, 60, 62]) (l4 := .undef) (by
      intro k hk
      simp only [List.mem_cons, List.not_mem_nil, or_false] at hk
      rcases hk with rfl | rfl | rfl | rfl | rfl <;> rfl) hf
     have hnew : EvS (.setL 5 .newL) ⟨[.inst σ.length, .int b, .dict sXn, .undef, .undef, .undef, .undef], [], .undef, ss σ T p j⟩ .next ⟨[.inst σ.length, .int b, .dict sXn, .undef, .undef, .ref (ss σ T p j).length, .undef], [], .undef, ss σ T p (j ++ [.ints []])⟩ := by
      rw [ss_snoc]; exact .setL .newL
     have hfin : EvS f_escape_xml_read ⟨[.inst σ.length, .int b, .dict sXn, .undef, .undef, .undef, .undef], [], .undef, ss σ T p j⟩ (.ret (.int w)) ⟨[.inst σ.length, .int b, .dict sXn, .undef, .int w, .ref (ss σ T p j).length, .undef], [], .undef, ss σ T (p' + 1) (j ++ [.ints a])⟩ := .seq (.iteF e0 .nop) (.seq hnew (.seq (.wh h1) (.seq (Sc.step rfl) (.seqX (b := .seq (.raise 45 (.tup [(.loc 1), (.val (.str "name"))])) .nop) (.for (.ints (.on1 (F := sortK) (W := .ints [34, 38, 39, 60, 62]) (.loc rfl) (by rfl))) h4)))))
     rw [ss_snoc] at hfin
     exact ⟨p' + 1, run_ret (j := [.ints a]) hfin rfl ss_len rfl (S3.tail S.pl).all, S3.tail S.pl⟩
    ·cases h
   ·cases h
end
section
variable {σ j τ : List MO} {T r : List Int} {p q N : Nat} {x n m : Int} {l : List V} {c : List Nat} {v : V} {st s1 : AS} {i : Nat} {f g : EF}
theorem nm_len : ∀ {r a r' : List Int}, nm r = some (a, r') -> r'.length + 1 ≤ r.length
 | [], _, _, h => nomatch h
 | x :: r, a, r', h => by
  unfold nm at h
  rw [List.length_cons]
  split at h
  ·cases h; exact Nat.le_refl _
  ·split at h
   ·rename_i hq; cases h; have := nm_len hq; omega
   ·cases h
theorem rdX_len {w : Int} {r' : List Int} (h : rdX r = some (w, r')) : r'.length + 1 ≤ r.length := by
 unfold rdX at h
 split at h
 ·cases h
 ·split at h
  ·split at h
   ·split at h
    ·split at h
     ·rename_i hm
      have := (numM_num hm).2
      split at h
      ·cases h; simp only [List.length_cons] at *; omega
      ·cases h
     ·cases h
    ·split at h
     ·rename_i hm
      have := (numM_num hm).2
      split at h
      ·cases h; simp only [List.length_cons] at *; omega
      ·cases h
     ·cases h
   ·cases h
  ·split at h
   ·rename_i hq
    have := nm_len hq
    split at h
    ·cases h; exact this
    ·cases h
   ·cases h
noncomputable def bareX (x : Int) : Bool := !(x == 60) && isx x
noncomputable def rdAllX : Nat -> List Int -> List Int -> Option (List Int)
 | 0, _, _ => none
 | k + 1, [], acc => some acc
 | k + 1, x :: r, acc => if x = 38 then (match rdX r with
  | some (w, r') => rdAllX k r' (acc ++ [w])
  | none => none) else if bareX x then rdAllX k r (acc ++ [x]) else none
noncomputable def xmlT : EF := .not (.tru (.meth c_scan_is_over (.loc 5) []))
noncomputable def xmlB : SF := (.seq (.setL 1 (.attr 1 (.loc 5))) (.seq (.setL 2 (.meth c_scan_take (.loc 5) [(.loc 1)])) (.seq (.ite (.bin (cmpF .Eq) (.loc 2) (.val (.int 38))) (.seq (.exp (.append (.loc 3) (.call c_escape_xml_read [(.loc 5), (.loc 1), (.loc 4)]))) .nop) (.seq (.ite (.andL [(.bin (cmpF .NotEq) (.loc 2) (.val (.int 60))), (.tru (.call c_escape_is_xml [(.loc 2)]))]) (.seq (.exp (.append (.loc 3) (.loc 2))) .nop) (.seq (.raise 45 (.tup [(.loc 1), (.val (.str "sign"))])) .nop)) .nop)) .nop)))
set_option tactic.hygienic true in
theorem xml_loop {X0 : V} {Fu : Nat} : ∀ {k : Nat} {r acc res : List Int} {p : Nat} {X1 X2 : V}, acc.length + r.length ≤ 100000 -> Sc σ T p [.ints acc] r -> rdAllX k r acc = some res ->
   ∃ X1' X2', EvW xmlT xmlB (Fu + k) ⟨[X0, X1, X2, .ref (σ.length + 1), .dict sXn, .inst σ.length], [], .undef, ss σ T p [.ints acc]⟩ .next ⟨[X0, X1', X2', .ref (σ.length + 1), .dict sXn, .inst σ.length], [], .undef, ss σ T T.length [.ints res]⟩ := by
 intro k
 induction k with
 | zero => intro r acc res p X1 X2 _ _ h; cases h
 | succ k ih =>
  intro r acc res p X1 X2 hl S h
  have ht : EvE xmlT ⟨[X0, X1, X2, .ref (σ.length + 1), .dict sXn, .inst σ.length], [], .undef, ss σ T p [.ints acc]⟩ (.ok (.bool (!r.isEmpty))) ⟨[X0, X1, X2, .ref (σ.length + 1), .dict sXn, .inst σ.length], [], .undef, ss σ T p [.ints acc]⟩ := .not (.tru (.meth (.loc rfl) ss_get .nil (over_eq S)))
  cases r with
  | nil =>
   cases h
   rw [← S.end]
   exact ⟨X1, X2, .wh0 (k := Fu + k) ht⟩
  | cons x r =>
   rw [List.length_cons] at hl
   have h1 : EvS (.setL 1 (.attr 1 (.loc 5))) ⟨[X0, X1, X2, .ref (σ.length + 1), .dict sXn, .inst σ.length], [], .undef, ss σ T p [.ints acc]⟩ .next ⟨[X0, .int p, X2, .ref (σ.length + 1), .dict sXn, .inst σ.length], [], .undef, ss σ T p [.ints acc]⟩ := .setL (.attr (.loc rfl) ss_get rfl)
   have h2 : EvS (.setL 2 (.meth c_scan_take (.loc 5) [(.loc 1)])) ⟨[X0, .int p, X2, .ref (σ.length + 1), .dict sXn, .inst σ.length], [], .undef, ss σ T p [.ints acc]⟩ .next ⟨[X0, .int p, .int x, .ref (σ.length + 1), .dict sXn, .inst σ.length], [], .undef, ss σ T (p + 1) [.ints acc]⟩ := .setL (.take S rfl (.loc rfl) (.loc rfl))
   have h3 : EvE (.bin (cmpF .Eq) (.loc 2) (.val (.int 38))) ⟨[X0, .int p, .int x, .ref (σ.length + 1), .dict sXn, .inst σ.length], [], .undef, ss σ T (p + 1) [.ints acc]⟩ (.ok (.bool (x == 38))) ⟨[X0, .int p, .int x, .ref (σ.length + 1), .dict sXn, .inst σ.length], [], .undef, ss σ T (p + 1) [.ints acc]⟩ := .cmp (.loc rfl) .val
   unfold rdAllX at h
   split at h
   ·rename_i hx
    rw [beq_iff_eq.mpr hx] at h3
    split at h
    ·rename_i w r' hr
     have g1 := rdX_len hr
     obtain ⟨p', h4, S'⟩ := xml_S (b := p) S.next hr
     obtain ⟨a, b, e⟩ := ih (acc := acc ++ [w]) (X1 := .int p) (X2 := .int x) (by rw [List.length_append]; exact (by omega : acc.length + 1 + r'.length ≤ 100000)) (S'.tail Plain.nil.cons) h
     exact ⟨a, b, .wh1 (k := Fu + k) ht (.seq h1 (.seq h2 (.one (.iteT h3 (.one (.appF (.loc rfl) (.call (.cons (.loc rfl) (.cons (.loc rfl) (.cons (.loc rfl) .nil))) h4) (by omega))))))) e⟩
    ·cases h
   ·rename_i hx
    rw [beq_eq_false_iff_ne.mpr hx] at h3
    split at h
    ·rename_i hb
     obtain ⟨b1, b2⟩ := Bool.and_eq_true_iff.mp hb
     obtain ⟨a, b, e⟩ := ih (acc := acc ++ [x]) (X1 := .int p) (X2 := .int x) (by rw [List.length_append]; exact (by omega : acc.length + 1 + r.length ≤ 100000)) (S.next.tail Plain.nil.cons) h
     exact ⟨a, b, .wh1 (k := Fu + k) ht (.seq h1 (.seq h2 (.one (.iteF h3 (.one (.iteT (.andT (.cmp (.loc rfl) .val (congrArg some b1)) (.andT (.tru (.call (.cons (.loc rfl) .nil) (b2 ▸ is_xml_eq S.next.all))) .andN)) (.one (.appF (.loc rfl) (.loc rfl) (by omega))))))))) e⟩
    ·cases h
theorem unescape_xml_eq {t res : List Int} (h : Lo σ) (ht : t.length ≤ 100000) (hr : rdAllX (t.length + 1) t [] = some res) : EvF c_unescape_xml [.ints t] σ (.ok (.ints res)) σ := by
 have S : Sc σ t 0 [.ints []] t := ⟨h, Plain.nil.cons, ht, rfl, Nat.zero_le _⟩
 obtain ⟨a, b, e⟩ := xml_loop (X0 := .ints t) (Fu := 1000000 - (t.length + 1)) (X1 := .undef) (X2 := .undef) (by simpa using ht) S hr
 rw [show 1000000 - (t.length + 1) + (t.length + 1) = 1000000 by omega] at e
 have hs : EvS (.setT [(.l 5), (.l 3), (.l 4)] [(.newScan c_scan_init (.loc 0)), .newL, (.call c_escape_xml_names [])]) ⟨[.ints t, .undef, .undef, .undef, .undef, .undef], [], .undef, σ⟩ .next ⟨[.ints t, .undef, .undef, .ref (σ.length + 1), .dict sXn, .inst σ.length], [], .undef, ss σ t 0 [.ints []]⟩ := by
  have e1 : (ss σ t 0 []).length = σ.length + 1 := by simp [ss]
  have e2 : ss σ t 0 [] ++ [.ints []] = ss σ t 0 [.ints []] := by simp [ss]
  have hn := EvE.newL (l := [.ints t, .undef, .undef, .undef, .undef, .undef]) (c := []) (v := .undef) (τ := ss σ t 0 [])
  rw [e1, e2] at hn
  exact .setT (.cons (.newScan (.loc rfl) (init_eq h)) (.cons hn (.cons (.call .nil (xml_names_eq S.all)) .nil))) ⟨rfl, Nat.le_refl 3⟩ rfl
 have h2 := EvS.ret (f := .loc 3) (l := [.ints t, a, b, .ref (σ.length + 1), .dict sXn, .inst σ.length]) (cl := []) (v := .undef) (τ := ss σ t t.length [.ints res]) (i := σ.length + 1) (.loc rfl) found_get
 have e3 : (ss σ t t.length [.ints res]).set (σ.length + 1) .gone = σ ++ [.inst [.ints t, .int t.length], .gone] := by simp [ss]
 rw [e3] at h2
 exact run_ret (.seq hs (.seq (.wh e) (.one h2))) rfl rfl rfl h
noncomputable abbrev ChunkX (ch : Int -> List Int) (c : Int) : Prop := ChunkG 38 id rdX bareX ch c
theorem rdAllX_flat {ch : Int -> List Int} : ∀ {t acc : List Int} {k : Nat}, (∀ c ∈ t, ChunkX ch c) -> (t.flatMap ch).length < k -> rdAllX k (t.flatMap ch) acc = some (acc ++ t)
 | [], acc, k + 1, _, _ => by rw [List.append_nil]; rfl
 | [], acc, 0, _, h => absurd h (Nat.not_lt_zero _)
 | c :: t, acc, k, h, hk => by
  rw [List.flatMap_cons] at hk ⊢
  rcases h c (.head _) with ⟨h1, h2, h3⟩ | ⟨h1, h2⟩
  ·rw [h1] at hk ⊢
   cases k with
   | zero => exact absurd hk (Nat.not_lt_zero _)
   | succ k =>
    show (if c = 38 then _ else if bareX c then rdAllX k (t.flatMap ch) (acc ++ [c]) else _) = _
    rw [if_neg (beq_eq_false_iff_ne.mp h2), if_pos h3, rdAllX_flat (fun x hx => h x (.tail _ hx)) (by simp only [List.length_append, List.length_cons, List.length_nil] at hk; omega), List.append_assoc]; rfl
  ·have hs := h2 (t.flatMap ch)
   rw [h1] at hk ⊢
   cases k with
   | zero => exact absurd hk (Nat.not_lt_zero _)
   | succ k =>
    show (match rdX ((ch c).tail ++ t.flatMap ch) with | some (w, r') => rdAllX k r' (acc ++ [w]) | none => _) = _
    rw [hs]
    show rdAllX k (t.flatMap ch) (acc ++ [c]) = _
    rw [rdAllX_flat (fun x hx => h x (.tail _ hx)) (by simp only [List.length_append, List.length_cons] at hk; omega), List.append_assoc]; rfl
theorem poolX : ∀ c ∈ lawPool, okW sX wX c = true ∧ (chW sX wX c).all (inR 32 126) = true ∧ ((!isx c) = true ∨ ChunkX (chW sX wX) c) := pool_g (by decide +kernel) (by kernel_rfl)
end
section
variable {σ j τ : List MO} {T r : List Int} {p q N : Nat} {x n m : Int} {l : List V} {c : List Nat} {v : V} {st s1 : AS} {i : Nat} {f g : EF}
noncomputable def dsR (c : Int) : List Int := (dgs 16 4 30 c []).getD []
noncomputable def rowP : List Int -> List Int -> List Int
 | [], fd => fd
 | c :: t, fd => rowP t ((if fd = [] then fd else fd ++ [32]) ++ ([85, 43] ++ dsR c))
noncomputable def rowB : SF := (.seq (.ite (.not (.tru (.call c_is_code [(.loc 1)]))) (.seq (.raise 57 (.loc 1)) .nop) .nop) (.seq (.ite (.bin (cmpF .NotEq) (.loc 2) (.list [])) (.seq (.exp (.append (.loc 2) (.val (.int 32)))) .nop) .nop) (.seq (.exp (.extend (.loc 2) (.bin (binF .Add) (.list [(.val (.int 85)), (.val (.int 43))]) (.call c_escape_digits [(.loc 1), (.val (.int 16)), (.val (.int 4))])))) .nop)))
noncomputable def RowOk (c : Int) : Prop := inR 0 1114111 c = true ∧ dgs 16 4 30 c [] = some (dsR c)
theorem rd_last {xs : List Int} : rdI (σ ++ [.ints xs]) (.ref σ.length) = some xs := rd_ref last_get
theorem row_loop {X0 : V} (hσ : Lo σ) : ∀ {t fd : List Int} {a : V}, (∀ c ∈ t, RowOk c) -> fd.length + 100 * t.length ≤ 100000 -> ∃ X, EvFor rowB (t.map fun x => [(.l 1, .int x)]) ⟨[X0, a, .ref σ.length], [], .undef, σ ++ [.ints fd]⟩ .next ⟨[X0, X, .ref σ.length], [], .undef, σ ++ [.ints (rowP t fd)]⟩ := by
 intro t
 induction t with
 | nil => exact fun {fd a} κ κ => ⟨a, .for0⟩
 | cons x t ih =>
  intro fd a h hl
  rw [List.length_cons] at hl
  obtain ⟨k1, k2⟩ := h x (.head _)
  have hlo {xs : List Int} : Lo (σ ++ [.ints xs]) := hσ.append Plain.nil.cons
  have hd : (dsR x).length ≤ 30 := by simpa using dgs_len k2
  have e1 {fd : List Int} : EvE (.bin (binF .Add) (.list [(.val (.int 85)), (.val (.int 43))]) (.call c_escape_digits [(.loc 1), (.val (.int 16)), (.val (.int 4))])) ⟨[X0, .int x, .ref σ.length], [], .undef, σ ++ [.ints fd]⟩ (.ok (.ints ([85, 43] ++ dsR x))) ⟨[X0, .int x, .ref σ.length], [], .undef, σ ++ [.ints fd]⟩ :=
   .op (.list (Xs := [.int 85, .int 43]) (.cons .val (.cons .val .nil))) (.call (.cons (.loc rfl) (.cons .val (.cons .val .nil))) (digits_eq (least := 4) hlo b16 k2)) (add_ints (xs := [85, 43]) (by rw [List.length_cons, List.length_singleton]; omega))
  have e0 : EvS (.ite (.not (.tru (.call c_is_code [(.loc 1)]))) (.seq (.raise 57 (.loc 1)) .nop) .nop) ⟨[X0, .int x, .ref σ.length], [], .undef, σ ++ [.ints fd]⟩ .next ⟨[X0, .int x, .ref σ.length], [], .undef, σ ++ [.ints fd]⟩ := .iteF (.not (b := true) (.tru (.call (.cons (.loc rfl) .nil) (k1 ▸ is_code_eq hlo)))) .nop
  have e2 : EvE (.bin (cmpF .NotEq) (.loc 2) (.list [])) ⟨[X0, .int x, .ref σ.length], [], .undef, σ ++ [.ints fd]⟩ (.ok (.bool (!decide (fd = [])))) ⟨[X0, .int x, .ref σ.length], [], .undef, σ ++ [.ints fd]⟩ :=
   .cmp (.loc rfl) (.list .nil) (by
    show ((rdI (σ ++ [MO.ints fd]) (.ref σ.length)).bind fun xs => (rdI (σ ++ [MO.ints fd]) (V.ints [])).map fun ys => decide (xs = ys)).map (!·) = _
    rw [rd_last]; rfl)
  obtain ⟨X, ih⟩ := ih (fd := (if fd = [] then fd else fd ++ [32]) ++ ([85, 43] ++ dsR x)) (a := .int x) (fun c hc => h c (.tail _ hc)) (by
   rw [List.length_append, List.length_append]
   have : (if fd = [] then fd else fd ++ [32]).length ≤ fd.length + 1 := by
    split
    ·omega
    ·rw [List.length_append]; exact Nat.le_refl _
   have : [(85 : Int), 43].length = 2 := rfl
   omega)
  refine ⟨X, .for1 rfl (.seq e0 (.seq (s1 := ⟨[X0, .int x, .ref σ.length], [], .undef, σ ++ [.ints (if fd = [] then fd else fd ++ [32])]⟩) ?_ (.one (.extLast (.loc rfl) e1 ?_)))) ih⟩
  ·by_cases hf : fd = []
   ·rw [if_pos hf]; rw [decide_eq_true hf] at e2; exact .iteF e2 .nop
   ·rw [if_neg hf]; rw [decide_eq_false hf] at e2; exact .iteT e2 (.one (.appLast (.loc rfl) .val (by omega)))
  ·have : (if fd = [] then fd else fd ++ [32]).length ≤ fd.length + 1 := by
    split
    ·omega
    ·rw [List.length_append]; exact Nat.le_refl _
   have : ([(85 : Int), 43] ++ dsR x).length = 2 + (dsR x).length := by rw [List.length_append]; rfl
   omega
theorem escape_row_eq {t : List Int} (hσ : Lo σ) (h : ∀ c ∈ t, RowOk c) (hl : t.length ≤ 100) : EvF c_escape_row [.ints t] σ (.ok (.ints (rowP t []))) σ := by
 obtain ⟨X, e⟩ := row_loop (σ := σ) (X0 := .ints t) (fd := []) (a := .undef) hσ h (by simp; omega)
 exact run_ret (j := [.gone]) (.seq (.setL .newL) (.seq (.for (.ints (.loc rfl)) e) (.one (.retLast (.loc rfl))))) rfl rfl rfl hσ
noncomputable def rdRow : Nat -> List Int -> List Int -> Option (List Int)
 | 0, _, _ => none
 | k + 1, [], acc => some acc
 | k + 1, a :: b :: r, acc => if a = 85 ∧ b = 43 then (match numM 16 6 r 0 with
  | some (m, w, g :: s) => if 4 ≤ m ∧ w ≤ 1114111 ∧ bl g = true then rdRow k ((g :: s).dropWhile bl) (acc ++ [w]) else none
  | _ => none) else none
 | k + 1, _, _ => none
noncomputable def urT : EF := .not (.tru (.meth c_scan_is_over (.loc 3) []))
noncomputable def urB : SF := (.seq (.setL 1 (.attr 1 (.loc 3))) (.seq (.exp (.meth c_scan_due (.loc 3) [(.val (.int 85)), (.loc 1), (.val (.str "escape"))])) (.seq (.exp (.meth c_scan_due (.loc 3) [(.val (.int 43)), (.loc 1), (.val (.str "escape"))])) (.seq (.setL 4 (.meth c_scan_number (.loc 3) [(.val (.int 16)), (.val (.int 4)), (.val (.int 6)), (.loc 1)])) (.seq (.ite (.orL [(.bin (cmpF .Gt) (.loc 4) (.val (.int 1114111))), (.andL [(.not (.tru (.meth c_scan_is_over (.loc 3) []))), (.bin (cmpF .NotIn) (.meth c_scan_sign (.loc 3) []) (.val v_ESCAPE_BLANKS))])]) (.seq (.raise 45 (.tup [(.loc 1), (.val (.str "code"))])) .nop) .nop) (.seq (.exp (.append (.loc 2) (.loc 4))) (.seq (.exp (.meth c_scan_pass_all (.loc 3) [(.val v_ESCAPE_BLANKS)])) .nop)))))))
set_option tactic.hygienic true in
theorem ur_loop {X0 : V} {Fu : Nat} : ∀ {k : Nat} {r acc res : List Int} {p : Nat} {X1 X4 : V}, acc.length + r.length ≤ 100000 -> Sc σ T p [.ints acc] r -> rdRow k r acc = some res ->
   ∃ X1' X4', EvW urT urB (Fu + k) ⟨[X0, X1, .ref (σ.length + 1), .inst σ.length, X4], [], .undef, ss σ T p [.ints acc]⟩ .next ⟨[X0, X1', .ref (σ.length + 1), .inst σ.length, X4'], [], .undef, ss σ T T.length [.ints res]⟩ := by
 intro k
 induction k with
 | zero => intro r acc res p X1 X4 _ _ h; cases h
 | succ k ih =>
  intro r acc res p X1 X4 hl S h
  have ht : EvE urT ⟨[X0, X1, .ref (σ.length + 1), .inst σ.length, X4], [], .undef, ss σ T p [.ints acc]⟩ (.ok (.bool (!r.isEmpty))) ⟨[X0, X1, .ref (σ.length + 1), .inst σ.length, X4], [], .undef, ss σ T p [.ints acc]⟩ := .not (.tru (.meth (.loc rfl) ss_get .nil (over_eq S)))
  cases r with
  | nil =>
   have h : some acc = some res := h
   cases h
   rw [← S.end]
   exact ⟨X1, X4, .wh0 (k := Fu + k) ht⟩
  | cons a r => cases r with
  | nil => cases h
  | cons b r =>
   replace h : (if a = 85 ∧ b = 43 then (match numM 16 6 r 0 with
    | some (m, w, g :: s) => if 4 ≤ m ∧ w ≤ 1114111 ∧ bl g = true then rdRow k ((g :: s).dropWhile bl) (acc ++ [w]) else none
    | _ => none) else none) = some res := h
   simp only [List.length_cons] at hl
   split at h
   ·rename_i hab
    obtain ⟨rfl, rfl⟩ := hab
    split at h
    ·rename_i m w g s hm
     split at h
     ·rename_i hc
      obtain ⟨c1, c2, c3⟩ := hc
      have hlen := (numM_num hm).2
      simp only [List.length_cons] at hlen
      obtain ⟨e3, S3⟩ := EvE.number (f := .loc 3) (g1 := .val (.int 16)) (g2 := .val (.int 4)) (g3 := .val (.int 6)) (g4 := .loc 1) (l := [X0, .int p, .ref (σ.length + 1), .inst σ.length, X4]) (c := []) (v := .undef) (least := 4) S.next.next (numM_num hm).1 (by decide) c1 (b := .int p) rfl (.loc rfl) .val .val .val (.loc rfl)
      have S4 : Sc σ T (p + 1 + 1 + m) [.ints (acc ++ [w])] (g :: s) := S3.tail Plain.nil.cons
      obtain ⟨p', e5, S5⟩ := pass_eq S4
      have hdw : ((g :: s).dropWhile bl).length ≤ s.length := by
       rw [List.dropWhile_cons, if_pos c3]
       exact (List.dropWhile_sublist _).length_le
      obtain ⟨X1', X4', e6⟩ := ih (acc := acc ++ [w]) (X1 := .int p) (X4 := .int w) (by rw [List.length_append]; exact (by omega : acc.length + 1 + ((g :: s).dropWhile bl).length ≤ 100000)) S5 h
      have e7 : EvE (.bin (cmpF .NotIn) (.meth c_scan_sign (.loc 3) []) (.val v_ESCAPE_BLANKS)) ⟨[X0, .int p, .ref (σ.length + 1), .inst σ.length, .int w], [], .undef, ss σ T (p + 1 + 1 + m) [.ints acc]⟩ (.ok (.bool (!bl g))) ⟨[X0, .int p, .ref (σ.length + 1), .inst σ.length, .int w], [], .undef, ss σ T (p + 1 + 1 + m) [.ints acc]⟩ := .cmp (.sign S3 (.loc rfl)) .val rfl
      rw [c3] at e7
      exact ⟨X1', X4', .wh1 (k := Fu + k) ht (.seq (.setL (.attr (.loc rfl) ss_get rfl)) (.seq (.due S (.loc rfl) .val (.loc rfl) .val) (.seq (.due S.next (.loc rfl) .val (.loc rfl) .val) (.seq (.setL e3) (.seq (.iteF (.orF (.cmp (.loc rfl) .val (congrArg some (decide_eq_false (by omega)))) (.orF (.andT (.not (b := false) (.tru (.meth (.loc rfl) ss_get .nil (over_eq S3)))) (.andF e7)) .orN)) .nop) (.seq (.appF (.loc rfl) (.loc rfl) (by omega)) (.one (.exp (.meth (.loc rfl) ss_get (.cons .val .nil) e5))))))))) e6⟩
     ·cases h
    ·cases h
   ·cases h
theorem unescape_row_eq {t res : List Int} (h : Lo σ) (ht : t.length ≤ 100000) (hr : rdRow (t.length + 1) (t.dropWhile bl) [] = some res) : EvF c_unescape_row [.ints t] σ (.ok (.ints res)) σ := by
 have S : Sc σ t 0 [.ints []] t := ⟨h, Plain.nil.cons, ht, rfl, Nat.zero_le _⟩
 obtain ⟨p', e5, S5⟩ := pass_eq S
 obtain ⟨a, b, e⟩ := ur_loop (X0 := .ints t) (Fu := 1000000 - (t.length + 1)) (X1 := .undef) (X4 := .undef) (by have := (List.dropWhile_sublist bl (l := t)).length_le; rw [List.length_nil]; omega) S5 hr
 rw [show 1000000 - (t.length + 1) + (t.length + 1) = 1000000 by omega] at e
 have hs : EvS (.setT [(.l 3), (.l 2)] [(.newScan c_scan_init (.loc 0)), .newL]) ⟨[.ints t, .undef, .undef, .undef, .undef], [], .undef, σ⟩ .next ⟨[.ints t, .undef, .ref (σ.length + 1), .inst σ.length, .undef], [], .undef, ss σ t 0 [.ints []]⟩ := by
  have e1 : (ss σ t 0 []).length = σ.length + 1 := by simp [ss]
  have e2 : ss σ t 0 [] ++ [.ints []] = ss σ t 0 [.ints []] := by simp [ss]
  have hn := EvE.newL (l := [.ints t, .undef, .undef, .undef, .undef]) (c := []) (v := .undef) (τ := ss σ t 0 [])
  rw [e1, e2] at hn
  exact .setT (.cons (.newScan (.loc rfl) (init_eq h)) (.cons hn .nil)) ⟨rfl, Nat.le_succ 2⟩ rfl
 have h2 := EvS.ret (f := .loc 2) (l := [.ints t, a, .ref (σ.length + 1), .inst σ.length, b]) (cl := []) (v := .undef) (τ := ss σ t t.length [.ints res]) (i := σ.length + 1) (.loc rfl) found_get
 have e3 : (ss σ t t.length [.ints res]).set (σ.length + 1) .gone = σ ++ [.inst [.ints t, .int t.length], .gone] := by simp [ss]
 rw [e3] at h2
 exact run_ret (.seq hs (.seq (.exp (.meth (.loc rfl) ss_get (.cons .val .nil) e5)) (.seq (.wh e) (.one h2)))) rfl rfl rfl h
noncomputable def wideP (gap : List Int) (t : List Int) : List Int := t.flatMap fun c => [85, 43] ++ dsR c ++ gap
theorem rdRow_wide {g0 : Int} {gap : List Int} (hg : bl g0 = true) (hgap : ∀ x ∈ gap, bl x = true) : ∀ {t acc : List Int} {k : Nat}, (∀ c ∈ t, c ≤ 1114111 ∧ ∃ m, 4 ≤ m ∧ ∀ s, numM 16 6 (dsR c ++ g0 :: s) 0 = some (m, c, g0 :: s)) -> t.length < k -> rdRow k (wideP (g0 :: gap) t) acc = some (acc ++ t)
 | [], acc, k + 1, _, _ => by rw [List.append_nil]; rfl
 | [], acc, 0, _, h => absurd h (Nat.not_lt_zero _)
 | c :: t, acc, 0, _, h => absurd h (Nat.not_lt_zero _)
 | c :: t, acc, k + 1, h, hk => by
  obtain ⟨hc, m, h1, h2⟩ := h c (.head _)
  have e1 : wideP (g0 :: gap) (c :: t) = 85 :: 43 :: (dsR c ++ g0 :: (gap ++ wideP (g0 :: gap) t)) := by
   unfold wideP; rw [List.flatMap_cons]; simp
  rw [e1]
  show (if (85 : Int) = 85 ∧ (43 : Int) = 43 then (match numM 16 6 (dsR c ++ g0 :: (gap ++ wideP (g0 :: gap) t)) 0 with
   | some (m, w, g :: s) => if 4 ≤ m ∧ w ≤ 1114111 ∧ bl g = true then rdRow k ((g :: s).dropWhile bl) (acc ++ [w]) else none
   | _ => none) else none) = _
  rw [if_pos ⟨rfl, rfl⟩, h2]
  simp only
  rw [if_pos ⟨h1, hc, hg⟩]
  have e2 : (g0 :: (gap ++ wideP (g0 :: gap) t)).dropWhile bl = wideP (g0 :: gap) t := by
   rw [← List.cons_append, List.dropWhile_append_of_pos (fun x hx => by
    rcases List.mem_cons.mp hx with rfl | hx
    ·exact hg
    ·exact hgap x hx)]
   cases t with
   | nil => rfl
   | cons a t => rfl
  rw [e2, rdRow_wide hg hgap (fun x hx => h x (.tail _ hx)) (Nat.lt_of_succ_lt_succ hk), List.append_assoc]
  rfl
theorem pool_row : lawPool.map (fun c => [(32 : Int), 9, 10, 13].map fun g0 s => numM 16 6 (dsR c ++ g0 :: s) 0) = lawPool.map fun c => [(32 : Int), 9, 10, 13].map fun g0 s => some ((dsR c).length, c, g0 :: s) := by kernel_rfl
theorem poolRow : ∀ c ∈ lawPool, RowOk c ∧ c ≤ 1114111 ∧ ∀ g0 ∈ [(32 : Int), 9, 10, 13], 4 ≤ (dsR c).length ∧ ∀ s, numM 16 6 (dsR c ++ g0 :: s) 0 = some ((dsR c).length, c, g0 :: s) := fun c hc => by
 have h : lawPool.all (fun c => decide (inR 0 1114111 c = true ∧ dgs 16 4 30 c [] = some (dsR c) ∧ c ≤ 1114111 ∧ 4 ≤ (dsR c).length)) = true := by decide +kernel
 obtain ⟨h1, h2, h3, h4⟩ := of_decide_eq_true (List.all_eq_true.mp h c hc)
 exact ⟨⟨h1, h2⟩, h3, fun g0 hg => ⟨h4, congrFun (List.map_inj_left.mp (List.map_inj_left.mp pool_row c hc) g0 hg)⟩⟩
end
section
variable {σ j τ : List MO} {T r : List Int} {p q N : Nat} {x n m : Int} {l : List V} {c : List Nat} {v : V} {st s1 : AS} {i : Nat} {f g : EF}
noncomputable def hexU : Array UInt8 := [48, 49, 50, 51, 52, 53, 54, 55, 56, 57, 97, 98, 99, 100, 101, 102, 65, 66, 67, 68, 69, 70].toArray
noncomputable def hexL : Array UInt8 := [48, 49, 50, 51, 52, 53, 54, 55, 56, 57, 97, 98, 99, 100, 101, 102].toArray
noncomputable def asc (x : Int) : Prop := 0 ≤ x ∧ x < 128
theorem hex_facts : ∀ k : Fin 128, (!(hexU.contains ((k.val : Int)).toNat.toUInt8)) = !(dg (k.val : Int)).isSome ∧
  ((dg (k.val : Int)).isSome = true -> (Builtin.Bytes.find? hexL #[(if 64 < (k.val : Int) ∧ (k.val : Int) < 71 then (k.val : Int) + 32 else (k.val : Int)).toNat.toUInt8] 0 hexL.size).map (fun i => ((i : Nat) : Int)) = dg (k.val : Int)) := by decide +kernel
noncomputable def hxN : List Int -> Int -> Option Int
 | [], u => some u
 | x :: r, u => match dg x with
  | some d => hxN r (u * 16 + d)
  | none => none
noncomputable def hexB : SF := (.seq (.ite (.bin notInB (.loc 2) (.val (.bytes [48, 49, 50, 51, 52, 53, 54, 55, 56, 57, 97, 98, 99, 100, 101, 102, 65, 66, 67, 68, 69, 70].toArray))) (.seq (.retK (.val .none)) .nop) .nop) (.seq (.setL 1 (.bin (binF .Add) (.bin (binF .Mult) (.loc 1) (.val (.int 16))) (.indexB (.val (.bytes [48, 49, 50, 51, 52, 53, 54, 55, 56, 57, 97, 98, 99, 100, 101, 102].toArray)) (.ite (.chain .Lt .Lt (.val (.int 64)) (.loc 2) (.val (.int 71))) (.bin (binF .Add) (.loc 2) (.val (.int 32))) (.loc 2))))) .nop))
theorem hex_loop {X0 : V} : ∀ {t : List Int} {u : Int} {a : Nat} {X2 : V}, (∀ x ∈ t, asc x) -> 0 ≤ u -> u < 16 ^ a -> a + t.length ≤ 9 ->
  (∃ w X, hxN t u = some w ∧ EvFor hexB (t.map fun x => [(.l 2, .int x)]) ⟨[X0, .int u, X2], [], .undef, σ⟩ .next ⟨[X0, .int w, X], [], .undef, σ⟩) ∨
  (hxN t u = none ∧ ∃ l', EvFor hexB (t.map fun x => [(.l 2, .int x)]) ⟨[X0, .int u, X2], [], .undef, σ⟩ (.ret .none) ⟨l', [], .undef, σ⟩) := by
 intro t
 induction t with
 | nil => exact fun {u a X2} κ κ κ κ => .inl ⟨u, X2, rfl, .for0⟩
 | cons x t ih =>
  intro u a X2 h h0 h1 ha
  rw [List.length_cons] at ha
  obtain ⟨x0, x1⟩ := h x (.head _)
  obtain ⟨k, rfl⟩ : ∃ k : Fin 128, x = (k.val : Int) := ⟨⟨x.toNat, by omega⟩, (Int.toNat_of_nonneg x0).symm⟩
  obtain ⟨f1, f2⟩ := hex_facts k
  have e1 : EvE (.bin notInB (.loc 2) (.val (.bytes hexU))) ⟨[X0, .int u, .int (k.val : Int)], [], .undef, σ⟩ (.ok (.bool (!(dg (k.val : Int)).isSome))) ⟨[X0, .int u, .int (k.val : Int)], [], .undef, σ⟩ :=
   .bin (.loc rfl) .val (by
    rw [← f1]
    exact if_pos (by omega))
  unfold hxN
  cases hd : dg (k.val : Int) with
  | none =>
   rw [hd] at e1
   exact .inr ⟨rfl, _, .forX rfl (.seqX (.iteT e1 (.one (.retK .val))))⟩
  | some d =>
   rw [hd] at e1
   obtain ⟨d0, d1⟩ := dg_lo hd
   obtain ⟨u0, u1⟩ := pow_up (base := 16) h0 h1 (by decide) (by decide) d0 d1
   have e2 : EvE (.ite (.chain .Lt .Lt (.val (.int 64)) (.loc 2) (.val (.int 71))) (.bin (binF .Add) (.loc 2) (.val (.int 32))) (.loc 2)) ⟨[X0, .int u, .int (k.val : Int)], [], .undef, σ⟩ (.ok (.int (if 64 < (k.val : Int) ∧ (k.val : Int) < 71 then (k.val : Int) + 32 else (k.val : Int)))) ⟨[X0, .int u, .int (k.val : Int)], [], .undef, σ⟩ := by
    by_cases q1 : 64 < (k.val : Int)
    ·by_cases q2 : (k.val : Int) < 71
     ·rw [if_pos ⟨q1, q2⟩]
      exact .iteT (.chainT .val (.loc rfl) (congrArg some (decide_eq_true q1)) .val (congrArg some (decide_eq_true q2))) (.op (.loc rfl) .val)
     ·rw [if_neg (fun q => q2 q.2)]
      exact .iteF (.chainT .val (.loc rfl) (congrArg some (decide_eq_true q1)) .val (congrArg some (decide_eq_false q2))) (.loc rfl)
    ·rw [if_neg (fun q => q1 q.1)]
     exact .iteF (.chainF .val (.loc rfl) (congrArg some (decide_eq_false q1))) (.loc rfl)
   have e3 : EvE (.indexB (.val (.bytes hexL)) (.ite (.chain .Lt .Lt (.val (.int 64)) (.loc 2) (.val (.int 71))) (.bin (binF .Add) (.loc 2) (.val (.int 32))) (.loc 2))) ⟨[X0, .int u, .int (k.val : Int)], [], .undef, σ⟩ (.ok (.int d)) ⟨[X0, .int u, .int (k.val : Int)], [], .undef, σ⟩ := by
    have f3 := f2 (by rw [hd]; rfl)
    rw [hd] at f3
    obtain ⟨i, i1, i2⟩ := Option.map_eq_some_iff.mp f3
    rw [← i2]
    exact .indexB .val e2 ⟨by split <;> omega, by split <;> omega, by decide⟩ i1
   have hb : EvS hexB ⟨[X0, .int u, .int (k.val : Int)], [], .undef, σ⟩ .next ⟨[X0, .int (u * 16 + d), .int (k.val : Int)], [], .undef, σ⟩ :=
    .seq (.iteF e1 .nop) (.one (.setL (.op (W := .int (u * 16 + d)) (.op (W := .int (u * 16)) (.loc rfl) .val (by show (if small u = true then some (V.int (u * 16)) else none) = _; rw [if_pos (small_of h0 h1 (by omega))])) e3 rfl)))
   rcases ih (X2 := .int (k.val : Int)) (fun x hx => h x (.tail _ hx)) u0 u1 (by omega) with ⟨w, X, i1, i2⟩ | ⟨i1, l', i2⟩
   ·exact .inl ⟨w, X, i1, .for1 rfl hb i2⟩
   ·exact .inr ⟨i1, l', .for1 rfl hb i2⟩
theorem hxN_take : ∀ {k : Nat} {r : List Int} {u : Int}, (k ≤ r.length -> hxN (r.take k) u = (digs 16 k r u).map (·.1)) ∧ (r.length < k -> digs 16 k r u = none)
 | 0, r, u => ⟨fun κ => rfl, fun h => absurd h (Nat.not_lt_zero _)⟩
 | k + 1, [], u => ⟨fun h => absurd h (Nat.not_succ_le_zero _), fun κ => rfl⟩
 | k + 1, x :: r, u => by
  rw [List.take_succ_cons, List.length_cons]
  unfold hxN digs
  cases hd : dg x with
  | none => exact ⟨fun κ => rfl, fun κ => rfl⟩
  | some d =>
   simp only
   rw [if_pos (dg_lo hd).2]
   obtain ⟨i1, i2⟩ := hxN_take (k := k) (r := r) (u := u * 16 + d)
   exact ⟨fun h => i1 (by omega), fun h => i2 (by omega)⟩
theorem law_hex_eq (h : Lo σ) (hr : ∀ x ∈ r, asc x) : EvF c__law_hex [.ints (r.take 4)] σ (.ok (optV ((digs 16 4 r 0).map (·.1)))) σ := by
 have hl : (r.take 4).length ≤ 4 := by rw [List.length_take]; exact Nat.min_le_left ..
 obtain ⟨k1, k2⟩ := hxN_take (k := 4) (r := r) (u := 0)
 have e5 {w : Int} {X : V} : EvE (.bin (cmpF .Eq) (.len (.loc 0)) (.val (.int 4))) ⟨[.ints (r.take 4), .int w, X], [], .undef, σ⟩ (.ok (.bool (((r.take 4).length : Int) == 4))) ⟨[.ints (r.take 4), .int w, X], [], .undef, σ⟩ := .cmp (.len (.loc rfl) rfl (by omega)) .val
 rcases hex_loop (σ := σ) (X0 := .ints (r.take 4)) (t := r.take 4) (u := 0) (a := 0) (X2 := .undef) (fun x hx => hr x (List.mem_of_mem_take hx)) (Int.le_refl _) (by decide) (by omega) with ⟨w, X, h1, h2⟩ | ⟨h1, l', h2⟩
 ·by_cases h4 : 4 ≤ r.length
  ·rw [k1 h4] at h1
   rw [h1]
   have : (r.take 4).length = 4 := by rw [List.length_take]; omega
   have e6 := e5 (w := w) (X := X)
   rw [this] at e6
   exact run_ret0 (.seq (.setL .val) (.seq (.for (.ints (.loc rfl)) h2) (.one (.retK (.iteT e6 (.loc rfl)))))) (hτ := h)
  ·rw [k2 (by omega)]
   have : (r.take 4).length = r.length := by rw [List.length_take]; omega
   have e6 := e5 (w := w) (X := X)
   rw [beq_eq_false_iff_ne.mpr (by omega)] at e6
   exact run_ret0 (.seq (.setL .val) (.seq (.for (.ints (.loc rfl)) h2) (.one (.retK (.iteF e6 .val))))) (hτ := h)
 ·have : (digs 16 4 r 0).map (·.1) = none := by
   by_cases h4 : 4 ≤ r.length
   ·rw [← k1 h4]; exact h1
   ·rw [k2 (by omega)]; rfl
  rw [this]
  exact run_ret0 (.seq (.setL .val) (.seqX (.for (.ints (.loc rfl)) h2))) (hτ := h)
end
section
variable {σ j τ : List MO} {T r : List Int} {p q N : Nat} {x n m : Int} {l : List V} {c : List Nat} {v : V} {st s1 : AS} {i : Nat} {f g : EF}
theorem cut_eq {a b : Nat} (h : a ≤ b) : cutI T (some (a : Int)) (some (b : Int)) = (T.drop a).take (b - a) := by
 have e1 : kms_lo (some (a : Int)) T.length = min a T.length := by show (if (a : Int) < 0 then T.length - (-(a : Int)).toNat else min (a : Int).toNat T.length) = _; rw [if_neg (by omega), Int.toNat_natCast]
 have e2 : kms_hi (some (b : Int)) T.length = min b T.length := by show (if (b : Int) < 0 then T.length - (-(b : Int)).toNat else min (b : Int).toNat T.length) = _; rw [if_neg (by omega), Int.toNat_natCast]
 unfold cutI
 rw [e1, e2]
 by_cases q : a ≤ T.length
 ·rw [Nat.min_eq_left q]
  by_cases q2 : b ≤ T.length
  ·rw [Nat.min_eq_left q2]
  ·rw [Nat.min_eq_right (by omega), List.take_of_length_le (by rw [List.length_drop]; omega), List.take_of_length_le (by rw [List.length_drop]; omega)]
 ·have ha : min a T.length = T.length := Nat.min_eq_right (by omega)
  rw [ha, List.drop_of_length_le (Nat.le_refl _), List.drop_of_length_le (i := a) (by omega), List.take_nil, List.take_nil]
noncomputable def jSl (a b : Int) : EF := .slice (.loc 0) (.bin (binF .Add) (.loc 1) (.val (.int a))) (.bin (binF .Add) (.loc 1) (.val (.int b)))
noncomputable def kn : List (Int × V) := [(34, 34), (92, 92), (47, 47), (98, 8), (102, 12), (110, 10), (114, 13), (116, 9)].map fun (x : Int × Int) => (x.1, .int x.2)
noncomputable def jS1 : SF := (.setT [(.l 3), (.l 7)] [(.bin subF (.loc 0) (.loc 1)), (.list [(.loc 1)])])
noncomputable def jS2 : SF := (.ite (.andL [(.bin (cmpF .IsNot) (.loc 2) (.val .none)), (.bin (cmpF .NotEq) (.slice (.loc 0) (.loc 1) (.bin (binF .Add) (.loc 1) (.val (.int 2)))) (.list [(.val (.int 92)), (.val (.int 117))]))]) (.seq (.retK (.tup [(.val .none), (.list [(.loc 2), (.loc 1)])])) .nop) .nop)
noncomputable def jS3 : SF := (.ite (.orL [(.bin (cmpF .Eq) (.loc 3) (.val (.int 34))), (.bin (cmpF .Lt) (.loc 3) (.val (.int 32)))]) (.seq (.retK (.tup [(.val .none), (.loc 7)])) .nop) .nop)
noncomputable def jLow : EF := (.chain .LtE .LtE (.val (.int 56320)) (.loc 6) (.val (.int 57343)))
noncomputable def jU3 : SF := (.seq (.ite (.bin (cmpF .IsNot) (.loc 2) (.val .none)) (.seq (.setT [(.l 4), (.l 2)] [(.bin (binF .Add) (.slice (.loc 4) (.val .none) (.neg (.val (.int 1)))) (.list [(.bin (binF .Sub) (.bin (binF .Add) (.bin (binF .Add) (.val (.int 65536)) (.bin (binF .Mult) (.bin (binF .Sub) (.bin subF (.loc 4) (.neg (.val (.int 1)))) (.val (.int 55296))) (.val (.int 1024)))) (.loc 6)) (.val (.int 56320)))])), (.val .none)]) .nop) (.seq (.ite jLow (.seq (.retK (.tup [(.val .none), (.loc 7)])) .nop) (.seq (.setT [(.l 4), (.l 2)] [(.bin (binF .Add) (.loc 4) (.list [(.loc 6)])), (.ite (.chain .LtE .LtE (.val (.int 55296)) (.loc 6) (.val (.int 56319))) (.loc 1) (.val .none))]) .nop)) .nop)) (.seq (.setL 1 (.bin (binF .Add) (.loc 1) (.val (.int 6)))) .nop))
noncomputable def jU2 : SF := (.ite (.orL [(.bin (cmpF .Is) (.loc 6) (.val .none)), (.andL [(.bin (cmpF .IsNot) (.loc 2) (.val .none)), (.not jLow)])]) (.seq (.retK (.tup [(.val .none), (.bin (binF .Add) (.loc 7) (.ite (.bin (cmpF .IsNot) (.loc 2) (.val .none)) (.list [(.loc 2)]) (.list [])))])) .nop) .nop)
noncomputable def jU : SF := (.seq (.setL 6 (.call c__law_hex [jSl 2 6])) (.seq jU2 jU3))
noncomputable def jK : SF := (.seq (.setL 5 (.dictI [((.val (.int 34)), (.val (.int 34))), ((.val (.int 92)), (.val (.int 92))), ((.val (.int 47)), (.val (.int 47))), ((.val (.int 98)), (.val (.int 8))), ((.val (.int 102)), (.val (.int 12))), ((.val (.int 110)), (.val (.int 10))), ((.val (.int 114)), (.val (.int 13))), ((.val (.int 116)), (.val (.int 9)))])) (.seq (.ite (.orL [(.bin (cmpF .Eq) (.bin (binF .Add) (.loc 1) (.val (.int 1))) (.len (.loc 0))), (.bin (cmpF .NotIn) (.bin subF (.loc 0) (.bin (binF .Add) (.loc 1) (.val (.int 1)))) (.loc 5))]) (.seq (.retK (.tup [(.val .none), (.loc 7)])) .nop) .nop) (.seq (.setT [(.l 4), (.l 1)] [(.bin (binF .Add) (.loc 4) (.list [(.bin subF (.loc 5) (.bin subF (.loc 0) (.bin (binF .Add) (.loc 1) (.val (.int 1)))))])), (.bin (binF .Add) (.loc 1) (.val (.int 2)))]) .nop)))
noncomputable def jS4 : SF := (.ite (.bin (cmpF .NotEq) (.loc 3) (.val (.int 92))) (.seq (.setT [(.l 4), (.l 1)] [(.bin (binF .Add) (.loc 4) (.list [(.loc 3)])), (.bin (binF .Add) (.loc 1) (.val (.int 1)))]) .nop) (.seq (.ite (.bin (cmpF .Eq) (jSl 1 2) (.list [(.val (.int 117))])) jU jK) .nop))
noncomputable def jB : SF := .seq jS1 (.seq jS2 (.seq jS3 (.seq jS4 .nop)))
noncomputable def jT : EF := (.bin (cmpF .Lt) (.loc 1) (.len (.loc 0)))
noncomputable abbrev J (σ : List MO) (T : List Int) (p : Nat) (b X3 : V) (acc : List Int) (X5 X6 X7 : V) : AS := ⟨[.ints T, .int p, b, X3, .ints acc, X5, X6, X7], [], .undef, σ⟩
variable {b X3 X5 X6 X7 : V} {acc : List Int} {k : Int}
theorem j_sl {a e : Nat} (hT : T.length ≤ 100000) (hae : a ≤ e) : EvE (jSl a e) (J σ T p b X3 acc X5 X6 X7) (.ok (.ints ((T.drop (p + a)).take (e - a)))) (J σ T p b X3 acc X5 X6 X7) :=
 .slice (.loc rfl) (.op (W := .int ((p + a : Nat))) (.loc rfl) .val rfl) (.op (W := .int ((p + e : Nat))) (.loc rfl) .val rfl) (by
  show (if T.length ≤ 1000000 then some (V.ints (cutI T (some ((p + a : Nat) : Int)) (some ((p + e : Nat) : Int)))) else none) = _
  rw [if_pos (by omega), cut_eq (by omega), show p + e - (p + a) = e - a by omega])
theorem j1 (S : Sc σ T p [] (x :: r)) : EvS jS1 (J σ T p b X3 acc X5 X6 X7) .next (J σ T p b (.int x) acc X5 X6 (.ints [(p : Int)])) :=
 .setT (Xs := [.int x, .ints [(p : Int)]]) (.cons (.sub (.loc rfl) (.loc rfl) S.item) (.cons (.list (Xs := [.int p]) (.cons (.loc rfl) .nil)) .nil)) ⟨rfl, Nat.le_succ 2⟩ rfl
theorem j2 : EvS jS2 (J σ T p .none X3 acc X5 X6 X7) .next (J σ T p .none X3 acc X5 X6 X7) := .iteF (.andF (.cmp (.loc rfl) .val rfl)) .nop
theorem j2' (hd : EvE (.bin (cmpF .NotEq) (.slice (.loc 0) (.loc 1) (.bin (binF .Add) (.loc 1) (.val (.int 2)))) (.list [(.val (.int 92)), (.val (.int 117))])) (J σ T p (.int k) X3 acc X5 X6 X7) (.ok (.bool false)) (J σ T p (.int k) X3 acc X5 X6 X7)) : EvS jS2 (J σ T p (.int k) X3 acc X5 X6 X7) .next (J σ T p (.int k) X3 acc X5 X6 X7) :=
 .iteF (.andT (.cmp (.loc rfl) .val rfl) (.andF hd)) .nop
theorem j_two (S : Sc σ T p [] r) : EvE (.bin (cmpF .NotEq) (.slice (.loc 0) (.loc 1) (.bin (binF .Add) (.loc 1) (.val (.int 2)))) (.list [(.val (.int 92)), (.val (.int 117))])) (J σ T p b X3 acc X5 X6 X7) (.ok (.bool (!decide (r.take 2 = [92, 117])))) (J σ T p b X3 acc X5 X6 X7) :=
 .cmp (.slice (W := .ints (r.take 2)) (.loc rfl) (.loc rfl) (.op (W := .int ((p + 2 : Nat))) (.loc rfl) .val rfl) (by
  have := S.hT
  show (if T.length ≤ 1000000 then some (V.ints (cutI T (some ((p : Nat) : Int)) (some ((p + 2 : Nat) : Int)))) else none) = _
  rw [if_pos (by omega), cut_eq (by omega), show p + 2 - p = 2 by omega, S.hr])) (.list (Xs := [.int 92, .int 117]) (.cons .val (.cons .val .nil))) rfl
theorem j3 (h1 : (x == 34) = false) (h2 : decide (x < 32) = false) : EvS jS3 (J σ T p b (.int x) acc X5 X6 X7) .next (J σ T p b (.int x) acc X5 X6 X7) :=
 .iteF (.orF (.cmp (.loc rfl) .val (congrArg some h1)) (.orF (.cmp (.loc rfl) .val (congrArg some h2)) .orN)) .nop
theorem j3X {k : Int} (h : (x == 34) = true ∨ decide (x < 32) = true) : EvS jS3 (J σ T p b (.int x) acc X5 X6 (.ints [k])) (.ret (.tup [.none, .ints [k]])) (J σ T p b (.int x) acc X5 X6 (.ints [k])) := by
 have e1 : EvE (.bin (cmpF .Eq) (.loc 3) (.val (.int 34))) (J σ T p b (.int x) acc X5 X6 (.ints [k])) (.ok (.bool (x == 34))) (J σ T p b (.int x) acc X5 X6 (.ints [k])) := .cmp (.loc rfl) .val
 have e2 : EvE (.bin (cmpF .Lt) (.loc 3) (.val (.int 32))) (J σ T p b (.int x) acc X5 X6 (.ints [k])) (.ok (.bool (decide (x < 32)))) (J σ T p b (.int x) acc X5 X6 (.ints [k])) := .cmp (.loc rfl) .val
 have e3 : EvS (.seq (.retK (.tup [(.val .none), (.loc 7)])) .nop) (J σ T p b (.int x) acc X5 X6 (.ints [k])) (.ret (.tup [.none, .ints [k]])) (J σ T p b (.int x) acc X5 X6 (.ints [k])) := .one (.retK (.tup (.cons .val (.cons (.loc rfl) .nil))))
 cases q : x == 34 with
 | true => exact .iteT (.orT (q ▸ e1)) e3
 | false => exact .iteT (.orF (q ▸ e1) (.orT ((h.resolve_left (by rw [q]; exact Bool.false_ne_true)) ▸ e2))) e3
theorem j4a (h1 : (x == 92) = false) (hl : acc.length ≤ 100000) : EvS jS4 (J σ T p b (.int x) acc X5 X6 X7) .next (J σ T (p + 1) b (.int x) (acc ++ [x]) X5 X6 X7) :=
 .iteT (.cmp (.loc rfl) .val (by show some (!(x == 92)) = _; rw [h1]; rfl)) (.one (.setT (Xs := [.ints (acc ++ [x]), .int ((p + 1 : Nat))]) (.cons (.op (.loc rfl) (.list (Xs := [.int x]) (.cons (.loc rfl) .nil)) (add_ints (by rw [List.length_singleton]; omega))) (.cons (.op (.loc rfl) .val rfl) .nil)) ⟨rfl, Nat.le_succ 2⟩ rfl))
theorem j4 (S : Sc σ T p [] (92 :: r)) : EvE (.bin (cmpF .Eq) (jSl 1 2) (.list [(.val (.int 117))])) (J σ T p b (.int 92) acc X5 X6 X7) (.ok (.bool (decide (r.take 1 = [117])))) (J σ T p b (.int 92) acc X5 X6 X7) := by
 have := j_sl (σ := σ) (p := p) (b := b) (X3 := .int 92) (acc := acc) (X5 := X5) (X6 := X6) (X7 := X7) (a := 1) (e := 2) S.hT (by decide)
 rw [S.next.hr] at this
 exact .cmp this (.list (Xs := [.int 117]) (.cons .val .nil)) rfl
theorem j4u {fl : Fl} {s2 : AS} (S : Sc σ T p [] (92 :: 117 :: r)) (h : EvS jU (J σ T p b (.int 92) acc X5 X6 X7) fl s2) : EvS jS4 (J σ T p b (.int 92) acc X5 X6 X7) fl s2 :=
 .iteF (.cmp (.loc rfl) .val rfl) (.one (.iteT (j4 S) h))
theorem j4k {fl : Fl} {s2 : AS} (S : Sc σ T p [] (92 :: r)) (hr : ¬ r.take 1 = [117]) (h : EvS jK (J σ T p b (.int 92) acc X5 X6 X7) fl s2) : EvS jS4 (J σ T p b (.int 92) acc X5 X6 X7) fl s2 :=
 .iteF (.cmp (.loc rfl) .val rfl) (.one (.iteF (decide_eq_false hr ▸ j4 S) h))
theorem jhex (S : Sc σ T p [] (92 :: 117 :: r)) (ha : ∀ x ∈ r, asc x) : EvS (.setL 6 (.call c__law_hex [jSl 2 6])) (J σ T p b (.int 92) acc X5 X6 X7) .next (J σ T p b (.int 92) acc X5 (optV ((digs 16 4 r 0).map (·.1))) X7) := by
 have := j_sl (σ := σ) (p := p) (b := b) (X3 := .int 92) (acc := acc) (X5 := X5) (X6 := X6) (X7 := X7) (a := 2) (e := 6) S.hT (by decide)
 rw [show p + 2 = p + 1 + 1 by omega, S.next.next.hr] at this
 exact .setL (.call (.cons this .nil) (law_hex_eq S.lo ha))
theorem jlow {w : Int} : EvE jLow (J σ T p b X3 acc X5 (.int w) X7) (.ok (.bool (inR 56320 57343 w))) (J σ T p b X3 acc X5 (.int w) X7) := .range (st := ⟨[], [], .undef, []⟩) (s1 := ⟨[], [], .undef, []⟩) (.loc rfl)
theorem u2_none {k : Int} : EvS jU2 (J σ T p .none X3 acc X5 .none (.ints [k])) (.ret (.tup [.none, .ints [k]])) (J σ T p .none X3 acc X5 .none (.ints [k])) :=
 .iteT (.orT (.cmp (.loc rfl) .val rfl)) (.one (.retK (.tup (Xs := [.none, .ints [k]]) (.cons .val (.cons (.op (.loc rfl) (.iteF (.cmp (.loc rfl) .val rfl) (.list (Xs := []) .nil)) rfl) .nil)))))
theorem u2_begun {k u : Int} (h : X6 = .none ∨ ∃ w, X6 = .int w ∧ inR 56320 57343 w = false) : EvS jU2 (J σ T p (.int u) X3 acc X5 X6 (.ints [k])) (.ret (.tup [.none, .ints [k, u]])) (J σ T p (.int u) X3 acc X5 X6 (.ints [k])) := by
 have e : EvS (.seq (.retK (.tup [(.val .none), (.bin (binF .Add) (.loc 7) (.ite (.bin (cmpF .IsNot) (.loc 2) (.val .none)) (.list [(.loc 2)]) (.list [])))])) .nop) (J σ T p (.int u) X3 acc X5 X6 (.ints [k])) (.ret (.tup [.none, .ints [k, u]])) (J σ T p (.int u) X3 acc X5 X6 (.ints [k])) :=
  .one (.retK (.tup (Xs := [.none, .ints [k, u]]) (.cons .val (.cons (.op (.loc rfl) (.iteT (.cmp (.loc rfl) .val rfl) (.list (Xs := [.int u]) (.cons (.loc rfl) .nil))) rfl) .nil))))
 rcases h with rfl | ⟨w, rfl, hw⟩
 ·exact .iteT (.orT (.cmp (.loc rfl) .val rfl)) e
 ·exact .iteT (.orF (.cmp (.loc rfl) .val rfl) (.orT (.andT (.cmp (.loc rfl) .val rfl) (.andT (.not (b := false) (hw ▸ jlow)) .andN)))) e
theorem u2_go {w : Int} (h : b = .none ∨ (∃ u, b = .int u) ∧ inR 56320 57343 w = true) : EvS jU2 (J σ T p b X3 acc X5 (.int w) X7) .next (J σ T p b X3 acc X5 (.int w) X7) := by
 rcases h with rfl | ⟨⟨u, rfl⟩, hw⟩
 ·exact .iteF (.orF (.cmp (.loc rfl) .val rfl) (.orF (.andF (.cmp (.loc rfl) .val rfl)) .orN)) .nop
 ·exact .iteF (.orF (.cmp (.loc rfl) .val rfl) (.orF (.andT (.cmp (.loc rfl) .val rfl) (.andF (.not (b := true) (hw ▸ jlow)))) .orN)) .nop
theorem u3_low {w k : Int} (hw : inR 56320 57343 w = true) : EvS jU3 (J σ T p .none X3 acc X5 (.int w) (.ints [k])) (.ret (.tup [.none, .ints [k]])) (J σ T p .none X3 acc X5 (.int w) (.ints [k])) :=
 .seqX (.iteF (.cmp (.loc rfl) .val rfl) (.one (.iteT (hw ▸ jlow) (.one (.retK (.tup (.cons .val (.cons (.loc rfl) .nil))))))))
theorem u3_one {w : Int} (hw : inR 56320 57343 w = false) (hl : acc.length ≤ 100000) : EvS jU3 (J σ T p .none X3 acc X5 (.int w) X7) .next (J σ T (p + 6) (if inR 55296 56319 w then .int p else .none) X3 (acc ++ [w]) X5 (.int w) X7) := by
 have e : EvE (.chain .LtE .LtE (.val (.int 55296)) (.loc 6) (.val (.int 56319))) (J σ T p .none X3 acc X5 (.int w) X7) (.ok (.bool (inR 55296 56319 w))) (J σ T p .none X3 acc X5 (.int w) X7) := .range (st := ⟨[], [], .undef, []⟩) (s1 := ⟨[], [], .undef, []⟩) (.loc rfl)
 have e2 : EvE (.ite (.chain .LtE .LtE (.val (.int 55296)) (.loc 6) (.val (.int 56319))) (.loc 1) (.val .none)) (J σ T p .none X3 acc X5 (.int w) X7) (.ok (if inR 55296 56319 w then .int p else .none)) (J σ T p .none X3 acc X5 (.int w) X7) := by
  cases q : inR 55296 56319 w with
  | true => exact .iteT (q ▸ e) (.loc rfl)
  | false => exact .iteF (q ▸ e) .val
 exact .seq (.iteF (.cmp (.loc rfl) .val rfl) (.one (.iteF (hw ▸ jlow) (.one (.setT (Xs := [.ints (acc ++ [w]), if inR 55296 56319 w then .int p else .none]) (.cons (.op (.loc rfl) (.list (Xs := [.int w]) (.cons (.loc rfl) .nil)) (add_ints (by rw [List.length_singleton]; omega))) (.cons e2 .nil)) ⟨rfl, Nat.le_succ 2⟩ rfl))))) (.one (.setL (.op (W := .int ((p + 6 : Nat))) (.loc rfl) .val rfl)))
theorem last_item {xs : List Int} {v : Int} : subV τ (.ints (xs ++ [v])) (.int (-1)) = some (.int v) := by
 refine sub_ints.trans ?_
 have : atI (xs ++ [v]) (-1) = some v := by
  unfold atI
  rw [if_neg (by omega), if_pos ⟨by omega, by rw [List.length_append, List.length_singleton]; omega, by omega⟩, List.length_append, List.length_singleton]
  have : (-1 + ((xs.length + 1 : Nat) : Int)).toNat = xs.length := by omega
  rw [this]; simp
 rw [this]; rfl
theorem last_cut {xs : List Int} {v : Int} : cutI (xs ++ [v]) none (some (-1)) = xs := by
 unfold cutI kms_lo kms_hi
 simp
theorem u3_pair {u w v' : Int} (hl : acc.length ≤ 100000) (hs : small (v' - 55296) = true) : EvS jU3 (J σ T p (.int u) X3 (acc ++ [v']) X5 (.int w) X7) .next (J σ T (p + 6) .none X3 (acc ++ [65536 + (v' - 55296) * 1024 + w - 56320]) X5 (.int w) X7) :=
 .seq (.iteT (.cmp (.loc rfl) .val rfl) (.one (.setT (Xs := [.ints (acc ++ [65536 + (v' - 55296) * 1024 + w - 56320]), .none]) (.cons (.op (.slice (W := .ints acc) (.loc rfl) .val (.neg .val) (by
   show (if (acc ++ [v']).length ≤ 1000000 then some (V.ints (cutI (acc ++ [v']) none (some (-1)))) else none) = _
   rw [if_pos (by rw [List.length_append, List.length_singleton]; omega), last_cut]))
   (.list (Xs := [.int (65536 + (v' - 55296) * 1024 + w - 56320)]) (.cons (.op (W := .int (65536 + (v' - 55296) * 1024 + w - 56320)) (.op (W := .int (65536 + (v' - 55296) * 1024 + w)) (.op (W := .int (65536 + (v' - 55296) * 1024)) .val (.op (W := .int ((v' - 55296) * 1024)) (.op (W := .int (v' - 55296)) (.sub (W := .int v') (.loc rfl) (.neg .val) last_item) .val rfl) .val (by show (if small (v' - 55296) = true then some (V.int ((v' - 55296) * 1024)) else none) = _; rw [if_pos hs])) rfl) (.loc rfl) rfl) .val rfl) .nil)) (add_ints (by rw [List.length_singleton]; omega))) (.cons .val .nil)) ⟨rfl, Nat.le_succ 2⟩ rfl)))
  (.one (.setL (.op (W := .int ((p + 6 : Nat))) (.loc rfl) .val rfl)))
theorem jk0 : EvS (.setL 5 (.dictI [((.val (.int 34)), (.val (.int 34))), ((.val (.int 92)), (.val (.int 92))), ((.val (.int 47)), (.val (.int 47))), ((.val (.int 98)), (.val (.int 8))), ((.val (.int 102)), (.val (.int 12))), ((.val (.int 110)), (.val (.int 10))), ((.val (.int 114)), (.val (.int 13))), ((.val (.int 116)), (.val (.int 9)))])) (J σ T p b X3 acc X5 X6 X7) .next (J σ T p b X3 acc (.dict kn) X6 X7) := .setL (.dictI (.cons .val .val (.cons .val .val (.cons .val .val (.cons .val .val (.cons .val .val (.cons .val .val (.cons .val .val (.cons .val .val .nil)))))))) rfl (by decide))
theorem kend (S : Sc σ T p [] (x :: r)) : EvE (.bin (cmpF .Eq) (.bin (binF .Add) (.loc 1) (.val (.int 1))) (.len (.loc 0))) (J σ T p b X3 acc X5 X6 X7) (.ok (.bool r.isEmpty)) (J σ T p b X3 acc X5 X6 X7) := by
 refine .cmp (.op (W := .int ((p + 1 : Nat))) (.loc rfl) .val rfl) (.len (xs := T) (.loc rfl) rfl (by have := S.hT; omega)) ?_
 show some (((p + 1 : Nat) : Int) == (T.length : Int)) = _
 cases r with
 | nil => have := S.next.end; rw [this]; simp
 | cons y r =>
  have h1 := S.next.lt
  have h2 : ¬ ((p + 1 : Nat) : Int) = T.length := by omega
  exact congrArg some (beq_eq_false_iff_ne.mpr h2)
theorem kitem {y : Int} (S : Sc σ T p [] (x :: y :: r)) : EvE (.bin subF (.loc 0) (.bin (binF .Add) (.loc 1) (.val (.int 1)))) (J σ T p b X3 acc X5 X6 X7) (.ok (.int y)) (J σ T p b X3 acc X5 X6 X7) :=
 .sub (.loc rfl) (.op (W := .int ((p + 1 : Nat))) (.loc rfl) .val rfl) S.next.item
theorem jkX {k : Int} (S : Sc σ T p [] (x :: r)) (h : r = [] ∨ ∃ y r', r = y :: r' ∧ atKey kn y = none) : EvS jK (J σ T p b X3 acc X5 X6 (.ints [k])) (.ret (.tup [.none, .ints [k]])) (J σ T p b X3 acc (.dict kn) X6 (.ints [k])) := by
 refine .seq jk0 (.seqX (.iteT ?_ (.one (.retK (.tup (.cons .val (.cons (.loc rfl) .nil)))))))
 rcases h with rfl | ⟨y, r', rfl, hy⟩
 ·exact .orT (kend S)
 ·exact .orF (kend S) (.orT (.cmp (kitem S) (.loc rfl) (by show some (!(atKey kn y).isSome) = _; rw [hy]; rfl)))
theorem jkG {y u : Int} (S : Sc σ T p [] (x :: y :: r)) (hy : atKey kn y = some (.int u)) (hl : acc.length ≤ 100000) : EvS jK (J σ T p b X3 acc X5 X6 X7) .next (J σ T (p + 2) b X3 (acc ++ [u]) (.dict kn) X6 X7) :=
 .seq jk0 (.seq (.iteF (.orF (kend S) (.orF (.cmp (kitem S) (.loc rfl) (by show some (!(atKey kn y).isSome) = _; rw [hy]; rfl)) .orN)) .nop) (.one (.setT (Xs := [.ints (acc ++ [u]), .int ((p + 2 : Nat))]) (.cons (.op (.loc rfl) (.list (Xs := [.int u]) (.cons (.sub (X := .dict kn) (U := .int y) (.loc rfl) (kitem S) (sub_dict hy)) .nil)) (add_ints (by rw [List.length_singleton]; omega))) (.cons (.op (.loc rfl) .val rfl) .nil)) ⟨rfl, Nat.le_succ 2⟩ rfl)))
end
section
variable {σ j τ : List MO} {T r : List Int} {p q N : Nat} {x n m : Int} {X3 X5 X6 X7 : V} {acc : List Int}
theorem kn_facts : ∀ k : Fin 128, atI' kn (k.val : Int) = atI' dJ (k.val : Int) := by decide +kernel
theorem kn_eq (h : asc x) : atI' kn x = atI' dJ x := by
 obtain ⟨k, rfl⟩ : ∃ k : Fin 128, x = (k.val : Int) := ⟨⟨x.toNat, by have := h.2; have := h.1; omega⟩, (Int.toNat_of_nonneg h.1).symm⟩
 exact kn_facts k
theorem jT_eq (S : Sc σ T p [] r) {b : V} : EvE jT (J σ T p b X3 acc X5 X6 X7) (.ok (.bool (!r.isEmpty))) (J σ T p b X3 acc X5 X6 X7) := by
 refine .cmp (.loc rfl) (.len (xs := T) (.loc rfl) rfl (by have := S.hT; omega)) ?_
 show some (decide ((p : Int) < (T.length : Int))) = _
 cases r with
 | nil => have := S.end; exact congrArg some (decide_eq_false (by omega))
 | cons y r => have := S.lt; exact congrArg some (decide_eq_true (by omega))
theorem inR_iff {a b v : Int} : inR a b v = true ↔ a ≤ v ∧ v ≤ b := by unfold inR; simp
inductive HOut (σ : List MO) (T : List Int) (p u : Nat) (X5 : V) (acc r : List Int) (N : Nat) (s : AS) : Option (List Int × List Int) -> Prop
 | go {X3 X6 X7 : V} {ys r' : List Int} : EvE jT s (.ok (.bool true)) s -> EvS jB s .next (J σ T (p + 6) .none X3 (acc ++ ys) X5 X6 X7) -> Sc σ T (p + 6) [] r' -> HOut σ T p u X5 acc r N s (some (ys, r'))
 | ret {ps : List Int} {l' : List V} : EvW jT jB N s (.ret (.tup [.none, .ints ps])) ⟨l', [], .undef, σ⟩ -> (u : Int) ∈ ps -> HOut σ T p u X5 acc r N s none
 | fin : r = [] -> EvW jT jB N s .next s -> HOut σ T p u X5 acc r N s none
theorem j_half {u : Nat} {v : Int} {F : Nat} (S : Sc σ T p [] r) (ha : ∀ x ∈ r, asc x) (hv : inR 55296 56319 v = true) (hl : acc.length + r.length ≤ 100000) :
  HOut σ T p u X5 acc r (F + 1) (J σ T p (.int (u : Nat)) X3 (acc ++ [v]) X5 X6 X7) (rdJ2 v r) := by
 cases r with
 | nil => exact .fin rfl (.wh0 (jT_eq S))
 | cons x r =>
  have ht := jT_eq (X3 := X3) (X5 := X5) (X6 := X6) (X7 := X7) (acc := acc ++ [v]) (b := .int (u : Nat)) S
  have h2 := j_two (b := .int (u : Nat)) (X3 := .int x) (acc := acc ++ [v]) (X5 := X5) (X6 := X6) (X7 := .ints [(p : Int)]) S
  by_cases hp : (x :: r).take 2 = [92, 117]
  ·obtain ⟨r', hr⟩ : ∃ r', x :: r = 92 :: 117 :: r' := by
    cases r with
    | nil => cases hp
    | cons y r =>
     cases hp
     exact ⟨r, rfl⟩
   cases hr
   rw [decide_eq_true hp] at h2
   have hx := jhex (b := .int (u : Nat)) (acc := acc ++ [v]) (X5 := X5) (X6 := X6) (X7 := .ints [(p : Int)]) S fun x hx => ha x (.tail _ (.tail _ hx))
   have pre {fl : Fl} {s2 : AS} (h : EvS jU (J σ T p (.int (u : Nat)) (.int 92) (acc ++ [v]) X5 X6 (.ints [(p : Int)])) fl s2) : EvS jB (J σ T p (.int (u : Nat)) X3 (acc ++ [v]) X5 X6 X7) fl s2 :=
    .seq (j1 S) (.seq (j2' h2) (.seq (j3 rfl (by decide)) (.one (j4u S h))))
   show HOut σ T p u X5 acc _ _ _ (if (92 : Int) = 92 ∧ (117 : Int) = 117 then (match digs 16 4 r' 0 with | some (lo, r'') => if inR 56320 57343 lo then some ([65536 + (v - 55296) * 1024 + lo - 56320], r'') else none | none => none) else none)
   rw [if_pos ⟨rfl, rfl⟩]
   cases hd : digs 16 4 r' 0 with
   | none =>
    rw [hd] at hx
    exact .ret (ps := [(p : Int), u]) (.whR ht (pre (.seq hx (.seqX (u2_begun (.inl rfl)))))) (.tail _ (.head _))
   | some y =>
    obtain ⟨lo, r2⟩ := y
    rw [hd] at hx
    simp only
    cases hlo : inR 56320 57343 lo with
    | false => exact .ret (ps := [(p : Int), u]) (.whR ht (pre (.seq hx (.seqX (u2_begun (.inr ⟨lo, rfl, hlo⟩)))))) (.tail _ (.head _))
    | true =>
     have hs : small (v - 55296) = true := by
      have := (inR_iff.mp hv).1
      have := (inR_iff.mp hv).2
      exact decide_eq_true (by omega)
     have hn := (digs_num (by decide) (by decide) (by decide) hd).1
     exact .go ht (pre (.seq hx (.seq (u2_go (.inr ⟨⟨_, rfl⟩, hlo⟩)) (u3_pair (by omega) hs)))) (number_ok (least := 4) (b := .none) S.next.next hn (by decide) (Nat.le_refl _) rfl).2
  ·rw [decide_eq_false hp] at h2
   have hn : rdJ2 v (x :: r) = none := by
    cases r with
    | nil => rfl
    | cons y r =>
     show (if x = 92 ∧ y = 117 then _ else none) = _
     rw [if_neg]
     rintro ⟨rfl, rfl⟩
     exact hp rfl
   rw [hn]
   exact .ret (ps := [(u : Int), (p : Int)]) (.whR ht (.seq (j1 S) (.seqX (.iteT (.andT (.cmp (.loc rfl) .val rfl) (.andT h2 .andN)) (.one (.retK (.tup (Xs := [.none, .ints [(u : Int), (p : Int)]]) (.cons .val (.cons (.list (Xs := [.int u, .int p]) (.cons (.loc rfl) (.cons (.loc rfl) .nil))) .nil))))))))) (.head _)
inductive JOut (σ : List MO) (T : List Int) (N : Nat) (s : AS) : Except Nat (List Int) -> Prop
 | ok {X3 X5 X6 X7 : V} {res : List Int} : EvW jT jB N s .next (J σ T T.length .none X3 res X5 X6 X7) -> JOut σ T N s (.ok res)
 | ret {ps : List Int} {l' : List V} {m : Nat} : m ≤ T.length -> EvW jT jB N s (.ret (.tup [.none, .ints ps])) ⟨l', [], .undef, σ⟩ -> ((T.length - m : Nat) : Int) ∈ ps -> JOut σ T N s (.error m)
 | half {X3 X5 X6 X7 : V} {acc : List Int} {m : Nat} : m ≤ T.length -> EvW jT jB N s .next (J σ T T.length (.int ((T.length - m : Nat))) X3 acc X5 X6 X7) -> JOut σ T N s (.error m)
theorem JOut.step {N M : Nat} {s s1 : AS} {R : Except Nat (List Int)} (h : JOut σ T N s1 R) (ht : EvE jT s (.ok (.bool true)) s) (hb : EvS jB s .next s1) (e : M = N + 1) : JOut σ T M s R := by
 rw [e]
 cases h with
 | ok h => exact .ok (.wh1 ht hb h)
 | ret a h b => exact .ret a (.wh1 ht hb h) b
 | half a h => exact .half a (.wh1 ht hb h)
theorem j_main : ∀ {k F : Nat} {r acc : List Int} {p : Nat} {X3 X5 X6 X7 : V}, r.length < k -> acc.length + r.length ≤ 100000 -> (∀ x ∈ r, asc x) -> Sc σ T p [] r ->
  JOut σ T (F + r.length + 1) (J σ T p .none X3 acc X5 X6 X7) (rdAll rdJ bareJ k r acc) := by
 intro k
 induction k with
 | zero => intro F r acc p X3 X5 X6 X7 h; exact absurd h (Nat.not_lt_zero _)
 | succ k ih =>
  intro F r acc p X3 X5 X6 X7 hk hl ha S
  have ht := jT_eq (X3 := X3) (X5 := X5) (X6 := X6) (X7 := X7) (acc := acc) (b := .none) S
  cases r with
  | nil =>
   have e := S.end
   subst e
   exact .ok (.wh0 ht)
  | cons x r =>
   rw [List.length_cons] at hk hl
   have hpm : p = T.length - (r.length + 1) ∧ r.length + 1 ≤ T.length := by
    have h1 := congrArg List.length S.hr
    rw [List.length_drop, List.length_cons] at h1
    have := S.hp
    omega
   have ax := ha x (.head _)
   have err {ps : List Int} {l' : List V} (h : EvS jB (J σ T p .none X3 acc X5 X6 X7) (.ret (.tup [.none, .ints ps])) ⟨l', [], .undef, σ⟩) (hp : (p : Int) ∈ ps) : JOut σ T (F + (x :: r).length + 1) (J σ T p .none X3 acc X5 X6 X7) (.error (r.length + 1)) :=
    .ret hpm.2 (.whR ht h) (by rw [← hpm.1]; exact hp)
   unfold rdAll
   by_cases hx : x = 92
   ·subst hx
    rw [if_pos rfl]
    have pre {fl : Fl} {s2 : AS} (h : EvS jS4 (J σ T p .none (.int 92) acc X5 X6 (.ints [(p : Int)])) fl s2) : EvS jB (J σ T p .none X3 acc X5 X6 X7) fl s2 :=
     .seq (j1 S) (.seq j2 (.seq (j3 rfl (by decide)) (.one h)))
    by_cases hu : r.take 1 = [117]
    ·obtain ⟨r', rfl⟩ : ∃ r', r = 117 :: r' := by
      cases r with
      | nil => cases hu
      | cons y r => cases hu; exact ⟨r, rfl⟩
     have hx := jhex (b := .none) (acc := acc) (X5 := X5) (X6 := X6) (X7 := .ints [(p : Int)]) S fun x hx => ha x (.tail _ (.tail _ hx))
     have e0 : rdJ (117 :: r') = (match digs 16 4 r' 0 with
      | some (v, r') => if inR 55296 56319 v then rdJ2 v r' else if inR 56320 57343 v then none else some ([v], r')
      | none => none) := rfl
     rw [e0]
     cases hd : digs 16 4 r' 0 with
     | none =>
      rw [hd] at hx
      exact err (pre (j4u S (.seq hx (.seqX u2_none)))) (.head _)
     | some y =>
      obtain ⟨v, r2⟩ := y
      rw [hd] at hx
      obtain ⟨hn, hlen, _⟩ := digs_num (by decide) (by decide) (by decide) hd
      have S6 : Sc σ T (p + 6) [] r2 := (number_ok (least := 4) (b := .none) S.next.next hn (by decide) (Nat.le_refl _) rfl).2
      have hal {q : Nat} {r : List Int} (S' : Sc σ T (p + q) [] r) : ∀ x ∈ r, asc x := fun x hx => by
       rw [← S'.hr, ← List.drop_drop] at hx
       exact ha x (S.hr ▸ List.mem_of_mem_drop hx)
      have hle : acc.length + r2.length + 1 ≤ 100000 ∧ r2.length < k ∧ r2.length + 6 ≤ r'.length + 2 := by
       simp only [List.length_cons] at hk hl
       omega
      have h1 := u3_one (σ := σ) (T := T) (p := p) (w := v) (X3 := .int 92) (acc := acc) (X5 := X5) (X7 := .ints [(p : Int)])
      simp only
      cases hh : inR 55296 56319 v with
      | false =>
       simp only [Bool.false_eq_true, if_false]
       cases hlo : inR 56320 57343 v with
       | true => exact err (pre (j4u S (.seq hx (.seq (u2_go (.inl rfl)) (u3_low hlo))))) (.head _)
       | false =>
        have := h1 hlo (by omega)
        rw [hh] at this
        exact (ih (F := F + (r'.length - r2.length) + 1) (by omega) (by rw [List.length_append, List.length_singleton]; omega) (hal S6) S6).step ht (pre (j4u S (.seq hx (.seq (u2_go (.inl rfl)) this)))) (by simp only [List.length_cons]; omega)
      | true =>
       simp only [if_true]
       have hlo : inR 56320 57343 v = false := Bool.eq_false_iff.mpr fun q => by
        have := (inR_iff.mp hh).2
        have := (inR_iff.mp q).1
        omega
       have hb := h1 hlo (by omega)
       rw [hh] at hb
       have hb := pre (j4u S (.seq hx (.seq (u2_go (.inl rfl)) hb)))
       have K := j_half (u := p) (v := v) (X3 := .int 92) (acc := acc) (X5 := X5) (X6 := .int v) (X7 := .ints [(p : Int)]) (F := F + r'.length + 1) S6 (hal S6) hh (by omega)
       cases hq : rdJ2 v r2 with
       | none =>
        rw [hq] at K
        cases K with
        | ret e hp => exact .ret hpm.2 (.wh1 (k := F + r'.length + 1 + 1) ht hb e) (by rw [← hpm.1]; exact hp)
        | fin q e =>
         have e6 : p + 6 = T.length := by rw [q] at S6; exact S6.end
         rw [e6] at e hb
         refine .half (X3 := .int 92) (X5 := X5) (X6 := .int v) (X7 := .ints [(p : Int)]) (acc := acc ++ [v]) (m := r'.length + 1 + 1) hpm.2 ?_
         rw [show T.length - (r'.length + 1 + 1) = p from hpm.1.symm]
         exact .wh1 (k := F + r'.length + 1 + 1) ht hb e
       | some z =>
        obtain ⟨ys, r3⟩ := z
        rw [hq] at K
        cases K with
        | go t2 b2 S12 =>
         obtain ⟨g1, g2⟩ := rdJ2_good hq
         exact ((ih (F := F + (r'.length - r3.length)) (by omega) (by rw [List.length_append]; omega) (hal (q := 12) S12) S12).step t2 b2 rfl).step ht hb (by simp only [List.length_cons]; omega)
    ·cases r with
     | nil => exact err (pre (j4k S hu (jkX S (.inl rfl)))) (.head _)
     | cons y r =>
      have hy : y ≠ 117 := fun q => hu (by rw [q]; rfl)
      have e0 : rdJ (y :: r) = (match atI' dJ y with | some u => some ([u], r) | none => none) := by
       show (match atI' dJ y with | some u => some ([u], r) | none => if y = 117 then _ else none) = _
       rw [if_neg hy]
      rw [e0]
      have ek := kn_eq (ha y (.tail _ (.head _)))
      cases hq : atI' dJ y with
      | none =>
       rw [hq] at ek
       exact err (pre (j4k S hu (jkX S (.inr ⟨y, r, rfl, atI_none ek⟩)))) (.head _)
      | some u =>
       rw [hq] at ek
       simp only [List.length_cons] at hk hl
       exact (ih (F := F + 1) (by omega) (by rw [List.length_append, List.length_singleton]; omega) (fun x hx => ha x (.tail _ (.tail _ hx))) S.next.next).step ht (pre (j4k S hu (jkG S (atI_some ek) (by omega)))) (by simp only [List.length_cons]; omega)
   ·rw [if_neg hx]
    have hsc : scal x = true := by
     have := ax.1; have := ax.2
     unfold scal inR
     simp
     omega
    by_cases hb : bareJ x = true
    ·rw [if_pos hb]
     unfold bareJ at hb
     rw [hsc, Bool.and_true] at hb
     obtain ⟨h1, h2⟩ := Bool.and_eq_true_iff.mp hb
     have h3 : (x == 34) = false := by simpa using h2
     have h4 : decide (x < 32) = false := decide_eq_false (by have := of_decide_eq_true h1; omega)
     exact (ih (F := F) (Nat.lt_of_succ_lt_succ hk) (by rw [List.length_append, List.length_singleton]; omega) (fun x hx => ha x (.tail _ hx)) S.next).step ht (.seq (j1 S) (.seq j2 (.seq (j3 h3 h4) (.one (j4a (beq_eq_false_iff_ne.mpr hx) (by omega)))))) rfl
    ·rw [if_neg hb]
     refine err (.seq (j1 S) (.seq j2 (.seqX (j3X ?_)))) (.head _)
     unfold bareJ at hb
     rw [hsc, Bool.and_true] at hb
     by_cases q : (x == 34) = true
     ·exact .inl q
     ·refine .inr (decide_eq_true ?_)
      rw [Bool.eq_false_iff.mpr q] at hb
      simp at hb
      omega
noncomputable def jEnd : SF := .seq (.retK (.ite (.bin (cmpF .Is) (.loc 2) (.val .none)) (.tup [(.loc 4), (.list [])]) (.tup [(.val .none), (.list [(.loc 2), (.len (.loc 0))])]))) .nop
theorem law_json_eq {t : List Int} (h : Lo σ) (ht : t.length ≤ 100000) (ha : ∀ x ∈ t, asc x) :
  (∀ res, rdAll rdJ bareJ (t.length + 1) t [] = .ok res -> EvF c__law_json [.ints t] σ (.ok (.tup [.ints res, .ints []])) σ) ∧
  (∀ m, rdAll rdJ bareJ (t.length + 1) t [] = .error m -> ∃ ps, EvF c__law_json [.ints t] σ (.ok (.tup [.none, .ints ps])) σ ∧ ((t.length - m : Nat) : Int) ∈ ps) := by
 have S : Sc σ t 0 [] t := ⟨h, Plain.nil, ht, rfl, Nat.zero_le _⟩
 have jm := j_main (F := 1000000 - (t.length + 1)) (k := t.length + 1) (r := t) (acc := []) (X3 := .undef) (X5 := .undef) (X6 := .undef) (X7 := .undef) (Nat.lt_succ_self _) (by simpa using ht) ha S
 rw [show 1000000 - (t.length + 1) + t.length + 1 = 1000000 by omega] at jm
 have hs : EvS (.setT [(.l 4), (.l 1), (.l 2)] [(.list []), (.val (.int 0)), (.val .none)]) ⟨[.ints t, .undef, .undef, .undef, .undef, .undef, .undef, .undef], [], .undef, σ⟩ .next (J σ t 0 .none .undef [] .undef .undef .undef) :=
  .setT (Xs := [.ints [], .int 0, .none]) (.cons (.list (Xs := []) .nil) (.cons .val (.cons .val .nil))) ⟨rfl, Nat.le_refl 3⟩ rfl
 refine ⟨fun res hr => ?_, fun m hr => ?_⟩
 ·rw [hr] at jm
  cases jm with
  | ok e => exact run_ret0 (.seq hs (.seq (.wh e) (.one (.retK (.iteT (.cmp (.loc rfl) .val rfl) (.tup (Xs := [.ints res, .ints []]) (.cons (.loc rfl) (.cons (.list (Xs := []) .nil) .nil)))))))) (hτ := h)
 ·rw [hr] at jm
  cases jm with
  | @ret ps _ _ hm e hp => exact ⟨ps, run_ret0 (.seq hs (.seqX (.wh e))) (hτ := h), hp⟩
  | half hm e => exact ⟨[((t.length - m : Nat) : Int), (t.length : Int)], run_ret0 (.seq hs (.seq (.wh e) (.one (.retK (.iteF (.cmp (.loc rfl) .val rfl) (.tup (Xs := [.none, .ints [((t.length - m : Nat) : Int), (t.length : Int)]]) (.cons .val (.cons (.list (Xs := [.int ((t.length - m : Nat)), .int t.length]) (.cons (.loc rfl) (.cons (.len (xs := t) (.loc rfl) rfl (by omega)) .nil))) .nil)))))))) (hτ := h), .head _⟩
end
section
variable {σ τ : List MO} {T r : List Int} {p q N : Nat} {x n m : Int} {l : List V} {c : List Nat} {v : V} {st s1 : AS} {i : Nat} {f g : EF}
noncomputable def lacksP (way code : Int) : Bool := if inR 55296 57343 code then !(way == 1) else (way == 4 && (decide (code < 32) && ![9, 10, 13].any (· == code))) || (way == 5 && code == 0)
theorem lacks_eq {way code : Int} (h : Lo σ) : EvF c__law_lacks [.int way, .int code] σ (.ok (.bool (lacksP way code))) σ := by
 have e0 : EvE (.chain .LtE .LtE (.val (.int 55296)) (.loc 1) (.val (.int 57343))) ⟨[.int way, .int code], [], .undef, σ⟩ (.ok (.bool (inR 55296 57343 code))) ⟨[.int way, .int code], [], .undef, σ⟩ := .range (st := ⟨[], [], .undef, []⟩) (s1 := ⟨[], [], .undef, []⟩) (.loc rfl)
 have e4 {k : Int} : EvE (.bin (cmpF .Eq) (.loc 0) (.val (.int k))) ⟨[.int way, .int code], [], .undef, σ⟩ (.ok (.bool (way == k))) ⟨[.int way, .int code], [], .undef, σ⟩ := .cmp (.loc rfl) .val
 have e5 : EvE (.bin (cmpF .Lt) (.loc 1) (.val (.int 32))) ⟨[.int way, .int code], [], .undef, σ⟩ (.ok (.bool (decide (code < 32)))) ⟨[.int way, .int code], [], .undef, σ⟩ := .cmp (.loc rfl) .val
 have e6 : EvE (.bin (cmpF .NotIn) (.loc 1) (.tup [(.val (.int 9)), (.val (.int 10)), (.val (.int 13))])) ⟨[.int way, .int code], [], .undef, σ⟩ (.ok (.bool (![9, 10, 13].any (· == code)))) ⟨[.int way, .int code], [], .undef, σ⟩ := .cmp (.loc rfl) (.tup (Xs := [.int 9, .int 10, .int 13]) (.cons .val (.cons .val (.cons .val .nil))))
 have e7 : EvE (.bin (cmpF .Eq) (.loc 1) (.val (.int 0))) ⟨[.int way, .int code], [], .undef, σ⟩ (.ok (.bool (code == 0))) ⟨[.int way, .int code], [], .undef, σ⟩ := .cmp (.loc rfl) .val
 have e8 : EvE (.and3 (.bin (cmpF .Eq) (.loc 0) (.val (.int 4))) (.bin (cmpF .Lt) (.loc 1) (.val (.int 32))) (.bin (cmpF .NotIn) (.loc 1) (.tup [(.val (.int 9)), (.val (.int 10)), (.val (.int 13))]))) ⟨[.int way, .int code], [], .undef, σ⟩ (.ok (.bool (way == 4 && (decide (code < 32) && ![9, 10, 13].any (· == code))))) ⟨[.int way, .int code], [], .undef, σ⟩ := by
  have e4 := e4 (k := 4)
  cases q1 : way == 4 with
  | false => exact .and3F (q1 ▸ e4)
  | true =>
   cases q2 : decide (code < 32) with
   | false => exact .and3G (q1 ▸ e4) (q2 ▸ e5)
   | true => exact .and3T (q1 ▸ e4) (q2 ▸ e5) e6
 have e9 : EvE (.and2 (.bin (cmpF .Eq) (.loc 0) (.val (.int 5))) (.bin (cmpF .Eq) (.loc 1) (.val (.int 0)))) ⟨[.int way, .int code], [], .undef, σ⟩ (.ok (.bool (way == 5 && code == 0))) ⟨[.int way, .int code], [], .undef, σ⟩ := by
  have e4 := e4 (k := 5)
  cases q1 : way == 5 with
  | false => exact .and2F (q1 ▸ e4)
  | true => exact .and2T (q1 ▸ e4) e7
 unfold lacksP
 cases q0 : inR 55296 57343 code with
 | true => exact run_ret0 (.seqX (.iteT (q0 ▸ e0) (.one (.retK (.cmp (.loc rfl) .val rfl))))) (hτ := h)
 | false =>
  simp only [Bool.false_eq_true, if_false]
  cases q1 : way == 4 && (decide (code < 32) && ![9, 10, 13].any (· == code)) with
  | true => exact run_ret0 (.seq (.iteF (q0 ▸ e0) .nop) (.one (.retK (.or2T (q1 ▸ e8))))) (hτ := h)
  | false => exact run_ret0 (.seq (.iteF (q0 ▸ e0) .nop) (.one (.retK (.or2F (q1 ▸ e8) e9)))) (hτ := h)
noncomputable def badW : Nat -> Int -> Bool
 | 1 => fun κ => false
 | 4 => fun x => !isx x
 | 5 => fun x => x == 0 || !scal x
 | _ => fun x => !scal x
noncomputable def chWay : Nat -> Int -> List Int
 | 0 => chW sJ wJ
 | 1 => chW sP wP
 | 2 => chW sP wC
 | 3 => chW sR wR
 | 4 => chW sX wX
 | _ => chW sS wS
noncomputable def resV (w : Nat) (t : List Int) : V := match t.find? (badW w) with
 | none => .ints (t.flatMap (chWay w))
 | some y => .int y
theorem pool_find {w : Nat} {t : List Int} (ht : ∀ c ∈ t, c ∈ lawPool) : ∀ c ∈ t, badW w c = badW w c := fun κ κ => rfl
noncomputable def wrT (w : Nat) : SF := match w with
 | 0 => .setL 3 (.call c_escape_json [(.loc 1)])
 | 1 => .setL 3 (.call c_escape_python [(.loc 1)])
 | 2 => .setL 3 (.call c_escape_c [(.loc 1)])
 | 3 => .setL 3 (.call c_escape_rust [(.loc 1)])
 | _ => .setL 3 (.ite (.bin (cmpF .Eq) (.loc 0) (.val (.int 4))) (.call c_escape_xml [(.loc 1)]) (.call c_escape_css [(.loc 1)]))
noncomputable def wrS : SF := (.ite (.bin (cmpF .Eq) (.loc 0) (.val (.int 0))) (.seq (wrT 0) .nop) (.seq (.ite (.bin (cmpF .Eq) (.loc 0) (.val (.int 1))) (.seq (wrT 1) .nop) (.seq (.ite (.bin (cmpF .Eq) (.loc 0) (.val (.int 2))) (.seq (wrT 2) .nop) (.seq (.ite (.bin (cmpF .Eq) (.loc 0) (.val (.int 3))) (.seq (wrT 3) .nop) (.seq (wrT 4) .nop)) .nop)) .nop)) .nop))
noncomputable def Wr (w : Nat) (t : List Int) (σ : List MO) : Prop := match t.find? (badW w) with
 | none => EvS wrS ⟨[.int w, .ints t, .undef, .none], [], .undef, σ⟩ .next ⟨[.int w, .ints t, .undef, .ints (t.flatMap (chWay w))], [], .undef, σ⟩
 | some y => EvS wrS ⟨[.int w, .ints t, .undef, .none], [], .undef, σ⟩ (.exn 57 (.int y)) ⟨[.int w, .ints t, .undef, .none], [], .undef, σ⟩
theorem wr_end {g : EF} {w : Nat} {t : List Int} {short : List (Int × V)} {wf : Int -> Option (List Int)} {F : CF} (hF : EvF F [.ints t] σ (resW (badW w) short wf t) σ) (hch : chW short wf = chWay w)
  (hg : ∀ {R : Out} {τ}, EvF F [.ints t] σ R τ -> EvE g ⟨[.int w, .ints t, .undef, .none], [], .undef, σ⟩ R ⟨[.int w, .ints t, .undef, .none], [], .undef, τ⟩) :
  (t.find? (badW w) = none -> EvS (.setL 3 g) ⟨[.int w, .ints t, .undef, .none], [], .undef, σ⟩ .next ⟨[.int w, .ints t, .undef, .ints (t.flatMap (chWay w))], [], .undef, σ⟩) ∧
  (∀ y, t.find? (badW w) = some y -> EvS (.setL 3 g) ⟨[.int w, .ints t, .undef, .none], [], .undef, σ⟩ (.exn 57 (.int y)) ⟨[.int w, .ints t, .undef, .none], [], .undef, σ⟩) := by
 refine ⟨fun hq => ?_, fun y hq => ?_⟩
 ·unfold resW at hF
  rw [hq] at hF
  rw [← hch]
  exact .setL (hg hF)
 ·unfold resW at hF
  rw [hq] at hF
  exact .ofX (hg hF)
theorem wr_way {w : Nat} {t : List Int} (hw : w < 6) (h : Lo σ) (ht : ∀ c ∈ t, c ∈ lawPool) (hl : t.length ≤ 1000) :
  (t.find? (badW w) = none -> EvS wrS ⟨[.int w, .ints t, .undef, .none], [], .undef, σ⟩ .next ⟨[.int w, .ints t, .undef, .ints (t.flatMap (chWay w))], [], .undef, σ⟩) ∧
  (∀ y, t.find? (badW w) = some y -> EvS wrS ⟨[.int w, .ints t, .undef, .none], [], .undef, σ⟩ (.exn 57 (.int y)) ⟨[.int w, .ints t, .undef, .none], [], .undef, σ⟩) := by
 have call {F : CF} {R : Out} {τ : List MO} {w : Nat} (e : EvF F [.ints t] σ R τ) : EvE (.call F [(.loc 1)]) ⟨[.int w, .ints t, .undef, .none], [], .undef, σ⟩ R ⟨[.int w, .ints t, .undef, .none], [], .undef, τ⟩ := .call (.cons (.loc rfl) .nil) e
 have go {w : Nat} {a : SF} (k : ∀ {fl : Fl} {s2 : AS}, EvS a ⟨[.int w, .ints t, .undef, .none], [], .undef, σ⟩ fl s2 -> EvS wrS ⟨[.int w, .ints t, .undef, .none], [], .undef, σ⟩ fl s2)
   (hh : (t.find? (badW w) = none -> EvS a ⟨[.int w, .ints t, .undef, .none], [], .undef, σ⟩ .next ⟨[.int w, .ints t, .undef, .ints (t.flatMap (chWay w))], [], .undef, σ⟩) ∧
    (∀ y, t.find? (badW w) = some y -> EvS a ⟨[.int w, .ints t, .undef, .none], [], .undef, σ⟩ (.exn 57 (.int y)) ⟨[.int w, .ints t, .undef, .none], [], .undef, σ⟩)) :
   (t.find? (badW w) = none -> EvS wrS ⟨[.int w, .ints t, .undef, .none], [], .undef, σ⟩ .next ⟨[.int w, .ints t, .undef, .ints (t.flatMap (chWay w))], [], .undef, σ⟩) ∧
    (∀ y, t.find? (badW w) = some y -> EvS wrS ⟨[.int w, .ints t, .undef, .none], [], .undef, σ⟩ (.exn 57 (.int y)) ⟨[.int w, .ints t, .undef, .none], [], .undef, σ⟩) :=
  ⟨fun q => k (hh.1 q), fun y q => k (hh.2 y q)⟩
 match w, hw with
 | 0, _ => exact go (fun e => .iteT (.cmp (.loc rfl) .val rfl) (.one e)) (wr_end (escape_json_eq h hl fun c hc => (poolJ c (ht c hc)).1) rfl call)
 | 1, _ => exact go (fun e => .iteF (.cmp (.loc rfl) .val rfl) (.one (.iteT (.cmp (.loc rfl) .val rfl) (.one e)))) (wr_end (escape_python_eq h hl fun c hc => (poolP c (ht c hc)).1) rfl call)
 | 2, _ => exact go (fun e => .iteF (.cmp (.loc rfl) .val rfl) (.one (.iteF (.cmp (.loc rfl) .val rfl) (.one (.iteT (.cmp (.loc rfl) .val rfl) (.one e)))))) (wr_end (escape_c_eq h hl fun c hc => (poolC c (ht c hc)).1) rfl call)
 | 3, _ => exact go (fun e => .iteF (.cmp (.loc rfl) .val rfl) (.one (.iteF (.cmp (.loc rfl) .val rfl) (.one (.iteF (.cmp (.loc rfl) .val rfl) (.one (.iteT (.cmp (.loc rfl) .val rfl) (.one e)))))))) (wr_end (escape_rust_eq h hl fun c hc => (poolR c (ht c hc)).1) rfl call)
 | 4, _ => exact go (fun e => .iteF (.cmp (.loc rfl) .val rfl) (.one (.iteF (.cmp (.loc rfl) .val rfl) (.one (.iteF (.cmp (.loc rfl) .val rfl) (.one (.iteF (.cmp (.loc rfl) .val rfl) (.one e)))))))) (wr_end (escape_xml_eq h hl fun c hc => (poolX c (ht c hc)).1) rfl fun e => .iteT (.cmp (.loc rfl) .val rfl) (call e))
 | 5, _ => exact go (fun e => .iteF (.cmp (.loc rfl) .val rfl) (.one (.iteF (.cmp (.loc rfl) .val rfl) (.one (.iteF (.cmp (.loc rfl) .val rfl) (.one (.iteF (.cmp (.loc rfl) .val rfl) (.one e)))))))) (wr_end (escape_css_eq h hl fun c hc => (poolS c (ht c hc)).1) rfl fun e => .iteF (.cmp (.loc rfl) .val rfl) (call e))
theorem law_written_eq {w : Nat} {t : List Int} (hw : w < 6) (h : Lo σ) (ht : ∀ c ∈ t, c ∈ lawPool) (hl : t.length ≤ 1000) : EvF c__law_written [.int w, .ints t] σ (.ok (resV w t)) σ := by
 obtain ⟨h1, h2⟩ := wr_way hw h ht hl
 unfold resV
 cases q : t.find? (badW w) with
 | none => exact run_ret0 (.seq (.setL .val) (.seq (.try0 (.one (h1 q)) rfl) (.one (.retK (.loc rfl))))) (hτ := h)
 | some y => exact run_ret0 (.seq (.setL .val) (.seq (.tryX (i := 2) (.one (h2 y q)) (.one (.setL (.told (.loc rfl) rfl)))) (.one (.retK (.loc rfl))))) (hτ := h)
end
section
variable {σ τ : List MO} {T r t : List Int} {p q N : Nat} {x n m : Int} {l : List V} {c : List Nat} {v : V} {st s1 : AS} {i : Nat} {f g : EF}
noncomputable def unF : Nat -> CF
 | 0 => c_unescape_json
 | 1 => c_unescape_python
 | 2 => c_unescape_c
 | 3 => c_unescape_rust
 | 4 => c_unescape_xml
 | _ => c_unescape_css
theorem read_go {w : Nat} {res : List Int} (hw : w < 6) (h : Lo σ) (hF : EvF (unF w) [.ints T] σ (.ok (.ints res)) σ) : EvF c__law_read [.int w, .ints T] σ (.ok (.ints res)) σ := by
 have call {F : CF} {w : Int} (e : EvF F [.ints T] σ (.ok (.ints res)) σ) : EvE (.call F [(.loc 1)]) ⟨[.int w, .ints T], [], .undef, σ⟩ (.ok (.ints res)) ⟨[.int w, .ints T], [], .undef, σ⟩ := .call (.cons (.loc rfl) .nil) e
 match w, hw with
 | 0, _ => exact run_ret0 (.seqX (.iteT (.cmp (.loc rfl) .val rfl) (.one (.retK (.iteT (.cmp (.loc rfl) .val rfl) (call hF)))))) (hτ := h)
 | 1, _ => exact run_ret0 (.seqX (.iteT (.cmp (.loc rfl) .val rfl) (.one (.retK (.iteF (.cmp (.loc rfl) .val rfl) (.iteT (.cmp (.loc rfl) .val rfl) (call hF))))))) (hτ := h)
 | 2, _ => exact run_ret0 (.seqX (.iteT (.cmp (.loc rfl) .val rfl) (.one (.retK (.iteF (.cmp (.loc rfl) .val rfl) (.iteF (.cmp (.loc rfl) .val rfl) (call hF))))))) (hτ := h)
 | 3, _ => exact run_ret0 (.seq (.iteF (.cmp (.loc rfl) .val rfl) .nop) (.one (.retK (.iteT (.cmp (.loc rfl) .val rfl) (call hF))))) (hτ := h)
 | 4, _ => exact run_ret0 (.seq (.iteF (.cmp (.loc rfl) .val rfl) .nop) (.one (.retK (.iteF (.cmp (.loc rfl) .val rfl) (.iteT (.cmp (.loc rfl) .val rfl) (call hF)))))) (hτ := h)
 | 5, _ => exact run_ret0 (.seq (.iteF (.cmp (.loc rfl) .val rfl) .nop) (.one (.retK (.iteF (.cmp (.loc rfl) .val rfl) (.iteF (.cmp (.loc rfl) .val rfl) (call hF)))))) (hτ := h)
theorem flat_len {ch : Int -> List Int} : ∀ {t : List Int}, (∀ c ∈ t, (ch c).length ≤ 100) -> (t.flatMap ch).length ≤ 100 * t.length
 | [], _ => Nat.le_refl _
 | c :: t, h => by
  rw [List.flatMap_cons, List.length_append, List.length_cons]
  have := h c (.head _)
  have := flat_len (t := t) fun x hx => h x (.tail _ hx)
  omega
theorem okW_len {short : List (Int × V)} {w : Int -> Option (List Int)} {c : Int} (h : okW short w c = true) : (chW short w c).length ≤ 100 := of_decide_eq_true (Bool.and_eq_true_iff.mp h).1
theorem all_flat {ch : Int -> List Int} {P : Int -> Bool} (h : ∀ c ∈ t, (ch c).all P = true) : (t.flatMap ch).all P = true := by
 rw [List.all_flatMap]
 exact List.all_eq_true.mpr h
theorem back_way {w : Nat} (hw : w < 6) (h : Lo σ) (ht : ∀ c ∈ t, c ∈ lawPool) (hl : t.length ≤ 100) (hb : t.find? (badW w) = none) :
  EvF (unF w) [.ints (t.flatMap (chWay w))] σ (.ok (.ints t)) σ ∧ (t.flatMap (chWay w)).all (inR 32 126) = true ∧ (t.flatMap (chWay w)).length ≤ 10000 := by
 have hb := List.find?_eq_none.mp hb
 have fin {ch : Int -> List Int} (h2 : ∀ c ∈ t, (ch c).length ≤ 100) : (t.flatMap ch).length ≤ 10000 := by have := flat_len h2; omega
 have go {bad : Int -> Bool} {rd : List Int -> Option (List Int × List Int)} {bare : Int -> Bool} {short : List (Int × V)} {wf : Int -> Option (List Int)} (hP : ∀ c ∈ lawPool, PoolOk bad rd bare short wf c) (hb : ∀ x ∈ t, ¬ bad x = true) :
   rdAll rd bare ((t.flatMap (chW short wf)).length + 1) (t.flatMap (chW short wf)) [] = .ok t ∧ (t.flatMap (chW short wf)).all (inR 32 126) = true ∧ (t.flatMap (chW short wf)).length ≤ 10000 :=
  ⟨rdAll_flat (fun c hc => (hP c (ht c hc)).2.2.resolve_left (hb c hc)) (Nat.lt_succ_self _), all_flat fun c hc => (hP c (ht c hc)).2.1, fin fun c hc => okW_len (hP c (ht c hc)).1⟩
 match w, hw, hb with
 | 0, _, hb => obtain ⟨h1, h2, h3⟩ := go poolJ hb; exact ⟨(unescape_json_eq h (Nat.le_trans h3 (by decide))).1 _ h1, h2, h3⟩
 | 1, _, hb => obtain ⟨h1, h2, h3⟩ := go poolP hb; exact ⟨unescape_python_eq h (Nat.le_trans h3 (by decide)) h1, h2, h3⟩
 | 2, _, hb => obtain ⟨h1, h2, h3⟩ := go poolC hb; exact ⟨unescape_c_eq h (Nat.le_trans h3 (by decide)) h1, h2, h3⟩
 | 3, _, hb => obtain ⟨h1, h2, h3⟩ := go poolR hb; exact ⟨unescape_rust_eq h (Nat.le_trans h3 (by decide)) h1, h2, h3⟩
 | 4, _, hb =>
  have h3 := fin (ch := chW sX wX) fun c hc => okW_len (poolX c (ht c hc)).1
  exact ⟨unescape_xml_eq h (Nat.le_trans h3 (by decide)) (rdAllX_flat (fun c hc => (poolX c (ht c hc)).2.2.resolve_left (hb c hc)) (Nat.lt_succ_self _)), all_flat fun c hc => (poolX c (ht c hc)).2.1, h3⟩
 | 5, _, hb =>
  obtain ⟨h1, h2, h3⟩ := go poolS hb
  exact ⟨unescape_css_eq h (Nat.le_trans h3 (by decide)) h1 (by omega) (fun c hc => by
   have h4 := Bool.eq_false_iff.mpr (hb c hc)
   have h5 : (c == 0 || !scal c) = false := h4
   cases q1 : c == 0 with
   | true => rw [q1] at h5; cases h5
   | false =>
    cases q2 : scal c with
    | true => exact ⟨rfl, rfl⟩
    | false => rw [q1, q2] at h5; cases h5), h2, h3⟩
theorem rows_back : ∀ x ∈ lawRows, ∃ w : Nat, w < 6 ∧ x.1 = (w : Int) ∧ x.2.1.length ≤ 100 ∧ ∀ σ, Lo σ -> EvF (unF w) [.ints (x.2.1.map fun c => (c.toNat : Int))] σ (.ok (.ints x.2.2)) σ := by
 unfold lawRows
 repeat' refine List.forall_mem_cons.mpr ⟨?_, ?_⟩
 ·exact ⟨1, by decide, rfl, by decide, fun σ h => unescape_python_eq h (by decide) (by kernel_rfl)⟩
 ·exact ⟨2, by decide, rfl, by decide, fun σ h => unescape_c_eq h (by decide) (by kernel_rfl)⟩
 ·exact ⟨3, by decide, rfl, by decide, fun σ h => unescape_rust_eq h (by decide) (by kernel_rfl)⟩
 ·exact ⟨4, by decide, rfl, by decide, fun σ h => unescape_xml_eq h (by decide) (by kernel_rfl)⟩
 ·exact ⟨5, by decide, rfl, by decide, fun σ h => unescape_css_eq h (by decide) (by kernel_rfl) (by decide) (by decide +kernel)⟩
 ·exact fun κ h => nomatch h
theorem fmod_lo {a b : Int} (h : 0 < b) : 0 ≤ a.fmod b ∧ a.fmod b < b := ⟨Int.fmod_nonneg_of_pos a h, Int.fmod_lt_of_pos a h⟩
theorem mod_op {a b : Int} (h : b ≠ 0) : binV .Mod τ (.int a) (.int b) = some (.int (a.fmod b)) := if_pos h
theorem mul_op {a b : Int} (h : small a = true) : binV .Mult τ (.int a) (.int b) = some (.int (a * b)) := if_pos h
noncomputable def D (C0 C2 : MO) (left : List Int) (mixed : Int) : List MO := [C0, .cell (.ref 4), C2, .ints left, .deck (.ref 3) (.int mixed)]
noncomputable def CellLo (x : MO) : Prop := x = .cell0 ∨ ∃ k : Int, x = .cell (.int k)
theorem D_lo {C0 C2 : MO} {left : List Int} {mixed : Int} (h0 : CellLo C0) (h2 : CellLo C2) : Lo (D C0 C2 left mixed) := by
 intro x hx
 simp only [D, List.mem_cons, List.not_mem_nil, or_false] at hx
 rcases hx with rfl | rfl | rfl | rfl | rfl
 ·rcases h0 with rfl | ⟨k, rfl⟩ <;> rfl
 ·rfl
 ·rcases h2 with rfl | ⟨k, rfl⟩ <;> rfl
 ·rfl
 ·rfl
theorem draw_eq {C0 C2 : MO} {left : List Int} {mixed many : Int} (h0 : CellLo C0) (h2 : CellLo C2) (hl : left.length ≤ 100) (hm : 0 ≤ mixed ∧ mixed < 1000003) (hy : 0 < many) :
  ∃ d left' mixed', EvF c__law_draw [.ref 4, .int many] (D C0 C2 left mixed) (.ok (.int d)) (D C0 C2 left' mixed') ∧ 0 ≤ d ∧ d < many ∧ left'.length ≤ 100 ∧ 0 ≤ mixed' ∧ mixed' < 1000003 := by
 have eL {mixed : Int} {left : List Int} : EvE (.bin subF (.loc 0) (.val (.str "left"))) ⟨[.ref 4, .int many], [], .undef, D C0 C2 left mixed⟩ (.ok (.ref 3)) ⟨[.ref 4, .int many], [], .undef, D C0 C2 left mixed⟩ := .sub (.loc rfl) .val (by
  show (if ("left" : Str) = "left" then some (V.ref 3) else if ("left" : Str) = "mixed" then some (V.int mixed) else none) = _
  rw [if_pos rfl])
 have eM {mixed : Int} {left : List Int} : EvE (.bin subF (.loc 0) (.val (.str "mixed"))) ⟨[.ref 4, .int many], [], .undef, D C0 C2 left mixed⟩ (.ok (.int mixed)) ⟨[.ref 4, .int many], [], .undef, D C0 C2 left mixed⟩ := .sub (.loc rfl) .val (by
  show (if ("mixed" : Str) = "left" then some (V.ref 3) else if ("mixed" : Str) = "mixed" then some (V.int mixed) else none) = _
  rw [if_neg (by decide), if_pos rfl])
 have e1 : EvE (.bin (cmpF .NotEq) (.bin subF (.loc 0) (.val (.str "left"))) (.list [])) ⟨[.ref 4, .int many], [], .undef, D C0 C2 left mixed⟩ (.ok (.bool (!decide (left = [])))) ⟨[.ref 4, .int many], [], .undef, D C0 C2 left mixed⟩ := .cmp eL (.list (Xs := []) .nil) rfl
 cases left with
 | cons a left =>
  rw [List.length_cons] at hl
  obtain ⟨k1, k2⟩ := fmod_lo (a := a) hy
  refine ⟨a.fmod many, left, mixed, run_ret0 (.seqX (.iteT e1 (.one (.retK (.op (.pop0 eL rfl (by omega)) (.loc (l := [.ref 4, .int many]) (cl := []) (v := .undef) (τ := D C0 C2 left mixed) rfl) (mod_op (by omega))))))) (hl := rfl) (hτ := D_lo h0 h2), k1, k2, by omega, hm.1, hm.2⟩
 | nil =>
  have hs : small mixed = true := decide_eq_true (by omega)
  obtain ⟨m1, m2⟩ := fmod_lo (a := mixed * 4801 + 97) (b := 1000003) (by decide)
  obtain ⟨k1, k2⟩ := fmod_lo (a := ((mixed * 4801 + 97).fmod 1000003).fdiv 7) hy
  have e2 : EvS (.setMix (.bin (binF .Mod) (.bin (binF .Add) (.bin (binF .Mult) (.bin subF (.loc 0) (.val (.str "mixed"))) (.val (.int 4801))) (.val (.int 97))) (.val (.int 1000003))) (.loc 0)) ⟨[.ref 4, .int many], [], .undef, D C0 C2 [] mixed⟩ .next ⟨[.ref 4, .int many], [], .undef, D C0 C2 [] ((mixed * 4801 + 97).fmod 1000003)⟩ := by
   have e3 : EvE (.bin (binF .Mod) (.bin (binF .Add) (.bin (binF .Mult) (.bin subF (.loc 0) (.val (.str "mixed"))) (.val (.int 4801))) (.val (.int 97))) (.val (.int 1000003))) ⟨[.ref 4, .int many], [], .undef, D C0 C2 [] mixed⟩ (.ok (.int ((mixed * 4801 + 97).fmod 1000003))) ⟨[.ref 4, .int many], [], .undef, D C0 C2 [] mixed⟩ := .op (.op (.op eM .val (mul_op hs)) .val rfl) .val (mod_op (by decide))
   exact EvS.setMix (i := 4) (L := .ref 3) (M := .int mixed) e3 (EvE.loc rfl) rfl
  exact ⟨(((mixed * 4801 + 97).fmod 1000003).fdiv 7).fmod many, [], (mixed * 4801 + 97).fmod 1000003, run_ret0 (.seq (.iteF e1 .nop) (.seq e2 (.one (.retK (.op (.op eM .val rfl) (.loc rfl) (mod_op (by omega))))))) (hl := rfl) (hτ := D_lo h0 h2), k1, k2, by simp, m1, m2⟩
theorem deck_loop {X0 : V} : ∀ {t : List Int} {mixed : Int} {X1 : V}, 0 ≤ mixed ∧ mixed < 1000003 -> (∀ x ∈ t, 0 ≤ x ∧ x < 1000003) -> ∃ mixed' X1', 0 ≤ mixed' ∧ mixed' < 1000003 ∧
  EvFor (.seq (.setL 3 (.bin (binF .Mod) (.bin (binF .Add) (.bin (binF .Add) (.bin (binF .Mult) (.loc 3) (.val (.int 31))) (.loc 1)) (.val (.int 1))) (.val (.int 1000003)))) .nop) (t.map fun x => [(.l 1, .int x)]) ⟨[X0, X1, .ref 3, .int mixed], [], .undef, τ⟩ .next ⟨[X0, X1', .ref 3, .int mixed'], [], .undef, τ⟩ := by
 intro t
 induction t with
 | nil => exact fun {mixed X1} h κ => ⟨mixed, X1, h.1, h.2, .for0⟩
 | cons x t ih =>
  intro mixed X1 h hx
  obtain ⟨m', X', h1, h2, h3⟩ := ih (mixed := (mixed * 31 + x + 1).fmod 1000003) (X1 := .int x) (fmod_lo (by decide)) fun y hy => hx y (.tail _ hy)
  exact ⟨m', X', h1, h2, .for1 rfl (.one (.setL (.op (.op (.op (.op (.loc rfl) .val (mul_op (decide_eq_true (by omega)))) (.loc rfl) rfl) .val rfl) .val (mod_op (by decide))))) h3⟩
theorem deck_eq {ns : List Int} (hn : ns.length ≤ 1000) : ∃ left mixed, EvF c__law_deck [.gints ns] [.cell0, .cell0, .cell0] (.ok (.ref 4)) [.cell0, .cell0, .cell0, .ints left, .deck (.ref 3) (.int mixed)] ∧ left.length ≤ 100 ∧ 0 ≤ mixed ∧ mixed < 1000003 := by
 let left := (ns.take 24).map fun x => x.fmod 1000003
 have hcut : cutI ns none (some (24 : Int)) = ns.take 24 := by
  unfold cutI
  show (ns.drop 0).take (min 24 ns.length - 0) = _
  rw [List.drop_zero, Nat.sub_zero]
  by_cases q : 24 ≤ ns.length
  ·rw [Nat.min_eq_left q]
  ·rw [Nat.min_eq_right (by omega), List.take_of_length_le (Nat.le_refl _), List.take_of_length_le (by omega)]
 have e0 : EvE (.slice (.loc 0) (.val .none) (.val (.int 24))) ⟨[.gints ns, .undef, .undef, .undef], [], .undef, [.cell0, .cell0, .cell0]⟩ (.ok (.ints (ns.take 24))) ⟨[.gints ns, .undef, .undef, .undef], [], .undef, [.cell0, .cell0, .cell0]⟩ := .slice (.loc rfl) .val .val (by
  show (if ns.length ≤ 1000000 then some (V.ints (cutI ns none (some (24 : Int)))) else none) = _
  rw [if_pos (by omega), hcut])
 have ht : (ns.take 24).length ≤ 24 := by rw [List.length_take]; exact Nat.min_le_left ..
 obtain ⟨v', hv⟩ := comp_loop (l := [.gints ns, .undef, .undef, .undef]) (c := []) (τ := [.cell0, .cell0, .cell0]) (v := .undef) (tst := .val (.bool true)) (g := .bin (binF .Mod) (.int .cv) (.val (.int 1000003))) (tt := fun κ => true) (gv := fun x => .int (x.fmod 1000003)) (ks := ns.take 24) (acc := [])
  (fun k hk => ⟨.val, fun κ => ⟨  .op (.on1 .cv rfl) .val (mod_op (by decide)), rfl⟩⟩) (by simp; omega)
 rw [List.filter_eq_self.mpr (fun κ κ => rfl), List.nil_append] at hv
 have e1 : EvE (.compM (.ofE (.slice (.loc 0) (.val .none) (.val (.int 24)))) (.val (.bool true)) (.bin (binF .Mod) (.int .cv) (.val (.int 1000003)))) ⟨[.gints ns, .undef, .undef, .undef], [], .undef, [.cell0, .cell0, .cell0]⟩ (.ok (.ref 3)) ⟨[.gints ns, .undef, .undef, .undef], [], .undef, [.cell0, .cell0, .cell0, .ints left]⟩ := by
  refine .compM (.ofE e0 (rfl : itemsV (.ints (ns.take 24)) = some ((ns.take 24).map .int))) hv (by rw [List.length_map]; omega) ?_
  rw [show ((ns.take 24).map fun x => V.int (x.fmod 1000003)) = left.map .int by show _ = ((ns.take 24).map fun x => x.fmod 1000003).map V.int; rw [List.map_map]; rfl]
  exact toInts_map
 obtain ⟨m', X', m1, m2, e2⟩ := deck_loop (X0 := .gints ns) (τ := [.cell0, .cell0, .cell0, .gone]) (t := left) (mixed := 5407) (X1 := .undef) (by decide) (fun x hx => by
  obtain ⟨y, _, rfl⟩ := List.mem_map.mp hx
  exact fmod_lo (by decide))
 refine ⟨left, m', ?_, by show ((ns.take 24).map _).length ≤ 100; rw [List.length_map]; omega, m1, m2⟩
 have e3 : EvS (.forR (.l 1) (.loc 2) (.seq (.setL 3 (.bin (binF .Mod) (.bin (binF .Add) (.bin (binF .Add) (.bin (binF .Mult) (.loc 3) (.val (.int 31))) (.loc 1)) (.val (.int 1))) (.val (.int 1000003)))) .nop)) ⟨[.gints ns, .undef, .ref 3, .int 5407], [], .undef, [.cell0, .cell0, .cell0, .ints left]⟩ .next ⟨[.gints ns, X', .ref 3, .int m'], [], .undef, [.cell0, .cell0, .cell0, .ints left]⟩ :=
  EvS.forR (j := 3) (xs := left) (τ := [.cell0, .cell0, .cell0, .ints left]) (τ' := [.cell0, .cell0, .cell0, .gone]) (.loc rfl) rfl e2 rfl
 have e : EvS f__law_deck ⟨[.gints ns, .undef, .undef, .undef], [], .undef, [.cell0, .cell0, .cell0]⟩ (.ret (.ref 4)) ⟨[.gints ns, X', .ref 3, .int m'], [], .undef, [.cell0, .cell0, .cell0, .ints left, .deck (.ref 3) (.int m')]⟩ :=
  .seq (.setT (Xs := [.ref 3, .int 5407]) (.cons e1 (.cons .val .nil)) ⟨rfl, Nat.le_succ 2⟩ rfl) (.seq e3 (.one (.retK (X := .ref 4) (s1 := ⟨[.gints ns, X', .ref 3, .int m'], [], .undef, [.cell0, .cell0, .cell0, .ints left, .deck (.ref 3) (.int m')]⟩) (.deck (.loc rfl) (.loc rfl)))))
 exact run_keep e
end
section
variable {σ τ : List MO} {T r t : List Int} {p q N : Nat} {x n m : Int} {l : List V} {c : List Nat} {v : V} {st s1 : AS} {i : Nat} {f g : EF}
theorem EvE.compI {w : WF} {tst g : EF} {tt : Int -> Bool} {gv : Int -> V} {ks : List Int} (hw : EvG w ⟨l, c, v, τ⟩ (ks.map .int) ⟨l, c, v, τ⟩)
  (h : ∀ k ∈ ks, EvE tst ⟨l, c, .int k, τ⟩ (.ok (.bool (tt k))) ⟨l, c, .int k, τ⟩ ∧ (tt k = true -> EvE g ⟨l, c, .int k, τ⟩ (.ok (gv k)) ⟨l, c, .int k, τ⟩ ∧ (gv k).pureB = true)) (hl : ks.length ≤ 1000000) :
  EvE (.comp w tst g) ⟨l, c, v, τ⟩ (.ok (mkList ((ks.filter tt).map gv))) ⟨l, c, v, τ⟩ := by
 obtain ⟨v', e⟩ := comp_loop (acc := []) (v := v) h (by simpa using hl)
 rw [List.nil_append] at e
 exact .comp hw e (by rw [List.length_map]; exact Nat.le_trans (List.length_filter_le _ _) hl)
theorem call_draw {C0 C2 : MO} {left : List Int} {mixed many : Int} (h0 : CellLo C0) (h2 : CellLo C2) (hl : left.length ≤ 100) (hm : 0 ≤ mixed ∧ mixed < 1000003) (hy : 0 < many) :
  ∃ d left' mixed', (∀ v, EvE (.call c__law_draw [(.cel 1), (.val (.int many))]) ⟨l, [0, 1, 2], v, D C0 C2 left mixed⟩ (.ok (.int d)) ⟨l, [0, 1, 2], v, D C0 C2 left' mixed'⟩) ∧ 0 ≤ d ∧ d < many ∧ left'.length ≤ 100 ∧ 0 ≤ mixed' ∧ mixed' < 1000003 := by
 obtain ⟨d, left', mixed', h, k⟩ := draw_eq h0 h2 hl hm hy
 exact ⟨d, left', mixed', fun v => .call (.cons (.cel rfl rfl) (.cons .val .nil)) h, k⟩
theorem item_at {P : List Int} {d : Int} (h0 : 0 ≤ d) (h1 : d < P.length) (hP : P.length ≤ 100) : ∃ x ∈ P, ∀ τ, subV τ (.ints P) (.int d) = some (.int x) := by
 have h3 : d.toNat < P.length := by omega
 refine ⟨P[d.toNat], List.getElem_mem h3, fun τ => ?_⟩
 refine sub_ints.trans ?_
 rw [atI, if_pos ⟨h0, by omega⟩, List.getElem?_eq_getElem h3]
 rfl
theorem draws_loop {C0 C2 : MO} (h0 : CellLo C0) (h2 : CellLo C2) {P : List Int} {many : Int} (hP : (P.length : Int) = many) (hP2 : P.length ≤ 100) (hy : 0 < many) : ∀ {Vs : List V} {acc : List Int} {left : List Int} {mixed : Int} {v : V}, left.length ≤ 100 -> 0 ≤ mixed ∧ mixed < 1000003 -> acc.length + Vs.length ≤ 1000000 ->
  ∃ xs left' mixed' v', EvCo (.val (.bool true)) (LStep (.bin subF (.val (.ints P)) (.call c__law_draw [(.cel 1), (.val (.int many))]))) Vs (acc.map V.int) ⟨l, [0, 1, 2], v, D C0 C2 left mixed⟩ ((acc ++ xs).map V.int) ⟨l, [0, 1, 2], v', D C0 C2 left' mixed'⟩ ∧ xs.length = Vs.length ∧ (∀ x ∈ xs, x ∈ P) ∧ left'.length ≤ 100 ∧ 0 ≤ mixed' ∧ mixed' < 1000003 := by
 intro Vs
 induction Vs with
 | nil =>
  intro acc left mixed v hl hm ha
  refine ⟨[], left, mixed, v, ?_, rfl, (fun κ h => nomatch h), hl, hm.1, hm.2⟩
  rw [List.append_nil]; exact .nil
 | cons X Vs ih =>
  intro acc left mixed v hl hm ha
  rw [List.length_cons] at ha
  obtain ⟨d, left1, mixed1, e1, d0, d1, k1, k2, k3⟩ := call_draw (l := l) h0 h2 hl hm hy
  obtain ⟨x, hx, e2⟩ := item_at d0 (by omega) hP2
  have e3 : EvE (.bin subF (.val (.ints P)) (.call c__law_draw [(.cel 1), (.val (.int many))])) ⟨l, [0, 1, 2], X, D C0 C2 left mixed⟩ (.ok (.int x)) ⟨l, [0, 1, 2], X, D C0 C2 left1 mixed1⟩ := .sub .val (e1 X) (e2 _)
  obtain ⟨xs, left', mixed', v', e4, h5, h6, h7⟩ := ih (acc := acc ++ [x]) (v := X) k1 ⟨k2, k3⟩ (by rw [List.length_append]; exact (by omega : acc.length + 1 + Vs.length ≤ 1000000))
  refine ⟨x :: xs, left', mixed', v', ?_, by rw [List.length_cons, List.length_cons, h5], fun y hy => ?_, h7⟩
  ·rw [List.append_assoc, List.map_append (l₁ := acc) (l₂ := [x])] at e4
   exact .take .val ⟨_, e3, rfl, rfl⟩ e4
  ·rcases List.mem_cons.mp hy with rfl | hy
   ·exact hx
   ·exact h6 y hy
theorem range_draw {C0 C2 : MO} {left : List Int} {mixed many : Int} (h0 : CellLo C0) (h2 : CellLo C2) (hl : left.length ≤ 100) (hm : 0 ≤ mixed ∧ mixed < 1000003) (hy : 0 < many) (hy2 : many ≤ 100) :
  ∃ Vs left' mixed', EvG (.range1 (.call c__law_draw [(.cel 1), (.val (.int many))])) ⟨l, [0, 1, 2], v, D C0 C2 left mixed⟩ Vs ⟨l, [0, 1, 2], v, D C0 C2 left' mixed'⟩ ∧ (Vs.length : Int) < many ∧ left'.length ≤ 100 ∧ 0 ≤ mixed' ∧ mixed' < 1000003 := by
 obtain ⟨d, left', mixed', e, d0, d1, k⟩ := call_draw (l := l) h0 h2 hl hm hy
 exact ⟨_, left', mixed', .range1 (e v) (by omega), by rw [show (rangeL d.toNat fun i => (i : Nat)).length = d.toNat by simp [rangeL]]; omega, k⟩
theorem EvE.drawn {C0 C2 : MO} (h0 : CellLo C0) (h2 : CellLo C2) {left : List Int} {mixed many m2 : Int} {P : List Int} (hl : left.length ≤ 100) (hm : 0 ≤ mixed ∧ mixed < 1000003) (hP : (P.length : Int) = many) (hP2 : P.length ≤ 100) (hy : 0 < many) (hy2 : 0 < m2) (hy3 : m2 ≤ 100) :
  ∃ xs left' mixed', EvE (.comp (.range1 (.call c__law_draw [(.cel 1), (.val (.int m2))])) (.val (.bool true)) (.bin subF (.val (.ints P)) (.call c__law_draw [(.cel 1), (.val (.int many))]))) ⟨l, [0, 1, 2], v, D C0 C2 left mixed⟩ (.ok (.ints xs)) ⟨l, [0, 1, 2], v, D C0 C2 left' mixed'⟩ ∧
   (xs.length : Int) < m2 ∧ (∀ x ∈ xs, x ∈ P) ∧ left'.length ≤ 100 ∧ 0 ≤ mixed' ∧ mixed' < 1000003 := by
 obtain ⟨Vs, l1, m1, e1, k1, k2, k3⟩ := range_draw (l := l) (v := v) h0 h2 hl hm hy2 hy3
 obtain ⟨xs, l2, m2', v', e2, k4, k5, k6⟩ := draws_loop (l := l) h0 h2 hP hP2 hy (Vs := Vs) (acc := []) (v := v) k2 k3 (by simp; omega)
 refine ⟨xs, l2, m2', ?_, by omega, k5, k6⟩
 rw [List.map_nil, List.nil_append] at e2
 have := EvE.comp e1 e2 (by rw [List.length_map]; omega)
 rw [mkList_map] at this; exact this
theorem EvS.drawn {C0 C2 : MO} (h0 : CellLo C0) (h2 : CellLo C2) {left : List Int} {mixed many m2 : Int} {P : List Int} {k : Nat} (hl : left.length ≤ 100) (hm : 0 ≤ mixed ∧ mixed < 1000003) (hP : (P.length : Int) = many) (hP2 : P.length ≤ 100) (hy : 0 < many) (hy2 : 0 < m2) (hy3 : m2 ≤ 100) :
  ∃ xs left' mixed', EvS (.setComp k (.range1 (.call c__law_draw [(.cel 1), (.val (.int m2))])) (.val (.bool true)) (.bin subF (.val (.ints P)) (.call c__law_draw [(.cel 1), (.val (.int many))]))) ⟨l, [0, 1, 2], v, D C0 C2 left mixed⟩ .next ⟨l.set k (.ints xs), [0, 1, 2], v, D C0 C2 left' mixed'⟩ ∧
   (xs.length : Int) < m2 ∧ (∀ x ∈ xs, x ∈ P) ∧ left'.length ≤ 100 ∧ 0 ≤ mixed' ∧ mixed' < 1000003 := by
 obtain ⟨Vs, l1, m1, e1, k1, k2, k3⟩ := range_draw (l := l) (v := v) h0 h2 hl hm hy2 hy3
 obtain ⟨xs, l2, m2', v', e2, k4, k5, k6⟩ := draws_loop (l := l) h0 h2 hP hP2 hy (Vs := Vs) (acc := []) (v := v) k2 k3 (by simp; omega)
 refine ⟨xs, l2, m2', ?_, by omega, k5, k6⟩
 rw [List.map_nil, List.nil_append] at e2
 have := EvS.setComp (i := k) e1 e2 (by rw [List.length_map]; omega)
 rw [mkList_map] at this; exact this
noncomputable def wayB : SF := (.seq (.setT [(.l 6), (.l 14)] [(.comp (.ofE (.loc 13)) (.tru (.call c__law_lacks [(.cel 2), .cv])) .cv), (.call c__law_written [(.cel 2), (.copy (.loc 13))])]) (.seq (.ite (.bin (cmpF .NotEq) (.loc 6) (.list [])) (.seq (.ite (.bin (cmpF .NotEq) (.loc 14) (.bin subF (.loc 6) (.val (.int 0)))) (.seq (.retK (.val (.bool false))) .nop) .nop) .nop) (.seq (.ite (.orL [(.bin (cmpF .NotEq) (.comp (.ofE (.loc 14)) (.not (.chain .LtE .LtE (.val (.int 32)) .cv (.val (.int 126)))) .cv) (.list [])), (.bin (cmpF .NotEq) (.call c__law_read [(.cel 2), (.loc 14)]) (.loc 13))]) (.seq (.retK (.val (.bool false))) .nop) (.seq (.ite (.andL [(.bin (cmpF .Eq) (.cel 2) (.val (.int 0))), (.bin (cmpF .NotEq) (.call c__law_json [(.copy (.loc 14))]) (.tup [(.loc 13), (.list [])]))]) (.seq (.retK (.val (.bool false))) .nop) .nop) .nop)) .nop)) .nop))
noncomputable abbrev Lc (a0 a1 a2 a3 a4 a5 a6 a7 a8 a9 a10 a11 a12 a13 a14 a15 : V) : List V := [a0, a1, a2, a3, a4, a5, a6, a7, a8, a9, a10, a11, a12, a13, a14, a15]
theorem pool_lacks : ∀ w : Fin 6, ∀ c ∈ lawPool, badW w.val c = lacksP (w.val : Int) c := by decide +kernel
theorem json_rd (ht : ∀ c ∈ t, c ∈ lawPool) (hb : t.find? (badW 0) = none) : rdAll rdJ bareJ ((t.flatMap (chWay 0)).length + 1) (t.flatMap (chWay 0)) [] = .ok t :=
 rdAll_flat (fun c hc => (poolJ c (ht c hc)).2.2.resolve_left (List.find?_eq_none.mp hb c hc)) (Nat.lt_succ_self _)
variable {a0 a1 a2 a3 a4 a5 a6 a7 a8 a9 a10 a11 a12 a14 a15 : V}
theorem neq_ints {xs ys : List Int} {f g : EF} {s2 : AS} {b : Bool} (h1 : EvE f st (.ok (.ints xs)) s1) (h2 : EvE g s1 (.ok (.ints ys)) s2) (hb : (!decide (xs = ys)) = b) : EvE (.bin (cmpF .NotEq) f g) st (.ok (.bool b)) s2 := .cmp h1 h2 (congrArg some hb)
theorem way_ok {w : Nat} {C0 : MO} {left : List Int} {mixed : Int} (hw : w < 6) (h0 : CellLo C0) (ht : ∀ c ∈ t, c ∈ lawPool) (hl : t.length ≤ 100) :
  ∃ b6 b14, EvS wayB ⟨Lc a0 a1 a2 a3 a4 a5 a6 a7 a8 a9 a10 a11 a12 (.ints t) a14 a15, [0, 1, 2], v, D C0 (.cell (.int w)) left mixed⟩ .next ⟨Lc a0 a1 a2 a3 a4 a5 b6 a7 a8 a9 a10 a11 a12 (.ints t) b14 a15, [0, 1, 2], v, D C0 (.cell (.int w)) left mixed⟩ := by
 have hD : Lo (D C0 (.cell (.int w)) left mixed) := D_lo h0 (.inr ⟨_, rfl⟩)
 have e1 := EvE.compI (l := Lc a0 a1 a2 a3 a4 a5 a6 a7 a8 a9 a10 a11 a12 (.ints t) a14 a15) (c := [0, 1, 2]) (v := v) (τ := D C0 (.cell (.int w)) left mixed) (w := .ofE (.loc 13)) (tst := .tru (.call c__law_lacks [(.cel 2), .cv])) (g := .cv) (tt := lacksP w) (gv := .int) (ks := t) (.ofE (.loc rfl) rfl)
  (fun k κ => ⟨.tru (.call (.cons (.cel rfl rfl) (.cons .cv .nil)) (lacks_eq hD)), fun κ => ⟨.cv, rfl⟩⟩) (by omega)
 rw [mkList_map] at e1
 have e2 : EvE (.call c__law_written [(.cel 2), (.copy (.loc 13))]) ⟨Lc a0 a1 a2 a3 a4 a5 a6 a7 a8 a9 a10 a11 a12 (.ints t) a14 a15, [0, 1, 2], v, D C0 (.cell (.int w)) left mixed⟩ (.ok (resV w t)) ⟨Lc a0 a1 a2 a3 a4 a5 a6 a7 a8 a9 a10 a11 a12 (.ints t) a14 a15, [0, 1, 2], v, D C0 (.cell (.int w)) left mixed⟩ :=
  .call (.cons (.cel rfl rfl) (.cons (.copy (.loc rfl) rfl (by omega)) .nil)) (law_written_eq hw hD ht (by omega))
 have hf : (t.filter (lacksP w)).head? = t.find? (badW w) := by
  rw [← List.head?_filter]
  exact congrArg List.head? (List.filter_congr fun c hc => (pool_lacks ⟨w, hw⟩ c (ht c hc)).symm)
 refine ⟨.ints (t.filter (lacksP w)), resV w t, .seq (.setT (Xs := [.ints (t.filter (lacksP w)), resV w t]) (.cons e1 (.cons e2 .nil)) ⟨rfl, Nat.le_succ 2⟩ rfl) (.one ?_)⟩
 cases hq : t.find? (badW w) with
 | some y =>
  rw [hq] at hf
  have hr : resV w t = .int y := by unfold resV; rw [hq]
  rw [hr]
  obtain ⟨ys, hys⟩ : ∃ ys, t.filter (lacksP w) = y :: ys := by
   cases hfl : t.filter (lacksP w) with
   | nil => rw [hfl] at hf; cases hf
   | cons z ys => rw [hfl] at hf; cases hf; exact ⟨ys, rfl⟩
  rw [hys]
  exact .iteT (neq_ints (.loc rfl) (.list (Xs := []) .nil) rfl) (.one (.iteF (.cmp (U := .int y) (.loc rfl) (.sub (W := .int y) (.loc rfl) .val rfl) (by show some (!(y == y)) = _; simp)) .nop))
 | none =>
  rw [hq] at hf
  have hr : resV w t = .ints (t.flatMap (chWay w)) := by unfold resV; rw [hq]
  rw [hr, List.head?_eq_none_iff.mp hf]
  obtain ⟨k1, k2, k3⟩ := back_way hw hD ht hl hq
  have e3 := EvE.compI (l := Lc a0 a1 a2 a3 a4 a5 (.ints []) a7 a8 a9 a10 a11 a12 (.ints t) (.ints (t.flatMap (chWay w))) a15) (c := [0, 1, 2]) (v := v) (τ := D C0 (.cell (.int w)) left mixed) (w := .ofE (.loc 14)) (tst := .not (.chain .LtE .LtE (.val (.int 32)) .cv (.val (.int 126)))) (g := .cv) (tt := fun k => !inR 32 126 k) (gv := .int) (ks := t.flatMap (chWay w)) (.ofE (.loc rfl) rfl)
   (fun k κ => ⟨.not (.range (st := ⟨[], [], .undef, []⟩) (s1 := ⟨[], [], .undef, []⟩) .cv), fun κ => ⟨.cv, rfl⟩⟩) (by omega)
  rw [mkList_map, List.filter_eq_nil_iff.mpr (fun x hx => by rw [List.all_eq_true.mp k2 x hx]; decide)] at e3
  refine .iteF (neq_ints (.loc rfl) (.list (Xs := []) .nil) rfl) (.one (.iteF (.orF (neq_ints e3 (.list (Xs := []) .nil) rfl) (.orF (neq_ints (.call (.cons (.cel rfl rfl) (.cons (.loc rfl) .nil)) (read_go hw hD k1)) (.loc rfl) (by simp)) .orN)) (.one ?_)))
  have e4 : EvE (.bin (cmpF .Eq) (.cel 2) (.val (.int 0))) ⟨Lc a0 a1 a2 a3 a4 a5 (.ints []) a7 a8 a9 a10 a11 a12 (.ints t) (.ints (t.flatMap (chWay w))) a15, [0, 1, 2], v, D C0 (.cell (.int w)) left mixed⟩ (.ok (.bool ((w : Int) == 0))) ⟨Lc a0 a1 a2 a3 a4 a5 (.ints []) a7 a8 a9 a10 a11 a12 (.ints t) (.ints (t.flatMap (chWay w))) a15, [0, 1, 2], v, D C0 (.cell (.int w)) left mixed⟩ := .cmp (.cel rfl rfl) .val rfl
  by_cases hw0 : w = 0
  ·subst hw0
   have e5 := (law_json_eq (t := t.flatMap (chWay 0)) hD (by omega) (fun x hx => by
    have h1 := List.all_eq_true.mp k2 x hx
    unfold inR at h1
    simp at h1
    exact ⟨by omega, by omega⟩)).1 t (json_rd ht hq)
   exact .iteF (.andT e4 (.andF (.cmp (X := .tup [.ints t, .ints []]) (U := .tup [.ints t, .ints []]) (.call (.cons (.copy (.loc rfl) rfl (by omega)) .nil) e5) (.tup (.cons (.loc rfl) (.cons (.list (Xs := []) .nil) .nil))) (by
    show Option.map (!·) (Option.or (if t.length + 0 + t.length + 0 ≤ 1000000 then some (decide (t = t) && decide (([] : List Int) = [])) else none) _) = some false
    rw [if_pos (by omega)]; simp)))) .nop
  ·rw [beq_eq_false_iff_ne.mpr (by omega)] at e4
   exact .iteF (.andF e4) .nop
theorem ways_loop {C0 : MO} {left : List Int} {mixed : Int} (h0 : CellLo C0) (ht : ∀ c ∈ t, c ∈ lawPool) (hl : t.length ≤ 100) : ∀ {ws : List Nat} {C2 : MO} {a6 a14 : V}, (∀ w ∈ ws, w < 6) -> CellLo C2 ->
  ∃ b6 b14 C2', CellLo C2' ∧ EvFor wayB (ws.map fun w => [(.c 2, .int (w : Nat))]) ⟨Lc a0 a1 a2 a3 a4 a5 a6 a7 a8 a9 a10 a11 a12 (.ints t) a14 a15, [0, 1, 2], v, D C0 C2 left mixed⟩ .next ⟨Lc a0 a1 a2 a3 a4 a5 b6 a7 a8 a9 a10 a11 a12 (.ints t) b14 a15, [0, 1, 2], v, D C0 C2' left mixed⟩ := by
 intro ws
 induction ws with
 | nil => exact fun {C2 a6 a14} κ h => ⟨a6, a14, C2, h, .for0⟩
 | cons w ws ih =>
  intro C2 a6 a14 hw h2
  obtain ⟨b6, b14, e1⟩ := way_ok (a0 := a0) (a1 := a1) (a2 := a2) (a3 := a3) (a4 := a4) (a5 := a5) (a6 := a6) (a7 := a7) (a8 := a8) (a9 := a9) (a10 := a10) (a11 := a11) (a12 := a12) (a14 := a14) (a15 := a15) (v := v) (left := left) (mixed := mixed) (hw w (.head _)) h0 ht hl
  obtain ⟨b6', b14', C2', h3, e2⟩ := ih (C2 := .cell (.int w)) (a6 := b6) (a14 := b14) (fun x hx => hw x (.tail _ hx)) (.inr ⟨_, rfl⟩)
  refine ⟨b6', b14', C2', h3, .for1 ?_ e1 e2⟩
  rcases h2 with rfl | ⟨k, rfl⟩ <;> rfl
end
section
variable {σ τ : List MO} {T r t : List Int} {p q N : Nat} {x n m : Int} {l : List V} {c : List Nat} {v : V} {st s1 : AS} {i : Nat} {f g : EF}
variable {a0 a1 a2 a3 a4 a5 a6 a7 a8 a9 a10 a11 a12 a13 a14 a15 : V}
noncomputable def rowsB : SF := (.seq (.ite (.bin (cmpF .NotEq) (.copy (.call c__law_read [(.cel 2), (.lstB (.loc 8))])) (.loc 1)) (.seq (.retK (.val (.bool false))) .nop) .nop) .nop)
noncomputable def upR (x : Int × List UInt8 × List Int) : Up := [(.c 2, .int x.1), (.l 8, .bytes x.2.1.toArray), (.l 1, .ints x.2.2)]
theorem rows_loop {C0 : MO} {left : List Int} {mixed : Int} (h0 : CellLo C0) : ∀ {rs : List (Int × List UInt8 × List Int)} {C2 : MO} {a1 a8 : V}, (∀ x ∈ rs, x ∈ lawRows) -> CellLo C2 ->
  ∃ b1 b8 C2', CellLo C2' ∧ EvFor rowsB (rs.map upR) ⟨Lc a0 a1 a2 a3 a4 a5 a6 a7 a8 a9 a10 a11 a12 a13 a14 a15, [0, 1, 2], v, D C0 C2 left mixed⟩ .next ⟨Lc a0 b1 a2 a3 a4 a5 a6 a7 b8 a9 a10 a11 a12 a13 a14 a15, [0, 1, 2], v, D C0 C2' left mixed⟩ := by
 intro rs
 induction rs with
 | nil => exact fun {C2 a1 a8} κ h => ⟨a1, a8, C2, h, .for0⟩
 | cons x rs ih =>
  intro C2 a1 a8 hx h2
  obtain ⟨w, hw, hwx, hlen, hback⟩ := rows_back x (hx x (.head _))
  have hD : Lo (D C0 (.cell (.int x.1)) left mixed) := D_lo h0 (.inr ⟨_, rfl⟩)
  obtain ⟨b1', b8', C2', h3, e2⟩ := ih (C2 := .cell (.int x.1)) (a1 := .ints x.2.2) (a8 := .bytes x.2.1.toArray) (fun y hy => hx y (.tail _ hy)) (.inr ⟨_, rfl⟩)
  have hr := read_go hw hD (hback _ hD)
  rw [← hwx] at hr
  have hl : x.2.2.length ≤ 1000 := by
   have : ∀ y ∈ lawRows, y.2.2.length ≤ 1000 := by decide +kernel
   exact this x (hx x (.head _))
  refine ⟨b1', b8', C2', h3, .for1 (s1 := ⟨Lc a0 (.ints x.2.2) a2 a3 a4 a5 a6 a7 (.bytes x.2.1.toArray) a9 a10 a11 a12 a13 a14 a15, [0, 1, 2], v, D C0 (.cell (.int x.1)) left mixed⟩) ?_ (.one (.iteF (neq_ints (.copy (xs := x.2.2) (.call (.cons (.cel rfl rfl) (.cons (.on1 (.loc rfl) ?_) .nil)) hr) rfl (by omega)) (.loc rfl) (by simp)) .nop)) e2⟩
  ·rcases h2 with rfl | ⟨k, rfl⟩ <;> rfl
  ·exact if_pos (by show x.2.1.toArray.size ≤ 1000; rw [List.size_toArray]; omega)
noncomputable def manyP (c : Int) : Nat := if c < 65536 then 4 else if c < 1048576 then 5 else 6
noncomputable def atsP (c : Int) : List Int := (List.range (manyP c)).map fun i => ((manyP c : Nat) : Int) - 1 - (i : Nat)
noncomputable def hxP (c a : Int) : Int := match subV [] v_HEX_DIGITS (.int ((c.fdiv (16 ^ a.toNat)).fmod 16)) with
 | some (.int u) => u
 | _ => -1
theorem poolHex : ∀ c ∈ lawPool, (atsP c).map (hxP c) = dsR c ∧ (∀ a ∈ atsP c, 0 ≤ a ∧ a ≤ 6 ∧ hxP c a ≠ -1) ∧ (dsR c).length ≤ 10 := by decide +kernel
noncomputable def enB : SF := (.seq (.setL 7 (.ite (.bin (cmpF .Lt) (.cel 0) (.val (.int 65536))) (.val (.int 4)) (.ite (.bin (cmpF .Lt) (.cel 0) (.val (.int 1048576))) (.val (.int 5)) (.val (.int 6))))) (.seq (.setL 11 (.bin (binF .Add) (.list [(.val (.int 85)), (.val (.int 43))]) (.comp (.rangeD (.bin (binF .Sub) (.loc 7) (.val (.int 1)))) (.val (.bool true)) (.bin subF (.val (.bytes [48, 49, 50, 51, 52, 53, 54, 55, 56, 57, 65, 66, 67, 68, 69, 70].toArray)) (.bin (binF .Mod) (.bin (binF .FloorDiv) (.cel 0) (.bin (binF .Pow) (.val (.int 16)) .cv)) (.val (.int 16))))))) (.seq (.setT [(.l 10), (.l 15)] [(.bin (binF .Add) (.bin (binF .Add) (.loc 10) (.bin mulF (.list [(.val (.int 32))]) (.int (.bin (cmpF .Gt) (.loc 5) (.val (.int 0)))))) (.loc 11)), (.bin (binF .Add) (.bin (binF .Add) (.loc 15) (.loc 11)) (.loc 3))]) .nop)))
noncomputable def upsE : Nat -> List Int -> List Up
 | _, [] => []
 | k, c :: t => [(.l 5, .int (k : Nat)), (.c 0, .int c)] :: upsE (k + 1) t
theorem enum_ups : ∀ {t : List Int} {k : Nat}, pairUps [.l 5, .c 0] ((List.range' k t.length).map fun i => V.int (i : Nat)) (t.map .int) = upsE k t
 | [], k => rfl
 | c :: t, k => by
  have ih := enum_ups (t := t) (k := k + 1)
  unfold pairUps at ih ⊢
  rw [List.length_cons, List.range'_succ, List.map_cons, List.map_cons, List.zip_cons_cons, List.map_cons, ih]
  rfl
set_option tactic.hygienic true in
theorem en_ok {cc : Int} {C2 : MO} {left row wide gap : List Int} {mixed : Int} {k : Nat} (h2 : CellLo C2) (hc : cc ∈ lawPool) (hr : row.length ≤ 10000) (hw : wide.length ≤ 10000) (hg : gap.length ≤ 10) :
  ∃ b7 b11, EvS enB ⟨Lc a0 a1 a2 (.ints gap) a4 (.int (k : Nat)) a6 a7 a8 a9 (.ints row) a11 a12 a13 a14 (.ints wide), [0, 1, 2], v, D (.cell (.int cc)) C2 left mixed⟩ .next
   ⟨Lc a0 a1 a2 (.ints gap) a4 (.int (k : Nat)) a6 b7 a8 a9 (.ints (row ++ (if k = 0 then [] else [32]) ++ ([85, 43] ++ dsR cc))) b11 a12 a13 a14 (.ints (wide ++ ([85, 43] ++ dsR cc) ++ gap)), [0, 1, 2], v, D (.cell (.int cc)) C2 left mixed⟩ := by
 obtain ⟨p1, p2, p3⟩ := poolHex cc hc
 have em : EvE (.ite (.bin (cmpF .Lt) (.cel 0) (.val (.int 65536))) (.val (.int 4)) (.ite (.bin (cmpF .Lt) (.cel 0) (.val (.int 1048576))) (.val (.int 5)) (.val (.int 6)))) ⟨Lc a0 a1 a2 (.ints gap) a4 (.int (k : Nat)) a6 a7 a8 a9 (.ints row) a11 a12 a13 a14 (.ints wide), [0, 1, 2], v, D (.cell (.int cc)) C2 left mixed⟩ (.ok (.int ((manyP cc : Nat)))) ⟨Lc a0 a1 a2 (.ints gap) a4 (.int (k : Nat)) a6 a7 a8 a9 (.ints row) a11 a12 a13 a14 (.ints wide), [0, 1, 2], v, D (.cell (.int cc)) C2 left mixed⟩ := by
  unfold manyP
  by_cases q1 : cc < 65536
  ·rw [if_pos q1]; exact .iteT (.cmp (.cel rfl rfl) .val (congrArg some (decide_eq_true q1))) .val
  ·rw [if_neg q1]
   by_cases q2 : cc < 1048576
   ·rw [if_pos q2]; exact .iteF (.cmp (.cel rfl rfl) .val (congrArg some (decide_eq_false q1))) (.iteT (.cmp (.cel rfl rfl) .val (congrArg some (decide_eq_true q2))) .val)
   ·rw [if_neg q2]; exact .iteF (.cmp (.cel rfl rfl) .val (congrArg some (decide_eq_false q1))) (.iteF (.cmp (.cel rfl rfl) .val (congrArg some (decide_eq_false q2))) .val)
 have hm : 1 ≤ manyP cc ∧ manyP cc ≤ 6 := by unfold manyP; split <;> (try split) <;> omega
 let L1 : List V := Lc a0 a1 a2 (.ints gap) a4 (.int (k : Nat)) a6 (.int ((manyP cc : Nat))) a8 a9 (.ints row) a11 a12 a13 a14 (.ints wide)
 have hw1 : EvG (.rangeD (.bin (binF .Sub) (.loc 7) (.val (.int 1)))) ⟨L1, [0, 1, 2], v, D (.cell (.int cc)) C2 left mixed⟩ ((atsP cc).map .int) ⟨L1, [0, 1, 2], v, D (.cell (.int cc)) C2 left mixed⟩ := by
  have e : EvE (.bin (binF .Sub) (.loc 7) (.val (.int 1))) ⟨L1, [0, 1, 2], v, D (.cell (.int cc)) C2 left mixed⟩ (.ok (.int (((manyP cc : Nat) : Int) - 1))) ⟨L1, [0, 1, 2], v, D (.cell (.int cc)) C2 left mixed⟩ := .op (.loc rfl) .val rfl
  have h3 := EvG.rangeD e (by omega)
  have : (((manyP cc : Nat) : Int) - 1 + 1).toNat = manyP cc := by omega
  rw [this] at h3
  rw [show (atsP cc).map V.int = rangeL (manyP cc) fun i => ((manyP cc : Nat) : Int) - 1 - (i : Nat) by unfold atsP rangeL; rw [List.map_map]; rfl]
  exact h3
 have ec := EvE.compI (l := L1) (c := [0, 1, 2]) (v := v) (τ := D (.cell (.int cc)) C2 left mixed) (w := .rangeD (.bin (binF .Sub) (.loc 7) (.val (.int 1)))) (tst := .val (.bool true)) (g := .bin subF (.val (.bytes [48, 49, 50, 51, 52, 53, 54, 55, 56, 57, 65, 66, 67, 68, 69, 70].toArray)) (.bin (binF .Mod) (.bin (binF .FloorDiv) (.cel 0) (.bin (binF .Pow) (.val (.int 16)) .cv)) (.val (.int 16)))) (tt := fun κ => true) (gv := fun a => .int (hxP cc a)) (ks := atsP cc) hw1
  (fun a ha => ⟨.val, fun κ => ⟨by
   obtain ⟨q1, q2, q3⟩ := p2 a ha
   have hpow : 0 < (16 : Int) ^ a.toNat ∧ ((16 : Int) ^ a.toNat).natAbs < 1073741824 := by
    have : ∀ k : Fin 7, 0 < (16 : Int) ^ k.val ∧ ((16 : Int) ^ k.val).natAbs < 1073741824 := by decide +kernel
    exact this ⟨a.toNat, by omega⟩
   refine .sub (X := .bytes [48, 49, 50, 51, 52, 53, 54, 55, 56, 57, 65, 66, 67, 68, 69, 70].toArray) (U := .int ((cc.fdiv (16 ^ a.toNat)).fmod 16)) .val (.op (W := .int ((cc.fdiv (16 ^ a.toNat)).fmod 16)) (.op (W := .int (cc.fdiv (16 ^ a.toNat))) (.cel rfl rfl) (.op (W := .int (16 ^ a.toNat)) .val .cv ?_) ?_) .val (mod_op (by decide))) ?_
   ·exact if_pos ⟨q1, by omega, by decide⟩
   ·exact if_pos ⟨by omega, hpow.2⟩
   ·show subV [] v_HEX_DIGITS (.int ((cc.fdiv (16 ^ a.toNat)).fmod 16)) = some (.int (hxP cc a))
    unfold hxP at q3 ⊢
    split at q3
    ·rename_i u hu; rw [hu]
    ·exact absurd rfl q3, rfl⟩⟩) (by unfold atsP; rw [List.length_map, List.length_range]; omega)
 rw [List.filter_eq_self.mpr (fun κ κ => rfl), show (atsP cc).map (fun a => V.int (hxP cc a)) = ((atsP cc).map (hxP cc)).map V.int by rw [List.map_map]; rfl, p1, mkList_map] at ec
 have hs : ([(85 : Int), 43] ++ dsR cc).length ≤ 12 := by rw [List.length_append]; show 2 + _ ≤ 12; omega
 let L2 : List V := Lc a0 a1 a2 (.ints gap) a4 (.int (k : Nat)) a6 (.int ((manyP cc : Nat))) a8 a9 (.ints row) (.ints ([85, 43] ++ dsR cc)) a12 a13 a14 (.ints wide)
 have emul : EvE (.bin mulF (.list [(.val (.int 32))]) (.int (.bin (cmpF .Gt) (.loc 5) (.val (.int 0))))) ⟨L2, [0, 1, 2], v, D (.cell (.int cc)) C2 left mixed⟩ (.ok (.ints (if k = 0 then [] else [32]))) ⟨L2, [0, 1, 2], v, D (.cell (.int cc)) C2 left mixed⟩ := by
  refine .bin (.list (Xs := [.int 32]) (.cons .val .nil)) (.on1 (X := .bool (decide (0 < (k : Int)))) (.cmp (.loc rfl) .val rfl) rfl) ?_
  by_cases hk : k = 0
  ·subst hk; rfl
  ·rw [if_neg hk, decide_eq_true (by omega : 0 < (k : Int))]; rfl
 refine ⟨.int ((manyP cc : Nat)), .ints ([85, 43] ++ dsR cc), .seq (.setL em) (.seq (.setL (.op (.list (Xs := [.int 85, .int 43]) (.cons .val (.cons .val .nil))) ec (add_ints (xs := [85, 43]) (by show 2 + _ ≤ 1000000; omega)))) (.one (.setT (Xs := [.ints (row ++ (if k = 0 then [] else [32]) ++ ([85, 43] ++ dsR cc)), .ints (wide ++ ([85, 43] ++ dsR cc) ++ gap)]) (.cons (.op (.op (U := .ints (if k = 0 then [] else [32])) (.loc rfl) emul (add_ints ?_)) (.loc rfl) (add_ints ?_)) (.cons (.op (.op (.loc rfl) (.loc rfl) (add_ints ?_)) (.loc rfl) (add_ints ?_)) .nil)) ⟨rfl, Nat.le_succ 2⟩ rfl)))⟩
 ·split <;> simp <;> omega
 ·rw [List.length_append]; split <;> simp only [List.length_nil, List.length_cons] <;> omega
 ·omega
 ·rw [List.length_append]; omega
theorem en_loop {C2 : MO} {left gap : List Int} {mixed : Int} (h2 : CellLo C2) (hg : gap.length ≤ 10) : ∀ {t : List Int} {k : Nat} {row wide : List Int} {C0 : MO} {a5 a7 a11 : V}, (∀ c ∈ t, c ∈ lawPool) -> (k = 0 ↔ row = []) -> row.length + 100 * t.length ≤ 5000 -> wide.length + 100 * t.length ≤ 5000 -> CellLo C0 ->
  ∃ b5 b7 b11 C0', CellLo C0' ∧ EvFor enB (upsE k t) ⟨Lc a0 a1 a2 (.ints gap) a4 a5 a6 a7 a8 a9 (.ints row) a11 a12 a13 a14 (.ints wide), [0, 1, 2], v, D C0 C2 left mixed⟩ .next
   ⟨Lc a0 a1 a2 (.ints gap) a4 b5 a6 b7 a8 a9 (.ints (rowP t row)) b11 a12 a13 a14 (.ints (wide ++ wideP gap t)), [0, 1, 2], v, D C0' C2 left mixed⟩ := by
 intro t
 induction t with
 | nil => exact fun {k row wide C0 a5 a7 a11} κ κ κ κ h => ⟨a5, a7, a11, C0, h, by unfold wideP; rw [List.flatMap_nil, List.append_nil]; exact .for0⟩
 | cons x t ih =>
  intro k row wide C0 a5 a7 a11 hx hk hr hw h0
  rw [List.length_cons] at hr hw
  have p3 := (poolHex x (hx x (.head _))).2.2
  obtain ⟨b7, b11, e1⟩ := en_ok (a0 := a0) (a1 := a1) (a2 := a2) (a4 := a4) (a6 := a6) (a7 := a7) (a8 := a8) (a9 := a9) (a11 := a11) (a12 := a12) (a13 := a13) (a14 := a14) (v := v) (left := left) (mixed := mixed) (k := k) (row := row) (wide := wide) (gap := gap) h2 (hx x (.head _)) (by omega) (by omega) hg
  have hs : ([(85 : Int), 43] ++ dsR x).length ≤ 12 := by rw [List.length_append]; show 2 + _ ≤ 12; omega
  have hrow : row ++ (if k = 0 then [] else [32]) = (if row = [] then row else row ++ [32]) := by
   by_cases q : k = 0
   ·rw [if_pos q, if_pos (hk.mp q), List.append_nil]
   ·rw [if_neg q, if_neg (fun h => q (hk.mpr h))]
  have hrl : (row ++ (if k = 0 then [] else [32])).length ≤ row.length + 1 := by
   rw [List.length_append]; split <;> simp
  obtain ⟨b5', b7', b11', C0', h3, e2⟩ := ih (k := k + 1) (row := row ++ (if k = 0 then [] else [32]) ++ ([85, 43] ++ dsR x)) (wide := wide ++ ([85, 43] ++ dsR x) ++ gap) (C0 := .cell (.int x)) (a5 := .int (k : Nat)) (a7 := b7) (a11 := b11) (fun y hy => hx y (.tail _ hy)) ⟨(fun h => absurd h (Nat.succ_ne_zero _)), fun h => by
   have := congrArg List.length h
   rw [List.length_append, List.length_append, List.length_append] at this
   simp at this⟩ (by rw [List.length_append]; omega) (by rw [List.length_append, List.length_append]; omega) (.inr ⟨_, rfl⟩)
  refine ⟨b5', b7', b11', C0', h3, .for1 (s1 := ⟨Lc a0 a1 a2 (.ints gap) a4 (.int (k : Nat)) a6 a7 a8 a9 (.ints row) a11 a12 a13 a14 (.ints wide), [0, 1, 2], v, D (.cell (.int x)) C2 left mixed⟩) ?_ e1 ?_⟩
  ·rcases h0 with rfl | ⟨k, rfl⟩ <;> rfl
  ·have e3 : rowP (x :: t) row = rowP t (row ++ (if k = 0 then [] else [32]) ++ ([85, 43] ++ dsR x)) := by rw [hrow]; rfl
   have e4 : wide ++ wideP gap (x :: t) = wide ++ ([85, 43] ++ dsR x) ++ gap ++ wideP gap t := by unfold wideP; rw [List.flatMap_cons]; simp
   rw [e3, e4]
   exact e2
end
noncomputable def half : List Int := [92, 117, 100, 56, 51, 100]
noncomputable def someL : List (List Int) := [half, half ++ [92, 117, 68, 69, 48, 48], [92, 117, 48, 48, 101, 57], half.take 5, [], half ++ [92, 117, 48, 48, 101, 57], half ++ half, half ++ [92, 117, 68, 67, 48, 48]]
theorem some_asc : ∀ xs ∈ someL, xs.length ≤ 20 ∧ ∀ x ∈ xs, asc x := by
 have : ∀ xs ∈ someL, xs.length ≤ 20 ∧ xs.all (fun x => decide (0 ≤ x) && decide (x < 128)) = true := by decide +kernel
 exact fun xs h => ⟨(this xs h).1, fun x hx => by
  have := List.all_eq_true.mp (this xs h).2 x hx
  simp at this
  exact this⟩
theorem signs_asc : ∀ x ∈ lawSigns, asc x := by
 have : lawSigns.all (fun x => decide (0 ≤ x) && decide (x < 128)) = true := by decide +kernel
 exact fun x hx => by
  have := List.all_eq_true.mp this x hx
  simp at this
  exact this
theorem lst_at {P : List (List Int)} {d : Int} (h0 : 0 ≤ d) (h1 : d < P.length) (hP : P.length ≤ 100) : ∃ xs ∈ P, ∀ τ, subV τ (.lst (P.map .ints)) (.int d) = some (.ints xs) := by
 have h3 : d.toNat < P.length := by omega
 refine ⟨P[d.toNat], List.getElem_mem h3, fun τ => ?_⟩
 show Option.or (Option.or (if 0 ≤ d ∧ d < 1000000 then (P.map V.ints)[d.toNat]? else none) _) _ = _
 rw [if_pos ⟨h0, by omega⟩, List.getElem?_map, List.getElem?_eq_getElem h3]
 rfl
noncomputable def gaps : List (List Int) := [[32], [9], [10, 32], [13, 10]]
theorem gap_ok : ∀ g ∈ gaps, ∃ g0 gs, g = g0 :: gs ∧ g0 ∈ [(32 : Int), 9, 10, 13] ∧ bl g0 = true ∧ (∀ x ∈ gs, bl x = true) ∧ g.length ≤ 10 := by
 unfold gaps
 repeat' refine List.forall_mem_cons.mpr ⟨?_, ?_⟩
 all_goals first
  | exact fun κ h => nomatch h
  | exact ⟨_, _, rfl, by decide, by decide, by decide, by decide⟩
theorem wide_len {gap : List Int} : ∀ {t : List Int}, t.length ≤ (wideP gap t).length
 | [] => Nat.le_refl _
 | a :: t => by
  have h1 := wide_len (gap := gap) (t := t)
  unfold wideP at h1 ⊢
  rw [List.flatMap_cons, List.length_append, List.length_cons]
  have : 1 ≤ ([85, 43] ++ dsR a ++ gap).length := by rw [List.length_append, List.length_append]; show 1 ≤ 2 + _ + _; omega
  omega
section
variable {l : List V} {cl : List Nat} {v : V} {τ : List MO}
theorem half_list (h1 : EvE (.loc 4) ⟨l, cl, v, τ⟩ (.ok (.ints half)) ⟨l, cl, v, τ⟩) : EvE (.list [(.loc 4), (.bin (binF .Add) (.loc 4) (.list [(.val (.int 92)), (.val (.int 117)), (.val (.int 68)), (.val (.int 69)), (.val (.int 48)), (.val (.int 48))])), (.list [(.val (.int 92)), (.val (.int 117)), (.val (.int 48)), (.val (.int 48)), (.val (.int 101)), (.val (.int 57))]), (.slice (.loc 4) (.val .none) (.val (.int 5))), (.list [])]) ⟨l, cl, v, τ⟩ (.ok (.lst ((someL.take 5).map .ints))) ⟨l, cl, v, τ⟩ :=
 .list (Xs := (someL.take 5).map .ints) (.cons h1 (.cons (.op (W := .ints (half ++ [92, 117, 68, 69, 48, 48])) h1 (.list (Xs := [.int 92, .int 117, .int 68, .int 69, .int 48, .int 48]) (.cons .val (.cons .val (.cons .val (.cons .val (.cons .val (.cons .val .nil))))))) rfl) (.cons (.list (Xs := [.int 92, .int 117, .int 48, .int 48, .int 101, .int 57]) (.cons .val (.cons .val (.cons .val (.cons .val (.cons .val (.cons .val .nil))))))) (.cons (.slice (W := .ints (half.take 5)) h1 .val .val rfl) (.cons (.list (Xs := []) .nil) .nil)))))
theorem half_more (h1 : EvE (.loc 4) ⟨l, cl, v, τ⟩ (.ok (.ints half)) ⟨l, cl, v, τ⟩) (h2 : EvE (.loc 12) ⟨l, cl, v, τ⟩ (.ok (.lst ((someL.take 5).map .ints))) ⟨l, cl, v, τ⟩) : EvE (.bin (binF .Add) (.loc 12) (.list [(.bin (binF .Add) (.loc 4) (.bin subF (.loc 12) (.val (.int 2)))), (.bin (binF .Add) (.loc 4) (.loc 4)), (.bin (binF .Add) (.loc 4) (.list [(.val (.int 92)), (.val (.int 117)), (.val (.int 68)), (.val (.int 67)), (.val (.int 48)), (.val (.int 48))]))])) ⟨l, cl, v, τ⟩ (.ok (.lst (someL.map .ints))) ⟨l, cl, v, τ⟩ :=
 .op h2 (.list (Xs := (someL.drop 5).map .ints) (.cons (.op (W := .ints (half ++ [92, 117, 48, 48, 101, 57])) h1 (.sub (W := .ints [92, 117, 48, 48, 101, 57]) h2 .val rfl) rfl) (.cons (.op (W := .ints (half ++ half)) h1 h1 rfl) (.cons (.op (W := .ints (half ++ [92, 117, 68, 67, 48, 48])) h1 (.list (Xs := [.int 92, .int 117, .int 68, .int 67, .int 48, .int 48]) (.cons .val (.cons .val (.cons .val (.cons .val (.cons .val (.cons .val .nil))))))) rfl) .nil)))) rfl
end
theorem rows_it {st : AS} : EvI (rowsW [.c 2, .l 8, .l 1] (.val v__law_rows)) st (lawRows.map upR) st :=
 EvI.rows (xs := lawRows.map rowV) (L := lawRows.map fun (x : Int × List UInt8 × List Int) => [V.int x.1, .bytes x.2.1.toArray, .ints x.2.2]) .val rfl rfl
theorem plain_law (ns : List Int) (hn : ns.length ≤ 63) : ∃ st', EvS f_law (st0 ns) (.ret (.bool true)) st' := by
 obtain ⟨left, mixed, hdeck, l0, m0, m0'⟩ := deck_eq (ns := ns) (by omega)
 have c0 : CellLo .cell0 := .inl rfl
 have s0 : EvS (.setC 1 (.call c__law_deck [(.loc 0)])) (st0 ns) .next ⟨Lc (.gints ns) .undef .undef .undef .undef .undef .undef .undef .undef .undef .undef .undef .undef .undef .undef .undef, [0, 1, 2], .undef, D .cell0 .cell0 left mixed⟩ :=
  EvS.setC (j := 1) (i := 1) (mo := .cell0) (EvE.call (l := Lc (.gints ns) .undef .undef .undef .undef .undef .undef .undef .undef .undef .undef .undef .undef .undef .undef .undef) (cl := [0, 1, 2]) (cv := .undef) (fs := [.loc 0]) (.cons (.loc rfl) .nil) hdeck) rfl rfl
 obtain ⟨t, left1, mixed1, s1, ht5, ht, l1, m1, m1'⟩ := EvS.drawn (l := Lc (.gints ns) .undef .undef .undef .undef .undef .undef .undef .undef .undef .undef .undef .undef .undef .undef .undef) (v := .undef) (k := 13) (P := lawPool) (many := 20) (m2 := 6) c0 c0 l0 ⟨m0, m0'⟩ rfl (by decide) (by decide) (by decide) (by decide)
 have htl : t.length ≤ 100 := by omega
 obtain ⟨b6, b14, C2, h2, s2⟩ := ways_loop (a0 := .gints ns) (a1 := .undef) (a2 := .undef) (a3 := .undef) (a4 := .undef) (a5 := .undef) (a7 := .undef) (a8 := .undef) (a9 := .undef) (a10 := .undef) (a11 := .undef) (a12 := .undef) (a15 := .undef) (v := .undef) (left := left1) (mixed := mixed1) (a6 := .undef) (a14 := .undef) c0 ht htl (ws := [0, 1, 2, 3, 4, 5]) (by decide) c0
 obtain ⟨b1, b8, C2', h2', s3⟩ := rows_loop (a0 := .gints ns) (a2 := .undef) (a3 := .undef) (a4 := .undef) (a5 := .undef) (a6 := b6) (a7 := .undef) (a9 := .undef) (a10 := .undef) (a11 := .undef) (a12 := .undef) (a13 := .ints t) (a14 := b14) (a15 := .undef) (v := .undef) (left := left1) (mixed := mixed1) (a1 := .undef) (a8 := .undef) c0 (rs := lawRows) (fun κ h => h) h2
 obtain ⟨d4, left2, mixed2, e4, d40, d41, l2, m2, m2'⟩ := call_draw (l := Lc (.gints ns) b1 .undef .undef .undef .undef b6 .undef b8 .undef .undef .undef .undef (.ints t) b14 .undef) (many := 4) c0 h2' l1 ⟨m1, m1'⟩ (by decide)
 obtain ⟨gap, hgap, hg⟩ := lst_at (P := gaps) d40 d41 (by decide)
 obtain ⟨g0, gs, rfl, hg0, hgb, hgs, hgl⟩ := gap_ok gap hgap
 have s4 : EvS (.setT [(.l 10), (.l 15), (.l 3)] [(.list []), (.list [(.val (.int 32))]), (.bin subF (.list [(.list [(.val (.int 32))]), (.list [(.val (.int 9))]), (.list [(.val (.int 10)), (.val (.int 32))]), (.list [(.val (.int 13)), (.val (.int 10))])]) (.call c__law_draw [(.cel 1), (.val (.int 4))]))])
   ⟨Lc (.gints ns) b1 .undef .undef .undef .undef b6 .undef b8 .undef .undef .undef .undef (.ints t) b14 .undef, [0, 1, 2], .undef, D .cell0 C2' left1 mixed1⟩ .next ⟨Lc (.gints ns) b1 .undef (.ints (g0 :: gs)) .undef .undef b6 .undef b8 .undef (.ints []) .undef .undef (.ints t) b14 (.ints [32]), [0, 1, 2], .undef, D .cell0 C2' left2 mixed2⟩ :=
  .setT (Xs := [.ints [], .ints [32], .ints (g0 :: gs)]) (.cons (.list (Xs := []) .nil) (.cons (.list (Xs := [.int 32]) (.cons .val .nil)) (.cons (.sub (X := .lst (gaps.map .ints)) (.list (Xs := gaps.map .ints) (.cons (.list (Xs := [.int 32]) (.cons .val .nil)) (.cons (.list (Xs := [.int 9]) (.cons .val .nil)) (.cons (.list (Xs := [.int 10, .int 32]) (.cons .val (.cons .val .nil))) (.cons (.list (Xs := [.int 13, .int 10]) (.cons .val (.cons .val .nil))) .nil))))) (e4 _) (hg _)) .nil))) ⟨rfl, Nat.le_refl 3⟩ rfl
 obtain ⟨b5, b7, b11, C0, h0, s5⟩ := en_loop (a0 := .gints ns) (a1 := b1) (a2 := .undef) (a4 := .undef) (a6 := b6) (a8 := b8) (a9 := .undef) (a12 := .undef) (a13 := .ints t) (a14 := b14) (v := .undef) (left := left2) (mixed := mixed2) (gap := g0 :: gs) (a5 := .undef) (a7 := .undef) (a11 := .undef) h2' hgl (k := 0) (row := []) (wide := [32]) ht ⟨fun κ => rfl, fun κ => rfl⟩ (by show 0 + _ ≤ 5000; omega) (by show 1 + _ ≤ 5000; omega) c0
 have hD5 : Lo (D C0 C2' left2 mixed2) := D_lo h0 h2'
 have hen := EvI.enum (is := [.l 5, .c 0]) (EvE.loc (i := 13) (l := Lc (.gints ns) b1 .undef (.ints (g0 :: gs)) .undef .undef b6 .undef b8 .undef (.ints []) .undef .undef (.ints t) b14 (.ints [32])) (cl := [0, 1, 2]) (v := .undef) (τ := D .cell0 C2' left2 mixed2) rfl) (rfl : listV (.ints t) = some (t.map .int))
 rw [List.length_map, show pairUps [.l 5, .c 0] (rangeL t.length fun i => (i : Nat)) (t.map V.int) = upsE 0 t by rw [← enum_ups, ← List.range_eq_range']; rfl] at hen
 have r1 := escape_row_eq (t := t) hD5 (fun c hc => (poolRow c (ht c hc)).1) htl
 have hwl : (wideP (g0 :: gs) t).length ≤ 5000 := by
  have : ∀ c ∈ t, ([85, 43] ++ dsR c ++ (g0 :: gs)).length ≤ 100 := fun c hc => by
   have := (poolHex c (ht c hc)).2.2
   rw [List.length_append, List.length_append]
   show 2 + _ + _ ≤ 100
   omega
  have := flat_len (ch := fun c => [85, 43] ++ dsR c ++ (g0 :: gs)) this
  unfold wideP
  omega
 have r2 : EvF c_unescape_row [.ints ([32] ++ wideP (g0 :: gs) t)] (D C0 C2' left2 mixed2) (.ok (.ints t)) (D C0 C2' left2 mixed2) := by
  refine unescape_row_eq hD5 (by rw [List.length_append]; show 1 + _ ≤ 100000; omega) ?_
  have hdw : ([32] ++ wideP (g0 :: gs) t).dropWhile bl = wideP (g0 :: gs) t := by
   show (32 :: wideP (g0 :: gs) t).dropWhile bl = _
   rw [List.dropWhile_cons, if_pos (by decide)]
   cases t with
   | nil => rfl
   | cons a t => rfl
  rw [hdw]
  have := rdRow_wide (g0 := g0) (gap := gs) hgb hgs (t := t) (acc := []) (k := ([32] ++ wideP (g0 :: gs) t).length + 1) (fun c hc => ⟨(poolRow c (ht c hc)).2.1, _, ((poolRow c (ht c hc)).2.2 g0 hg0).1, ((poolRow c (ht c hc)).2.2 g0 hg0).2⟩) (by
   have : t.length ≤ (wideP (g0 :: gs) t).length := wide_len
   rw [List.length_append]
   omega)
  rwa [List.nil_append] at this
 have s6 : EvS (.ite (.orL [(.bin (cmpF .NotEq) (.call c_escape_row [(.copy (.loc 13))]) (.loc 10)), (.bin (cmpF .NotEq) (.call c_unescape_row [(.loc 15)]) (.loc 13))]) (.seq (.retK (.val (.bool false))) .nop) .nop)
   ⟨Lc (.gints ns) b1 .undef (.ints (g0 :: gs)) .undef b5 b6 b7 b8 .undef (.ints (rowP t [])) b11 .undef (.ints t) b14 (.ints ([32] ++ wideP (g0 :: gs) t)), [0, 1, 2], .undef, D C0 C2' left2 mixed2⟩ .next ⟨Lc (.gints ns) b1 .undef (.ints (g0 :: gs)) .undef b5 b6 b7 b8 .undef (.ints (rowP t [])) b11 .undef (.ints t) b14 (.ints ([32] ++ wideP (g0 :: gs) t)), [0, 1, 2], .undef, D C0 C2' left2 mixed2⟩ :=
  .iteF (.orF (neq_ints (.call (.cons (.copy (.loc rfl) rfl (by omega)) .nil) r1) (.loc rfl) (by simp)) (.orF (neq_ints (.call (.cons (.loc rfl) .nil) r2) (.loc rfl) (by simp)) .orN)) .nop
 obtain ⟨x1, left3, mixed3, s7, x1l, x1s, l3, m3, m3'⟩ := EvS.drawn (l := Lc (.gints ns) b1 .undef (.ints (g0 :: gs)) .undef b5 b6 b7 b8 .undef (.ints (rowP t [])) b11 .undef (.ints t) b14 (.ints ([32] ++ wideP (g0 :: gs) t))) (v := .undef) (k := 11) (P := lawSigns) (many := 24) (m2 := 4) h0 h2' l2 ⟨m2, m2'⟩ rfl (by decide) (by decide) (by decide) (by decide)
 obtain ⟨d8, left4, mixed4, e8, d80, d81, l4, m4, m4'⟩ := call_draw (l := Lc (.gints ns) b1 .undef (.ints (g0 :: gs)) (.ints half) b5 b6 b7 b8 .undef (.ints (rowP t [])) (.ints x1) (.lst (someL.map .ints)) (.ints t) b14 (.ints ([32] ++ wideP (g0 :: gs) t))) (many := 8) h0 h2' l3 ⟨m3, m3'⟩ (by decide)
 obtain ⟨x2, hx2, hx2s⟩ := lst_at (P := someL) d80 d81 (by decide)
 obtain ⟨x2l, x2s⟩ := some_asc x2 hx2
 obtain ⟨x3, left5, mixed5, e12, x3l, x3s, l5, m5, m5'⟩ := EvE.drawn (l := Lc (.gints ns) b1 .undef (.ints (g0 :: gs)) (.ints half) b5 b6 b7 b8 .undef (.ints (rowP t [])) (.ints (x1 ++ x2)) (.lst (someL.map .ints)) (.ints t) b14 (.ints ([32] ++ wideP (g0 :: gs) t))) (v := .undef) (P := lawSigns) (many := 24) (m2 := 4) h0 h2' l4 ⟨m4, m4'⟩ rfl (by decide) (by decide) (by decide) (by decide)
 have hS : ∀ x ∈ x1 ++ x2 ++ x3, asc x := fun x hx => by
  rcases List.mem_append.mp hx with hx | hx
  ·rcases List.mem_append.mp hx with hx | hx
   ·exact signs_asc x (x1s x hx)
   ·exact x2s x hx
  ·exact signs_asc x (x3s x hx)
 have hSl : (x1 ++ x2 ++ x3).length ≤ 100 := by rw [List.length_append, List.length_append]; omega
 have hD : Lo (D C0 C2' left5 mixed5) := D_lo h0 h2'
 obtain ⟨j1, j2⟩ := law_json_eq (t := x1 ++ x2 ++ x3) hD (by omega) hS
 obtain ⟨u1, u2⟩ := unescape_json_eq (t := x1 ++ x2 ++ x3) hD (by omega)
 have s8 : EvS (.setL 4 (.list [(.val (.int 92)), (.val (.int 117)), (.val (.int 100)), (.val (.int 56)), (.val (.int 51)), (.val (.int 100))])) ⟨Lc (.gints ns) b1 .undef (.ints (g0 :: gs)) .undef b5 b6 b7 b8 .undef (.ints (rowP t [])) (.ints x1) .undef (.ints t) b14 (.ints ([32] ++ wideP (g0 :: gs) t)), [0, 1, 2], .undef, D C0 C2' left3 mixed3⟩ .next
   ⟨Lc (.gints ns) b1 .undef (.ints (g0 :: gs)) (.ints half) b5 b6 b7 b8 .undef (.ints (rowP t [])) (.ints x1) .undef (.ints t) b14 (.ints ([32] ++ wideP (g0 :: gs) t)), [0, 1, 2], .undef, D C0 C2' left3 mixed3⟩ :=
  .setL (.list (.cons .val (.cons .val (.cons .val (.cons .val (.cons .val (.cons .val .nil)))))))
 have s9 : EvS (.setL 12 (.list [(.loc 4), (.bin (binF .Add) (.loc 4) (.list [(.val (.int 92)), (.val (.int 117)), (.val (.int 68)), (.val (.int 69)), (.val (.int 48)), (.val (.int 48))])), (.list [(.val (.int 92)), (.val (.int 117)), (.val (.int 48)), (.val (.int 48)), (.val (.int 101)), (.val (.int 57))]), (.slice (.loc 4) (.val .none) (.val (.int 5))), (.list [])]))
   ⟨Lc (.gints ns) b1 .undef (.ints (g0 :: gs)) (.ints half) b5 b6 b7 b8 .undef (.ints (rowP t [])) (.ints x1) .undef (.ints t) b14 (.ints ([32] ++ wideP (g0 :: gs) t)), [0, 1, 2], .undef, D C0 C2' left3 mixed3⟩ .next
   ⟨Lc (.gints ns) b1 .undef (.ints (g0 :: gs)) (.ints half) b5 b6 b7 b8 .undef (.ints (rowP t [])) (.ints x1) (.lst ((someL.take 5).map .ints)) (.ints t) b14 (.ints ([32] ++ wideP (g0 :: gs) t)), [0, 1, 2], .undef, D C0 C2' left3 mixed3⟩ := .setL (half_list (.loc rfl))
 have s10 : EvS (.setL 12 (.bin (binF .Add) (.loc 12) (.list [(.bin (binF .Add) (.loc 4) (.bin subF (.loc 12) (.val (.int 2)))), (.bin (binF .Add) (.loc 4) (.loc 4)), (.bin (binF .Add) (.loc 4) (.list [(.val (.int 92)), (.val (.int 117)), (.val (.int 68)), (.val (.int 67)), (.val (.int 48)), (.val (.int 48))]))])))
   ⟨Lc (.gints ns) b1 .undef (.ints (g0 :: gs)) (.ints half) b5 b6 b7 b8 .undef (.ints (rowP t [])) (.ints x1) (.lst ((someL.take 5).map .ints)) (.ints t) b14 (.ints ([32] ++ wideP (g0 :: gs) t)), [0, 1, 2], .undef, D C0 C2' left3 mixed3⟩ .next
   ⟨Lc (.gints ns) b1 .undef (.ints (g0 :: gs)) (.ints half) b5 b6 b7 b8 .undef (.ints (rowP t [])) (.ints x1) (.lst (someL.map .ints)) (.ints t) b14 (.ints ([32] ++ wideP (g0 :: gs) t)), [0, 1, 2], .undef, D C0 C2' left3 mixed3⟩ := .setL (half_more (.loc rfl) (.loc rfl))
 have s11 : EvS (.setL 11 (.bin (binF .Add) (.loc 11) (.bin subF (.loc 12) (.call c__law_draw [(.cel 1), (.val (.int 8))])))) ⟨Lc (.gints ns) b1 .undef (.ints (g0 :: gs)) (.ints half) b5 b6 b7 b8 .undef (.ints (rowP t [])) (.ints x1) (.lst (someL.map .ints)) (.ints t) b14 (.ints ([32] ++ wideP (g0 :: gs) t)), [0, 1, 2], .undef, D C0 C2' left3 mixed3⟩ .next
   ⟨Lc (.gints ns) b1 .undef (.ints (g0 :: gs)) (.ints half) b5 b6 b7 b8 .undef (.ints (rowP t [])) (.ints (x1 ++ x2)) (.lst (someL.map .ints)) (.ints t) b14 (.ints ([32] ++ wideP (g0 :: gs) t)), [0, 1, 2], .undef, D C0 C2' left4 mixed4⟩ :=
  .setL (.op (W := .ints (x1 ++ x2)) (.loc rfl) (.sub (.loc rfl) (e8 _) (hx2s _)) (add_ints (by omega)))
 have s12 : EvS (.setL 11 (.bin (binF .Add) (.loc 11) (.comp (.range1 (.call c__law_draw [(.cel 1), (.val (.int 4))])) (.val (.bool true)) (.bin subF (.val v__law_signs) (.call c__law_draw [(.cel 1), (.val (.int 24))]))))) ⟨Lc (.gints ns) b1 .undef (.ints (g0 :: gs)) (.ints half) b5 b6 b7 b8 .undef (.ints (rowP t [])) (.ints (x1 ++ x2)) (.lst (someL.map .ints)) (.ints t) b14 (.ints ([32] ++ wideP (g0 :: gs) t)), [0, 1, 2], .undef, D C0 C2' left4 mixed4⟩ .next
   ⟨Lc (.gints ns) b1 .undef (.ints (g0 :: gs)) (.ints half) b5 b6 b7 b8 .undef (.ints (rowP t [])) (.ints (x1 ++ x2 ++ x3)) (.lst (someL.map .ints)) (.ints t) b14 (.ints ([32] ++ wideP (g0 :: gs) t)), [0, 1, 2], .undef, D C0 C2' left5 mixed5⟩ :=
  .setL (.op (W := .ints (x1 ++ x2 ++ x3)) (.loc rfl) e12 (add_ints (by rw [List.length_append]; omega)))
 have pre {fl : Fl} {s' : AS} {due places : V} (h13 : EvF c__law_json [.ints (x1 ++ x2 ++ x3)] (D C0 C2' left5 mixed5) (.ok (.tup [due, places])) (D C0 C2' left5 mixed5))
   (h : EvS (.tryE 45 2 (.seq (.retK (.binX (cmpF .Eq) (.call c_unescape_json [(.copy (.loc 11))]) (.loc 1))) .nop) (.seq (.retK (.and2 (.bin (cmpF .Is) (.loc 1) (.val .none)) (.bin inLF (.bin subF (.told 45 (.loc 2)) (.val (.int 0))) (.loc 9)))) .nop))
    ⟨Lc (.gints ns) due .undef (.ints (g0 :: gs)) (.ints half) b5 b6 b7 b8 places (.ints (rowP t [])) (.ints (x1 ++ x2 ++ x3)) (.lst (someL.map .ints)) (.ints t) b14 (.ints ([32] ++ wideP (g0 :: gs) t)), [0, 1, 2], .undef, D C0 C2' left5 mixed5⟩ fl s') : EvS f_law (st0 ns) fl s' :=
  .seq s0 (.seq s1 (.seq (.for (.name (.range1 .val (by decide))) s2) (.seq (.for rows_it s3) (.seq s4 (.seq (.for hen s5) (.seq s6 (.seq s7 (.seq s8 (.seq s9 (.seq s10 (.seq s11 (.seq s12 (.seq (.setU (.call (.cons (.loc rfl) .nil) h13) rfl rfl) (.one h))))))))))))))
 cases hr : rdAll rdJ bareJ ((x1 ++ x2 ++ x3).length + 1) (x1 ++ x2 ++ x3) [] with
 | ok res =>
  have e := pre (j1 res hr) (.try0 (.one (.retK (.binX (X := .ints res) (U := .ints res) (W := .bool true) (.call (.cons (.copy (.loc rfl) rfl (by omega)) .nil) (u1 res hr)) (.loc rfl) (by show some (V.bool (decide (res = res))) = _; simp)))) rfl)
  exact ⟨_, e⟩
 | error m =>
  obtain ⟨ps, hj, hp⟩ := j2 m hr
  obtain ⟨hm, w, hu⟩ := u2 m hr
  have e := pre hj (.tryX (i := 2) (.one (.ofX (.binXX (.call (.cons (.copy (.loc rfl) rfl (by omega)) .nil) hu)))) (.one (.retK (.and2T (.cmp (.loc rfl) .val rfl) (.bin (X := .int (((x1 ++ x2 ++ x3).length - m : Nat))) (U := .ints ps) (.sub (X := .tup [.int (((x1 ++ x2 ++ x3).length - m : Nat)), .str w]) (.told (.loc rfl) rfl) .val rfl) (.loc rfl) (by
    show some (V.bool (ps.any (· == (((x1 ++ x2 ++ x3).length - m : Nat) : Int)))) = some (V.bool true)
    rw [List.any_eq_true.mpr ⟨_, hp, by simp⟩]))))))
  exact ⟨_, e⟩
theorem BindsTo.fd {K : Frag} {a : Addr} {oc : Value} {od : Option Addr} {fd : FuncData} {osl : Array (Option Value)} (h : K.lookup a = some ⟨oc, od, .func fd, osl⟩) {s : Shared} {x : Args} {b : List (Str × Value)} (i : BindsTo s fd x b) : BindsTo s (fdIn K a) x b := by
 have e : fdIn K a = fd := by unfold fdIn fdAt; rw [h]; rfl
 rw [e]; exact i
theorem All.cons {α : Type} {P : α -> Prop} {x : α} {r : List α} (h : P x) (t : All P r) : All P (x :: r) := ⟨h, t⟩
theorem tabs_all {P : Addr × Addr -> Prop} (a : P (406, 404)) (b : P (347, 343)) (c : P (311, 307)) (d : P (282, 278)) (e : P (367, 365)) (f : P (253, 249)) : All P tabsL := ⟨a, b, c, d, e, f, trivial⟩
/- These names are taken beforehand: for each that stands, the quick layer of the library makes no twin of a constant of the head (69 MB of them). Nothing rests on them. -/
theorem top.tw17542608870123051758 : True := trivial
theorem top.tw3976154599441133093 : True := trivial
theorem top.tw11760055953109336660 : True := trivial
theorem top.tw4213018616267185653 : True := trivial
theorem top.tw1971433849790844608 : True := trivial
theorem top.tw4047667213573674445 : True := trivial
theorem top.tw11520865232209809239 : True := trivial
theorem top.tw2464713573024523455 : True := trivial
theorem top.tw13994475860397038760 : True := trivial
theorem top.tw17081178143035459574 : True := trivial
theorem top.tw9227057690007400460 : True := trivial
theorem top.tw14632489290957082403 : True := trivial
theorem top.tw5667650583090716360 : True := trivial
theorem top.tw7008692893051332821 : True := trivial
theorem top.tw1040915598704419856 : True := trivial
theorem top.tw18177719399980262173 : True := trivial
theorem top.tw18034075008235765660 : True := trivial
theorem top.tw775762912060472103 : True := trivial
theorem top.tw283044589724301 : True := trivial
theorem top.tw9366391650621772374 : True := trivial
theorem top.tw1617357707322924660 : True := trivial
theorem top.tw13666164859646144974 : True := trivial
theorem top.tw2506305409684761478 : True := trivial
theorem top.tw1350381001444919158 : True := trivial
theorem top.tw6127594578889010139 : True := trivial
theorem top.tw13802547742096326172 : True := trivial
theorem top.tw11133666699803404755 : True := trivial
theorem top.tw11334350811105764591 : True := trivial
theorem top.tw2665807947273092163 : True := trivial
theorem top.tw5244899138074338376 : True := trivial
theorem top.tw1869187583165140508 : True := trivial
theorem top.tw3730354652608582461 : True := trivial
theorem top.tw8679839319945467846 : True := trivial
theorem top.tw908825868028484722 : True := trivial
theorem top.tw104434173382791472 : True := trivial
theorem top.tw1814787853859245837 : True := trivial
theorem top.tw7527032243904285869 : True := trivial
theorem top.tw11922380849998532372 : True := trivial
theorem top.tw6211089042160764376 : True := trivial
theorem top.tw1754339480302792767 : True := trivial
theorem top.tw16719718919923625709 : True := trivial
theorem top.tw453181688931711583 : True := trivial
theorem top.tw16123964013534891561 : True := trivial
theorem top.tw4383139521930768336 : True := trivial
theorem top.tw13345470168829271861 : True := trivial
theorem top.tw13044034144603486326 : True := trivial
theorem top.tw13369591340354186047 : True := trivial
theorem top.tw6812286434817487243 : True := trivial
theorem top.tw16439428074185983240 : True := trivial
theorem top.tw16415559393655328363 : True := trivial
theorem top.tw8321918168302905379 : True := trivial
theorem top.tw14371913498598963198 : True := trivial
theorem top.tw9233335307524088747 : True := trivial
theorem top.tw12415523145999629524 : True := trivial
theorem top.tw1195175773429642966 : True := trivial
theorem top.tw16058212318047004132 : True := trivial
theorem top.tw5225153198818245361 : True := trivial
theorem top.tw1124271682379634556 : True := trivial
theorem top.tw4597200072644226624 : True := trivial
theorem top.tw8735323631387419056 : True := trivial
theorem top.tw8645369167282567922 : True := trivial
theorem top.tw1284575025550258836 : True := trivial
theorem top.tw8689318265317240412 : True := trivial
theorem top.tw6694047246710070196 : True := trivial
theorem top.tw5225916559131626549 : True := trivial
theorem top.tw649594095290182367 : True := trivial
theorem top.tw13272337422414781067 : True := trivial
theorem top.tw10801874191123338550 : True := trivial
theorem top.tw18367679650794681301 : True := trivial
theorem top.tw8212240652046128837 : True := trivial
theorem top.tw13359135706311490777 : True := trivial
theorem top.tw11762496359356365647 : True := trivial
theorem top.tw1068965626710143233 : True := trivial
theorem top.tw7250933059871147345 : True := trivial
theorem top.tw14399976873020721970 : True := trivial
theorem top.tw2985252069258134486 : True := trivial
theorem top.tw8204474986945543665 : True := trivial
theorem top.tw13370750898655102155 : True := trivial
theorem top.tw8435561252592420358 : True := trivial
theorem top.tw8139039716903228087 : True := trivial
theorem top.tw5088376156974544275 : True := trivial
theorem top.tw1149218181149386328 : True := trivial
theorem top.tw18064794426631996164 : True := trivial
theorem top.tw5915399644114372684 : True := trivial
theorem top.tw9851269098105209369 : True := trivial
theorem top.tw7847650389618582240 : True := trivial
theorem top.tw14901070454687303710 : True := trivial
theorem top.tw16580785732701462914 : True := trivial
theorem top.tw2377541652452675900 : True := trivial
theorem top.tw4835499133494076262 : True := trivial
theorem top.tw12342655685612074800 : True := trivial
theorem top.tw14826035006057030972 : True := trivial
theorem top.tw10936122117785486979 : True := trivial
theorem top.tw15245507539482535896 : True := trivial
theorem top.tw1294077662247117797 : True := trivial
theorem top.tw1843344800811705456 : True := trivial
theorem top.tw9961057766049560675 : True := trivial
theorem top.tw7622788414804475640 : True := trivial
theorem top.tw16759092144687519636 : True := trivial
theorem top.tw7444641836354208208 : True := trivial
theorem top.tw15092371282622821202 : True := trivial
theorem top.tw13630981992440259351 : True := trivial
theorem top.tw1676862907878916244 : True := trivial
theorem top.tw14263998999751124003 : True := trivial
theorem top.tw12080426169559351053 : True := trivial
theorem top.tw4551080515912023512 : True := trivial
theorem top.tw6431110157172167083 : True := trivial
theorem top.tw2126296398998916975 : True := trivial
theorem top.tw17342085116792181814 : True := trivial
theorem top.tw3739144386018749749 : True := trivial
theorem top.tw15976228082101565994 : True := trivial
theorem top.tw860223938195835975 : True := trivial
theorem top.tw18085771088847121727 : True := trivial
theorem top.tw11582926029173025856 : True := trivial
theorem top.tw12819366960792805191 : True := trivial
theorem top.tw8237333600419904120 : True := trivial
theorem top.tw18063644159110109576 : True := trivial
theorem top.tw14724332232928298890 : True := trivial
theorem top.tw5476889619067714990 : True := trivial
theorem top.tw17810072253543177317 : True := trivial
theorem top.tw4555866861457887817 : True := trivial
theorem top.tw17620759639134147866 : True := trivial
theorem top.tw13090165191389475591 : True := trivial
theorem top.tw11141966352661209427 : True := trivial
theorem top.tw8622502720953521162 : True := trivial
theorem top.tw13290321428070320777 : True := trivial
theorem top.tw17323899518341599180 : True := trivial
theorem top.tw5058314954733539658 : True := trivial
theorem top.tw8369368087495890639 : True := trivial
theorem top.tw4526881389914513428 : True := trivial
theorem top.tw501154541418245514 : True := trivial
theorem top.tw13420762306968818387 : True := trivial
theorem top.tw8148004212497801138 : True := trivial
theorem top.tw8265191368974092141 : True := trivial
theorem top.tw14142502885225118848 : True := trivial
theorem top.tw13134186033006778460 : True := trivial
theorem top.tw877433047237710547 : True := trivial
theorem top.tw2731995056826638727 : True := trivial
theorem top.tw7830913209206220567 : True := trivial
theorem top.tw15058813355848621054 : True := trivial
theorem top.tw708234853630380328 : True := trivial
theorem top.tw7671549972530922468 : True := trivial
theorem top.tw9913501989792142831 : True := trivial
theorem top.tw9063741608606530840 : True := trivial
theorem top.tw6438537300738474071 : True := trivial
theorem top.tw14168018189251442112 : True := trivial
theorem top.tw15503665604740900718 : True := trivial
theorem top.tw6487610083215253720 : True := trivial
theorem top.tw6662652255960138227 : True := trivial
theorem top.tw5581607755468803823 : True := trivial
theorem top.tw6664487174759623829 : True := trivial
theorem top.tw7847352863974893604 : True := trivial
theorem top.tw4671429814451907529 : True := trivial
theorem top.tw16453443671601555132 : True := trivial
theorem top.tw2835187731363253809 : True := trivial
theorem top.tw14789260269991461300 : True := trivial
theorem top.tw14402358008270493973 : True := trivial
theorem top.tw11459358961799972967 : True := trivial
theorem top.tw12945667359872996184 : True := trivial
theorem top.tw8184561461823581802 : True := trivial
theorem top.tw11423202765487971197 : True := trivial
theorem top.tw2462062305354472974 : True := trivial
theorem top.tw9743097575036673082 : True := trivial
theorem top.tw11960245374511038805 : True := trivial
theorem top.tw14349089067433371257 : True := trivial
theorem top.tw9059672392935016618 : True := trivial
theorem top.tw4655869559712951663 : True := trivial
theorem top.tw7429413206186439793 : True := trivial
theorem top.tw16155163154822807229 : True := trivial
theorem top.tw6930518751129746686 : True := trivial
theorem top.tw9601329371697537090 : True := trivial
theorem top.tw16782997733028217545 : True := trivial
theorem top.tw8036327681605100784 : True := trivial
theorem top.tw13177472732611162249 : True := trivial
theorem top.tw728428047077509346 : True := trivial
theorem top.tw7990429038631628895 : True := trivial
theorem top.tw2145171640123136144 : True := trivial
theorem top.tw5118827330378232414 : True := trivial
theorem top.tw15877122091014420850 : True := trivial
theorem top.tw12427389293880184781 : True := trivial
theorem top.tw6520327441239513222 : True := trivial
theorem top.tw17565814175750979855 : True := trivial
theorem top.tw14646202821849125000 : True := trivial
theorem top.tw12625161707284158652 : True := trivial
theorem top.tw18237780215024852062 : True := trivial
theorem top.tw16900427199656544559 : True := trivial
theorem top.tw1428903351477058769 : True := trivial
theorem top.tw17795014544551873601 : True := trivial
theorem top.tw2057334267981633021 : True := trivial
theorem top.tw146815374380898660 : True := trivial
theorem top.tw1886144042066472794 : True := trivial
theorem top.tw2847958352784047137 : True := trivial
theorem top.tw14459580976405569124 : True := trivial
theorem top.tw9614876229902214918 : True := trivial
theorem top.tw3195522803047326042 : True := trivial
theorem top.tw381845443943030031 : True := trivial
theorem top.tw6286779285267259847 : True := trivial
theorem top.tw5766051744304087583 : True := trivial
theorem top.tw3254097082911018636 : True := trivial
theorem top.tw1516213087968936877 : True := trivial
theorem top.tw10404823597219466188 : True := trivial
theorem top.tw18008055252877512497 : True := trivial
theorem top.tw7743179893348639699 : True := trivial
theorem top.tw1108800333578037850 : True := trivial
theorem top.tw53344730913325255 : True := trivial
theorem top.tw12501917291106330125 : True := trivial
theorem top.tw12392516345856041104 : True := trivial
theorem top.tw5105846836358774362 : True := trivial
theorem top.tw9800703332001039478 : True := trivial
theorem top.tw14608685727046917156 : True := trivial
theorem top.tw15985961358823992270 : True := trivial
theorem top.tw14917401599646851644 : True := trivial
theorem top.tw705360758644809490 : True := trivial
theorem top.tw5597187220613765494 : True := trivial
theorem top.tw10090393231696489298 : True := trivial
theorem top.tw17953984050398360512 : True := trivial
theorem top.tw2732273902793177162 : True := trivial
theorem top.tw11430207588045935325 : True := trivial
theorem top.tw4076138812419527698 : True := trivial
theorem top.tw4159251561096739476 : True := trivial
theorem top.tw13001836021917841797 : True := trivial
theorem top.tw2249405535684624136 : True := trivial
theorem top.tw3995942328266245912 : True := trivial
theorem top.tw13501252493785611398 : True := trivial
theorem top.tw6885214360128481674 : True := trivial
theorem top.tw5303079699428457377 : True := trivial
theorem top.tw1732150942055357024 : True := trivial
theorem top.tw16174758807025615021 : True := trivial
theorem top.tw10195997230039290492 : True := trivial
theorem top.tw3378803678994701225 : True := trivial
theorem top.tw9335426496214029073 : True := trivial
theorem top.tw4916261283513009128 : True := trivial
theorem top.tw18086089286151905521 : True := trivial
theorem top.tw6240723676877644813 : True := trivial
theorem top.tw9595512800414480283 : True := trivial
theorem top.tw13120753694373217308 : True := trivial
theorem top.tw5155950481276406077 : True := trivial
theorem top.tw9259421805112917234 : True := trivial
theorem top.tw16795567611416646642 : True := trivial
theorem top.tw16541100652227675460 : True := trivial
theorem top.tw2218668502564051296 : True := trivial
theorem top.tw6189502492464219833 : True := trivial
theorem top.tw8538268897159353584 : True := trivial
theorem top.tw11279390925490393535 : True := trivial
theorem top.tw15740088241188596515 : True := trivial
theorem top.tw17886615442053742456 : True := trivial
theorem top.tw2287823674025257028 : True := trivial
theorem top.tw6430265229019958763 : True := trivial
theorem top.tw5278709424875269971 : True := trivial
theorem top.tw25490976956596596 : True := trivial
theorem top.tw17355269125676882429 : True := trivial
theorem top.tw11546936639936008217 : True := trivial
theorem top.tw18289109515434150305 : True := trivial
theorem top.tw14796646475526232899 : True := trivial
theorem top.tw105208000716104510 : True := trivial
theorem top.tw1492452104121835379 : True := trivial
theorem top.tw9378254376102152143 : True := trivial
theorem top.tw10548783162686979305 : True := trivial
theorem top.tw8335412135813284522 : True := trivial
theorem top.tw6859976401760118174 : True := trivial
theorem top.tw10956490626425055710 : True := trivial
theorem top.tw11466170419677230873 : True := trivial
theorem top.tw13896958669275611876 : True := trivial
theorem top.tw4498253355057717688 : True := trivial
theorem top.tw1139600151236580504 : True := trivial
theorem top.tw15095372191486117680 : True := trivial
theorem top.tw8025738503920905074 : True := trivial
theorem top.tw13983857475226248213 : True := trivial
theorem top.tw13889484949932952446 : True := trivial
theorem top.tw12622177474791663080 : True := trivial
theorem top.tw18371284783138465269 : True := trivial
theorem top.tw4656485037274611717 : True := trivial
theorem top.tw6042063481754889096 : True := trivial
theorem top.tw16196420915677631385 : True := trivial
theorem top.tw9759319705405543751 : True := trivial
theorem top.tw17315540178315561739 : True := trivial
theorem top.tw12105128591322288922 : True := trivial
theorem top.tw12535971307161669396 : True := trivial
theorem top.tw3337584539547039419 : True := trivial
theorem top.tw12643491718579748851 : True := trivial
theorem top.tw1047907039808853306 : True := trivial
theorem top.tw6898770573198911631 : True := trivial
theorem top.tw4299629679881509495 : True := trivial
theorem top.tw15860264024139754761 : True := trivial
theorem top.tw9919435345466941130 : True := trivial
theorem top.tw17089494485692210459 : True := trivial
theorem top.tw12166907935582030026 : True := trivial
theorem top.tw16054190913257422852 : True := trivial
theorem top.tw11809222419101719397 : True := trivial
theorem top.tw12540527436937284434 : True := trivial
theorem top.tw14502225709538309166 : True := trivial
theorem top.tw1245559373397905713 : True := trivial
theorem top.tw12376051458212225564 : True := trivial
theorem top.tw10996937224433265937 : True := trivial
theorem top.tw4840481374290595910 : True := trivial
theorem top.tw6883741973766446791 : True := trivial
theorem top.tw6973401727384321114 : True := trivial
theorem top.tw18186074749648716422 : True := trivial
theorem top.tw14747140909534839006 : True := trivial
theorem top.tw8657480035899644758 : True := trivial
theorem top.tw788273225186049534 : True := trivial
theorem top.tw12318557346453588183 : True := trivial
theorem top.tw8049430160267790072 : True := trivial
theorem top.tw2555065506035805374 : True := trivial
theorem top.tw16325430554902658873 : True := trivial
theorem top.tw11199710921928265848 : True := trivial
theorem top.tw2443449257678562572 : True := trivial
theorem top.tw15361541807878343388 : True := trivial
theorem top.tw11443710868159068359 : True := trivial
theorem top.tw14987219478266130788 : True := trivial
theorem top.tw7715697345341360870 : True := trivial
theorem top.tw9739860059890490050 : True := trivial
theorem top.tw10005945817407372193 : True := trivial
theorem top.tw1638113669730673903 : True := trivial
theorem top.tw16800595933775061595 : True := trivial
theorem top.tw5938664839603501006 : True := trivial
theorem top.tw3969286963782609292 : True := trivial
theorem top.tw7297446738713254254 : True := trivial
theorem top.tw1833847959688406909 : True := trivial
theorem top.tw16104615914030681952 : True := trivial
theorem top.tw15299407806266782574 : True := trivial
theorem top.tw17492772389151264855 : True := trivial
theorem top.tw5969682004907312646 : True := trivial
theorem top.tw814325599930780420 : True := trivial
theorem top.tw14597223018079223185 : True := trivial
theorem top.tw2924597203103170677 : True := trivial
theorem top.tw2220570432770164149 : True := trivial
theorem top.tw9631074621892390191 : True := trivial
theorem top.tw17428532607074087071 : True := trivial
theorem top.tw342308947776675178 : True := trivial
theorem top.tw9361663168868926718 : True := trivial
theorem top.tw2907113945770861938 : True := trivial
theorem top.tw2617719716777270872 : True := trivial
theorem top.tw297971269722091814 : True := trivial
theorem top.tw4205137553216949640 : True := trivial
theorem top.tw1601500998369573665 : True := trivial
theorem top.tw14282377253939248939 : True := trivial
theorem top.tw9059832203979395877 : True := trivial
theorem top.tw17447736555313516452 : True := trivial
theorem top.tw956942650209027819 : True := trivial
theorem top.tw10079171474624433434 : True := trivial
theorem top.tw15240379268576122478 : True := trivial
theorem top.tw17469865338272021226 : True := trivial
theorem top.tw12787338502077490372 : True := trivial
theorem top.tw12718909917080609646 : True := trivial
theorem top.tw8523463495250067690 : True := trivial
theorem top.tw15169761463676818070 : True := trivial
theorem top.tw11845233108574324481 : True := trivial
theorem top.tw12094960947251128927 : True := trivial
theorem top.tw16044733080236030384 : True := trivial
theorem top.tw10617020205504526918 : True := trivial
theorem top.tw6196800358849779857 : True := trivial
theorem top.tw9305691244287143441 : True := trivial
theorem top.tw4699463449715708850 : True := trivial
theorem top.tw7600245330811189008 : True := trivial
theorem top.tw8810280945414196856 : True := trivial
theorem top.tw13822267516522204269 : True := trivial
theorem top.tw10864713392326063847 : True := trivial
theorem top.tw8507776931139520737 : True := trivial
theorem top.tw9589608677651300831 : True := trivial
theorem top.tw1483126911874232274 : True := trivial
theorem top.tw11203750815551599093 : True := trivial
theorem top.tw370947364307004932 : True := trivial
theorem top.tw13264354339760550358 : True := trivial
theorem top.tw987869383939708018 : True := trivial
theorem top.tw15918733279669447828 : True := trivial
theorem top.tw12958502747184954254 : True := trivial
theorem top.tw3712731000106771831 : True := trivial
theorem top.tw795583310449317561 : True := trivial
theorem top.tw1400011881503588481 : True := trivial
theorem top.tw5889316905344633881 : True := trivial
theorem top.tw18245740138792012028 : True := trivial
theorem top.tw3584897518013459382 : True := trivial
theorem top.tw2782073688633401757 : True := trivial
theorem top.tw8107780213005350392 : True := trivial
theorem top.tw9503340733035011235 : True := trivial
theorem top.tw8140125068956082859 : True := trivial
theorem top.tw16597617366809209970 : True := trivial
theorem top.tw8472579005086612782 : True := trivial
theorem top.tw9442318146202087700 : True := trivial
theorem top.tw16204670001084760307 : True := trivial
theorem top.tw339143206060000330 : True := trivial
theorem top.tw13889309363888878346 : True := trivial
theorem top.tw7414872774492366064 : True := trivial
theorem top.tw4166218997396506358 : True := trivial
theorem top.tw14697636140705633519 : True := trivial
theorem top.tw7458633546980236471 : True := trivial
theorem top.tw14390669486469195807 : True := trivial
theorem top.tw887695700811335699 : True := trivial
theorem top.tw3195968871104189447 : True := trivial
theorem top.tw16550210197400561554 : True := trivial
theorem top.tw9272544492142499777 : True := trivial
theorem top.tw9843447840031818808 : True := trivial
theorem top.tw10448899703829047738 : True := trivial
theorem top.tw14611434983143301774 : True := trivial
theorem top.tw2683898200743741643 : True := trivial
theorem top.tw2213029860928159205 : True := trivial
theorem top.tw2514443458684651071 : True := trivial
theorem top.tw10187264123177260123 : True := trivial
theorem top.tw196536941598035525 : True := trivial
theorem top.tw4025469624842517739 : True := trivial
theorem top.tw12385144161495827662 : True := trivial
theorem top.tw4828031223510198475 : True := trivial
theorem top.tw9953747333497923681 : True := trivial
theorem top.tw10008474027749305400 : True := trivial
theorem top.tw517144808224063464 : True := trivial
theorem top.tw12012865196380796599 : True := trivial
theorem top.tw3855276242980373810 : True := trivial
theorem top.tw11334415319851112604 : True := trivial
theorem top.tw14615657086365298920 : True := trivial
theorem top.tw13160728816969591200 : True := trivial
theorem top.tw2007660962349395123 : True := trivial
theorem top.tw2988451766255067171 : True := trivial
theorem top.tw16713831800681072344 : True := trivial
theorem top.tw4997509813036325311 : True := trivial
theorem top.tw17219337458794519322 : True := trivial
theorem top.tw575894324575664597 : True := trivial
theorem top.tw11334203419191126389 : True := trivial
theorem top.tw15362295582089109014 : True := trivial
theorem top.tw13068111086705522682 : True := trivial
theorem top.tw5868845118606482295 : True := trivial
theorem top.tw7386116660499605909 : True := trivial
theorem top.tw9195894827357321740 : True := trivial
theorem top.tw2758071753971750899 : True := trivial
theorem top.tw14372152842798730730 : True := trivial
theorem top.tw864819663365544661 : True := trivial
theorem top.tw3776753064480771068 : True := trivial
theorem top.tw1706793611546318481 : True := trivial
theorem top.tw76412952228603488 : True := trivial
theorem top.tw81815255157605957 : True := trivial
theorem top.tw6761616313442571491 : True := trivial
theorem top.tw17177869089781658578 : True := trivial
theorem top.tw10797620697341660853 : True := trivial
theorem top.tw9166809390415177425 : True := trivial
theorem top.tw10987319290404115282 : True := trivial
theorem top.tw4571971715460732019 : True := trivial
theorem top.tw8973803690348224638 : True := trivial
theorem top.tw9962302188120564619 : True := trivial
theorem top.tw15569959144833144457 : True := trivial
theorem top.tw4321519831107876412 : True := trivial
theorem top.tw9768079942903668216 : True := trivial
theorem top.tw8640399195822439974 : True := trivial
theorem top.tw16821654228018055803 : True := trivial
theorem top.tw3474246075231452896 : True := trivial
theorem top.tw13326734554550294991 : True := trivial
theorem top.tw8345894832289464959 : True := trivial
theorem top.tw17486766287000646611 : True := trivial
theorem top.tw1817607043029479484 : True := trivial
theorem top.tw17030962893124633753 : True := trivial
theorem top.tw7673058066778466091 : True := trivial
theorem top.tw10657950659306570408 : True := trivial
theorem top.tw14533951869480809633 : True := trivial
theorem top.tw8143265674769528471 : True := trivial
theorem top.tw2369445192022557226 : True := trivial
set_option tactic.hygienic true
set_option Elab.async true
set_option maxHeartbeats 8000000 in
theorem top : PySem.Challenge.rw_nt0037_01.Holds := by
 w_on
 o_law
 k_head
 (case hw => w_witness2)
 k_go0
 rename_i w s₀ s₁ mg mb G Y fa o pm cd doc ho hcd hg X V T B TE TW ns hs hlay0 hL1 hr1 hl2 w7 w6 a vs w3 hLs ra w1 r0 hI hr hc1 hc2 hD h₁ tk₁ o3 o2 o1 e3 e2 e1 X0 X' T' K' F' cd5 cd4 cd3 cd2 cd1 N' l0
 have mkKF : ∀ {F : Params -> Frag} {P : Params} {h : Heap}, (F P).In h -> (∀ P, KFacts (F P)) -> KFacts (F P) := fun κ k => k _
 have KF := mkKF X' fun P => {
  g := by kernel_rfl,
  keep := by kernel_rfl,
  fd := by kernel_rfl,
  cd := by kernel_rfl,
  binds := by
   refine All.cons ?_ ?_
   ·intro a s X; refine BindsTo.of_eq ?_; kernel_rfl
   refine All.cons ?_ ?_
   ·intro a s X; refine BindsTo.of_eq ?_; kernel_rfl
   refine All.cons ?_ ?_
   ·intro a s X; refine BindsTo.of_eq ?_; kernel_rfl
   refine All.cons ?_ ?_
   ·intro a s X; refine BindsTo.of_eq ?_; kernel_rfl
   refine All.cons ?_ ?_
   ·intro a s X; refine BindsTo.of_eq ?_; kernel_rfl
   refine All.cons ?_ ?_
   ·intro a s X; refine BindsTo.of_eq ?_; kernel_rfl
   refine All.cons ?_ ?_
   ·intro a s X; refine BindsTo.of_eq ?_; kernel_rfl
   refine All.cons ?_ ?_
   ·intro a s X; refine BindsTo.of_eq ?_; kernel_rfl
   refine All.cons ?_ ?_
   ·intro a b c s X; refine BindsTo.of_eq ?_; kernel_rfl
   refine All.cons ?_ ?_
   ·intro a b s X; refine BindsTo.fd rfl ?_; exact binds_K X rfl (by rfl) rfl (by rfl) (by rfl)
   refine All.cons ?_ ?_
   ·intro a b c d s X; refine BindsTo.of_eq ?_; kernel_rfl
   refine All.cons ?_ ?_
   ·intro a b s X; refine BindsTo.of_eq ?_; kernel_rfl
   refine All.cons ?_ ?_
   ·intro a b s X; refine BindsTo.of_eq ?_; kernel_rfl
   refine All.cons ?_ ?_
   ·intro a b c s X; refine BindsTo.of_eq ?_; kernel_rfl
   refine All.cons ?_ ?_
   ·intro a s X; refine BindsTo.of_eq ?_; kernel_rfl
   refine All.cons ?_ ?_
   ·intro a s X; refine BindsTo.fd rfl ?_; exact binds_K X rfl (by rfl) rfl (by rfl) (by rfl)
   refine All.cons ?_ ?_
   ·intro a b s X; refine BindsTo.of_eq ?_; kernel_rfl
   refine All.cons ?_ ?_
   ·intro a s X; refine BindsTo.of_eq ?_; kernel_rfl
   refine All.cons ?_ ?_
   ·intro a s X; refine BindsTo.of_eq ?_; kernel_rfl
   refine All.cons ?_ ?_
   ·intro a s X; refine BindsTo.fd rfl ?_; exact binds_K X rfl (by rfl) rfl (by rfl) (by rfl)
   refine All.cons ?_ ?_
   ·intro a b s X; refine BindsTo.of_eq ?_; kernel_rfl
   refine All.cons ?_ ?_
   ·intro a s X; refine BindsTo.of_eq ?_; kernel_rfl
   refine All.cons ?_ ?_
   ·intro a s X; refine BindsTo.of_eq ?_; kernel_rfl
   refine All.cons ?_ ?_
   ·intro a s X; refine BindsTo.fd rfl ?_; exact binds_K X rfl (by rfl) rfl (by rfl) (by rfl)
   refine All.cons ?_ ?_
   ·intro a b s X; refine BindsTo.of_eq ?_; kernel_rfl
   refine All.cons ?_ ?_
   ·intro a s X; refine BindsTo.of_eq ?_; kernel_rfl
   refine All.cons ?_ ?_
   ·intro a s X; refine BindsTo.of_eq ?_; kernel_rfl
   refine All.cons ?_ ?_
   ·intro a s X; refine BindsTo.fd rfl ?_; exact binds_K X rfl (by rfl) rfl (by rfl) (by rfl)
   refine All.cons ?_ ?_
   ·intro a b s X; refine BindsTo.of_eq ?_; kernel_rfl
   refine All.cons ?_ ?_
   ·intro a b s X; refine BindsTo.of_eq ?_; kernel_rfl
   refine All.cons ?_ ?_
   ·intro a s X; refine BindsTo.of_eq ?_; kernel_rfl
   refine All.cons ?_ ?_
   ·intro s X; refine BindsTo.of_eq ?_; kernel_rfl
   refine All.cons ?_ ?_
   ·intro a s X; refine BindsTo.of_eq ?_; kernel_rfl
   refine All.cons ?_ ?_
   ·intro a s X; refine BindsTo.fd rfl ?_; exact binds_K X rfl (by rfl) rfl (by rfl) (by rfl)
   refine All.cons ?_ ?_
   ·intro a b c s X; refine BindsTo.of_eq ?_; kernel_rfl
   refine All.cons ?_ ?_
   ·intro a s X; refine BindsTo.of_eq ?_; kernel_rfl
   refine All.cons ?_ ?_
   ·intro a s X; refine BindsTo.of_eq ?_; kernel_rfl
   refine All.cons ?_ ?_
   ·intro a s X; refine BindsTo.fd rfl ?_; exact binds_K X rfl (by rfl) rfl (by rfl) (by rfl)
   refine All.cons ?_ ?_
   ·intro a b s X; refine BindsTo.of_eq ?_; kernel_rfl
   refine All.cons ?_ ?_
   ·intro a s X; refine BindsTo.of_eq ?_; kernel_rfl
   refine All.cons ?_ ?_
   ·intro a s X; refine BindsTo.of_eq ?_; kernel_rfl
   refine All.cons ?_ ?_
   ·intro a s X; refine BindsTo.of_eq ?_; kernel_rfl
   refine All.cons ?_ ?_
   ·intro a s X; refine BindsTo.of_eq ?_; kernel_rfl
   refine All.cons ?_ ?_
   ·intro a b s X; refine BindsTo.of_eq ?_; kernel_rfl
   refine All.cons ?_ ?_
   ·intro a b s X; refine BindsTo.of_eq ?_; kernel_rfl
   refine All.cons ?_ ?_
   ·intro a b s X; refine BindsTo.of_eq ?_; kernel_rfl
   refine All.cons ?_ ?_
   ·intro a b s X; refine BindsTo.of_eq ?_; kernel_rfl
   refine All.cons ?_ ?_
   ·intro a s X; refine BindsTo.of_eq ?_; kernel_rfl
   refine All.cons ?_ ?_
   ·intro a s X; refine BindsTo.of_eq ?_; kernel_rfl
   refine All.cons ?_ ?_
   ·intro a b s X; refine BindsTo.of_eq ?_; kernel_rfl
   refine All.cons ?_ ?_
   ·intro a s X; refine BindsTo.of_eq ?_; kernel_rfl
   refine All.cons ?_ ?_
   ·intro a s X; refine BindsTo.of_eq ?_; kernel_rfl
   refine All.cons ?_ ?_
   ·intro a b s X; refine BindsTo.of_eq ?_; kernel_rfl
   refine All.cons ?_ ?_
   ·intro a b c d s X; refine BindsTo.of_eq ?_; kernel_rfl
   refine All.cons ?_ ?_
   ·intro a b c d e s X; refine BindsTo.of_eq ?_; kernel_rfl
   refine All.cons ?_ ?_
   ·intro a b s X; refine BindsTo.of_eq ?_; kernel_rfl
   exact True.intro,
  m_is_over := ⟨by kernel_rfl, by kernel_rfl, by kernel_rfl⟩,
  m_sign := ⟨by kernel_rfl, by kernel_rfl, by kernel_rfl⟩,
  m_take := ⟨by kernel_rfl, by kernel_rfl, by kernel_rfl⟩,
  m_due := ⟨by kernel_rfl, by kernel_rfl, by kernel_rfl⟩,
  m_number := ⟨by kernel_rfl, by kernel_rfl, by kernel_rfl⟩,
  m_pass_all := ⟨by kernel_rfl, by kernel_rfl, by kernel_rfl⟩,
  new := ⟨by kernel_rfl, by kernel_rfl, by kernel_rfl, by kernel_rfl⟩,
  sk_text := ⟨by kernel_rfl, by kernel_rfl, by kernel_rfl, by kernel_rfl, by kernel_rfl, by kernel_rfl⟩,
  sk_place := ⟨by kernel_rfl, by kernel_rfl, by kernel_rfl, by kernel_rfl, by kernel_rfl, by kernel_rfl⟩,
  ik_BadCode := ⟨.mk _ _ _ _ _ _ _ _ _ _ _ _ _ _ _ rfl (by rfl) (by rfl) (by rfl) (by rfl) (by repeat constructor), by kernel_rfl, by kernel_rfl, by kernel_rfl, by kernel_rfl, by kernel_rfl⟩,
  tk_BadCode := ⟨by kernel_rfl, by kernel_rfl, ⟨_, by rfl, by rfl, by rfl⟩, by kernel_rfl, by kernel_rfl⟩,
  ik_BadEncoding := ⟨.mk _ _ _ _ _ _ _ _ _ _ _ _ _ _ _ rfl (by rfl) (by rfl) (by rfl) (by rfl) (by repeat constructor), by kernel_rfl, by kernel_rfl, by kernel_rfl, by kernel_rfl, by kernel_rfl⟩,
  tk_BadEncoding := ⟨by kernel_rfl, by kernel_rfl, ⟨_, by rfl, by rfl, by rfl⟩, by kernel_rfl, by kernel_rfl⟩,
  if_ := { fn := ⟨_, _, _, _, _, _, _, _, _, _, _, _, rfl, by kernel_rfl, fun s a b X => binds_K X rfl (by rfl) rfl (by rfl) (by rfl)⟩, body := ⟨_, _, _, _, rfl⟩, lns := rfl, cns := rfl, cd := rfl, self := by rfl, told := by rfl, cell := by decide +kernel, kind := by rfl, co := by rfl, gen := by rfl },
  t_ESCAPE_BLANKS := ⟨_, _, rfl, by kernel_rfl⟩,
  t_ESCAPE_RUST_BLANKS := ⟨_, _, rfl, by kernel_rfl⟩,
  t_ESCAPE_C_NAMED := ⟨_, _, rfl, by kernel_rfl⟩,
  t__law_pool := ⟨_, _, rfl, by kernel_rfl⟩,
  t__law_signs := ⟨_, _, rfl, by kernel_rfl⟩,
  t_ESCAPE_JSON := ⟨_, _, rfl, by kernel_rfl⟩,
  t_ESCAPE_PYTHON := ⟨_, _, rfl, by kernel_rfl⟩,
  t_ESCAPE_RUST := ⟨_, _, rfl, by kernel_rfl⟩,
  t__law_rows := ⟨_, _, rfl, by kernel_rfl, by
   repeat refine All.cons ⟨_, _, _, _, _, rfl, rfl, _, _, rfl, by kernel_rfl⟩ ?_
   exact True.intro⟩ }
 have W := claim_all (walk_law plain_law) ⟨w, _, _, _, _, _, _, _, s₁⟩ KF X' T' _ fa _ cd _ tk₁ _ _ _ _ _ _ _ F' rfl lifted hI (by omega) K' N' (.tail _ (.tail _ (.head _))) (.tail _ (.head _)) (.head _)
  (tabs_all (.tail _ (.tail _ (.tail _ (.head _)))) (.tail _ (.tail _ (.tail _ (.tail _ (.head _))))) (.tail _ (.tail _ (.tail _ (.tail _ (.tail _ (.head _)))))) (.tail _ (.tail _ (.tail _ (.tail _ (.tail _ (.tail _ (.head _))))))) (.tail _ (.tail _ (.tail _ (.tail _ (.tail _ (.tail _ (.tail _ (.head _)))))))) (.tail _ (.tail _ (.tail _ (.tail _ (.tail _ (.tail _ (.tail _ (.tail _ (.head _))))))))))
  (tabs_all l0.1 l0.2.1 l0.2.2.1 l0.2.2.2.1 l0.2.2.2.2.1 l0.2.2.2.2.2) e1 e2 e3 (tabs_all cd5 cd4 cd3 cd2 cd1 codeHd)
 refine wpAny_mono W (fun f s' h => ?_) fun κ κ h => h.elim
 obtain ⟨rfl, h', m', t', rfl, F₁, gr⟩ := h
 exact ⟨goodW_bool F₁ hg (fun κ => rfl) (by first | kernel_rfl | with_unfolding_all rfl), gr⟩
end Mine
theorem PySem.Challenge.cw_nt0037_01_holds : PySem.Challenge.rw_nt0037_01.Holds :=
 Mine.top
