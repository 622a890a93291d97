import PyProof.Rows.All
import Wide.All
import OpenK.AllK
import Wide.FinOn
import KE.KStateDown
import KE.KExcSuper
import HandS.ForMost
import HandS.ForExc
import HandS.Defaults
import HandS.DictComp
import HandS.Deep
import HandS.IsInst
import HandS.ExcIs
import HandS.ExcInit
import HandS.ExcCtx
import HandS.OwnEq
import HandS.FStr
import HandS.Lambda
import HandS.EndTab
import HandS.Star
import HandS.MakeKw
import HandS.Wide
import HandS.SortInts
import HandS.TupAny
import HandS.TupLe
import HandS.Head0
import HandS.Head1
import HandS.Head2
import HandS.HeadEnd
import HandS.HeadHook1
import HandS.HeadHook2
import HandS.HeadHook3
import HandS.HeadHook4
import HandS.HeadWalk
import PySem.Challenge.RW_keptlamps_k20_whole_rows_run_and_filmed
import KE.DataMinMax
import KE.KCallOwn
import KE.KIsAll
import PyProof.InstNe
import HandS.SortKw
import KE.GoesEnum
import HandS.Iter
import HandS.ExcValue
import HandS.ExcSuper
import KE.KExcIs
import HandS.ExcField
import KE.KDflt
import KE.BitLaws
import KE.OsArith
import HandS.Walk
import HandS.Conv
import HandS.WordsList
import HandS.Text
import PyProof.Rows.RegFStrParts
set_option Elab.async false
set_option linter.all false
set_option maxRecDepth 100000
set_option maxHeartbeats 4000000
/-! ## The text by places, the head's facts by names, the head's run -/
namespace Kl
open PySem PySem.Spec PyProof.Rows L2
abbrev PR : Program := PySem.Challenge.pw_keptlamps_k20_whole_rows_run_and_filmed
def top (i : Nat) : Stmt := PR.main.body.getD i (.Pass ⟨0, 0, 0, 0⟩)
abbrev s_is_integer : Stmt := top 12
abbrev s_is_within : Stmt := top 13
abbrev s_is_list : Stmt := top 14
abbrev s_are_unlike : Stmt := top 15
abbrev s_need_number : Stmt := top 16
abbrev s_need_lamps : Stmt := top 19
abbrev s_weight_in : Stmt := top 20
abbrev s_are_goals : Stmt := top 27
abbrev s_Tinit : Stmt := inClass (top 28) 0
abbrev s_Teq : Stmt := inClass (top 28) 1
abbrev s_kept_gate : Stmt := top 33
abbrev s_gate_text : Stmt := top 34
abbrev s_Winit : Stmt := inClass (top 36) 0
abbrev s_Wstr : Stmt := inClass (top 36) 2
abbrev s_need_wiring : Stmt := top 37
abbrev s_is_lit : Stmt := top 39
abbrev s_step : Stmt := top 40
abbrev s_rows_on : Stmt := top 41
abbrev s_columns_of : Stmt := top 42
abbrev s_act : Stmt := top 43
abbrev s_columns_behind : Stmt := top 44
abbrev s_goals_of : Stmt := top 45
abbrev s_need_row_of : Stmt := top 47
abbrev s_run : Stmt := top 48
abbrev s_film : Stmt := top 49
abbrev s_acting : Stmt := top 50
abbrev s_table_of : Stmt := top 51
abbrev s_first_unlike : Stmt := top 52
abbrev s_l_cinema : Stmt := top 54
abbrev s_l_reel : Stmt := top 55
abbrev s_l_pick : Stmt := top 56
abbrev s_l_stirred : Stmt := top 57
abbrev s_l_gate : Stmt := top 58
abbrev s_l_gates : Stmt := top 59
abbrev s_l_step : Stmt := top 60
abbrev s_l_film : Stmt := top 61
abbrev s_l_goals : Stmt := top 62
abbrev s_l_said : Stmt := top 63
abbrev s_l_weight : Stmt := top 64
abbrev s_l_row_right : Stmt := top 65
abbrev s_l_refused_right : Stmt := top 66
abbrev s_law : Stmt := top 67
abbrev s_BadWiring : Stmt := inClass (top 6) 0
abbrev s_BadRow : Stmt := inClass (top 4) 0
abbrev s_BadTable : Stmt := inClass (top 5) 0
def d_is_integer : He.DefD := ⟨("is_integer", none), "is_integer", "is_integer", defArgs s_is_integer, defBody s_is_integer, defScope s_is_integer, [], []⟩
def d_is_within : He.DefD := ⟨("is_within", none), "is_within", "is_within", defArgs s_is_within, defBody s_is_within, defScope s_is_within, [], []⟩
def d_is_list : He.DefD := ⟨("is_list", none), "is_list", "is_list", defArgs s_is_list, defBody s_is_list, defScope s_is_list, [], []⟩
def d_are_unlike : He.DefD := ⟨("are_unlike", none), "are_unlike", "are_unlike", defArgs s_are_unlike, defBody s_are_unlike, defScope s_are_unlike, [], []⟩
def d_need_number : He.DefD := ⟨("need_number", none), "need_number", "need_number", defArgs s_need_number, defBody s_need_number, defScope s_need_number, [], []⟩
def d_need_lamps : He.DefD := ⟨("need_lamps", none), "need_lamps", "need_lamps", defArgs s_need_lamps, defBody s_need_lamps, defScope s_need_lamps, [], []⟩
def d_weight_in : He.DefD := ⟨("weight_in", none), "weight_in", "weight_in", defArgs s_weight_in, defBody s_weight_in, defScope s_weight_in, [], []⟩
def d_are_goals : He.DefD := ⟨("are_goals", none), "are_goals", "are_goals", defArgs s_are_goals, defBody s_are_goals, defScope s_are_goals, [], []⟩
def d_Tinit : He.DefD := ⟨("Table", some "__init__"), "__init__", "Table.__init__", defArgs s_Tinit, defBody s_Tinit, defScope s_Tinit, [], []⟩
def d_Teq : He.DefD := ⟨("Table", some "__eq__"), "__eq__", "Table.__eq__", defArgs s_Teq, defBody s_Teq, defScope s_Teq, [], []⟩
def d_kept_gate : He.DefD := ⟨("kept_gate", none), "kept_gate", "kept_gate", defArgs s_kept_gate, defBody s_kept_gate, defScope s_kept_gate, [], []⟩
def d_gate_text : He.DefD := ⟨("gate_text", none), "gate_text", "gate_text", defArgs s_gate_text, defBody s_gate_text, defScope s_gate_text, [], []⟩
def d_Winit : He.DefD := ⟨("Wiring", some "__init__"), "__init__", "Wiring.__init__", defArgs s_Winit, defBody s_Winit, defScope s_Winit, [], []⟩
def d_Wstr : He.DefD := ⟨("Wiring", some "__str__"), "__str__", "Wiring.__str__", defArgs s_Wstr, defBody s_Wstr, defScope s_Wstr, [], []⟩
def d_need_wiring : He.DefD := ⟨("need_wiring", none), "need_wiring", "need_wiring", defArgs s_need_wiring, defBody s_need_wiring, defScope s_need_wiring, [.str "wiring"], []⟩
def d_is_lit : He.DefD := ⟨("is_lit", none), "is_lit", "is_lit", defArgs s_is_lit, defBody s_is_lit, defScope s_is_lit, [], []⟩
def d_step : He.DefD := ⟨("step", none), "step", "step", defArgs s_step, defBody s_step, defScope s_step, [], []⟩
def d_rows_on : He.DefD := ⟨("rows_on", none), "rows_on", "rows_on", defArgs s_rows_on, defBody s_rows_on, defScope s_rows_on, [], []⟩
def d_columns_of : He.DefD := ⟨("columns_of", none), "columns_of", "columns_of", defArgs s_columns_of, defBody s_columns_of, defScope s_columns_of, [], []⟩
def d_act : He.DefD := ⟨("act", none), "act", "act", defArgs s_act, defBody s_act, defScope s_act, [], []⟩
def d_columns_behind : He.DefD := ⟨("columns_behind", none), "columns_behind", "columns_behind", defArgs s_columns_behind, defBody s_columns_behind, defScope s_columns_behind, [], []⟩
def d_goals_of : He.DefD := ⟨("goals_of", none), "goals_of", "goals_of", defArgs s_goals_of, defBody s_goals_of, defScope s_goals_of, [], []⟩
def d_need_row_of : He.DefD := ⟨("need_row_of", none), "need_row_of", "need_row_of", defArgs s_need_row_of, defBody s_need_row_of, defScope s_need_row_of, [], []⟩
def d_run : He.DefD := ⟨("run", none), "run", "run", defArgs s_run, defBody s_run, defScope s_run, [], []⟩
def d_film : He.DefD := ⟨("film", none), "film", "film", defArgs s_film, defBody s_film, defScope s_film, [], []⟩
def d_acting : He.DefD := ⟨("acting", none), "acting", "acting", defArgs s_acting, defBody s_acting, defScope s_acting, [], []⟩
def d_table_of : He.DefD := ⟨("table_of", none), "table_of", "table_of", defArgs s_table_of, defBody s_table_of, defScope s_table_of, [], []⟩
def d_first_unlike : He.DefD := ⟨("first_unlike", none), "first_unlike", "first_unlike", defArgs s_first_unlike, defBody s_first_unlike, defScope s_first_unlike, [], []⟩
def d_l_cinema : He.DefD := ⟨("_law_cinema", none), "_law_cinema", "_law_cinema", defArgs s_l_cinema, defBody s_l_cinema, defScope s_l_cinema, [], []⟩
def d_l_reel : He.DefD := ⟨("_law_reel", none), "_law_reel", "_law_reel", defArgs s_l_reel, defBody s_l_reel, defScope s_l_reel, [], []⟩
def d_l_pick : He.DefD := ⟨("_law_pick", none), "_law_pick", "_law_pick", defArgs s_l_pick, defBody s_l_pick, defScope s_l_pick, [], []⟩
def d_l_stirred : He.DefD := ⟨("_law_stirred", none), "_law_stirred", "_law_stirred", defArgs s_l_stirred, defBody s_l_stirred, defScope s_l_stirred, [], []⟩
def d_l_gate : He.DefD := ⟨("_law_gate", none), "_law_gate", "_law_gate", defArgs s_l_gate, defBody s_l_gate, defScope s_l_gate, [], []⟩
def d_l_gates : He.DefD := ⟨("_law_gates", none), "_law_gates", "_law_gates", defArgs s_l_gates, defBody s_l_gates, defScope s_l_gates, [], []⟩
def d_l_step : He.DefD := ⟨("_law_step", none), "_law_step", "_law_step", defArgs s_l_step, defBody s_l_step, defScope s_l_step, [], []⟩
def d_l_film : He.DefD := ⟨("_law_film", none), "_law_film", "_law_film", defArgs s_l_film, defBody s_l_film, defScope s_l_film, [], []⟩
def d_l_goals : He.DefD := ⟨("_law_goals", none), "_law_goals", "_law_goals", defArgs s_l_goals, defBody s_l_goals, defScope s_l_goals, [], []⟩
def d_l_said : He.DefD := ⟨("_law_said", none), "_law_said", "_law_said", defArgs s_l_said, defBody s_l_said, defScope s_l_said, [], []⟩
def d_l_weight : He.DefD := ⟨("_law_weight", none), "_law_weight", "_law_weight", defArgs s_l_weight, defBody s_l_weight, defScope s_l_weight, [], []⟩
def d_l_row_right : He.DefD := ⟨("_law_row_right", none), "_law_row_right", "_law_row_right", defArgs s_l_row_right, defBody s_l_row_right, defScope s_l_row_right, [], []⟩
def d_l_refused_right : He.DefD := ⟨("_law_refused_right", none), "_law_refused_right", "_law_refused_right", defArgs s_l_refused_right, defBody s_l_refused_right, defScope s_l_refused_right, [], []⟩
def d_law : He.DefD := ⟨("law", none), "law", "law", defArgs s_law, defBody s_law, defScope s_law, [], []⟩
def fn0 : List He.DefD := [d_is_integer, d_is_within, d_is_list, d_are_unlike, d_need_number, d_need_lamps, d_weight_in, d_are_goals, d_Tinit, d_Teq, d_kept_gate, d_gate_text, d_Winit, d_Wstr, d_need_wiring, d_is_lit, d_step, d_rows_on, d_columns_of, d_act]
def fn1 : List He.DefD := [d_columns_behind, d_goals_of, d_need_row_of, d_run, d_film, d_acting, d_table_of, d_first_unlike, d_l_cinema, d_l_reel, d_l_pick, d_l_stirred, d_l_gate, d_l_gates, d_l_step, d_l_film, d_l_goals, d_l_said, d_l_weight, d_l_row_right]
def fn2 : List He.DefD := [d_l_refused_right, d_law]
def fn : List He.DefD := fn0 ++ (fn1 ++ (fn2))
def fa0 : List He.Fa := [.glo "is_integer", .glo "is_within", .glo "is_list", .glo "are_unlike", .glo "need_number", .glo "need_lamps", .glo "weight_in", .glo "are_goals", .glo "kept_gate", .glo "gate_text", .glo "need_wiring", .glo "is_lit", .glo "step", .glo "rows_on", .glo "columns_of", .glo "act", .glo "columns_behind", .glo "goals_of", .glo "need_row_of", .glo "run"]
def fa1 : List He.Fa := [.glo "film", .glo "acting", .glo "table_of", .glo "first_unlike", .glo "_law_cinema", .glo "_law_reel", .glo "_law_pick", .glo "_law_stirred", .glo "_law_gate", .glo "_law_gates", .glo "_law_step", .glo "_law_film", .glo "_law_goals", .glo "_law_said", .glo "_law_weight", .glo "_law_row_right", .glo "_law_refused_right", .glo "law", .glo "Table", .glo "Wiring"]
def fa2 : List He.Fa := [.glo "LampError", .glo "BadNumber", .glo "BadRow", .glo "BadTable", .glo "BadWiring", .glo "BadOrder", .glo "Misfit", .glo "TooMany", .free "isinstance", .free "int", .free "bool", .free "list", .free "tuple", .free "len", .free "all", .free "enumerate", .free "range", .free "sorted", .free "min", .free "max"]
def fa3 : List He.Fa := [.free "sum", .free "abs", .free "repr", .free "str", .free "super", .int "MOST_LAMPS_rows" 8, .int "MOST_LAMPS_wirings" 8, .int "MOST_GATES" 20000, .str "COLON" ":", .cls "Table", .cls "Wiring", .noat "Table" "lamps", .noat "Table" "goals", .noat "Wiring" "lamps", .noat "Wiring" "gates", .noat "Wiring" "hands", .mkr "Table", .mkr "Wiring", .meth "Table" "__eq__", .meth "Wiring" "__str__"]
def fa4 : List He.Fa := [.keep "Table", .keep "Wiring", .exm "BadWiring" "LampError" true, .exm "BadRow" "LampError" true, .exm "BadTable" "LampError" true]
def fa : List He.Fa := fa0 ++ (fa1 ++ (fa2 ++ (fa3 ++ (fa4))))
def raised : List Str := ["BadWiring", "BadRow", "BadTable"]
def asked : List Str := ["BadWiring", "BadRow", "BadTable", "Wiring", "Table"]
/-- what the written part says of an own exception class with super().__init__(..) and one field -/
def excB (x : Str) (K : PySem.W.Frag) : Bool :=
  (match K.lookup (He.ga K x) with
    | some ⟨.type "type", _, .cls cd, sl⟩ => (match cd.mro, sl.toList with
      | .ref C' :: bm, [_, _, _, _, some (.builtin n), _] => C' == He.ga K x && n == "ValueError.__new__" && !cd.hasDel && cd.hasDict && PySem.HandSPX.refsVE bm
      | _, _ => false)
    | _ => false) &&
  He.eqO (PySem.W.findIn K (.ref (He.ga K x)) "__setattr__") (some (some (.builtin "object.__setattr__"))) &&
  He.eqO (PySem.W.findIn K (.ref (He.ga K x)) "__getattribute__") (some (some (.builtin "BaseException.__getattribute__"))) &&
  He.eqO (PySem.W.findIn K (.ref (He.ga K x)) "__getattr__") (some none) &&
  He.eqO (PySem.W.findIn K (.ref (He.ga K x)) "part") (some none) &&
  He.eqO (PySem.W.findIn K (.ref (He.ga K x)) "__init__") (some (some (.ref (He.ma K (He.ga K x) "__init__")))) &&
  decide (PySem.W.typeIn K (.ref (He.ma K (He.ga K x) "__init__")) = some (.type "function")) &&
  PySem.W.keepIn K (.ref (He.ga K x)) &&
  decide (PySem.W.subIn K (.ref (He.ga K x)) (.type "BaseException") = some true) &&
  decide (PySem.W.subIn K (.ref (He.ga K x)) (.type "ValueError") = some true) &&
  decide (PySem.W.typeIn K (.ref (He.ga K x)) = some (.type "type")) &&
  PySem.W.hasDictIn K (He.ga K x) &&
  decide (PySem.W.mroIn K (He.ga K x) (.ref (He.ga K x)) = some true) &&
  He.eqO (PySem.W.ks_superIn K (He.ga K x) (He.ga K x) "__init__") (some (some (.builtin "ValueError.__init__")))
/-- its __init__: closure, code, defaults -/
def initB (x q : Str) (K : PySem.W.Frag) : Bool := match K.lookup (He.ma K (He.ga K x) "__init__") with
  | some ⟨_, _, .func fd, _⟩ => (match fd.closure, fd.code, fd.defaults with
    | [(_, cc)], .ref cda, .none => (match K.lookup cc with
        | some ⟨_, _, .cell (some (.ref D)), _⟩ => D == He.ga K x
        | _ => false) && (PySem.W.codeIn K fd.code q && (match K.lookup cda with
        | some ⟨_, _, .fields vs, _⟩ => (match (vs[2]? : Option Value) with
          | some (.str file _) => ((PR.main.file : Str) == file)
          | _ => false)
        | _ => false))
    | _, _, _ => false)
  | _ => false
abbrev FnI : Type := Option (Str × Str × Arguments × FuncBody × Scope × Addr × List Str × Addr)
def fnI (K : PySem.W.Frag) (x : Str) : FnI := match K.lookup (He.ma K (He.ga K x) "__init__") with
  | some ⟨_, _, .func fd, _⟩ => some (fd.name, fd.qualname, fd.params, fd.body, fd.scope, fd.globals, fd.closure.map (·.1), fd.builtins)
  | _ => none
/-- one class: its name, its __init__'s qualified name, the statement of its __init__ -/
structure ExD where
  cls : Str
  qual : Str
  st : Stmt
def ExD.val (d : ExD) : FnI := some ("__init__", d.qual, defArgs d.st, .stmts (defBody d.st), defScope d.st, mainGlobals, ["__class__"], builtinsNs)
def ExD.ok (K : PySem.W.Frag) (d : ExD) : Bool := excB d.cls K && initB d.cls d.qual K
/-- what the written part says of a class with its own ==, below object, without its own != -/
def ownEqB (x : Str) (K : PySem.W.Frag) : Bool := match K.lookup (He.ga K x) with
  | some ⟨.type "type", _, .cls cd, sl⟩ => (match cd.mro, sl.toList with
    | [.ref C', .type ob], [_, _, _, _, some (.builtin _), _] => C' == He.ga K x && ob == "object" && !cd.hasDel && (match K.lookup cd.ns with
      | some ⟨_, _, .dict es _, _⟩ => es.all fun e => match e.key with | .str _ _ => true | _ => false
      | _ => false) && He.eqO (PySem.W.nsIn K cd.ns "__eq__") (some (some (.ref (He.ma K (He.ga K x) "__eq__")))) && He.eqO (PySem.W.nsIn K cd.ns "__ne__") (some none)
    | _, _ => false)
  | _ => false
/-- the raising's own part -/
def exinB (x : Str) (K : PySem.W.Frag) : Bool := PySem.W.excInitIn K (He.ga K x) [.type "ValueError", .type "Exception", .type "BaseException", .type "object"] "ValueError.__new__"
/-- a class whose instances are asked for their class -/
def clB (x : Str) (K : PySem.W.Frag) : Bool := He.eqO (PySem.W.findIn K (.ref (He.ga K x)) "__class__") (some (some (.builtin "object.__class__"))) && decide (PySem.W.mroIn K (He.ga K x) (.type "object") = some true)
def spB (K : PySem.W.Frag) : Bool := He.eqO (PySem.W.specialIn K (.builtin "object.__class__") "__get__") (some (some (.builtin "getset_descriptor.__get__"))) && decide (PySem.W.takesIn K (.builtin "object.__class__") = some true)
def moreB (K : PySem.W.Frag) : Bool := ownEqB "Table" K && (decide (PySem.W.typeIn K (.ref (He.ma K (He.ga K "Table") "__eq__")) = some (.type "function")) && ((raised.all fun x => exinB x K) && ((asked.all fun x => clB x K) && spB K)))
/-- isinstance, told beforehand -/
def kitB (K : PySem.W.Frag) (q : Value × Str × Bool) : Bool := decide (PySem.W.kitOne K q.1 (.ref (He.ga K q.2.1)) = some q.2.2)
def kitC (K : PySem.W.Frag) (q : Str × Str × Bool) : Bool := decide (PySem.W.kitOne K (.ref (He.ga K q.1)) (.ref (He.ga K q.2.1)) = some q.2.2)
def exs : List ExD := [⟨"BadWiring", "BadWiring.__init__", s_BadWiring⟩, ⟨"BadRow", "BadRow.__init__", s_BadRow⟩, ⟨"BadTable", "BadTable.__init__", s_BadTable⟩]
def kbs : List (Value × Str × Bool) := [(.type "NoneType", "Wiring", false), (.type "int", "Wiring", false), (.type "bool", "Wiring", false), (.type "str", "Wiring", false), (.type "list", "Wiring", false), (.type "NoneType", "Table", false), (.type "int", "Table", false), (.type "bool", "Table", false), (.type "str", "Table", false), (.type "list", "Table", false)]
def kcs : List (Str × Str × Bool) := [("Wiring", "Wiring", true), ("Table", "Table", true), ("BadWiring", "BadNumber", false), ("BadWiring", "BadRow", false), ("BadWiring", "BadTable", false), ("BadWiring", "BadWiring", true), ("BadWiring", "BadOrder", false), ("BadWiring", "Misfit", false), ("BadWiring", "TooMany", false), ("BadRow", "BadNumber", false), ("BadRow", "BadRow", true), ("BadRow", "BadTable", false), ("BadRow", "BadWiring", false), ("BadRow", "BadOrder", false), ("BadRow", "Misfit", false), ("BadRow", "TooMany", false), ("BadTable", "BadNumber", false), ("BadTable", "BadRow", false), ("BadTable", "BadTable", true), ("BadTable", "BadWiring", false), ("BadTable", "BadOrder", false), ("BadTable", "Misfit", false), ("BadTable", "TooMany", false)]
def tf : List He.Defn := [("_law_refused_right", none)]
def ex (K : PySem.W.Frag) : Bool := He.eqO (PySem.W.nsIn K cStatics "thirdparty.any") (some none) && ((exs.all fun d => d.ok K) && ((kbs.all fun q => kitB K q) && kcs.all fun q => kitC K q)) && moreB K
/-! ### the Hook: from the module's names and the statics -/
def asM (g : Addr → Option Obj) : Nat → List Addr
  | 0 => [mainGlobals, cStatics]
  | n + 1 => He.growD g (asM g n)
abbrev AlM : Type := He.AlD × List FnI × Bool
def obsM (n : Nat) (g : Addr → Option Obj) : AlM := (He.obsD fa fn (He.frT g (asM g n)), exs.map fun d => fnI (He.frT g (asM g n)) d.cls, ex (He.frT g (asM g n)) && He.tabsB g tf (He.frT g (asM g n)))
def valM : AlM := (He.valD fn, exs.map ExD.val, true)
structure SaysM (h : Heap) (K : PySem.W.Frag) : Prop where
  d : He.SaysD fa fn K
  i : exs.map (fun d => fnI K d.cls) = exs.map ExD.val
  more : ex K = true
  hd : ∀ p ∈ tf, PySem.W.codeHdIn K (He.cT K p).1 (He.cT K p).2 = true
  out : ∀ p ∈ tf, K.lookup (He.cT K p).2 = none
  empty : ∀ p ∈ tf, h.get? (He.cT K p).2 = some { cls := .none, data := .fields #[] }
theorem saysM_of {n : Nat} {h : Heap} (e : obsM n h.get? = valM) : SaysM h (He.frT h.get? (asM h.get? n)) := by
  have e1 : He.obsD fa fn (He.frT h.get? (asM h.get? n)) = He.valD fn := congrArg (fun z : AlM => z.1) e
  have e2 : exs.map (fun d => fnI (He.frT h.get? (asM h.get? n)) d.cls) = exs.map ExD.val := congrArg (fun z : AlM => z.2.1) e
  have e3 : (ex (He.frT h.get? (asM h.get? n)) && He.tabsB h.get? tf (He.frT h.get? (asM h.get? n))) = true := congrArg (fun z : AlM => z.2.2) e
  obtain ⟨h1, h2⟩ := He.ba e3
  have key : ∀ p ∈ tf, PySem.W.codeHdIn (He.frT h.get? (asM h.get? n)) (He.cT (He.frT h.get? (asM h.get? n)) p).1 (He.cT (He.frT h.get? (asM h.get? n)) p).2 = true ∧ ∃ o, h.get? (He.cT (He.frT h.get? (asM h.get? n)) p).2 = some o ∧ He.emptyTab o = true := fun p hp => by
    obtain ⟨h3, h4⟩ := He.ba (List.all_eq_true.mp h2 p hp)
    refine ⟨h3, ?_⟩
    cases q : h.get? (He.cT (He.frT h.get? (asM h.get? n)) p).2 with
    | none =>
      rw [q] at h4
      cases h4
    | some o =>
      rw [q] at h4
      exact ⟨o, rfl, h4⟩
  exact ⟨e1, e2, h1, fun p hp => (key p hp).1, fun p hp => by
    obtain ⟨_, o, q, z⟩ := key p hp
    exact He.frT_none q z, fun p hp => by
    obtain ⟨_, o, q, z⟩ := key p hp
    rw [q, He.emptyTab_eq z]⟩
def hookM (n : Nat) : PySem.W.Hook where
  α := AlM
  obs := fun s => obsM n s.heap.get?
  val := fun _ => valM
  says := fun _ h => ∃ K : PySem.W.Frag, K.In h ∧ SaysM h K
  of := fun _ _ e => ⟨_, He.frT_in, saysM_of e⟩
  keeps := fun _ _ _ ⟨K, hK, c⟩ k => ⟨K, PySem.W.Frag.In.keeps hK k, ⟨c.d, c.i, c.more, c.hd, c.out, fun p hp => k _ _ (c.empty p hp)⟩⟩
abbrev RR : PySem.W.OpenRow := PySem.W.OpenLaw.row PySem.Challenge.rw_keptlamps_k20_whole_rows_run_and_filmed
abbrev hk : PySem.W.Hook := hookM 5
def ob (s : PySem.W.SharedT) : AlM := obsM 5 (HandSHeadRun.getT s)
theorem ob_eq (s : PySem.W.SharedT) : ob s = hk.obs s.abs := by
  have e : HandSHeadRun.getT s = s.abs.heap.get? := funext (HandSHeadRun.getT_eq s)
  show obsM 5 (HandSHeadRun.getT s) = obsM 5 s.abs.heap.get?
  rw [e]
def names0 : List PySem.Str := ["_wall", "LampError", "BadNumber", "BadRow", "BadTable", "BadWiring", "BadOrder", "Misfit", "TooMany", "BadText", "is_integer", "is_within", "is_list", "are_unlike", "need_number", "MOST_LAMPS_rows", "need_lamps", "weight_in", "FIGURES", "MOST_FIGURES", "figures_in", "Scan", "are_goals", "Table", "MOST_LAMPS_wirings", "MOST_GATES", "COLON", "kept_gate", "gate_text", "read_gate"]
def names1 : List PySem.Str := ["Wiring", "need_wiring", "is_lit", "step", "rows_on", "columns_of", "act", "columns_behind", "goals_of", "unlike_in", "need_row_of", "run", "film", "acting", "table_of", "first_unlike", "_law_cinema", "_law_reel", "_law_pick", "_law_stirred", "_law_gate", "_law_gates", "_law_step", "_law_film", "_law_goals", "_law_said", "_law_weight", "_law_row_right", "_law_refused_right"]
def names : List PySem.Str := names0 ++ names1
end Kl
set_option maxHeartbeats 0
namespace Kl
open PySem PySem.W PySem.Calls PyProof.Rows
theorem run (w : World) : HandSHeadRun.RunEq RR (PySem.W.view RR.prog [67]) hk ob 8000 names w := by
  intro os
  kernel_rfl
end Kl
set_option maxHeartbeats 4000000
/-! ## Words of our own: a def by its name, repr, in of data in a tuple, max with a default, str and != of own classes -/
namespace Kl
open PySem PySem.Spec PyProof.Rows L2
/-! ### a def that keeps its promise, with where it stands -/
structure FnK (P : Program) (w : World) (K : PySem.W.Frag) (mg : Str → Option Value) (base : Heap) (k : Nat) (x : Str) (ps : List Str) (sp : Sp) : Prop where
  g : mg x = some (.ref (He.ga K x))
  kp : PySem.W.keepIn K (.ref (He.ga K x)) = true
  ok : ∃ fd, FnOk P w K mg base (L2.CX P w) k (He.ga K x) fd ps sp ∧ Binds K fd ps [] ∧ ∃ oc od osl, K.lookup (He.ga K x) = some ⟨oc, od, .func fd, osl⟩
theorem FnK.mono {P : Program} {w : World} {K : PySem.W.Frag} {mg : Str → Option Value} {base : Heap} {j k : Nat} {x : Str} {ps : List Str} {sp : Sp} (F : FnK P w K mg base j x ps sp) (h : j ≤ k) : FnK P w K mg base k x ps sp :=
  ⟨F.g, F.kp, let ⟨fd, a, b⟩ := F.ok; ⟨fd, a.mono h, b⟩⟩
section
variable {X : Cx} {k : Nat} {x : Str} {ps : List Str} {sp : Sp} {E : XK} {p pos : Pos} {e : Expr} {es : List Expr} {t : TA}
theorem pe_f (F : FnK X.prog X.w X.K X.mg X.base k x ps sp) (hr : Room k X.A) (hx : Passes (L2.CX X.prog X.w) X E) (ha : PA X (e :: es) t) (hg : Gl X x := by rfl)
    (hdb : (x == ("__debug__" : Str)) = false := by decide) (he : starEach (e :: es) X.env = (false, eval e X.env) :: starEach es X.env := by rfl) (hpl : (backTo pos (starEach es X.env)).any (·.1) = false := by rfl) :
    PE X (.Call (.Name x p) (e :: es) [] pos) (tCall sp [] E t) := by
  obtain ⟨fd, F1, b, _⟩ := F.ok
  exact pe_call F1 hr hg F.g F.kp b .nil hx ha hdb he hpl
end
/-- as Fun.ok, of any def, into the context of defs that may raise -/
theorem okN {P : Program} {w : World} {K : PySem.W.Frag} {mg : Str → Option Value} {base : Heap} {x qual : Str} {params : Arguments} {body : List Stmt} {scope : Scope} {dvs : List V} {kws : List (Str × V)} {f : Addr} {fd : FuncData} {N ps : List Str} {k : Nat} {sp : Sp}
    (F : FunD K x qual params body scope dvs kws f fd) (S : FnScope N ps scope) (len : ∀ vs H Q E, sp vs H Q E → vs.length = ps.length)
    (hbody : ∀ (cdv : Value) (A : Around) (outer : List Env) (s : Shared) (H : Hp) (vs : List V) (Q : VK) (E : XK), Room k (A.deeper (envOfC qual scope s.heap.objs.size f cdv)) → sp vs H Q E →
      ∃ t, PSs (cxOf (L2.CX P w) P w K mg base N qual scope f cdv A outer s H E).nox body t ∧ t { nx := fun _ H' => Q .non H', rt := Q } (start N vs) H) : FnOk P w K mg base (L2.CX P w) (k + 1) f fd ps sp :=
  F.ok S len fun cdv A outer s H vs Q E hr h => let ⟨t, a, b⟩ := hbody cdv A outer s H vs Q E hr h; ⟨t, a.nox, b⟩
/-! ### a call by keywords alone -/
def tCallK0 (sp : Sp) (gV : List V → List V) (E : XK) (tk : TA) : TE := fun σ H Q => tk σ H fun zs H2 => sp (gV zs) H2 Q E
structure KB0 (fd : FuncData) (ps ks : List Str) (g : List Value → List Value) (gV : List V → List V) : Prop where
  to : ∀ (s : Shared) (ws : List Value), ws.length = ks.length → BindsTo s fd ⟨[], ks.zip ws⟩ (ps.zip (g ws))
  rel : ∀ {zs : List V} {ws : List Value}, Vals zs ws → Vals (gV zs) (g ws)
  len : ∀ zs : List V, (gV zs).length = zs.length
section
variable {X : Cx} {CX : CXT} {k : Nat} {f : Addr} {fd : FuncData} {ps ks : List Str} {sp : Sp} {E : XK} {x : Str} {p pos : Pos} {kws : List Keyword} {tk : TA} {g : List Value → List Value} {gV : List V → List V}
theorem pe_k0 (F : FnOk X.prog X.w X.K X.mg X.base CX k f fd ps sp) (hr : Room k X.A) (hm : X.mg x = some (.ref f)) (hk : PySem.W.keepIn X.K (.ref f) = true) (hb : KB0 fd ps ks g gV) (hl : ks.length = ps.length) (hx : Passes CX X E)
    (hkw : PK X kws tk) (hg : Gl X x := by rfl) (hall : (backToKw pos (keywordEach kws X.env)).all (·.1.isSome) = true := by rfl) (hks : (backToKw pos (keywordEach kws X.env)).filterMap (·.1) = ks := by rfl)
    (hdb : (x == ("__debug__" : Str)) = false := by decide)
    (hpl : ((backTo pos (starEach [] X.env)).any (·.1) || (backToKw pos (keywordEach kws X.env)).any (·.1.isNone)) = false := by rfl) :
    PE X (.Call (.Name x p) [] kws pos) (tCallK0 sp gV E tk) := by
  refine ⟨fun pins s σ H Q I h => ?_⟩
  refine wpAny_Call_Name_kw (ld_glob I hg hm ?_ hdb)
  refine PySem.W.callWith_KW0 (h₀ := X.base) I.ok.mod.kin hk hall (thn (hkw.run pos pins s σ H _ I h) fun ws s2 ⟨zs, H2, I2, rz, q2⟩ => ⟨I2.kIn, ?_⟩) hpl
  rw [hks]
  show wpAny _ _ (call (.ref f) [] (ks.zip ws)) _ _ _
  have r2 := hb.rel rz
  have hlen := F.len _ _ _ _ q2
  have l2 : ws.length = ks.length := by
    rw [← Paired.length rz, ← hb.len zs, hlen, hl]
  refine wpAny_call (codeAny_mono (F.run X.A X.stack s2 H2 ⟨[], ks.zip ws⟩ (g ws) (gV zs) Q E hr I2.env0 (hb.to s2 ws l2) r2 q2) fun r s' hq => ?_)
  cases r with
  | error e => exact hx pins σ H2 s2 e s' I2 hq
  | ok fl =>
    cases fl with
    | ret u => exact I2.after hq
    | next => exact False.elim hq
    | brk => exact False.elim hq
    | cont => exact False.elim hq
end
/-! ### repr of data -/
def rRepr (K : PySem.W.Frag) : List V → Hp → VK → Prop := fun xs H Q => ∃ (a : Addr) (d : PyData), xs = [.ref a] ∧ Dp K H (.ref a) d ∧ d.showable = true ∧ d.hasDict = false ∧ d.depth ≤ 60 ∧ d.shown.length ≤ sizeLine ∧ Q (.str d.shown) H
theorem call_repr_data {X : Cx} {k : Nat} (hr : Room k X.A) (hg : X.A.guards = some []) : CallR X (.builtin "repr") (rRepr X.K) := by
  intro pins s σ H xs us Q I r h
  obtain ⟨a, d, rfl, hd, hs, hn, hdp, hz, q⟩ := h
  rw [Vals.ref1 r]
  obtain ⟨as, rd⟩ := Dp.reads I d (.ref a) (.ref a) hd rfl
  have hu := hr.units
  exact repr_of_reads' rd hs (PyData.noDict_hsm hn) hg (by omega) (fun _ _ z => z) (fun h' u tk hk => ⟨.str d.shown, H, I.kept hk, ⟨u, rfl⟩, q⟩) hz
/-! ### in: data in a tuple -/
def rInT (K : PySem.W.Frag) : R2 := fun x y H Q => ∃ d ds, Dp K H x d ∧ Dp K H y (.tuple ds) ∧ SeqAt.shaped d = true ∧ SeqAt.shaped (.tuple ds) = true ∧ Q (.bl (ds.any fun z => PyData.eqv z d)) H
theorem op_inT {X : Cx} (hu : X.A.units + 65 < cLine) : OpR X (compareOp .In) (rInT X.K) := by
  intro pins s σ H x y v u Q I rx ry h
  obtain ⟨d, ds, hd, he, sd, se, q⟩ := h
  obtain ⟨as, r1⟩ := Dp.reads I d x v hd rx
  obtain ⟨bs, r2⟩ := Dp.reads I (.tuple ds) y u he ry
  exact SeqAt.in_tuple_reads r2 r1 (SeqAt.canLay_of_shaped se) (SeqAt.canLay_of_shaped sd) (room_in_shaped sd hu) ⟨.bl _, H, I, rfl, q⟩
/-! ### max(xs, default=d) of ints -/
def rMaxD (K : PySem.W.Frag) : List V → List V → Hp → VK → Prop := fun xs ks H Q => ∃ (a : Addr) (ns : List Int) (d : Int), xs = [.ref a] ∧ ks = [.int d] ∧ SqL K H a (ns.map V.int) ∧ ∀ m : Int, Q (.int m) H
theorem ints_alike (ns : List Int) : PySem.W.AlikeAll (ns.map PyData.int) := by
  refine ⟨fun x hx y hy => ?_, fun x hx => ?_⟩
  · obtain ⟨i, _, rfl⟩ := List.mem_map.mp hx
    obtain ⟨j, _, rfl⟩ := List.mem_map.mp hy
    simp only [PySem.W.alike]
  · obtain ⟨i, _, rfl⟩ := List.mem_map.mp hx
    intro z
    cases z
theorem ints_depth : ∀ ns : List Int, PyData.depthAll (ns.map PyData.int) = 0
  | [] => by simp [PyData.depthAll]
  | n :: ns => by simp [PyData.depthAll, PyData.depth, ints_depth ns]
theorem dpAll_ints {K : PySem.W.Frag} {H : Hp} : ∀ ns : List Int, DpAll K H (ns.map V.int) (ns.map PyData.int)
  | [] => .nil
  | n :: ns => .cons (.int n) (dpAll_ints ns)
theorem call_maxD {X : Cx} {k : Nat} (hc : X.calm = true) (hr : Room k X.A) : CallRK X (.builtin "max") ["default"] (rMaxD X.K) := by
  intro pins s σ H xs zs us ws Q I r rz h
  obtain ⟨a, ns, d, rfl, rfl, hs, q⟩ := h
  rw [Vals.ref1 r]
  obtain ⟨u, rfl, t, rfl⟩ := vals1 rz
  obtain ⟨its, rv, hl, _⟩ := I.list hs
  obtain ⟨as, ra⟩ := Dp.readsAll I (ns.map PyData.int) _ its (dpAll_ints ns) rv
  have hu := hr.units
  refine PySem.W.max_list_default (vs := its.toArray) (I.ok.hd hc) hl.isList (show ReadsAll s.heap its.toArray.toList (ns.map PyData.int) as from ra) (ints_alike ns) (by rw [ints_depth]; omega) (fun _ h' tk hk => ⟨.int d, H, I.kept hk, ⟨t, rfl⟩, q d⟩) ?_
  intro y ys i v h' tk bs hxs hi hrd hk
  have hil : i < its.length := by
    have z := (Array.getElem?_eq_some_iff.mp hi).1
    simpa using z
  have hv : its[i]? = some v := by
    have z := hi
    rw [List.getElem?_toArray] at z
    exact z
  have hix : i < (ns.map V.int).length := by
    rw [rv.length]
    exact hil
  obtain ⟨u', hu', ru⟩ := rv.get (List.getElem?_eq_getElem hix)
  rw [hv] at hu'
  cases hu'
  rw [List.getElem_map] at ru
  obtain ⟨t', rfl⟩ := ru
  exact ⟨.int _, H, I.kept hk, ⟨t', rfl⟩, q _⟩
/-! ### str(x) of an instance with its own __str__ -/
def rStrO (C : Addr) (sp : Sp) : List V → Hp → VK → Prop := fun xs H Q => ∃ (a dx : Addr) (fs : List (Str × V)), xs = [.ref a] ∧ H a = some (.ins C dx fs) ∧ sp [.ref a] H (fun v H' => ∃ z : Str, v = .str z ∧ Q v H') (fun _ _ _ => False)
section
variable {X : Cx} {C f : Addr} {fd : FuncData} {sp : Sp} {k : Nat}
theorem call_strO (hs : PySem.W.findIn X.K (.ref C) "__str__" = some (some (.ref f))) (hf : PySem.W.isFn X.K (.ref f) = true) (F : FnOk X.prog X.w X.K X.mg X.base (L2.CX X.prog X.w) k f fd ["self"] sp) (hb : Binds X.K fd ["self"] []) (hr : Room (k + 2) X.A) :
    CallR X (.type "str") (rStrO C sp) := by
  intro pins s σ H xs us Q I r h
  obtain ⟨a, dx, fs, rfl, ha, q⟩ := h
  rw [Vals.ref1 r]
  obtain ⟨mA, O, _⟩ := ins_get I.hok ha
  obtain ⟨od, J, _⟩ := O.look
  have hu := hr.units
  refine PySem.W.kso_call (by show X.A.units + 1 + 1 < cLine; omega) I.kIn J hs hf ?_
  have b := hb s [.ref a] I.kIn rfl
  refine wpAny_call (codeAny_mono (F.run X.A.in1.in1 X.stack s H ⟨[.ref a], []⟩ [.ref a] [.ref a] _ (fun _ _ _ => False) hr.in1.in1 I.env0.in1.in1 b (.cons rfl .nil) q) fun r s' hq => ?_)
  cases r with
  | error e =>
    obtain ⟨_, _, _, _, _, _, _, _, _, _, _, _, z⟩ := hq
    exact z.elim
  | ok fl =>
    cases fl with
    | ret u =>
      obtain ⟨v, H', J', rv, z, ev, qq⟩ := I.after hq
      subst ev
      obtain ⟨t, rfl⟩ := rv
      exact ⟨.str z, H', J', ⟨t, rfl⟩, qq⟩
    | next => exact False.elim hq
    | brk => exact False.elim hq
    | cont => exact False.elim hq
end
/-! ### x != y by the class's own ==: object.__ne__ asks it -/
theorem ownEq_of {K : PySem.W.Frag} {x : Str} {h : Heap} {a : Addr} {o : Obj} (q : ownEqB x K = true) (hf : PySem.W.typeIn K (.ref (He.ma K (He.ga K x) "__eq__")) = some (.type "function")) (X : K.In h) (ha : h.get? a = some o) (hc : o.cls = .ref (He.ga K x)) :
    h.OwnEqNoNe a (He.ga K x) (He.ma K (He.ga K x) "__eq__") "object" [.type "object"] := by
  unfold ownEqB at q
  split at q
  · rename_i dd cd sl hC
    split at q
    · rename_i C' ob k0 k1 k2 k3 nw k5 hm hs
      simp only [Bool.and_eq_true, beq_iff_eq, Bool.not_eq_true'] at q
      obtain ⟨⟨⟨⟨⟨e1, e2⟩, hdel⟩, hk⟩, he⟩, hne⟩ := q
      subst e1 e2
      obtain ⟨nm, bs, mro, ns, qn, hd, sn, sub, ab, col, del⟩ := cd
      dsimp only at hm hdel hk he hne
      subst hm hdel
      have hsl : sl = #[k0, k1, k2, k3, some (.builtin nw), k5] := by
        obtain ⟨l⟩ := sl
        simp only at hs
        rw [hs]
      subst hsl
      have hisn : h.isNs ns = true := by
        split at hk
        · rename_i c d es n sl hN
          unfold Heap.isNs
          rw [X _ _ hN]
          exact hk
        · cases hk
      have hns := Heap.Ns.of_isNs hisn
      have look : ∀ {name : Str} {r : Option Value}, PySem.W.nsIn K ns name = some r → h.nsMap ns name = r := fun {name r} e => by
        unfold PySem.W.nsIn at e
        split at e
        · rename_i c d es n sl hN
          unfold Heap.nsMap
          rw [X _ _ hN]
          show nsFind es name = r
          unfold nsFind findBy
          rw [← Array.find?_toList]
          split at e
          · rename_i en he2
            cases e
            rw [he2] <;> rfl
          · rename_i he2
            rw [he2]
            split at e
            · cases e
            · cases e
              first | rfl | trivial
        · cases e
      obtain ⟨of, hof, hofc⟩ : ∃ of, h.get? (He.ma K (He.ga K x) "__eq__") = some of ∧ of.cls = .type "function" := by
        have hf' : (K.lookup (He.ma K (He.ga K x) "__eq__")).map (·.cls) = some (.type "function") := hf
        cases z : K.lookup (He.ma K (He.ga K x) "__eq__") with
        | none =>
          rw [z] at hf'
          cases hf'
        | some of =>
          rw [z] at hf'
          exact ⟨of, X _ _ z, Option.some.inj hf'⟩
      exact ⟨o, of, nm, qn, ns, bs, hd, sn, sub, ab, col, dd, k0, k1, k2, k3, k5, nw, h.nsMap ns, some (.builtin "object.__eq__"), ha, hc, X _ _ hC, hns, look (He.eqO_ok he), hof, hofc, PySem.F.mro_object, PySem.F.cmp_object.eq.lookup, look (He.eqO_ok hne)⟩
    · cases q
  · cases q
/-- x != y: both instances of the class -/
def rNeO (C : Addr) (sp : Sp) : R2 := fun x y H Q => ∃ (a b dx dy : Addr) (fs gs : List (Str × V)), x = .ref a ∧ y = .ref b ∧ H a = some (.ins C dx fs) ∧ H b = some (.ins C dy gs) ∧ sp [.ref a, .ref b] H (fun v H' => ∃ k, v = .bl k ∧ Q (.bl (!k)) H') (fun _ _ _ => False)
theorem op_neO {X : Cx} {x : Str} {fd : FuncData} {sp : Sp} {k : Nat} (q : ownEqB x X.K = true) (hf : PySem.W.typeIn X.K (.ref (He.ma X.K (He.ga X.K x) "__eq__")) = some (.type "function"))
    (F : FnOk X.prog X.w X.K X.mg X.base (L2.CX X.prog X.w) k (He.ma X.K (He.ga X.K x) "__eq__") fd ["self", "other"] sp) (hb : Binds X.K fd ["self", "other"] []) (hr : Room (k + 1) X.A) : OpR X (compareOp .NotEq) (rNeO (He.ga X.K x) sp) := by
  intro pins s σ H x' y v u Q I rx ry h
  obtain ⟨a, b, dx, dy, fs, gs, rfl, rfl, ha, hb', hsp⟩ := h
  cases rx
  cases ry
  obtain ⟨mA, O, _⟩ := ins_get I.hok ha
  obtain ⟨mB, O', _⟩ := ins_get I.hok hb'
  have hu := hr.units
  have bb := hb s [.ref a, .ref b] I.kIn rfl
  have r2 : Vals [V.ref a, V.ref b] [Value.ref a, Value.ref b] := .cons rfl (.cons rfl .nil)
  have go := F.run X.A.in1 X.stack s H ⟨[.ref a, .ref b], []⟩ [.ref a, .ref b] [.ref a, .ref b] _ (fun _ _ _ => False) hr.in1 I.env0.in1 bb r2 hsp
  have Y := ownEq_of q hf I.kIn O.obj rfl
  have O2 := O'.obj
  obtain ⟨hp, g, d, t, os⟩ := s
  refine compareOp_ne_ownEq PySem.F.cmp_object Y O2 rfl (by omega) (wpAny_call (codeAny_mono go fun r s' hq => ?_))
  cases r with
  | error e =>
    obtain ⟨_, _, _, _, _, _, _, _, _, _, _, _, z⟩ := hq
    exact z.elim
  | ok fl =>
    cases fl with
    | ret w =>
      obtain ⟨z, H', I', rz, k', ez, qq⟩ := I.after hq
      subst ez
      cases rz
      exact ⟨k', rfl, .bl (!k'), H', I', rfl, qq⟩
    | next => exact False.elim hq
    | brk => exact False.elim hq
    | cont => exact False.elim hq
end Kl
set_option maxHeartbeats 4000000
/-! ## enumerate(tuple); a list or a tuple walked -/
namespace Kl
open PySem PySem.Spec PyProof.Rows L2
open PySem.Calls in
theorem meets_enumT {v : Value} {o : Obj} {H : Heap → Prop} (B : Begins v o H) :
    Meets (Builtin.«enumerate.__new__» ⟨[.type "enumerate", v], []⟩) (fun _ R s => H s.heap ∧
      R (.ok (.ret (.ref (s.heap.push o).objs.size))) { s with heap := (s.heap.push o).push { cls := .type "enumerate", data := .fields #[.none, .bool false, .ref s.heap.objs.size, rawInt 0, .none, .none] } }) :=
  .of_wp fun prog w A R s h => by
    obtain ⟨hp, g, d, tk, os⟩ := s
    obtain ⟨h1, h⟩ := h
    have hsub := sub_enumerate
    have q1 : ∀ {A' : Around} {E : Value → Shared → Prop} {Q : Value → Shared → Prop}, Q (.ref hp.objs.size) ⟨hp.push o, g, d, tk, os⟩ → wpAny (model prog w) A' (pyIter v) Q E ⟨hp, g, d, tk, os⟩ :=
      fun q => B.iter prog w _ _ ⟨hp, g, d, tk, os⟩ _ h1 q
    wp_walk using q1
    refine wpAny_stack_any fun st => wpAny_pure ?_
    split
    · rename_i c _ _ _ _ _
      cases (c == Value.type "enumerate")
      · wp_walk using q1
        exact ⟨_, rfl, h⟩
      · wp_walk using q1
        exact ⟨_, rfl, h⟩
    · wp_walk using q1
      exact ⟨_, rfl, h⟩
theorem call_enumT {prog : Program} {w : World} {A : Around} {E : Value → Shared → Prop} {s : Shared} {v : Value} {o : Obj} {H : Heap → Prop} {Q : Value → Shared → Prop} (B : Begins v o H) (h1 : H s.heap)
    (h : ∀ h', IsEnum h' (s.heap.objs.size + 1) s.heap.objs.size 0 .none → h'.get? s.heap.objs.size = some o →
      (∀ b o, s.heap.get? b = some o → h'.get? b = some o) → Q (.ref (s.heap.objs.size + 1)) { s with heap := h' }) :
    wpAny (model prog w) A (call (.type "enumerate") [v]) Q E s := by
  refine callType_new F.called_enumerate (by decide) (F.typeCall_enumerate_1 _) (F.newCall_enumerate_1 _) (fun obj => F.args_object_init_2 obj _) F.entry_enumerate_new (meets_enumT B) ⟨h1, ?_⟩
  have hz : (s.heap.push o).objs.size = s.heap.objs.size + 1 := Heap.size_push ..
  show _ ∧ _
  rw [hz]
  have he : IsEnum ((s.heap.push o).push { cls := .type "enumerate", data := .fields #[.none, .bool false, .ref s.heap.objs.size, rawInt 0, .none, .none] }) (s.heap.objs.size + 1) s.heap.objs.size 0 .none := by
    have := Heap.get?_push_size (s.heap.push o) (o := { cls := .type "enumerate", data := .fields #[.none, .bool false, .ref s.heap.objs.size, rawInt 0, .none, .none] }) rfl
    rw [hz] at this
    exact this
  exact ⟨⟨_, he, rfl⟩, h _ he (Heap.get?_push_of_some _ (Heap.get?_push_size _ B.free)) fun b o x => Heap.get?_push_of_some _ (Heap.get?_push_of_some _ x)⟩
/-- the tuple at a, each item in a new pair -/
def IteT (K : PySem.W.Frag) (a : Addr) : It :=
  ⟨fun i H => ∃ (xs : List V) (x : V), SqT K H a xs ∧ xs[i]? = some x, fun i H v H' => ∃ T x, v = .ref T ∧ H T = none ∧ H' = upd H T (.tup [.int (i : Nat), x]) ∧ ∀ xs, SqT K H a xs → xs[i]? = some x, fun i H => ∃ xs : List V, SqT K H a xs ∧ xs.length ≤ i⟩
theorem turn_enumT {P : Program} {w : World} {K : PySem.W.Frag} {elts : List Expr} {kk : Nat} {tpos : Pos} (a e it : Addr) :
    Turn P w K (.Tuple elts kk tpos) (IteT K a) [e, it] e (fun i h => (∃ old, IsEnum h e it ((i : Nat) : Int) old) ∧ h.IsTupleIter it a i ∧ e ≠ it ∧ a ≠ it ∧ a ≠ e) where
  mem := by simp
  obj := fun i h st b hb => by
    obtain ⟨⟨old, he⟩, ⟨o, ho, hc, hd⟩, _⟩ := st
    have e' : b = e ∨ b = it := by simpa using hb
    rcases e' with z | z
    · rw [z]; exact ⟨_, he, fun v q => nomatch q⟩
    · rw [z]; exact ⟨o, ho, fun v q => by rw [hd] at q; cases q⟩
  keep := fun i h h' st k => let ⟨⟨old, he⟩, hi, hne⟩ := st; ⟨⟨old, k e (by simp) _ he⟩, hi.at fun o q => k it (by simp) o q, hne⟩
  item := by
    intro X hP hw hK hc i pins s σ H E I hf st hg
    subst hP hw hK
    obtain ⟨⟨old, he⟩, hit, hne, na, nae⟩ := st
    obtain ⟨xs, x, hq, hx⟩ := hg
    obtain ⟨its, rv, p, hz⟩ := I.tuple hq
    obtain ⟨u, hu, ru⟩ := rv.get hx
    have hel : e < s.heap.objs.size := Heap.lt_size he
    have hil : it < s.heap.objs.size := by obtain ⟨_, q, _⟩ := hit; exact Heap.lt_size q
    have hlt : i < its.toArray.size := by
      rw [List.size_toArray]
      exact (List.getElem?_eq_some_iff.mp hu).1
    refine PySem.wpAny_pyNext_enum_itemC (Draws.tuple (prog := X.prog) (w := X.w) (A := X.A.in1) (show X.A.in1.handled = none from I.ok.hd hc) it a na its.toArray) he ⟨hit, show s.heap.IsTuple a its.toArray from p⟩ hlt hne (fun z => by rcases List.mem_cons.mp z with z | z; exact hne z; exact nae (List.mem_singleton.mp z).symm) fun x' h' tk hx' ho hit' hT hsz hk => ?_
    have ex : x' = u := by
      have z : its[i]? = some x' := by
        rw [← List.getElem?_toArray]
        exact hx'
      rw [hu] at z
      exact (Option.some.inj z).symm
    subst ex
    refine ⟨_, rfl, wpAny_letOwnedTupleGo_enum (s := { s with heap := h', toks := tk + 1 }) ho fun h'' he' sb => ?_⟩
    have hT2 : h''.get? s.heap.objs.size = some { cls := .type "tuple", data := .seq #[.int i tk, x'] } := (sb.2 _ (Nat.ne_of_gt hel)).trans hT
    have new : ObjOk X.prog X.w (upd H s.heap.objs.size (.tup [.int (i : Nat), x])) h'' s.heap.objs.size (.tup [.int (i : Nat), x]) :=
      ⟨by show 2 ≤ sizeLine; decide, [.int i tk, x'], .cons ⟨_, rfl⟩ (.cons ru .nil), ⟨_, hT2, rfl, _, rfl⟩⟩
    have I1 : Inv X pins σ (upd H s.heap.objs.size (.tup [.int (i : Nat), x])) { s with heap := h'', toks := tk + 1 } :=
      I.turnedNew (ch := [e, it]) (fun b ob hb q => (sb.2 b (fun z => hb (by simp [z]))).trans (hk b ob (fun z => hb (by simp [z])) (fun z => hb (by simp [z])) q)) hf (Nat.le_refl _) new
    refine ⟨.ref s.heap.objs.size, _, I1, rfl, ⟨_, x, rfl, I.hok.fresh (Nat.le_refl _), rfl, fun ys hy => by rw [I.tuple_inj hy hq]; exact hx⟩, ⟨⟨x', ?_⟩, hit'.1.at fun o q => (sb.2 it (Ne.symm hne)).trans q, hne, na, nae⟩, fun b hb => ?_⟩
    · have e1 : ((i + 1 : Nat) : Int) = (i : Int) + 1 := by omega
      rw [e1]; exact he'
    · have hb' : b < s.heap.objs.size := by
        have e' : b = e ∨ b = it := by simpa using hb
        rcases e' with z | z
        · rw [z]; exact hel
        · rw [z]; exact hil
      rw [upd_ne (Nat.ne_of_lt hb')]
      exact (hf b hb).1
  done := by
    intro X hP hw hK hc i pins s σ H E I hf st hg
    subst hP hw hK
    obtain ⟨⟨old, he⟩, hit, hne, na, nae⟩ := st
    obtain ⟨xs, hq, hx⟩ := hg
    obtain ⟨its, rv, p, hz⟩ := I.tuple hq
    obtain ⟨f0, f1, f2, f3, f4, f5⟩ := hf it (by simp)
    have hl := rv.length
    have D0 := Draws.tuple (prog := X.prog) (w := X.w) (A := X.A.in1) (show X.A.in1.handled = none from I.ok.hd hc) it a na its.toArray
    have D : Draws X.prog X.w X.A.in1 it [it, a] i (fun _ _ => True) (fun j h => j = i ∧ h.IsTupleIter it a j ∧ h.IsTuple a its.toArray) := by
      refine ⟨fun j h st => D0.live j h st.2, fun j h h' st k => ⟨st.1, D0.frame j h h' st.2 k⟩, fun j s Q E hj st hQ => absurd st.1 (Nat.ne_of_lt hj), fun s Q E st hE => ?_⟩
      exact wpAny_nextOf_tuple_end (show X.A.in1.handled = none from I.ok.hd hc) st.2.1 st.2.2 (by simp; omega) hE
    exact wpAny_pyNext_enum_endD D he ⟨rfl, hit, p⟩ fun h' eb => ⟨rfl, I.turned (t' := s.toks) (fun b o hb q => eb b o hb q) f0 f1 f3 f4 f5⟩
  self := fun A i s Q E st h => let ⟨⟨_, he⟩, _⟩ := st; wpAny_pyIter_enum he h
/-- what is walked: a list or a tuple -/
def iSeq (K : PySem.W.Frag) (ta : TE) : TI := fun σ H R => ta σ H fun v H1 => ∃ a, v = .ref a ∧ ((∃ xs, SqL K H1 a xs) ∧ R (Itl K a) H1 ∨ (∃ xs, SqT K H1 a xs) ∧ R (Itt K a) H1)
theorem pi_seq {X : Cx} {tg l : Expr} {tl : TE} (hl : PE X l tl) : PI X tg l (iSeq X.K tl) := by
  refine ⟨fun pins s σ H R I h => ?_⟩
  refine thn (hl.run pins s σ H _ I h) fun v s1 ⟨x, H1, I1, r1, q1⟩ => ?_
  obtain ⟨a, e, ⟨⟨xs, hq⟩, q⟩ | ⟨⟨xs, hq⟩, q⟩⟩ := q1
  · subst e
    cases r1
    obtain ⟨its, rv, p, hz⟩ := I1.list hq
    refine wpAny_pyIter_list p.isList ?_
    refine ⟨s1.heap.objs.size, [s1.heap.objs.size], _, _, H1, rfl, I1.kept (t' := s1.toks) fun b o e => Heap.get?_push_of_some _ e, turn_list a _, ⟨_, Heap.get?_push_size _ rfl, rfl, rfl⟩, fun b hb => ?_, q⟩
    have e : b = s1.heap.objs.size := by simpa using hb
    subst e
    exact I1.fpOk (Nat.le_refl _) (I1.hok.fresh (Nat.le_refl _))
  · subst e
    cases r1
    obtain ⟨its, rv, p, hz⟩ := I1.tuple hq
    refine wpAny_pyIter_tuple (show s1.heap.IsTuple a its.toArray from p) ?_
    refine ⟨s1.heap.objs.size, [s1.heap.objs.size], _, _, H1, rfl, I1.kept (t' := s1.toks) fun b o e => Heap.get?_push_of_some _ e, turn_tuple a _, ⟨_, Heap.get?_push_size _ rfl, rfl, rfl⟩, fun b hb => ?_, q⟩
    have e : b = s1.heap.objs.size := by simpa using hb
    subst e
    exact I1.fpOk (Nat.le_refl _) (I1.hok.fresh (Nat.le_refl _))
/-- enumerate(v), v a list or a tuple -/
def iEnumS (K : PySem.W.Frag) (ta : TA) : TI := fun σ H R => ta σ H fun vs H1 => ∃ a, vs = [.ref a] ∧ ((∃ xs, SqL K H1 a xs) ∧ R (Ite K a) H1 ∨ (∃ xs, SqT K H1 a xs) ∧ R (IteT K a) H1)
theorem pi_enumS {X : Cx} {e : Expr} {ta : TA} {p pos tpos : Pos} {elts : List Expr} {kk : Nat} (hg : Gl X "enumerate") (hm : X.mg "enumerate" = none) (ha : PA X [e] ta) (hs : starEach [e] X.env = [(false, eval e X.env)] := by rfl) :
    PI X (.Tuple elts kk tpos) (.Call (.Name "enumerate" p) [e] [] pos) (iEnumS X.K ta) := by
  refine ⟨fun pins s σ H R I h => ?_⟩
  refine Call_ (ld_blt I hg hm boot_enumerate (PyProof.Rows.callWith_type1 (thn (ha.run pos pins s σ H _ I h) fun us s1 ⟨vs, H1, I1, r1, q1⟩ => ?_) hs rfl))
  have fin : ∀ {b : Addr}, b ∈ [s1.heap.objs.size + 1, s1.heap.objs.size] → s1.heap.objs.size ≤ b := fun {b} hb => by
    have e' : b = s1.heap.objs.size + 1 ∨ b = s1.heap.objs.size := by simpa using hb
    rcases e' with z | z
    · rw [z]; exact Nat.le_add_right _ _
    · rw [z]; exact Nat.le_refl _
  obtain ⟨a, ex, ⟨⟨xs, hq⟩, q⟩ | ⟨⟨xs, hq⟩, q⟩⟩ := q1
  · subst ex
    cases r1 with
    | cons r rr =>
      cases rr
      cases r
      obtain ⟨its, rv, p', hz⟩ := I1.list hq
      refine call_enumerate_list p'.isList fun h' he hit hsz hk => wpAny_pyIter_enum he ?_
      have I2 : Inv X pins σ H1 { s1 with heap := h' } := I1.kept (t' := s1.toks) hk
      exact ⟨s1.heap.objs.size + 1, [s1.heap.objs.size + 1, s1.heap.objs.size], _, _, H1, rfl, I2, turn_enum a (s1.heap.objs.size + 1) s1.heap.objs.size, ⟨⟨.none, he⟩, hit, Nat.succ_ne_self _⟩, fun b hb => I1.fpOk (fin hb) (I1.hok.fresh (fin hb)), q⟩
  · subst ex
    cases r1 with
    | cons r rr =>
      cases rr
      cases r
      obtain ⟨its, rv, p', hz⟩ := I1.tuple hq
      have hlt : a < s1.heap.objs.size := p'.lt
      refine call_enumT (begins_tuple a its.toArray) p' fun h' he hit hk => wpAny_pyIter_enum he ?_
      have I2 : Inv X pins σ H1 { s1 with heap := h' } := I1.kept (t' := s1.toks) hk
      exact ⟨s1.heap.objs.size + 1, [s1.heap.objs.size + 1, s1.heap.objs.size], _, _, H1, rfl, I2, turn_enumT a (s1.heap.objs.size + 1) s1.heap.objs.size, ⟨⟨.none, he⟩, ⟨_, hit, rfl, rfl⟩, Nat.succ_ne_self _, Nat.ne_of_lt hlt, Nat.ne_of_lt (Nat.lt_succ_of_lt hlt)⟩, fun b hb => I1.fpOk (fin hb) (I1.hok.fresh (fin hb)), q⟩
end Kl
set_option maxHeartbeats 4000000
/-! ## An own exception below an own one below ValueError: __init__ says super().__init__(text), then stores one field. Made, raised; caught and held in a name: its class asked, its field read -/
namespace Kl
open PySem PySem.Spec PyProof.Rows L2
open PySem.W PySem.Calls PySem.HandSPX in
section
/-! ### the text of such an __init__ -/
def xA (p1 p2 : Pos) : Arguments := { posonlyargs := [], args := [{ arg := "self", annotation := none, pos := p1 }, { arg := "part", annotation := none, pos := p2 }], vararg := none, kwonlyargs := [], kw_defaults := [], kwarg := none, defaults := [] }
def xB (t : Str) (p1 p2 p3 p4 p5 p6 q1 q2 q3 q4 : Pos) : List Stmt :=
  [.Expr (.Call (.Attribute (.Call (.Name "super" p1) [] [] p2) "__init__" p3) [.Constant (.str t) 0 p4] [] p5) p6, .Assign [.Attribute (.Name "self" q1) "part" q2] (.Name "part" q3) q4]
def xS : Scope := { kind := .function, names := [(PySem.Str.ofString "self", .local), (PySem.Str.ofString "part", .local), (PySem.Str.ofString "__class__", .free), (PySem.Str.ofString "super", .globalImplicit)], isGenerator := false, isCoroutine := false, more := [] }
end
/-- what the written part says of the class at C and of its __init__, at fI -/
structure ExT (K : PySem.W.Frag) (C fI : Addr) : Prop where
  cls : ∃ nm q N bs bm sn sub ab col dd k0 k1 k2 k3 k5, K.lookup C = some (excClassObj nm q C N bs bm true sn sub ab col dd k0 k1 k2 k3 k5 "ValueError.__new__") ∧ PySem.HandSPX.refsVE bm = true
  sa : PySem.W.findIn K (.ref C) "__setattr__" = some (some (.builtin "object.__setattr__"))
  ga : PySem.W.findIn K (.ref C) "__getattribute__" = some (some (.builtin "BaseException.__getattribute__"))
  gg : PySem.W.findIn K (.ref C) "__getattr__" = some none
  noP : PySem.W.findIn K (.ref C) "part" = some none
  iC : PySem.W.findIn K (.ref C) "__init__" = some (some (.ref fI))
  tI : PySem.W.typeIn K (.ref fI) = some (.type "function")
  kC : PySem.W.keepIn K (.ref C) = true
  exC : PySem.W.subIn K (.ref C) (.type "BaseException") = some true
  veC : PySem.W.subIn K (.ref C) (.type "ValueError") = some true
  tyC : PySem.W.typeIn K (.ref C) = some (.type "type")
  hdC : PySem.W.hasDictIn K C = true
  meC : PySem.W.mroIn K C (.ref C) = some true
  suC : PySem.W.ks_superIn K C C "__init__" = some (some (.builtin "ValueError.__init__"))
  xin : PySem.W.excInitIn K C [.type "ValueError", .type "Exception", .type "BaseException", .type "object"] "ValueError.__new__" = true
  no3 : PySem.W.nsIn K cStatics "thirdparty.any" = some none
  fn : ∃ (qual t : Str) (oc kV doc pm ct : Value) (od an : Option Addr) (cda cc : Addr) (osl : Array (Option Value)) (p1 p2 r1 r2 r3 r4 r5 r6 q1 q2 q3 q4 : Pos) (ccl cl : Value) (cdd cld : Option Addr) (vs : Array Value) (ccs csl : Array (Option Value)) (file : Str) (tf : Tok),
    K.lookup fI = some ⟨oc, od, .func (PySem.W.ksFn "__init__" qual (xA p1 p2) (xB t r1 r2 r3 r4 r5 r6 q1 q2 q3 q4) xS .none kV doc pm an (.ref cda) ct cc), osl⟩ ∧ PySem.W.codeIn K (.ref cda) qual = true ∧
    K.lookup cda = some ⟨ccl, cdd, .fields vs, ccs⟩ ∧ vs[2]? = some (.str file tf) ∧ ((PR.main.file : Str) == file) = true ∧ (r3.endLine == r5.line) = true ∧ K.lookup cc = some ⟨cl, cld, .cell (some (.ref C)), csl⟩
section
open PySem.W PySem.Calls PySem.HandSPX
variable {w : World} {A : Around} {E : Value → Shared → Prop} {R : Result → Shared → Prop} {s : Shared} {K : PySem.W.Frag} {mg mb : Str → Option Value} {C fI : Addr}
/-- what __init__ leaves of a fresh exception at x -/
structure InitEnd (h h' : Heap) (x C dx t1 : Addr) (v : Value) : Prop where
  keep : ∀ b o, b ≠ x → h.get? b = some o → h'.get? b = some o
  obj : h'.get? x = some { cls := .ref C, dict := some dx, data := .fields #[.ref t1, .none, .none, .none, .bool false, .none] }
  dbig : h.objs.size ≤ dx
  dne : dx ≠ x
  ns : h'.Ns1 dx (fun y => if y = "part" then some v else none)
theorem hide_in {h : Heap} {x : Addr} (X : K.In h) (hx : K.lookup x = none) : K.In (PySem.W.hideAll h [x]) := fun a o e =>
  PySem.W.hideAll_get [x] (X a o e) (fun z => by
    have z' : a = x := by simpa using z
    rw [z', hx] at e
    cases e)
theorem size_ge_of_all {h h' : Heap} (k : ∀ b o, h.get? b = some o → h'.get? b = some o) {y : Addr} {o : Obj} (e : h.get? y = some o) : h'.get? y = some o := k y o e
theorem low_init (T : ExT K C fI) {x t0 : Addr} {v : Value} (X : K.In s.heap) (G : s.heap.Ns mainGlobals mg) (hsup : mg "super" = none) (B : s.heap.Ns builtinsNs mb) (hbb : ∀ x : Str, x ≠ "__name__" → mb x = bootBuiltins x) (hlim : s.heap.NoLimit) (hx : s.heap.get? x = some (excO C t0)) (hnx : K.lookup x = none) (hroom : A.depth < recursionLimit)
    (hq : ∀ h' tk t1 dx, InitEnd s.heap h' x C dx t1 v → R (.ok (.ret .none)) { s with heap := h', toks := tk }) :
    codeAny (model PR w) A (.call (.ref fI) ⟨[.ref x, v], []⟩) R s := by
  obtain ⟨qual, t, oc, kV, doc, pm, ct, od, an, cda, cc, osl, p1, p2, r1, r2, r3, r4, r5, r6, q1, q2, q3, q4, ccl, cl, cdd, cld, vs, ccs, csl, file, tf, ho, hcd, hcode, hvs, hfile, hpos, hcell⟩ := T.fn
  obtain ⟨nm, q, N, bs, bm, sn, sub, ab, col, dd, k0, k1, k2, k3, k5, hC, hbm⟩ := T.cls
  obtain ⟨hp, g, d, tk, os⟩ := s
  have hcl : clsIn K C = some { name := nm, bases := bs, mro := .ref C :: bm, ns := N, qualname := q, hasDict := true, slotNames := sn, subclasses := sub, abstract := ab, collection := col, hasDel := false } := by unfold clsIn; rw [hC] <;> rfl
  refine ks_codeAny_call_defAt (binds := [("self", .ref x), ("part", v)]) hroom (X _ _ ho) rfl hlim (codeRec_of X hcd) rfl (BindsTo.of_eq (by first | rfl | with_unfolding_all rfl)) (show ∀ y ∈ xS.names, y.2 ≠ .cell by decide +kernel) (fun y hy => ?loc) (fun h₁ hn k => ?_) rfl rfl rfl
  case loc =>
    rcases List.mem_cons.mp hy with e | hy
    · rw [e]
      exact (show xS.names.lookup ("self" : Str) = some .local by decide +kernel)
    · rw [List.mem_singleton.mp hy]
      exact (show xS.names.lookup ("part" : Str) = some .local by decide +kernel)
  have X₁ : K.In h₁ := X.keeps k
  have hx₁ := k _ _ hx
  have hL : hp.objs.size < h₁.objs.size := hn.lt
  -- super().__init__(text)
  show _root_.PySem.wpAt _ _ _ (execs (xB t r1 r2 r3 r4 r5 r6 q1 q2 q3 q4) _) _ _ _
  refine ks_wpAt_execs_cons (ks_wpAt_Expr_any (ks_wpAt_MethodCall (pl := L2.plainOf (.Call (.Name "super" r1) [] [] r2) (callEnv (ksFn "__init__" qual (xA p1 p2) (xB t r1 r2 r3 r4 r5 r6 q1 q2 q3 q4) xS .none kV doc pm an (.ref cda) ct cc) hp.objs.size fI)) ?_ ?he) rfl rfl)
  case he =>
    rw [arm_eval_Call]
    exact congrArg (_ >>= ·) (funext fun ov => congrArg (_ >>= ·) (funext fun _ => mcall_line (by rfl) hpos))
  refine ks_wpAt_super_base (file := file) (tf := tf) (ar := { arg := "self", annotation := none, pos := p1 }) rfl rfl (by decide +kernel) rfl (X₁ _ _ ho) rfl rfl rfl (X₁ _ _ hcode) rfl hvs hfile (by decide +kernel) ?_
  refine ks_loadName_global rfl rfl (loadGlobal_builtin (G.keeps k) hsup (B.keeps k) ((hbb _ (by decide +kernel)).trans (by first | rfl | kernel_rfl)) ⟨rfl, ?_⟩)
  refine wpAny_loadName_free rfl rfl rfl ⟨_, X₁ _ _ hcell, rfl⟩ ?_
  refine wpAny_loadName_local (v := .ref x) rfl rfl hn rfl ?_
  refine ks_wpAny_isType_cls (X₁ _ _ hC) rfl ⟨rfl, ?_⟩
  refine ks_wpAny_call_super (X₁ _ _ hC) rfl hx₁ rfl (fun c z => by cases z) (looks_mroIn X₁ T.meC) (fun h₂ e₂ k₂ => ?_)
  have X₂ : K.In h₂ := X₁.keeps k₂
  have hx₂ := k₂ _ _ hx₁
  have hxC : x ≠ C := fun z => by
    rw [z, X _ _ hC] at hx
    cases hx
  have hal : alongIn K "__init__" (((Value.ref C :: bm).dropWhile (· != .ref C)).drop 1) = some (some (.builtin "ValueError.__init__")) := by
    have z := T.suC
    unfold ks_superIn at z
    rw [hcl] at z
    exact z
  have I₂ : InstAt h₂ x (excO C t0) C none := ⟨hx₂, rfl, rfl, trivial⟩
  refine kxs_getMethod kxs_ValueError e₂ (looks_opaque X₂ T.no3) (l₀ := .ref C :: bm) (fun A Q E s k q => wpAny_bind ((looks_clsIn X₂ hcl) A _ E s k (wpAny_pure q))) rfl X₂ hal (I₂.type.andThen (looks_subIn X₂ T.veC)) hxC (by decide +kernel) ?_
  -- the wrapper called: the args are laid anew
  have hsz1 : h₁.objs.size ≤ h₂.objs.size := Nat.le_of_lt (Heap.lt_size e₂)
  have hL2 : hp.objs.size < h₂.objs.size := Nat.lt_of_lt_of_le hL hsz1
  have hxL : x < hp.objs.size := Heap.lt_size hx
  have k₃ : ∀ b o, hp.get? b = some o → (h₂.push (kxs_mw "ValueError.__init__" x)).get? b = some o := fun b o e => Heap.get?_push_of_some _ (k₂ _ _ (k _ _ e))
  have n0 : (PySem.W.hideAll hp [x]).get? x = none := PySem.W.hideAll_none [x] (by simp)
  have s0 : (PySem.W.hideAll hp [x]).objs.size = hp.objs.size := PySem.W.hideAll_size _ _
  have F₃ : Fr (PySem.W.hideAll hp [x]) hp.objs.size (h₂.push (kxs_mw "ValueError.__init__" x)) (fun y => List.lookup y [(Str.ofString "self", Value.ref x), (Str.ofString "part", v)].reverse) :=
    ⟨(hn.keeps k₂).push _, fun b o e => k₃ b o (of_hideAll [x] e), Nat.le_of_eq s0⟩
  have N₃ : News (PySem.W.hideAll hp [x]) hp.objs.size (h₂.push (kxs_mw "ValueError.__init__" x)) [(h₂.objs.size, kxs_mw "ValueError.__init__" x), (x, excObj C t0 none .none)] := fun p hp' => by
    rcases List.mem_cons.mp hp' with e | hp'
    · rw [e]
      exact ⟨Heap.get?_push_size _ rfl, Nat.ne_of_gt hL2, Heap.get?_none_of_le (by rw [s0]; exact Nat.le_of_lt hL2)⟩
    · rw [List.mem_singleton.mp hp']
      exact ⟨k₃ _ _ hx, Nat.ne_of_lt hxL, n0⟩
  refine kxs_callWith1 N₃ List.mem_cons_self ?_ rfl rfl
  refine Calls.spliced_cons (Calls.Constant_str (k := 0) (pos := r4) (Calls.spliced_nil ⟨Heap.get?_push_size _ rfl, ?_⟩))
  refine kxs_call F₃ (hide_in X hnx) N₃ F.excBase_ValueError T.xin List.mem_cons_self (.tail (Nat.ne_of_gt (Nat.lt_trans hxL hL2)) (.head fun p hp' => (nomatch hp'))) (by show 1 ≤ sizeLine; rw [sizeLine_eq]; decide) (fun t' h₄ F₄ N₄ _ => ?_)
  -- self.part = part
  have X₄ : K.In h₄ := (hide_in X hnx).keeps F₄.keep
  have hx₄ : h₄.get? x = some (excO C t') := (N₄ (x, excObj C t' none .none) (by simp)).1
  show _root_.PySem.wpAt _ _ _ (execs _ _) _ _ _
  refine wpAt_of_wpAny (wpAny_execs_cons (plainObj_wpAny_Assign_Attribute ?_))
  refine PySem.ESX.ldL (v := v) F₄.ns (by first | rfl | with_unfolding_all rfl | kernel_rfl) (PySem.ESX.ldL (v := .ref x) F₄.ns (by first | rfl | with_unfolding_all rfl | kernel_rfl) ?_)
  refine set_plain X₄ (ox := excO C t') (od := none) ⟨hx₄, rfl, rfl, trivial⟩ T.sa ?_
  refine exc_osa X₄ hx₄ hcl (show refsVE (.ref C :: bm) = true from hbm) rfl T.noP (fun h₅ tk₅ dx k₅ dn dne hx₅ hn₅ => ?_)
  have k₄ : ∀ b o, b ≠ x → hp.get? b = some o → h₄.get? b = some o := fun b o hb e => F₄.keep b o (PySem.W.hideAll_get [x] e (by simpa using hb))
  refine wpAny_execs_nil (hq h₅ tk₅ t' dx ⟨fun b o hb e => k₅ b o hb (k₄ b o hb e), hx₅, ?_, dne, hn₅⟩)
  exact Nat.le_trans (Nat.le_of_lt F₄.ns.lt) dn
end
end Kl
set_option maxHeartbeats 4000000
/-! ## An own exception made and raised -/
namespace Kl
open PySem PySem.Spec PyProof.Rows L2
section
open PySem.W PySem.Calls PySem.HandSPX
variable {w : World} {A : Around} {E : Value → Shared → Prop} {R : Result → Shared → Prop} {s : Shared} {K : PySem.W.Frag} {mg mb : Str → Option Value} {C fI : Addr}
/-- a made exception -/
structure OwnMade (h h' : Heap) (e C d : Addr) (v : Value) : Prop where
  keep : ∀ b o, h.get? b = some o → h'.get? b = some o
  new : h.objs.size ≤ e
  obj : ∃ oe vs, h'.get? e = some oe ∧ oe.cls = .ref C ∧ oe.dict = some d ∧ oe.data = .fields vs ∧ vs[1]? = some .none
  dbig : h.objs.size ≤ d
  dne : d ≠ e
  ns : h'.Ns1 d (fun y => if y = "part" then some v else none)
theorem one_size (v : Value) : [v].length ≤ sizeLine := by
  rw [sizeLine_eq]
  exact (by decide : 1 ≤ 16777216)
theorem low_made (T : ExT K C fI) {v : Value} (X : K.In s.heap) (G : s.heap.Ns mainGlobals mg) (hsup : mg "super" = none) (B : s.heap.Ns builtinsNs mb) (hbb : ∀ x : Str, x ≠ "__name__" → mb x = bootBuiltins x) (hlim : s.heap.NoLimit) (hroom : A.depth + 1 < recursionLimit)
    (hq : ∀ h' tk e d, OwnMade s.heap h' e C d v → R (.ok (.ret (.ref e))) { s with heap := h', toks := tk }) :
    codeAny (model PR w) A (.call (.ref C) ⟨[v], []⟩) R s := by
  obtain ⟨nm, q, N, bs, bm, sn, sub, ab, col, dd, k0, k1, k2, k3, k5, hC, hbm⟩ := T.cls
  obtain ⟨hp, g, dr, tk, os⟩ := s
  have k : ∀ b o, hp.get? b = some o → ((hp.push (kdv_tup [v])).push (excO C hp.objs.size)).get? b = some o := fun b o e => Heap.get?_push_of_some _ (Heap.get?_push_of_some _ e)
  have hget : ((hp.push (kdv_tup [v])).push (excO C hp.objs.size)).get? (hp.objs.size + 1) = some (excO C hp.objs.size) := by heap_get
  have hnx : K.lookup (hp.objs.size + 1) = none := by
    cases e : K.lookup (hp.objs.size + 1) with
    | none => rfl
    | some o =>
      have z : hp.get? (hp.objs.size + 1) = some o := X _ _ e
      exact absurd (Nat.lt_of_succ_lt (Heap.lt_size z)) (Nat.lt_irrefl _)
  refine call_own F.excBase_ValueError (fun X => refsVE_contains X bm hbm) (X _ _ hC) (looks_findIn X T.iC) (fun self => bind_fn X self T.tI) (one_size v) ?_
  refine low_init (s := ⟨(hp.push (kdv_tup [v])).push (excO C hp.objs.size), g, dr, tk, os⟩) T (X.keeps k) (G.keeps k) hsup (B.keeps k) hbb (hlim.keeps k) hget hnx ?_ fun h' tk' t1 dx ⟨k', hx, dn, dne, hns⟩ => ?_
  · show A.depth + 1 < recursionLimit
    exact hroom
  · have old : ∀ b o, hp.get? b = some o → h'.get? b = some o := fun b o e => k' b o (Nat.ne_of_lt (Nat.lt_succ_of_lt (Heap.lt_size e))) (k b o e)
    have z : hp.objs.size + 1 + 1 ≤ dx := by
      first
        | (simpa only [Heap.size_push] using dn)
        | exact dn
        | (have q := dn; rw [Heap.size_push, Heap.size_push] at q; exact q)
    exact ⟨rfl, hq h' tk' (hp.objs.size + 1) dx ⟨old, Nat.le_succ _, ⟨_, _, hx, rfl, rfl, rfl, rfl⟩, Nat.le_trans (Nat.le_trans (Nat.le_succ _) (Nat.le_succ _)) z, dne, hns⟩⟩
end
theorem relO_part {v : V} {v' : Value} (r : RelV v v') (f : Str) : RelO (List.lookup f [(("part" : Str), v)]) (if f = "part" then some v' else none) := by
  by_cases hw : f = "part"
  · subst hw
    rw [if_pos rfl]
    have q : List.lookup ("part" : Str) [(("part" : Str), v)] = some v := by simp [List.lookup]
    rw [q]
    exact r
  · rw [if_neg hw]
    have qw : (f == ("part" : Str)) = false := by simpa using hw
    have q2 : List.lookup f [(("part" : Str), v)] = none := by simp [List.lookup, qw]
    rw [q2]
    trivial
section
variable {X : Cx} {C fI : Addr}
/-- C(e) -/
def tMk (C : Addr) (ta : TA) : L2.St → Hp → XK → Prop := fun σ H Q => ta σ H fun vs H1 => ∃ v, vs = [v] ∧ ∀ d, H1 d = none → Q (.ref C) (some d) (upd H1 d (.xd [(("part" : Str), v)]))
theorem pmk {nm : Str} {a : Expr} {ta : TA} {p pos : Pos} {k : Nat} (hP : X.prog = PR) (T : ExT X.K C fI) (gC : X.mg nm = some (.ref C)) (hsup : X.mg "super" = none) (hr : Room k X.A) (ha : PA X [a] ta) (hg : Gl X nm := by rfl) (hdb : (nm == ("__debug__" : Str)) = false := by decide)
    (he : starEach (a :: []) X.env = (false, eval a X.env) :: starEach [] X.env := by rfl) (hpl : (backTo pos (starEach [] X.env)).any (·.1) = false := by rfl) :
    PMk X (.Call (.Name nm p) [a] [] pos) (tMk C ta) := by
  intro pins s σ H Q I h
  refine wpAny_Call_Name_kw (ld_glob I hg gC ?_ hdb)
  refine PySem.W.callWith_K (h₀ := X.base) I.ok.mod.kin T.kC (thn (ha.run pos pins s σ H _ I h) fun us s1 hh => ?_) he hpl
  obtain ⟨vs, H1, I1, r1, v, ev, q1⟩ := hh
  subst ev
  refine ⟨I1.kIn, ?_⟩
  cases r1 with
  | cons rv rn =>
    rename_i v' us'
    cases rn
    show wpAny _ _ (call (.ref C) [v']) _ _ _
    have hlim := I1.nolimit
    obtain ⟨mb, hb, hbb⟩ := I1.mod.blt
    have G1 := I1.mod.glob.keeps I1.bk
    have B1 := hb.keeps I1.bk
    have T' := T
    obtain ⟨hp, g, dr, tk, os⟩ := s1
    refine wpAny_call (hP.symm ▸ low_made T I1.kIn G1 hsup B1 hbb hlim (by have := hr.dp; omega) fun h' tk' e d M => ?_)
    show MkP X pins σ Q (.ref e) ⟨h', g, dr, tk', os⟩
    obtain ⟨oe, fv, hoe, hc, hd, hdat, h1⟩ := M.obj
    have hns := M.ns
    obtain ⟨G', g1, g2⟩ := restrict h' fun b => decide (b ≠ e)
    have gk : ∀ b, b ≠ e → G'.get? b = h'.get? b := fun b hb => g1 b (decide_eq_true hb)
    have ge : G'.get? e = none := g2 e (by simp)
    have old : ∀ b o, hp.get? b = some o → G'.get? b = some o := fun b o q => (gk b (Nat.ne_of_lt (Nat.lt_of_lt_of_le (Heap.lt_size q) M.new))).trans (M.keep b o q)
    have ob : ObjOk X.prog X.w (upd H1 d (.xd [(("part" : Str), v)])) G' d (.xd [(("part" : Str), v)]) :=
      ⟨_, hns.at (fun o q => (gk d M.dne).trans q), fun f => relO_part rv f⟩
    have J : Inv X pins σ (upd H1 d (.xd [(("part" : Str), v)])) ⟨G', g, dr, tk', os⟩ := I1.laid (t' := tk') old M.dbig ob
    refine ⟨e, oe, fv, ⟨G', g, dr, tk', os⟩, _, .ref C, some d, rfl, J, fun b o q => ?_, ge, hoe, ⟨hc, hd⟩, hdat, h1, ?_, rfl, I1.bare, raises_own T.exC T.tyC, q1 d (I1.hok.fresh M.dbig)⟩
    · by_cases hb : b = e
      · have q' : G'.get? b = some o := q
        rw [hb, ge] at q'; cases q'
      · exact (gk b hb).symm.trans q
    · rw [upd_ne (Ne.symm M.dne)]
      exact I1.hok.fresh M.new
/-- raise C(e) -/
def tRaise (C : Addr) (W : WX) (ta : TA) : TS := fun _ σ H => tMk C ta σ H fun cls d H' => W cls d σ H'
theorem ps_rs {nm : Str} {a : Expr} {ta : TA} {W : WX} {p pos pos2 : Pos} {k : Nat} (hc : X.calm = true) (hP : X.prog = PR) (T : ExT X.K C fI) (gC : X.mg nm = some (.ref C)) (hsup : X.mg "super" = none) (hr : Room k X.A) (tk : Takes X W) (ha : PA X [a] ta) (hg : Gl X nm := by rfl) (hdb : (nm == ("__debug__" : Str)) = false := by decide)
    (he : starEach (a :: []) X.env = (false, eval a X.env) :: starEach [] X.env := by rfl) (hpl : (backTo pos (starEach [] X.env)).any (·.1) = false := by rfl) :
    PS X (.Raise (some (.Call (.Name nm p) [a] [] pos)) none pos2) (tRaise C W ta) := ps_raise hc tk (pmk hP T gC hsup hr ha hg hdb he hpl)
end
end Kl
set_option maxHeartbeats 4000000
/-! ## A caught exception that is held past the suite: tracked; isinstance; its field -/
namespace Kl
open PySem PySem.Spec PyProof.Rows L2
/-- an exception object of the class cls, its dict d, at a -/
def Exv (cls : Value) (d : Option Addr) (a : Addr) : HO := .ext fun h => ∃ (oe : Obj) (vs : Array Value), h.get? a = some oe ∧ Zc cls d oe ∧ oe.data = .fields vs
theorem exv_ok {P : Program} {w : World} {H : Hp} {h : Heap} {a : Addr} {cls : Value} {d : Option Addr} {oe : Obj} {vs : Array Value} (e : h.get? a = some oe) (z : Zc cls d oe) (q : oe.data = .fields vs) : ObjOk P w H h a (Exv cls d a) :=
  ⟨⟨oe, vs, e, z, q⟩, ⟨oe, e⟩, fun _ _ ⟨o, v, q, r⟩ k => ⟨o, v, k o q, r⟩⟩
section
variable {X : Cx} {pins : List (Addr × Obj)} {σ : L2.St} {H : Hp} {s : Shared}
/-- an object that stands, new since the entry, is tracked from here -/
theorem track {a : Addr} {oe : Obj} {o : HO} {vs : Array Value} (I : Inv X pins σ H s) (ha : s.heap.get? a = some oe) (hd : oe.data = .fields vs) (na : H a = none) (nL : a ≠ X.env.locals) (n0 : X.s_0.heap.get? a = none) (np : ∀ p ∈ X.pn ++ pins, p.1 ≠ a)
    (new : ObjOk X.prog X.w (upd H a o) s.heap a o) : Inv X pins σ (upd H a o) s := by
  refine ⟨I.ok, I.os, I.bare, ⟨I.base.keep, I.base.slot, fun b u q n hx => ?_, I.base.there, fun b xs q => ?_, fun b u xs q => ?_, fun b ps q => ?_⟩, I.loc, I.cell, ?_, fun x c e => ?_, fun p hp => ?_, fun b u e => ?_, I.len⟩
  · rw [upd_ne (fun z => by rw [z, n0] at q; cases q)]
    exact I.base.free b u q n hx
  · have z := I.base.tups b xs q
    rw [upd_ne (ne_of_none z na)]
    exact z
  · have z := I.base.frzs b u xs q
    rw [upd_ne (ne_of_none z na)]
    exact z
  · obtain ⟨m, z⟩ := I.base.tbls b ps q
    exact ⟨m, by rw [upd_ne (ne_of_none z na)]; exact z⟩
  · rw [upd_ne (Ne.symm nL)]
    exact I.free
  · have hc : c ≠ a := fun z => by
      obtain ⟨v, ho, hho, hdd⟩ := I.cell x c e
      rw [z, ha] at hho
      cases hho
      rw [hd] at hdd
      cases hdd
    rw [upd_ne hc]
    exact I.freeC x c e
  · obtain ⟨e, n, r⟩ := I.pin p hp
    exact ⟨e, by rw [upd_ne (np p hp)]; exact n, r⟩
  · by_cases hb : b = a
    · subst hb
      rw [upd_same] at e
      cases e
      exact new
    · rw [upd_ne hb] at e
      exact (I.hok b u e).stay (fun c v _ q => q) (fun c q => by rw [upd_ne (ne_of_none q na)]; exact q) fun c xs q => by rw [upd_ne (ne_of_none q na)]; exact q
end
/-- except C as n: the suite's state has the exception at a tracked -/
def wAsX (K : PySem.W.Frag) (c : Value) (i : Nat) (ts : TS) (Wout : WX) (D : Ends) : WX := fun cls d σ H =>
  ∃ b, PySem.W.exmOne K cls c = some b ∧ (b = true → ∀ a, H a = none → ts { nx := fun σ' H' => D.nx (σ'.set i none) H', rt := D.rt, bk := fun σ' H' => D.bk (σ'.set i none) H', ct := fun σ' H' => D.ct (σ'.set i none) H' } (σ.set i (some (.ref a))) (upd H a (Exv cls d a))) ∧
    (b = false → Wout cls d σ H)
theorem suiteX {X : Cx} {pins : List (Addr × Obj)} {σ : L2.St} {H : Hp} {s : Shared} (I : Inv X pins σ H s) (a : Addr) : Inv (X.suite a (X.pn ++ pins)) [] σ H s :=
  ⟨I.ok.suite _ _, I.os, I.bare, I.base, I.loc, I.cell, I.free, I.freeC, fun p hp => I.pin p (by rw [List.append_nil] at hp; exact hp), I.hok, I.len⟩
theorem unsuiteX {X : Cx} {pins : List (Addr × Obj)} {σ : L2.St} {H : Hp} {s : Shared} {a : Addr} {pn' : List (Addr × Obj)} (I : Inv (X.suite a (X.pn ++ pins)) pn' σ H s) (ok : X.Ok) : Inv X pins σ H s :=
  ⟨ok, I.os, I.bare, I.base, I.loc, I.cell, I.free, I.freeC, fun p hp => I.pin p (List.mem_append_left _ hp), I.hok, I.len⟩
section
variable {X : Cx} {x n : Str} {c : Value} {i : Nat} {body suite : List Stmt} {b₀ : Stmt} {np pos pos' : Pos} {tb : WX → TS} {ts : TS} {Wout : WX}
theorem ps_try_asX (hex : X.ex = []) (hs : X.stack = X.env :: X.outer) (hf : X.env.frame = some X.env.locals) (hN : X.N.Nodup) (hi : X.N[i]? = some n) (hln : X.env.kindOf n = some .local) (hc : Names X x c) (tk : Takes X Wout)
    (hb : ∀ (W : WX) (pn : List (Addr × Obj)) (xe : Value → Shared → Prop), Takes (X.tr pn xe) W → PassesOwn (model X.prog X.w) X.A X.env xe → PSs (X.tr pn xe) body (tb W))
    (hsu : ∀ (a : Addr) (pn : List (Addr × Obj)), PSs (X.suite a pn) (b₀ :: suite) ts) :
    PS X (.Try body [.ExceptHandler (some (.Name x np)) (some n) (b₀ :: suite) pos'] [] [] pos) (fun D σ H => tb (wAsX X.K c i ts Wout D) D σ H) := by
  refine ⟨fun pins s σ H D I h => ?_⟩
  have ok := I.ok
  have hfr : X.A.frames = some (X.env :: X.outer) := by rw [ok.frames, hs]
  have hloc : Loc X.env.scope n := .inl hln
  refine wpAny_Try_except ?_
  refine wpAny_mono ((hb (wAsX X.K c i ts Wout D) (X.pn ++ pins) (fun e s₁ => wpAny (model X.prog X.w) X.A (noteFrame e X.env) (fun _ s₂ => wpAny (model X.prog X.w) X.A (setFlight e none) (fun _ s₃ =>
    wpAny (model X.prog X.w) X.A (handleBy e X.env [.ExceptHandler (some (.Name x np)) (some n) (b₀ :: suite) pos']) (SP X pins D) X.xe s₃) X.xe s₂) X.xe s₁) (fun u s' xx => ?_) PassesOwn.looking).run [] s σ H D (I.toTry _) h) (fun f s1 hsp => ?_) (fun e s1 he => he)
  · -- the catch
    obtain ⟨a, B, sI, pins', σ', H', cls, d, rfl, J', nb, up, sky, na, os, ag, b, hb1, hyes, hno⟩ := xx
    have J : Inv X pins σ' H' sI := J'.ofTry ok
    have sky' : Sky B (X.env :: X.outer) a (Zc cls d) X.env.locals s'.heap := by rw [← hs]; exact sky
    show wpAny (model X.prog X.w) X.A (noteFrame (.ref a) X.env) _ _ _
    refine Sky.land Zc.steady hfr hf sky' fun h3 fl3 up3 => ?_
    have J3 : Inv X pins σ' H' { s' with heap := h3 } := J.landed nb fl3.1 (up.trans up3) os ag
    obtain ⟨oe3, vs3, he3, hz3, hd3⟩ := fl3.there
    have notFr : ∀ {h : Heap} {o : Obj} {vs : Array Value}, h.FunFrames B (X.env :: X.outer) → h.get? a = some o → o.data = .fields vs → a ∉ frs (X.env :: X.outer) := fun {h o vs} ff e dd hm => by
      obtain ⟨_, o', e', hnf⟩ := ff.mem hm
      rw [e] at e'; cases e'
      exact hnf _ dd
    have nfr := notFr fl3.2.2.1 he3 hd3
    have nL : a ≠ X.env.locals := fun z => nfr (List.mem_filterMap.mpr ⟨X.env, List.mem_cons_self, by rw [hf, z]⟩)
    have nF : a ∉ X.fs := fun hm => by
      obtain ⟨e, he, q⟩ := List.mem_filterMap.mp hm
      exact nfr (List.mem_filterMap.mpr ⟨e, List.mem_cons_of_mem _ he, q⟩)
    have nI : sI.heap.get? a = none := by
      cases e : sI.heap.get? a with
      | none => rfl
      | some o =>
        have z := nb a o e (by rw [hs]; exact nfr)
        rw [fl3.2.1] at z
        cases z
    have n0 : X.s_0.heap.get? a = none := by
      cases e : X.s_0.heap.get? a with
      | none => rfl
      | some o =>
        obtain ⟨o', z⟩ := J.base.there a o e (by rw [hex]; exact fun z => nomatch z)
        rw [nI] at z
        cases z
    have npn : ∀ p ∈ X.pn ++ pins, p.1 ≠ a := fun p hp z => by
      have q := (J.pin p hp).1
      rw [z, nI] at q
      cases q
    have S3 := J3.suite he3 hd3 na nL nF
    refine wpAny_handleBy_cons (codeAny_handlers_test ?_) (by intro q; cases q)
    have LT : PySem.W.Looks (model X.prog X.w) h3 (typeOf (.ref a)) cls := fun A Q E s k q => wpAny_typeOf_ref (k _ _ he3) (by rw [hz3.1]; exact q)
    have LM := PySem.W.exm_one (M := model X.prog X.w) (J3.kIn) LT hb1
    have test : ∀ {Q : Value → Shared → Prop} {E : Value → Shared → Prop}, Q c { s' with heap := h3 } → wpAny (model X.prog X.w) (X.A.mark (some (.ref a))) (eval (.Name x np) X.env) Q E { s' with heap := h3 } := fun {Q E} q => by
      obtain ⟨hg, hdbg, hm | ⟨hm, hv, hnn⟩⟩ := hc
      · exact ld_glob (X := X.suite a ((a, oe3) :: (X.pn ++ pins))) S3 hg hm q hdbg
      · exact ld_blt (X := X.suite a ((a, oe3) :: (X.pn ++ pins))) S3 hg hm hv q hnn hdbg
    refine test (LM.here ?_)
    cases b with
    | true =>
      refine codeAny_handlers_suite_as ?_
      refine HandSPX.lands_againZ fl3 fun h4 fl4 up4 => ?_
      have J4 : Inv X pins σ' H' { s' with heap := h4 } := J.landed nb fl4.1 ((up.trans up3).trans up4) os ag
      obtain ⟨oe4, vs4, he4, hz4, hd4⟩ := fl4.there
      have J5 : Inv X pins σ' (upd H' a (Exv cls d a)) { s' with heap := h4 } := track J4 he4 hd4 na nL n0 npn (exv_ok he4 hz4 hd4)
      have S4 := suiteX J5 a
      refine store_ok (X := X.suite a (X.pn ++ pins)) (v := .ref a) S4 hN hi hloc rfl (fun s5 S5 => ?_) (.inr hln)
      refine wpAny_mono ((hsu a (X.pn ++ pins)).run [] s5 _ _ _ S5 (hyes rfl a na)) (fun f s6 hsp => ?_) (fun _ _ z => False.elim z)
      have end_ : ∀ {σ6 : L2.St} {H6 : Hp} {Q : Shared → Prop}, Inv (X.suite a (X.pn ++ pins)) [] σ6 H6 s6 → (∀ s7, Inv X pins (σ6.set i none) H6 s7 → Q s7) →
          wpAny (model X.prog X.w) X.A (do bindName X.env n .none; unbindBehindTheSuite X.env n pos') (fun _ s7 => Q s7) X.xe s6 := fun {σ6 H6 Q} S6 hq => gone_ok (unsuiteX S6 ok) hN hi hln hq
      cases f with
      | next =>
        obtain ⟨σ6, H6, S6, q6⟩ := hsp
        exact end_ S6 fun s7 J7 => ⟨_, _, J7, q6⟩
      | brk =>
        obtain ⟨σ6, H6, S6, q6⟩ := hsp
        exact end_ S6 fun s7 J7 => ⟨_, _, J7, q6⟩
      | cont =>
        obtain ⟨σ6, H6, S6, q6⟩ := hsp
        exact end_ S6 fun s7 J7 => ⟨_, _, J7, q6⟩
      | ret u =>
        obtain ⟨v6, σ6, H6, S6, r6, q6⟩ := hsp
        exact end_ S6 fun s7 J7 => ⟨_, _, _, J7, r6, q6⟩
    | false =>
      show wpAny _ X.A (handleBy (.ref a) X.env []) _ _ _
      refine wpAny_handleBy_nil ?_
      obtain ⟨k1, k2, k3, oe, vs, T, oT, ts', he, hz, hd, h1, hr⟩ := id fl3
      unfold PySem.passOn
      refine wpAny_bind (wpAny_field he hd h1 ?_)
      rw [if_neg (show ¬ ((Value.ref T == Value.none) = true) from by simp)]
      have fin : wpAny (model X.prog X.w) X.A (setFlight (.ref a) X.env.frame) (fun _ s4 => wpAny (model X.prog X.w) X.A (throw (.ref a) : Sem Flow) (SP X pins D) X.xe s4) X.xe { s' with heap := h3 } := by
        rw [hf]
        refine HandSPX.setFlight_upZ fl3 fun h4 hh4 up4 => wpAny_throw (tk _ _ ?_)
        exact ⟨a, B, sI, pins, σ', H', cls, d, rfl, J, nb, (up.trans up3).trans up4, .inr (.inr (by rw [hs]; exact hh4)), na, os, ag, hno rfl⟩
      first
        | exact wpAny_bind (wpAny_pure (wpAny_bind fin))
        | exact wpAny_bind fin
  · cases f with
    | next =>
      obtain ⟨σ', H', J', q⟩ := hsp
      exact wpAny_execs_nil ⟨σ', H', J'.ofTry ok, q⟩
    | brk =>
      obtain ⟨σ', H', J', q⟩ := hsp
      exact ⟨σ', H', J'.ofTry ok, q⟩
    | cont =>
      obtain ⟨σ', H', J', q⟩ := hsp
      exact ⟨σ', H', J'.ofTry ok, q⟩
    | ret u =>
      obtain ⟨v, σ', H', J', r, q⟩ := hsp
      exact ⟨v, σ', H', J'.ofTry ok, r, q⟩
end
/-- isinstance(e, c), e a tracked exception of one of the classes -/
def rIsX (K : PySem.W.Frag) : List V → Hp → VK → Prop := fun xs H Q => ∃ (a dd D : Addr) (c : V) (cv : Value) (b : Bool) (fs : List (Str × V)), xs = [.ref a, c] ∧ ExcC K D ∧ H a = some (Exv (.ref D) (some dd) a) ∧ H dd = some (.xd fs) ∧ (∀ u, RelV c u → u = cv) ∧ PySem.W.kitOne K (.ref D) cv = some b ∧ Q (.bl b) H
theorem call_isX {X : Cx} : CallR X (.builtin "isinstance") (rIsX X.K) := by
  intro pins s σ H xs us Q I r h
  obtain ⟨a, dd, D, c, cv, b, fs, rfl, C, hA, hD, hcv, e, q⟩ := h
  cases r with
  | cons rx rr =>
    cases rr with
    | cons rt rr =>
      cases rr
      cases rx
      have ec := hcv _ rt
      subst ec
      obtain ⟨⟨oe, vs, hget, hz, hv⟩, _, _⟩ := I.hok a _ hA
      have hx : ObjOk X.prog X.w H s.heap dd (.xd fs) := I.hok dd _ hD
      obtain ⟨mA, hns, hr⟩ := hx
      obtain ⟨od, ho, hl⟩ := lookIn_ns hns
      have J : PySem.W.InstAt s.heap a oe D (some od) := ⟨hget, hz.1, by unfold PySem.W.notCls; rw [hv] <;> rfl, by rw [hz.2]; exact ho⟩
      have hcl : (PySem.W.clsIn X.K D).isSome = true := by
        obtain ⟨cd, hc, _⟩ := PySem.W.any_some C.hd
        rw [hc]
        rfl
      exact PySem.W.kia_one (PySem.W.kitx_exc hcl C.hg C.hk C.hs C.ha C.hn C.ht C.hm) I.kIn J e (fun z => nomatch z) fun tk => ⟨.bl b, H, I.kept (t' := tk) fun _ _ z => z, rfl, q⟩
/-- e.n, e a tracked exception -/
def tXfX (K : PySem.W.Frag) (f : Str) (te : TE) : TE := fun σ H Q => te σ H fun x H1 => ∃ (a dd D : Addr) (fs : List (Str × V)) (v : V), x = .ref a ∧ XfC K D ∧ PySem.W.findIn K (.ref D) f = some none ∧ H1 a = some (Exv (.ref D) (some dd) a) ∧ H1 dd = some (.xd fs) ∧ fs.lookup f = some v ∧ Q v H1
theorem pe_xfX {X : Cx} {e : Expr} {te : TE} {pos : Pos} {n : Str} (he : PE X e te) (hb : attributeBase e n X.env (eval e X.env) = eval e X.env := by rfl) :
    PE X (.Attribute e n pos) (tXfX X.K n te) := by
  refine ⟨fun pins s σ H Q I h => ?_⟩
  refine attr_of hb (thn (he.run pins s σ H _ I h) fun u s1 hh => ?_)
  obtain ⟨x, H1, I1, rx, a, dd, D, fs, v, ex, T, hno, eA, ea, l, q⟩ := hh
  subst ex
  obtain rfl : u = Value.ref a := rx
  obtain ⟨⟨oe, vs, ha, hz, hd⟩, _, _⟩ := I1.hok a _ eA
  have hx : ObjOk X.prog X.w H1 s1.heap dd (.xd fs) := I1.hok dd _ ea
  obtain ⟨mA, hns, hr⟩ := hx
  obtain ⟨od, ho, hl⟩ := lookIn_ns hns
  obtain ⟨u, hu, ru⟩ := RelO.some_of (v := v) (o := mA n) (by rw [← l]; exact hr n)
  have J : PySem.W.InstAt s1.heap a oe D (some od) := ⟨ha, hz.1, by unfold PySem.W.notCls; rw [hd] <;> rfl, by rw [hz.2]; exact ho⟩
  exact HandSPX.exc_get I1.kIn J T.ga T.gg T.exC (PySem.W.findObj_own T.hdC hno rfl (by rw [hl, hu])) (handed_of ru) ⟨v, H1, I1.tok _, ru, q⟩
end Kl
set_option maxHeartbeats 4000000
/-! ## A lambda with one default, handed to a def -/
namespace Kl
open PySem PySem.Spec PyProof.Rows L2 LamX
abbrev dfn (q : Str) (params : Arguments) (body : Expr) (scope : Scope) (cl : List (Str × Addr)) (t : Addr) (doc pm : Value) (c' : Addr) (ctv : Value) : FuncData := PySem.W.kdv_fn "<lambda>" q params (.expr body) scope cl (.ref t) doc pm (.ref c') ctv
abbrev dobj (q : Str) (params : Arguments) (body : Expr) (scope : Scope) (cl : List (Str × Addr)) (t : Addr) (doc pm : Value) (c' : Addr) (ctv : Value) : Obj := { cls := .type "function", data := .func (dfn q params body scope cl t doc pm c' ctv) }
section
variable {X : Cx} {pins : List (Addr × Obj)} {σ : L2.St} {H : Hp} {s : Shared}
theorem makeD {T : List (Addr × Str)} {c P : Addr} {params : Arguments} {body : Expr} {scope : Scope} {pos pc : Pos} {n : Int} {j : Nat} {E : Value → Shared → Prop} {Q : Value → Shared → Prop} (I : Inv X pins σ H s) (TB : TabB X.base X.mg c P) (hcode : X.env.code = .ref c)
    (hm : (P, X.env.qual ++ "<lambda>") ∈ T) (hu : ∀ p ∈ T, p.1 = P → p.2 = X.env.qual ++ "<lambda>") (hT : Tabs T H) (hdef : params.defaults = [.Constant (.int n) j pc]) (hkd : params.kw_defaults = []) (hfree : ∀ y ∈ scope.names, y.2 = .free → ∃ c, X.env.cells.lookup y.1 = some c)
    (h : ∀ (f c' t : Addr) (doc pm ctv : Value) (dt : Tok) (H1 : Hp) (s' : Shared), Inv X pins σ H1 s' → ExtN H H1 → Tabs T H1 →
      s'.heap.get? f = some (dobj (X.env.qual ++ "<lambda>") params body scope (cloFrom X.env.cells scope.names []) t doc pm c' ctv) → H1 f = none → f ∉ frs X.stack →
      s'.heap.get? t = some (PySem.W.kdv_tup [.int n dt]) → H1 t = none → t ∉ frs X.stack → H1 c' = some (CodeO c' (X.env.qual ++ "<lambda>")) → Q (.ref f) s') :
    wpAny (model X.prog X.w) X.A (eval (.Lambda params body scope pos) X.env) Q E s := by
  have nofr : ∀ {s : Shared} {H : Hp} (I : Inv X pins σ H s) f, s.heap.objs.size ≤ f → f ∉ frs X.stack := fun {s H} I f hf z => by
    rcases List.mem_cons.mp (I.stkSub _ z) with e | e
    · have h1 := I.lt
      rw [← e] at h1
      exact Nat.lt_irrefl _ (Nat.lt_of_lt_of_le h1 hf)
    · exact I.nofs hf e
  refine PySem.W.kdv_lam (by rw [hdef]; rfl) hkd ?_
  rw [hdef]
  refine PySem.W.kdv_all1 (wpAny_Constant_int (PySem.W.kdv_all0 ?_))
  rw [makeFunction_eq]
  simp only [List.zip_nil_right, List.filterMap_nil, List.isEmpty_nil, if_true, pure_bind, List.isEmpty_cons, Bool.false_eq_true, if_false]
  refine wpAny_bind (wpAny_newTextTuple ?_)
  -- the defaults' tuple
  have I0 : Inv X pins σ H { s with heap := s.heap.push (PySem.W.kdv_tup [.int n s.toks]), toks := s.toks + 1 } := I.kept fun b o e => Heap.get?_push_of_some _ e
  have g0 : (s.heap.push (PySem.W.kdv_tup [Value.int n s.toks])).get? s.heap.objs.size = some (PySem.W.kdv_tup [.int n s.toks]) := Heap.get?_push_size _ rfl
  have f0 : H s.heap.objs.size = none := I.hok.fresh (Nat.le_refl _)
  have r0 : s.heap.objs.size ∉ frs X.stack := nofr I _ (Nat.le_refl _)
  obtain ⟨ps, hP, ht, ha⟩ := hT _ hm
  have lt0 : s.heap.objs.size < (s.heap.push (PySem.W.kdv_tup [Value.int n s.toks])).objs.size := by
    rw [Heap.size_push]
    exact Nat.lt_succ_self _
  generalize hT0 : s.heap.objs.size = t0 at *
  generalize hS0 : ({ s with heap := s.heap.push (PySem.W.kdv_tup [Value.int n s.toks]), toks := s.toks + 1 } : Shared) = s0 at *
  have g0' : s0.heap.get? t0 = some (PySem.W.kdv_tup [.int n s.toks]) := by
    rw [← hS0]
    exact g0
  have lt0' : t0 < s0.heap.objs.size := by
    rw [← hS0]
    exact lt0
  have bP : s0.heap.BuiltinsAt X.mg P := TB.bm.keeps I0.bk
  have hP' : s0.heap.get? P = some { cls := .none, data := .fields ps } := I0.hok P _ hP
  cases hc : codeAmong pos ps.toList with
  | none =>
    refine PySem.W.kdv_makeTail (mg := X.mg) (c := c) (P := P) (ps := ps) (closure_ok hfree) I0.ok.glob (I0.mod.glob.keeps I0.bk) hcode (TB.code.keeps I0.bk) hP' ht hc TB.gP bP fun c' ctv doc h' tk hx hge hlt hrec htb => ?_
    obtain ⟨c2, oc, vs, t, e2, hoc, hd, hv⟩ := hrec
    cases e2
    have hsz : s0.heap.objs.size ≤ h'.objs.size := Nat.le_trans hge (Nat.le_of_lt hlt)
    have nC : H c' = none := I0.hok.fresh hge
    have tP : t0 ≠ P := fun z => by
      rw [z] at f0
      rw [f0] at hP
      cases hP
    have I1 := inv_table (t' := tk) (more := #[rawInt pos.line, rawInt pos.col, .ref c']) (h' := h'.push (PySem.W.kdv_obj "<lambda>" (X.env.qual ++ "<lambda>") params (.expr body) scope (cloFrom X.env.cells scope.names []) (.ref t0) doc ((X.mg "__name__").getD .none) c' ctv)) I0 hP
      (fun b o hb e => Heap.get?_push_of_some _ (hx b o hb e)) (Heap.get?_push_of_some _ htb) hge ⟨oc, vs, t, Heap.get?_push_of_some _ hoc, hd, hv⟩
    have hE : ExtN H (upd (upd H P (.tbl (ps ++ #[rawInt pos.line, rawInt pos.col, .ref c']))) c' (CodeO c' (X.env.qual ++ "<lambda>"))) := fun b o e n => by
      rw [upd_ne (ne_of_none e nC), upd_ne (fun z => n ps (Option.some.inj (e.symm.trans (by rw [z]; exact hP))))]
      exact e
    have eL : (ps ++ #[rawInt pos.line, rawInt pos.col, .ref c']).toList = ps.toList ++ [rawInt pos.line, rawInt pos.col, .ref c'] := by simp
    have tc : t0 ≠ c' := Nat.ne_of_lt (Nat.lt_of_lt_of_le lt0' hge)
    refine h h'.objs.size c' t0 doc ((X.mg "__name__").getD .none) ctv s.toks _ _ I1 hE (fun p hp => ?_) (Heap.get?_push_size _ rfl) ?_ (nofr I0 _ hsz) (Heap.get?_push_of_some _ (hx _ _ tP g0')) (by rw [upd_ne tc, upd_ne tP]; exact f0) r0 upd_same
    · by_cases hb : p.1 = P
      · rw [hu p hp hb, hb]
        refine ⟨_, by rw [upd_ne (ne_of_none hP nC), upd_same], by rw [eL]; exact PySem.TriplesOk_snoc _ _ _ _ ht, fun p' cv hcv => ?_⟩
        rw [eL] at hcv
        rcases among_app _ ht hcv with z | z
        · obtain ⟨c0, e1, e2⟩ := ha p' cv z
          exact ⟨c0, e1, hE _ _ e2 codeO_ne⟩
        · exact ⟨c', z, upd_same⟩
      · obtain ⟨ps', a1, a2, a3⟩ := hT p hp
        refine ⟨ps', by rw [upd_ne (ne_of_none a1 nC), upd_ne hb]; exact a1, a2, fun p' cv hcv => ?_⟩
        obtain ⟨c0, e1, e2⟩ := a3 p' cv hcv
        exact ⟨c0, e1, hE _ _ e2 codeO_ne⟩
    · have n1 : h'.objs.size ≠ c' := Nat.ne_of_gt hlt
      have n2 : h'.objs.size ≠ P := Nat.ne_of_gt (Nat.lt_of_lt_of_le (Heap.lt_size hP') hsz)
      rw [upd_ne n1, upd_ne n2]
      exact I0.hok.fresh hsz
  | some cv =>
    obtain ⟨c', e, hco⟩ := ha pos cv hc
    subst e
    refine PySem.W.kdv_makeTailHit (mg := X.mg) (c := c) (P := P) (ps := ps) (closure_ok hfree) I0.ok.glob (I0.mod.glob.keeps I0.bk) hcode (TB.code.keeps I0.bk) hP' ht hc bP fun ctv doc h' tk hx hsz => ?_
    have I1 : Inv X pins σ H { s0 with heap := h'.push (dobj (X.env.qual ++ "<lambda>") params body scope (cloFrom X.env.cells scope.names []) t0 doc ((X.mg "__name__").getD .none) c' ctv), toks := tk } := I0.kept fun b o e => Heap.get?_push_of_some _ (hx b o e)
    exact h h'.objs.size c' t0 doc ((X.mg "__name__").getD .none) ctv s.toks H _ I1 (ExtN.refl H) hT (Heap.get?_push_size _ rfl) (I0.hok.fresh hsz) (nofr I0 _ hsz) (Heap.get?_push_of_some _ (hx _ _ g0')) f0 r0 hco
end
/-! ### its names: one of its own, d; captured ones; globals -/
structure LamD (sc scope : Scope) (d : Str) : Prop where
  kind : scope.kind = .function
  co : scope.isCoroutine = false
  gen : scope.isGenerator = false
  own : ∀ y ∈ scope.names, y.2 ≠ .cell
  loc : ∀ y ∈ scope.names, y.2 = .local → y.1 = d
  has : scope.names.lookup d = some .local
  free : ∀ y ∈ scope.names, y.2 = .free → sc.names.lookup y.1 = some .cell ∨ sc.names.lookup y.1 = some .free
def lamDB (sc scope : Scope) (d : Str) : Bool :=
  decide (scope.kind = .function) && !scope.isCoroutine && !scope.isGenerator && decide (scope.names.lookup d = some .local) && scope.names.all fun y => !decide (y.2 = .cell) && (!decide (y.2 = .local) || decide (y.1 = d)) && (!decide (y.2 = .free) || decide (sc.names.lookup y.1 = some .cell) || decide (sc.names.lookup y.1 = some .free))
theorem lamD_by {sc scope : Scope} {d : Str} (h : lamDB sc scope d = true) : LamD sc scope d := by
  unfold lamDB at h
  simp only [Bool.and_eq_true, Bool.or_eq_true, Bool.not_eq_true', decide_eq_true_eq, decide_eq_false_iff_not, List.all_eq_true] at h
  obtain ⟨⟨⟨⟨h1, h2⟩, h3⟩, h5⟩, h4⟩ := h
  refine ⟨h1, h2, h3, fun y hy => (h4 y hy).1.1, fun y hy e => ?_, h5, fun y hy e => ?_⟩
  · rcases (h4 y hy).1.2 with z | z
    · exact absurd e z
    · exact z
  · rcases (h4 y hy).2 with (z | z) | z
    · exact absurd e z
    · exact .inl z
    · exact .inr z
theorem LamD.hasF {X : Cx} {scope : Scope} {d : Str} (L : LamD X.env.scope scope d) (ok : X.Ok) : ∀ y ∈ scope.names, y.2 = .free → ∃ c, X.env.cells.lookup y.1 = some c := fun y hy e => by
  rcases L.free y hy e with k | k
  · exact ok.has _ (.inl k)
  · exact ok.has _ (.inr k)
section
variable {X : Cx} {pins : List (Addr × Obj)} {σ : L2.St} {H HZ : Hp} {s s1 : Shared}
theorem startD {A : Around} {outer : List Env} {E : XK} {scope : Scope} {d : Str} {f c' : Addr} {h₁ : Heap} {tk : Nat} {dv : Value} (I : Inv X pins σ H s) (L : LamD X.env.scope scope d) (hdN : ∀ i : Nat, X.N[i]? ≠ some d) (e0 : Env0 X.prog X.w X.K X.mg X.base A outer s1 HZ) (hd : A.handled = none)
    (un : Un (frs X.stack) [] H HZ s.heap s1.heap) (hns : h₁.Ns s1.heap.objs.size fun y => ([(d, dv)] : List (Str × Value)).reverse.lookup y) (kp : ∀ b o, s1.heap.get? b = some o → h₁.get? b = some o) :
    Inv (lamCx X A outer s1 HZ E scope f c') [] σ HZ { s1 with heap := h₁, toks := tk } := by
  have hfree := L.hasF I.ok
  have cm : ∀ {y c}, (cloFrom X.env.cells scope.names []).lookup y = some c → X.env.cells.lookup y = some c := fun {y c} e => by
    rcases cloFrom_mem (PySem.mem_of_lookup e) with hm | ⟨h1, h2⟩
    · cases hm
    · obtain ⟨c1, hc⟩ := hfree _ h1 rfl
      have hc : X.env.cells.lookup y = some c1 := hc
      have e2 : c = c1 := by
        rw [h2, hc] <;> rfl
      rw [e2]
      exact hc
  have look : ∀ {y}, scope.names.lookup y = some .free → ∃ c, (cloFrom X.env.cells scope.names []).lookup y = some c := fun {y} hl => by
    have hy : (y, NameKind.free) ∈ scope.names := PySem.mem_of_lookup hl
    exact mem_lookup (cloFrom_has (cells := X.env.cells) (acc := []) hy)
  have cellK : ∀ {c : Addr} {v : Option Value}, H c = none → s.heap.IsCell c v → h₁.IsCell c v := fun {c v} n ⟨o, ho, hd⟩ => by
    obtain ⟨sl, q⟩ := un.any ho n (by simp)
    exact ⟨_, kp _ _ q, hd⟩
  have noA : ∀ b : Addr, b ∉ (lamCx X A outer s1 HZ E scope f c').ex := fun b z => absurd (show b ∈ ([] : List Addr) from z) (by simp)
  refine ⟨⟨e0.mod, L.kind, rfl, rfl, Nat.le_refl _, fun y z c e1 e2 => I.ok.inj y z c (cm e1) (cm e2), fun y hy => ?_, fun y c z _ => ?_, fun _ => hd, Around.frames_deeper e0.frames, .inr ⟨rfl, rfl⟩, fun b z => absurd z (noA b), e0.bs, e0.bsz, fun b _ _ => noA b,
      fun b z => absurd z (noA b), e0.funs, e0.frf⟩,
    rfl, e0.bare, Un.kept kp, ⟨_, hns, fun i y v e1 e2 e3 => ?_⟩, fun y c e => ?_, e0.hok.fresh (Nat.le_refl _), fun y c e => ?_, fun q hq => absurd (show q ∈ ([] : List (Addr × Obj)) ++ [] from hq) (by simp), e0.hok.kept kp, I.len⟩
  · have hy : scope.names.lookup y = some .cell ∨ scope.names.lookup y = some .free := hy
    rcases hy with hy | hy
    · exact absurd rfl (L.own _ (PySem.mem_of_lookup hy))
    · exact look hy
  · have z : false = true := z
    cases z
  · have e3 : Vis scope y := e3
    rcases e3 with k | k | k
    · have z := L.loc _ (PySem.mem_of_lookup k) rfl
      have z : y = d := z
      exact absurd (show X.N[i]? = some y from e1) (by rw [z]; exact hdN i)
    · exact absurd rfl (L.own _ (PySem.mem_of_lookup k))
    · obtain ⟨m, hn, hl⟩ := I.loc
      have hvis : Vis X.env.scope y := (L.free _ (PySem.mem_of_lookup k) rfl).elim (fun k => .inr (.inl k)) (fun k => .inr (.inr k))
      obtain ⟨w', r, q⟩ := hl i y v e1 e2 hvis
      obtain ⟨c2, h2⟩ := look k
      refine ⟨w', r, .inr ⟨.inr k, c2, h2, ?_⟩⟩
      have c1 := cm h2
      rcases q with ⟨k', _⟩ | ⟨_, c3, e', z⟩
      · have k' : X.env.scope.names.lookup y = some .local := k'
        rcases L.free _ (PySem.mem_of_lookup k) rfl with k2 | k2 <;> rw [show X.env.scope.names.lookup y = _ from k2] at k' <;> cases k'
      · rw [c1] at e'
        cases e'
        exact cellK (I.freeC y _ c1) z
  · obtain ⟨w', z⟩ := I.cell y c (cm e)
    exact ⟨w', cellK (I.freeC y c (cm e)) z⟩
  · obtain ⟨v, o, ho, hd⟩ := I.cell y c (cm e)
    exact un.free c o ho (I.freeC y c (cm e)) (by simp)
/-- x(), in the def that got the lambda -/
theorem actD {CXg : CXT} {Eg : XK} {Ng : List Str} {qg : Str} {sg : Scope} {g f c' t : Addr} {cdg doc pm ctv dv : Value} {params : Arguments} {body : Expr} {scope : Scope} {d : Str} {k i : Nat} {a : Str} {pn : List (Addr × Obj)} {xe : Value → Shared → Prop} {W : WX} {E : XK} {tb : TE} {p1 p2 : Pos}
    (I : Inv X pins σ H s) (L : LamD X.env.scope scope d) (hdN : ∀ i : Nat, X.N[i]? ≠ some d) (hf : s.heap.get? f = some (dobj (X.env.qual ++ "<lambda>") params body scope (cloFrom X.env.cells scope.names []) t doc pm c' ctv)) (hfn : H f = none) (hfr : f ∉ frs X.stack)
    (ht : s.heap.get? t = some (PySem.W.kdv_tup [dv])) (htn : H t = none) (htr : t ∉ frs X.stack)
    (hbind : ∃ kk : Option (Array Value) → Sem (List (Str × Value)), bindArgs (dfn (X.env.qual ++ "<lambda>") params body scope (cloFrom X.env.cells scope.names []) t doc pm c' ctv) ⟨[], []⟩ = seqItems? (.ref t) >>= kk ∧ kk (some [dv].toArray) = pure [(d, dv)])
    (tk : Takes ((cxOf CXg X.prog X.w X.K X.mg X.base Ng qg sg g cdg X.A X.stack s H Eg).tr pn xe) W) (hW : ∀ cls d σ' H', E cls d H' → W cls d σ' H') (hr : Room (k + 1) (X.A.deeper (envOfC qg sg s.heap.objs.size g cdg)))
    (hbody : ∀ (A : Around) (outer : List Env) (s : Shared) (H : Hp), Room k (A.deeper (lamEnv X scope s.heap.objs.size f c')) → PE (lamCx X A outer s H E scope f c') body tb)
    (hN : Ng[i]? = some a) (hv : Vis sg a) (hd : (a == ("__debug__" : Str)) = false := by decide) (hcd : (a == ("__classdict__" : Str)) = false := by decide) :
    PE ((cxOf CXg X.prog X.w X.K X.mg X.base Ng qg sg g cdg X.A X.stack s H Eg).tr pn xe) (.Call (.Name a p1) [] [] p2)
      (fun σZ HZ Q => σZ[i]? = some (some (.ref f)) ∧ HZ c' = some (CodeO c' (X.env.qual ++ "<lambda>")) ∧ tb σ HZ Q) := by
  refine ⟨fun pinsZ sZ σZ HZ Q IZ h => ?_⟩
  obtain ⟨hs, hc, htb⟩ := h
  refine wpAny_Call_Name_kw (thn ((pe_var (pos := p1) (i := i) hN hv hd hcd).run pinsZ sZ σZ HZ (fun v H1 => v = .ref f ∧ H1 = HZ) IZ ⟨.ref f, hs, rfl, rfl⟩) fun u s1 ⟨v, H1, I1, r1, q1⟩ => ?_)
  obtain ⟨ev, eH⟩ := q1
  subst ev
  rw [eH] at I1
  obtain rfl : u = Value.ref f := r1
  have of1 : s1.heap.get? f = some (dobj (X.env.qual ++ "<lambda>") params body scope (cloFrom X.env.cells scope.names []) t doc pm c' ctv) := I1.base.keep f _ hf hfn hfr (fun z => nomatch (show f ∈ ([] : List Addr) from z))
  have ot1 : s1.heap.get? t = some (PySem.W.kdv_tup [dv]) := I1.base.keep t _ ht htn htr (fun z => nomatch (show t ∈ ([] : List Addr) from z))
  refine PySem.W.callWith_F0 ⟨_, _, _, _, of1⟩ ?_
  have un : Un (frs X.stack) [] H HZ s.heap s1.heap := I1.base
  obtain ⟨⟨oc, vs, tt, hoc, hdc, hvc⟩, _, _⟩ := I1.hok c' _ hc
  obtain ⟨kk, hb1, hb2⟩ := hbind
  have rc : codeAny (model X.prog X.w) (X.A.deeper (envOfC qg sg s.heap.objs.size g cdg)) (.call (.ref f) ⟨[], []⟩) (CR (L2.CX X.prog X.w) (envOfC qg sg s.heap.objs.size g cdg :: X.stack) X.prog X.w HZ s1 Q E) s1 := by
    refine PySem.W.kla_callFunE hr.depth of1 rfl L.co L.gen rfl ⟨c', oc, vs, tt, rfl, hoc, hdc, hvc⟩ ?_
    refine BindsTo.of_defaults (binds := [(d, dv)]) rfl ot1 rfl hb1 hb2 _ _ _ _ ?_
    refine wpAny_newFunctionEnv (fun y hy => L.own y hy) (fun y hy => by rw [List.mem_singleton.mp hy]; exact L.has) (fun h₁ hns hsb => ⟨I1.nolimit.fresh _ hsb, ?_⟩) L.kind
    show codeAny _ _ (.expr body (lamEnv X scope s1.heap.objs.size f c')) _ _
    have kp : ∀ b o, s1.heap.get? b = some o → h₁.get? b = some o := fun b o e => hsb.extBut b o (Nat.ne_of_lt (Heap.lt_size e)) (Heap.get?_push_of_some _ e)
    have J : Inv (lamCx X (X.A.deeper (envOfC qg sg s.heap.objs.size g cdg)) (envOfC qg sg s.heap.objs.size g cdg :: X.stack) s1 HZ E scope f c') [] σ HZ { s1 with heap := h₁, toks := s1.toks + ([(d, dv)] : List (Str × Value)).length } :=
      startD I L hdN I1.env0 hr.hd un hns kp
    refine PySem.W.kla_codeExpr (wpAny_mono ((hbody _ _ s1 HZ (hr.deeper _)).run [] _ _ HZ Q J htb) (fun v s' hq => ?_) fun e s' hq => hq)
    obtain ⟨w', H', J', rv, q⟩ := hq
    exact ⟨w', H', J'.os, J'.bare, J'.base, J'.hok, rv, q⟩
  have hx : Passes (L2.CX X.prog X.w) ((cxOf CXg X.prog X.w X.K X.mg X.base Ng qg sg g cdg X.A X.stack s H Eg).tr pn xe) E := passes_call tk hW
  refine wpAny_call (codeAny_mono rc fun r s' hq => ?_)
  cases r with
  | error e => exact hx pinsZ σZ HZ s1 e s' I1 hq
  | ok fl =>
    cases fl with
    | ret u => exact I1.after hq
    | next => exact False.elim hq
    | brk => exact False.elim hq
    | cont => exact False.elim hq
end
section
variable {X : Cx}
/-- x(lambda d=n: body) -/
theorem pe_lamD {T : List (Addr × Str)} {TT : (XK → Hp → VK → Prop) → Hp → VK → Prop} {x a d : Str} {g c P : Addr} {k : Nat} {pg : Arguments} {bg : List Stmt} {sg : Scope} {dV kV doc pm cdv ct oc : Value} {an od : Option Addr} {osl : Array (Option Value)} {Ng : List Str}
    {params : Arguments} {body : Expr} {scope : Scope} {t : XK → TE} {p lpos pos pc : Pos} {n : Int} {j : Nat} (hg : Gl X x) (hm : X.mg x = some (.ref g)) (hk : PySem.W.keepIn X.K (.ref g) = true)
    (lk : X.K.lookup g = some ⟨oc, od, .func (PySem.W.fnOf x x pg bg sg dV kV doc pm an cdv ct), osl⟩) (hcg : PySem.W.codeIn X.K cdv x = true) (hb : L2.Binds X.K (PySem.W.fnOf x x pg bg sg dV kV doc pm an cdv ct) [a] []) (Sg : FnScope Ng [a] sg) (hNg : Ng[0]? = some a) (hva : Vis sg a)
    (hG : GivesTo X Ng x sg g cdv bg a (X.env.qual ++ "<lambda>") TT)
    (TB : TabB X.base X.mg c P) (hcode : X.env.code = .ref c) (hmT : (P, X.env.qual ++ "<lambda>") ∈ T) (hu : ∀ p ∈ T, p.1 = P → p.2 = X.env.qual ++ "<lambda>") (hr : Room (k + 2) X.A) (L : LamD X.env.scope scope d) (hdN : ∀ i : Nat, X.N[i]? ≠ some d) (hdef : params.defaults = [.Constant (.int n) j pc]) (hkd : params.kw_defaults = [])
    (hbind : ∀ (q : Str) (cl : List (Str × Addr)) (t : Addr) (doc pm : Value) (cv : Addr) (ctv dv : Value), ∃ kk : Option (Array Value) → Sem (List (Str × Value)), bindArgs (dfn q params body scope cl t doc pm cv ctv) ⟨[], []⟩ = seqItems? (.ref t) >>= kk ∧ kk (some [dv].toArray) = pure [(d, dv)])
    (hbody : ∀ (A : Around) (outer : List Env) (s : Shared) (H : Hp) (E : XK) (f c' : Addr), Room k (A.deeper (lamEnv X scope s.heap.objs.size f c')) → PE (lamCx X A outer s H E scope f c') body (t E))
    (hdb : (x == ("__debug__" : Str)) = false := by decide) (hd : (a == ("__debug__" : Str)) = false := by decide) (hcd : (a == ("__classdict__" : Str)) = false := by decide) :
    PE X (.Call (.Name x p) [.Lambda params body scope lpos] [] pos) (tLam T TT t) := by
  refine ⟨fun pins s σ H Q I h => ?_⟩
  obtain ⟨hT, h⟩ := h
  refine wpAny_Call_Name_kw (ld_glob I hg hm ?_ hdb)
  refine PySem.W.callWith_K (h₀ := X.base) I.ok.mod.kin hk ?_ (by rfl) (by rfl)
  show wpAny _ _ (spliced ((false, eval (.Lambda params body scope lpos) X.env) :: backTo pos (starEach [] X.env))) _ _ s
  refine Calls.spliced_cons (makeD I TB hcode hmT hu hT hdef hkd (L.hasF I.ok) fun f c' tt doc' pm' ctv dt H1 s' I1 eN T1 hf hfn hfr htt htn htr hco => ?_)
  refine Calls.spliced_nil ⟨I1.kIn, ?_⟩
  have rc : codeAny (model X.prog X.w) X.A (.call (.ref g) ⟨[.ref f], []⟩) (CR C8.CX0 X.stack X.prog X.w H1 s' Q C8.E0) s' := by
    refine run_ofS (N := Ng) (ps := [a]) (us := [.ref f]) (vs := [.ref f]) lk hcg Sg hr I1.env0 (hb s' [.ref f] I1.kIn rfl) (.cons rfl .nil) rfl fun hr' => ?_
    obtain ⟨t', ht', hq'⟩ := hG f c' s' H1 Q (fun E H' Q' => t E σ H' Q') (fun W pn xe E p1 p2 tk hW => actD (i := 0) I1 L hdN hf hfn hfr htt htn htr (hbind _ _ _ _ _ _ _ _) tk hW hr' (fun A outer s H hr2 => hbody A outer s H E f c' hr2) hNg hva hd hcd) hco (h H1 eN T1)
    exact ⟨t', ht'.nox, hq'⟩
  refine wpAny_call (codeAny_mono rc fun r s2 hq => ?_)
  cases r with
  | error e => exact (show False from hq).elim
  | ok fl =>
    cases fl with
    | ret u => exact I1.after hq
    | next => exact False.elim hq
    | brk => exact False.elim hq
    | cont => exact False.elim hq
end
end Kl
set_option maxHeartbeats 4000000
/-! ## A def that wants to know that nothing stands on guard (repr of data): it runs only there -/
namespace Kl
open PySem PySem.Spec PyProof.Rows L2
structure FnG (P : Program) (w : World) (K : PySem.W.Frag) (mg : Str → Option Value) (base : Heap) (k : Nat) (x : Str) (ps : List Str) (sp : Sp) : Prop where
  g : mg x = some (.ref (He.ga K x))
  kp : PySem.W.keepIn K (.ref (He.ga K x)) = true
  len : ∀ vs H Q E, sp vs H Q E → vs.length = ps.length
  bd : ∃ fd, Binds K fd ps [] ∧ ∀ (A : Around) (outer : List Env) (s : Shared) (H : Hp) (args : Args) (us : List Value) (vs : List V) (Q : VK) (E : XK), A.guards = some [] → Room k A → Env0 P w K mg base A outer s H → BindsTo s fd args (ps.zip us) → Vals vs us → sp vs H Q E →
    codeAny (model P w) A (.call (.ref (He.ga K x)) args) (CR (L2.CX P w) outer P w H s Q E) s
section
variable {X : Cx} {k : Nat} {x : Str} {ps : List Str} {sp : Sp} {E : XK} {p pos : Pos} {e : Expr} {es : List Expr} {t : TA}
theorem pe_g (F : FnG X.prog X.w X.K X.mg X.base k x ps sp) (hgd : X.A.guards = some []) (hr : Room k X.A) (hx : Passes (L2.CX X.prog X.w) X E) (ha : PA X (e :: es) t) (hg : Gl X x := by rfl)
    (hdb : (x == ("__debug__" : Str)) = false := by decide) (he : starEach (e :: es) X.env = (false, eval e X.env) :: starEach es X.env := by rfl) (hpl : (backTo pos (starEach es X.env)).any (·.1) = false := by rfl) :
    PE X (.Call (.Name x p) (e :: es) [] pos) (tCall sp [] E t) := by
  obtain ⟨fd, hb, run⟩ := F.bd
  refine ⟨fun pins s σ H Q I h => ?_⟩
  refine wpAny_Call_Name_kw (ld_glob I hg F.g ?_ hdb)
  refine PySem.W.callWith_K (h₀ := X.base) I.ok.mod.kin F.kp (thn (ha.run pos pins s σ H _ I h) fun us s1 ⟨vs, H1, I1, r, q⟩ => ⟨I1.kIn, ?_⟩) he hpl
  have q : sp (vs ++ []) H1 Q E := q
  rw [List.append_nil] at q
  have hl : us.length = ps.length := by rw [← r.length]; exact F.len _ _ _ _ q
  have b := hb s1 us I1.kIn (by rw [List.append_nil]; exact hl)
  rw [List.append_nil] at b
  refine wpAny_call (codeAny_mono (run X.A X.stack s1 H1 ⟨us, []⟩ us vs Q E hgd hr I1.env0 b r q) fun r s' hq => ?_)
  cases r with
  | error e => exact hx pins σ H1 s1 e s' I1 hq
  | ok fl =>
    cases fl with
    | ret u => exact I1.after hq
    | next => exact False.elim hq
    | brk => exact False.elim hq
    | cont => exact False.elim hq
end
/-- such a def, by its body -/
theorem okG {P : Program} {w : World} {K : PySem.W.Frag} {mg : Str → Option Value} {base : Heap} {x : Str} {params : Arguments} {body : List Stmt} {scope : Scope} {fd : FuncData} {N ps : List Str} {k : Nat} {sp : Sp} (hg : mg x = some (.ref (He.ga K x)))
    (F : FunD K x x params body scope [] [] (He.ga K x) fd) (hb : Binds K fd ps []) (S : FnScope N ps scope) (len : ∀ vs H Q E, sp vs H Q E → vs.length = ps.length)
    (hbody : ∀ (cdv : Value) (A : Around) (outer : List Env) (s : Shared) (H : Hp) (vs : List V) (Q : VK) (E : XK), (A.deeper (envOfC x scope s.heap.objs.size (He.ga K x) cdv)).guards = some [] → Room k (A.deeper (envOfC x scope s.heap.objs.size (He.ga K x) cdv)) → sp vs H Q E →
      ∃ t, PSs (cxOf (L2.CX P w) P w K mg base N x scope (He.ga K x) cdv A outer s H E).nox body t ∧ t { nx := fun _ H' => Q .non H', rt := Q } (start N vs) H) : FnG P w K mg base (k + 1) x ps sp := by
  obtain ⟨oc, od, dV, kV, doc, pm, an, cdv, ct, osl, rfl, lk, hcd, _, _⟩ := F.ex
  refine ⟨hg, F.kp, len, _, hb, fun A outer s H args us vs Q E hgd hr e0 hbt r hsp => ?_⟩
  refine LamX.run_ofS lk hcd S hr e0 hbt r (len _ _ _ _ hsp) fun hr' => ?_
  obtain ⟨t, ht, hq⟩ := hbody cdv A outer s H vs Q E hgd hr' hsp
  exact ⟨t, ht.nox, hq⟩
end Kl
set_option maxHeartbeats 4000000
/-! ## The end: the law called once, at the caller, where nothing stands on guard -/
namespace Kl
open PySem PySem.Spec PyProof.Rows L2 LamX
theorem law_callG {P : Program} {w : World} {K : PySem.W.Frag} {mg mb : Str → Option Value} {fa a : Addr} {cs : List (Addr × Addr)} {s₁ : Shared} {vs : List Value} {ns : List Int}
    (KX : K.In s₁.heap) (hns : s₁.heap.Ns mainGlobals mg) (hb : s₁.heap.Ns builtinsNs mb) (hbb : ∀ x : Str, x ≠ "__name__" → mb x = bootBuiltins x) (hlim : s₁.heap.NoLimit) (hg : s₁.gens = #[])
    (hT : ∀ p ∈ cs, s₁.heap.get? p.2 = some { cls := .none, data := .fields #[] }) (nT : ∀ p ∈ cs, K.lookup p.2 = none) (C : ∀ p ∈ cs, PySem.W.CodeHd s₁.heap p.1 p.2)
    (hbm : ∃ (bm : Addr) (ob : Obj), mg "__builtins__" = some (.ref bm) ∧ bm ≠ builtinsNs ∧ s₁.heap.get? bm = some ob ∧ ob.cls = .type "module" ∧ ob.dict = some builtinsNs ∧ ob.data = .plain)
    (ha : s₁.heap.get? a = some { cls := .type "list", data := .seq vs.toArray }) (hi : IntsAre vs ns) (hl : ns.length ≤ sizeLine)
    (F : ∀ (base : Heap) (H : Hp), K.In base → base.Ns mainGlobals mg → (∀ p ∈ cs, TabB base mg p.1 p.2) → Env0 P w K mg base callerA [] s₁ H → (∀ p ∈ cs, H p.2 = some (.tbl #[])) → SqL K H a (ns.map V.int) →
      codeAny (model P w) callerA (.call (.ref fa) ⟨[.ref a], []⟩) (CR (L2.CX P w) [] P w H s₁ (fun v _ => v = .bl true) fun _ _ _ => False) s₁) :
    codeAny (model P w) callerA (.call (.ref fa) ⟨[.ref a], []⟩) (fun r s' => r = .ok (.ret (.bool true)) ∧ OldK s₁.heap s'.heap ∧ s'.os = s₁.os ∧ AllBare s'.gens) s₁ := by
  have rv := vals_ints hi
  have lenV := hi.length
  have isT : ∀ b : Addr, b ∈ cs.map (·.2) → s₁.heap.get? b = some { cls := .none, data := .fields #[] } := fun b hb => by
    obtain ⟨p, hp, e⟩ := List.mem_map.mp hb
    rw [← e]
    exact hT p hp
  have aT : a ∉ cs.map (·.2) := fun z => by
    have q := isT a z
    rw [ha] at q
    have z' : Data.seq vs.toArray _ = Data.fields #[] := congrArg Obj.data (Option.some.inj q)
    cases z'
  have memT : ∀ p ∈ cs, p.2 ∈ cs.map (·.2) := fun p hp => List.mem_map.mpr ⟨p, hp, rfl⟩
  -- from an abstract heap in which nothing but the script and the tables may be tracked
  have core : ∀ H : Hp, (∀ p ∈ cs, H p.2 = some (.tbl #[])) → (∀ b, H b = none ∨ b ∈ cs.map (·.2) ∨ ∃ o xs, H b = some (.frz o (.lst xs))) → SqL K H a (ns.map V.int) → HOk P w H s₁.heap → (∀ b, H b ≠ none → b = a ∨ b ∈ cs.map (·.2)) → (H a ≠ none → K.lookup a = none) →
      codeAny (model P w) callerA (.call (.ref fa) ⟨[.ref a], []⟩) (fun r s' => r = .ok (.ret (.bool true)) ∧ OldK s₁.heap s'.heap ∧ s'.os = s₁.os ∧ AllBare s'.gens) s₁ := by
    intro H hH hO hS hok hA hK
    have base_of : ∀ {b : Addr} {o : Obj}, s₁.heap.get? b = some o → H b = none → (hidT s₁.heap H).get? b = some o := fun e n => hidT_get e n
    have noD : ∀ {b : Addr} {o : Obj}, s₁.heap.get? b = some o → (∀ vs n, o.data ≠ .seq vs n) → o.data ≠ .fields #[] → H b = none := fun {b o} e h1 h2 => by
      cases q : H b with
      | none => rfl
      | some u =>
        rcases hA b (by rw [q]; simp) with e' | e'
        · rw [e', ha] at e
          cases e
          exact (h1 _ _ rfl).elim
        · rw [isT b e'] at e
          cases e
          exact (h2 rfl).elim
    have noA : ∀ {b : Addr} {o : Obj} {es : Array DictEntry} {ep : Nat}, s₁.heap.get? b = some o → o.data = .dict es ep → H b = none := fun {b o es ep} e d => by
      refine noD e (fun vs n z => ?_) fun z => ?_
      · rw [d] at z
        cases z
      · rw [d] at z
        cases z
    have nsK : ∀ {b : Addr} {m : Str → Option Value}, s₁.heap.Ns b m → (hidT s₁.heap H).Ns b m := fun {b m} ⟨o, es, ep, e, d, r⟩ => ⟨o, es, ep, base_of e (noA e d), d, r⟩
    have hKb : K.In (hidT s₁.heap H) := fun b o e => base_of (KX b o e) (by
      cases q : H b with
      | none => rfl
      | some u =>
        rcases hA b (by rw [q]; simp) with e' | e'
        · rw [e'] at e q
          rw [hK (by rw [q]; simp)] at e
          cases e
        · obtain ⟨p, hp, ep⟩ := List.mem_map.mp e'
          rw [← ep, nT p hp] at e
          cases e)
    have hM : L2.Mod K mg (hidT s₁.heap H) := ⟨hKb, nsK hns, ⟨mb, nsK hb, hbb⟩, let ⟨mc, h1, h2⟩ := hlim; ⟨mc, nsK h1, h2⟩⟩
    have TB : ∀ p ∈ cs, TabB (hidT s₁.heap H) mg p.1 p.2 := fun p hp => by
      have hTp := hT p hp
      refine ⟨?_, ?_, fun z => ?_⟩
      · obtain ⟨o, us, file, tf, flags, tg, inF, text, tt, e1, r1, r2, r3, r4, r5, r6, r7, r8, hne⟩ := C p hp
        refine ⟨o, us, file, tf, flags, tg, inF, text, tt, base_of e1 (noD e1 (fun vs n z => ?_) fun z => ?_), r1, r2, r3, r4, r5, r6, r7, r8, hne⟩
        · rw [r2] at z
          cases z
        · rw [r2] at z
          cases z
          simp at r3
      · obtain ⟨bm, ob, b1, b2, b3, b4, b5, b6⟩ := hbm
        have nG : bm ≠ mainGlobals := fun q => by
          obtain ⟨o, es, ep, e, hd, _⟩ := hns
          rw [q, e] at b3
          cases b3
          rw [hd] at b6
          cases b6
        have nP : bm ≠ p.2 := fun q => by
          rw [q, hTp] at b3
          cases b3
          cases b6
        refine ⟨bm, ob, b1, b2, nG, nP, base_of b3 (noD b3 (fun vs n z => ?_) fun z => ?_), b4, b5, b6⟩
        · rw [b6] at z
          cases z
        · rw [b6] at z
          cases z
      · obtain ⟨o, es, ep, e, hd, _⟩ := hns
        rw [z, hTp] at e
        cases e
        cases hd
    have e0 : Env0 P w K mg (hidT s₁.heap H) callerA [] s₁ H := ⟨rfl, hM, fun b o e => of_hidT e, Nat.le_of_eq (hidT_size _ _), trivial, fun b hb => absurd (show b ∈ ([] : List Addr) from hb) (by simp), hok, .of_eq hg⟩
    refine codeAny_mono (F _ H hKb (nsK hns) TB e0 hH hS) fun r s' h => ?_
    cases r with
    | error e =>
      obtain ⟨_, _, _, _, _, _, _, _, _, _, _, _, z⟩ := h
      exact z.elim
    | ok fl =>
      cases fl with
      | next => exact False.elim h
      | brk => exact False.elim h
      | cont => exact False.elim h
      | ret u =>
        obtain ⟨v, H', os, bare, un, hok', r', q⟩ := h
        have q' : v = .bl true := q
        subst q'
        obtain rfl : u = Value.bool true := r'
        have key : ∀ b o, b ∉ cs.map (·.2) → s₁.heap.get? b = some o → s'.heap.get? b = some o := fun b o nb e => by
          cases q : H b with
          | none => exact un.keep b o e q (by intro z; exact absurd (show b ∈ ([] : List Addr) from z) (by simp)) (by simp)
          | some u =>
            rcases hO b with z | z | ⟨ob, xs, z⟩
            · rw [q] at z; cases z
            · exact absurd z nb
            · have z2 := un.frzs b ob _ z
              obtain ⟨e1, _⟩ := hok b _ z
              obtain ⟨e2, _⟩ := hok' b _ z2
              rw [e] at e1; cases e1
              exact e2
        have grown : ∀ p ∈ cs, ∃ more : Array Value, s'.heap.get? p.2 = some { cls := .none, data := .fields more } := fun p hp => by
          obtain ⟨more, z⟩ := un.tbls p.2 #[] (hH p hp)
          exact ⟨_, hok' p.2 _ z⟩
        refine ⟨rfl, ⟨fun b o e => ?_, fun b o e => ?_⟩, os, bare⟩
        · by_cases hb : b ∈ cs.map (·.2)
          · obtain ⟨p, hp, ep⟩ := List.mem_map.mp hb
            obtain ⟨more, hm⟩ := grown p hp
            rw [← ep] at e ⊢
            rw [hT p hp] at e
            cases e
            exact .inr (.inl ⟨((C p hp).tab (hT p hp)).isCodeTable, rfl, #[], more, rfl, by rw [Array.empty_append]; exact hm⟩)
          · exact .inl (key b o hb e)
        · by_cases hb : b ∈ cs.map (·.2)
          · obtain ⟨p, hp, ep⟩ := List.mem_map.mp hb
            obtain ⟨more, hm⟩ := grown p hp
            rw [← ep]
            exact ⟨_, hm⟩
          · exact ⟨o, key b o hb e⟩
  cases hk : K.lookup a with
  | some o =>
    have e := KX a o hk
    rw [ha] at e
    cases e
    refine core (fun b => if b ∈ cs.map (·.2) then some (.tbl #[]) else none) (fun p hp => if_pos (memT p hp)) (fun b => ?_) (.inr ⟨_, vs.toArray, _, hk, rfl, rfl, rfl, by rw [List.size_toArray, lenV]; exact hl, by simpa using rv⟩) (fun b u z => ?_) (fun b z => ?_) fun z => absurd (show (if a ∈ cs.map (·.2) then some (HO.tbl #[]) else none) = none from if_neg aT) z
    · by_cases hb : b ∈ cs.map (·.2)
      · exact .inr (.inl hb)
      · exact .inl (if_neg hb)
    · by_cases hb : b ∈ cs.map (·.2)
      · have z' := (if_pos hb).symm.trans z
        cases z'
        exact isT b hb
      · have z' := (if_neg hb).symm.trans z
        cases z'
    · by_cases hb : b ∈ cs.map (·.2)
      · exact .inr hb
      · exact absurd (if_neg hb) z
  | none =>
    refine core (fun b => if b = a then some (.frz { cls := .type "list", data := .seq vs.toArray } (.lst (ns.map V.int))) else if b ∈ cs.map (·.2) then some (.tbl #[]) else none) (fun p hp => (if_neg (show ¬ p.2 = a from fun z => aT (by rw [← z]; exact memT p hp))).trans (if_pos (memT p hp))) (fun b => ?_)
      (.inl (.inr ⟨{ cls := .type "list", data := .seq vs.toArray }, if_pos rfl⟩)) (fun b u z => ?_) (fun b z => ?_) fun _ => hk
    · by_cases hb : b = a
      · exact .inr (.inr ⟨_, _, if_pos hb⟩)
      · by_cases hb2 : b ∈ cs.map (·.2)
        · exact .inr (.inl hb2)
        · exact .inl ((if_neg hb).trans (if_neg hb2))
    · by_cases hb : b = a
      · have z' := (if_pos hb).symm.trans z
        cases z'
        rw [hb]
        exact ⟨ha, by rw [List.length_map]; exact hl, vs, _, rv, ha⟩
      · have z1 := (if_neg hb).symm.trans z
        by_cases hb2 : b ∈ cs.map (·.2)
        · have z' := (if_pos hb2).symm.trans z1
          cases z'
          exact isT b hb2
        · have z' := (if_neg hb2).symm.trans z1
          cases z'
    · by_cases hb : b = a
      · exact .inl hb
      · by_cases hb2 : b ∈ cs.map (·.2)
        · exact .inr hb2
        · exact absurd ((if_neg hb).trans (if_neg hb2)) z
theorem guards0 : callerA.guards = some [] := rfl
end Kl
set_option maxHeartbeats 4000000
/-! ## sorted(t), t a tuple of ints -/
namespace Kl
open PySem PySem.Spec PyProof.Rows L2
section
variable {prog : Program} {w : World} {A : Around} {E : Value → Shared → Prop} {s : Shared}
theorem collectT {l : Addr} {vs : List Value} {Q : List Value → Shared → Prop} (hl : s.heap.IsTuple l vs.toArray)
    (h : Q vs { s with heap := (s.heap.push (seqObj "list" #[] 0)).update s.heap.objs.size (Obj.mapSeq (· ++ vs.toArray)) }) (hsz : vs.length ≤ sizeLine) :
    wpAny (model prog w) A (collect (.ref l)) Q E s := by
  obtain ⟨o, ho, hc, n, hd⟩ := id hl
  unfold collect
  refine wpAny_bind (wpAny_runValue (codeAny_builtin entry_proto_collect' ?_))
  show wpAny _ _ (do again (.builtin "list.__iadd__" ⟨[← newList [], .ref l], []⟩)) _ _ s
  refine wpAny_bind (wpAny_newList (wpAny_pure ⟨Code.quiet_builtin _ (by decide +kernel), codeAny_builtin entry_list_iadd' ?_⟩))
  show wpAny _ _ (Builtin.List.listExtendWith (.ref s.heap.objs.size) (.ref l) (.ref s.heap.objs.size)) _ _ { s with heap := s.heap.push (seqObj "list" #[] 0) }
  unfold Builtin.List.listExtendWith
  have ho' : (s.heap.push (seqObj "list" #[] 0)).get? l = some o := Heap.get?_push_of_some _ ho
  refine wpAny_bind (wpAny_typeOf (T := "tuple") ⟨o, ho', hc⟩ ?_)
  have ht : (Value.type "tuple" == Value.type "tuple") = true := by rfl
  rw [if_pos (by rw [ht]; simp)]
  refine wpAny_bind (listItems_at ho' hd ?_)
  refine wpAny_bind (listItems_at (xs := #[]) (n := 0) (Heap.get?_push_size _ rfl) rfl ?_)
  rw [if_neg (by simp)]
  refine wpAny_bind (listUpdate_at (xs := #[]) (n := 0) (Heap.get?_push_size _ rfl) rfl ?_ (Nat.zero_le _) (by show (#[] ++ vs.toArray).size ≤ sizeLine + 1; simp only [Array.size_append, List.size_toArray, List.length_nil]; omega))
  refine wpAny_pure ?_
  show wpAny (model prog w) A (do
      let o ← load s.heap.objs.size
      match o.data with
      | .seq xs _ => pure xs.toList
      | _ => unsupported "internal:collect") Q E { s with heap := (s.heap.push (seqObj "list" #[] 0)).update s.heap.objs.size (Obj.mapSeq (· ++ vs.toArray)) }
  refine wpAny_bind (wpAny_load (get?_update_seq (Heap.get?_push_size _ rfl) _) ?_)
  show wpAny _ _ (pure ((#[] : Array Value) ++ vs.toArray).toList) Q E _
  rw [show ((#[] : Array Value) ++ vs.toArray).toList = vs by simp]
  exact wpAny_pure h
theorem sortedTup {l : Addr} {vs : List Value} {ns : List Int} {Q : Value → Shared → Prop} (hl : s.heap.IsTuple l vs.toArray) (hI : IntsAre vs ns) (h64 : vs.length < 64)
    (h : ∀ (out : Array Value) (ns' : List Int), IntsAre out.toList ns' → ns'.Perm ns → ns'.Pairwise (· ≤ ·) → Q (.ref (s.heap.objs.size + 1)) { s with heap := sortedAll s.heap vs out }) :
    wpAny (model prog w) A (call (.builtin "sorted") [.ref l]) Q E s := by
  refine Calls.call_function_entry kind_sorted plain_sorted entry_sorted (args_sorted1 _) ?_
  unfold Builtin.«sorted»
  refine wpAny_bind (m := checkCount "sorted" 1 1 _) (wpAny_pure ?_)
  refine wpAny_bind (collectT hl ?_ (by rw [sizeLine_eq]; omega))
  refine wpAny_bind (wpAny_newList ?_)
  have hsz : ((s.heap.push (seqObj "list" #[] 0)).update s.heap.objs.size (Obj.mapSeq (· ++ vs.toArray))).objs.size = s.heap.objs.size + 1 := by
    rw [Heap.size_update, size_push']
  have hoL : (((s.heap.push (seqObj "list" #[] 0)).update s.heap.objs.size (Obj.mapSeq (· ++ vs.toArray))).push (seqObj "list" vs.toArray 0)).get? (s.heap.objs.size + 1) = some (seqObj "list" vs.toArray 0) := by
    rw [← hsz]; exact Heap.get?_push_size _ rfl
  show wpAny _ _ _ _ _ { s with heap := ((s.heap.push (seqObj "list" #[] 0)).update s.heap.objs.size (Obj.mapSeq (· ++ vs.toArray))).push (seqObj "list" vs.toArray 0) }
  rw [hsz]
  refine wpAny_bind (wpAny_holding (wpAny_call_entry slot_list_sort ⟨_, hoL, rfl⟩ entry_list_sort (list_sort_tree hoL hI h64 fun out ns' a1 a2 a3 => ⟨_, rfl, ?_⟩) (args_list_sort _)))
  exact wpAny_pure ⟨_, rfl, h out ns' a1 a2 a3⟩
end
def rSortTup (K : PySem.W.Frag) : List V → Hp → VK → Prop := fun vs H Q => ∃ (a : Addr) (ns : List Int), vs = [V.ref a] ∧ SqT K H a (ns.map V.int) ∧ ns.length < 64 ∧
  ∀ (ns' : List Int) (p : Addr), ns'.Perm ns → ns'.Pairwise (· ≤ ·) → H p = none → Q (.ref p) (upd H p (.lst (ns'.map V.int)))
theorem cr_sortTup {X : Cx} : CallR X (.builtin "sorted") (rSortTup X.K) := by
  intro pins s σ H vs us Q I r h
  obtain ⟨a, ns, rfl, hs, h64, q⟩ := h
  obtain ⟨its, rv, hl, _⟩ := I.tuple hs
  rw [Vals.ref1 r]
  have hi := rv.ints
  refine sortedTup hl hi (by rw [hi.length]; exact h64) fun out ns' h1 h2 h3 => ?_
  obtain ⟨ep, he'⟩ := PyProof.Rows.sortedAll_at s.heap its out
  have hlen : (ns'.map V.int).length ≤ sizeLine := by rw [List.length_map, h2.length_eq]; exact small64 h64
  exact ⟨.ref _, upd H (s.heap.objs.size + 1) (.lst (ns'.map V.int)), I.laid (t' := s.toks) (fun _ _ => PyProof.Rows.sortedAll_old) (Nat.le_succ _) ⟨hlen, out.toList, ep, vals_of_ints h1, he'⟩, rfl, q ns' _ h2 h3 (I.hok.fresh (Nat.le_succ _))⟩
end Kl
set_option maxHeartbeats 4000000
/-! ## The head's facts by names -/
namespace Kl
open PySem PySem.Spec PyProof.Rows L2
abbrev FD (K : PySem.W.Frag) (x q : Str) (st : Stmt) (f : Addr) (dv : List V) : Prop := ∃ fd, FunD K x q (defArgs st) (defBody st) (defScope st) dv [] f fd
structure Tx (K : PySem.W.Frag) (mg : Str → Option Value) : Prop where
  g_is_integer : mg "is_integer" = some (.ref (He.ga K "is_integer"))
  g_is_within : mg "is_within" = some (.ref (He.ga K "is_within"))
  g_is_list : mg "is_list" = some (.ref (He.ga K "is_list"))
  g_are_unlike : mg "are_unlike" = some (.ref (He.ga K "are_unlike"))
  g_need_number : mg "need_number" = some (.ref (He.ga K "need_number"))
  g_need_lamps : mg "need_lamps" = some (.ref (He.ga K "need_lamps"))
  g_weight_in : mg "weight_in" = some (.ref (He.ga K "weight_in"))
  g_are_goals : mg "are_goals" = some (.ref (He.ga K "are_goals"))
  g_kept_gate : mg "kept_gate" = some (.ref (He.ga K "kept_gate"))
  g_gate_text : mg "gate_text" = some (.ref (He.ga K "gate_text"))
  g_need_wiring : mg "need_wiring" = some (.ref (He.ga K "need_wiring"))
  g_is_lit : mg "is_lit" = some (.ref (He.ga K "is_lit"))
  g_step : mg "step" = some (.ref (He.ga K "step"))
  g_rows_on : mg "rows_on" = some (.ref (He.ga K "rows_on"))
  g_columns_of : mg "columns_of" = some (.ref (He.ga K "columns_of"))
  g_act : mg "act" = some (.ref (He.ga K "act"))
  g_columns_behind : mg "columns_behind" = some (.ref (He.ga K "columns_behind"))
  g_goals_of : mg "goals_of" = some (.ref (He.ga K "goals_of"))
  g_need_row_of : mg "need_row_of" = some (.ref (He.ga K "need_row_of"))
  g_run : mg "run" = some (.ref (He.ga K "run"))
  g_film : mg "film" = some (.ref (He.ga K "film"))
  g_acting : mg "acting" = some (.ref (He.ga K "acting"))
  g_table_of : mg "table_of" = some (.ref (He.ga K "table_of"))
  g_first_unlike : mg "first_unlike" = some (.ref (He.ga K "first_unlike"))
  g_l_cinema : mg "_law_cinema" = some (.ref (He.ga K "_law_cinema"))
  g_l_reel : mg "_law_reel" = some (.ref (He.ga K "_law_reel"))
  g_l_pick : mg "_law_pick" = some (.ref (He.ga K "_law_pick"))
  g_l_stirred : mg "_law_stirred" = some (.ref (He.ga K "_law_stirred"))
  g_l_gate : mg "_law_gate" = some (.ref (He.ga K "_law_gate"))
  g_l_gates : mg "_law_gates" = some (.ref (He.ga K "_law_gates"))
  g_l_step : mg "_law_step" = some (.ref (He.ga K "_law_step"))
  g_l_film : mg "_law_film" = some (.ref (He.ga K "_law_film"))
  g_l_goals : mg "_law_goals" = some (.ref (He.ga K "_law_goals"))
  g_l_said : mg "_law_said" = some (.ref (He.ga K "_law_said"))
  g_l_weight : mg "_law_weight" = some (.ref (He.ga K "_law_weight"))
  g_l_row_right : mg "_law_row_right" = some (.ref (He.ga K "_law_row_right"))
  g_l_refused_right : mg "_law_refused_right" = some (.ref (He.ga K "_law_refused_right"))
  g_law : mg "law" = some (.ref (He.ga K "law"))
  g_Table : mg "Table" = some (.ref (He.ga K "Table"))
  g_Wiring : mg "Wiring" = some (.ref (He.ga K "Wiring"))
  g_LampError : mg "LampError" = some (.ref (He.ga K "LampError"))
  g_BadNumber : mg "BadNumber" = some (.ref (He.ga K "BadNumber"))
  g_BadRow : mg "BadRow" = some (.ref (He.ga K "BadRow"))
  g_BadTable : mg "BadTable" = some (.ref (He.ga K "BadTable"))
  g_BadWiring : mg "BadWiring" = some (.ref (He.ga K "BadWiring"))
  g_BadOrder : mg "BadOrder" = some (.ref (He.ga K "BadOrder"))
  g_Misfit : mg "Misfit" = some (.ref (He.ga K "Misfit"))
  g_TooMany : mg "TooMany" = some (.ref (He.ga K "TooMany"))
  n_isinstance : mg "isinstance" = none
  n_int : mg "int" = none
  n_bool : mg "bool" = none
  n_list : mg "list" = none
  n_tuple : mg "tuple" = none
  n_len : mg "len" = none
  n_all : mg "all" = none
  n_enumerate : mg "enumerate" = none
  n_range : mg "range" = none
  n_sorted : mg "sorted" = none
  n_min : mg "min" = none
  n_max : mg "max" = none
  n_sum : mg "sum" = none
  n_abs : mg "abs" = none
  n_repr : mg "repr" = none
  n_str : mg "str" = none
  n_super : mg "super" = none
  i_MOST_LAMPS_rows : ∃ t, mg "MOST_LAMPS_rows" = some (.int 8 t)
  i_MOST_LAMPS_wirings : ∃ t, mg "MOST_LAMPS_wirings" = some (.int 8 t)
  i_MOST_GATES : ∃ t, mg "MOST_GATES" = some (.int 20000 t)
  s_COLON : ∃ t, mg "COLON" = some (.str ":" t)
  c_Table : Cls K (He.ga K "Table")
  c_Wiring : Cls K (He.ga K "Wiring")
  no_Table_lamps : NoAttr K (He.ga K "Table") "lamps"
  no_Table_goals : NoAttr K (He.ga K "Table") "goals"
  no_Wiring_lamps : NoAttr K (He.ga K "Wiring") "lamps"
  no_Wiring_gates : NoAttr K (He.ga K "Wiring") "gates"
  no_Wiring_hands : NoAttr K (He.ga K "Wiring") "hands"
  mk_Table : Mk K (He.ga K "Table") (He.ma K (He.ga K "Table") "__init__")
  mk_Wiring : Mk K (He.ga K "Wiring") (He.ma K (He.ga K "Wiring") "__init__")
  me_Table : Meth K (He.ga K "Table") "__eq__" (He.ma K (He.ga K "Table") "__eq__")
  me_Wiring : Meth K (He.ga K "Wiring") "__str__" (He.ma K (He.ga K "Wiring") "__str__")
  k_Table : PySem.W.keepIn K (.ref (He.ga K "Table")) = true
  k_Wiring : PySem.W.keepIn K (.ref (He.ga K "Wiring")) = true
  x_BadWiring : PySem.W.exmOne K (.ref (He.ga K "BadWiring")) (.ref (He.ga K "LampError")) = some true
  x_BadRow : PySem.W.exmOne K (.ref (He.ga K "BadRow")) (.ref (He.ga K "LampError")) = some true
  x_BadTable : PySem.W.exmOne K (.ref (He.ga K "BadTable")) (.ref (He.ga K "LampError")) = some true
  f_is_integer : FD K "is_integer" "is_integer" s_is_integer (He.ga K "is_integer") []
  f_is_within : FD K "is_within" "is_within" s_is_within (He.ga K "is_within") []
  f_is_list : FD K "is_list" "is_list" s_is_list (He.ga K "is_list") []
  f_are_unlike : FD K "are_unlike" "are_unlike" s_are_unlike (He.ga K "are_unlike") []
  f_need_number : FD K "need_number" "need_number" s_need_number (He.ga K "need_number") []
  f_need_lamps : FD K "need_lamps" "need_lamps" s_need_lamps (He.ga K "need_lamps") []
  f_weight_in : FD K "weight_in" "weight_in" s_weight_in (He.ga K "weight_in") []
  f_are_goals : FD K "are_goals" "are_goals" s_are_goals (He.ga K "are_goals") []
  f_Tinit : FD K "__init__" "Table.__init__" s_Tinit (He.ma K (He.ga K "Table") "__init__") []
  f_Teq : FD K "__eq__" "Table.__eq__" s_Teq (He.ma K (He.ga K "Table") "__eq__") []
  f_kept_gate : FD K "kept_gate" "kept_gate" s_kept_gate (He.ga K "kept_gate") []
  f_gate_text : FD K "gate_text" "gate_text" s_gate_text (He.ga K "gate_text") []
  f_Winit : FD K "__init__" "Wiring.__init__" s_Winit (He.ma K (He.ga K "Wiring") "__init__") []
  f_Wstr : FD K "__str__" "Wiring.__str__" s_Wstr (He.ma K (He.ga K "Wiring") "__str__") []
  f_need_wiring : FD K "need_wiring" "need_wiring" s_need_wiring (He.ga K "need_wiring") [.str "wiring"]
  f_is_lit : FD K "is_lit" "is_lit" s_is_lit (He.ga K "is_lit") []
  f_step : FD K "step" "step" s_step (He.ga K "step") []
  f_rows_on : FD K "rows_on" "rows_on" s_rows_on (He.ga K "rows_on") []
  f_columns_of : FD K "columns_of" "columns_of" s_columns_of (He.ga K "columns_of") []
  f_act : FD K "act" "act" s_act (He.ga K "act") []
  f_columns_behind : FD K "columns_behind" "columns_behind" s_columns_behind (He.ga K "columns_behind") []
  f_goals_of : FD K "goals_of" "goals_of" s_goals_of (He.ga K "goals_of") []
  f_need_row_of : FD K "need_row_of" "need_row_of" s_need_row_of (He.ga K "need_row_of") []
  f_run : FD K "run" "run" s_run (He.ga K "run") []
  f_film : FD K "film" "film" s_film (He.ga K "film") []
  f_acting : FD K "acting" "acting" s_acting (He.ga K "acting") []
  f_table_of : FD K "table_of" "table_of" s_table_of (He.ga K "table_of") []
  f_first_unlike : FD K "first_unlike" "first_unlike" s_first_unlike (He.ga K "first_unlike") []
  f_l_cinema : FD K "_law_cinema" "_law_cinema" s_l_cinema (He.ga K "_law_cinema") []
  f_l_reel : FD K "_law_reel" "_law_reel" s_l_reel (He.ga K "_law_reel") []
  f_l_pick : FD K "_law_pick" "_law_pick" s_l_pick (He.ga K "_law_pick") []
  f_l_stirred : FD K "_law_stirred" "_law_stirred" s_l_stirred (He.ga K "_law_stirred") []
  f_l_gate : FD K "_law_gate" "_law_gate" s_l_gate (He.ga K "_law_gate") []
  f_l_gates : FD K "_law_gates" "_law_gates" s_l_gates (He.ga K "_law_gates") []
  f_l_step : FD K "_law_step" "_law_step" s_l_step (He.ga K "_law_step") []
  f_l_film : FD K "_law_film" "_law_film" s_l_film (He.ga K "_law_film") []
  f_l_goals : FD K "_law_goals" "_law_goals" s_l_goals (He.ga K "_law_goals") []
  f_l_said : FD K "_law_said" "_law_said" s_l_said (He.ga K "_law_said") []
  f_l_weight : FD K "_law_weight" "_law_weight" s_l_weight (He.ga K "_law_weight") []
  f_l_row_right : FD K "_law_row_right" "_law_row_right" s_l_row_right (He.ga K "_law_row_right") []
  f_l_refused_right : FD K "_law_refused_right" "_law_refused_right" s_l_refused_right (He.ga K "_law_refused_right") []
  f_law : FD K "law" "law" s_law (He.ga K "law") []
  e_BadWiring : ExT K (He.ga K "BadWiring") (He.ma K (He.ga K "BadWiring") "__init__")
  e_BadRow : ExT K (He.ga K "BadRow") (He.ma K (He.ga K "BadRow") "__init__")
  e_BadTable : ExT K (He.ga K "BadTable") (He.ma K (He.ga K "BadTable") "__init__")
  kb : ∀ q ∈ kbs, PySem.W.kitOne K q.1 (.ref (He.ga K q.2.1)) = some q.2.2
  kc : ∀ q ∈ kcs, PySem.W.kitOne K (.ref (He.ga K q.1)) (.ref (He.ga K q.2.1)) = some q.2.2
  ow : ownEqB "Table" K = true
  owt : PySem.W.typeIn K (.ref (He.ma K (He.ga K "Table") "__eq__")) = some (.type "function")
  cl : ∀ x ∈ asked, PySem.W.findIn K (.ref (He.ga K x)) "__class__" = some (some (.builtin "object.__class__")) ∧ PySem.W.mroIn K (He.ga K x) (.type "object") = some true
  sp : PySem.W.specialIn K (.builtin "object.__class__") "__get__" = some (some (.builtin "getset_descriptor.__get__")) ∧ PySem.W.takesIn K (.builtin "object.__class__") = some true
/-- an own exception's facts -/
theorem ext_of {h : Heap} {K : PySem.W.Frag} (c : SaysM h K) (i : Nat) {d : ExD} {t : Str} {p1 p2 r1 r2 r3 r4 r5 r6 q1 q2 q3 q4 : Pos} (hd : exs[i]? = some d) (ha : defArgs d.st = xA p1 p2) (hb : defBody d.st = xB t r1 r2 r3 r4 r5 r6 q1 q2 q3 q4) (hs : defScope d.st = xS) (hp : (r3.endLine == r5.line) = true) (hm : d.cls ∈ raised) :
    ExT K (He.ga K d.cls) (He.ma K (He.ga K d.cls) "__init__") := by
  have hm0 : d ∈ exs := List.mem_of_getElem? hd
  obtain ⟨m1, m2⟩ := He.ba c.more
  obtain ⟨m3, m4⟩ := He.ba m1
  obtain ⟨m5, m6⟩ := He.ba m4
  have hok := List.all_eq_true.mp m5 d hm0
  obtain ⟨hE, hI⟩ := He.ba (show (excB d.cls K && initB d.cls d.qual K) = true from hok)
  obtain ⟨_, m7⟩ := He.ba m2
  obtain ⟨_, m8⟩ := He.ba m7
  obtain ⟨m9, _⟩ := He.ba m8
  have hX : exinB d.cls K = true := List.all_eq_true.mp m9 d.cls hm
  have hF : fnI K d.cls = d.val := by
    have e := congrArg (fun l : List FnI => l[i]?) c.i
    simp only [List.getElem?_map, hd, Option.map_some] at e
    exact Option.some.inj e
  unfold excB at hE
  simp only [Bool.and_eq_true, decide_eq_true_eq] at hE
  obtain ⟨⟨⟨⟨⟨⟨⟨⟨⟨⟨⟨⟨⟨e1, e2⟩, e3⟩, e4⟩, e5⟩, e6⟩, e7⟩, e8⟩, e9⟩, e10⟩, e11⟩, e12⟩, e13⟩, e14⟩ := hE
  refine ⟨?_, He.eqO_ok e2, He.eqO_ok e3, He.eqO_ok e4, He.eqO_ok e5, He.eqO_ok e6, e7, e8, e9, e10, e11, e12, e13, He.eqO_ok e14, hX, He.eqO_ok m3, ?_⟩
  · split at e1
    · rename_i dd cd sl hC
      split at e1
      · rename_i C' bm k0 k1 k2 k3 n k5 hmr hsl
        simp only [Bool.and_eq_true, beq_iff_eq, Bool.not_eq_true'] at e1
        obtain ⟨⟨⟨⟨z1, z2⟩, z3⟩, z4⟩, z5⟩ := e1
        subst z1 z2
        obtain ⟨nm, bs, mro, ns, qn, hdct, sn, sub, ab, col, del⟩ := cd
        dsimp only at hmr z3 z4
        subst hmr z3 z4
        obtain ⟨l⟩ := sl
        simp only at hsl
        subst hsl
        exact ⟨nm, qn, ns, bs, bm, sn, sub, ab, col, dd, k0, k1, k2, k3, k5, hC, z5⟩
      · cases e1
    · cases e1
  · unfold initB at hI
    unfold fnI at hF
    split at hI
    · rename_i oc od fd osl hL
      rw [hL] at hF
      split at hI
      · rename_i xcl cc cda hcl hcd hdf
        simp only [Bool.and_eq_true] at hI
        obtain ⟨i1, i2, i3⟩ := hI
        have hF' := Option.some.inj hF
        simp only [Prod.mk.injEq] at hF'
        obtain ⟨f1, f2, f3, f4, f5, f6, f7, f8⟩ := hF'
        split at i1
        · rename_i ccl ccd DD ccs hCC
          have e15 : DD = He.ga K d.cls := beq_iff_eq.mp i1
          subst e15
          split at i3
          · rename_i c2 c3 vs c4 hV
            split at i3
            · rename_i file tf hvs
              obtain ⟨nm, ql, pr, bd, sc, gl, clo, df, kwd, dc, pmod, ann, cdv, ctt, bn⟩ := fd
              dsimp only at hcl hcd hdf f1 f2 f3 f4 f5 f6 f7 f8 i2
              subst hcl hcd hdf f1 f2 f3 f4 f5 f6 f8
              have f7' : xcl = "__class__" := by simpa using f7
              subst f7'
              rw [ha, hb, hs] at hL
              exact ⟨_, t, oc, kwd, dc, pmod, ctt, od, ann, cda, cc, osl, p1, p2, r1, r2, r3, r4, r5, r6, q1, q2, q3, q4, _, _, _, _, vs, _, _, file, tf, hL, i2, hV, hvs, i3, hp, hCC⟩
            · cases i3
          · cases i3
        · cases i1
      · cases hI
    · cases hI

theorem SaysM.kb {h : Heap} {K : PySem.W.Frag} (c : SaysM h K) : (kbs.all fun q => kitB K q) = true := (He.ba (He.ba (He.ba (He.ba c.more).1).2).2).1
theorem SaysM.kc {h : Heap} {K : PySem.W.Frag} (c : SaysM h K) : (kcs.all fun q => kitC K q) = true := (He.ba (He.ba (He.ba (He.ba c.more).1).2).2).2
theorem SaysM.ow {h : Heap} {K : PySem.W.Frag} (c : SaysM h K) : ownEqB "Table" K = true := (He.ba (He.ba c.more).2).1
theorem SaysM.owt {h : Heap} {K : PySem.W.Frag} (c : SaysM h K) : PySem.W.typeIn K (.ref (He.ma K (He.ga K "Table") "__eq__")) = some (.type "function") := of_decide_eq_true (He.ba (He.ba (He.ba c.more).2).2).1
theorem SaysM.last {h : Heap} {K : PySem.W.Frag} (c : SaysM h K) : ((asked.all fun x => clB x K) && spB K) = true := (He.ba (He.ba (He.ba (He.ba c.more).2).2).2).2
theorem SaysM.cl {h : Heap} {K : PySem.W.Frag} (c : SaysM h K) : ∀ x ∈ asked, PySem.W.findIn K (.ref (He.ga K x)) "__class__" = some (some (.builtin "object.__class__")) ∧ PySem.W.mroIn K (He.ga K x) (.type "object") = some true := fun x hx => by
  obtain ⟨a, b⟩ := He.ba (List.all_eq_true.mp (He.ba c.last).1 x hx)
  exact ⟨He.eqO_ok a, of_decide_eq_true b⟩
theorem SaysM.sp {h : Heap} {K : PySem.W.Frag} (c : SaysM h K) : PySem.W.specialIn K (.builtin "object.__class__") "__get__" = some (some (.builtin "getset_descriptor.__get__")) ∧ PySem.W.takesIn K (.builtin "object.__class__") = some true := by
  obtain ⟨a, b⟩ := He.ba (He.ba c.last).2
  exact ⟨He.eqO_ok a, of_decide_eq_true b⟩
theorem tx_of {h h2 : Heap} {K : PySem.W.Frag} {mg : Str → Option Value} (X : K.In h) (G : h.Ns mainGlobals mg) (c : SaysM h2 K) : Tx K mg :=
  ⟨He.glo_ok X G (c.d.fact 0 (f := .glo "is_integer") rfl),
    He.glo_ok X G (c.d.fact 1 (f := .glo "is_within") rfl),
    He.glo_ok X G (c.d.fact 2 (f := .glo "is_list") rfl),
    He.glo_ok X G (c.d.fact 3 (f := .glo "are_unlike") rfl),
    He.glo_ok X G (c.d.fact 4 (f := .glo "need_number") rfl),
    He.glo_ok X G (c.d.fact 5 (f := .glo "need_lamps") rfl),
    He.glo_ok X G (c.d.fact 6 (f := .glo "weight_in") rfl),
    He.glo_ok X G (c.d.fact 7 (f := .glo "are_goals") rfl),
    He.glo_ok X G (c.d.fact 8 (f := .glo "kept_gate") rfl),
    He.glo_ok X G (c.d.fact 9 (f := .glo "gate_text") rfl),
    He.glo_ok X G (c.d.fact 10 (f := .glo "need_wiring") rfl),
    He.glo_ok X G (c.d.fact 11 (f := .glo "is_lit") rfl),
    He.glo_ok X G (c.d.fact 12 (f := .glo "step") rfl),
    He.glo_ok X G (c.d.fact 13 (f := .glo "rows_on") rfl),
    He.glo_ok X G (c.d.fact 14 (f := .glo "columns_of") rfl),
    He.glo_ok X G (c.d.fact 15 (f := .glo "act") rfl),
    He.glo_ok X G (c.d.fact 16 (f := .glo "columns_behind") rfl),
    He.glo_ok X G (c.d.fact 17 (f := .glo "goals_of") rfl),
    He.glo_ok X G (c.d.fact 18 (f := .glo "need_row_of") rfl),
    He.glo_ok X G (c.d.fact 19 (f := .glo "run") rfl),
    He.glo_ok X G (c.d.fact 20 (f := .glo "film") rfl),
    He.glo_ok X G (c.d.fact 21 (f := .glo "acting") rfl),
    He.glo_ok X G (c.d.fact 22 (f := .glo "table_of") rfl),
    He.glo_ok X G (c.d.fact 23 (f := .glo "first_unlike") rfl),
    He.glo_ok X G (c.d.fact 24 (f := .glo "_law_cinema") rfl),
    He.glo_ok X G (c.d.fact 25 (f := .glo "_law_reel") rfl),
    He.glo_ok X G (c.d.fact 26 (f := .glo "_law_pick") rfl),
    He.glo_ok X G (c.d.fact 27 (f := .glo "_law_stirred") rfl),
    He.glo_ok X G (c.d.fact 28 (f := .glo "_law_gate") rfl),
    He.glo_ok X G (c.d.fact 29 (f := .glo "_law_gates") rfl),
    He.glo_ok X G (c.d.fact 30 (f := .glo "_law_step") rfl),
    He.glo_ok X G (c.d.fact 31 (f := .glo "_law_film") rfl),
    He.glo_ok X G (c.d.fact 32 (f := .glo "_law_goals") rfl),
    He.glo_ok X G (c.d.fact 33 (f := .glo "_law_said") rfl),
    He.glo_ok X G (c.d.fact 34 (f := .glo "_law_weight") rfl),
    He.glo_ok X G (c.d.fact 35 (f := .glo "_law_row_right") rfl),
    He.glo_ok X G (c.d.fact 36 (f := .glo "_law_refused_right") rfl),
    He.glo_ok X G (c.d.fact 37 (f := .glo "law") rfl),
    He.glo_ok X G (c.d.fact 38 (f := .glo "Table") rfl),
    He.glo_ok X G (c.d.fact 39 (f := .glo "Wiring") rfl),
    He.glo_ok X G (c.d.fact 40 (f := .glo "LampError") rfl),
    He.glo_ok X G (c.d.fact 41 (f := .glo "BadNumber") rfl),
    He.glo_ok X G (c.d.fact 42 (f := .glo "BadRow") rfl),
    He.glo_ok X G (c.d.fact 43 (f := .glo "BadTable") rfl),
    He.glo_ok X G (c.d.fact 44 (f := .glo "BadWiring") rfl),
    He.glo_ok X G (c.d.fact 45 (f := .glo "BadOrder") rfl),
    He.glo_ok X G (c.d.fact 46 (f := .glo "Misfit") rfl),
    He.glo_ok X G (c.d.fact 47 (f := .glo "TooMany") rfl),
    He.free_ok X G (c.d.fact 48 (f := .free "isinstance") rfl),
    He.free_ok X G (c.d.fact 49 (f := .free "int") rfl),
    He.free_ok X G (c.d.fact 50 (f := .free "bool") rfl),
    He.free_ok X G (c.d.fact 51 (f := .free "list") rfl),
    He.free_ok X G (c.d.fact 52 (f := .free "tuple") rfl),
    He.free_ok X G (c.d.fact 53 (f := .free "len") rfl),
    He.free_ok X G (c.d.fact 54 (f := .free "all") rfl),
    He.free_ok X G (c.d.fact 55 (f := .free "enumerate") rfl),
    He.free_ok X G (c.d.fact 56 (f := .free "range") rfl),
    He.free_ok X G (c.d.fact 57 (f := .free "sorted") rfl),
    He.free_ok X G (c.d.fact 58 (f := .free "min") rfl),
    He.free_ok X G (c.d.fact 59 (f := .free "max") rfl),
    He.free_ok X G (c.d.fact 60 (f := .free "sum") rfl),
    He.free_ok X G (c.d.fact 61 (f := .free "abs") rfl),
    He.free_ok X G (c.d.fact 62 (f := .free "repr") rfl),
    He.free_ok X G (c.d.fact 63 (f := .free "str") rfl),
    He.free_ok X G (c.d.fact 64 (f := .free "super") rfl),
    He.int_ok X G (c.d.fact 65 (f := .int "MOST_LAMPS_rows" 8) rfl),
    He.int_ok X G (c.d.fact 66 (f := .int "MOST_LAMPS_wirings" 8) rfl),
    He.int_ok X G (c.d.fact 67 (f := .int "MOST_GATES" 20000) rfl),
    He.str_ok X G (c.d.fact 68 (f := .str "COLON" ":") rfl),
    He.cls_ok (c.d.fact 69 (f := .cls "Table") rfl),
    He.cls_ok (c.d.fact 70 (f := .cls "Wiring") rfl),
    He.noat_ok (c.d.fact 71 (f := .noat "Table" "lamps") rfl),
    He.noat_ok (c.d.fact 72 (f := .noat "Table" "goals") rfl),
    He.noat_ok (c.d.fact 73 (f := .noat "Wiring" "lamps") rfl),
    He.noat_ok (c.d.fact 74 (f := .noat "Wiring" "gates") rfl),
    He.noat_ok (c.d.fact 75 (f := .noat "Wiring" "hands") rfl),
    He.mkr_ok (c.d.fact 76 (f := .mkr "Table") rfl),
    He.mkr_ok (c.d.fact 77 (f := .mkr "Wiring") rfl),
    He.meth_ok (c.d.fact 78 (f := .meth "Table" "__eq__") rfl),
    He.meth_ok (c.d.fact 79 (f := .meth "Wiring" "__str__") rfl),
    He.keep_ok (c.d.fact 80 (f := .keep "Table") rfl),
    He.keep_ok (c.d.fact 81 (f := .keep "Wiring") rfl),
    He.exm_ok (c.d.fact 82 (f := .exm "BadWiring" "LampError" true) rfl),
    He.exm_ok (c.d.fact 83 (f := .exm "BadRow" "LampError" true) rfl),
    He.exm_ok (c.d.fact 84 (f := .exm "BadTable" "LampError" true) rfl),
    c.d.def_ 0 (d := d_is_integer) rfl,
    c.d.def_ 1 (d := d_is_within) rfl,
    c.d.def_ 2 (d := d_is_list) rfl,
    c.d.def_ 3 (d := d_are_unlike) rfl,
    c.d.def_ 4 (d := d_need_number) rfl,
    c.d.def_ 5 (d := d_need_lamps) rfl,
    c.d.def_ 6 (d := d_weight_in) rfl,
    c.d.def_ 7 (d := d_are_goals) rfl,
    c.d.def_ 8 (d := d_Tinit) rfl,
    c.d.def_ 9 (d := d_Teq) rfl,
    c.d.def_ 10 (d := d_kept_gate) rfl,
    c.d.def_ 11 (d := d_gate_text) rfl,
    c.d.def_ 12 (d := d_Winit) rfl,
    c.d.def_ 13 (d := d_Wstr) rfl,
    c.d.def_ 14 (d := d_need_wiring) rfl,
    c.d.def_ 15 (d := d_is_lit) rfl,
    c.d.def_ 16 (d := d_step) rfl,
    c.d.def_ 17 (d := d_rows_on) rfl,
    c.d.def_ 18 (d := d_columns_of) rfl,
    c.d.def_ 19 (d := d_act) rfl,
    c.d.def_ 20 (d := d_columns_behind) rfl,
    c.d.def_ 21 (d := d_goals_of) rfl,
    c.d.def_ 22 (d := d_need_row_of) rfl,
    c.d.def_ 23 (d := d_run) rfl,
    c.d.def_ 24 (d := d_film) rfl,
    c.d.def_ 25 (d := d_acting) rfl,
    c.d.def_ 26 (d := d_table_of) rfl,
    c.d.def_ 27 (d := d_first_unlike) rfl,
    c.d.def_ 28 (d := d_l_cinema) rfl,
    c.d.def_ 29 (d := d_l_reel) rfl,
    c.d.def_ 30 (d := d_l_pick) rfl,
    c.d.def_ 31 (d := d_l_stirred) rfl,
    c.d.def_ 32 (d := d_l_gate) rfl,
    c.d.def_ 33 (d := d_l_gates) rfl,
    c.d.def_ 34 (d := d_l_step) rfl,
    c.d.def_ 35 (d := d_l_film) rfl,
    c.d.def_ 36 (d := d_l_goals) rfl,
    c.d.def_ 37 (d := d_l_said) rfl,
    c.d.def_ 38 (d := d_l_weight) rfl,
    c.d.def_ 39 (d := d_l_row_right) rfl,
    c.d.def_ 40 (d := d_l_refused_right) rfl,
    c.d.def_ 41 (d := d_law) rfl,
    ext_of c 0 rfl rfl rfl rfl rfl (by decide),
    ext_of c 1 rfl rfl rfl rfl rfl (by decide),
    ext_of c 2 rfl rfl rfl rfl rfl (by decide),
    fun q hq => of_decide_eq_true (List.all_eq_true.mp c.kb q hq),
    fun q hq => of_decide_eq_true (List.all_eq_true.mp c.kc q hq),
    c.ow,
    c.owt,
    fun x hx => c.cl x hx,
    c.sp⟩
end Kl
set_option maxHeartbeats 4000000
/-! ## The mathematics: gates on rows -/
namespace Kl
open PySem L2
/-- hands, one, other -/
abbrev G := List Nat × Nat × Nat
def stepN (g : G) (r : Nat) : Nat := if (r.testBit g.2.1 == r.testBit g.2.2) || !(g.1.all fun h => r.testBit h) then r else r ^^^ 2 ^ g.2.1 ^^^ 2 ^ g.2.2
def runN (gs : List G) (r : Nat) : Nat := gs.foldl (fun r g => stepN g r) r
def filmN (gs : List G) (r : Nat) : List Nat := (List.range (gs.length + 1)).map fun i => runN (gs.take i) r
/-- a gate on n lamps -/
structure Ok (n : Nat) (g : G) : Prop where
  one : g.2.1 < n
  other : g.2.2 < n
  lt : g.2.1 < g.2.2
  hands : ∀ h ∈ g.1, h < n ∧ h ≠ g.2.1 ∧ h ≠ g.2.2
  nd : g.1.Pairwise (· < ·)
theorem take_more {α : Type} : ∀ {l : List α} {i : Nat} {x : α}, l[i]? = some x → l.take (i + 1) = l.take i ++ [x]
  | [], i, x, h => by simp at h
  | a :: l, 0, x, h => by
    have e : a = x := Option.some.inj h
    subst e
    rfl
  | a :: l, i + 1, x, h => by
    have ih := take_more (l := l) (i := i) (x := x) h
    show a :: l.take (i + 1) = a :: l.take i ++ [x]
    rw [ih]
    rfl
theorem run_more {gs : List G} {i : Nat} {g : G} (h : gs[i]? = some g) (r : Nat) : runN (gs.take (i + 1)) r = stepN g (runN (gs.take i) r) := by
  unfold runN
  rw [take_more h, List.foldl_append]
  rfl
theorem film_nil (r : Nat) : filmN [] r = [r] := rfl
theorem film_take {gs : List G} {i : Nat} (hi : i ≤ gs.length) (r : Nat) : filmN (gs.take i) r = (List.range (i + 1)).map fun j => runN (gs.take j) r := by
  unfold filmN
  rw [List.length_take, Nat.min_eq_left hi]
  refine List.map_congr_left fun j hj => ?_
  rw [List.take_take, Nat.min_eq_left (by have := List.mem_range.mp hj; omega)]
theorem film_more {gs : List G} {i : Nat} {g : G} (h : gs[i]? = some g) (r : Nat) : filmN (gs.take (i + 1)) r = filmN (gs.take i) r ++ [stepN g (runN (gs.take i) r)] := by
  have hi : i < gs.length := (List.getElem?_eq_some_iff.mp h).1
  rw [film_take hi, film_take (Nat.le_of_lt hi), List.range_succ, List.map_append, List.map_singleton, run_more h]
theorem film_len (gs : List G) (r : Nat) : (filmN gs r).length = gs.length + 1 := by
  unfold filmN
  rw [List.length_map, List.length_range]
theorem film_last (gs : List G) (r : Nat) : (filmN gs r)[gs.length]? = some (runN gs r) := by
  unfold filmN
  rw [List.getElem?_map, List.getElem?_range (Nat.lt_succ_self _), Option.map_some, List.take_length]
theorem film_at {gs : List G} {i : Nat} (h : i ≤ gs.length) (r : Nat) : (filmN gs r)[i]? = some (runN (gs.take i) r) := by
  unfold filmN
  rw [List.getElem?_map, List.getElem?_range (Nat.lt_succ_of_le h), Option.map_some]
/-! ### bounds, bits -/
theorem step_lt {n : Nat} {g : G} (k : Ok n g) {r : Nat} (h : r < 2 ^ n) : stepN g r < 2 ^ n := by
  unfold stepN
  split
  · exact h
  · exact Nat.xor_lt_two_pow (Nat.xor_lt_two_pow h (Nat.pow_lt_pow_right (by decide) k.one)) (Nat.pow_lt_pow_right (by decide) k.other)
theorem run_lt {n : Nat} : ∀ {gs : List G}, (∀ g ∈ gs, Ok n g) → ∀ {r : Nat}, r < 2 ^ n → runN gs r < 2 ^ n
  | [], _, _, h => h
  | g :: gs, k, r, h => run_lt (gs := gs) (fun g hg => k g (List.mem_cons_of_mem _ hg)) (r := stepN g r) (step_lt (k g List.mem_cons_self) h)
theorem bit_xx (r a b l : Nat) : (r ^^^ 2 ^ a ^^^ 2 ^ b).testBit l = ((r.testBit l ^^ decide (a = l)) ^^ decide (b = l)) := by
  rw [Nat.testBit_xor, Nat.testBit_xor, Nat.testBit_two_pow, Nat.testBit_two_pow]
theorem step_bit {n : Nat} {g : G} (k : Ok n g) (r l : Nat) : (stepN g r).testBit l = (r.testBit l ^^ ((decide (l = g.2.1) || decide (l = g.2.2)) && ((r.testBit g.2.1 ^^ r.testBit g.2.2) && g.1.all fun h => r.testBit h))) := by
  have hne : g.2.1 ≠ g.2.2 := Nat.ne_of_lt k.lt
  unfold stepN
  cases hb : (r.testBit g.2.1 == r.testBit g.2.2) || !(g.1.all fun h => r.testBit h) with
  | true =>
    rw [if_pos rfl]
    have e : ((r.testBit g.2.1 ^^ r.testBit g.2.2) && g.1.all fun h => r.testBit h) = false := by
      revert hb
      cases r.testBit g.2.1 <;> cases r.testBit g.2.2 <;> cases (g.1.all fun h => r.testBit h) <;> simp
    rw [e]
    simp
  | false =>
    rw [if_neg (by decide)]
    have e : ((r.testBit g.2.1 ^^ r.testBit g.2.2) && g.1.all fun h => r.testBit h) = true := by
      revert hb
      cases r.testBit g.2.1 <;> cases r.testBit g.2.2 <;> cases (g.1.all fun h => r.testBit h) <;> simp
    rw [e, bit_xx]
    have d : decide (g.2.1 = l) = decide (l = g.2.1) := decide_eq_decide.mpr eq_comm
    have d2 : decide (g.2.2 = l) = decide (l = g.2.2) := decide_eq_decide.mpr eq_comm
    rw [d, d2]
    by_cases h1 : l = g.2.1
    · have h2 : ¬ l = g.2.2 := fun z => hne (h1.symm.trans z)
      simp [h1, hne]
    · by_cases h2 : l = g.2.2
      · simp [h2, Ne.symm hne]
      · simp [h1, h2]
/-- a gate undoes itself -/
theorem step_twice {n : Nat} {g : G} (k : Ok n g) (r : Nat) : stepN g (stepN g r) = r := by
  refine Nat.eq_of_testBit_eq fun l => ?_
  have hne : ¬ g.2.1 = g.2.2 := Nat.ne_of_lt k.lt
  have hne2 : ¬ g.2.2 = g.2.1 := fun z => hne z.symm
  have hh : (g.1.all fun h => (stepN g r).testBit h) = g.1.all fun h => r.testBit h := by
    rw [Bool.eq_iff_iff, List.all_eq_true, List.all_eq_true]
    have e : ∀ h ∈ g.1, (stepN g r).testBit h = r.testBit h := fun h hm => by
      obtain ⟨_, h1, h2⟩ := k.hands h hm
      rw [step_bit k]
      simp [h1, h2]
    exact ⟨fun z h hm => (e h hm) ▸ z h hm, fun z h hm => (e h hm).symm ▸ z h hm⟩
  rw [step_bit k (stepN g r), hh, step_bit k r l, step_bit k r g.2.1, step_bit k r g.2.2]
  simp only [decide_true, hne, hne2, decide_false, Bool.true_or, Bool.or_true, Bool.or_false, Bool.false_or, Bool.true_and]
  cases r.testBit g.2.1 <;> cases r.testBit g.2.2 <;> cases (g.1.all fun h => r.testBit h) <;> cases r.testBit l <;> cases decide (l = g.2.1) <;> cases decide (l = g.2.2) <;> rfl
theorem step_inj {n : Nat} {g : G} (k : Ok n g) {r s : Nat} (h : stepN g r = stepN g s) : r = s := by
  rw [← step_twice k r, h, step_twice k s]
theorem run_inj {n : Nat} : ∀ {gs : List G}, (∀ g ∈ gs, Ok n g) → ∀ {r s : Nat}, runN gs r = runN gs s → r = s
  | [], _, _, _, h => h
  | g :: gs, k, r, s, h => step_inj (k g List.mem_cons_self) (run_inj (gs := gs) (fun g hg => k g (List.mem_cons_of_mem _ hg)) h)
/-! ### weight -/
def wt : Nat → Nat → Nat
  | 0, _ => 0
  | k + 1, r => r % 2 + wt k (r / 2)
theorem wt_swap : ∀ r < 256, ∀ a < 8, ∀ b < 8, r.testBit a ≠ r.testBit b → wt 8 (r ^^^ 2 ^ a ^^^ 2 ^ b) = wt 8 r := by decide +kernel
theorem wt_step {g : G} (k : Ok 8 g) {r : Nat} (h : r < 256) : wt 8 (stepN g r) = wt 8 r := by
  unfold stepN
  split
  · rfl
  · rename_i hb
    refine wt_swap r h _ k.one _ k.other fun z => hb ?_
    rw [z]
    simp
theorem Ok.up {n m : Nat} {g : G} (k : Ok n g) (h : n ≤ m) : Ok m g := ⟨Nat.lt_of_lt_of_le k.one h, Nat.lt_of_lt_of_le k.other h, k.lt, fun x hx => ⟨Nat.lt_of_lt_of_le (k.hands x hx).1 h, (k.hands x hx).2⟩, k.nd⟩
theorem wt_run : ∀ {gs : List G}, (∀ g ∈ gs, Ok 8 g) → ∀ {r : Nat}, r < 256 → wt 8 (runN gs r) = wt 8 r
  | [], _, _, _ => rfl
  | g :: gs, k, r, h => (wt_run (gs := gs) (fun g hg => k g (List.mem_cons_of_mem _ hg)) (r := stepN g r) (step_lt (n := 8) (k g List.mem_cons_self) h)).trans (wt_step (k g List.mem_cons_self) h)
theorem wt_bits : ∀ r < 256, ((List.range 8).map fun l => (r.testBit l).toNat).sum = wt 8 r := by decide +kernel
/-! ### the law's step -/
def litN (r : Nat) : List Nat := (List.range 8).filter fun l => r.testBit l
theorem law_swap : ∀ r < 256, ∀ a < 8, ∀ b < 8, a ≠ b → r.testBit a ≠ r.testBit b →
    (((litN r).filter fun l => !(l == a || l == b)).map fun l => 2 ^ l).sum + 2 ^ (if r.testBit a = true then b else a) = r ^^^ 2 ^ a ^^^ 2 ^ b := by decide +kernel
theorem lit_mem {r l : Nat} (h : l < 8) : l ∈ litN r ↔ r.testBit l = true := by
  unfold litN
  rw [List.mem_filter, List.mem_range]
  exact ⟨fun z => z.2, fun z => ⟨h, z⟩⟩
/-! ### sums of powers -/
theorem sum_bits : ∀ (n x : Nat), x < 2 ^ n → ((List.range n).map fun l => (x.testBit l).toNat * 2 ^ l).sum = x
  | 0, x, h => by
    have e : x = 0 := by simpa using h
    rw [e]
    rfl
  | n + 1, x, h => by
    rw [List.range_succ, List.map_append, List.sum_append, List.map_singleton, List.sum_singleton]
    have e1 : (List.range n).map (fun l => (x.testBit l).toNat * 2 ^ l) = (List.range n).map fun l => ((x % 2 ^ n).testBit l).toNat * 2 ^ l := List.map_congr_left fun l hl => by
      rw [Nat.testBit_mod_two_pow, decide_eq_true (List.mem_range.mp hl), Bool.true_and]
    rw [e1, sum_bits n (x % 2 ^ n) (Nat.mod_lt _ (Nat.two_pow_pos n))]
    have e2 : (x.testBit n).toNat = x / 2 ^ n := by
      rw [Nat.toNat_testBit]
      exact Nat.mod_eq_of_lt (by rw [Nat.div_lt_iff_lt_mul (Nat.two_pow_pos n)]; rw [Nat.pow_succ] at h; omega)
    rw [e2]
    have z := Nat.div_add_mod x (2 ^ n)
    rw [Nat.mul_comm] at z
    omega
theorem pow_sum_lt (f : Nat → Bool) : ∀ n : Nat, (((List.range n).filter f).map fun r => 2 ^ r).sum < 2 ^ n
  | 0 => by simp
  | n + 1 => by
    have ih := pow_sum_lt f n
    rw [List.range_succ, List.filter_append, List.map_append, List.sum_append, Nat.pow_succ]
    cases hf : f n with
    | true => simp [hf]; omega
    | false => simp [hf]; omega
theorem pow_sum_bit (f : Nat → Bool) : ∀ (n r : Nat), r < n → ((((List.range n).filter f).map fun r => 2 ^ r).sum).testBit r = f r
  | 0, r, h => absurd h (Nat.not_lt_zero _)
  | n + 1, r, h => by
    have lt := pow_sum_lt f n
    rw [List.range_succ, List.filter_append, List.map_append, List.sum_append]
    by_cases e : r = n
    · subst e
      cases hf : f r with
      | true =>
        simp only [List.filter_cons, hf, if_true, List.filter_nil, List.map_cons, List.map_nil, List.sum_cons, List.sum_nil, Nat.add_zero]
        rw [Nat.add_comm, Nat.testBit_two_pow_add_eq, Nat.testBit_lt_two_pow lt]
        rfl
      | false =>
        simp only [List.filter_cons, hf, Bool.false_eq_true, if_false, List.filter_nil, List.map_nil, List.sum_nil, Nat.add_zero]
        exact Nat.testBit_lt_two_pow lt
    · have hr : r < n := by omega
      cases hf : f n with
      | true =>
        simp only [List.filter_cons, hf, if_true, List.filter_nil, List.map_cons, List.map_nil, List.sum_cons, List.sum_nil, Nat.add_zero]
        rw [Nat.add_comm, Nat.testBit_two_pow_add_gt hr, pow_sum_bit f n r hr]
      | false =>
        simp only [List.filter_cons, hf, Bool.false_eq_true, if_false, List.filter_nil, List.map_nil, List.sum_nil, Nat.add_zero]
        exact pow_sum_bit f n r hr
/-! ### Python's ints -/
theorem xor_nat (a b : Nat) : (a ^^^ b) + 2 * (a &&& b) = a + b := by
  induction a using Nat.strongRecOn generalizing b with
  | ind a ih =>
    by_cases h : a = 0
    · subst h
      simp
    · have i := ih (a / 2) (by omega) (b / 2)
      have x2 : (a ^^^ b) / 2 = a / 2 ^^^ b / 2 := Nat.xor_div_two
      have a2 : (a &&& b) / 2 = a / 2 &&& b / 2 := Nat.and_div_two
      have xm : (a ^^^ b) % 2 = (a + b) % 2 := by
        have z : (a ^^^ b) % 2 ^ 1 = a % 2 ^ 1 ^^^ b % 2 ^ 1 := Nat.xor_mod_two_pow
        have z : (a ^^^ b) % 2 = a % 2 ^^^ b % 2 := z
        rw [z]
        rcases Nat.mod_two_eq_zero_or_one a with h1 | h1 <;> rcases Nat.mod_two_eq_zero_or_one b with h2 | h2 <;> rw [h1, h2, Nat.add_mod, h1, h2] <;> rfl
      have am : (a &&& b) % 2 = (a % 2) * (b % 2) := by
        have z : (a &&& b) % 2 ^ 1 = a % 2 ^ 1 &&& b % 2 ^ 1 := Nat.and_mod_two_pow
        have z : (a &&& b) % 2 = a % 2 &&& b % 2 := z
        rw [z]
        rcases Nat.mod_two_eq_zero_or_one a with h1 | h1 <;> rcases Nat.mod_two_eq_zero_or_one b with h2 | h2 <;> rw [h1, h2] <;> rfl
      have d1 := Nat.div_add_mod (a ^^^ b) 2
      have d2 := Nat.div_add_mod (a &&& b) 2
      rw [x2, xm] at d1
      rw [a2, am] at d2
      rcases Nat.mod_two_eq_zero_or_one a with h1 | h1 <;> rcases Nat.mod_two_eq_zero_or_one b with h2 | h2 <;> rw [h1, h2] at d2 <;> omega
theorem bxor_nat (a b : Nat) : Builtin.bitXor (a : Int) (b : Int) = ((a ^^^ b : Nat) : Int) := by
  rw [PyProof.Rows.bitXor_and, PySem.W.os_band]
  have z := xor_nat a b
  omega
theorem band_nat (a b : Nat) : Builtin.bitAnd (a : Int) (b : Int) = ((a &&& b : Nat) : Int) := PySem.W.os_band a b
/-- r >> l & 1 -/
theorem lit_int (r l : Nat) : Builtin.bitAnd ((r : Int) / 2 ^ ((l : Int)).toNat) 1 = (((r.testBit l).toNat : Nat) : Int) := by
  rw [PyProof.Rows.bitAnd_m1, Nat.toNat_testBit]
  have e : ((l : Int)).toNat = l := rfl
  rw [e]
  push_cast
  rfl
theorem lit_dec (r l : Nat) : decide (V.int (Builtin.bitAnd ((r : Int) / 2 ^ ((l : Int)).toNat) 1) = V.int 1) = r.testBit l := by
  rw [lit_int]
  cases r.testBit l <;> decide
end Kl
set_option maxHeartbeats 4000000
/-! ## Columns -/
namespace Kl
open PySem L2
/-- row by row, n lamps: the columns hold the rows' bits behind f -/
structure Cols (n : Nat) (f : Nat → Nat) (cs : List Nat) : Prop where
  len : cs.length = n
  bit : ∀ l < n, ∀ r < 2 ^ n, (cs.getD l 0).testBit r = (f r).testBit l
def colN (n l : Nat) : Nat := (((List.range (2 ^ n)).filter fun r => r.testBit l).map fun r => 2 ^ r).sum
def colsN (n : Nat) : List Nat := (List.range n).map (colN n)
theorem cols0 (n : Nat) : Cols n (fun r => r) (colsN n) := by
  refine ⟨by unfold colsN; rw [List.length_map, List.length_range], fun l hl r hr => ?_⟩
  have e : (colsN n).getD l 0 = colN n l := by
    unfold colsN
    rw [List.getD_eq_getElem?_getD, List.getElem?_map, List.getElem?_range hl]
    rfl
  rw [e]
  exact pow_sum_bit _ (2 ^ n) r hr
def movN (g : G) (cs : List Nat) : Nat := g.1.foldl (fun m h => m &&& cs.getD h 0) (cs.getD g.2.1 0 ^^^ cs.getD g.2.2 0)
def actC (g : G) (cs : List Nat) : List Nat := (cs.set g.2.1 (cs.getD g.2.1 0 ^^^ movN g cs)).set g.2.2 (cs.getD g.2.2 0 ^^^ movN g cs)
theorem and_fold (cs : List Nat) (r : Nat) : ∀ (hs : List Nat) (m : Nat), (hs.foldl (fun m h => m &&& cs.getD h 0) m).testBit r = (m.testBit r && hs.all fun h => (cs.getD h 0).testBit r)
  | [], m => by simp
  | h :: hs, m => by
    rw [List.foldl_cons, and_fold cs r hs, Nat.testBit_and, List.all_cons, Bool.and_assoc]
theorem act_cols {n : Nat} {g : G} (k : Ok n g) {f : Nat → Nat} {cs : List Nat} (c : Cols n f cs) : Cols n (fun r => stepN g (f r)) (actC g cs) := by
  refine ⟨by unfold actC; rw [List.length_set, List.length_set, c.len], fun l hl r hr => ?_⟩
  have hm : (movN g cs).testBit r = (((f r).testBit g.2.1 ^^ (f r).testBit g.2.2) && g.1.all fun h => (f r).testBit h) := by
    unfold movN
    rw [and_fold, Nat.testBit_xor, c.bit _ k.one r hr, c.bit _ k.other r hr]
    congr 1
    rw [Bool.eq_iff_iff, List.all_eq_true, List.all_eq_true]
    have e : ∀ h ∈ g.1, (cs.getD h 0).testBit r = (f r).testBit h := fun h hh => c.bit _ (k.hands h hh).1 r hr
    exact ⟨fun z h hh => (e h hh) ▸ z h hh, fun z h hh => (e h hh).symm ▸ z h hh⟩
  rw [step_bit k]
  have hne : g.2.1 ≠ g.2.2 := Nat.ne_of_lt k.lt
  have h1 : g.2.1 < cs.length := by rw [c.len]; exact k.one
  have h2 : g.2.2 < (cs.set g.2.1 (cs.getD g.2.1 0 ^^^ movN g cs)).length := by rw [List.length_set, c.len]; exact k.other
  unfold actC
  rw [List.getD_eq_getElem?_getD]
  by_cases e2 : l = g.2.2
  · subst e2
    rw [List.getElem?_set_self h2]
    show (cs.getD g.2.2 0 ^^^ movN g cs).testBit r = _
    rw [Nat.testBit_xor, hm, c.bit _ k.other r hr]
    simp
  · rw [List.getElem?_set_ne (Ne.symm e2)]
    by_cases e1 : l = g.2.1
    · subst e1
      rw [List.getElem?_set_self h1]
      show (cs.getD g.2.1 0 ^^^ movN g cs).testBit r = _
      rw [Nat.testBit_xor, hm, c.bit _ k.one r hr]
      simp
    · rw [List.getElem?_set_ne (Ne.symm e1), ← List.getD_eq_getElem?_getD, c.bit l hl r hr]
      simp [e1, e2]
theorem cols_row {n : Nat} {f : Nat → Nat} {cs : List Nat} (c : Cols n f cs) {r : Nat} (hr : r < 2 ^ n) (hf : f r < 2 ^ n) : ((List.range n).map fun l => ((cs.getD l 0).testBit r).toNat * 2 ^ l).sum = f r := by
  rw [← sum_bits n (f r) hf]
  congr 1
  exact List.map_congr_left fun l hl => by rw [c.bit l (List.mem_range.mp hl) r hr]
theorem cols_more {n : Nat} {gs : List G} {i : Nat} {g : G} (h : gs[i]? = some g) {cs : List Nat} (c : Cols n (fun r => stepN g (runN (gs.take i) r)) cs) : Cols n (runN (gs.take (i + 1))) cs :=
  ⟨c.len, fun l hl r hr => by rw [run_more h]; exact c.bit l hl r hr⟩
theorem sum_cast (l : List Nat) : (l.map fun n : Nat => (n : Int)).sum = ((l.sum : Nat) : Int) := by
  induction l with
  | nil => rfl
  | cons a l ih =>
    rw [List.map_cons, List.sum_cons, ih, List.sum_cons]
    push_cast
    rfl
/-! ### what a table's goals are -/
theorem goals_get {n : Nat} {gs : List G} {i g : Nat} (h : ((List.range (2 ^ n)).map (runN gs))[i]? = some g) : i < 2 ^ n ∧ g = runN gs i := by
  rw [List.getElem?_map] at h
  by_cases hi : i < 2 ^ n
  · rw [List.getElem?_range hi] at h
    exact ⟨hi, (Option.some.inj h).symm⟩
  · rw [List.getElem?_eq_none (by rw [List.length_range]; omega)] at h
    cases h
end Kl
set_option maxHeartbeats 4000000
/-! ## The small defs -/
namespace Kl
open PySem PySem.Spec PyProof.Rows L2
theorem lk_of {K : PySem.W.Frag} {x qual : Str} {params : Arguments} {body : List Stmt} {scope : Scope} {dvs : List V} {kws : List (Str × V)} {f : Addr} {fd : FuncData} (F : FunD K x qual params body scope dvs kws f fd) : ∃ oc od osl, K.lookup f = some ⟨oc, od, .func fd, osl⟩ := by
  obtain ⟨oc, od, dV, kV, doc, pm, an, cdv, ct, osl, rfl, lk, _⟩ := F.ex
  exact ⟨oc, od, osl, lk⟩
theorem mkK {P : Program} {w : World} {K : PySem.W.Frag} {mg : Str → Option Value} {base : Heap} {x : Str} {st : Stmt} {N ps : List Str} {k : Nat} {sp : Sp} (g : mg x = some (.ref (He.ga K x))) (F : FD K x x st (He.ga K x) []) (S : FnScope N ps (defScope st)) (len : ∀ vs H Q E, sp vs H Q E → vs.length = ps.length)
    (b : ∀ (kV doc pm : Value) (an : Option Addr) (cdv ct : Value) (us : List Value), us.length = ps.length → bindArgs (PySem.W.fnOf x x (defArgs st) (defBody st) (defScope st) .none kV doc pm an cdv ct) ⟨us, []⟩ = pure (ps.zip us))
    (hbody : ∀ (cdv : Value) (A : Around) (outer : List Env) (s : Shared) (H : Hp) (vs : List V) (Q : VK) (E : XK), Room k (A.deeper (envOfC x (defScope st) s.heap.objs.size (He.ga K x) cdv)) → sp vs H Q E →
      ∃ t, PSs (cxOf (L2.CX P w) P w K mg base N x (defScope st) (He.ga K x) cdv A outer s H E).nox (defBody st) t ∧ t { nx := fun _ H' => Q .non H', rt := Q } (start N vs) H) : FnK P w K mg base (k + 1) x ps sp := by
  obtain ⟨fd, F⟩ := F
  exact ⟨g, F.kp, fd, okN F S len hbody, F.bindsN b, lk_of F⟩
theorem mkX {P : Program} {w : World} {K : PySem.W.Frag} {mg : Str → Option Value} {base : Heap} {x : Str} {st : Stmt} {N ps : List Str} {k : Nat} {sp : Sp} (g : mg x = some (.ref (He.ga K x))) (F : FD K x x st (He.ga K x) []) (S : FnScope N ps (defScope st)) (len : ∀ vs H Q E, sp vs H Q E → vs.length = ps.length)
    (b : ∀ (kV doc pm : Value) (an : Option Addr) (cdv ct : Value) (us : List Value), us.length = ps.length → bindArgs (PySem.W.fnOf x x (defArgs st) (defBody st) (defScope st) .none kV doc pm an cdv ct) ⟨us, []⟩ = pure (ps.zip us))
    (hbody : ∀ (cdv : Value) (A : Around) (outer : List Env) (s : Shared) (H : Hp) (vs : List V) (Q : VK) (E : XK), Room k (A.deeper (envOfC x (defScope st) s.heap.objs.size (He.ga K x) cdv)) → sp vs H Q E →
      ∃ t, PSs (cxOf (L2.CX P w) P w K mg base N x (defScope st) (He.ga K x) cdv A outer s H E) (defBody st) t ∧ t { nx := fun _ H' => Q .non H', rt := Q } (start N vs) H) : FnK P w K mg base (k + 1) x ps sp := by
  obtain ⟨fd, F⟩ := F
  exact ⟨g, F.kp, fd, F.ok S len hbody, F.bindsN b, lk_of F⟩
/-- no exception leaves: passes anywhere -/
theorem passL {X : Cx} : Passes (L2.CX X.prog X.w) X E0 := fun pins σ H s e s' I h => by
  obtain ⟨_, _, _, _, _, _, _, _, _, _, _, _, z⟩ := h
  exact z.elim
theorem b_isi : bootBuiltins "isinstance" = some (.builtin "isinstance") := by decide +kernel
theorem b_int : bootBuiltins "int" = some (.type "int") := by decide +kernel
theorem b_bool : bootBuiltins "bool" = some (.type "bool") := by decide +kernel
theorem b_list : bootBuiltins "list" = some (.type "list") := by decide +kernel
theorem b_tuple : bootBuiltins "tuple" = some (.type "tuple") := by decide +kernel
theorem b_str : bootBuiltins "str" = some (.type "str") := by decide +kernel
theorem b_len : bootBuiltins "len" = some (.builtin "len") := by decide +kernel
theorem b_all : bootBuiltins "all" = some (.builtin "all") := by decide +kernel
theorem b_sorted : bootBuiltins "sorted" = some (.builtin "sorted") := by decide +kernel
theorem b_min : bootBuiltins "min" = some (.builtin "min") := by decide +kernel
theorem b_max : bootBuiltins "max" = some (.builtin "max") := by decide +kernel
theorem b_sum : bootBuiltins "sum" = some (.builtin "sum") := by decide +kernel
theorem b_abs : bootBuiltins "abs" = some (.builtin "abs") := by decide +kernel
theorem b_repr : bootBuiltins "repr" = some (.builtin "repr") := by decide +kernel
section
variable {w : World} {K : PySem.W.Frag} {mg : Str → Option Value} {base : Heap}
/-! ### is_lit -/
def spLit : Sp := fun vs H Q _ => ∃ r l : Nat, vs = [.int r, .int l] ∧ Q (.bl (r.testBit l)) H
theorem scLit : FnScope ["row", "lamp"] ["row", "lamp"] (defScope s_is_lit) := ⟨rfl, rfl, rfl, by decide +kernel, rfl, by decide +kernel, by decide +kernel⟩
theorem k_lit (T : Tx K mg) : FnK PR w K mg base 1 "is_lit" ["row", "lamp"] spLit :=
  mkK T.g_is_lit T.f_is_lit scLit (fun vs H Q E h => by obtain ⟨r, l, rfl, _⟩ := h; rfl) (fun _ _ _ _ _ _ us hl => match us, hl with | [_, _], _ => rfl) fun cdv A outer s H vs Q E hr h => by
    obtain ⟨r, l, rfl, q⟩ := h
    refine ⟨_, pss_one (ps_ret (pe_cmpR op_eq (pe_op op_and (pe_op op_shr (pv 0) (pv 1)) pe_int) pe_int (nomark _))), ?_⟩
    refine ⟨_, rfl, _, rfl, _, _, rfl, rfl, Int.natCast_nonneg _, _, _, rfl, rfl, rfl, ?_⟩
    show Q (.bl (decide (V.int (Builtin.bitAnd ((r : Int) / 2 ^ ((l : Int)).toNat) 1) = V.int 1))) H
    rw [lit_dec]
    exact q
/-! ### is_integer, is_list, is_within -/
/-- none of the ints: nothing, a truth, a text, a list -/
def NotInt (H : Hp) (v : V) : Prop := v = .non ∨ (∃ b, v = .bl b) ∨ (∃ z, v = .str z) ∨ ∃ a xs, v = .ref a ∧ H a = some (.lst xs)
def spInt : Sp := fun vs H Q _ => ∃ v, vs = [v] ∧ ((∃ i, v = .int i ∧ Q (.bl true) H) ∨ (NotInt H v ∧ Q (.bl false) H))
theorem scInt : FnScope ["value"] ["value"] (defScope s_is_integer) := ⟨rfl, rfl, rfl, by decide +kernel, rfl, by decide +kernel, by decide +kernel⟩
theorem k_int (T : Tx K mg) : FnK PR w K mg base 1 "is_integer" ["value"] spInt :=
  mkK T.g_is_integer T.f_is_integer scInt (fun vs H Q E h => by obtain ⟨v, rfl, _⟩ := h; rfl) (fun _ _ _ _ _ _ us hl => match us, hl with | [_], _ => rfl) fun cdv A outer s H vs Q E hr h => by
    obtain ⟨v, rfl, q⟩ := h
    refine ⟨_, pss_one (ps_ret (pe_and (pe_callB call_isi rfl T.n_isinstance b_isi (pa_cons (pv 0) (pa_cons (pe_bltn (v := .ty "int") rfl T.n_int b_int rfl) pa_nil))) (pe_one (pe_not (pe_callB call_isi rfl T.n_isinstance b_isi (pa_cons (pv 0) (pa_cons (pe_bltn (v := .ty "bool") rfl T.n_bool b_bool rfl) pa_nil))))))), ?_⟩
    rcases q with ⟨i, rfl, q⟩ | ⟨hv, q⟩
    · exact ⟨_, rfl, _, _, _, _, _, rfl, .ty _, .base (.int i), kit_ty (b := "int") (r := true) (by decide +kernel), _, rfl, iteT ⟨_, rfl, _, _, _, _, _, rfl, .ty _, .base (.int i), kit_ty (b := "bool") (r := false) (by decide +kernel), _, rfl, q⟩⟩
    · rcases hv with rfl | ⟨b, rfl⟩ | ⟨z, rfl⟩ | ⟨a, xs, rfl, ha⟩
      · exact ⟨_, rfl, _, _, _, _, _, rfl, .ty _, .base .non, kit_ty (b := "int") (r := false) (by decide +kernel), _, rfl, iteF q⟩
      · exact ⟨_, rfl, _, _, _, _, _, rfl, .ty _, .base (.bl b), kit_ty (b := "int") (r := true) (by decide +kernel), _, rfl, iteT ⟨_, rfl, _, _, _, _, _, rfl, .ty _, .base (.bl b), kit_ty (b := "bool") (r := true) (by decide +kernel), _, rfl, q⟩⟩
      · exact ⟨_, rfl, _, _, _, _, _, rfl, .ty _, .base (.str z), kit_ty (b := "int") (r := false) (by decide +kernel), _, rfl, iteF q⟩
      · exact ⟨_, rfl, _, _, _, _, _, rfl, .ty _, .base (.lst ha), kit_ty (b := "int") (r := false) (by decide +kernel), _, rfl, iteF q⟩
def spIsList : Sp := fun vs H Q _ => ∃ a xs, vs = [.ref a] ∧ (H a = some (.lst xs) ∨ H a = some (.tup xs)) ∧ ∀ H', Same H H' → Q (.bl true) H'
theorem scIsList : FnScope ["value"] ["value"] (defScope s_is_list) := ⟨rfl, rfl, rfl, by decide +kernel, rfl, by decide +kernel, by decide +kernel⟩
theorem same_new {H : Hp} {p : Addr} {o : HO} (h : H p = none) : Same H (upd H p o) := fun b u e => by rw [upd_ne (ne_of_none e h)]; exact e
theorem k_islist (T : Tx K mg) : FnK PR w K mg base 1 "is_list" ["value"] spIsList :=
  mkK T.g_is_list T.f_is_list scIsList (fun vs H Q E h => by obtain ⟨a, xs, rfl, _⟩ := h; rfl) (fun _ _ _ _ _ _ us hl => match us, hl with | [_], _ => rfl) fun cdv A outer s H vs Q E hr h => by
    obtain ⟨a, xs, rfl, ha, q⟩ := h
    refine ⟨_, pss_one (ps_ret (pe_callB call_isiT rfl T.n_isinstance b_isi (pa_cons (pv 0) (pa_cons (pe_tup (pa_cons (pe_bltn (v := .ty "list") rfl T.n_list b_list rfl) (pa_cons (pe_bltn (v := .ty "tuple") rfl T.n_tuple b_tuple rfl) pa_nil))) pa_nil)))), ?_⟩
    refine ⟨_, rfl, by decide, fun p hp => ?_⟩
    rcases ha with ha | ha
    · exact ⟨_, _, _, _, _, true, rfl, upd_same, .cons (.ty _) (.cons (.ty _) .nil), .base (.lst ((upd_ne (ne_of_none ha hp)).trans ha)), kitAny_cons (b := true) (kit_ty (b := "list") (by decide +kernel)) (fun z => by cases z) (fun _ => rfl), q _ (same_new hp)⟩
    · exact ⟨_, _, _, _, _, true, rfl, upd_same, .cons (.ty _) (.cons (.ty _) .nil), .base (.tup ((upd_ne (ne_of_none ha hp)).trans ha)), kitAny_cons (b := false) (kit_ty (b := "list") (by decide +kernel)) (fun _ => kitAny_cons (b := true) (kit_ty (b := "tuple") (by decide +kernel)) (fun z => by cases z) (fun _ => rfl)) (fun z => by cases z), q _ (same_new hp)⟩
def spWithin : Sp := fun vs H Q _ => ∃ (v : V) (lo hi : Int), vs = [v, .int lo, .int hi] ∧ ((∃ i, v = .int i ∧ Q (.bl (decide (lo ≤ i) && decide (i ≤ hi))) H) ∨ (NotInt H v ∧ Q (.bl false) H))
theorem scWithin : FnScope ["value", "least", "most"] ["value", "least", "most"] (defScope s_is_within) := ⟨rfl, rfl, rfl, by decide +kernel, rfl, by decide +kernel, by decide +kernel⟩
theorem k_within (T : Tx K mg) : FnK PR w K mg base 2 "is_within" ["value", "least", "most"] spWithin :=
  mkK T.g_is_within T.f_is_within scWithin (fun vs H Q E h => by obtain ⟨v, lo, hi, rfl, _⟩ := h; rfl) (fun _ _ _ _ _ _ us hl => match us, hl with | [_, _, _], _ => rfl) fun cdv A outer s H vs Q E hr h => by
    obtain ⟨v, lo, hi, rfl, q⟩ := h
    refine ⟨_, pss_cons (ps_if (pt_not (pt_val (pe_f (k_int T) hr passL (pa_cons (pv 0) pa_nil)))) (pss_one (ps_ret pe_bl)) pss_nil)
      (pss_one (ps_ret (pe_and (pe_or (pe_cmpR op_isN (pv 1) pe_non (nomark _)) (pe_one (pe_cmpR op_le (pv 1) (pv 0) (nomark _)))) (pe_one (pe_or (pe_cmpR op_isN (pv 2) pe_non (nomark _)) (pe_one (pe_cmpR op_le (pv 0) (pv 2) (nomark _)))))))), ?_⟩
    rcases q with ⟨i, rfl, q⟩ | ⟨hv, q⟩
    · refine ⟨_, rfl, _, rfl, .inl ⟨i, rfl, true, rfl, iteF ?_⟩⟩
      refine ⟨_, rfl, rfl, false, rfl, iteF ⟨_, rfl, _, rfl, _, _, rfl, rfl, _, rfl, ?_⟩⟩
      cases c : decide (lo ≤ i) with
      | false =>
        rw [c] at q
        exact iteF q
      | true =>
        rw [c] at q
        exact iteT ⟨_, rfl, rfl, false, rfl, iteF ⟨_, rfl, _, rfl, _, _, rfl, rfl, q⟩⟩
    · exact ⟨_, rfl, _, rfl, .inr ⟨hv, false, rfl, iteT q⟩⟩
end
end Kl
set_option maxHeartbeats 4000000
/-! ## Comprehensions by what they gather -/
namespace Kl
open PySem PySem.Spec PyProof.Rows L2
abbrev natV (l : List Nat) : List V := l.map fun n : Nat => V.int (n : Int)
theorem natV_at {l : List Nat} {i : Nat} {x : V} (h : (natV l)[i]? = some x) : ∃ z, l[i]? = some z ∧ x = V.int ((z : Nat) : Int) := by
  rw [List.getElem?_map] at h
  cases e : l[i]? with
  | none => rw [e] at h; cases h
  | some z => rw [e] at h; exact ⟨z, rfl, (Option.some.inj h).symm⟩
theorem natV_get {l : List Nat} {i z : Nat} (h : l[i]? = some z) : (natV l)[i]? = some (V.int ((z : Nat) : Int)) := by
  rw [List.getElem?_map, h]
  rfl
theorem natV_len (l : List Nat) : (natV l).length = l.length := List.length_map _
theorem natV_int (l : List Nat) : natV l = (l.map fun n : Nat => (n : Int)).map V.int := by
  rw [List.map_map]
  rfl
def rLenD : List V → Hp → VK → Prop := fun xs H Q => ∃ (a : Addr) (kvs : List (L2.Key × V)), xs = [.ref a] ∧ H a = some (.dK kvs) ∧ Q (.int (kvs.length : Nat)) H
theorem call_lenD {X : Cx} : CallR X (.builtin "len") rLenD := by
  intro pins s σ H xs us Q I r h
  obtain ⟨a, kvs, rfl, e, q⟩ := h
  rw [Vals.ref1 r]
  exact d_len I (.inl e) fun t s' I' => ⟨.int (kvs.length : Nat), H, I', ⟨t, rfl⟩, q⟩
theorem same_upd {H H' : Hp} {D : Addr} {o : HO} (s : Same H H') (h : H D = none) : Same H (upd H' D o) := fun b u e => by rw [upd_ne (ne_of_none e h)]; exact s b u e
theorem same_at {H H' : Hp} {a : Addr} {o : HO} (s : Same H H') (h : H a = some o) : H' a = H a := (s a o h).trans h.symm
/-- a list or a tuple, tracked -/
def LT (H : Hp) (a : Addr) (xs : List V) : Prop := H a = some (.lst xs) ∨ H a = some (.tup xs)
theorem LT.same {H H' : Hp} {a : Addr} {xs : List V} (h : LT H a xs) (s : Same H H') : LT H' a xs := h.elim (fun e => .inl (s _ _ e)) (fun e => .inr (s _ _ e))
theorem LT.at_ {H H' : Hp} {a : Addr} {xs : List V} (h : LT H a xs) (s : Same H H') : H' a = H a := h.elim (same_at s) (same_at s)
theorem iseq_of {K : PySem.W.Frag} {H : Hp} {a : Addr} {xs : List V} {R : It → Hp → Prop} (h : LT H a xs) (k : ∀ (J : It), Walk J xs.length (fun H' => H' a = H a) (YAt xs) → R J H) :
    ∃ a', V.ref a = V.ref a' ∧ ((∃ xs, SqL K H a' xs) ∧ R (Itl K a') H ∨ (∃ xs, SqT K H a' xs) ∧ R (Itt K a') H) := by
  rcases h with e | e
  · exact ⟨a, rfl, .inl ⟨⟨xs, .inl (.inl e)⟩, k _ (walk_list.mono (fun H' q => .inl (.inl (q.trans e))) fun i H x H' _ _ y => y)⟩⟩
  · exact ⟨a, rfl, .inr ⟨⟨xs, .inl (.inl e)⟩, k _ (walk_tup.mono (fun H' q => .inl (.inl (q.trans e))) fun i H x H' _ _ y => y)⟩⟩
/-- enumerate: each item with its index in a new pair -/
def YEn (xs : List V) : Nat → Hp → V → Hp → Prop := fun i H v H' => ∃ T x, v = .ref T ∧ H T = none ∧ H' = upd H T (.tup [.int (i : Nat), x]) ∧ xs[i]? = some x
theorem ienum_of {K : PySem.W.Frag} {H : Hp} {a : Addr} {xs : List V} {R : It → Hp → Prop} (h : LT H a xs) (k : ∀ (J : It), Walk J xs.length (fun H' => H' a = H a) (YEn xs) → R J H) :
    ∃ a', [V.ref a] = [V.ref a'] ∧ ((∃ xs, SqL K H a' xs) ∧ R (Ite K a') H ∨ (∃ xs, SqT K H a' xs) ∧ R (IteT K a') H) := by
  rcases h with e | e
  · refine ⟨a, rfl, .inl ⟨⟨xs, .inl (.inl e)⟩, k _ ⟨fun i H' hi q => ⟨xs, xs[i], .inl (.inl (q.trans e)), by simp [hi]⟩, fun H' q => ⟨xs, .inl (.inl (q.trans e)), Nat.le_refl _⟩, fun i H' v H2 _ q y => ?_⟩⟩⟩
    obtain ⟨T, x, h1, h2, h3, h4⟩ := y
    exact ⟨T, x, h1, h2, h3, h4 xs (.inl (.inl (q.trans e)))⟩
  · refine ⟨a, rfl, .inr ⟨⟨xs, .inl (.inl e)⟩, k _ ⟨fun i H' hi q => ⟨xs, xs[i], .inl (.inl (q.trans e)), by simp [hi]⟩, fun H' q => ⟨xs, .inl (.inl (q.trans e)), Nat.le_refl _⟩, fun i H' v H2 _ q y => ?_⟩⟩⟩
    obtain ⟨T, x, h1, h2, h3, h4⟩ := y
    exact ⟨T, x, h1, h2, h3, h4 xs (.inl (.inl (q.trans e)))⟩
/-- the walk of a name's list or tuple -/
theorem iseq_var {K : PySem.W.Frag} {H : Hp} {σ : L2.St} {i : Nat} {a : Addr} {xs : List V} {R : It → Hp → Prop} (hi : σ[i]? = some (some (.ref a))) (h : LT H a xs) (k : ∀ (J : It), Walk J xs.length (fun H' => H' a = H a) (YAt xs) → R J H) : iSeq K (tVar i) σ H R :=
  ⟨_, hi, iseq_of h k⟩
theorem iseq_E {K : PySem.W.Frag} {H Hr : Hp} {σ : L2.St} {te0 : TE} {a : Addr} {xs : List V} {R : It → Hp → Prop} (hte : ∀ Q : VK, Q (.ref a) H → te0 σ Hr Q) (h : LT H a xs) (k : ∀ (J : It), Walk J xs.length (fun H' => H' a = H a) (YAt xs) → R J H) : iSeq K te0 σ Hr R :=
  hte _ (iseq_of h k)
theorem ienum_var {K : PySem.W.Frag} {H : Hp} {σ : L2.St} {i : Nat} {a : Addr} {xs : List V} {R : It → Hp → Prop} (hi : σ[i]? = some (some (.ref a))) (h : LT H a xs) (k : ∀ (J : It), Walk J xs.length (fun H' => H' a = H a) (YEn xs) → R J H) : iEnumS K (tCons (tVar i) tNil) σ H R :=
  ⟨_, hi, ienum_of h k⟩
/-- the walk of a tracked list: what is asked of a name -/
theorem ilist_var {K : PySem.W.Frag} {H : Hp} {σ : L2.St} {i : Nat} {a : Addr} {xs : List V} {R : It → Hp → Prop} (hi : σ[i]? = some (some (.ref a))) (h : H a = some (.lst xs)) (k : Walk (Itl K a) xs.length (fun H' => H' a = H a) (YAt xs) → R (Itl K a) H) : iList K (tVar i) σ H R :=
  ⟨_, hi, a, rfl, ⟨xs, .inl (.inl h)⟩, k (walk_list.mono (fun H' q => .inl (.inl (q.trans h))) fun i H x H' _ _ y => y)⟩
section
variable {J : It} {n : Nat} {G : Hp → Prop} {Y : Nat → Hp → V → Hp → Prop} {g : TG} {tt : TT} {te tk tv : TE} {vs : List Nat} {σ : L2.St} {H1 : Hp} {D : Addr} {Qd : Hp → Prop}
/-- a comprehension that leaves all that was tracked: F i, what the new list holds behind i turns -/
def PvA (H1 : Hp) (D : Addr) (F : Nat → List V) (i : Nat) (H : Hp) : Prop := Same H1 H ∧ H D = some (.lst (F i))
theorem lc_acc (w : Walk J n G Y) (hD : H1 D = none) (hG : ∀ H', Same H1 H' → G H') (F : Nat → List V) (F0 : F 0 = [])
    (turn : ∀ i x H H', i < n → PvA H1 D F i H → Y i H x H' → g x (wipe σ vs) H' fun σ2 H2 => wipe σ2 vs = wipe σ vs ∧ tt σ2 H2 fun b H3 =>
      if b = true then te σ2 H3 fun y H4 => ∃ acc, H4 D = some (.lst acc) ∧ acc.length < sizeLine ∧ PvA H1 D F (i + 1) (upd H4 D (.lst (acc ++ [y]))) else PvA H1 D F (i + 1) H3)
    (done : ∀ H, Same H1 H → H D = some (.lst (F n)) → Qd H) :
    ∃ W : Nat → Nat → Hp → Prop, (∃ m, W 0 m (upd H1 D (.lst []))) ∧ ∀ i m H, W i m H →
      (J.stop i H ∧ Qd H) ∨ (J.go i H ∧ ∃ Nx : Hp → Prop, (∀ H', Nx H' → ∃ m', m' < m ∧ W (i + 1) m' H') ∧ ∀ x H', J.yld i H x H' → g x (wipe σ vs) H' fun σ2 H2 => wipe σ2 vs = wipe σ vs ∧ tt σ2 H2 fun b H3 =>
        if b = true then te σ2 H3 fun y H4 => ∃ acc, H4 D = some (.lst acc) ∧ acc.length < sizeLine ∧ Nx (upd H4 D (.lst (acc ++ [y]))) else Nx H3) :=
  lc_it w (PvA H1 D F) ⟨same_new hD, by rw [upd_same, F0]⟩ (fun i H _ p => hG H p.1) (fun i x H H' hi p y => turn i x H H' hi p y) (fun H p => done H p.1 p.2)
theorem acc_yes {F : Nat → List V} {i : Nat} {H H4 : Hp} {y : V} (p : PvA H1 D F i H) (hD : H1 D = none) (hz : (F i).length < 1000) (s : Same H H4) (e : F (i + 1) = F i ++ [y]) :
    ∃ acc, H4 D = some (.lst acc) ∧ acc.length < sizeLine ∧ PvA H1 D F (i + 1) (upd H4 D (.lst (acc ++ [y]))) :=
  ⟨F i, s _ _ p.2, small1000 (Nat.le_of_lt hz), same_upd (Same.trans p.1 s) hD, by rw [upd_same, e]⟩
theorem acc_no {F : Nat → List V} {i : Nat} {H H3 : Hp} (p : PvA H1 D F i H) (s : Same H H3) (e : F (i + 1) = F i) : PvA H1 D F (i + 1) H3 := ⟨Same.trans p.1 s, by rw [e]; exact s _ _ p.2⟩
end
theorem yes_if {σ : L2.St} {H : Hp} {A B : Hp → Prop} (h : A H) : tYes σ H (fun b H3 => if b = true then A H3 else B H3) := iteT (A := A H) (B := B H) h
theorem cb_lc {r : List V → Hp → VK → Prop} {wi : TI} {g : TG} {tt : TT} {te : TE} {vs : List Nat} {σ : L2.St} {H : Hp} {Q : VK} (h : tLc wi g tt te vs σ H fun v H1 => r [v] H1 Q) : tCB r (tCons (tLc wi g tt te vs) tNil) σ H Q := h
section
variable {K : PySem.W.Frag} {g : TG} {tt : TT} {te : TE} {vs : List Nat} {σ : L2.St} {H1 : Hp} {Q : VK}
/-- what one turn owes -/
def Turn1 (g : TG) (tt : TT) (te : TE) (vs : List Nat) (σ : L2.St) (H1 : Hp) (D : Addr) (F : Nat → List V) (i : Nat) (x : V) (H' : Hp) : Prop :=
  g x (wipe σ vs) H' fun σ2 H2 => wipe σ2 vs = wipe σ vs ∧ tt σ2 H2 fun b H3 =>
      if b = true then te σ2 H3 fun y H4 => ∃ acc, H4 D = some (.lst acc) ∧ acc.length < sizeLine ∧ PvA H1 D F (i + 1) (upd H4 D (.lst (acc ++ [y]))) else PvA H1 D F (i + 1) H3
theorem lc_seq {i : Nat} {a : Addr} {xs : List V} (hi : σ[i]? = some (some (.ref a))) (h : LT H1 a xs) (F : Nat → List V) (F0 : F 0 = [])
    (turn : ∀ D, H1 D = none → ∀ i x H, xs[i]? = some x → i < xs.length → PvA H1 D F i H → Turn1 g tt te vs σ H1 D F i x H) (done : ∀ D H, H1 D = none → Same H1 H → H D = some (.lst (F xs.length)) → Q (.ref D) H) : tLc (iSeq K (tVar i)) g tt te vs σ H1 Q :=
  iseq_var hi h fun J wk D hD => lc_acc wk hD (fun H' s => h.at_ s) F F0 (fun i x H H' hi p y => by
    obtain ⟨rfl, hx⟩ := y
    exact turn D hD i x _ hx hi p) fun H s e => done D H hD s e
theorem lc_enum {i : Nat} {a : Addr} {xs : List V} (hi : σ[i]? = some (some (.ref a))) (h : LT H1 a xs) (F : Nat → List V) (F0 : F 0 = [])
    (turn : ∀ D, H1 D = none → ∀ i x H P, xs[i]? = some x → i < xs.length → PvA H1 D F i H → H P = none → Turn1 g tt te vs σ H1 D F i (.ref P) (upd H P (.tup [.int (i : Nat), x]))) (done : ∀ D H, H1 D = none → Same H1 H → H D = some (.lst (F xs.length)) → Q (.ref D) H) : tLc (iEnumS K (tCons (tVar i) tNil)) g tt te vs σ H1 Q :=
  ienum_var hi h fun J wk D hD => lc_acc wk hD (fun H' s => h.at_ s) F F0 (fun i x H H' hi p y => by
    obtain ⟨P, y, rfl, nP, rfl, hx⟩ := y
    exact turn D hD i y H P hx hi p nP) fun H s e => done D H hD s e
theorem lc_lst {i : Nat} {a : Addr} {xs : List V} (hi : σ[i]? = some (some (.ref a))) (h : H1 a = some (.lst xs)) (F : Nat → List V) (F0 : F 0 = [])
    (turn : ∀ D, H1 D = none → ∀ i x H, xs[i]? = some x → i < xs.length → PvA H1 D F i H → Turn1 g tt te vs σ H1 D F i x H) (done : ∀ D H, H1 D = none → Same H1 H → H D = some (.lst (F xs.length)) → Q (.ref D) H) : tLc (iList K (tVar i)) g tt te vs σ H1 Q :=
  ilist_var hi h fun wk D hD => lc_acc wk hD (fun H' s => same_at s h) F F0 (fun i x H H' hi p y => by
    obtain ⟨rfl, hx⟩ := y
    exact turn D hD i x _ hx hi p) fun H s e => done D H hD s e
theorem lc_rng {ta : TA} {n : Nat} {Hr : Hp} (hta : ∀ Q : List V → Hp → Prop, Q [.int (n : Int)] H1 → ta σ Hr Q) (hn : n < 1000) (F : Nat → List V) (F0 : F 0 = [])
    (turn : ∀ D, H1 D = none → ∀ (i : Nat) H, i < n → PvA H1 D F i H → Turn1 g tt te vs σ H1 D F i (.int (i : Int)) H) (done : ∀ D H, H1 D = none → Same H1 H → H D = some (.lst (F n)) → Q (.ref D) H) : tLc (iRng1 ta) g tt te vs σ Hr Q :=
  hta _ ⟨n, rfl, by omega, by omega, fun D hD => lc_acc (walk_range (lo := 0) (n := (n : Int).toNat)) hD (fun H' s => trivial) F F0 (fun i x H H' hi p y => by
    obtain ⟨rfl, rfl⟩ := y
    have z := turn D hD i _ hi p
    have e : ((0 : Int) + (i : Int)) = (i : Int) := Int.zero_add _
    show g (.int ((0 : Int) + (i : Int))) _ _ _
    rw [e]
    exact z) fun H s e => done D H hD s e⟩
end
/-- tuples stay -/
def SameT (H H' : Hp) : Prop := ∀ b xs, H b = some (.tup xs) → H' b = some (.tup xs)
theorem SameT.refl (H : Hp) : SameT H H := fun _ _ h => h
theorem SameT.trans {H H1 H2 : Hp} (a : SameT H H1) (b : SameT H1 H2) : SameT H H2 := fun c o h => b c o (a c o h)
theorem same_t {H H' : Hp} (s : Same H H') : SameT H H' := fun b xs e => s b _ e
theorem sameT_lst {H H' : Hp} {D : Addr} {ys zs : List V} (s : SameT H H') (e : H' D = some (.lst ys)) : SameT H (upd H' D (.lst zs)) := fun b xs q => by
  rw [upd_ne (fun z => by rw [z] at q; have := s _ _ q; rw [e] at this; cases this)]
  exact s b xs q
section
variable {K : PySem.W.Frag} {g : TG} {tt : TT} {te te0 : TE} {vs : List Nat} {σ : L2.St} {H1 Hr : Hp} {Q : VK}
theorem lc_seqE {a : Addr} {xs : List V} (hte : ∀ Q : VK, Q (.ref a) H1 → te0 σ Hr Q) (h : LT H1 a xs) (F : Nat → List V) (F0 : F 0 = [])
    (turn : ∀ D, H1 D = none → ∀ i x H, xs[i]? = some x → i < xs.length → PvA H1 D F i H → Turn1 g tt te vs σ H1 D F i x H) (done : ∀ D H, H1 D = none → Same H1 H → H D = some (.lst (F xs.length)) → Q (.ref D) H) : tLc (iSeq K te0) g tt te vs σ Hr Q :=
  iseq_E hte h fun J wk D hD => lc_acc wk hD (fun H' s => h.at_ s) F F0 (fun i x H H' hi p y => by
    obtain ⟨rfl, hx⟩ := y
    exact turn D hD i x _ hx hi p) fun H s e => done D H hD s e
/-- a comprehension whose items are told by a word on what is made -/
def PvB (H1 : Hp) (D : Addr) (A : Nat → List V → Hp → Prop) (i : Nat) (H : Hp) : Prop := Same H1 H ∧ ∃ acc, H D = some (.lst acc) ∧ acc.length ≤ i ∧ A i acc H
def Turn2 (g : TG) (tt : TT) (te : TE) (vs : List Nat) (σ : L2.St) (H1 : Hp) (D : Addr) (A : Nat → List V → Hp → Prop) (i : Nat) (x : V) (H' : Hp) : Prop :=
  g x (wipe σ vs) H' fun σ2 H2 => wipe σ2 vs = wipe σ vs ∧ tt σ2 H2 fun b H3 =>
      if b = true then te σ2 H3 fun y H4 => ∃ acc, H4 D = some (.lst acc) ∧ acc.length < sizeLine ∧ PvB H1 D A (i + 1) (upd H4 D (.lst (acc ++ [y]))) else PvB H1 D A (i + 1) H3
theorem lc_anyE {a : Addr} {xs : List V} (hte : ∀ Q : VK, Q (.ref a) H1 → te0 σ Hr Q) (h : LT H1 a xs) (A : Nat → List V → Hp → Prop) (hA : ∀ i acc H H', A i acc H → SameT H H' → A i acc H') (A0 : A 0 [] H1)
    (turn : ∀ D, H1 D = none → ∀ i x H acc, xs[i]? = some x → i < xs.length → Same H1 H → H D = some (.lst acc) → acc.length ≤ i → A i acc H → Turn2 g tt te vs σ H1 D A i x H)
    (done : ∀ D H acc, H1 D = none → Same H1 H → H D = some (.lst acc) → A xs.length acc H → Q (.ref D) H) : tLc (iSeq K te0) g tt te vs σ Hr Q :=
  iseq_E hte h fun J wk D hD => lc_it wk (PvB H1 D A) ⟨same_new hD, [], upd_same, Nat.zero_le _, hA _ _ _ _ A0 (same_t (same_new hD))⟩ (fun i H _ p => h.at_ p.1) (fun i x H H' hi p y => by
    obtain ⟨rfl, hx⟩ := y
    obtain ⟨s, acc, e, l, q⟩ := p
    exact turn D hD i x _ acc hx hi s e l q) fun H p => by
    obtain ⟨s, acc, e, l, q⟩ := p
    exact done D H acc hD s e q
theorem any_yes {D : Addr} {A : Nat → List V → Hp → Prop} {i : Nat} {H H4 : Hp} {acc : List V} {y : V} (hA : ∀ i acc H H', A i acc H → SameT H H' → A i acc H') (hD : H1 D = none) (s1 : Same H1 H) (e : H D = some (.lst acc)) (l : acc.length ≤ i) (hi : i < 1000) (s : Same H H4) (q : A (i + 1) (acc ++ [y]) H4) :
    ∃ acc, H4 D = some (.lst acc) ∧ acc.length < sizeLine ∧ PvB H1 D A (i + 1) (upd H4 D (.lst (acc ++ [y]))) :=
  ⟨acc, s _ _ e, small1000 (by omega), same_upd (Same.trans s1 s) hD, _, upd_same, by rw [List.length_append]; exact Nat.succ_le_succ l, hA _ _ _ _ q (sameT_lst (SameT.refl _) (s _ _ e))⟩
theorem any_no {D : Addr} {A : Nat → List V → Hp → Prop} {i : Nat} {H H3 : Hp} {acc : List V} (s1 : Same H1 H) (e : H D = some (.lst acc)) (l : acc.length ≤ i) (s : Same H H3) (q : A (i + 1) acc H3) : PvB H1 D A (i + 1) H3 :=
  ⟨Same.trans s1 s, acc, s _ _ e, Nat.le_succ_of_le l, q⟩
end
/-- the first i of l, each by f -/
theorem map_take {α : Type} {l : List α} {f : α → V} {i : Nat} {z : α} (h : l[i]? = some z) : (l.take (i + 1)).map f = (l.take i).map f ++ [f z] := by
  rw [take_more h, List.map_append]
  rfl
theorem map_take_len {α : Type} {l : List α} {f : α → V} (i : Nat) : ((l.take i).map f).length ≤ l.length := by
  rw [List.length_map, List.length_take]
  exact Nat.min_le_right _ _
/-- {x: True for x in ints}, none of them twice -/
theorem dc_nodup {J : It} {l : List Nat} {G : Hp → Prop} {g : TG} {vs : List Nat} {σ : L2.St} {H1 : Hp} {D : Addr} {Qd : Hp → Prop} {i0 : Nat} (w : Walk J l.length G (YAt (natV l))) (hD : H1 D = none) (hG : ∀ H', Same H1 H' → G H') (hnd : l.Nodup) (hn : l.length < 1000)
    (hg : ∀ x H (Q : L2.St → Hp → Prop), (∀ σ2, σ2[i0]? = some (some x) → wipe σ2 vs = wipe σ vs → Q σ2 H) → g x (wipe σ vs) H Q) (done : ∀ H kvs, Same H1 H → H D = some (.dK kvs) → kvs.length = l.length → Qd H) :
    ∃ W : Nat → Nat → Hp → Prop, (∃ m, W 0 m (upd H1 D (.dK []))) ∧ ∀ i m H, W i m H →
      (J.stop i H ∧ Qd H) ∨ (J.go i H ∧ ∃ Nx : Hp → Prop, (∀ H', Nx H' → ∃ m', m' < m ∧ W (i + 1) m' H') ∧ ∀ x H', J.yld i H x H' → g x (wipe σ vs) H' fun σ2 H2 => wipe σ2 vs = wipe σ vs ∧ tYes σ2 H2 fun b H3 =>
        if b = true then tVar i0 σ2 H3 fun y H4 => tC (.bl true) σ2 H4 fun z H5 => ∃ kvs k, y = kV k ∧ H5 D = some (.dK kvs) ∧ kvs.length < sizeLine ∧ Nx (upd H5 D (.dK (putK kvs k z))) else Nx H3) := by
  let Pv : Nat → Hp → Prop := fun i H => Same H1 H ∧ H D = some (.dK ((l.take i).map fun n : Nat => ((Sum.inl (n : Int) : Key), V.bl true)))
  refine ⟨fun i m H => m = l.length - i ∧ i ≤ l.length ∧ Pv i H, ⟨l.length, by simp, Nat.zero_le _, same_new hD, upd_same⟩, ?_⟩
  rintro i m H ⟨rfl, hi, p⟩
  have q := hG H p.1
  by_cases hlt : i < l.length
  · refine .inr ⟨w.goes i H hlt q, Pv (i + 1), fun H' p' => ⟨l.length - (i + 1), by omega, rfl, hlt, p'⟩, fun x H' y => ?_⟩
    obtain ⟨rfl, hx⟩ := w.yields i H x H' hlt q y
    obtain ⟨z, hz, rfl⟩ := natV_at hx
    refine hg _ _ _ fun σ2 h2 hw => ⟨hw, ?_⟩
    simp only [tYes, if_true]
    refine ⟨_, h2, ?_⟩
    refine ⟨_, Sum.inl (z : Int), rfl, p.2, small1000 (by rw [List.length_map, List.length_take]; omega), same_upd p.1 hD, ?_⟩
    rw [upd_same]
    have hnot : (((l.take i).map fun n : Nat => ((Sum.inl (n : Int) : Key), V.bl true)).any fun kv => decide (kv.1 = Sum.inl (z : Int))) = false := by
      rw [List.any_eq_false]
      intro kv hkv
      obtain ⟨u, hu, rfl⟩ := List.mem_map.mp hkv
      simp only [decide_eq_true_eq, Sum.inl.injEq]
      intro e
      have e : u = z := by omega
      subst e
      obtain ⟨j, hj, hju⟩ := List.getElem_of_mem hu
      rw [List.length_take] at hj
      rw [List.getElem_take] at hju
      obtain ⟨hi', hiu⟩ := List.getElem?_eq_some_iff.mp hz
      exact List.pairwise_iff_getElem.mp hnd j i (by omega) hi' (by omega) (hju.trans hiu.symm)
    unfold putK
    rw [if_neg (by rw [hnot]; exact Bool.false_ne_true), take_more hz, List.map_append]
    rfl
  · have e : i = l.length := by omega
    subst e
    exact .inl ⟨w.stops H q, done H _ p.1 p.2 (by rw [List.length_map, List.length_take, Nat.min_self])⟩
end Kl
set_option maxHeartbeats 4000000
/-! ## need_number, need_lamps, weight_in, are_unlike, are_goals -/
namespace Kl
open PySem PySem.Spec PyProof.Rows L2
theorem ifB {b : Bool} {A B : Prop} (h1 : b = true → A) (h2 : b = false → B) : if b = true then A else B := by
  cases b with
  | true => exact iteT (h1 rfl)
  | false => exact iteF (h2 rfl)
theorem b_enumerate : bootBuiltins "enumerate" = some (.type "enumerate") := by decide +kernel
theorem wt_pos : ∀ r < 256, 0 < r → wt 8 r = r % 2 + wt 8 (r / 2) := by decide +kernel
section
variable {w : World} {K : PySem.W.Frag} {mg : Str → Option Value} {base : Heap}
/-! ### need_number: it is within -/
def spNeed : Sp := fun vs H Q _ => ∃ (i lo hi : Int) (p : Str), vs = [.int i, .str p, .int lo, .int hi] ∧ lo ≤ i ∧ i ≤ hi ∧ Q .non H
theorem scNeed : FnScope ["value", "part", "least", "most"] ["value", "part", "least", "most"] (defScope s_need_number) := ⟨rfl, rfl, rfl, by decide +kernel, rfl, by decide +kernel, by decide +kernel⟩
theorem k_need (T : Tx K mg) : FnK PR w K mg base 3 "need_number" ["value", "part", "least", "most"] spNeed :=
  mkK T.g_need_number T.f_need_number scNeed (fun vs H Q E h => by obtain ⟨i, lo, hi, p, rfl, _⟩ := h; rfl) (fun _ _ _ _ _ _ us hl => match us, hl with | [_, _, _, _], _ => rfl) fun cdv A outer s H vs Q E hr h => by
    obtain ⟨i, lo, hi, p, rfl, h1, h2, q⟩ := h
    refine ⟨_, pss_one (ps_if (pt_not (pt_val (pe_f (k_within T) hr passL (pa_cons (pv 0) (pa_cons (pv 2) (pa_cons (pv 3) pa_nil)))))) pss_never pss_nil), ?_⟩
    refine ⟨_, rfl, _, rfl, _, rfl, _, lo, hi, rfl, .inl ⟨i, rfl, _, rfl, ?_⟩⟩
    rw [decide_eq_true h1, decide_eq_true h2]
    exact iteF q
def spNeedL : Sp := fun vs H Q _ => ∃ i : Int, vs = [.int i] ∧ 1 ≤ i ∧ i ≤ 8 ∧ Q .non H
theorem scNeedL : FnScope ["lamps"] ["lamps"] (defScope s_need_lamps) := ⟨rfl, rfl, rfl, by decide +kernel, rfl, by decide +kernel, by decide +kernel⟩
theorem k_needL (T : Tx K mg) : FnK PR w K mg base 4 "need_lamps" ["lamps"] spNeedL :=
  mkK T.g_need_lamps T.f_need_lamps scNeedL (fun vs H Q E h => by obtain ⟨i, rfl, _⟩ := h; rfl) (fun _ _ _ _ _ _ us hl => match us, hl with | [_], _ => rfl) fun cdv A outer s H vs Q E hr h => by
    obtain ⟨i, rfl, h1, h2, q⟩ := h
    obtain ⟨t8, h8⟩ := T.i_MOST_LAMPS_rows
    refine ⟨_, pss_one (ps_expr (pe_f (k_need T) hr passL (pa_cons (pv 0) (pa_cons pe_str (pa_cons pe_int (pa_cons (pe_glob (v := .int 8) rfl h8 ⟨_, rfl⟩) pa_nil)))))), ?_⟩
    exact ⟨_, rfl, _, _, _, _, rfl, h1, h2, q⟩
/-! ### weight_in -/
def spWt : Sp := fun vs H Q _ => ∃ r : Nat, vs = [.int r] ∧ r < 256 ∧ Q (.int (wt 8 r : Nat)) H
theorem scWt : FnScope ["row", "found"] ["row"] (defScope s_weight_in) := ⟨rfl, rfl, rfl, by decide +kernel, rfl, by decide +kernel, by decide +kernel⟩
theorem k_wt (T : Tx K mg) : FnK PR w K mg base 1 "weight_in" ["row"] spWt :=
  mkK T.g_weight_in T.f_weight_in scWt (fun vs H Q E h => by obtain ⟨r, rfl, _⟩ := h; rfl) (fun _ _ _ _ _ _ us hl => match us, hl with | [_], _ => rfl) fun cdv A outer s H vs Q E hr h => by
    obtain ⟨r, rfl, hr', q⟩ := h
    refine ⟨_, pss_cons (ps_set (i := 1) scWt.nd rfl (Or.inl rfl) pe_int)
      (pss_cons (ps_while PassesOwn.never (pt_cmpR op_gt (pv 0) pe_int (nomark _)) (pss_one (ps_par (i := 1) (j := 0) rfl scWt.nd rfl rfl (by decide) rfl rfl (pa_cons (pe_op op_add (pv 1) (pe_op op_mod (pv 0) pe_int)) (pa_cons (pe_op op_fdiv (pv 0) pe_int) pa_nil)) (by rfl))))
      (pss_one (ps_ret (pv 1)))), ?_⟩
    refine ⟨fun m σ H' => ∃ f : Nat, m < 256 ∧ σ = [some (.int (m : Int)), some (.int (f : Int))] ∧ H' = H ∧ f + wt 8 m = wt 8 r, ⟨r, 0, hr', rfl, rfl, Nat.zero_add _⟩, ?_⟩
    rintro x σ H' ⟨f, hx, rfl, rfl, e⟩
    refine ⟨_, rfl, _, _, rfl, rfl, _, rfl, ifB (fun c => ?_) fun c => ?_⟩
    · have c : 0 < x := by have := of_decide_eq_true c; omega
      refine ⟨fun σ H2 => ∃ x' f' : Nat, x' < x ∧ x' < 256 ∧ σ = [some (.int (x' : Int)), some (.int (f' : Int))] ∧ H2 = H' ∧ f' + wt 8 x' = wt 8 r, fun σ' H' ⟨x', f', l1, l2, h1, h2, h3⟩ => ⟨x', l1, f', l2, h1, h2, h3⟩, ?_⟩
      refine ⟨_, rfl, _, rfl, _, _, rfl, rfl, (by decide : (0 : Int) < 2), _, _, rfl, rfl, _, rfl, _, _, rfl, rfl, (⟨by decide, by decide⟩ : (0 : Int) < 2 ∧ (2 : Int) < 1073741824), _, _, rfl, x / 2, f + x % 2, by omega, by omega, ?_, rfl, ?_⟩
      · show [some (V.int ((x : Int) / 2)), some (V.int ((f : Int) + (x : Int) % 2))] = _
        rfl
      · have z := wt_pos x hx c
        omega
    · have z : x = 0 := by have := of_decide_eq_false c; omega
      subst z
      have e0 : wt 8 0 = 0 := by decide
      rw [e0] at e
      exact ⟨_, rfl, by rw [← e] at q; exact q⟩
/-! ### are_unlike -/
def spUn : Sp := fun vs H Q _ => ∃ (a : Addr) (l : List Nat), vs = [.ref a] ∧ LT H a (natV l) ∧ l.Nodup ∧ l.length < 1000 ∧ ∀ H', Same H H' → Q (.bl true) H'
theorem scUn : FnScope ["values", "value"] ["values"] (defScope s_are_unlike) := ⟨rfl, rfl, rfl, by decide +kernel, rfl, by decide +kernel, by decide +kernel⟩
theorem LT.len {K : PySem.W.Frag} {H : Hp} {a : Addr} {xs : List V} (h : LT H a xs) : LenV K (.ref a) H xs.length := h.elim (fun e => .inl ⟨xs, .inl (.inl e), rfl⟩) (fun e => .inr ⟨xs, .inl (.inl e), rfl⟩)
theorem k_un (T : Tx K mg) : FnK PR w K mg base 1 "are_unlike" ["values"] spUn :=
  mkK T.g_are_unlike T.f_are_unlike scUn (fun vs H Q E h => by obtain ⟨a, l, rfl, _⟩ := h; rfl) (fun _ _ _ _ _ _ us hl => match us, hl with | [_], _ => rfl) fun cdv A outer s H vs Q E hr h => by
    obtain ⟨a, l, rfl, ha, hnd, hn, q⟩ := h
    refine ⟨_, pss_one (ps_ret (pe_cmpR op_eq (pe_callB call_lenD rfl T.n_len b_len (pa_cons (pe_dc (own := [("value", 1)]) (g := gName 1) (tt := tYes) rfl scUn.nd (pi_seq (pv 0)) (blkOk_by (N := ["values", "value"]) (sc := defScope s_are_unlike) (by decide +kernel)) (fun _ _ _ _ _ => pg_name (i := 1) scUn.nd rfl (Or.inl rfl)) (fun _ _ _ _ _ => pts_nil) (fun _ _ _ _ _ => pv 1) (fun _ _ _ _ _ => pe_bl)) pa_nil)) (pe_callB call_len rfl T.n_len b_len (pa_cons (pv 0) pa_nil)) (nomark _))), ?_⟩
    dsimp only [tRet, tOp, tCB, tCons, tDc]
    refine iseq_var rfl ha fun J wk => ?_
    intro D hD
    rw [natV_len] at wk
    refine dc_nodup (i0 := 1) wk hD (fun H' s => ha.at_ s) hnd hn (fun x H Q k => k _ rfl rfl) fun H2 kvs s2 e2 hl => ?_
    refine ⟨_, _, rfl, e2, _, rfl, _, _, rfl, (ha.same s2).len, rfl, ?_⟩
    show Q (.bl (decide (V.int (kvs.length : Nat) = V.int ((natV l).length : Nat)))) H2
    rw [natV_len, hl, decide_eq_true rfl]
    exact q _ s2
end
end Kl
set_option maxHeartbeats 4000000
/-! ## are_goals, Table -/
namespace Kl
open PySem PySem.Spec PyProof.Rows L2
/-- what a table's goals are -/
structure GoalsOk (n : Nat) (l : List Nat) : Prop where
  len : l.length = 2 ^ n
  lt : ∀ g ∈ l, g < 2 ^ n
  nd : l.Nodup
  wt : ∀ i g : Nat, l[i]? = some g → wt 8 i = wt 8 g
theorem pow8 {n : Nat} (h : n ≤ 8) : 2 ^ n ≤ 256 := Nat.pow_le_pow_right (by decide) h
theorem shl1 (n : Nat) : (1 : Int) * 2 ^ ((n : Int)).toNat = ((2 ^ n : Nat) : Int) := by
  rw [Int.one_mul]
  show (2 : Int) ^ n = ((2 ^ n : Nat) : Int)
  push_cast
  rfl
theorem cpow1 {n : Nat} (h : n ≤ 1000) : CPow 1 (n : Int) := ⟨Int.natCast_nonneg _, by omega, by decide⟩
theorem reps (n : Nat) : List.replicate (n + 1) (V.bl true) = List.replicate n (V.bl true) ++ [V.bl true] := List.replicate_succ'
theorem reps_map (n : Nat) : List.replicate n (V.bl true) = (List.replicate n true).map V.bl := (List.map_replicate).symm
theorem reps_all (n : Nat) : (List.replicate n true).all id = true := by simp
section
variable {w : World} {K : PySem.W.Frag} {mg : Str → Option Value} {base : Heap}
def spGoals : Sp := fun vs H Q _ => ∃ (n : Nat) (a : Addr) (l : List Nat), vs = [.int n, .ref a] ∧ n ≤ 8 ∧ LT H a (natV l) ∧ GoalsOk n l ∧ ∀ H', Same H H' → Q (.bl true) H'
theorem scGoals : FnScope ["lamps", "value", "goal", "row"] ["lamps", "value"] (defScope s_are_goals) := ⟨rfl, rfl, rfl, by decide +kernel, rfl, by decide +kernel, by decide +kernel⟩
theorem k_goals (T : Tx K mg) : FnK PR w K mg base 3 "are_goals" ["lamps", "value"] spGoals :=
  mkK T.g_are_goals T.f_are_goals scGoals (fun vs H Q E h => by obtain ⟨n, a, l, rfl, _⟩ := h; rfl) (fun _ _ _ _ _ _ us hl => match us, hl with | [_, _], _ => rfl) fun cdv A outer s H vs Q E hr h => by
    obtain ⟨n, a, l, rfl, hn, ha, G, q⟩ := h
    have hr1 : Room 1 _ := hr.mono (by decide)
    refine ⟨_, pss_cons (ps_if (PW.pt (pw_or (pt_not (pt_val (pe_f (k_islist T) hr1 passL (pa_cons (pv 1) pa_nil)))) (pw_or1 (pt_cmpR op_ne (pe_callB call_len rfl T.n_len b_len (pa_cons (pv 1) pa_nil)) (pe_op op_shl pe_int (pv 0)) (nomark _))))) pss_never pss_nil)
      (pss_cons (ps_if (pt_not (pt_val (pe_callB (cr_all rfl) rfl T.n_all b_all (pa_cons (pe_lc (own := [("goal", 2)]) (g := gName 2) (tt := tYes) rfl scGoals.nd (pi_seq (pv 1)) (blkOk_by (N := ["lamps", "value", "goal", "row"]) (sc := defScope s_are_goals) (by decide +kernel)) (fun _ _ _ _ _ => pg_name (i := 2) scGoals.nd rfl (Or.inl rfl)) (fun _ _ _ _ _ => pts_nil)
          (fun _ _ _ _ _ => pe_f (k_within T) hr passL (pa_cons (pv 2) (pa_cons pe_int (pa_cons (pe_op op_sub (pe_callB (r := rLen K) call_len rfl T.n_len b_len (pa_cons (pv 1) pa_nil)) pe_int) pa_nil))))) pa_nil)))) pss_never pss_nil)
      (pss_one (ps_ret (pe_and (pe_f (k_un T) hr1 passL (pa_cons (pv 1) pa_nil)) (pe_one (pe_callB (cr_all rfl) rfl T.n_all b_all (pa_cons (pe_lc (own := [("row", 3), ("goal", 2)]) (g := gTup K 2 (gCons (gName 3) (gCons (gName 2) gNil))) (tt := tYes) rfl scGoals.nd (pi_enumS rfl T.n_enumerate (pa_cons (pv 1) pa_nil)) (blkOk_by (N := ["lamps", "value", "goal", "row"]) (sc := defScope s_are_goals) (by decide +kernel))
          (fun _ _ _ _ _ => pg_tup rfl (pgs_cons (pg_name (i := 3) scGoals.nd rfl (Or.inl rfl)) (pgs_cons (pg_name (i := 2) scGoals.nd rfl (Or.inl rfl)) pgs_nil))) (fun _ _ _ _ _ => pts_nil)
          (fun _ _ _ _ _ => pe_cmpR op_eq (pe_f (k_wt T) hr1 passL (pa_cons (pv 3) pa_nil)) (pe_f (k_wt T) hr1 passL (pa_cons (pv 2) pa_nil)) (nomark _))) pa_nil))))))), ?_⟩
    have h28 := pow8 hn
    -- the tests
    refine ⟨_, rfl, a, natV l, rfl, ha, fun H1 s1 => ⟨true, rfl, ?_⟩⟩
    have ha1 := ha.same s1
    refine ⟨_, rfl, _, _, rfl, ha1.len, _, rfl, _, _, rfl, rfl, cpow1 (by omega), rfl, ?_⟩
    refine ⟨_, rfl, ?_⟩
    have e1 : decide (V.int ((natV l).length : Nat) = V.int ((1 : Int) * 2 ^ ((n : Int)).toNat)) = true := by
      rw [shl1, natV_len, G.len]
      exact decide_eq_true rfl
    rw [e1]
    refine iteF ?_
    -- all within
    dsimp only [tSeq, tIfS, tNext, tNot, tB]
    refine cb_lc (lc_seq rfl ha1 (fun i => List.replicate i (.bl true)) rfl (fun D hD i x H2 hx hi p => ?_) (fun D H2 hD s2 e2 => ?_))
    · obtain ⟨z, hz, rfl⟩ := natV_at hx
      have hzl := G.lt z (List.mem_of_getElem? hz)
      refine ⟨rfl, yes_if ?_⟩
      refine ⟨_, rfl, _, rfl, _, _, rfl, (ha1.same p.1).len, _, _, rfl, rfl, _, _, _, rfl, .inl ⟨_, rfl, ?_⟩⟩
      have e : (decide ((0 : Int) ≤ (z : Int)) && decide ((z : Int) ≤ (((natV l).length : Nat) : Int) - 1)) = true := by
        rw [natV_len, G.len, decide_eq_true (by omega), decide_eq_true (by omega)]
        rfl
      rw [e]
      exact acc_yes p hD (by rw [List.length_replicate]; rw [natV_len, G.len] at hi; omega) (Same.refl _) (reps i)
    · refine ⟨D, _, rfl, .inl (.inl (by rw [e2, reps_map])), _, rfl, ?_⟩
      rw [reps_all]
      refine iteF ?_
      have ha2 := ha1.same s2
      refine ⟨_, rfl, a, l, rfl, ha2, G.nd, by rw [G.len]; omega, fun H3 s3 => ⟨true, rfl, iteT ?_⟩⟩
      have ha3 := ha2.same s3
      refine cb_lc (lc_enum rfl ha3 (fun i => List.replicate i (.bl true)) rfl (fun D3 hD3 i x H4 P hx hi p nP => ?_) (fun D3 H4 hD3 s4 e4 => ?_))
      · obtain ⟨z, hz, rfl⟩ := natV_at hx
        have hzl := G.lt z (List.mem_of_getElem? hz)
        have hil : i < 256 := by rw [natV_len, G.len] at hi; omega
        refine ⟨P, _, rfl, .inl (.inl upd_same), rfl, _, _, rfl, _, _, rfl, rfl, rfl, yes_if ?_⟩
        refine ⟨_, rfl, i, rfl, hil, _, rfl, z, rfl, by omega, rfl, ?_⟩
        rw [G.wt i z hz, decide_eq_true rfl]
        exact acc_yes p hD3 (by rw [List.length_replicate]; rw [natV_len, G.len] at hi; omega) (same_new nP) (reps i)
      · refine ⟨D3, _, rfl, .inl (.inl (by rw [e4, reps_map])), ?_⟩
        rw [reps_all]
        exact q _ (s1.trans (s2.trans (s3.trans s4)))
end
end Kl
set_option maxHeartbeats 4000000
/-! ## Table -/
namespace Kl
open PySem PySem.Spec PyProof.Rows L2
/-- a def or a method, at an address -/
structure FnF (P : Program) (w : World) (K : PySem.W.Frag) (mg : Str → Option Value) (base : Heap) (k : Nat) (f : Addr) (ps : List Str) (sp : Sp) : Prop where
  ok : ∃ fd, FnOk P w K mg base (L2.CX P w) k f fd ps sp ∧ Binds K fd ps []
theorem mkF {P : Program} {w : World} {K : PySem.W.Frag} {mg : Str → Option Value} {base : Heap} {x q : Str} {st : Stmt} {f : Addr} {N ps : List Str} {k : Nat} {sp : Sp} (F : FD K x q st f []) (S : FnScope N ps (defScope st)) (len : ∀ vs H Q E, sp vs H Q E → vs.length = ps.length)
    (b : ∀ (kV doc pm : Value) (an : Option Addr) (cdv ct : Value) (us : List Value), us.length = ps.length → bindArgs (PySem.W.fnOf x q (defArgs st) (defBody st) (defScope st) .none kV doc pm an cdv ct) ⟨us, []⟩ = pure (ps.zip us))
    (hbody : ∀ (cdv : Value) (A : Around) (outer : List Env) (s : Shared) (H : Hp) (vs : List V) (Q : VK) (E : XK), Room k (A.deeper (envOfC q (defScope st) s.heap.objs.size f cdv)) → sp vs H Q E →
      ∃ t, PSs (cxOf (L2.CX P w) P w K mg base N q (defScope st) f cdv A outer s H E).nox (defBody st) t ∧ t { nx := fun _ H' => Q .non H', rt := Q } (start N vs) H) : FnF P w K mg base (k + 1) f ps sp := by
  obtain ⟨fd, F⟩ := F
  exact ⟨fd, okN F S len hbody, F.bindsN b⟩
/-- C(e, ..) -/
theorem pe_mk {X : Cx} {k : Nat} {C f : Addr} {x : Str} {ps : List Str} {sp : Sp} {E : XK} {p pos : Pos} {e : Expr} {es : List Expr} {t : TA} (F : FnF X.prog X.w X.K X.mg X.base k f ps sp) (M : Mk X.K C f) (hm : X.mg x = some (.ref C)) (hr : Room (k + 1) X.A) (hx : Passes (L2.CX X.prog X.w) X E) (ha : PA X (e :: es) t) (hg : Gl X x := by rfl)
    (hdb : (x == ("__debug__" : Str)) = false := by decide) (he : starEach (e :: es) X.env = (false, eval e X.env) :: starEach es X.env := by rfl) (hpl : (backTo pos (starEach es X.env)).any (·.1) = false := by rfl) :
    PE X (.Call (.Name x p) (e :: es) [] pos) (tMake C sp [] E t) := by
  obtain ⟨fd, F1, b⟩ := F.ok
  exact pe_make M F1 hr hg hm b .nil hx ha hdb he hpl
/-- the table at p -/
def TabF (n : Nat) (t : Addr) : List (Str × V) := [("lamps", .int n), ("goals", .ref t)]
def TableAt (C : Addr) (H : Hp) (p : Addr) (n : Nat) (l : List Nat) : Prop := ∃ dx t, H p = some (.ins C dx (TabF n t)) ∧ H t = some (.tup (natV l))
theorem TableAt.same {C : Addr} {H H' : Hp} {p : Addr} {n : Nat} {l : List Nat} (h : TableAt C H p n l) (s : Same H H') : TableAt C H' p n l := by
  obtain ⟨dx, t, h1, h2⟩ := h
  exact ⟨dx, t, s _ _ h1, s _ _ h2⟩
theorem lk_here {k : Str} {v : V} {r : List (Str × V)} : List.lookup k ((k, v) :: r) = some v := by
  have e : (k == k) = true := beq_self_eq_true k
  simp only [List.lookup, e]
theorem lk_past {k g : Str} {v : V} {r : List (Str × V)} (h : (k == g) = false) : List.lookup k ((g, v) :: r) = List.lookup k r := by
  simp only [List.lookup, h]
theorem put_here {f : Str} {v x : V} {r : List (Str × V)} : putF f v ((f, x) :: r) = (f, v) :: r := if_pos rfl
theorem put_past {f g : Str} {v x : V} {r : List (Str × V)} (h : ¬ g = f) : putF f v ((g, x) :: r) = (g, x) :: putF f v r := if_neg h
theorem tabF_lamps (n : Nat) (t : Addr) : (TabF n t).lookup ("lamps" : Str) = some (.int n) := lk_here
theorem tabF_goals (n : Nat) (t : Addr) : (TabF n t).lookup ("goals" : Str) = some (.ref t) := (lk_past (by decide +kernel)).trans lk_here
theorem tabF_new (n : Nat) (t : Addr) : putF "goals" (.ref t) (putF "lamps" (.int n) []) = TabF n t := (put_past (by decide +kernel)).trans rfl
section
variable {w : World} {K : PySem.W.Frag} {mg : Str → Option Value} {base : Heap}
def spTinit (C : Addr) : Sp := fun vs H Q _ => ∃ (p dx : Addr) (n : Nat) (a : Addr) (l : List Nat), vs = [.ref p, .int n, .ref a] ∧ H p = some (.ins C dx []) ∧ 1 ≤ n ∧ n ≤ 8 ∧ LT H a (natV l) ∧ GoalsOk n l ∧
  ∀ H', TableAt C H' p n l → (∀ b o, H b = some o → b ≠ p → H' b = some o) → Q .non H'
theorem scTinit : FnScope ["self", "lamps", "goals"] ["self", "lamps", "goals"] (defScope s_Tinit) := ⟨rfl, rfl, rfl, by decide +kernel, rfl, by decide +kernel, by decide +kernel⟩
theorem f_tinit (T : Tx K mg) : FnF PR w K mg base 5 (He.ma K (He.ga K "Table") "__init__") ["self", "lamps", "goals"] (spTinit (He.ga K "Table")) :=
  mkF T.f_Tinit scTinit (fun vs H Q E h => by obtain ⟨p, dx, n, a, l, rfl, _⟩ := h; rfl) (fun _ _ _ _ _ _ us hl => match us, hl with | [_, _, _], _ => rfl) fun cdv A outer s H vs Q E hr h => by
    obtain ⟨p, dx, n, a, l, rfl, hp, n1, n8, ha, G, q⟩ := h
    have hr3 : Room 3 _ := hr.mono (by decide)
    refine ⟨_, pss_cons (ps_expr (pe_f (k_needL T) hr passL (pa_cons (pv 1) pa_nil)))
      (pss_cons (ps_if (pt_not (pt_val (pe_f (k_goals T) hr3 passL (pa_cons (pv 1) (pa_cons (pv 2) pa_nil))))) pss_never pss_nil)
      (pss_cons (ps_fld (pv 0) (pv 1) rfl) (pss_one (ps_fld (pv 0) (pe_tupleOf rfl T.n_tuple (pv 2)) rfl)))), ?_⟩
    refine ⟨_, rfl, _, rfl, by omega, by omega, ?_⟩
    refine ⟨_, rfl, _, rfl, n, a, l, rfl, n8, ha, G, fun H1 s1 => ⟨true, rfl, iteF ?_⟩⟩
    have hp1 := s1 _ _ hp
    have ha1 := ha.same s1
    have pa : a ≠ p := fun z => by
      rw [z] at ha1
      rcases ha1 with e | e <;> rw [hp1] at e <;> cases e
    refine ⟨_, rfl, _, rfl, p, _, dx, [], rfl, hp1, T.c_Table, T.no_Table_lamps, by decide, ?_⟩
    refine ⟨_, rfl, ?_⟩
    rcases ha1 with e | e
    · refine .inl ⟨a, natV l, rfl, .inl (.inl ((upd_ne pa).trans e)), fun t ht => ?_⟩
      have tp : t ≠ p := fun z => by
        rw [z, upd_same] at ht
        cases ht
      refine ⟨_, rfl, p, _, dx, _, rfl, (upd_ne (Ne.symm tp)).trans upd_same, T.c_Table, T.no_Table_goals, (by show 1 < 1000; decide), ?_⟩
      refine q _ ⟨dx, t, upd_same.trans (congrArg (fun q => some (HO.ins _ dx q)) (tabF_new n t)), by rw [upd_ne tp, upd_same]⟩ fun b o e hb => ?_
      have nt : b ≠ t := fun z => by
        rw [upd_ne tp] at ht
        rw [z] at e
        have := s1 _ _ e
        rw [ht] at this
        cases this
      rw [upd_ne hb, upd_ne nt, upd_ne hb]
      exact s1 _ _ e
    · refine .inr ⟨a, natV l, rfl, .inl (.inl ((upd_ne pa).trans e)), ?_⟩
      refine ⟨_, rfl, p, _, dx, _, rfl, upd_same, T.c_Table, T.no_Table_goals, (by show 1 < 1000; decide), ?_⟩
      refine q _ ⟨dx, a, upd_same.trans (congrArg (fun q => some (HO.ins _ dx q)) (tabF_new n a)), by rw [upd_ne pa, upd_ne pa]; exact e⟩ fun b o e hb => ?_
      rw [upd_ne hb, upd_ne hb]
      exact s1 _ _ e
/-! ### == of two tables that are the same -/
theorem isi_own {H : Hp} {a : Addr} {dx : Addr} {fs : List (Str × V)} {x : Str} (T : Tx K mg) (hx : x ∈ asked) (c : Cls K (He.ga K x)) (h : H a = some (.ins (He.ga K x) dx fs)) : TyX K H (.ref a) (.ref (He.ga K x)) :=
  .base (.ins h c (T.cl x hx).1 T.sp.1 T.sp.2 (T.cl x hx).2)
theorem dp_tup {H : Hp} {t : Addr} {l : List Nat} (h : H t = some (.tup (natV l))) : Dp K H (.ref t) (.tuple ((l.map fun n : Nat => (n : Int)).map PyData.int)) := .tup (.inl (.inl (h.trans (by rw [natV_int])))) (dpAll_ints _)
theorem shaped_tup (ns : List Int) : SeqAt.shaped (.tuple (ns.map PyData.int)) = true := by
  have h1 := ints_depth ns
  have h2 : PyData.depth (.tuple (ns.map PyData.int)) ≤ 64 := by simp only [PyData.depth]; omega
  have h3 : PyData.canLayAll0 (ns.map PyData.int) = true := by
    clear h1 h2
    induction ns with
    | nil => simp [PyData.canLayAll0]
    | cons n r ih => simp only [List.map_cons, PyData.canLayAll0, PyData.canLay0, ih, Bool.and_self]
  show (PyData.canLay0 (.tuple (ns.map PyData.int)) && decide (PyData.depth (.tuple (ns.map PyData.int)) ≤ 64)) = true
  rw [decide_eq_true h2, Bool.and_true, PyData.canLay0]
  exact h3
def spTeq (C : Addr) : Sp := fun vs H Q _ => ∃ (p p2 : Addr) (n : Nat) (l : List Nat), vs = [.ref p, .ref p2] ∧ TableAt C H p n l ∧ TableAt C H p2 n l ∧ Q (.bl true) H
theorem scTeq : FnScope ["self", "other"] ["self", "other"] (defScope s_Teq) := ⟨rfl, rfl, rfl, by decide +kernel, rfl, by decide +kernel, by decide +kernel⟩
theorem f_teq (T : Tx K mg) : FnF PR w K mg base 1 (He.ma K (He.ga K "Table") "__eq__") ["self", "other"] (spTeq (He.ga K "Table")) :=
  mkF T.f_Teq scTeq (fun vs H Q E h => by obtain ⟨p, p2, n, l, rfl, _⟩ := h; rfl) (fun _ _ _ _ _ _ us hl => match us, hl with | [_, _], _ => rfl) fun cdv A outer s H vs Q E hr h => by
    obtain ⟨p, p2, n, l, rfl, ⟨dx, t, h1, h2⟩, ⟨dx', t', h3, h4⟩, q⟩ := h
    refine ⟨_, pss_cons (ps_if (pt_not (pt_val (pe_callB call_isi rfl T.n_isinstance b_isi (pa_cons (pv 1) (pa_cons (pe_glob (v := .ref (He.ga K "Table")) rfl T.g_Table rfl) pa_nil))))) pss_never pss_nil)
      (pss_one (ps_ret (pe_callTy call_bool1 rfl T.n_bool b_bool (pa_cons (pe_and (pe_cmpR op_eq (pe_fld (pv 0) rfl) (pe_fld (pv 1) rfl) (nomark _)) (pe_one (pe_cmpR (op_eqD hr.units) (pe_fld (pv 0) rfl) (pe_fld (pv 1) rfl) (nomark _)))) pa_nil)))), ?_⟩
    refine ⟨_, rfl, _, _, _, _, true, rfl, .own _, isi_own T (x := "Table") (by decide) T.c_Table h3, T.kc ("Table", "Table", true) (by decide), true, rfl, iteF ?_⟩
    refine ⟨_, rfl, p, _, dx, _, _, rfl, h1, T.c_Table, T.no_Table_lamps, tabF_lamps n t, _, rfl, p2, _, dx', _, _, rfl, h3, T.c_Table, T.no_Table_lamps, tabF_lamps n t', rfl, _, rfl, ?_⟩
    rw [decide_eq_true rfl]
    refine iteT ?_
    refine ⟨_, rfl, p, _, dx, _, _, rfl, h1, T.c_Table, T.no_Table_goals, tabF_goals n t, _, rfl, p2, _, dx', _, _, rfl, h3, T.c_Table, T.no_Table_goals, tabF_goals n t', _, _, dp_tup h2, dp_tup h4, shaped_tup _, shaped_tup _, ?_⟩
    refine .inr ⟨_, rfl, ?_⟩
    rw [SeqAt.eqv_refl _ (SeqAt.canLay_of_shaped (shaped_tup _))]
    exact q
end
end Kl
set_option maxHeartbeats 4000000
/-! ## Gates in the heap; kept_gate -/
namespace Kl
open PySem PySem.Spec PyProof.Rows L2
theorem hu65 {A : Around} {k : Nat} (hr : Room k A) : A.units + 65 < cLine := by
  have := hr.un
  omega
/-- the gate gt lies at g -/
def GateAt (H : Hp) (g : Addr) (gt : G) : Prop := ∃ h, H g = some (.tup [.ref h, .int (gt.2.1 : Nat), .int (gt.2.2 : Nat)]) ∧ H h = some (.tup (natV gt.1))
theorem GateAt.same {H H' : Hp} {g : Addr} {gt : G} (h : GateAt H g gt) (s : Same H H') : GateAt H' g gt := by
  obtain ⟨a, h1, h2⟩ := h
  exact ⟨a, s _ _ h1, s _ _ h2⟩
theorem natV_app (a b : List Nat) : natV (a ++ b) = natV a ++ natV b := List.map_append
theorem sort_same {l : List Nat} (hl : l.Pairwise (· < ·)) {ns : List Int} (hp : ns.Perm (l.map fun n : Nat => (n : Int))) (hs : ns.Pairwise (· ≤ ·)) : ns = l.map fun n : Nat => (n : Int) := by
  refine List.Perm.eq_of_pairwise (le := fun a b : Int => a ≤ b) (fun a b _ _ h1 h2 => Int.le_antisymm h1 h2) hs ?_ hp
  rw [List.pairwise_map]
  exact hl.imp fun h => by omega
/-- what touched holds -/
theorem touched_nd {n : Nat} {gt : G} (k : Ok n gt) : (gt.1 ++ [gt.2.1, gt.2.2]).Nodup := by
  rw [List.nodup_append]
  refine ⟨k.nd.imp fun h => Nat.ne_of_lt h, ?_, ?_⟩
  · have := k.lt
    simp
    omega
  · intro a ha b hb
    have z := k.hands a ha
    rcases List.mem_cons.mp hb with e | e
    · rw [e]; exact z.2.1
    · rw [List.mem_singleton.mp e]; exact z.2.2
theorem touched_lt {n : Nat} {gt : G} (k : Ok n gt) : ∀ x ∈ gt.1 ++ [gt.2.1, gt.2.2], x < n := fun x hx => by
  rcases List.mem_append.mp hx with h | h
  · exact (k.hands x h).1
  · rcases List.mem_cons.mp h with e | e
    · rw [e]; exact k.one
    · rw [List.mem_singleton.mp e]; exact k.other
theorem nodup_len : ∀ {n : Nat} {l : List Nat}, l.Nodup → (∀ x ∈ l, x < n) → l.length ≤ n
  | 0, l, _, hl => by
    cases l with
    | nil => exact Nat.le_refl _
    | cons a r => exact absurd (hl a List.mem_cons_self) (Nat.not_lt_zero _)
  | n + 1, l, h, hl => by
    have z := nodup_len (n := n) (h.erase n) fun x hx => by
      have q := (h.mem_erase_iff).mp hx
      have := hl x q.2
      have := q.1
      omega
    have e := List.length_erase (a := n) (l := l)
    split at e <;> omega
section
variable {w : World} {K : PySem.W.Frag} {mg : Str → Option Value} {base : Heap}
def spKept : Sp := fun vs H Q _ => ∃ (n : Nat) (g : Addr) (gt : G), vs = [.int n, .ref g] ∧ n ≤ 8 ∧ GateAt H g gt ∧ Ok n gt ∧ ∀ H' p, Same H H' → H p = none → GateAt H' p gt → Q (.ref p) H'
theorem scKept : FnScope ["lamps", "value", "hands", "one", "other", "touched", "each"] ["lamps", "value"] (defScope s_kept_gate) := ⟨rfl, rfl, rfl, by decide +kernel, rfl, by decide +kernel, by decide +kernel⟩
theorem k_kept (T : Tx K mg) : FnK PR w K mg base 3 "kept_gate" ["lamps", "value"] spKept :=
  mkK T.g_kept_gate T.f_kept_gate scKept (fun vs H Q E h => by obtain ⟨n, g, gt, rfl, _⟩ := h; rfl) (fun _ _ _ _ _ _ us hl => match us, hl with | [_, _], _ => rfl) fun cdv A outer s H vs Q E hr h => by
    obtain ⟨n, g, gt, rfl, hn, ⟨a, hg, ha⟩, k, q⟩ := h
    have hr1 : Room 1 _ := hr.mono (by decide)
    refine ⟨_, pss_cons (ps_if (PW.pt (pw_or (pt_not (pt_val (pe_f (k_islist T) hr1 passL (pa_cons (pv 1) pa_nil)))) (pw_or (pt_cmpR op_ne (pe_callB call_len rfl T.n_len b_len (pa_cons (pv 1) pa_nil)) pe_int (nomark _)) (pw_or1 (pt_not (pt_val (pe_f (k_islist T) hr1 passL (pa_cons (pe_ix ix_seq (pv 1) pe_int fun _ _ => rfl) pa_nil)))))))) pss_never pss_nil)
      (pss_cons (ps_asg (pv 1) (pg_tup rfl (pgs_cons (pg_name (i := 2) scKept.nd rfl (Or.inl rfl)) (pgs_cons (pg_name (i := 3) scKept.nd rfl (Or.inl rfl)) (pgs_cons (pg_name (i := 4) scKept.nd rfl (Or.inl rfl)) pgs_nil)))))
      (pss_cons (ps_set (i := 5) scKept.nd rfl (Or.inl rfl) (pe_lst (StX.pa_star (pv 2) (pa_cons (pv 3) (pa_cons (pv 4) pa_nil)))))
      (pss_cons (ps_if (PW.pt (pw_or (pt_not (pt_val (pe_callB (cr_all rfl) rfl T.n_all b_all (pa_cons (pe_lc (own := [("each", 6)]) (g := gName 6) (tt := tYes) rfl scKept.nd (pi_list (pv 5)) (blkOk_by (N := ["lamps", "value", "hands", "one", "other", "touched", "each"]) (sc := defScope s_kept_gate) (by decide +kernel)) (fun _ _ _ _ _ => pg_name (i := 6) scKept.nd rfl (Or.inl rfl)) (fun _ _ _ _ _ => pts_nil)
          (fun _ _ _ _ _ => pe_f (k_within T) hr passL (pa_cons (pv 6) (pa_cons pe_int (pa_cons (pe_op op_sub (pv 0) pe_int) pa_nil))))) pa_nil)))) (pw_or1 (pt_not (pt_val (pe_f (k_un T) hr1 passL (pa_cons (pv 5) pa_nil))))))) pss_never pss_nil)
      (pss_one (ps_ret (pe_tup (pa_cons (pe_tupleOf rfl T.n_tuple (pe_callB cr_sortTup rfl T.n_sorted b_sorted (pa_cons (pv 2) pa_nil))) (pa_cons (pe_callB (call_min2 rfl) rfl T.n_min b_min (pa_cons (pv 3) (pa_cons (pv 4) pa_nil))) (pa_cons (pe_callB (call_max2 rfl) rfl T.n_max b_max (pa_cons (pv 3) (pa_cons (pv 4) pa_nil))) pa_nil))))))))), ?_⟩
    -- the first test
    refine ⟨_, rfl, g, _, rfl, .inr hg, fun H1 s1 => ⟨true, rfl, ?_⟩⟩
    refine ⟨_, rfl, _, _, rfl, .inr ⟨_, .inl (.inl (s1 _ _ hg)), rfl⟩, rfl, _, rfl, iteF ?_⟩
    refine ⟨_, rfl, .inr (.inl ⟨g, _, 0, .ref a, rfl, rfl, .inl (.inl (s1 _ _ hg)), rfl, ?_⟩)⟩
    refine ⟨a, _, rfl, .inr (s1 _ _ ha), fun H2 s2 => ⟨true, rfl, iteF ?_⟩⟩
    have s12 := s1.trans s2
    have hg2 := s12 _ _ hg
    have ha2 := s12 _ _ ha
    -- hands, one, other
    refine ⟨_, rfl, g, _, rfl, .inl (.inl hg2), rfl, _, _, rfl, _, _, rfl, _, _, rfl, rfl, ?_⟩
    -- touched
    refine ⟨_, rfl, a, natV gt.1, rfl, .inl (.inl (.inl ha2)), _, rfl, _, rfl, ?_⟩
    have tl := nodup_len (touched_nd k) (touched_lt k)
    refine ⟨?_, fun t ht => ?_⟩
    · rw [List.length_append] at tl
      show (natV gt.1 ++ [V.int (gt.2.1 : Nat), V.int (gt.2.2 : Nat)]).length ≤ sizeLine
      rw [List.length_append, natV_len]
      exact small64 (by simp at tl ⊢; omega)
    have et : natV gt.1 ++ [V.int (gt.2.1 : Nat), V.int (gt.2.2 : Nat)] = natV (gt.1 ++ [gt.2.1, gt.2.2]) := (natV_app gt.1 [gt.2.1, gt.2.2]).symm
    rw [et]
    generalize hT : gt.1 ++ [gt.2.1, gt.2.2] = tch at tl
    have s3 : Same H2 (upd H2 t (.lst (natV tch))) := same_new ht
    generalize hH3 : upd H2 t (.lst (natV tch)) = H3 at s3
    have htt : H3 t = some (.lst (natV tch)) := by rw [← hH3, upd_same]
    dsimp only [gName, tSeq, tIfS, tOr, tNot, tB]
    refine cb_lc (lc_lst rfl htt (fun i => List.replicate i (.bl true)) rfl (fun D hD i x H4 hx hi p => ?_) (fun D H4 hD s4 e4 => ?_))
    · obtain ⟨z, hz, rfl⟩ := natV_at hx
      have hzl : z < n := touched_lt k z (by rw [hT]; exact List.mem_of_getElem? hz)
      refine ⟨rfl, yes_if ?_⟩
      refine ⟨_, rfl, _, rfl, _, _, rfl, rfl, _, _, _, rfl, .inl ⟨_, rfl, ?_⟩⟩
      rw [decide_eq_true (by omega : (0 : Int) ≤ (z : Int)), decide_eq_true (by omega : (z : Int) ≤ (n : Int) - 1)]
      exact acc_yes p hD (by rw [List.length_replicate]; rw [natV_len] at hi; omega) (Same.refl _) (reps i)
    · refine ⟨D, _, rfl, .inl (.inl (by rw [e4, reps_map])), _, rfl, ?_⟩
      rw [reps_all]
      refine iteF ?_
      refine ⟨_, rfl, t, tch, rfl, .inl (s4 _ _ htt), by rw [← hT]; exact touched_nd k, by omega, fun H5 s5 => ⟨true, rfl, iteF ?_⟩⟩
      have s25 := s3.trans (s4.trans s5)
      have ha5 := s25 _ _ ha2
      refine ⟨_, rfl, a, gt.1.map (fun n : Nat => (n : Int)), rfl, .inl (.inl (ha5.trans (by rw [natV_int]))), ?_, fun ns p hp hs hnp => ?_⟩
      · have z := nodup_len (k.nd.imp fun h => Nat.ne_of_lt h) (fun x hx => (k.hands x hx).1)
        rw [List.length_map]
        omega
      have ens := sort_same k.nd hp hs
      subst ens
      refine .inl ⟨p, _, rfl, .inl (.inl upd_same), fun u hu => ?_⟩
      have hup : u ≠ p := fun z => by
        rw [z, upd_same] at hu
        cases hu
      rw [upd_ne hup] at hu
      refine ⟨_, rfl, _, rfl, _, _, rfl, _, rfl, _, rfl, _, _, rfl, by show 3 ≤ sizeLine; decide, fun v hv => ?_⟩
      have lt := k.lt
      rw [if_neg (by omega : ¬ ((gt.2.2 : Int) < (gt.2.1 : Int))), if_pos (by omega : ((gt.2.2 : Int) > (gt.2.1 : Int)))]
      have hvu : v ≠ u := fun z => by
        rw [z, upd_same] at hv
        cases hv
      have hvp : v ≠ p := fun z => by
        rw [z, upd_ne (Ne.symm hup), upd_same] at hv
        cases hv
      have hv5 : H5 v = none := by
        rw [upd_ne hvu, upd_ne hvp] at hv
        exact hv
      have s5v : Same H5 (upd (upd (upd H5 p (.lst ((gt.1.map fun n : Nat => (n : Int)).map V.int))) u (.tup ((gt.1.map fun n : Nat => (n : Int)).map V.int))) v (.tup [.ref u, .int (gt.2.1 : Nat), .int (gt.2.2 : Nat)])) := same_upd (same_upd (same_new hnp) hu) hv5
      have sA := s12.trans (s25.trans s5v)
      refine q _ v sA ((s12.trans s25).free hv5) ⟨u, upd_same, ?_⟩
      rw [upd_ne (Ne.symm hvu), upd_same, natV_int]
end
end Kl
set_option maxHeartbeats 4000000
/-! ## Wiring -/
namespace Kl
open PySem PySem.Spec PyProof.Rows L2
abbrev dg (n : Nat) : Str := toString (n : Int)
theorem dg_len : ∀ n < 8, (dg n).length = 1 := by decide +kernel
theorem dg_log : ∀ n : Nat, n < 8 → ((n : Int)).natAbs.log2 < 1920 := by decide +kernel
theorem join_len (y : Str) : ∀ ps : List Str, (Txt.join y ps).length ≤ (ps.map (·.length)).sum + ps.length * y.length := fun ps => by
  rw [TL.join_eq]
  induction ps with
  | nil => exact Nat.zero_le _
  | cons x r ih =>
    cases r with
    | nil =>
      show x.length ≤ _
      simp
    | cons z r =>
      show (x ++ y ++ Str.join y (z :: r)).length ≤ _
      rw [Str.length_append, Str.length_append]
      simp only [List.map_cons, List.sum_cons, List.length_cons] at ih ⊢
      have e : (r.length + 1 + 1) * y.length = (r.length + 1) * y.length + y.length := Nat.succ_mul _ _
      omega
section
variable {w : World} {K : PySem.W.Frag} {mg : Str → Option Value} {base : Heap}
/-! ### gate_text: some text -/
def spText : Sp := fun vs H Q _ => ∃ (g : Addr) (gt : G), vs = [.ref g] ∧ GateAt H g gt ∧ Ok 8 gt ∧ ∀ H' z, Same H H' → Str.length z ≤ 100 → Q (.str z) H'
theorem scText : FnScope ["gate", "hands", "one", "other", "hand"] ["gate"] (defScope s_gate_text) := ⟨rfl, rfl, rfl, by decide +kernel, rfl, by decide +kernel, by decide +kernel⟩
theorem k_text (T : Tx K mg) : FnK PR w K mg base 1 "gate_text" ["gate"] spText :=
  mkK T.g_gate_text T.f_gate_text scText (fun vs H Q E h => by obtain ⟨g, gt, rfl, _⟩ := h; rfl) (fun _ _ _ _ _ _ us hl => match us, hl with | [_], _ => rfl) fun cdv A outer s H vs Q E hr h => by
    obtain ⟨g, gt, rfl, ⟨a, hg, ha⟩, k, q⟩ := h
    obtain ⟨tc, hc⟩ := T.s_COLON
    refine ⟨_, pss_cons (ps_asg (pv 0) (pg_tup rfl (pgs_cons (pg_name (i := 1) scText.nd rfl (Or.inl rfl)) (pgs_cons (pg_name (i := 2) scText.nd rfl (Or.inl rfl)) (pgs_cons (pg_name (i := 3) scText.nd rfl (Or.inl rfl)) pgs_nil)))))
      (pss_one (ps_ret (pe_op op_add_str (pe_join pe_str (pe_lc (own := [("hand", 4)]) (g := gName 4) (tt := tYes) rfl scText.nd (pi_seq (pv 1)) (blkOk_by (N := ["gate", "hands", "one", "other", "hand"]) (sc := defScope s_gate_text) (by decide +kernel)) (fun _ _ _ _ _ => pg_name (i := 4) scText.nd rfl (Or.inl rfl)) (fun _ _ _ _ _ => pts_nil)
          (fun _ _ _ _ _ => pe_callTy call_str_int rfl T.n_str b_str (pa_cons (pv 4) pa_nil))))
        (pe_joined (.cons (pe_fmt (pe_glob (v := .str ":") rfl hc ⟨_, rfl⟩)) (.cons (pe_fmt (pv 2)) (.cons (pe_fmt (pv 3)) .nil))))))), ?_⟩
    have ghl : ∀ x ∈ gt.1, x < 8 := fun x hx => (k.hands x hx).1
    have gln := nodup_len (k.nd.imp fun h => Nat.ne_of_lt h) ghl
    refine ⟨_, rfl, g, _, rfl, .inl (.inl hg), rfl, _, _, rfl, _, _, rfl, _, _, rfl, rfl, ?_⟩
    refine ⟨⟨_, rfl⟩, ?_⟩
    refine lc_seq rfl (.inr ha) (fun i => (gt.1.take i).map fun n : Nat => V.str (dg n)) rfl (fun D hD i x H2 hx hi p => ?_) (fun D H2 hD s2 e2 => ?_)
    · obtain ⟨z, hz, rfl⟩ := natV_at hx
      have hz8 := ghl z (List.mem_of_getElem? hz)
      refine ⟨rfl, yes_if ⟨_, rfl, _, rfl, dg_log z hz8, ?_⟩⟩
      exact acc_yes p hD (by have := map_take_len (l := gt.1) (f := fun n : Nat => V.str (dg n)) i; omega) (Same.refl _) (map_take hz)
    · rw [natV_len, List.take_length] at e2
      have hsum : ((gt.1.map dg).map (·.length)).sum ≤ 8 := by
        have e : (gt.1.map dg).map (·.length) = gt.1.map fun _ => 1 := by
          rw [List.map_map]
          exact List.map_congr_left fun x hx => dg_len x (ghl x hx)
        rw [e, List.map_const', List.sum_replicate_nat]
        omega
      have hjl := join_len "" (gt.1.map dg)
      have z0 : (gt.1.map dg).length * ("" : Str).length = 0 := rfl
      refine ⟨_, D, gt.1.map dg, rfl, rfl, .inl (.inl (.inl (by rw [e2, List.map_map]; rfl))), by omega, ?_⟩
      have d1 := dg_len gt.2.1 k.one
      have d2 := dg_len gt.2.2 k.other
      have c1 : (":" : Str).length = 1 := by decide
      have c0 : (Str.empty).length = 0 := rfl
      have sz := sizeLine_eq
      refine .inl ⟨_, rfl, by rw [c1, sz]; decide, _, rfl, by rw [Str.length_append, c1, c0, sz]; decide, _, rfl, .inr ⟨_, rfl, dg_log _ k.one, _, rfl, by rw [Str.length_append, Str.length_append, c1, c0, d1, sz]; decide, _, rfl, .inr ⟨_, rfl, dg_log _ k.other, _, rfl, by rw [Str.length_append, Str.length_append, Str.length_append, c1, c0, d1, d2, sz]; decide, ?_⟩⟩⟩
      refine ⟨_, _, rfl, rfl, ?_, q _ _ s2 ?_⟩
      · rw [Str.length_append, Str.length_append, Str.length_append, c1, c0, d1, d2, sz]
        omega
      · rw [Str.length_append, Str.length_append, Str.length_append, Str.length_append, c1, c0, d1, d2]
        omega
end
end Kl
set_option maxHeartbeats 4000000
/-! ## Wiring: made, shown -/
namespace Kl
open PySem PySem.Spec PyProof.Rows L2
abbrev AG := Addr × G
abbrev refs (as : List AG) : List V := as.map fun q : AG => V.ref q.1
def Gates (H : Hp) (n : Nat) (as : List AG) : Prop := ∀ q ∈ as, GateAt H q.1 q.2 ∧ Ok n q.2
theorem GateAt.t {H H' : Hp} {g : Addr} {gt : G} (h : GateAt H g gt) (s : SameT H H') : GateAt H' g gt := by
  obtain ⟨a, h1, h2⟩ := h
  exact ⟨a, s _ _ h1, s _ _ h2⟩
theorem Gates.t {H H' : Hp} {n : Nat} {as : List AG} (h : Gates H n as) (s : SameT H H') : Gates H' n as := fun q hq => ⟨(h q hq).1.t s, (h q hq).2⟩
theorem refs_at {as : List AG} {i : Nat} {x : V} (h : (refs as)[i]? = some x) : ∃ q, as[i]? = some q ∧ x = V.ref q.1 := by
  rw [List.getElem?_map] at h
  cases e : as[i]? with
  | none => rw [e] at h; cases h
  | some z => rw [e] at h; exact ⟨z, rfl, (Option.some.inj h).symm⟩
theorem refs_len (as : List AG) : (refs as).length = as.length := List.length_map _
def WirF (n : Nat) (t : Addr) (hv : V) : List (Str × V) := [("lamps", .int n), ("gates", .ref t), ("hands", hv)]
def WirAt (C : Addr) (H : Hp) (p : Addr) (n : Nat) (as : List AG) : Prop := ∃ dx t hv, H p = some (.ins C dx (WirF n t hv)) ∧ H t = some (.tup (refs as)) ∧ Gates H n as
theorem WirAt.same {C : Addr} {H H' : Hp} {p : Addr} {n : Nat} {as : List AG} (h : WirAt C H p n as) (s : Same H H') : WirAt C H' p n as := by
  obtain ⟨dx, t, hv, h1, h2, h3⟩ := h
  exact ⟨dx, t, hv, s _ _ h1, s _ _ h2, h3.t (same_t s)⟩
theorem wirF_lamps (n : Nat) (t : Addr) (hv : V) : (WirF n t hv).lookup ("lamps" : Str) = some (.int n) := lk_here
theorem wirF_gates (n : Nat) (t : Addr) (hv : V) : (WirF n t hv).lookup ("gates" : Str) = some (.ref t) := (lk_past (by decide +kernel)).trans lk_here
theorem wirF_new (n : Nat) (t : Addr) (hv : V) : putF "hands" hv (putF "gates" (.ref t) (putF "lamps" (.int n) [])) = WirF n t hv := by
  have e1 : putF "gates" (.ref t) (putF "lamps" (.int n) []) = [(("lamps" : Str), V.int n), (("gates" : Str), V.ref t)] := (put_past (by decide +kernel)).trans rfl
  rw [e1]
  exact (put_past (by decide +kernel)).trans (congrArg _ ((put_past (by decide +kernel)).trans rfl))
/-! ### gates as data -/
def gateD (gt : G) : PyData := .tuple [.tuple ((gt.1.map fun n : Nat => (n : Int)).map PyData.int), .int (gt.2.1 : Nat), .int (gt.2.2 : Nat)]
theorem dp_gate {K : PySem.W.Frag} {H : Hp} {g : Addr} {gt : G} (h : GateAt H g gt) : Dp K H (.ref g) (gateD gt) := by
  obtain ⟨a, h1, h2⟩ := h
  exact .tup (.inl (.inl h1)) (.cons (dp_tup h2) (.cons (.int _) (.cons (.int _) .nil)))
theorem dp_gates {K : PySem.W.Frag} {H : Hp} : ∀ {as : List AG}, (∀ q ∈ as, GateAt H q.1 q.2) → DpAll K H (refs as) (as.map fun q : AG => gateD q.2)
  | [], _ => .nil
  | q :: as, h => .cons (dp_gate (h q List.mem_cons_self)) (dp_gates (as := as) fun q hq => h q (List.mem_cons_of_mem _ hq))
theorem lay_gate (gt : G) : (gateD gt).canLay0 = true := by
  have z := SeqAt.canLay_of_shaped (shaped_tup (gt.1.map fun n : Nat => (n : Int)))
  unfold gateD
  simp only [PyData.canLay0, PyData.canLayAll0] at z ⊢
  rw [z]
  rfl
theorem depth_gate (gt : G) : (gateD gt).depth ≤ 2 := by
  unfold gateD
  simp only [PyData.depth, PyData.depthAll, ints_depth]
  decide
theorem shaped_gates (as : List AG) : SeqAt.shaped (.tuple (as.map fun q : AG => gateD q.2)) = true := by
  have h1 : PyData.depthAll (as.map fun q : AG => gateD q.2) ≤ 2 := by
    induction as with
    | nil => simp [PyData.depthAll]
    | cons q as ih =>
      have := depth_gate q.2
      simp only [List.map_cons, PyData.depthAll]
      omega
  have h3 : PyData.canLayAll0 (as.map fun q : AG => gateD q.2) = true := by
    clear h1
    induction as with
    | nil => simp [PyData.canLayAll0]
    | cons q r ih => simp only [List.map_cons, PyData.canLayAll0, lay_gate, ih, Bool.and_self]
  have h2 : PyData.depth (.tuple (as.map fun q : AG => gateD q.2)) ≤ 64 := by simp only [PyData.depth]; omega
  show (PyData.canLay0 (.tuple (as.map fun q : AG => gateD q.2)) && decide (PyData.depth (.tuple (as.map fun q : AG => gateD q.2)) ≤ 64)) = true
  rw [decide_eq_true h2, Bool.and_true, PyData.canLay0]
  exact h3
theorem no_none (as : List AG) : ((as.map fun q : AG => gateD q.2).any fun z => PyData.eqv z .none) = false := by
  rw [List.any_eq_false]
  intro z hz
  obtain ⟨q, _, rfl⟩ := List.mem_map.mp hz
  unfold gateD
  simp [PyData.eqv]
end Kl
set_option maxHeartbeats 4000000
/-! ## Wiring: its methods; need_wiring -/
namespace Kl
open PySem PySem.Spec PyProof.Rows L2
section
variable {w : World} {K : PySem.W.Frag} {mg : Str → Option Value} {base : Heap}
def spWinit (C : Addr) : Sp := fun vs H Q _ => ∃ (p dx : Addr) (n : Nat) (a : Addr) (as : List AG), vs = [.ref p, .int n, .ref a] ∧ H p = some (.ins C dx []) ∧ 1 ≤ n ∧ n ≤ 8 ∧ H a = some (.lst (refs as)) ∧ as.length ≤ 100 ∧ Gates H n as ∧
  ∀ H' bs, WirAt C H' p n bs → bs.map Prod.snd = as.map Prod.snd → (∀ b o, H b = some o → b ≠ p → H' b = some o) → Q .non H'
abbrev NWi : List Str := ["self", "lamps", "gates", "kept", "gate", "hands", "_"]
theorem scWinit : FnScope NWi ["self", "lamps", "gates"] (defScope s_Winit) := ⟨rfl, rfl, rfl, by decide +kernel, rfl, by decide +kernel, by decide +kernel⟩
theorem f_winit (T : Tx K mg) : FnF PR w K mg base 4 (He.ma K (He.ga K "Wiring") "__init__") ["self", "lamps", "gates"] (spWinit (He.ga K "Wiring")) :=
  mkF T.f_Winit scWinit (fun vs H Q E h => by obtain ⟨p, dx, n, a, as, rfl, _⟩ := h; rfl) (fun _ _ _ _ _ _ us hl => match us, hl with | [_, _, _], _ => rfl) fun cdv A outer s H vs Q E hr h => by
    obtain ⟨p, dx, n, a, as, rfl, hp, n1, n8, ha, hlen, G, q⟩ := h
    have hr1 : Room 1 _ := hr.mono (by decide)
    obtain ⟨t8, h8⟩ := T.i_MOST_LAMPS_wirings
    obtain ⟨t9, h9⟩ := T.i_MOST_GATES
    refine ⟨_, pss_cons (ps_expr (pe_f (k_need T) hr passL (pa_cons (pv 1) (pa_cons pe_str (pa_cons pe_int (pa_cons (pe_glob (v := .int 8) rfl h8 ⟨_, rfl⟩) pa_nil))))))
      (pss_cons (ps_if (pt_not (pt_val (pe_f (k_islist T) hr1 passL (pa_cons (pv 2) pa_nil)))) pss_never pss_nil)
      (pss_cons (ps_set (i := 3) scWinit.nd rfl (Or.inl rfl) (pe_tupleOf rfl T.n_tuple (pe_lc (own := [("gate", 4)]) (g := gName 4) (tt := tYes) rfl scWinit.nd (pi_seq (pv 2)) (blkOk_by (N := NWi) (sc := defScope s_Winit) (by decide +kernel)) (fun _ _ _ _ _ => pg_name (i := 4) scWinit.nd rfl (Or.inl rfl)) (fun _ _ _ _ _ => pts_nil)
          (fun _ _ _ _ _ => pe_f (k_kept T) hr passL (pa_cons (pv 1) (pa_cons (pv 4) pa_nil))))))
      (pss_cons (ps_if (pt_cmpR (op_inT (hu65 hr)) pe_non (pv 3) (by with_unfolding_all rfl)) pss_never pss_nil)
      (pss_cons (ps_if (pt_cmpR op_gt (pe_callB call_len rfl T.n_len b_len (pa_cons (pv 3) pa_nil)) (pe_glob (v := .int 20000) rfl h9 ⟨_, rfl⟩) (nomark _)) pss_never pss_nil)
      (pss_cons (ps_fld (pv 0) (pv 1) rfl) (pss_cons (ps_fld (pv 0) (pv 3) rfl)
      (pss_one (ps_fld (pv 0) (pe_callBK (call_maxD rfl hr) rfl T.n_max b_max (pa_cons (pe_lc (own := [("hands", 5), ("_", 6)]) (g := gTup K 3 (gCons (gName 5) (gCons (gName 6) (gCons (gName 6) gNil)))) (tt := tYes) rfl scWinit.nd (pi_seq (pv 3)) (blkOk_by (N := NWi) (sc := defScope s_Winit) (by decide +kernel))
          (fun _ _ _ _ _ => pg_tup rfl (pgs_cons (pg_name (i := 5) scWinit.nd rfl (Or.inl rfl)) (pgs_cons (pg_name (i := 6) scWinit.nd rfl (Or.inl rfl)) (pgs_cons (pg_name (i := 6) scWinit.nd rfl (Or.inl rfl)) pgs_nil)))) (fun _ _ _ _ _ => pts_nil)
          (fun _ _ _ _ _ => pe_callB (r := rLen K) call_len rfl T.n_len b_len (pa_cons (pv 5) pa_nil))) pa_nil) (pk_cons pe_int pk_nil)) rfl)))))))), ?_⟩
    refine ⟨_, rfl, _, 1, 8, _, rfl, by omega, by omega, ?_⟩
    refine ⟨_, rfl, a, _, rfl, .inl ha, fun H1 s1 => ⟨true, rfl, iteF ?_⟩⟩
    have ha1 := s1 _ _ ha
    have G1 : Gates H1 n as := G.t (same_t s1)
    dsimp only [tSeq, tNext, tAsg, tThen]
    refine lc_anyE (te0 := tVar 2) (fun Q h => ⟨_, rfl, h⟩) (.inl ha1) (fun i acc H' => ∃ bs : List AG, acc = refs bs ∧ bs.map Prod.snd = (as.take i).map Prod.snd ∧ ∀ q ∈ bs, GateAt H' q.1 q.2)
      (fun i acc H H' ⟨bs, e1, e2, e3⟩ s => ⟨bs, e1, e2, fun q hq => (e3 q hq).t s⟩) ⟨[], rfl, rfl, fun q hq => nomatch hq⟩ (fun D hD i x H2 acc hx hi s2 e2 l2 A2 => ?_) (fun D H2 acc hD s2 e2 A2 => ?_)
    · obtain ⟨g, hg, rfl⟩ := refs_at hx
      obtain ⟨bs, rfl, em, hb⟩ := A2
      obtain ⟨gA, gO⟩ := G1 g (List.mem_of_getElem? hg)
      refine ⟨rfl, yes_if ⟨_, rfl, _, rfl, n, g.1, g.2, rfl, n8, gA.same s2, gO, fun H4 z s4 _ hz => ?_⟩⟩
      refine any_yes (fun i acc H H' ⟨bs, e1, e2, e3⟩ s => ⟨bs, e1, e2, fun q hq => (e3 q hq).t s⟩) hD s2 e2 l2 (by rw [refs_len] at hi; omega) s4 ⟨bs ++ [(z, g.2)], ?_, ?_, fun q hq => ?_⟩
      · exact (List.map_append (f := fun q : AG => V.ref q.1) (l₁ := bs) (l₂ := [(z, g.2)])).symm
      · rw [List.map_append, em, take_more hg, List.map_append]
        rfl
      · rcases List.mem_append.mp hq with h | h
        · exact (hb q h).same s4
        · rw [List.mem_singleton.mp h]
          exact hz
    · obtain ⟨bs, rfl, em, hb⟩ := A2
      rw [refs_len, List.take_length] at em
      have hbl : bs.length = as.length := by
        have z := congrArg List.length em
        rwa [List.length_map, List.length_map] at z
      have hbo : ∀ q ∈ bs, Ok n q.2 := fun q hq => by
        have z : q.2 ∈ as.map Prod.snd := by
          rw [← em]
          exact List.mem_map_of_mem hq
        obtain ⟨q', h1, h2⟩ := List.mem_map.mp z
        rw [← h2]
        exact (G q' h1).2
      refine .inl ⟨D, refs bs, rfl, .inl (.inl e2), fun t ht => ?_⟩
      have s3 : Same H2 (upd H2 t (.tup (refs bs))) := same_new ht
      have hb3 : ∀ q ∈ bs, GateAt (upd H2 t (.tup (refs bs))) q.1 q.2 := fun q hq => (hb q hq).same s3
      have hp3 := s3 _ _ (s2 _ _ (s1 _ _ hp))
      have tt : (upd H2 t (.tup (refs bs))) t = some (.tup (refs bs)) := upd_same
      have tp : t ≠ p := fun z => by
        rw [z] at ht
        rw [s2 _ _ (s1 _ _ hp)] at ht
        cases ht
      refine ⟨_, rfl, .none, _, .non, .tup (.inl (.inl tt)) (dp_gates hb3), by decide +kernel, shaped_gates bs, _, rfl, ?_⟩
      rw [no_none]
      refine iteF ?_
      refine ⟨_, rfl, _, _, rfl, .inr ⟨_, .inl (.inl tt), rfl⟩, _, _, rfl, rfl, _, rfl, ?_⟩
      rw [decide_eq_false (by rw [refs_len]; omega : ¬ ((20000 : Int) < ((refs bs).length : Nat)))]
      refine iteF ?_
      refine ⟨_, rfl, _, rfl, p, _, dx, [], rfl, hp3, T.c_Wiring, T.no_Wiring_lamps, by decide, ?_⟩
      refine ⟨_, rfl, _, rfl, p, _, dx, _, rfl, upd_same, T.c_Wiring, T.no_Wiring_gates, (by show 1 < 1000; decide), ?_⟩
      generalize hH4 : upd (upd (upd H2 t (.tup (refs bs))) p (.ins (He.ga K "Wiring") dx (putF "lamps" (.int n) []))) p (.ins (He.ga K "Wiring") dx (putF "gates" (.ref t) (putF "lamps" (.int n) []))) = H4
      have but4 : ∀ b o, b ≠ p → (upd H2 t (.tup (refs bs))) b = some o → H4 b = some o := fun b o hb e => by
        rw [← hH4, upd_ne hb, upd_ne hb]
        exact e
      have hp4 : H4 p = some (.ins (He.ga K "Wiring") dx (putF "gates" (.ref t) (putF "lamps" (.int n) []))) := by rw [← hH4, upd_same]
      have ht4 : H4 t = some (.tup (refs bs)) := but4 _ _ tp tt
      have st4 : SameT (upd H2 t (.tup (refs bs))) H4 := fun b xs e => but4 b _ (fun z => by rw [z, hp3] at e; cases e) e
      have hb4 : ∀ q ∈ bs, GateAt H4 q.1 q.2 := fun q hq => (hb3 q hq).t st4
      dsimp only [sFld, tCKw]
      show tLc (iSeq K (tVar 3)) _ _ _ _ _ _ _
      refine lc_seqE (te0 := tVar 3) (fun Q h => ⟨_, rfl, h⟩) (.inr ht4) (fun i => (bs.take i).map fun q : AG => V.int ((q.2.1.length : Nat) : Int)) rfl (fun D5 hD5 i x H5 hx hi p5 => ?_) (fun D5 H5 hD5 s5 e5 => ?_)
      · obtain ⟨g, hg, rfl⟩ := refs_at hx
        obtain ⟨c, g1, g2⟩ := (hb4 g (List.mem_of_getElem? hg)).same p5.1
        refine ⟨g.1, _, rfl, .inl (.inl g1), rfl, _, _, rfl, _, _, rfl, _, _, rfl, rfl, rfl, yes_if ⟨_, rfl, _, _, rfl, .inr ⟨_, .inl (.inl g2), rfl⟩, ?_⟩⟩
        rw [natV_len]
        exact acc_yes p5 hD5 (by have := map_take_len (l := bs) (f := fun q : AG => V.int ((q.2.1.length : Nat) : Int)) i; omega) (Same.refl _) (map_take hg)
      · refine ⟨D5, (bs.map fun q : AG => ((q.2.1.length : Nat) : Int)), 0, rfl, rfl, .inl (.inl ?_), fun m => ?_⟩
        · rw [refs_len, List.take_length] at e5
          rw [e5, List.map_map]
          rfl
        · refine ⟨_, rfl, p, _, dx, _, rfl, s5 _ _ hp4, T.c_Wiring, T.no_Wiring_hands, (by show 2 < 1000; decide), ?_⟩
          have tp5 : ∀ b o, b ≠ p → (upd H2 t (.tup (refs bs))) b = some o → (upd H5 p (.ins (He.ga K "Wiring") dx (putF "hands" (.int m) (putF "gates" (.ref t) (putF "lamps" (.int n) []))))) b = some o := fun b o hb e => by
            rw [upd_ne hb]
            exact s5 _ _ (but4 b o hb e)
          refine q _ bs ⟨dx, t, .int m, upd_same.trans (congrArg (fun q => some (HO.ins _ dx q)) (wirF_new n t (.int m))), tp5 _ _ tp tt, fun q hq => ⟨?_, hbo q hq⟩⟩ em fun b o e hb => tp5 _ _ hb (s3 _ _ (s2 _ _ (s1 _ _ e)))
          exact (hb3 q hq).t fun b xs e => tp5 b _ (fun z => by rw [z, hp3] at e; cases e) e
/-! ### str(wiring): some text -/
theorem sum_le : ∀ zs : List Str, (∀ z ∈ zs, Str.length z ≤ 100) → (zs.map (·.length)).sum ≤ zs.length * 100
  | [], _ => Nat.le_refl _
  | z :: zs, h => by
    have a := h z List.mem_cons_self
    have b := sum_le zs fun q hq => h q (List.mem_cons_of_mem _ hq)
    simp only [List.map_cons, List.sum_cons, List.length_cons]
    omega
def spWstr (C : Addr) : Sp := fun vs H Q _ => ∃ (p : Addr) (n : Nat) (as : List AG), vs = [.ref p] ∧ n ≤ 8 ∧ WirAt C H p n as ∧ as.length ≤ 100 ∧ ∀ H' z, Same H H' → Q (.str z) H'
theorem scWstr : FnScope ["self", "gate"] ["self"] (defScope s_Wstr) := ⟨rfl, rfl, rfl, by decide +kernel, rfl, by decide +kernel, by decide +kernel⟩
theorem f_wstr (T : Tx K mg) : FnF PR w K mg base 2 (He.ma K (He.ga K "Wiring") "__str__") ["self"] (spWstr (He.ga K "Wiring")) :=
  mkF T.f_Wstr scWstr (fun vs H Q E h => by obtain ⟨p, n, as, rfl, _⟩ := h; rfl) (fun _ _ _ _ _ _ us hl => match us, hl with | [_], _ => rfl) fun cdv A outer s H vs Q E hr h => by
    obtain ⟨p, n, as, rfl, n8, ⟨dx, t, hv, hp, ht, G⟩, hlen, q⟩ := h
    refine ⟨_, pss_one (ps_ret (pe_join pe_str (pe_lst (pa_cons (pe_callTy call_str_int rfl T.n_str b_str (pa_cons (pe_fld (pv 0) rfl) pa_nil)) (StX.pa_star (pe_lc (own := [("gate", 1)]) (g := gName 1) (tt := tYes) rfl scWstr.nd (pi_seq (pe_fld (pv 0) rfl)) (blkOk_by (N := ["self", "gate"]) (sc := defScope s_Wstr) (by decide +kernel)) (fun _ _ _ _ _ => pg_name (i := 1) scWstr.nd rfl (Or.inl rfl)) (fun _ _ _ _ _ => pts_nil)
          (fun _ _ _ _ _ => pe_f (k_text T) hr passL (pa_cons (pv 1) pa_nil))) pa_nil))))), ?_⟩
    refine ⟨⟨_, rfl⟩, _, rfl, p, _, dx, _, _, rfl, hp, T.c_Wiring, T.no_Wiring_lamps, wirF_lamps n t hv, _, rfl, ?_, ?_⟩
    · show ((n : Int)).natAbs.log2 < 1920
      have e : ∀ n : Nat, n ≤ 8 → ((n : Int)).natAbs.log2 < 1920 := by decide +kernel
      exact e n n8
    refine lc_anyE (te0 := tFld K (tVar 0) "gates") (fun Q h => ⟨_, rfl, p, _, dx, _, _, rfl, hp, T.c_Wiring, T.no_Wiring_gates, wirF_gates n t hv, h⟩) (.inr ht) (fun i acc H' => ∃ zs : List Str, acc = zs.map V.str ∧ zs.length = i ∧ ∀ z ∈ zs, Str.length z ≤ 100)
      (fun i acc H H' h s => h) ⟨[], rfl, rfl, fun q hq => nomatch hq⟩ (fun D hD i x H2 acc hx hi s2 e2 l2 A2 => ?_) (fun D H2 acc hD s2 e2 A2 => ?_)
    · obtain ⟨g, hg, rfl⟩ := refs_at hx
      obtain ⟨zs, rfl, hz, hb⟩ := A2
      obtain ⟨gA, gO⟩ := G g (List.mem_of_getElem? hg)
      refine ⟨rfl, yes_if ⟨_, rfl, g.1, g.2, rfl, gA.same s2, gO.up n8, fun H4 z s4 hz4 => ?_⟩⟩
      refine any_yes (fun i acc H H' h s => h) hD s2 e2 l2 (by rw [refs_len] at hi; omega) s4 ⟨zs ++ [z], ?_, by rw [List.length_append, hz]; rfl, fun q hq => ?_⟩
      · exact (List.map_append (f := V.str) (l₁ := zs) (l₂ := [z])).symm
      · rcases List.mem_append.mp hq with h | h
        · exact hb q h
        · rw [List.mem_singleton.mp h]
          exact hz4
    · obtain ⟨zs, rfl, hz, hb⟩ := A2
      rw [refs_len] at hz
      have hs := sum_le zs hb
      refine ⟨D, _, rfl, .inr (.inl (.inl e2)), ?_, fun u hu => ?_⟩
      · show ((V.str (dg n)) :: (zs.map V.str ++ [])).length ≤ sizeLine
        rw [List.append_nil, List.length_cons, List.length_map, sizeLine_eq]
        omega
      · have hdg : (dg n).length = 1 := by
          have e : ∀ n ≤ 8, (dg n).length = 1 := by decide +kernel
          exact e n n8
        refine ⟨_, u, dg n :: zs, rfl, rfl, .inl (.inl (.inl (by rw [upd_same, List.append_nil]; rfl))), ?_, q _ _ (s2.trans (same_new hu))⟩
        have c1 : (" " : Str).length = 1 := by decide
        simp only [List.map_cons, List.sum_cons, List.length_cons, hdg, c1]
        omega
end
end Kl
set_option maxHeartbeats 4000000
/-! ## need_wiring, need_row_of, step, rows_on -/
namespace Kl
open PySem PySem.Spec PyProof.Rows L2
/-- a def with defaults -/
structure FnD (P : Program) (w : World) (K : PySem.W.Frag) (mg : Str → Option Value) (base : Heap) (k : Nat) (x : Str) (ps : List Str) (sp : Sp) (dvs : List V) : Prop where
  g : mg x = some (.ref (He.ga K x))
  kp : PySem.W.keepIn K (.ref (He.ga K x)) = true
  ok : ∃ fd ds, FnOk P w K mg base (L2.CX P w) k (He.ga K x) fd ps sp ∧ Vals dvs ds ∧ Binds K fd ps ds
theorem pe_d {X : Cx} {k : Nat} {x : Str} {ps : List Str} {sp : Sp} {E : XK} {p pos : Pos} {e : Expr} {es : List Expr} {t : TA} {dvs : List V} (F : FnD X.prog X.w X.K X.mg X.base k x ps sp dvs) (hr : Room k X.A) (hx : Passes (L2.CX X.prog X.w) X E) (ha : PA X (e :: es) t) (hg : Gl X x := by rfl)
    (hdb : (x == ("__debug__" : Str)) = false := by decide) (he : starEach (e :: es) X.env = (false, eval e X.env) :: starEach es X.env := by rfl) (hpl : (backTo pos (starEach es X.env)).any (·.1) = false := by rfl) :
    PE X (.Call (.Name x p) (e :: es) [] pos) (tCall sp dvs E t) := by
  obtain ⟨fd, ds, F1, r, b⟩ := F.ok
  exact pe_call F1 hr hg F.g F.kp b r hx ha hdb he hpl
/-- none of the wirings, none of the tables -/
def NotW (H : Hp) (v : V) : Prop := v = .non ∨ (∃ i, v = .int i) ∨ (∃ b, v = .bl b) ∨ (∃ z, v = .str z) ∨ ∃ a xs, v = .ref a ∧ H a = some (.lst xs)
section
variable {w : World} {K : PySem.W.Frag} {mg : Str → Option Value} {base : Heap}
theorem notW_kit (T : Tx K mg) {H : Hp} {v : V} (h : NotW H v) {x : Str} (hx : x = "Wiring" ∨ x = "Table") : ∃ t, TyX K H v t ∧ PySem.W.kitOne K t (.ref (He.ga K x)) = some false := by
  rcases hx with rfl | rfl <;> rcases h with rfl | ⟨i, rfl⟩ | ⟨b, rfl⟩ | ⟨z, rfl⟩ | ⟨a, xs, rfl, ha⟩
  · exact ⟨_, .base .non, T.kb (.type "NoneType", "Wiring", false) (by decide +kernel)⟩
  · exact ⟨_, .base (.int i), T.kb (.type "int", "Wiring", false) (by decide +kernel)⟩
  · exact ⟨_, .base (.bl b), T.kb (.type "bool", "Wiring", false) (by decide +kernel)⟩
  · exact ⟨_, .base (.str z), T.kb (.type "str", "Wiring", false) (by decide +kernel)⟩
  · exact ⟨_, .base (.lst ha), T.kb (.type "list", "Wiring", false) (by decide +kernel)⟩
  · exact ⟨_, .base .non, T.kb (.type "NoneType", "Table", false) (by decide +kernel)⟩
  · exact ⟨_, .base (.int i), T.kb (.type "int", "Table", false) (by decide +kernel)⟩
  · exact ⟨_, .base (.bl b), T.kb (.type "bool", "Table", false) (by decide +kernel)⟩
  · exact ⟨_, .base (.str z), T.kb (.type "str", "Table", false) (by decide +kernel)⟩
  · exact ⟨_, .base (.lst ha), T.kb (.type "list", "Table", false) (by decide +kernel)⟩
def spNW (C CB : Addr) : Sp := fun vs H Q E => ∃ (v : V) (p : Str), vs = [v, .str p] ∧ ((∃ a n as, v = .ref a ∧ WirAt C H a n as ∧ Q .non H) ∨ (NotW H v ∧ ∀ d, H d = none → E (.ref CB) (some d) (upd H d (.xd [("part", .str p)]))))
theorem scNW : FnScope ["value", "part"] ["value", "part"] (defScope s_need_wiring) := ⟨rfl, rfl, rfl, by decide +kernel, rfl, by decide +kernel, by decide +kernel⟩
theorem k_nw (T : Tx K mg) : FnD PR w K mg base 2 "need_wiring" ["value", "part"] (spNW (He.ga K "Wiring") (He.ga K "BadWiring")) [.str "wiring"] := by
  obtain ⟨fd, F⟩ := T.f_need_wiring
  obtain ⟨ds, hv, hb⟩ := F.binds1 (ps := ["value", "part"]) 1 0 (by decide) rfl (fun T kV doc pm an cdv ct us its h1 h2 => by
    match us, its, h1, h2 with
    | [u], [i], _, _ => exact ⟨_, rfl, rfl⟩)
  refine ⟨T.g_need_wiring, F.kp, fd, ds, ?_, hv, hb⟩
  refine F.ok scNW (fun vs H Q E h => by obtain ⟨v, p, rfl, _⟩ := h; rfl) fun cdv A outer s H vs Q E hr h => ?_
  obtain ⟨v, p, rfl, q⟩ := h
  refine ⟨_, pss_one (ps_if (pt_not (pt_val (pe_callB call_isi rfl T.n_isinstance b_isi (pa_cons (pv 0) (pa_cons (pe_glob (v := .ref (He.ga K "Wiring")) rfl T.g_Wiring rfl) pa_nil))))) (pss_one (ps_rs rfl rfl T.e_BadWiring T.g_BadWiring T.n_super hr (takes_of rfl rfl rfl rfl) (pa_cons (pv 1) pa_nil))) pss_nil), ?_⟩
  rcases q with ⟨a, n, as, rfl, ⟨dx, t, hv, h1, h2, h3⟩, q⟩ | ⟨nw, q⟩
  · exact ⟨_, rfl, _, _, _, _, true, rfl, .own _, isi_own T (x := "Wiring") (by decide) T.c_Wiring h1, T.kc ("Wiring", "Wiring", true) (by decide), true, rfl, iteF q⟩
  · obtain ⟨t, ty, kt⟩ := notW_kit T nw (.inl rfl)
    exact ⟨_, rfl, _, _, _, _, false, rfl, .own _, ty, kt, false, rfl, iteT ⟨_, rfl, _, rfl, q⟩⟩
end
end Kl
set_option maxHeartbeats 4000000
/-! ## step, rows_on, need_row_of -/
namespace Kl
open PySem PySem.Spec PyProof.Rows L2
theorem pow_int (n : Nat) : (1 : Int) * 2 ^ ((n : Int)).toNat = ((2 ^ n : Nat) : Int) := shl1 n
section
variable {w : World} {K : PySem.W.Frag} {mg : Str → Option Value} {base : Heap}
def spStep : Sp := fun vs H Q _ => ∃ (g : Addr) (gt : G) (r : Nat), vs = [.ref g, .int r] ∧ GateAt H g gt ∧ Ok 8 gt ∧ ∀ H', Same H H' → Q (.int (stepN gt r : Nat)) H'
abbrev NSt : List Str := ["gate", "row", "hands", "one", "other", "hand"]
theorem scStep : FnScope NSt ["gate", "row"] (defScope s_step) := ⟨rfl, rfl, rfl, by decide +kernel, rfl, by decide +kernel, by decide +kernel⟩
theorem k_step (T : Tx K mg) : FnK PR w K mg base 2 "step" ["gate", "row"] spStep :=
  mkK T.g_step T.f_step scStep (fun vs H Q E h => by obtain ⟨g, gt, r, rfl, _⟩ := h; rfl) (fun _ _ _ _ _ _ us hl => match us, hl with | [_, _], _ => rfl) fun cdv A outer s H vs Q E hr h => by
    obtain ⟨g, gt, r, rfl, ⟨a, hg, ha⟩, k, q⟩ := h
    refine ⟨_, pss_cons (ps_asg (pv 0) (pg_tup rfl (pgs_cons (pg_name (i := 2) scStep.nd rfl (Or.inl rfl)) (pgs_cons (pg_name (i := 3) scStep.nd rfl (Or.inl rfl)) (pgs_cons (pg_name (i := 4) scStep.nd rfl (Or.inl rfl)) pgs_nil)))))
      (pss_cons (ps_if (PW.pt (pw_or (pt_cmpR op_eq (pe_f (k_lit T) hr passL (pa_cons (pv 1) (pa_cons (pv 3) pa_nil))) (pe_f (k_lit T) hr passL (pa_cons (pv 1) (pa_cons (pv 4) pa_nil))) (nomark _)) (pw_or1 (pt_not (pt_val (pe_callB (cr_all rfl) rfl T.n_all b_all (pa_cons (pe_lc (own := [("hand", 5)]) (g := gName 5) (tt := tYes) rfl scStep.nd (pi_seq (pv 2)) (blkOk_by (N := NSt) (sc := defScope s_step) (by decide +kernel)) (fun _ _ _ _ _ => pg_name (i := 5) scStep.nd rfl (Or.inl rfl)) (fun _ _ _ _ _ => pts_nil)
          (fun _ _ _ _ _ => pe_f (k_lit T) hr passL (pa_cons (pv 1) (pa_cons (pv 5) pa_nil)))) pa_nil))))))) (pss_one (ps_ret (pv 1))) pss_nil)
      (pss_one (ps_ret (pe_op op_xor (pe_op op_xor (pv 1) (pe_op op_shl pe_int (pv 3))) (pe_op op_shl pe_int (pv 4)))))), ?_⟩
    have hgl := fun x hx => (k.hands x hx).1
    have gln := nodup_len (k.nd.imp fun h => Nat.ne_of_lt h) hgl
    refine ⟨_, rfl, g, _, rfl, .inl (.inl hg), rfl, _, _, rfl, _, _, rfl, _, _, rfl, rfl, ?_⟩
    refine ⟨_, rfl, _, rfl, r, gt.2.1, rfl, _, rfl, _, rfl, r, gt.2.2, rfl, rfl, _, rfl, ifB (fun c => ?_) fun c => ?_⟩
    · refine iteT ⟨_, rfl, ?_⟩
      have e : stepN gt r = r := by
        have c : V.bl (r.testBit gt.2.1) = V.bl (r.testBit gt.2.2) := of_decide_eq_true c
        injection c with c
        unfold stepN
        rw [c]
        simp
      have z := q H (Same.refl _)
      rw [e] at z
      exact z
    · have c : ¬ V.bl (r.testBit gt.2.1) = V.bl (r.testBit gt.2.2) := of_decide_eq_false c
      have c2 : (r.testBit gt.2.1 == r.testBit gt.2.2) = false := by
        cases e : (r.testBit gt.2.1 == r.testBit gt.2.2) with
        | false => rfl
        | true => exact absurd (congrArg V.bl (beq_iff_eq.mp e)) c
      dsimp only [tNot, tB]
      refine cb_lc (lc_seq rfl (.inr ha) (fun i => (gt.1.take i).map fun h : Nat => V.bl (r.testBit h)) rfl (fun D hD i x H2 hx hi p => ?_) (fun D H2 hD s2 e2 => ?_))
      · obtain ⟨z, hz, rfl⟩ := natV_at hx
        refine ⟨rfl, yes_if ⟨_, rfl, _, rfl, r, z, rfl, ?_⟩⟩
        exact acc_yes p hD (by have := map_take_len (l := gt.1) (f := fun h : Nat => V.bl (r.testBit h)) i; omega) (Same.refl _) (map_take hz)
      · rw [natV_len, List.take_length] at e2
        refine ⟨D, gt.1.map fun h : Nat => r.testBit h, rfl, .inl (.inl (by rw [e2, List.map_map]; rfl)), _, rfl, ?_⟩
        have ea : (gt.1.map fun h : Nat => r.testBit h).all id = gt.1.all fun h => r.testBit h := by
          rw [List.all_map]
          rfl
        rw [ea]
        have es : stepN gt r = if (!(gt.1.all fun h => r.testBit h)) = true then r else r ^^^ 2 ^ gt.2.1 ^^^ 2 ^ gt.2.2 := by
          unfold stepN
          rw [c2, Bool.false_or]
        cases hb : gt.1.all fun h => r.testBit h with
        | true =>
          refine iteF ⟨_, rfl, _, rfl, _, _, rfl, rfl, cpow1 (by have := k.one; omega), _, _, rfl, rfl, _, rfl, _, _, rfl, rfl, cpow1 (by have := k.other; omega), _, _, rfl, rfl, ?_⟩
          have z := q H2 s2
          rw [es, hb] at z
          show Q (V.int (Builtin.bitXor (Builtin.bitXor (r : Int) (1 * 2 ^ ((gt.2.1 : Int)).toNat)) (1 * 2 ^ ((gt.2.2 : Int)).toNat))) H2
          rw [shl1, shl1, bxor_nat, bxor_nat]
          exact z
        | false =>
          refine iteT ⟨_, rfl, ?_⟩
          have z := q H2 s2
          rw [es, hb] at z
          exact z
/-! ### rows_on -/
abbrev gsOf (as : List AG) : List G := as.map Prod.snd
def spRows (C : Addr) : Sp := fun vs H Q _ => ∃ (p : Addr) (n : Nat) (as : List AG) (r : Nat), vs = [.ref p, .int r] ∧ n ≤ 8 ∧ WirAt C H p n as ∧ as.length ≤ 100 ∧ ∀ H' q, Same H H' → H q = none → H' q = some (.lst (natV (filmN (gsOf as) r))) → Q (.ref q) H'
abbrev NRo : List Str := ["wiring", "row", "found", "gate"]
theorem scRows : FnScope NRo ["wiring", "row"] (defScope s_rows_on) := ⟨rfl, rfl, rfl, by decide +kernel, rfl, by decide +kernel, by decide +kernel⟩
theorem natV_last {gs : List G} {i : Nat} (hi : i ≤ gs.length) (r : Nat) : atI (natV (filmN (gs.take i) r)) (-1) = some (V.int ((runN (gs.take i) r : Nat) : Int)) := by
  have e : filmN (gs.take i) r = ((List.range i).map fun j => runN (gs.take j) r) ++ [runN (gs.take i) r] := by
    rw [film_take hi, List.range_succ, List.map_append]
    rfl
  rw [e, natV_app]
  exact atI_last _ _
theorem k_rows (T : Tx K mg) : FnK PR w K mg base 3 "rows_on" ["wiring", "row"] (spRows (He.ga K "Wiring")) :=
  mkK T.g_rows_on T.f_rows_on scRows (fun vs H Q E h => by obtain ⟨p, n, as, r, rfl, _⟩ := h; rfl) (fun _ _ _ _ _ _ us hl => match us, hl with | [_, _], _ => rfl) fun cdv A outer s H vs Q E hr h => by
    obtain ⟨p, n, as, r, rfl, n8, ⟨dx, t, hv, hp, ht, Gs⟩, hlen, q⟩ := h
    refine ⟨_, pss_cons (ps_set (i := 2) scRows.nd rfl (Or.inl rfl) (pe_lst (pa_cons (pv 1) pa_nil)))
      (pss_cons (ps_for PassesOwn.never rfl (pi_tup (pe_fld (pv 0) rfl)) (pg_name (i := 3) scRows.nd rfl (Or.inl rfl))
        (pss_one (ps_expr (pe_bm PySem.F.plainAttrs_list PySem.F.slot_list_append PySem.F.type_list_append mt_append (pv 2) (pa_cons (pe_f (k_step T) hr passL (pa_cons (pv 3) (pa_cons (pe_ix ix_seq (pv 2) (pe_un un_neg pe_int) fun _ _ => rfl) pa_nil))) pa_nil)))))
      (pss_one (ps_ret (pv 2)))), ?_⟩
    refine ⟨_, rfl, (by show 1 ≤ sizeLine; decide), fun f hf => ?_⟩
    have s1 : Same H (upd H f (.lst [V.int r])) := same_new hf
    have fne : ∀ {b : Addr} {o : HO}, H b = some o → b ≠ f := fun e => ne_of_none e hf
    refine ⟨_, rfl, p, _, dx, _, _, rfl, s1 _ _ hp, T.c_Wiring, T.no_Wiring_gates, wirF_gates n t hv, t, rfl, ⟨_, .inl (.inl (s1 _ _ ht))⟩, ?_⟩
    have gl : (gsOf as).length = as.length := List.length_map _
    refine for_tup (K := K) (a := t) (xs := refs as) (fun i σ H' => ∃ v : Option V, σ = [some (.ref p), some (.int (r : Int)), some (.ref f), v] ∧ Same H H' ∧ H' f = some (.lst (natV (filmN ((gsOf as).take i) r)))) ⟨none, rfl, s1, upd_same⟩ (fun i σ H' _ ⟨_, _, s5, _⟩ => .inl (.inl (s5 _ _ ht))) ?_ ?_
    · rintro i x σ H' hx ⟨v, rfl, s5, hfl⟩
      obtain ⟨g, hg, rfl⟩ := refs_at hx
      obtain ⟨gA, gO⟩ := Gs g (List.mem_of_getElem? hg)
      have hg2 : (gsOf as)[i]? = some g.2 := by rw [List.getElem?_map, hg]; rfl
      have hil : i < as.length := (List.getElem?_eq_some_iff.mp hg).1
      refine ⟨_, rfl, .inl ⟨rfl, _, .inl (.inl hfl)⟩, ?_⟩
      refine ⟨_, rfl, _, rfl, _, rfl, .inl ⟨f, _, -1, _, rfl, rfl, .inl (.inl hfl), natV_last (by omega) r, ?_⟩⟩
      refine ⟨g.1, g.2, runN ((gsOf as).take i) r, rfl, gA.same s5, gO.up n8, fun H6 s6 => ?_⟩
      refine ⟨f, _, _, rfl, rfl, s6 _ _ hfl, small1000 (by rw [natV_len, film_len, List.length_take]; omega), ?_⟩
      refine ⟨some (.ref g.1), rfl, fun b o e => ?_, ?_⟩
      · rw [upd_ne (fne e)]
        exact s6 _ _ (s5 _ _ e)
      · rw [upd_same, film_more hg2, natV_app]
        rfl
    · rintro σ H' ⟨v, rfl, s5, hfl⟩
      rw [refs_len, ← gl, List.take_length] at hfl
      exact ⟨_, rfl, q H' f s5 hf hfl⟩
end
end Kl
set_option maxHeartbeats 4000000
/-! ## need_row_of, run, film, acting -/
namespace Kl
open PySem PySem.Spec PyProof.Rows L2
theorem passE {X : Cx} {E : XK} (tk : Takes X (fun cls d _ H => E cls d H)) : Passes (L2.CX X.prog X.w) X E := passes_call tk (fun _ _ _ _ h => h)
/-- an error of the class C whose part is p, made over H -/
def Err (E : XK) (C : Addr) (p : Str) (H : Hp) : Prop := ∀ H' d, Same H H' → H' d = none → E (.ref C) (some d) (upd H' d (.xd [("part", .str p)]))
/-- no row on n lamps -/
def BadR (n : Nat) (H : Hp) (v : V) : Prop := NotInt H v ∨ ∃ i : Int, v = .int i ∧ (decide ((0 : Int) ≤ i) && decide (i ≤ ((2 ^ n : Nat) : Int) - 1)) = false
theorem NotInt.same {H H' : Hp} {v : V} (h : NotInt H v) (s : Same H H') : NotInt H' v := by
  rcases h with h | h | h | ⟨a, xs, h1, h2⟩
  · exact .inl h
  · exact .inr (.inl h)
  · exact .inr (.inr (.inl h))
  · exact .inr (.inr (.inr ⟨a, xs, h1, s _ _ h2⟩))
theorem NotW.same {H H' : Hp} {v : V} (h : NotW H v) (s : Same H H') : NotW H' v := by
  rcases h with h | h | h | h | ⟨a, xs, h1, h2⟩
  · exact .inl h
  · exact .inr (.inl h)
  · exact .inr (.inr (.inl h))
  · exact .inr (.inr (.inr (.inl h)))
  · exact .inr (.inr (.inr (.inr ⟨a, xs, h1, s _ _ h2⟩)))
theorem BadR.same {n : Nat} {H H' : Hp} {v : V} (h : BadR n H v) (s : Same H H') : BadR n H' v := h.elim (fun h => .inl (h.same s)) .inr
theorem Err.same {E : XK} {C : Addr} {p : Str} {H H' : Hp} (h : Err E C p H) (s : Same H H') : Err E C p H' := fun H2 d s2 hd => h H2 d (s.trans s2) hd
section
variable {w : World} {K : PySem.W.Frag} {mg : Str → Option Value} {base : Heap}
def spNR (C CR : Addr) : Sp := fun vs H Q E => ∃ (p : Addr) (n : Nat) (as : List AG) (v : V), vs = [.ref p, v] ∧ n ≤ 8 ∧ WirAt C H p n as ∧ ((∃ r : Nat, v = .int r ∧ r < 2 ^ n ∧ Q .non H) ∨ (BadR n H v ∧ Err E CR "row" H))
theorem scNR : FnScope ["wiring", "value"] ["wiring", "value"] (defScope s_need_row_of) := ⟨rfl, rfl, rfl, by decide +kernel, rfl, by decide +kernel, by decide +kernel⟩
theorem k_nr (T : Tx K mg) : FnK PR w K mg base 3 "need_row_of" ["wiring", "value"] (spNR (He.ga K "Wiring") (He.ga K "BadRow")) :=
  mkX T.g_need_row_of T.f_need_row_of scNR (fun vs H Q E h => by obtain ⟨p, n, as, v, rfl, _⟩ := h; rfl) (fun _ _ _ _ _ _ us hl => match us, hl with | [_, _], _ => rfl) fun cdv A outer s H vs Q E hr h => by
    obtain ⟨p, n, as, v, rfl, n8, ⟨dx, t, hv, h1, h2, h3⟩, q⟩ := h
    refine ⟨_, pss_one (ps_if (pt_not (pt_val (pe_f (k_within T) hr passL (pa_cons (pv 1) (pa_cons pe_int (pa_cons (pe_op op_sub (pe_op op_shl pe_int (pe_fld (pv 0) rfl)) pe_int) pa_nil)))))) (pss_one (ps_rs rfl rfl T.e_BadRow T.g_BadRow T.n_super hr (takes_of rfl rfl rfl rfl) (pa_cons pe_str pa_nil))) pss_nil), ?_⟩
    refine ⟨_, rfl, _, rfl, p, _, dx, _, _, rfl, h1, T.c_Wiring, T.no_Wiring_lamps, wirF_lamps n t hv, _, _, rfl, rfl, cpow1 (by omega), _, _, rfl, rfl, _, _, _, rfl, ?_⟩
    rcases q with ⟨r, rfl, hr2, q⟩ | ⟨hb, q⟩
    · refine .inl ⟨_, rfl, _, rfl, ?_⟩
      rw [shl1, decide_eq_true (by omega : (0 : Int) ≤ (r : Int)), decide_eq_true (by omega : (r : Int) ≤ ((2 ^ n : Nat) : Int) - 1)]
      exact iteF q
    · rcases hb with hb | ⟨i, rfl, hb⟩
      · exact .inr ⟨hb, _, rfl, iteT ⟨_, rfl, fun d hd => q H d (Same.refl _) hd⟩⟩
      · refine .inl ⟨_, rfl, _, rfl, ?_⟩
        rw [shl1, hb]
        exact iteT ⟨_, rfl, fun d hd => q H d (Same.refl _) hd⟩
/-! ### run, film, acting: one promise -/
def spAsk (C CB CR : Addr) (R : List G → Nat → Hp → VK → Prop) : Sp := fun vs H Q E => ∃ x y : V, vs = [x, y] ∧ (
  (∃ (p : Addr) (n : Nat) (as : List AG) (r : Nat), x = .ref p ∧ y = .int r ∧ n ≤ 8 ∧ WirAt C H p n as ∧ as.length ≤ 100 ∧ r < 2 ^ n ∧ R (gsOf as) r H Q) ∨
  (NotW H x ∧ Err E CB "wiring" H) ∨
  (∃ (p : Addr) (n : Nat) (as : List AG), x = .ref p ∧ n ≤ 8 ∧ WirAt C H p n as ∧ BadR n H y ∧ Err E CR "row" H))
def RRun : List G → Nat → Hp → VK → Prop := fun gs r H Q => ∀ H', Same H H' → Q (.int (runN gs r : Nat)) H'
def RFilm : List G → Nat → Hp → VK → Prop := fun gs r H Q => ∀ H' t, Same H H' → H' t = some (.tup (natV (filmN gs r))) → Q (.ref t) H'
def actN (gs : List G) (r : Nat) : List Nat := (List.range gs.length).filter fun i => !decide (runN (gs.take i) r = runN (gs.take (i + 1)) r)
def RAct : List G → Nat → Hp → VK → Prop := fun gs r H Q => ∀ H' t, Same H H' → H' t = some (.tup (natV (actN gs r))) → Q (.ref t) H'
theorem scRun : FnScope ["wiring", "row", "found"] ["wiring", "row"] (defScope s_run) := ⟨rfl, rfl, rfl, by decide +kernel, rfl, by decide +kernel, by decide +kernel⟩
theorem k_run (T : Tx K mg) : FnK PR w K mg base 4 "run" ["wiring", "row"] (spAsk (He.ga K "Wiring") (He.ga K "BadWiring") (He.ga K "BadRow") RRun) :=
  mkX T.g_run T.f_run scRun (fun vs H Q E h => by obtain ⟨x, y, rfl, _⟩ := h; rfl) (fun _ _ _ _ _ _ us hl => match us, hl with | [_, _], _ => rfl) fun cdv A outer s H vs Q E hr h => by
    obtain ⟨x, y, rfl, q⟩ := h
    have hr2 : Room 2 _ := hr.mono (by decide)
    refine ⟨_, pss_cons (ps_expr (pe_d (k_nw T) hr2 (passE (takes_of rfl rfl rfl rfl)) (pa_cons (pv 0) pa_nil)))
      (pss_cons (ps_expr (pe_f (k_nr T) hr (passE (takes_of rfl rfl rfl rfl)) (pa_cons (pv 0) (pa_cons (pv 1) pa_nil))))
      (pss_cons (ps_set (i := 2) scRun.nd rfl (Or.inl rfl) (pe_f (k_rows T) hr passL (pa_cons (pv 0) (pa_cons (pv 1) pa_nil))))
      (pss_one (ps_ret (pe_ix ix_seq (pv 2) (pe_un un_neg pe_int) fun _ _ => rfl))))), ?_⟩
    rcases q with ⟨p, n, as, r, rfl, rfl, n8, W, hlen, hr8, q⟩ | ⟨nw, q⟩ | ⟨p, n, as, rfl, n8, W, bad, q⟩
    · refine ⟨_, rfl, _, _, rfl, .inl ⟨p, n, as, rfl, W, ?_⟩⟩
      refine ⟨_, rfl, _, rfl, p, n, as, _, rfl, n8, W, .inl ⟨r, rfl, hr8, ?_⟩⟩
      refine ⟨_, rfl, _, rfl, p, n, as, r, rfl, n8, W, hlen, fun H1 f s1 hf hfl => ?_⟩
      have z := natV_last (gs := gsOf as) (Nat.le_refl _) r
      rw [List.take_length] at z
      exact ⟨_, rfl, _, rfl, .inl ⟨f, _, -1, _, rfl, rfl, .inl (.inl hfl), z, q H1 s1⟩⟩
    · exact ⟨_, rfl, _, _, rfl, .inr ⟨nw, fun d hd => q H d (Same.refl _) hd⟩⟩
    · refine ⟨_, rfl, _, _, rfl, .inl ⟨p, n, as, rfl, W, ?_⟩⟩
      exact ⟨_, rfl, _, rfl, p, n, as, _, rfl, n8, W, .inr ⟨bad, q⟩⟩
theorem scFilm : FnScope ["wiring", "row"] ["wiring", "row"] (defScope s_film) := ⟨rfl, rfl, rfl, by decide +kernel, rfl, by decide +kernel, by decide +kernel⟩
theorem k_film (T : Tx K mg) : FnK PR w K mg base 4 "film" ["wiring", "row"] (spAsk (He.ga K "Wiring") (He.ga K "BadWiring") (He.ga K "BadRow") RFilm) :=
  mkX T.g_film T.f_film scFilm (fun vs H Q E h => by obtain ⟨x, y, rfl, _⟩ := h; rfl) (fun _ _ _ _ _ _ us hl => match us, hl with | [_, _], _ => rfl) fun cdv A outer s H vs Q E hr h => by
    obtain ⟨x, y, rfl, q⟩ := h
    have hr2 : Room 2 _ := hr.mono (by decide)
    refine ⟨_, pss_cons (ps_expr (pe_d (k_nw T) hr2 (passE (takes_of rfl rfl rfl rfl)) (pa_cons (pv 0) pa_nil)))
      (pss_cons (ps_expr (pe_f (k_nr T) hr (passE (takes_of rfl rfl rfl rfl)) (pa_cons (pv 0) (pa_cons (pv 1) pa_nil))))
      (pss_one (ps_ret (pe_tupleOf rfl T.n_tuple (pe_f (k_rows T) hr passL (pa_cons (pv 0) (pa_cons (pv 1) pa_nil))))))), ?_⟩
    rcases q with ⟨p, n, as, r, rfl, rfl, n8, W, hlen, hr8, q⟩ | ⟨nw, q⟩ | ⟨p, n, as, rfl, n8, W, bad, q⟩
    · refine ⟨_, rfl, _, _, rfl, .inl ⟨p, n, as, rfl, W, ?_⟩⟩
      refine ⟨_, rfl, _, rfl, p, n, as, _, rfl, n8, W, .inl ⟨r, rfl, hr8, ?_⟩⟩
      refine ⟨_, rfl, _, rfl, p, n, as, r, rfl, n8, W, hlen, fun H1 f s1 hf hfl => ?_⟩
      exact .inl ⟨f, _, rfl, .inl (.inl hfl), fun t ht => q _ t (s1.trans (same_new ht)) upd_same⟩
    · exact ⟨_, rfl, _, _, rfl, .inr ⟨nw, fun d hd => q H d (Same.refl _) hd⟩⟩
    · refine ⟨_, rfl, _, _, rfl, .inl ⟨p, n, as, rfl, W, ?_⟩⟩
      exact ⟨_, rfl, _, rfl, p, n, as, _, rfl, n8, W, .inr ⟨bad, q⟩⟩
theorem filt_yes {p : Nat → Bool} {i : Nat} (h : p i = true) : natV ((List.range (i + 1)).filter p) = natV ((List.range i).filter p) ++ [V.int ((i : Nat) : Int)] := by
  rw [List.range_succ, List.filter_append, natV_app]
  simp [h]
theorem filt_no {p : Nat → Bool} {i : Nat} (h : p i = false) : natV ((List.range (i + 1)).filter p) = natV ((List.range i).filter p) := by
  rw [List.range_succ, List.filter_append, natV_app]
  simp [h]
theorem filt_len {p : Nat → Bool} (i : Nat) : (natV ((List.range i).filter p)).length ≤ i := by
  rw [natV_len]
  have := List.length_filter_le p (List.range i)
  rwa [List.length_range] at this
theorem dec_nat (a b : Nat) : decide (V.int (a : Int) = V.int (b : Int)) = decide (a = b) := by
  by_cases h : a = b
  · rw [h, decide_eq_true rfl, decide_eq_true rfl]
  · rw [decide_eq_false h, decide_eq_false fun z => h (by injection z with z; omega)]
abbrev NAc : List Str := ["wiring", "row", "found", "at"]
theorem scAct : FnScope NAc ["wiring", "row"] (defScope s_acting) := ⟨rfl, rfl, rfl, by decide +kernel, rfl, by decide +kernel, by decide +kernel⟩
theorem k_acting (T : Tx K mg) : FnK PR w K mg base 4 "acting" ["wiring", "row"] (spAsk (He.ga K "Wiring") (He.ga K "BadWiring") (He.ga K "BadRow") RAct) :=
  mkX T.g_acting T.f_acting scAct (fun vs H Q E h => by obtain ⟨x, y, rfl, _⟩ := h; rfl) (fun _ _ _ _ _ _ us hl => match us, hl with | [_, _], _ => rfl) fun cdv A outer s H vs Q E hr h => by
    obtain ⟨x, y, rfl, q⟩ := h
    have hr2 : Room 2 _ := hr.mono (by decide)
    refine ⟨_, pss_cons (ps_expr (pe_d (k_nw T) hr2 (passE (takes_of rfl rfl rfl rfl)) (pa_cons (pv 0) pa_nil)))
      (pss_cons (ps_expr (pe_f (k_nr T) hr (passE (takes_of rfl rfl rfl rfl)) (pa_cons (pv 0) (pa_cons (pv 1) pa_nil))))
      (pss_cons (ps_set (i := 2) scAct.nd rfl (Or.inr rfl) (pe_f (k_rows T) hr passL (pa_cons (pv 0) (pa_cons (pv 1) pa_nil))))
      (pss_one (ps_ret (pe_tupleOf rfl T.n_tuple (pe_lc (own := [("at", 3)]) (g := gName 3) rfl scAct.nd (pi_range1 rfl T.n_range (pa_cons (pe_callB (r := rLen K) call_len rfl T.n_len b_len (pa_cons (pe_fld (pv 0) rfl) pa_nil)) pa_nil)) (blkOk_by (N := NAc) (sc := defScope s_acting) (by decide +kernel)) (fun _ _ _ _ _ => pg_name (i := 3) scAct.nd rfl (Or.inl rfl))
          (fun _ _ _ _ _ => pts_one (pt_cmpR op_ne (pe_ix (r := rIx K) ix_seq (pv 2) (pv 3) fun _ _ => rfl) (pe_ix (r := rIx K) ix_seq (pv 2) (pe_op op_add (pv 3) pe_int) fun _ _ => rfl) (nomark _))) (fun _ _ _ _ _ => pv 3))))))), ?_⟩
    rcases q with ⟨p, n, as, r, rfl, rfl, n8, W, hlen, hr8, q⟩ | ⟨nw, q⟩ | ⟨p, n, as, rfl, n8, W, bad, q⟩
    · refine ⟨_, rfl, _, _, rfl, .inl ⟨p, n, as, rfl, W, ?_⟩⟩
      refine ⟨_, rfl, _, rfl, p, n, as, _, rfl, n8, W, .inl ⟨r, rfl, hr8, ?_⟩⟩
      refine ⟨_, rfl, _, rfl, p, n, as, r, rfl, n8, W, hlen, fun H1 f s1 hf hfl => ?_⟩
      have gl : (gsOf as).length = as.length := List.length_map _
      obtain ⟨dx, t, hv, h1, h2, h3⟩ := W.same s1
      dsimp only [tRet, tThen, gName]
      refine lc_rng (n := as.length) (fun Q h => ⟨_, rfl, p, _, dx, _, _, rfl, h1, T.c_Wiring, T.no_Wiring_gates, wirF_gates n t hv, _, _, rfl, .inr ⟨_, .inl (.inl h2), rfl⟩, by rw [refs_len]; exact h⟩) (by omega) (fun i => natV ((List.range i).filter fun i => !decide (runN ((gsOf as).take i) r = runN ((gsOf as).take (i + 1)) r))) rfl (fun D hD i H2 hi p2 => ?_) (fun D H2 hD s2 e2 => ?_)
      · have hf2 := p2.1 _ _ hfl
        have z1 := atI_nat (natV_get (film_at (gs := gsOf as) (i := i) (by omega) r))
        have z2 := atI_nat (natV_get (film_at (gs := gsOf as) (i := i + 1) (by omega) r))
        have e1 : ((i : Int) + 1) = (((i + 1 : Nat)) : Int) := by omega
        refine ⟨rfl, _, rfl, _, rfl, .inl ⟨f, _, _, _, rfl, rfl, .inl (.inl hf2), z1, ?_⟩⟩
        refine ⟨_, rfl, _, rfl, _, _, rfl, rfl, .inl ⟨f, _, _, _, rfl, rfl, .inl (.inl hf2), e1 ▸ z2, rfl, _, rfl, ?_⟩⟩
        rw [dec_nat]
        refine ifB (fun c => ?_) fun c => ?_
        · exact ⟨_, rfl, acc_yes p2 hD (by have := filt_len (p := fun i => !decide (runN ((gsOf as).take i) r = runN ((gsOf as).take (i + 1)) r)) i; omega) (Same.refl _) (filt_yes c)⟩
        · exact acc_no p2 (Same.refl _) (filt_no c)
      · rw [← gl] at e2
        exact .inl ⟨D, _, rfl, .inl (.inl e2), fun u hu => q _ u (s1.trans (s2.trans (same_new hu))) upd_same⟩
    · exact ⟨_, rfl, _, _, rfl, .inr ⟨nw, fun d hd => q H d (Same.refl _) hd⟩⟩
    · refine ⟨_, rfl, _, _, rfl, .inl ⟨p, n, as, rfl, W, ?_⟩⟩
      exact ⟨_, rfl, _, rfl, p, n, as, _, rfl, n8, W, .inr ⟨bad, q⟩⟩
end
end Kl
set_option maxHeartbeats 4000000
/-! ## columns_of, act -/
namespace Kl
open PySem PySem.Spec PyProof.Rows L2
theorem map_range_more (f : Nat → V) (i : Nat) : (List.range (i + 1)).map f = (List.range i).map f ++ [f i] := by
  rw [List.range_succ, List.map_append]
  rfl
section
variable {w : World} {K : PySem.W.Frag} {mg : Str → Option Value} {base : Heap}
def spCols : Sp := fun vs H Q _ => ∃ n : Nat, vs = [.int n] ∧ n ≤ 8 ∧ ∀ H' f, Same H H' → H f = none → H' f = some (.lst (natV (colsN n))) → Q (.ref f) H'
abbrev NCo : List Str := ["lamps", "lamp", "row"]
theorem scCols : FnScope NCo ["lamps"] (defScope s_columns_of) := ⟨rfl, rfl, rfl, by decide +kernel, rfl, by decide +kernel, by decide +kernel⟩
theorem filt_yesF {p : Nat → Bool} {f : Nat → V} {i : Nat} (h : p i = true) : ((List.range (i + 1)).filter p).map f = ((List.range i).filter p).map f ++ [f i] := by
  rw [List.range_succ, List.filter_append, List.map_append]
  simp [h]
theorem filt_noF {p : Nat → Bool} {f : Nat → V} {i : Nat} (h : p i = false) : ((List.range (i + 1)).filter p).map f = ((List.range i).filter p).map f := by
  rw [List.range_succ, List.filter_append, List.map_append]
  simp [h]
theorem filt_lenF {p : Nat → Bool} {f : Nat → V} (i : Nat) : (((List.range i).filter p).map f).length ≤ i := by
  rw [List.length_map]
  have := List.length_filter_le p (List.range i)
  rwa [List.length_range] at this
theorem k_cols (T : Tx K mg) : FnK PR w K mg base 2 "columns_of" ["lamps"] spCols :=
  mkK T.g_columns_of T.f_columns_of scCols (fun vs H Q E h => by obtain ⟨n, rfl, _⟩ := h; rfl) (fun _ _ _ _ _ _ us hl => match us, hl with | [_], _ => rfl) fun cdv A outer s H vs Q E hr h => by
    obtain ⟨n, rfl, n8, q⟩ := h
    refine ⟨_, pss_one (ps_ret (pe_lc (own := [("lamp", 1)]) (g := gName 1) (tt := tYes) rfl scCols.nd (pi_range1 rfl T.n_range (pa_cons (pv 0) pa_nil)) (blkOk_by (N := NCo) (sc := defScope s_columns_of) (by decide +kernel)) (fun _ _ _ _ _ => pg_name (i := 1) scCols.nd rfl (Or.inr rfl)) (fun _ _ _ _ _ => pts_nil)
      (fun _ _ _ _ _ => pe_callB (r := rSum K) (cr_sum rfl) rfl T.n_sum b_sum (pa_cons (pe_lc (own := [("row", 2)]) (g := gName 2) (tt := tB (tCall spLit [] E0 (tCons (tVar 2) (tCons (tVar 1) tNil)))) rfl scCols.nd (pi_range1 rfl T.n_range (pa_cons (pe_op op_shl pe_int (pv 0)) pa_nil)) (blkOk_by (N := NCo) (by rfl)) (fun _ _ _ _ _ => pg_name (i := 2) scCols.nd rfl (Or.inl rfl)) (fun _ _ _ _ _ => pts_one (pt_val (pe_f (k_lit T) hr passL (pa_cons (pv 2) (pa_cons (pv 1) pa_nil)))))
        (fun _ _ _ _ _ => pe_op op_shl pe_int (pv 2))) pa_nil)))), ?_⟩
    have h28 := pow8 n8
    dsimp only [tRet]
    refine lc_rng (H1 := H) (n := n) (fun Q h => ⟨_, rfl, h⟩) (by omega) (fun i => natV ((List.range i).map (colN n))) rfl (fun D hD i H2 hi p => ?_) (fun D H2 hD s2 e2 => q H2 D s2 hD e2)
    refine ⟨rfl, yes_if ?_⟩
    refine cb_lc (lc_rng (H1 := H2) (n := 2 ^ n) (fun Q h => ?_) (by omega) (fun j => ((List.range j).filter fun r => r.testBit i).map fun r : Nat => V.int ((2 ^ r : Nat) : Int)) rfl (fun D2 hD2 j H3 hj p3 => ?_) (fun D2 H3 hD2 s3 e3 => ?_))
    · refine ⟨_, rfl, _, _, rfl, rfl, cpow1 (by omega), ?_⟩
      show Q [V.int ((1 : Int) * 2 ^ ((n : Int)).toNat)] _
      rw [shl1]
      exact h
    · refine ⟨rfl, _, rfl, _, rfl, j, i, rfl, _, rfl, ifB (fun c => ?_) fun c => ?_⟩
      · refine ⟨_, rfl, _, _, rfl, rfl, cpow1 (by omega), acc_yes p3 hD2 (by have := filt_lenF (p := fun r => r.testBit i) (f := fun r : Nat => V.int ((2 ^ r : Nat) : Int)) j; omega) (Same.refl _) ?_⟩
        show _ = _ ++ [V.int ((1 : Int) * 2 ^ ((j : Int)).toNat)]
        rw [shl1]
        exact filt_yesF c
      · exact acc_no p3 (Same.refl _) (filt_noF c)
    · refine ⟨D2, (((List.range (2 ^ n)).filter fun r => r.testBit i).map fun r => 2 ^ r).map (fun n : Nat => (n : Int)), rfl, .inl (.inl (by rw [e3, List.map_map, List.map_map]; rfl)), ?_⟩
      rw [sum_cast]
      refine acc_yes p hD (by rw [natV_len, List.length_map, List.length_range]; omega) s3 ?_
      rw [List.range_succ, List.map_append, natV_app]
      rfl
end
end Kl
set_option maxHeartbeats 4000000
/-! ## act, columns_behind, goals_of -/
namespace Kl
open PySem PySem.Spec PyProof.Rows L2
theorem natV_getD {cs : List Nat} {i : Nat} (h : i < cs.length) : atI (natV cs) (i : Int) = some (V.int ((cs.getD i 0 : Nat) : Int)) := by
  refine atI_nat (natV_get ?_)
  rw [List.getD_eq_getElem?_getD, List.getElem?_eq_getElem h]
  rfl
theorem natV_set (cs : List Nat) (i v : Nat) : (natV cs).set i (V.int ((v : Nat) : Int)) = natV (cs.set i v) := (List.map_set).symm
theorem ixN_nat {n i : Nat} (h : i < n) : ixN n (i : Int) = some i := by
  unfold ixN
  rw [if_pos (by omega), if_pos (by omega)]
  simp
section
variable {w : World} {K : PySem.W.Frag} {mg : Str → Option Value} {base : Heap}
def spAct : Sp := fun vs H Q _ => ∃ (g a : Addr) (gt : G) (cs : List Nat) (n : Nat), vs = [.ref g, .ref a] ∧ n ≤ 8 ∧ GateAt H g gt ∧ Ok n gt ∧ H a = some (.lst (natV cs)) ∧ cs.length = n ∧ ∀ H' f, Same H H' → H' f = some (.lst (natV (actC gt cs))) → Q (.ref f) H'
abbrev NAct : List Str := ["gate", "columns", "hands", "one", "other", "moved", "hand", "found"]
theorem scActs : FnScope NAct ["gate", "columns"] (defScope s_act) := ⟨rfl, rfl, rfl, by decide +kernel, rfl, by decide +kernel, by decide +kernel⟩
theorem k_act (T : Tx K mg) : FnK PR w K mg base 1 "act" ["gate", "columns"] spAct :=
  mkK T.g_act T.f_act scActs (fun vs H Q E h => by obtain ⟨g, a, gt, cs, n, rfl, _⟩ := h; rfl) (fun _ _ _ _ _ _ us hl => match us, hl with | [_, _], _ => rfl) fun cdv A outer s H vs Q E hr h => by
    obtain ⟨g, a, gt, cs, n, rfl, n8, ⟨b, hg, hb⟩, k, ha, hl, q⟩ := h
    refine ⟨_, pss_cons (ps_asg (pv 0) (pg_tup rfl (pgs_cons (pg_name (i := 2) scActs.nd rfl (Or.inl rfl)) (pgs_cons (pg_name (i := 3) scActs.nd rfl (Or.inl rfl)) (pgs_cons (pg_name (i := 4) scActs.nd rfl (Or.inl rfl)) pgs_nil)))))
      (pss_cons (ps_set (i := 5) scActs.nd rfl (Or.inl rfl) (pe_op op_xor (pe_ix ix_seq (pv 1) (pv 3) fun _ _ => rfl) (pe_ix ix_seq (pv 1) (pv 4) fun _ _ => rfl)))
      (pss_cons (ps_for PassesOwn.never rfl (pi_tup (pv 2)) (pg_name (i := 6) scActs.nd rfl (Or.inl rfl)) (pss_one (ps_set (i := 5) scActs.nd rfl (Or.inl rfl) (pe_op op_and (pv 5) (pe_ix ix_seq (pv 1) (pv 6) fun _ _ => rfl)))))
      (pss_cons (ps_set (i := 7) scActs.nd rfl (Or.inl rfl) (pe_callTy call_list_of rfl T.n_list b_list (pa_cons (pv 1) pa_nil)))
      (pss_cons (ps_asg (pe_tup (pa_cons (pe_op op_xor (pe_ix ix_seq (pv 1) (pv 3) fun _ _ => rfl) (pv 5)) (pa_cons (pe_op op_xor (pe_ix ix_seq (pv 1) (pv 4) fun _ _ => rfl) (pv 5)) pa_nil))) (pg_tup rfl (pgs_cons (pg_sub (pv 7) (pv 3) set_list) (pgs_cons (pg_sub (pv 7) (pv 4) set_list) pgs_nil))))
      (pss_one (ps_ret (pv 7))))))), ?_⟩
    have o1 : gt.2.1 < cs.length := by rw [hl]; exact k.one
    have o2 : gt.2.2 < cs.length := by rw [hl]; exact k.other
    refine ⟨_, rfl, g, _, rfl, .inl (.inl hg), rfl, _, _, rfl, _, _, rfl, _, _, rfl, rfl, ?_⟩
    refine ⟨_, rfl, _, rfl, .inl ⟨a, _, _, _, rfl, rfl, .inl (.inl ha), natV_getD o1, _, rfl, _, rfl, .inl ⟨a, _, _, _, rfl, rfl, .inl (.inl ha), natV_getD o2, _, _, rfl, rfl, ?_⟩⟩⟩
    refine ⟨_, rfl, b, rfl, ⟨_, .inl (.inl hb)⟩, ?_⟩
    refine for_tup (K := K) (a := b) (xs := natV gt.1) (fun i σ H' => ∃ v : Option V, σ = [some (.ref g), some (.ref a), some (.ref b), some (.int (gt.2.1 : Nat)), some (.int (gt.2.2 : Nat)), some (.int (((gt.1.take i).foldl (fun m h => m &&& cs.getD h 0) (cs.getD gt.2.1 0 ^^^ cs.getD gt.2.2 0) : Nat) : Int)), v, none] ∧ H' = H) ⟨none, ?_, rfl⟩ (fun i σ H' _ ⟨_, _, e⟩ => .inl (.inl (by rw [e]; exact hb))) ?_ ?_
    · show [_, _, _, _, _, some (V.int (Builtin.bitXor ((cs.getD gt.2.1 0 : Nat) : Int) ((cs.getD gt.2.2 0 : Nat) : Int))), _, _] = _
      rw [bxor_nat]
      rfl
    · rintro i x σ H' hx ⟨v, rfl, rfl⟩
      obtain ⟨z, hz, rfl⟩ := natV_at hx
      have hzl : z < cs.length := by rw [hl]; exact (k.hands z (List.mem_of_getElem? hz)).1
      refine ⟨_, rfl, _, rfl, _, rfl, .inl ⟨a, _, _, _, rfl, rfl, .inl (.inl ha), natV_getD hzl, _, _, rfl, rfl, some (.int (z : Nat)), ?_, rfl⟩⟩
      show [_, _, _, _, _, some (V.int (Builtin.bitAnd _ _)), _, _] = _
      rw [band_nat, take_more hz, List.foldl_append]
      rfl
    · rintro σ H' ⟨v, rfl, rfl⟩
      rw [natV_len, List.take_length]
      have em : gt.1.foldl (fun m h => m &&& cs.getD h 0) (cs.getD gt.2.1 0 ^^^ cs.getD gt.2.2 0) = movN gt cs := rfl
      rw [em]
      refine ⟨_, rfl, a, _, rfl, .inl (.inl (.inl ha)), fun f hf => ?_⟩
      have fa : a ≠ f := ne_of_none ha hf
      have s1 : Same H' (upd H' f (.lst (natV cs))) := same_new hf
      have ha1 := s1 _ _ ha
      refine ⟨_, rfl, _, rfl, .inl ⟨a, _, _, _, rfl, rfl, .inl (.inl ha1), natV_getD o1, _, rfl, _, _, rfl, rfl, ?_⟩⟩
      refine ⟨_, rfl, _, rfl, .inl ⟨a, _, _, _, rfl, rfl, .inl (.inl ha1), natV_getD o2, _, rfl, _, _, rfl, rfl, by show 2 ≤ sizeLine; decide, fun u hu => ?_⟩⟩
      have uf : u ≠ f := fun z => by
        rw [z, upd_same] at hu
        cases hu
      have hu0 : H' u = none := by
        rw [upd_ne uf] at hu
        exact hu
      refine ⟨u, _, rfl, .inl (.inl upd_same), rfl, _, _, rfl, ?_⟩
      refine ⟨_, rfl, _, rfl, f, natV cs, _, gt.2.1, rfl, rfl, by rw [upd_ne (Ne.symm uf), upd_same], ixN_nat (by rw [natV_len]; exact o1), ?_⟩
      refine ⟨_, _, rfl, _, rfl, _, rfl, f, _, _, gt.2.2, rfl, rfl, upd_same, ixN_nat (by rw [List.length_set, natV_len]; exact o2), rfl, ?_⟩
      refine ⟨_, rfl, q _ f (fun c o e => ?_) ?_⟩
      · have cf : c ≠ f := ne_of_none e hf
        have cu : c ≠ u := ne_of_none e hu0
        rw [upd_ne cf, upd_ne cf, upd_ne cu, upd_ne cf]
        exact e
      · rw [upd_same]
        show some (HO.lst (((natV cs).set gt.2.1 (V.int (Builtin.bitXor ((cs.getD gt.2.1 0 : Nat) : Int) ((movN gt cs : Nat) : Int)))).set gt.2.2 (V.int (Builtin.bitXor ((cs.getD gt.2.2 0 : Nat) : Int) ((movN gt cs : Nat) : Int))))) = _
        rw [bxor_nat, bxor_nat, natV_set, natV_set]
        rfl
end
end Kl
set_option maxHeartbeats 4000000
/-! ## columns_behind, goals_of, table_of, first_unlike -/
namespace Kl
open PySem PySem.Spec PyProof.Rows L2
section
variable {w : World} {K : PySem.W.Frag} {mg : Str → Option Value} {base : Heap}
def spBehind : Sp := fun vs H Q _ => ∃ (n : Nat) (t : Addr) (as : List AG), vs = [.int n, .ref t] ∧ n ≤ 8 ∧ H t = some (.tup (refs as)) ∧ Gates H n as ∧ ∀ H' f cs, Same H H' → H' f = some (.lst (natV cs)) → Cols n (runN (gsOf as)) cs → Q (.ref f) H'
abbrev NBe : List Str := ["lamps", "gates", "found", "gate"]
theorem scBe : FnScope NBe ["lamps", "gates"] (defScope s_columns_behind) := ⟨rfl, rfl, rfl, by decide +kernel, rfl, by decide +kernel, by decide +kernel⟩
theorem k_behind (T : Tx K mg) : FnK PR w K mg base 3 "columns_behind" ["lamps", "gates"] spBehind :=
  mkK T.g_columns_behind T.f_columns_behind scBe (fun vs H Q E h => by obtain ⟨n, t, as, rfl, _⟩ := h; rfl) (fun _ _ _ _ _ _ us hl => match us, hl with | [_, _], _ => rfl) fun cdv A outer s H vs Q E hr h => by
    obtain ⟨n, t, as, rfl, n8, ht, G, q⟩ := h
    have hr1 : Room 1 _ := hr.mono (by decide)
    refine ⟨_, pss_cons (ps_set (i := 2) scBe.nd rfl (Or.inl rfl) (pe_f (k_cols T) hr passL (pa_cons (pv 0) pa_nil)))
      (pss_cons (ps_for PassesOwn.never rfl (pi_tup (pv 1)) (pg_name (i := 3) scBe.nd rfl (Or.inl rfl)) (pss_one (ps_set (i := 2) scBe.nd rfl (Or.inl rfl) (pe_f (k_act T) hr1 passL (pa_cons (pv 3) (pa_cons (pv 2) pa_nil))))))
      (pss_one (ps_ret (pv 2)))), ?_⟩
    refine ⟨_, rfl, n, rfl, n8, fun H1 f s1 _ hf => ?_⟩
    refine ⟨_, rfl, t, rfl, ⟨_, .inl (.inl (s1 _ _ ht))⟩, ?_⟩
    refine for_tup (K := K) (a := t) (xs := refs as) (fun i σ H' => ∃ (v : Option V) (f : Addr) (cs : List Nat), σ = [some (.int (n : Nat)), some (.ref t), some (.ref f), v] ∧ Same H H' ∧ H' f = some (.lst (natV cs)) ∧ Cols n (runN ((gsOf as).take i)) cs) ⟨none, f, _, rfl, s1, hf, cols0 n⟩ (fun i σ H' _ ⟨_, _, _, _, s5, _⟩ => .inl (.inl (s5 _ _ ht))) ?_ ?_
    · rintro i x σ H' hx ⟨v, f, cs, rfl, s5, hfl, c⟩
      obtain ⟨g, hg, rfl⟩ := refs_at hx
      obtain ⟨gA, gO⟩ := G g (List.mem_of_getElem? hg)
      have hg2 : (gsOf as)[i]? = some g.2 := by rw [List.getElem?_map, hg]; rfl
      refine ⟨_, rfl, _, rfl, g.1, f, g.2, cs, n, rfl, n8, gA.same s5, gO, hfl, c.len, fun H6 f6 s6 h6 => ?_⟩
      exact ⟨some (.ref g.1), f6, _, rfl, s5.trans s6, h6, cols_more hg2 (act_cols gO c)⟩
    · rintro σ H' ⟨v, f, cs, rfl, s5, hfl, c⟩
      have gl : (gsOf as).length = as.length := List.length_map _
      rw [refs_len, ← gl, List.take_length] at c
      exact ⟨_, rfl, q H' f cs s5 hfl c⟩
def spGo : Sp := fun vs H Q _ => ∃ (n : Nat) (t : Addr) (as : List AG), vs = [.int n, .ref t] ∧ n ≤ 8 ∧ H t = some (.tup (refs as)) ∧ Gates H n as ∧ ∀ H' f, Same H H' → H' f = some (.lst (natV ((List.range (2 ^ n)).map (runN (gsOf as))))) → Q (.ref f) H'
abbrev NGo : List Str := ["lamps", "gates", "columns", "row", "lamp", "column"]
theorem scGo : FnScope NGo ["lamps", "gates"] (defScope s_goals_of) := ⟨rfl, rfl, rfl, by decide +kernel, rfl, by decide +kernel, by decide +kernel⟩
theorem ok_gates {n : Nat} {H : Hp} {as : List AG} (G : Gates H n as) : ∀ g ∈ gsOf as, Ok n g := fun g hg => by
  obtain ⟨q, h1, h2⟩ := List.mem_map.mp hg
  rw [← h2]
  exact (G q h1).2
theorem k_go (T : Tx K mg) : FnK PR w K mg base 4 "goals_of" ["lamps", "gates"] spGo :=
  mkK T.g_goals_of T.f_goals_of scGo (fun vs H Q E h => by obtain ⟨n, t, as, rfl, _⟩ := h; rfl) (fun _ _ _ _ _ _ us hl => match us, hl with | [_, _], _ => rfl) fun cdv A outer s H vs Q E hr h => by
    obtain ⟨n, t, as, rfl, n8, ht, G, q⟩ := h
    refine ⟨_, pss_cons (ps_set (i := 2) scGo.nd rfl (Or.inr rfl) (pe_f (k_behind T) hr passL (pa_cons (pv 0) (pa_cons (pv 1) pa_nil))))
      (pss_one (ps_ret (pe_lc (own := [("row", 3)]) (g := gName 3) (tt := tYes) rfl scGo.nd (pi_range1 rfl T.n_range (pa_cons (pe_op op_shl pe_int (pv 0)) pa_nil)) (blkOk_by (N := NGo) (sc := defScope s_goals_of) (by decide +kernel)) (fun _ _ _ _ _ => pg_name (i := 3) scGo.nd rfl (Or.inr rfl)) (fun _ _ _ _ _ => pts_nil)
        (fun _ _ _ _ _ => pe_callB (r := rSum K) (cr_sum rfl) rfl T.n_sum b_sum (pa_cons (pe_lc (own := [("lamp", 4), ("column", 5)]) (wi := iEnumS K (tCons (tVar 2) tNil)) (g := gTup K 2 (gCons (gName 4) (gCons (gName 5) gNil))) (tt := tYes) rfl scGo.nd (pi_enumS rfl T.n_enumerate (pa_cons (pv 2) pa_nil)) (blkOk_by (N := NGo) (by rfl))
          (fun _ _ _ _ _ => pg_tup rfl (pgs_cons (pg_name (i := 4) scGo.nd rfl (Or.inl rfl)) (pgs_cons (pg_name (i := 5) scGo.nd rfl (Or.inl rfl)) pgs_nil))) (fun _ _ _ _ _ => pts_nil)
          (fun _ _ _ _ _ => pe_op op_shl (pe_op op_and (pe_op op_shr (pv 5) (pv 3)) pe_int) (pv 4))) pa_nil))))), ?_⟩
    have h28 := pow8 n8
    refine ⟨_, rfl, _, rfl, n, t, as, rfl, n8, ht, G, fun H1 f cs s1 hf c => ?_⟩
    dsimp only [tRet, gName]
    refine lc_rng (H1 := H1) (n := 2 ^ n) (fun Q h => ?_) (by omega) (fun i => natV ((List.range i).map (runN (gsOf as)))) rfl (fun D hD r H2 hr2 p => ?_) (fun D H2 hD s2 e2 => q H2 D (s1.trans s2) e2)
    · refine ⟨_, rfl, _, _, rfl, rfl, cpow1 (by omega), ?_⟩
      show Q [V.int ((1 : Int) * 2 ^ ((n : Int)).toNat)] _
      rw [shl1]
      exact h
    · refine ⟨rfl, yes_if ?_⟩
      have hf2 := p.1 _ _ hf
      refine cb_lc (lc_enum rfl (.inl hf2) (fun i => (List.range i).map fun l : Nat => V.int ((((cs.getD l 0).testBit r).toNat * 2 ^ l : Nat) : Int)) rfl (fun D3 hD3 i x H4 P hx hi p4 nP => ?_) (fun D3 H4 hD3 s4 e4 => ?_))
      · obtain ⟨z, hz, rfl⟩ := natV_at hx
        have hi8 : i < 8 := by rw [natV_len, c.len] at hi; omega
        have ez : cs.getD i 0 = z := by rw [List.getD_eq_getElem?_getD, hz]; rfl
        have eb : Builtin.bitAnd ((z : Int) / 2 ^ ((r : Int)).toNat) 1 = (((z.testBit r).toNat : Nat) : Int) := lit_int z r
        refine ⟨P, _, rfl, .inl (.inl upd_same), rfl, _, _, rfl, _, _, rfl, rfl, rfl, yes_if ?_⟩
        refine ⟨_, rfl, _, rfl, _, _, rfl, rfl, Int.natCast_nonneg _, _, _, rfl, rfl, _, rfl, _, _, rfl, rfl, ?_, ?_⟩
        · show CPow (Builtin.bitAnd ((z : Int) / 2 ^ ((r : Int)).toNat) 1) (i : Int)
          rw [eb]
          refine ⟨Int.natCast_nonneg _, by omega, ?_⟩
          cases z.testBit r <;> decide
        · refine acc_yes p4 hD3 (by rw [List.length_map, List.length_range]; omega) (same_new nP) ?_
          show _ = _ ++ [V.int (Builtin.bitAnd ((z : Int) / 2 ^ ((r : Int)).toNat) 1 * 2 ^ ((i : Int)).toNat)]
          rw [map_range_more, eb, ez]
          congr 3
      · rw [natV_len, c.len] at e4
        refine ⟨D3, ((List.range n).map fun l : Nat => ((cs.getD l 0).testBit r).toNat * 2 ^ l).map (fun n : Nat => (n : Int)), rfl, .inl (.inl (by rw [e4, List.map_map, List.map_map]; rfl)), ?_⟩
        rw [sum_cast, cols_row c hr2 (run_lt (ok_gates G) hr2)]
        refine acc_yes p hD (by rw [natV_len, List.length_map, List.length_range]; omega) s4 ?_
        rw [List.range_succ, List.map_append, natV_app]
        rfl
end
end Kl
set_option maxHeartbeats 4000000
/-! ## table_of, first_unlike -/
namespace Kl
open PySem PySem.Spec PyProof.Rows L2
abbrev goalsN (n : Nat) (gs : List G) : List Nat := (List.range (2 ^ n)).map (runN gs)
theorem goals_ok {n : Nat} {gs : List G} (h : ∀ g ∈ gs, Ok n g) (n8 : n ≤ 8) : GoalsOk n (goalsN n gs) := by
  have h28 := pow8 n8
  refine ⟨by rw [List.length_map, List.length_range], fun g hg => ?_, ?_, fun i g hg => ?_⟩
  · obtain ⟨r, hr, rfl⟩ := List.mem_map.mp hg
    exact run_lt h (List.mem_range.mp hr)
  · show List.Pairwise (· ≠ ·) _
    rw [List.pairwise_map]
    exact List.nodup_range.imp fun hne e => hne (run_inj h e)
  · obtain ⟨hi, rfl⟩ := goals_get hg
    exact (wt_run (fun g hg => (h g hg).up n8) (by omega)).symm
section
variable {w : World} {K : PySem.W.Frag} {mg : Str → Option Value} {base : Heap}
def spTabOf (C CT CB : Addr) : Sp := fun vs H Q E => ∃ x : V, vs = [x] ∧ ((∃ (p : Addr) (n : Nat) (as : List AG), x = .ref p ∧ 1 ≤ n ∧ n ≤ 8 ∧ WirAt C H p n as ∧ ∀ H' q, Same H H' → TableAt CT H' q n (goalsN n (gsOf as)) → Q (.ref q) H') ∨ (NotW H x ∧ Err E CB "wiring" H))
theorem scTabOf : FnScope ["wiring"] ["wiring"] (defScope s_table_of) := ⟨rfl, rfl, rfl, by decide +kernel, rfl, by decide +kernel, by decide +kernel⟩
theorem k_tabof (T : Tx K mg) : FnK PR w K mg base 7 "table_of" ["wiring"] (spTabOf (He.ga K "Wiring") (He.ga K "Table") (He.ga K "BadWiring")) :=
  mkX T.g_table_of T.f_table_of scTabOf (fun vs H Q E h => by obtain ⟨x, rfl, _⟩ := h; rfl) (fun _ _ _ _ _ _ us hl => match us, hl with | [_], _ => rfl) fun cdv A outer s H vs Q E hr h => by
    obtain ⟨x, rfl, q⟩ := h
    have hr2 : Room 2 _ := hr.mono (by decide)
    have hr4 : Room 4 _ := hr.mono (by decide)
    refine ⟨_, pss_cons (ps_expr (pe_d (k_nw T) hr2 (passE (takes_of rfl rfl rfl rfl)) (pa_cons (pv 0) pa_nil)))
      (pss_one (ps_ret (pe_mk (f_tinit T) T.mk_Table T.g_Table hr passL (pa_cons (pe_fld (pv 0) rfl) (pa_cons (pe_f (k_go T) hr4 passL (pa_cons (pe_fld (pv 0) rfl) (pa_cons (pe_fld (pv 0) rfl) pa_nil))) pa_nil))))), ?_⟩
    rcases q with ⟨p, n, as, rfl, n1, n8, W, q⟩ | ⟨nw, q⟩
    · refine ⟨_, rfl, _, _, rfl, .inl ⟨p, n, as, rfl, W, ?_⟩⟩
      obtain ⟨dx, t, hv, h1, h2, h3⟩ := W
      refine ⟨_, rfl, p, _, dx, _, _, rfl, h1, T.c_Wiring, T.no_Wiring_lamps, wirF_lamps n t hv, ?_⟩
      refine ⟨_, rfl, p, _, dx, _, _, rfl, h1, T.c_Wiring, T.no_Wiring_lamps, wirF_lamps n t hv, _, rfl, p, _, dx, _, _, rfl, h1, T.c_Wiring, T.no_Wiring_gates, wirF_gates n t hv, ?_⟩
      refine ⟨n, t, as, rfl, n8, h2, h3, fun H1 f s1 hf => ?_⟩
      intro z dz nz nd nzd
      have f1 : (upd (upd H1 dz (.own z)) z (.ins (He.ga K "Table") dz [])) f = some (.lst (natV (goalsN n (gsOf as)))) := by
        rw [upd_ne (ne_of_none hf nz), upd_ne (ne_of_none hf nd)]
        exact hf
      refine ⟨z, dz, n, f, _, rfl, upd_same, n1, n8, .inl f1, goals_ok (ok_gates h3) n8, fun H2 tab kp => ⟨rfl, q H2 z (s1.trans (Same.made nz nd kp)) tab⟩⟩
    · exact ⟨_, rfl, _, _, rfl, .inr ⟨nw, fun d hd => q H d (Same.refl _) hd⟩⟩
def spFirst (C CB CT : Addr) : Sp := fun vs H Q E => ∃ x y : V, vs = [x, y] ∧ ((NotW H x ∧ Err E CB "wiring" H) ∨ (∃ (p : Addr) (n : Nat) (as : List AG), x = .ref p ∧ WirAt C H p n as ∧ NotW H y ∧ Err E CT "table" H))
theorem scFirst : FnScope ["wiring", "table"] ["wiring", "table"] (defScope s_first_unlike) := ⟨rfl, rfl, rfl, by decide +kernel, rfl, by decide +kernel, by decide +kernel⟩
theorem k_first (T : Tx K mg) : FnK PR w K mg base 4 "first_unlike" ["wiring", "table"] (spFirst (He.ga K "Wiring") (He.ga K "BadWiring") (He.ga K "BadTable")) :=
  mkX T.g_first_unlike T.f_first_unlike scFirst (fun vs H Q E h => by obtain ⟨x, y, rfl, _⟩ := h; rfl) (fun _ _ _ _ _ _ us hl => match us, hl with | [_, _], _ => rfl) fun cdv A outer s H vs Q E hr h => by
    obtain ⟨x, y, rfl, q⟩ := h
    have hr2 : Room 2 _ := hr.mono (by decide)
    refine ⟨_, pss_cons (ps_expr (pe_d (k_nw T) hr2 (passE (takes_of rfl rfl rfl rfl)) (pa_cons (pv 0) pa_nil)))
      (pss_cons (ps_if (pt_not (pt_val (pe_callB call_isi rfl T.n_isinstance b_isi (pa_cons (pv 1) (pa_cons (pe_glob (v := .ref (He.ga K "Table")) rfl T.g_Table rfl) pa_nil))))) (pss_one (ps_rs rfl rfl T.e_BadTable T.g_BadTable T.n_super hr2 (takes_of rfl rfl rfl rfl) (pa_cons pe_str pa_nil))) pss_nil)
      pss_never), ?_⟩
    rcases q with ⟨nw, q⟩ | ⟨p, n, as, rfl, W, nw, q⟩
    · exact ⟨_, rfl, _, _, rfl, .inr ⟨nw, fun d hd => q H d (Same.refl _) hd⟩⟩
    · obtain ⟨t, ty, kt⟩ := notW_kit T nw (.inr rfl)
      refine ⟨_, rfl, _, _, rfl, .inl ⟨p, n, as, rfl, W, ?_⟩⟩
      exact ⟨_, rfl, _, _, _, _, false, rfl, .own _, ty, kt, false, rfl, iteT ⟨_, rfl, fun d hd => q H d (Same.refl _) hd⟩⟩
end
end Kl
set_option maxHeartbeats 4000000
/-! ## The law's cinema -/
namespace Kl
open PySem PySem.Spec PyProof.Rows L2
/-- all but the cinema stays -/
def But (c : Addr) (H H' : Hp) : Prop := ∀ b o, b ≠ c → H b = some o → H' b = some o
theorem But.refl (c : Addr) (H : Hp) : But c H H := fun _ _ _ h => h
theorem But.trans {c : Addr} {H H1 H2 : Hp} (a : But c H H1) (b : But c H1 H2) : But c H H2 := fun x o n h => b x o n (a x o n h)
theorem but_same {c : Addr} {H H' : Hp} (s : Same H H') : But c H H' := fun b o _ e => s b o e
theorem but_upd {c : Addr} {H : Hp} {o : HO} : But c H (upd H c o) := fun b u n e => by rw [upd_ne n]; exact e
/-- the cinema at c, its cells at l, T or fewer turns taken -/
def Cin (H : Hp) (c l : Addr) (T : Nat) : Prop := ∃ (ms : List Int) (t : Nat) (left : Int), H c = some (.lst [.ref l, .int t, .int left]) ∧ H l = some (.lst (ms.map V.int)) ∧ ms.length ≤ 60 ∧ t ≤ T ∧ 0 ≤ left
theorem Cin.up {H : Hp} {c l : Addr} {T T' : Nat} (h : Cin H c l T) (z : T ≤ T') : Cin H c l T' := by
  obtain ⟨ms, t, left, h1, h2, h3, h4, h5⟩ := h
  exact ⟨ms, t, left, h1, h2, h3, Nat.le_trans h4 z, h5⟩
theorem Cin.same {H H' : Hp} {c l : Addr} {T : Nat} (h : Cin H c l T) (s : Same H H') : Cin H' c l T := by
  obtain ⟨ms, t, left, h1, h2, h3⟩ := h
  exact ⟨ms, t, left, s _ _ h1, s _ _ h2, h3⟩
theorem Cin.get {H : Hp} {c l : Addr} {T : Nat} (h : Cin H c l T) : ∃ xs, H c = some (.lst xs) := by
  obtain ⟨ms, t, left, h1, _⟩ := h
  exact ⟨_, h1⟩
theorem Cin.getl {H : Hp} {c l : Addr} {T : Nat} (h : Cin H c l T) : ∃ xs, H l = some (.lst xs) := by
  obtain ⟨ms, t, left, h1, h2, _⟩ := h
  exact ⟨_, h2⟩
theorem Cin.put {H : Hp} {c l f : Addr} {T : Nat} {o : HO} (h : Cin H c l T) (n1 : c ≠ f) (n2 : l ≠ f) : Cin (upd H f o) c l T := by
  obtain ⟨ms, t, left, h1, h2, h3⟩ := h
  exact ⟨ms, t, left, (upd_ne n1).trans h1, (upd_ne n2).trans h2, h3⟩
theorem but_t {c l : Addr} {H H' : Hp} {T : Nat} (h : Cin H c l T) (s : But c H H') : SameT H H' := fun b xs e => s b _ (fun z => by
  obtain ⟨ys, q⟩ := h.get
  rw [z, q] at e
  cases e) e
/-- what is no list is not the cinema -/
theorem Cin.ne {H : Hp} {c l a : Addr} {T : Nat} {o : HO} (h : Cin H c l T) (e : H a = some o) (n : ∀ xs, o ≠ .lst xs) : a ≠ c := fun z => by
  obtain ⟨ys, q⟩ := h.get
  rw [z, q] at e
  exact n ys (Option.some.inj e).symm
theorem dp_lst {K : PySem.W.Frag} {H : Hp} {t : Addr} {ms : List Int} (h : H t = some (.lst (ms.map V.int))) : Dp K H (.ref t) (.list (ms.map PyData.int)) := .lst (.inl (.inl h)) (dpAll_ints _)
theorem shaped_lst (ns : List Int) : SeqAt.shaped (.list (ns.map PyData.int)) = true := by
  have z := shaped_tup ns
  unfold SeqAt.shaped at z ⊢
  simp only [PyData.canLay0, PyData.depth] at z ⊢
  exact z
theorem eqv_nil (ds : List PyData) : PyData.eqv (.list ds) (.list []) = ds.isEmpty := by
  cases ds <;> simp [PyData.eqv, PyData.eqvAll]
section
variable {w : World} {K : PySem.W.Frag} {mg : Str → Option Value} {base : Heap}
def spReel : Sp := fun vs H Q _ => ∃ (c l : Addr) (m : Int) (T : Nat), vs = [.ref c, .int m] ∧ 0 < m ∧ m < 1073741824 ∧ T ≤ 100000 ∧ Cin H c l T ∧ ∀ H' r, But c H H' → Cin H' c l (T + 1) → 0 ≤ r → r < m → Q (.int r) H'
abbrev NRe : List Str := ["_law_cinema_here", "_law_many", "_law_left", "_law_turn", "_law_cell", "_law_mixed"]
theorem scReel : FnScope NRe ["_law_cinema_here", "_law_many"] (defScope s_l_reel) := ⟨rfl, rfl, rfl, by decide +kernel, rfl, by decide +kernel, by decide +kernel⟩
theorem k_reel (T : Tx K mg) : FnK PR w K mg base 1 "_law_reel" ["_law_cinema_here", "_law_many"] spReel :=
  mkK T.g_l_reel T.f_l_reel scReel (fun vs H Q E h => by obtain ⟨c, l, m, T, rfl, _⟩ := h; rfl) (fun _ _ _ _ _ _ us hl => match us, hl with | [_, _], _ => rfl) fun cdv A outer s H vs Q E hr h => by
    obtain ⟨c, l, m, T0, rfl, m0, m1, hT, ⟨ms, t, left, hc, hl, hms, ht, hleft⟩, q⟩ := h
    refine ⟨_, pss_cons (ps_if (pt_cmpR op_gt (pe_ix ix_seq (pv 0) pe_int fun _ _ => rfl) pe_int (nomark _))
        (pss_cons (ps_set (i := 2) scReel.nd rfl (Or.inl rfl) (pe_callTy call_int1 rfl T.n_int b_int (pa_cons (pe_ix ix_seq (pv 0) pe_int fun _ _ => rfl) pa_nil)))
        (pss_cons (ps_asg (pe_op op_fdiv (pv 2) (pv 1)) (pg_sub (pv 0) pe_int set_list))
        (pss_one (ps_ret (pe_op op_mod (pe_callTy call_int1 rfl T.n_int b_int (pa_cons (pv 2) pa_nil)) (pv 1)))))) pss_nil)
      (pss_cons (ps_set (i := 3) scReel.nd rfl (Or.inl rfl) (pe_ix ix_seq (pv 0) pe_int fun _ _ => rfl))
      (pss_cons (ps_asg (pe_op op_add (pv 3) pe_int) (pg_sub (pv 0) pe_int set_list))
      (pss_cons (ps_set (i := 4) scReel.nd rfl (Or.inl rfl) (pe_op op_add (pe_op op_mul pe_int (pv 3)) pe_int))
      (C8.pss_cut (ps_if (pt_cmpR (op_neD hr.units) (pe_ix ix_seq (pv 0) pe_int fun _ _ => rfl) (pe_lst pa_nil) (nomark _))
        (pss_one (ps_set (i := 4) scReel.nd rfl (Or.inl rfl) (pe_ix ix_seq (pe_ix ix_seq (pv 0) pe_int fun _ _ => rfl) (pe_op op_mod (pe_callTy call_int1 rfl T.n_int b_int (pa_cons (pv 3) pa_nil)) (pe_callB call_len rfl T.n_len b_len (pa_cons (pe_ix ix_seq (pv 0) pe_int fun _ _ => rfl) pa_nil))) fun _ _ => rfl))) pss_nil)
      (C8.pss_cut (ps_if (PW.pt (pw_and (pt_cmpR op_lt (pv 3) (pe_callB call_len rfl T.n_len b_len (pa_cons (pe_ix ix_seq (pv 0) pe_int fun _ _ => rfl) pa_nil)) (nomark _)) (pw_and1 (pt_cmpR op_ge (pe_callB call_abs rfl T.n_abs b_abs (pa_cons (pv 4) pa_nil)) (pe_op op_pow pe_int pe_int) (nomark _)))))
        (pss_cons (ps_set (i := 2) scReel.nd rfl (Or.inl rfl) (pe_op op_add (pe_op op_mul pe_int (pe_op op_sub (pe_callB call_abs rfl T.n_abs b_abs (pa_cons (pe_callTy call_int1 rfl T.n_int b_int (pa_cons (pv 4) pa_nil)) pa_nil)) (pe_op op_pow pe_int pe_int))) (pe_callTy call_int1 rfl T.n_int b_int (pa_cons (pe_cmpR op_lt (pv 4) pe_int (nomark _)) pa_nil))))
        (pss_cons (ps_asg (pe_op op_fdiv (pv 2) (pv 1)) (pg_sub (pv 0) pe_int set_list))
        (pss_one (ps_ret (pe_op op_mod (pe_callTy call_int1 rfl T.n_int b_int (pa_cons (pv 2) pa_nil)) (pv 1)))))) pss_nil)
      (pss_cons (ps_set (i := 5) scReel.nd rfl (Or.inl rfl) (pe_op op_mod (pe_callTy call_int1 rfl T.n_int b_int (pa_cons (pe_op op_pow (pe_op op_add (pe_op op_add (pe_op op_mod (pe_callTy call_int1 rfl T.n_int b_int (pa_cons (pv 4) pa_nil)) pe_int) (pe_op op_mul pe_int (pv 3))) pe_int) pe_int) pa_nil)) pe_int))
      (pss_cons (ps_set (i := 5) scReel.nd rfl (Or.inl rfl) (pe_op op_mod (pe_callTy call_int1 rfl T.n_int b_int (pa_cons (pe_op op_pow (pe_op op_add (pe_op op_add (pe_op op_mul (pv 5) (pe_op op_add (pe_op op_mul pe_int (pv 3)) pe_int)) (pe_op op_mul (pe_op op_mul pe_int (pv 3)) (pv 3))) pe_int) pe_int) pa_nil)) pe_int))
      (pss_one (ps_ret (pe_op op_mod (pe_callTy call_int1 rfl T.n_int b_int (pa_cons (pe_op op_fdiv (pv 5) pe_int) pa_nil)) (pv 1))))))))))), ?_⟩
    have lc : l ≠ c := fun z => by
      rw [z, hc] at hl
      cases ms with
      | nil => cases hl
      | cons a ms =>
        have z := Option.some.inj hl
        injection z with z
        have z := (List.cons.inj z).1
        cases z
    refine ⟨_, rfl, .inl ⟨c, _, 2, _, rfl, rfl, .inl (.inl hc), rfl, left, 0, rfl, rfl, _, rfl, ifB (fun cc => ?_) fun cc => ?_⟩⟩
    · refine ⟨_, rfl, .inl ⟨c, _, 2, _, rfl, rfl, .inl (.inl hc), rfl, .inl ⟨left, rfl, ?_⟩⟩⟩
      refine ⟨_, rfl, _, rfl, left, m, rfl, rfl, ⟨m0, m1⟩, _, rfl, c, _, 2, 2, rfl, rfl, hc, rfl, ?_⟩
      refine ⟨_, rfl, .inl ⟨left, rfl, _, rfl, left, m, rfl, rfl, m0, ?_⟩⟩
      exact q _ _ but_upd ⟨ms, t, left / m, upd_same, (upd_ne lc).trans hl, hms, by omega, Int.ediv_nonneg hleft (by omega)⟩ (Int.emod_nonneg _ (by omega)) (Int.emod_lt_of_pos _ m0)
    · refine ⟨_, rfl, .inl ⟨c, _, 1, _, rfl, rfl, .inl (.inl hc), rfl, ?_⟩⟩
      refine ⟨_, rfl, t, 1, rfl, rfl, _, rfl, c, _, 1, 1, rfl, rfl, hc, rfl, ?_⟩
      have hc1 : (upd H c (.lst ([V.ref l, V.int t, V.int left].set 1 (V.int ((t : Int) + 1))))) c = some (.lst [V.ref l, V.int ((t + 1 : Nat) : Int), V.int left]) := upd_same
      have hl1 : (upd H c (.lst ([V.ref l, V.int t, V.int left].set 1 (V.int ((t : Int) + 1))))) l = some (.lst (ms.map V.int)) := (upd_ne lc).trans hl
      have b1 : But c H (upd H c (.lst ([V.ref l, V.int t, V.int left].set 1 (V.int ((t : Int) + 1))))) := but_upd
      generalize upd H c (.lst ([V.ref l, V.int t, V.int left].set 1 (V.int ((t : Int) + 1)))) = H1 at hc1 hl1 b1
      refine ⟨_, rfl, 142343, t, rfl, rfl, .inl (by decide), _, _, rfl, rfl, ?_⟩
      refine ⟨fun σ' H' => ∃ x : Int, σ' = [some (.ref c), some (.int m), none, some (.int t), some (.int x), none] ∧ Same H1 H', ?_, ?_⟩
      · refine ⟨_, rfl, .inl ⟨c, _, 0, _, rfl, rfl, .inl (.inl hc1), rfl, by decide, fun e he => ?_⟩⟩
        have s2 : Same H1 (upd H1 e (.lst [])) := same_new he
        refine ⟨_, _, dp_lst (s2 _ _ hl1), .lst (.inl (.inl upd_same)) .nil, shaped_lst _, by decide +kernel, _, rfl, ?_⟩
        rw [eqv_nil]
        refine ifB (fun c2 => ?_) fun c2 => ⟨_, rfl, s2⟩
        have hpos : 0 < ms.length := by
          cases ms with
          | nil => cases c2
          | cons a ms => exact Nat.zero_lt_succ _
        have hml : ((ms.map V.int).length : Int) = (ms.length : Int) := by rw [List.length_map]
        refine ⟨_, rfl, .inl ⟨c, _, 0, _, rfl, rfl, .inl (.inl (s2 _ _ hc1)), rfl, _, rfl, .inl ⟨t, rfl, _, rfl, .inl ⟨c, _, 0, _, rfl, rfl, .inl (.inl (s2 _ _ hc1)), rfl, _, _, rfl, .inl ⟨_, .inl (.inl (s2 _ _ hl1)), rfl⟩, t, _, rfl, rfl, by rw [hml]; omega, ?_⟩⟩⟩⟩
        have hlt : t % ms.length < ms.length := Nat.mod_lt _ hpos
        have em : ((t : Int) % ((ms.map V.int).length : Int)) = ((t % ms.length : Nat) : Int) := by
          rw [hml]
          push_cast
          rfl
        refine .inl ⟨l, _, _, V.int (ms[t % ms.length]), rfl, rfl, .inl (.inl (s2 _ _ hl1)), ?_, _, rfl, s2⟩
        rw [em]
        refine atI_nat ?_
        rw [List.getElem?_map, List.getElem?_eq_getElem hlt]
        rfl
      · rintro σ' H2 ⟨x, rfl, s2⟩
        have hc2 := s2 _ _ hc1
        have hl2 := s2 _ _ hl1
        have b2 : But c H H2 := b1.trans (but_same s2)
        refine ⟨fun σ' H' => σ' = [some (.ref c), some (.int m), none, some (.int t), some (.int x), none] ∧ H' = H2, ?_, ?_⟩
        · refine ⟨_, rfl, _, rfl, .inl ⟨c, _, 0, _, rfl, rfl, .inl (.inl hc2), rfl, _, _, rfl, .inl ⟨_, .inl (.inl hl2), rfl⟩, _, _, rfl, rfl, _, rfl, ifB (fun c3 => ?_) fun c3 => iteF ⟨rfl, rfl⟩⟩⟩
          refine ⟨_, rfl, x, rfl, 10, 18, rfl, rfl, ⟨by decide, by decide, by decide⟩, _, _, rfl, rfl, _, rfl, ifB (fun c4 => ?_) fun c4 => ⟨rfl, rfl⟩⟩
          have c4 : (10 : Int) ^ 18 ≤ if x < 0 then -x else x := of_decide_eq_true c4
          refine ⟨_, rfl, .inl ⟨x, rfl, x, rfl, 10, 18, rfl, rfl, ⟨by decide, by decide, by decide⟩, _, _, rfl, rfl, 2, _, rfl, rfl, .inl (by decide), _, rfl, _, _, rfl, rfl, .inr ⟨_, rfl, _, _, rfl, rfl, ?_⟩⟩⟩
          dsimp only
          generalize hw : (2 * ((if x < 0 then -x else x) - (10 : Int) ^ (18 : Int).toNat) + if decide (x < 0) = true then 1 else 0 : Int) = wv
          have hw0 : 0 ≤ wv := by
            rw [← hw]
            have e : (10 : Int) ^ (18 : Int).toNat = (10 : Int) ^ 18 := rfl
            rw [e]
            split <;> omega
          refine ⟨_, rfl, _, rfl, wv, m, rfl, rfl, ⟨m0, m1⟩, _, rfl, c, _, 2, 2, rfl, rfl, hc2, rfl, ?_⟩
          refine ⟨_, rfl, .inl ⟨wv, rfl, _, rfl, wv, m, rfl, rfl, m0, ?_⟩⟩
          exact q _ _ (b2.trans but_upd) ⟨ms, t + 1, wv / m, upd_same, (upd_ne lc).trans hl2, hms, by omega, Int.ediv_nonneg hw0 (by omega)⟩ (Int.emod_nonneg _ (by omega)) (Int.emod_lt_of_pos _ m0)
        · rintro σ' H3 ⟨rfl, rfl⟩
          have t5 : (t : Int) ≤ 100000 := by omega
          have t0 : (0 : Int) ≤ t := Int.natCast_nonneg t
          -- the first power
          refine ⟨_, rfl, .inl ⟨x, rfl, _, _, rfl, rfl, (by decide : (0 : Int) < 2147483497), _, rfl, 142343, _, rfl, rfl, .inl (by decide), _, _, rfl, rfl, _, _, rfl, rfl, _, _, rfl, rfl, ?_, .inl ⟨_, rfl, _, _, rfl, rfl, (by decide : (0 : Int) < 2147483579), ?_⟩⟩⟩
          · have h1 := Int.emod_nonneg x (by decide : (2147483497 : Int) ≠ 0)
            have h2 := Int.emod_lt_of_pos x (by decide : (0 : Int) < 2147483497)
            exact ⟨by decide, by decide, by omega⟩
          dsimp only
          generalize hy : ((x % 2147483497 + 142343 * (t : Int) + 9483) ^ (5 : Int).toNat) % 2147483579 = y
          have y0 : 0 ≤ y := by rw [← hy]; exact Int.emod_nonneg _ (by decide)
          have y1 : y < 2147483579 := by rw [← hy]; exact Int.emod_lt_of_pos _ (by decide)
          refine ⟨_, rfl, _, rfl, 2, _, rfl, rfl, .inl (by decide), _, _, rfl, rfl, y, _, rfl, rfl, .inl (by omega), _, rfl, 143451, _, rfl, rfl, .inl (by decide), _, rfl, _, _, rfl, rfl, .inr (by omega), _, _, rfl, rfl, _, _, rfl, rfl, _, _, rfl, rfl, ?_, .inl ⟨_, rfl, _, _, rfl, rfl, (by decide : (0 : Int) < 2147483647), ?_⟩⟩
          · have h1 : y * (2 * (t : Int) + 6647) ≤ 2147483579 * 206647 := Int.mul_le_mul (by omega) (by omega) (by omega) (by decide)
            have h2 : 0 ≤ y * (2 * (t : Int) + 6647) := Int.mul_nonneg y0 (by omega)
            have h3 : 143451 * (t : Int) * t ≤ 143451 * 100000 * 100000 := Int.mul_le_mul (by omega) t5 t0 (by decide)
            have h4 : 0 ≤ 143451 * (t : Int) * t := Int.mul_nonneg (by omega) t0
            exact ⟨by decide, by decide, by omega⟩
          refine ⟨_, rfl, _, _, rfl, rfl, ⟨by decide, by decide⟩, .inl ⟨_, rfl, _, rfl, _, m, rfl, rfl, m0, ?_⟩⟩
          exact q _ _ b2 ⟨ms, t + 1, left, hc2, hl2, hms, by omega, hleft⟩ (Int.emod_nonneg _ (by omega)) (Int.emod_lt_of_pos _ m0)
end
end Kl
set_option maxHeartbeats 4000000
/-! ## cinema, pick, stirred -/
namespace Kl
open PySem PySem.Spec PyProof.Rows L2
theorem lc_seqN {K : PySem.W.Frag} {g : TG} {tt : TT} {te te0 : TE} {vs : List Nat} {σ : L2.St} {Hr : Hp} {Q : VK} {xs : List V} (hte : ∀ R : VK, (∀ p, Hr p = none → R (.ref p) (upd Hr p (.lst xs))) → te0 σ Hr R)
    (h : ∀ p, Hr p = none → tLc (iSeq K fun _ H Q => Q (.ref p) H) g tt te vs σ (upd Hr p (.lst xs)) Q) : tLc (iSeq K te0) g tt te vs σ Hr Q := hte _ fun p hp => h p hp
section
variable {w : World} {K : PySem.W.Frag} {mg : Str → Option Value} {base : Heap}
def spCinema : Sp := fun vs H Q _ => ∃ (a : Addr) (ns : List Int), vs = [.ref a] ∧ SqL K H a (ns.map V.int) ∧ ns.length ≤ 500 ∧ ∀ H' c l, Same H H' → H c = none → H l = none → c ≠ l → Cin H' c l 0 → Q (.ref c) H'
abbrev NCi : List Str := ["_law_script", "_law_cell"]
theorem scCi : FnScope NCi ["_law_script"] (defScope s_l_cinema) := ⟨rfl, rfl, rfl, by decide +kernel, rfl, by decide +kernel, by decide +kernel⟩
theorem k_cinema (T : Tx K mg) : FnK PR w K mg base 1 "_law_cinema" ["_law_script"] (spCinema (K := K)) :=
  mkK T.g_l_cinema T.f_l_cinema scCi (fun vs H Q E h => by obtain ⟨a, ns, rfl, _⟩ := h; rfl) (fun _ _ _ _ _ _ us hl => match us, hl with | [_], _ => rfl) fun cdv A outer s H vs Q E hr h => by
    obtain ⟨a, ns, rfl, hs, hlen, q⟩ := h
    refine ⟨_, pss_one (ps_ret (pe_lst (pa_cons (pe_lc (own := [("_law_cell", 1)]) (g := gName 1) (tt := tYes) rfl scCi.nd (pi_seq (pe_slice sl_list (pv 0) po_none (po_some pe_int))) (blkOk_by (N := NCi) (sc := defScope s_l_cinema) (by decide +kernel)) (fun _ _ _ _ _ => pg_name (i := 1) scCi.nd rfl (Or.inl rfl)) (fun _ _ _ _ _ => pts_nil)
      (fun _ _ _ _ _ => pe_callTy call_int1 rfl T.n_int b_int (pa_cons (pv 1) pa_nil))) (pa_cons pe_int (pa_cons pe_int pa_nil))))), ?_⟩
    have ec : cutV (ns.map V.int) none (some 60) = (ns.take 60).map V.int := by
      unfold cutV
      have e1 : HT.sIx (ns.map V.int).length 0 none = 0 := rfl
      have e2 : HT.sIx (ns.map V.int).length (ns.map V.int).length (some 60) = min 60 ns.length := by
        rw [List.length_map]
        exact HT.sIx_nat _ _ 60
      rw [e1, e2, List.drop_zero, Nat.sub_zero, ← List.map_take]
      congr 1
      exact List.take_eq_take_iff.mpr (by omega)
    dsimp only [tRet, tLst]
    show tLc (iSeq K (tSl (rSlL K) (tVar 0) tNoPart (tPart (tC (.int 60))))) _ _ _ _ _ _ _
    refine lc_seqN (xs := (ns.take 60).map V.int) (fun R h => ⟨_, rfl, 60, rfl, a, _, rfl, hs, by rw [ec]; exact h⟩) fun p hp => ?_
    have s1 : Same H (upd H p (.lst ((ns.take 60).map V.int))) := same_new hp
    refine lc_seqE (te0 := fun _ H Q => Q (.ref p) H) (fun Q h => h) (.inl upd_same) (fun i => ((ns.take 60).take i).map V.int) rfl (fun D hD i x H2 hx hi p2 => ?_) (fun D H2 hD s2 e2 => ?_)
    · rw [List.getElem?_map] at hx
      cases e : (ns.take 60)[i]? with
      | none =>
        rw [e] at hx
        cases hx
      | some z =>
        rw [e] at hx
        cases hx
        refine ⟨rfl, yes_if ⟨_, rfl, .inl ⟨z, rfl, acc_yes p2 hD (by have := map_take_len (l := ns.take 60) (f := V.int) i; rw [List.length_take] at this; omega) (Same.refl _) (map_take e)⟩⟩⟩
    · rw [List.length_map, List.take_length] at e2
      refine ⟨by show 3 ≤ sizeLine; decide, fun c hc => ?_⟩
      have s12 := s1.trans s2
      have hcD : D ≠ c := ne_of_none e2 hc
      refine q _ c D (s12.trans (same_new hc)) (s12.free hc) (s1.free hD) (Ne.symm hcD) ⟨ns.take 60, 0, 0, upd_same, (upd_ne hcD).trans e2, by rw [List.length_take]; omega, Nat.le_refl _, Int.le_refl _⟩
/-! ### pick -/
def spPick : Sp := fun vs H Q _ => ∃ (c l a : Addr) (xs : List V) (T : Nat), vs = [.ref c, .ref a] ∧ T ≤ 100000 ∧ Cin H c l T ∧ a ≠ c ∧ H a = some (.lst xs) ∧ 0 < xs.length ∧ xs.length < 1000 ∧ ∀ H' (i : Nat) x, xs[i]? = some x → But c H H' → Cin H' c l (T + 1) → Q x H'
theorem scPick : FnScope ["_law_cinema_here", "_law_some"] ["_law_cinema_here", "_law_some"] (defScope s_l_pick) := ⟨rfl, rfl, rfl, by decide +kernel, rfl, by decide +kernel, by decide +kernel⟩
theorem k_pick (T : Tx K mg) : FnK PR w K mg base 2 "_law_pick" ["_law_cinema_here", "_law_some"] spPick :=
  mkK T.g_l_pick T.f_l_pick scPick (fun vs H Q E h => by obtain ⟨c, l, a, xs, T, rfl, _⟩ := h; rfl) (fun _ _ _ _ _ _ us hl => match us, hl with | [_, _], _ => rfl) fun cdv A outer s H vs Q E hr h => by
    obtain ⟨c, l, a, xs, T0, rfl, hT, C, ac, ha, h0, h1, q⟩ := h
    refine ⟨_, pss_one (ps_ret (pe_ix ix_seq (pv 1) (pe_f (k_reel T) hr passL (pa_cons (pv 0) (pa_cons (pe_callB call_len rfl T.n_len b_len (pa_cons (pv 1) pa_nil)) pa_nil))) fun _ _ => rfl)), ?_⟩
    refine ⟨_, rfl, _, rfl, _, rfl, _, _, rfl, .inl ⟨_, .inl (.inl ha), rfl⟩, c, l, _, T0, rfl, by omega, by omega, hT, C, fun H1 r b1 C1 r0 r1 => ?_⟩
    obtain ⟨i, rfl⟩ := Int.eq_ofNat_of_zero_le r0
    have hi : i < xs.length := by omega
    exact .inl ⟨a, xs, _, xs[i], rfl, rfl, .inl (.inl (b1 _ _ ac ha)), atI_nat (List.getElem?_eq_getElem hi), q H1 i _ (List.getElem?_eq_getElem hi) b1 C1⟩
/-! ### stirred -/
def spStir : Sp := fun vs H Q _ => ∃ (c cl a : Addr) (l : List Nat) (T : Nat), vs = [.ref c, .ref a] ∧ T ≤ 90000 ∧ Cin H c cl T ∧ H a = some (.lst (natV l)) ∧ l.length ≤ 8 ∧ ∀ H' f l', But c H H' → H f = none → H' f = some (.lst (natV l')) → l'.Perm l → Cin H' c cl (T + l.length) → Q (.ref f) H'
abbrev NSr : List Str := ["_law_cinema_here", "_law_some", "_law_left", "_law_found"]
theorem scStir : FnScope NSr ["_law_cinema_here", "_law_some"] (defScope s_l_stirred) := ⟨rfl, rfl, rfl, by decide +kernel, rfl, by decide +kernel, by decide +kernel⟩
def lenAt (H : Hp) (f : Addr) : Nat := match H f with
  | some (.lst xs) => xs.length
  | _ => 0
theorem lenAt_eq {H : Hp} {f : Addr} {xs : List V} (e : H f = some (.lst xs)) : lenAt H f = xs.length := by
  unfold lenAt
  rw [e]
theorem natV_erase : ∀ (l : List Nat) (k : Nat), (natV l).eraseIdx k = natV (l.eraseIdx k)
  | [], _ => rfl
  | _ :: _, 0 => rfl
  | a :: l, k + 1 => congrArg (V.int (a : Int) :: ·) (natV_erase l k)
theorem seqIx {i n : Nat} (h : i < n) : seqIndex? (i : Int) n = some i := by
  unfold seqIndex?
  simp only [show ¬ ((i : Int) < 0) by omega, if_false]
  rw [if_pos (by simp; omega)]
  rfl
theorem erase_perm : ∀ {l : List Nat} {i z : Nat}, l[i]? = some z → (z :: l.eraseIdx i).Perm l
  | [], i, z, h => by simp at h
  | a :: l, 0, z, h => by
    have e : a = z := Option.some.inj h
    subst e
    exact List.Perm.refl _
  | a :: l, i + 1, z, h => (List.Perm.swap a z (l.eraseIdx i)).trans ((erase_perm (l := l) (i := i) h).cons a)
theorem k_stir (T : Tx K mg) : FnK PR w K mg base 2 "_law_stirred" ["_law_cinema_here", "_law_some"] spStir :=
  mkK T.g_l_stirred T.f_l_stirred scStir (fun vs H Q E h => by obtain ⟨c, cl, a, l, T, rfl, _⟩ := h; rfl) (fun _ _ _ _ _ _ us hl => match us, hl with | [_, _], _ => rfl) fun cdv A outer s H vs Q E hr h => by
    obtain ⟨c, cl, a, l, T0, rfl, hT, C, ha, hl, q⟩ := h
    refine ⟨_, pss_cons (ps_par (i := 2) (j := 3) rfl scStir.nd rfl rfl (by decide) rfl rfl (pa_cons (pe_callTy call_list_of rfl T.n_list b_list (pa_cons (pv 1) pa_nil)) (pa_cons (pe_lst pa_nil) pa_nil)) (by rfl))
      (pss_cons (ps_while PassesOwn.never (pt_cmpR (op_neD hr.units) (pv 2) (pe_lst pa_nil) (nomark _))
        (pss_one (ps_expr (pe_bm PySem.F.plainAttrs_list PySem.F.slot_list_append PySem.F.type_list_append mt_append (pv 3) (pa_cons (pe_bm PySem.F.plainAttrs_list PySem.F.slot_list_pop PySem.F.type_list_pop mt_popAt (pv 2) (pa_cons (pe_f (k_reel T) hr passL (pa_cons (pv 0) (pa_cons (pe_callB call_len rfl T.n_len b_len (pa_cons (pv 2) pa_nil)) pa_nil))) pa_nil)) pa_nil)))))
      (pss_one (ps_ret (pv 3)))), ?_⟩
    refine ⟨_, rfl, a, _, rfl, .inl (.inl (.inl ha)), fun f1 hf1 => ⟨by decide, fun f2 hf2 => ⟨_, _, rfl, ?_⟩⟩⟩
    have f21 : f2 ≠ f1 := fun z => by
      rw [z, upd_same] at hf2
      cases hf2
    have hf2' : H f2 = none := by
      rw [upd_ne f21] at hf2
      exact hf2
    obtain ⟨xc, hxc⟩ := C.get
    have c1 : c ≠ f1 := ne_of_none hxc hf1
    have c2 : c ≠ f2 := ne_of_none hxc hf2'
    obtain ⟨xl, hxl⟩ := C.getl
    have l1 : cl ≠ f1 := ne_of_none hxl hf1
    have l2 : cl ≠ f2 := ne_of_none hxl hf2'
    refine while_by (fun σ H' => ∃ xs ys : List Nat, σ = [some (.ref c), some (.ref a), some (.ref f1), some (.ref f2)] ∧ But c H H' ∧ H' f1 = some (.lst (natV xs)) ∧ H' f2 = some (.lst (natV ys)) ∧ (xs ++ ys).Perm l ∧ Cin H' c cl (T0 + ys.length))
      (fun σ H' => lenAt H' f1) ⟨l, [], rfl, fun b o _ e => same_upd (same_new hf1) hf2' b o e, by rw [upd_ne (Ne.symm f21), upd_same], upd_same, by rw [List.append_nil], C.same (same_upd (same_new hf1) hf2')⟩ ?_ ?_
    · rintro σ H1 ⟨xs, ys, rfl, b1, h1, h2, pm, C1⟩
      have hlen : xs.length + ys.length = l.length := by
        have z := pm.length_eq
        rwa [List.length_append] at z
      refine ⟨_, rfl, by decide, fun e he => ?_⟩
      have s2 : Same H1 (upd H1 e (.lst [])) := same_new he
      have hx : (upd H1 e (.lst [])) f1 = some (.lst ((xs.map fun n : Nat => (n : Int)).map V.int)) := (s2 _ _ h1).trans (by rw [natV_int])
      refine ⟨_, _, dp_lst hx, .lst (.inl (.inl upd_same)) .nil, shaped_lst _, by decide +kernel, _, rfl, ?_⟩
      rw [eqv_nil]
      have h1e := s2 _ _ h1
      have h2e := s2 _ _ h2
      have b2 : But c H (upd H1 e (.lst [])) := b1.trans (but_same s2)
      have C2 := C1.same s2
      generalize upd H1 e (.lst []) = H2 at h1e h2e b2 C2
      refine ifB (fun cc => ?_) fun cc => ?_
      · have hpos : 0 < xs.length := by
          cases xs with
          | nil => cases cc
          | cons a xs => exact Nat.zero_lt_succ _
        refine ⟨_, rfl, .inl ⟨rfl, _, .inl (.inl h2e)⟩, ?_⟩
        refine ⟨_, rfl, .inl ⟨rfl, _, .inl (.inl h1e)⟩, ?_⟩
        refine ⟨_, rfl, _, rfl, _, _, rfl, .inl ⟨_, .inl (.inl h1e), rfl⟩, c, cl, _, _, rfl, by rw [natV_len]; omega, by rw [natV_len]; omega, by omega, C2, fun H3 r b3 C3 r0 r1 => ?_⟩
        obtain ⟨i, rfl⟩ := Int.eq_ofNat_of_zero_le r0
        have hi : i < xs.length := by
          rw [natV_len] at r1
          omega
        have h1f := b3 _ _ (Ne.symm c1) h1e
        have h2f := b3 _ _ (Ne.symm c2) h2e
        have hz : xs[i]? = some xs[i] := List.getElem?_eq_getElem hi
        refine ⟨f1, natV xs, _, i, V.int ((xs[i] : Nat) : Int), rfl, rfl, h1f, by omega, by omega, by rw [natV_len]; exact seqIx hi, natV_get hz, ?_⟩
        refine ⟨f2, natV ys, _, rfl, rfl, (upd_ne f21).trans h2f, small1000 (by rw [natV_len]; omega), ?_⟩
        refine ⟨⟨xs.eraseIdx i, ys ++ [xs[i]], rfl, fun b o nb e => ?_, ?_, ?_, ?_, ?_⟩, ?_⟩
        · have n1 : b ≠ f1 := ne_of_none e hf1
          have n2 : b ≠ f2 := ne_of_none e hf2'
          rw [upd_ne n2, upd_ne n1]
          exact b3 _ _ nb (b2 _ _ nb e)
        · rw [upd_ne (Ne.symm f21), upd_same, natV_erase]
        · rw [upd_same, natV_app]
          rfl
        · refine List.Perm.trans ?_ pm
          have e1 : xs.eraseIdx i ++ (ys ++ [xs[i]]) = (xs.eraseIdx i ++ ys) ++ [xs[i]] := (List.append_assoc ..).symm
          rw [e1]
          refine List.perm_append_comm.trans ?_
          show (xs[i] :: (xs.eraseIdx i ++ ys)).Perm (xs ++ ys)
          exact (erase_perm hz).append_right ys
        · have z := (C3.put (f := f1) (o := .lst ((natV xs).eraseIdx i)) c1 l1).put (f := f2) (o := .lst (natV ys ++ [V.int ((xs[i] : Nat) : Int)])) c2 l2
          refine z.up ?_
          rw [List.length_append]
          exact Nat.le_of_eq (Nat.add_assoc ..)
        · have e1 : (upd (upd H3 f1 (.lst ((natV xs).eraseIdx i))) f2 (.lst (natV ys ++ [V.int ((xs[i] : Nat) : Int)]))) f1 = some (.lst ((natV xs).eraseIdx i)) := by rw [upd_ne (Ne.symm f21), upd_same]
          show lenAt _ f1 < lenAt H1 f1
          rw [lenAt_eq e1, lenAt_eq h1, List.length_eraseIdx_of_lt (by rw [natV_len]; exact hi), natV_len]
          omega
      · have z : xs = [] := by
          cases xs with
          | nil => rfl
          | cons a xs => cases cc
        subst z
        refine ⟨_, rfl, q H2 f2 ys b2 hf2' h2e (by simpa using pm) (C2.up (by have := pm.length_eq; simp at this; omega))⟩
    · intro σ H Q Q' hQ h
      obtain ⟨v, e, z, k⟩ := h
      refine ⟨v, e, z, fun p hp => ?_⟩
      obtain ⟨d, e, h1, h2, h3, h4, k, h5, h6⟩ := k p hp
      exact ⟨d, e, h1, h2, h3, h4, k, h5, hQ _ _ h6⟩
end
end Kl
set_option maxHeartbeats 4000000
/-! ## gate, gates -/
namespace Kl
open PySem PySem.Spec PyProof.Rows L2
theorem rg_nat (n : Nat) : rgV 0 (n : Int) = natV (List.range n) := by
  unfold rgV
  simp
/-- from a sorted permutation of small numbers -/
theorem perm_nat {ns : List Int} {L : List Nat} (h : ns.Perm (L.map fun n : Nat => (n : Int))) : ∃ hs : List Nat, ns = hs.map (fun n : Nat => (n : Int)) ∧ hs.Perm L := by
  refine ⟨ns.map Int.toNat, ?_, ?_⟩
  · rw [List.map_map]
    have e : ns.map (fun x => x) = ns := List.map_id' ns
    conv => lhs; rw [← e]
    refine List.map_congr_left fun x hx => ?_
    obtain ⟨n, _, rfl⟩ := List.mem_map.mp (h.subset hx)
    rfl
  · have z := h.map Int.toNat
    rw [List.map_map] at z
    have e : L.map (Int.toNat ∘ fun n : Nat => (n : Int)) = L := by
      have e2 : L.map (fun x => x) = L := List.map_id' L
      conv => rhs; rw [← e2]
      exact List.map_congr_left fun x _ => rfl
    rw [e] at z
    exact z
theorem lt_of_le_nd {hs : List Nat} (h1 : (hs.map fun n : Nat => (n : Int)).Pairwise (· ≤ ·)) (h2 : hs.Nodup) : hs.Pairwise (· < ·) := by
  rw [List.pairwise_map] at h1
  rw [List.pairwise_iff_getElem] at h1 ⊢
  intro i j hi hj hij
  have a := h1 i j hi hj hij
  have b := List.pairwise_iff_getElem.mp h2 i j hi hj hij
  omega
theorem cut2 {a b : Nat} {rest : List Nat} {k : Nat} : cutV (natV (a :: b :: rest)) (some 2) (some (2 + (k : Int))) = natV (rest.take k) := by
  unfold cutV
  have e1 : HT.sIx (natV (a :: b :: rest)).length 0 (some 2) = min 2 (natV (a :: b :: rest)).length := HT.sIx_nat _ _ 2
  have e2 : HT.sIx (natV (a :: b :: rest)).length (natV (a :: b :: rest)).length (some (2 + (k : Int))) = min (2 + k) (natV (a :: b :: rest)).length := by
    have e : (2 + (k : Int)) = ((2 + k : Nat) : Int) := by omega
    rw [e]
    exact HT.sIx_nat _ _ _
  rw [e1, e2, natV_len]
  have l : (a :: b :: rest).length = rest.length + 2 := rfl
  rw [l, Nat.min_eq_left (by omega : 2 ≤ rest.length + 2)]
  show (natV rest).take (min (2 + k) (rest.length + 2) - 2) = _
  rw [← List.map_take]
  congr 1
  exact List.take_eq_take_iff.mpr (by omega)
theorem cut02 {a b : Nat} {rest : List Nat} : cutV (natV (a :: b :: rest)) none (some 2) = natV [a, b] := by
  unfold cutV
  have e1 : HT.sIx (natV (a :: b :: rest)).length 0 none = 0 := rfl
  have e2 : HT.sIx (natV (a :: b :: rest)).length (natV (a :: b :: rest)).length (some 2) = min 2 (natV (a :: b :: rest)).length := HT.sIx_nat _ _ 2
  rw [e1, e2, natV_len]
  have l : (a :: b :: rest).length = rest.length + 2 := rfl
  rw [l, Nat.min_eq_left (by omega : 2 ≤ rest.length + 2)]
  rfl
section
variable {w : World} {K : PySem.W.Frag} {mg : Str → Option Value} {base : Heap}
def spGate : Sp := fun vs H Q _ => ∃ (c cl : Addr) (n T : Nat), vs = [.ref c, .int n] ∧ 2 ≤ n ∧ n ≤ 8 ∧ T ≤ 80000 ∧ Cin H c cl T ∧ ∀ H' p gt, But c H H' → GateAt H' p gt → Ok n gt → Cin H' c cl (T + 9) → Q (.ref p) H'
abbrev NGt : List Str := ["_law_cinema_here", "_law_lamps", "_law_order", "_law_many"]
theorem scGt : FnScope NGt ["_law_cinema_here", "_law_lamps"] (defScope s_l_gate) := ⟨rfl, rfl, rfl, by decide +kernel, rfl, by decide +kernel, by decide +kernel⟩
theorem k_gate (T : Tx K mg) : FnK PR w K mg base 3 "_law_gate" ["_law_cinema_here", "_law_lamps"] spGate :=
  mkK T.g_l_gate T.f_l_gate scGt (fun vs H Q E h => by obtain ⟨c, cl, n, T, rfl, _⟩ := h; rfl) (fun _ _ _ _ _ _ us hl => match us, hl with | [_, _], _ => rfl) fun cdv A outer s H vs Q E hr h => by
    obtain ⟨c, cl, n, T0, rfl, n2, n8, hT, C, q⟩ := h
    refine ⟨_, pss_cons (ps_set (i := 2) scGt.nd rfl (Or.inl rfl) (pe_f (k_stir T) hr passL (pa_cons (pv 0) (pa_cons (pe_listRg rfl rfl T.n_list (prg_1 rfl T.n_range (pv 1))) pa_nil))))
      (pss_cons (ps_set (i := 3) scGt.nd rfl (Or.inl rfl) (pe_callB (call_min2 rfl) rfl T.n_min b_min (pa_cons (pe_op op_sub (pv 1) pe_int) (pa_cons (pe_f (k_pick T) hr passL (pa_cons (pv 0) (pa_cons (pe_lst (pa_cons pe_int (pa_cons pe_int (pa_cons pe_int (pa_cons pe_int (pa_cons pe_int (pa_cons (pv 1) pa_nil))))))) pa_nil))) pa_nil))))
      (pss_one (ps_ret (pe_tup (pa_cons (pe_tupleOf rfl T.n_tuple (pe_callB cr_sorted rfl T.n_sorted b_sorted (pa_cons (pe_slice sl_list (pv 2) (po_some pe_int) (po_some (pe_op op_add pe_int (pv 3)))) pa_nil)))
        (pa_cons (pe_callB (cr_min rfl) rfl T.n_min b_min (pa_cons (pe_slice sl_list (pv 2) po_none (po_some pe_int)) pa_nil)) (pa_cons (pe_callB (cr_max rfl) rfl T.n_max b_max (pa_cons (pe_slice sl_list (pv 2) po_none (po_some pe_int)) pa_nil)) pa_nil))))))), ?_⟩
    obtain ⟨xc, hxc⟩ := C.get
    obtain ⟨xl, hxl⟩ := C.getl
    refine ⟨_, rfl, _, rfl, n, rfl, .of_le (by decide) (by omega) (by decide) (by omega), fun a0 ha0 => ?_⟩
    have s0 : Same H (upd H a0 (.lst (rgV 0 n))) := same_new ha0
    refine ⟨c, cl, a0, List.range n, T0, rfl, by omega, C.same s0, by rw [upd_same, rg_nat], by rw [List.length_range]; exact n8, fun H1 f l' b1 hf hl pm C1 => ?_⟩
    have bH1 : But c H H1 := (but_same s0).trans b1
    have hlen : l'.length = n := by rw [pm.length_eq, List.length_range]
    rw [List.length_range] at C1
    have hnd : l'.Nodup := pm.nodup_iff.mpr List.nodup_range
    have hlt : ∀ x ∈ l', x < n := fun x hx => List.mem_range.mp (pm.subset hx)
    obtain ⟨a, l2, rfl⟩ : ∃ a l2, l' = a :: l2 := by
      cases l' with
      | nil => simp at hlen; omega
      | cons a l2 => exact ⟨a, l2, rfl⟩
    obtain ⟨b, rest, rfl⟩ : ∃ b rest, l2 = b :: rest := by
      cases l2 with
      | nil => simp at hlen; omega
      | cons b rest => exact ⟨b, rest, rfl⟩
    have hfc : f ≠ c := fun z => by
      have := s0 _ _ hxc
      rw [z, this] at hf
      cases hf
    refine ⟨_, rfl, n, 2, rfl, rfl, _, rfl, _, rfl, by show 6 ≤ sizeLine; decide, fun e he => ?_⟩
    obtain ⟨yc, hyc⟩ := C1.get
    have ec : e ≠ c := fun z => by
      rw [z, hyc] at he
      cases he
    have s1 : Same H1 (upd H1 e (.lst [V.int 0, V.int 1, V.int 1, V.int 2, V.int 3, V.int n])) := same_new he
    refine ⟨c, cl, e, _, T0 + n, rfl, by omega, C1.same s1, ec, upd_same, by show 0 < 6; decide, by show 6 < 1000; decide, fun H2 i x hx b2 C2 => ?_⟩
    have bH2 : But c H H2 := bH1.trans ((but_same s1).trans b2)
    have hf2 : H2 f = some (.lst (natV (a :: b :: rest))) := b2 _ _ hfc (s1 _ _ hl)
    obtain ⟨k, rfl⟩ : ∃ k : Nat, x = V.int (k : Int) := by
      have z := List.mem_of_getElem? hx
      simp only [List.mem_cons, List.not_mem_nil, or_false] at z
      rcases z with z | z | z | z | z | z
      · exact ⟨0, z⟩
      · exact ⟨1, z⟩
      · exact ⟨1, z⟩
      · exact ⟨2, z⟩
      · exact ⟨3, z⟩
      · exact ⟨n, z⟩
    refine ⟨_, k, rfl, ?_⟩
    have em : (if (k : Int) < (n : Int) - 2 then (k : Int) else (n : Int) - 2) = ((min k (n - 2) : Nat) : Int) := by
      split <;> omega
    rw [em]
    generalize hm : min k (n - 2) = m
    have hm2 : m ≤ n - 2 := by omega
    have hrl : rest.length = n - 2 := by simp at hlen; omega
    -- the hands
    refine ⟨_, rfl, 2, rfl, _, rfl, 2, (m : Int), rfl, rfl, _, rfl, f, _, rfl, .inl (.inl hf2), fun p1 hp1 => ?_⟩
    rw [cut2]
    have s3 : Same H2 (upd H2 p1 (.lst (natV (rest.take m)))) := same_new hp1
    refine ⟨p1, (rest.take m).map (fun n : Nat => (n : Int)), rfl, .inl (.inl (by rw [upd_same, natV_int])), by rw [List.length_map, List.length_take]; omega, fun ns p2 pm2 srt hp2 => ?_⟩
    obtain ⟨hs, rfl, pmh⟩ := perm_nat pm2
    rw [← natV_int]
    have s4 := s3.trans (same_new (o := .lst (natV hs)) hp2)
    have hp2' : (upd (upd H2 p1 (.lst (natV (rest.take m)))) p2 (.lst (natV hs))) p2 = some (.lst (natV hs)) := upd_same
    generalize upd (upd H2 p1 (.lst (natV (rest.take m)))) p2 (.lst (natV hs)) = H4 at s4 hp2'
    refine .inl ⟨p2, _, rfl, .inl (.inl hp2'), fun p3 hp3 => ?_⟩
    have s5 := s4.trans (same_new (o := .tup (natV hs)) hp3)
    have hp3' : (upd H4 p3 (.tup (natV hs))) p3 = some (.tup (natV hs)) := upd_same
    generalize upd H4 p3 (.tup (natV hs)) = H5 at s5 hp3'
    -- the smaller, the bigger
    refine ⟨_, rfl, 2, rfl, f, _, rfl, .inl (.inl (s5 _ _ hf2)), fun p4 hp4 => ?_⟩
    rw [cut02]
    have s6 : Same H5 (upd H5 p4 (.lst (natV [a, b]))) := same_new hp4
    refine ⟨p4, [(a : Int), (b : Int)], rfl, .inl (.inl upd_same), Nat.zero_lt_succ _, fun mn hmn hle => ?_⟩
    generalize upd H5 p4 (.lst (natV [a, b])) = H6 at s6
    refine ⟨_, rfl, 2, rfl, f, _, rfl, .inl (.inl (s6 _ _ (s5 _ _ hf2))), fun p5 hp5 => ?_⟩
    rw [cut02]
    have s7 : Same H6 (upd H6 p5 (.lst (natV [a, b]))) := same_new hp5
    refine ⟨p5, [(a : Int), (b : Int)], rfl, .inl (.inl upd_same), Nat.zero_lt_succ _, fun mx hmx hge => ?_⟩
    generalize upd H6 p5 (.lst (natV [a, b])) = H7 at s7
    refine ⟨by show 3 ≤ sizeLine; decide, fun p6 hp6 => ?_⟩
    have hab : a ≠ b := by
      have z := List.nodup_cons.mp hnd
      exact fun e => z.1 (by rw [e]; exact List.mem_cons_self)
    have hmn2 : mn = ((min a b : Nat) : Int) := by
      have z1 := hle a (by simp)
      have z2 := hle b (by simp)
      simp only [List.mem_cons, List.not_mem_nil, or_false] at hmn
      omega
    have hmx2 : mx = ((max a b : Nat) : Int) := by
      have z1 := hge a (by simp)
      have z2 := hge b (by simp)
      simp only [List.mem_cons, List.not_mem_nil, or_false] at hmx
      omega
    subst hmn2 hmx2
    have s67 : Same H2 H7 := s5.trans (s6.trans s7)
    have sE : Same H2 (upd H7 p6 (.tup [.ref p3, .int ((min a b : Nat) : Int), .int ((max a b : Nat) : Int)])) := same_upd s67 (s67.free hp6)
    refine q _ p6 (hs, min a b, max a b) (bH2.trans (but_same sE)) ⟨p3, upd_same, ?_⟩ ?_ ((C2.same sE).up (by omega))
    · have n36 : p3 ≠ p6 := ne_of_none (s7 _ _ (s6 _ _ hp3')) hp6
      rw [upd_ne n36]
      exact s7 _ _ (s6 _ _ hp3')
    · have ha := hlt a List.mem_cons_self
      have hb := hlt b (List.mem_cons_of_mem _ List.mem_cons_self)
      have hin : ∀ h ∈ hs, h ∈ rest := fun h hh => List.mem_of_mem_take (pmh.subset hh)
      have z := List.nodup_cons.mp hnd
      have z2 := List.nodup_cons.mp z.2
      have hnds : hs.Nodup := pmh.nodup_iff.mpr (List.Nodup.sublist (List.take_sublist _ _) z2.2)
      refine ⟨by show min a b < n; omega, by show max a b < n; omega, by show min a b < max a b; omega, fun h hh => ⟨hlt h (List.mem_cons_of_mem _ (List.mem_cons_of_mem _ (hin h hh))), ?_, ?_⟩, lt_of_le_nd srt hnds⟩
      · have h1 : h ≠ a := fun e => z.1 (List.mem_cons_of_mem _ (e ▸ hin h hh))
        have h2 : h ≠ b := fun e => z2.1 (e ▸ hin h hh)
        show h ≠ min a b
        omega
      · have h1 : h ≠ a := fun e => z.1 (List.mem_cons_of_mem _ (e ▸ hin h hh))
        have h2 : h ≠ b := fun e => z2.1 (e ▸ hin h hh)
        show h ≠ max a b
        omega
end
end Kl
set_option maxHeartbeats 4000000
/-! ## gates -/
namespace Kl
open PySem PySem.Spec PyProof.Rows L2
theorem shaped_gatesL (as : List AG) : SeqAt.shaped (.list (as.map fun q : AG => gateD q.2)) = true := by
  have z := shaped_gates as
  unfold SeqAt.shaped at z ⊢
  simp only [PyData.canLay0, PyData.depth] at z ⊢
  exact z
/-- a word between an expression and what follows -/
def tMon (t : TE) : TE := fun σ H Q => ∃ Q0 : VK, t σ H Q0 ∧ ∀ x H1, Q0 x H1 → Q x H1
theorem pe_mono {X : Cx} {e : Expr} {t : TE} (h : PE X e t) : PE X e (tMon t) := by
  refine ⟨fun pins s σ H Q I q => ?_⟩
  obtain ⟨Q0, h0, hm⟩ := q
  exact thn (h.run pins s σ H Q0 I h0) fun v s1 ⟨x, H1, I1, r1, q1⟩ => ⟨x, H1, I1, r1, hm x H1 q1⟩
section
variable {w : World} {K : PySem.W.Frag} {mg : Str → Option Value} {base : Heap}
def spGs : Sp := fun vs H Q _ => ∃ (c cl : Addr) (n m T : Nat), vs = [.ref c, .int n, .int m] ∧ 1 ≤ n ∧ n ≤ 8 ∧ m ≤ 30 ∧ T ≤ 70000 ∧ Cin H c cl T ∧ ∀ H' f as, But c H H' → H f = none → H' f = some (.lst (refs as)) → as.length ≤ 30 → Gates H' n as → (n = 1 → as = []) → Cin H' c cl (T + 500) → Q (.ref f) H'
abbrev NGs : List Str := ["_law_cinema_here", "_law_lamps", "_law_most", "_law_found", "_law_turn"]
theorem scGs : FnScope NGs ["_law_cinema_here", "_law_lamps", "_law_most"] (defScope s_l_gates) := ⟨rfl, rfl, rfl, by decide +kernel, rfl, by decide +kernel, by decide +kernel⟩
theorem k_gs (T : Tx K mg) : FnK PR w K mg base 4 "_law_gates" ["_law_cinema_here", "_law_lamps", "_law_most"] spGs :=
  mkK T.g_l_gates T.f_l_gates scGs (fun vs H Q E h => by obtain ⟨c, cl, n, m, T, rfl, _⟩ := h; rfl) (fun _ _ _ _ _ _ us hl => match us, hl with | [_, _, _], _ => rfl) fun cdv A outer s H vs Q E hr h => by
    obtain ⟨c, cl, n, m, T0, rfl, n1, n8, m30, hT, C, q⟩ := h
    have hr1 : Room 1 _ := hr.mono (by decide)
    have hr2 : Room 2 _ := hr.mono (by decide)
    refine ⟨_, pss_cons (ps_set (i := 3) scGs.nd rfl (Or.inl rfl) (pe_lst pa_nil))
      (pss_cons (ps_for PassesOwn.never rfl (pi_range1 rfl T.n_range (pa_cons (pe_mono (pe_ifExp (pt_cmpR op_gt (pv 1) pe_int (nomark _)) (pe_f (k_reel T) hr1 passL (pa_cons (pv 0) (pa_cons (pe_op op_add (pv 2) pe_int) pa_nil))) pe_int)) pa_nil)) (pg_name (i := 4) scGs.nd rfl (Or.inl rfl))
        (pss_one (ps_expr (pe_bm PySem.F.plainAttrs_list PySem.F.slot_list_append PySem.F.type_list_append mt_append (pv 3) (pa_cons (pe_mono (pe_ifExp (PW.pt (pw_and (pt_cmpR (op_neD hr.units) (pv 3) (pe_lst pa_nil) (nomark _)) (pw_and1 (pt_cmpR op_eq (pe_f (k_reel T) hr1 passL (pa_cons (pv 0) (pa_cons pe_int pa_nil))) pe_int (nomark _))))) (pe_f (k_pick T) hr2 passL (pa_cons (pv 0) (pa_cons (pv 3) pa_nil))) (pe_f (k_gate T) hr passL (pa_cons (pv 0) (pa_cons (pv 1) pa_nil))))) pa_nil)))))
      (pss_one (ps_ret (pv 3)))), ?_⟩
    obtain ⟨xc, hxc⟩ := C.get
    obtain ⟨xl, hxl⟩ := C.getl
    refine ⟨by decide, fun f hf => ?_⟩
    have cf : c ≠ f := ne_of_none hxc hf
    have lf : cl ≠ f := ne_of_none hxl hf
    have s0 : Same H (upd H f (.lst [])) := same_new hf
    -- how many
    refine ⟨fun x H1 => ∃ j : Nat, x = .int j ∧ j ≤ 30 ∧ (n = 1 → j = 0) ∧ But c H H1 ∧ H1 f = some (.lst []) ∧ Cin H1 c cl (T0 + 1), ?_, ?_⟩
    · refine ⟨_, rfl, _, _, rfl, rfl, _, rfl, ifB (fun cc => ?_) fun cc => ?_⟩
      · have cc : (1 : Int) < n := of_decide_eq_true cc
        refine ⟨_, rfl, _, rfl, _, _, rfl, rfl, c, cl, _, T0, rfl, by omega, by omega, by omega, C.same s0, fun H1 r b1 C1 r0 r1 => ?_⟩
        obtain ⟨j, rfl⟩ := Int.eq_ofNat_of_zero_le r0
        exact ⟨j, rfl, by omega, fun e => by omega, (but_same s0).trans b1, b1 _ _ (Ne.symm cf) upd_same, C1⟩
      · exact ⟨0, rfl, Nat.zero_le _, fun _ => rfl, but_same s0, upd_same, (C.same s0).up (Nat.le_succ _)⟩
    rintro x H1 ⟨j, rfl, j30, j0, b1, hf1, C1⟩
    refine ⟨j, rfl, by omega, by omega, ?_⟩
    refine for_range (fun i σ H' => ∃ (as : List AG) (v : Option V), σ = [some (.ref c), some (.int (n : Nat)), some (.int (m : Nat)), some (.ref f), v] ∧ But c H H' ∧ H' f = some (.lst (refs as)) ∧ as.length = i ∧ Gates H' n as ∧ Cin H' c cl (T0 + 1 + 10 * i)) ⟨[], none, rfl, b1, hf1, rfl, fun q hq => (nomatch hq), C1⟩ ?_ ?_
    · rintro i σ H2 hi ⟨as, v, rfl, b2, h2, hl, G2, C2⟩
      have hij : i < j := by omega
      have n2 : 2 ≤ n := by
        rcases Nat.lt_or_ge 1 n with h | h
        · exact h
        · exact absurd (j0 (by omega)) (by omega)
      refine ⟨_, rfl, .inl ⟨rfl, _, .inl (.inl h2)⟩, ?_⟩
      -- the gate: one that stands, or a new one
      refine ⟨fun x H3 => ∃ q : AG, x = .ref q.1 ∧ But c H2 H3 ∧ GateAt H3 q.1 q.2 ∧ Ok n q.2 ∧ Cin H3 c cl (T0 + 1 + 10 * (i + 1)), ?_, ?_⟩
      · have fresh : ∀ H3, But c H2 H3 → Cin H3 c cl (T0 + 1 + 10 * i + 1) → ∃ (c2 cl2 : Addr) (n2 T2 : Nat), [V.ref c, V.int (n : Nat)] = [.ref c2, .int n2] ∧ 2 ≤ n2 ∧ n2 ≤ 8 ∧ T2 ≤ 80000 ∧ Cin H3 c2 cl2 T2 ∧ ∀ H' p gt, But c2 H3 H' → GateAt H' p gt → Ok n2 gt → Cin H' c2 cl2 (T2 + 9) → ∃ q : AG, V.ref p = .ref q.1 ∧ But c H2 H' ∧ GateAt H' q.1 q.2 ∧ Ok n q.2 ∧ Cin H' c cl (T0 + 1 + 10 * (i + 1)) := fun H3 b3 C3 =>
          ⟨c, cl, n, _, rfl, n2, n8, by omega, C3, fun H' p gt b4 gA gO C4 => ⟨(p, gt), rfl, b3.trans b4, gA, gO, C4.up (by omega)⟩⟩
        refine ⟨_, rfl, by decide, fun e he => ?_⟩
        have s3 : Same H2 (upd H2 e (.lst [])) := same_new he
        refine ⟨_, _, .lst (.inl (.inl (s3 _ _ h2))) (dp_gates fun q hq => (G2 q hq).1.t (same_t s3)), .lst (.inl (.inl upd_same)) .nil, shaped_gatesL as, by decide +kernel, _, rfl, ?_⟩
        rw [eqv_nil]
        have h2e := s3 _ _ h2
        have G3 := G2.t (same_t s3)
        have C3 := C2.same s3
        have b3 : But c H2 (upd H2 e (.lst [])) := but_same s3
        generalize upd H2 e (.lst []) = H3 at h2e G3 C3 b3
        refine ifB (fun cc => ?_) fun cc => iteF ⟨_, rfl, _, rfl, fresh H3 b3 (C3.up (Nat.le_succ _))⟩
        have hpos : 0 < as.length := by
          cases as with
          | nil => cases cc
          | cons a as => exact Nat.zero_lt_succ _
        refine ⟨_, rfl, c, cl, 4, _, rfl, by decide, by decide, by omega, C3, fun H4 r b4 C4 r0 r1 => ⟨rfl, _, rfl, ifB (fun c5 => ?_) fun c5 => ⟨_, rfl, _, rfl, fresh H4 (b3.trans b4) C4⟩⟩⟩
        refine ⟨_, rfl, _, rfl, c, cl, f, _, _, rfl, by omega, C4, Ne.symm cf, b4 _ _ (Ne.symm cf) h2e, by rw [refs_len]; exact hpos, by rw [refs_len]; omega, fun H5 i5 x5 hx5 b5 C5 => ?_⟩
        obtain ⟨g, hg, rfl⟩ := refs_at hx5
        have b35 : But c H3 H5 := b4.trans b5
        obtain ⟨gA, gO⟩ := G3 g (List.mem_of_getElem? hg)
        exact ⟨g, rfl, b3.trans b35, gA.t (but_t C3 b35), gO, C5.up (by omega)⟩
      · rintro x H3 ⟨g, rfl, b3, gA, gO, C3⟩
        have h3 := b3 _ _ (Ne.symm cf) h2
        have G3 : Gates H3 n as := G2.t (but_t C2 b3)
        refine ⟨f, _, _, rfl, rfl, h3, small1000 (by rw [refs_len]; omega), as ++ [g], some (.int (0 + (i : Int))), rfl, fun b o nb e => ?_, ?_, by rw [List.length_append, hl]; rfl, fun q hq => ?_, C3.put cf lf⟩
        · rw [upd_ne (ne_of_none e hf)]
          exact b3 _ _ nb (b2 _ _ nb e)
        · rw [upd_same]
          exact congrArg (fun z => some (HO.lst z)) (List.map_append (f := fun q : AG => V.ref q.1) (l₁ := as) (l₂ := [g])).symm
        · have st : SameT H3 (upd H3 f (.lst (refs as ++ [V.ref g.1]))) := sameT_lst (SameT.refl _) h3
          rcases List.mem_append.mp hq with h | h
          · exact ⟨(G3 q h).1.t st, (G3 q h).2⟩
          · rw [List.mem_singleton.mp h]
            exact ⟨gA.t st, gO⟩
    · rintro σ H2 ⟨as, v, rfl, b2, h2, hl, G2, C2⟩
      have hl : as.length = j := by omega
      refine ⟨_, rfl, q H2 f as b2 hf h2 (by omega) G2 (fun e => ?_) (C2.up (by omega))⟩
      have := j0 e
      exact List.length_eq_zero_iff.mp (by omega)
end
end Kl
set_option maxHeartbeats 4000000
/-! ## the law's step, film, goals, weight -/
namespace Kl
open PySem PySem.Spec PyProof.Rows L2
theorem inV_nat (a : Nat) (l : List Nat) : inV (V.int (a : Int)) (natV l) = decide (a ∈ l) := by
  unfold inV
  rw [Bool.eq_iff_iff, List.any_eq_true, decide_eq_true_eq]
  constructor
  · rintro ⟨y, hy, e⟩
    obtain ⟨b, hb, rfl⟩ := List.mem_map.mp hy
    have e : ((b : Int) == (a : Int)) = true := e
    have e : (b : Int) = (a : Int) := beq_iff_eq.mp e
    have e : b = a := by omega
    exact e ▸ hb
  · intro h
    refine ⟨V.int (a : Int), List.mem_map.mpr ⟨a, h, rfl⟩, ?_⟩
    show ((a : Int) == (a : Int)) = true
    exact beq_self_eq_true _
theorem flat_nat (l : List Nat) : (natV l).all flatV = true := by
  rw [List.all_eq_true]
  intro x hx
  obtain ⟨b, _, rfl⟩ := List.mem_map.mp hx
  rfl
theorem ft_yes {l : List Nat} {p : Nat → Bool} {f : Nat → V} {i z : Nat} (h : l[i]? = some z) (hp : p z = true) : ((l.take (i + 1)).filter p).map f = ((l.take i).filter p).map f ++ [f z] := by
  rw [take_more h, List.filter_append, List.map_append]
  simp [hp]
theorem ft_no {l : List Nat} {p : Nat → Bool} {f : Nat → V} {i z : Nat} (h : l[i]? = some z) (hp : p z = false) : ((l.take (i + 1)).filter p).map f = ((l.take i).filter p).map f := by
  rw [take_more h, List.filter_append, List.map_append]
  simp [hp]
theorem ft_len {l : List Nat} {p : Nat → Bool} {f : Nat → V} (i : Nat) : (((l.take i).filter p).map f).length ≤ l.length := by
  rw [List.length_map]
  have := List.length_filter_le p (l.take i)
  rw [List.length_take] at this
  omega
theorem lit_lt {r l : Nat} (h : l ∈ litN r) : l < 8 := List.mem_range.mp (List.mem_filter.mp h).1
theorem lit_len (r : Nat) : (litN r).length ≤ 8 := by
  have := List.length_filter_le (fun l => r.testBit l) (List.range 8)
  rwa [List.length_range] at this
section
variable {w : World} {K : PySem.W.Frag} {mg : Str → Option Value} {base : Heap}
abbrev NLs : List Str := ["_law_gate_here", "_law_row", "_law_hands", "_law_one", "_law_other", "_law_lit", "_law_lamp", "_law_hand"]
def spLStep : Sp := fun vs H Q _ => ∃ (g : Addr) (gt : G) (r : Nat), vs = [.ref g, .int r] ∧ GateAt H g gt ∧ Ok 8 gt ∧ r < 256 ∧ ∀ H', Same H H' → Q (.int (stepN gt r : Nat)) H'
theorem scLs : FnScope NLs ["_law_gate_here", "_law_row"] (defScope s_l_step) := ⟨rfl, rfl, rfl, by decide +kernel, rfl, by decide +kernel, by decide +kernel⟩
theorem k_lstep (T : Tx K mg) : FnK PR w K mg base 1 "_law_step" ["_law_gate_here", "_law_row"] spLStep :=
  mkK T.g_l_step T.f_l_step scLs (fun vs H Q E h => by obtain ⟨g, gt, r, rfl, _⟩ := h; rfl) (fun _ _ _ _ _ _ us hl => match us, hl with | [_, _], _ => rfl) fun cdv A outer s H vs Q E hr h => by
    obtain ⟨g, gt, r, rfl, ⟨a, hg, ha⟩, k, hr8, q⟩ := h
    refine ⟨_, pss_cons (ps_asg (pv 0) (pg_tup rfl (pgs_cons (pg_name (i := 2) scLs.nd rfl (Or.inl rfl)) (pgs_cons (pg_name (i := 3) scLs.nd rfl (Or.inr rfl)) (pgs_cons (pg_name (i := 4) scLs.nd rfl (Or.inr rfl)) pgs_nil)))))
      (pss_cons (ps_set (i := 5) scLs.nd rfl (Or.inr rfl) (pe_lc (own := [("_law_lamp", 6)]) (g := gName 6) rfl scLs.nd (pi_range1 rfl T.n_range (pa_cons pe_int pa_nil)) (blkOk_by (N := NLs) (sc := defScope s_l_step) (by decide +kernel)) (fun _ _ _ _ _ => pg_name (i := 6) scLs.nd rfl (Or.inl rfl))
          (fun _ _ _ _ _ => pts_one (pt_cmpR op_eq (pe_op op_and (pe_op op_shr (pv 1) (pv 6)) pe_int) pe_int (nomark _))) (fun _ _ _ _ _ => pv 6)))
      (pss_cons (ps_if (PW.pt (pw_or (pt_cmpR op_eq (pe_cmpR op_in_seq (pv 3) (pv 5) (by with_unfolding_all rfl)) (pe_cmpR op_in_seq (pv 4) (pv 5) (by with_unfolding_all rfl)) (nomark _)) (pw_or1 (pt_cmpR (op_neD hr.units) (pe_lc (own := [("_law_hand", 7)]) (g := gName 7) rfl scLs.nd (pi_seq (pv 2)) (blkOk_by (N := NLs) (sc := defScope s_l_step) (by decide +kernel)) (fun _ _ _ _ _ => pg_name (i := 7) scLs.nd rfl (Or.inl rfl))
          (fun _ _ _ _ _ => pts_one (pt_cmpR (r := rIn K true) op_notIn_seq (pv 7) (pv 5) (by with_unfolding_all rfl))) (fun _ _ _ _ _ => pv 7)) (pe_lst pa_nil) (nomark _))))) (pss_one (ps_ret (pv 1))) pss_nil)
      (pss_one (ps_ret (pe_op op_add (pe_callB (cr_sum rfl) rfl T.n_sum b_sum (pa_cons (pe_lc (own := [("_law_lamp", 6)]) (g := gName 6) rfl scLs.nd (pi_list (pv 5)) (blkOk_by (N := NLs) (sc := defScope s_l_step) (by decide +kernel)) (fun _ _ _ _ _ => pg_name (i := 6) scLs.nd rfl (Or.inl rfl))
          (fun _ _ _ _ _ => pts_one (pt_cmpR (r := rIn K true) op_notIn_seq (pv 6) (pe_tup (pa_cons (pv 3) (pa_cons (pv 4) pa_nil))) (by with_unfolding_all rfl))) (fun _ _ _ _ _ => pe_op op_shl pe_int (pv 6))) pa_nil)) (pe_op op_shl pe_int (pe_ifExp (pt_cmpR op_in_seq (pv 3) (pv 5) (by with_unfolding_all rfl)) (pv 4) (pv 3)))))))), ?_⟩
    have hgl : ∀ x ∈ gt.1, x < 8 := fun x hx => (k.hands x hx).1
    have gln := nodup_len (k.nd.imp fun h => Nat.ne_of_lt h) hgl
    refine ⟨_, rfl, g, _, rfl, .inl (.inl hg), rfl, _, _, rfl, _, _, rfl, _, _, rfl, rfl, ?_⟩
    dsimp only [tSeq, tAsg, gName]
    refine lc_rng (H1 := H) (n := 8) (fun Q h => h) (by decide) (fun i => natV ((List.range i).filter fun l => r.testBit l)) rfl (fun D hD i H2 hi p => ?_) (fun D H2 hD s2 e2 => ?_)
    · refine ⟨rfl, _, rfl, _, rfl, _, _, rfl, rfl, Int.natCast_nonneg _, _, _, rfl, rfl, rfl, _, rfl, ?_⟩
      have ed : decide (V.int (Builtin.bitAnd ((r : Int) / 2 ^ ((i : Int)).toNat) 1) = V.int 1) = r.testBit i := lit_dec r i
      refine ifB (fun c => ?_) fun c => ?_
      · exact ⟨_, rfl, acc_yes p hD (by have := filt_len (p := fun l => r.testBit l) i; omega) (Same.refl _) (filt_yes (ed.symm.trans c))⟩
      · exact acc_no p (Same.refl _) (filt_no (ed.symm.trans c))
    · have e2 : H2 D = some (.lst (natV (litN r))) := e2
      have ha2 := s2 _ _ ha
      have dl : SqL K H2 D (natV (litN r)) := .inl (.inl e2)
      refine ⟨_, rfl, _, rfl, D, _, rfl, .inl dl, rfl, flat_nat _, _, rfl, _, rfl, D, _, rfl, .inl dl, rfl, flat_nat _, rfl, _, rfl, ?_⟩
      have i1 : (if false = true then !inV (V.int ((gt.2.1 : Nat) : Int)) (natV (litN r)) else inV (V.int ((gt.2.1 : Nat) : Int)) (natV (litN r))) = r.testBit gt.2.1 := by
        rw [if_neg Bool.false_ne_true, inV_nat, Bool.eq_iff_iff, decide_eq_true_eq, lit_mem k.one]
      have i2 : (if false = true then !inV (V.int ((gt.2.2 : Nat) : Int)) (natV (litN r)) else inV (V.int ((gt.2.2 : Nat) : Int)) (natV (litN r))) = r.testBit gt.2.2 := by
        rw [if_neg Bool.false_ne_true, inV_nat, Bool.eq_iff_iff, decide_eq_true_eq, lit_mem k.other]
      rw [i1, i2]
      refine ifB (fun c => ?_) fun c => ?_
      · have e : stepN gt r = r := by
          have c : V.bl (r.testBit gt.2.1) = V.bl (r.testBit gt.2.2) := of_decide_eq_true c
          injection c with c
          unfold stepN
          rw [c]
          simp
        have z := q H2 s2
        rw [e] at z
        exact iteT ⟨_, rfl, z⟩
      · have c : r.testBit gt.2.1 ≠ r.testBit gt.2.2 := fun e => (of_decide_eq_false c) (congrArg V.bl e)
        have c2 : (r.testBit gt.2.1 == r.testBit gt.2.2) = false := by
          cases e : (r.testBit gt.2.1 == r.testBit gt.2.2) with
          | false => rfl
          | true => exact absurd (beq_iff_eq.mp e) c
        dsimp only [tTest, tOp]
        refine lc_seq rfl (.inr ha2) (fun i => ((gt.1.take i).filter fun h => !r.testBit h).map fun h : Nat => V.int ((h : Nat) : Int)) rfl (fun D3 hD3 i x H3 hx hi p => ?_) (fun D3 H3 hD3 s3 e3 => ?_)
        · obtain ⟨z, hz, rfl⟩ := natV_at hx
          have hz8 := hgl z (List.mem_of_getElem? hz)
          refine ⟨rfl, _, rfl, _, rfl, D, _, rfl, .inl (.inl (.inl (p.1 _ _ e2))), rfl, flat_nat _, _, rfl, ?_⟩
          have iz : (if true = true then !inV (V.int ((z : Nat) : Int)) (natV (litN r)) else inV (V.int ((z : Nat) : Int)) (natV (litN r))) = !r.testBit z := by
            rw [if_pos rfl, inV_nat]
            congr 1
            rw [Bool.eq_iff_iff, decide_eq_true_eq, lit_mem hz8]
          rw [iz]
          refine ifB (fun c3 => ?_) fun c3 => ?_
          · exact ⟨_, rfl, acc_yes p hD3 (by have := ft_len (l := gt.1) (p := fun h => !r.testBit h) (f := fun h : Nat => V.int ((h : Nat) : Int)) i; omega) (Same.refl _) (ft_yes hz c3)⟩
          · exact acc_no p (Same.refl _) (ft_no hz c3)
        · rw [natV_len, List.take_length] at e3
          refine ⟨by decide, fun e he => ?_⟩
          have s4 : Same H3 (upd H3 e (.lst [])) := same_new he
          have e3' : (upd H3 e (.lst [])) D3 = some (.lst (((gt.1.filter fun h => !r.testBit h).map fun n : Nat => (n : Int)).map V.int)) := (s4 _ _ e3).trans (congrArg (fun z => some (HO.lst z)) (natV_int (gt.1.filter fun h => !r.testBit h)))
          refine ⟨_, _, dp_lst e3', .lst (.inl (.inl upd_same)) .nil, shaped_lst _, by decide +kernel, _, rfl, ?_⟩
          rw [eqv_nil]
          have e2' := s4 _ _ (s3 _ _ e2)
          have s24 : Same H (upd H3 e (.lst [])) := s2.trans (s3.trans s4)
          generalize upd H3 e (.lst []) = H4 at e2' s24
          have es : stepN gt r = if (!(gt.1.all fun h => r.testBit h)) = true then r else r ^^^ 2 ^ gt.2.1 ^^^ 2 ^ gt.2.2 := by
            unfold stepN
            rw [c2, Bool.false_or]
          refine ifB (fun c3 => ?_) fun c3 => ?_
          · have ea : (gt.1.all fun h => r.testBit h) = false := by
              cases hb : gt.1.all fun h => r.testBit h with
              | false => rfl
              | true =>
                have en : gt.1.filter (fun h => !r.testBit h) = [] := List.filter_eq_nil_iff.mpr fun x hx => by
                  rw [List.all_eq_true.mp hb x hx]
                  decide
                rw [en] at c3
                cases c3
            rw [ea] at es
            have z := q H4 s24
            rw [es] at z
            exact ⟨_, rfl, z⟩
          · have ea : (gt.1.all fun h => r.testBit h) = true := by
              rw [List.all_eq_true]
              intro x hx
              cases hb : r.testBit x with
              | true => rfl
              | false =>
                have hm : x ∈ gt.1.filter (fun h => !r.testBit h) := List.mem_filter.mpr ⟨hx, by rw [hb]; rfl⟩
                cases hl : gt.1.filter (fun h => !r.testBit h) with
                | nil => rw [hl] at hm; cases hm
                | cons y ys => rw [hl] at c3; cases c3
            rw [ea] at es
            dsimp only [tNext, tRet, tOp]
            refine cb_lc (lc_lst rfl e2' (fun i => (((litN r).take i).filter fun l => !(l == gt.2.1 || l == gt.2.2)).map fun l : Nat => V.int ((2 ^ l : Nat) : Int)) rfl (fun D5 hD5 i x H5 hx hi p => ?_) (fun D5 H5 hD5 s5 e5 => ?_))
            · obtain ⟨z, hz, rfl⟩ := natV_at hx
              have hz8 := lit_lt (List.mem_of_getElem? hz)
              refine ⟨rfl, _, rfl, _, rfl, _, rfl, by show 2 ≤ sizeLine; decide, fun u hu => ?_⟩
              have s6 : Same H5 (upd H5 u (.tup [V.int ((gt.2.1 : Nat) : Int), V.int ((gt.2.2 : Nat) : Int)])) := same_new hu
              refine ⟨u, natV [gt.2.1, gt.2.2], rfl, .inr (.inl (.inl upd_same)), rfl, flat_nat _, _, rfl, ?_⟩
              have iz : (if true = true then !inV (V.int ((z : Nat) : Int)) (natV [gt.2.1, gt.2.2]) else inV (V.int ((z : Nat) : Int)) (natV [gt.2.1, gt.2.2])) = !(z == gt.2.1 || z == gt.2.2) := by
                rw [if_pos rfl, inV_nat]
                congr 1
                rw [Bool.eq_iff_iff, decide_eq_true_eq]
                simp
              rw [iz]
              refine ifB (fun c4 => ?_) fun c4 => ?_
              · refine ⟨_, rfl, _, _, rfl, rfl, cpow1 (by omega), acc_yes p hD5 (by have := ft_len (l := litN r) (p := fun l => !(l == gt.2.1 || l == gt.2.2)) (f := fun l : Nat => V.int ((2 ^ l : Nat) : Int)) i; have := lit_len r; omega) s6 ?_⟩
                show _ = _ ++ [V.int ((1 : Int) * 2 ^ ((z : Int)).toNat)]
                rw [shl1]
                exact ft_yes hz c4
              · exact acc_no p s6 (ft_no hz c4)
            · rw [natV_len, List.take_length] at e5
              refine ⟨D5, (((litN r).filter fun l => !(l == gt.2.1 || l == gt.2.2)).map fun l => 2 ^ l).map (fun n : Nat => (n : Int)), rfl, .inl (.inl (by rw [e5, List.map_map, List.map_map]; rfl)), ?_⟩
              rw [sum_cast]
              have sw := law_swap r hr8 gt.2.1 k.one gt.2.2 k.other (Nat.ne_of_lt k.lt) c
              have z := q H5 (s24.trans s5)
              rw [es, if_neg (by decide)] at z
              refine ⟨_, rfl, _, rfl, D, _, rfl, .inl (.inl (.inl (s5 _ _ e2'))), rfl, flat_nat _, _, rfl, ?_⟩
              rw [i1]
              cases c5 : r.testBit gt.2.1 with
              | true =>
                rw [c5, if_pos rfl] at sw
                refine iteT ⟨_, rfl, _, _, rfl, rfl, cpow1 (by have := k.other; omega), _, _, rfl, rfl, ?_⟩
                show Q (V.int ((_ : Nat) + (1 : Int) * 2 ^ ((gt.2.2 : Int)).toNat)) H5
                rw [shl1, ← Int.natCast_add, sw]
                exact z
              | false =>
                rw [c5, if_neg Bool.false_ne_true] at sw
                refine iteF ⟨_, rfl, _, _, rfl, rfl, cpow1 (by have := k.one; omega), _, _, rfl, rfl, ?_⟩
                show Q (V.int ((_ : Nat) + (1 : Int) * 2 ^ ((gt.2.1 : Int)).toNat)) H5
                rw [shl1, ← Int.natCast_add, sw]
                exact z
end
end Kl
set_option maxHeartbeats 4000000
/-! ## the law's film, goals, weight -/
namespace Kl
open PySem PySem.Spec PyProof.Rows L2
section
variable {w : World} {K : PySem.W.Frag} {mg : Str → Option Value} {base : Heap}
/-- the law's gates in a list at f -/
def GL (H : Hp) (f : Addr) (as : List AG) : Prop := H f = some (.lst (refs as)) ∧ as.length ≤ 100 ∧ Gates H 8 as
theorem GL.same {H H' : Hp} {f : Addr} {as : List AG} (h : GL H f as) (s : Same H H') : GL H' f as := ⟨s _ _ h.1, h.2.1, h.2.2.t (same_t s)⟩
abbrev NLf : List Str := ["_law_gates_here", "_law_row", "_law_found", "_law_gate_here"]
def spLFilm : Sp := fun vs H Q _ => ∃ (f : Addr) (as : List AG) (r : Nat), vs = [.ref f, .int r] ∧ GL H f as ∧ r < 256 ∧ ∀ H' q, Same H H' → H q = none → H' q = some (.lst (natV (filmN (gsOf as) r))) → Q (.ref q) H'
theorem scLf : FnScope NLf ["_law_gates_here", "_law_row"] (defScope s_l_film) := ⟨rfl, rfl, rfl, by decide +kernel, rfl, by decide +kernel, by decide +kernel⟩
theorem k_lfilm (T : Tx K mg) : FnK PR w K mg base 2 "_law_film" ["_law_gates_here", "_law_row"] spLFilm :=
  mkK T.g_l_film T.f_l_film scLf (fun vs H Q E h => by obtain ⟨f, as, r, rfl, _⟩ := h; rfl) (fun _ _ _ _ _ _ us hl => match us, hl with | [_, _], _ => rfl) fun cdv A outer s H vs Q E hr h => by
    obtain ⟨fl, as, r, rfl, ⟨ht, hlen, Gs⟩, hr8, q⟩ := h
    refine ⟨_, pss_cons (ps_set (i := 2) scLf.nd rfl (Or.inl rfl) (pe_lst (pa_cons (pv 1) pa_nil)))
      (pss_cons (ps_for PassesOwn.never rfl (pi_list (pv 0)) (pg_name (i := 3) scLf.nd rfl (Or.inl rfl))
        (pss_one (ps_expr (pe_bm PySem.F.plainAttrs_list PySem.F.slot_list_append PySem.F.type_list_append mt_append (pv 2) (pa_cons (pe_f (k_lstep T) hr passL (pa_cons (pv 3) (pa_cons (pe_ix ix_seq (pv 2) (pe_un un_neg pe_int) fun _ _ => rfl) pa_nil))) pa_nil)))))
      (pss_one (ps_ret (pv 2)))), ?_⟩
    refine ⟨_, rfl, (by show 1 ≤ sizeLine; decide), fun f hf => ?_⟩
    have s1 : Same H (upd H f (.lst [V.int r])) := same_new hf
    have fne : ∀ {b : Addr} {o : HO}, H b = some o → b ≠ f := fun e => ne_of_none e hf
    have gl : (gsOf as).length = as.length := List.length_map _
    refine ⟨_, rfl, fl, rfl, ⟨_, .inl (.inl (s1 _ _ ht))⟩, ?_⟩
    refine for_list (K := K) (a := fl) (xs := refs as) (fun i σ H' => ∃ v : Option V, σ = [some (.ref fl), some (.int (r : Int)), some (.ref f), v] ∧ Same H H' ∧ H' f = some (.lst (natV (filmN ((gsOf as).take i) r)))) ⟨none, rfl, s1, upd_same⟩ (fun i σ H' _ ⟨_, _, s5, _⟩ => .inl (.inl (s5 _ _ ht))) ?_ ?_
    · rintro i x σ H' hx ⟨v, rfl, s5, hfl⟩
      obtain ⟨g, hg, rfl⟩ := refs_at hx
      obtain ⟨gA, gO⟩ := Gs g (List.mem_of_getElem? hg)
      have hg2 : (gsOf as)[i]? = some g.2 := by rw [List.getElem?_map, hg]; rfl
      have hil : i < as.length := (List.getElem?_eq_some_iff.mp hg).1
      have hrl : runN ((gsOf as).take i) r < 256 := run_lt (n := 8) (fun g hg => ok_gates Gs g (List.mem_of_mem_take hg)) hr8
      refine ⟨_, rfl, .inl ⟨rfl, _, .inl (.inl hfl)⟩, ?_⟩
      refine ⟨_, rfl, _, rfl, _, rfl, .inl ⟨f, _, -1, _, rfl, rfl, .inl (.inl hfl), natV_last (by omega) r, ?_⟩⟩
      refine ⟨g.1, g.2, runN ((gsOf as).take i) r, rfl, gA.same s5, gO, hrl, fun H6 s6 => ?_⟩
      refine ⟨f, _, _, rfl, rfl, s6 _ _ hfl, small1000 (by rw [natV_len, film_len, List.length_take]; omega), ?_⟩
      refine ⟨some (.ref g.1), rfl, fun b o e => ?_, ?_⟩
      · rw [upd_ne (fne e)]
        exact s6 _ _ (s5 _ _ e)
      · rw [upd_same, film_more hg2, natV_app]
        rfl
    · rintro σ H' ⟨v, rfl, s5, hfl⟩
      rw [refs_len, ← gl, List.take_length] at hfl
      exact ⟨_, rfl, q H' f s5 hf hfl⟩
abbrev NLg : List Str := ["_law_lamps", "_law_gates_here", "_law_row"]
def spLGoals : Sp := fun vs H Q _ => ∃ (f : Addr) (as : List AG) (n : Nat), vs = [.int n, .ref f] ∧ GL H f as ∧ n ≤ 8 ∧ ∀ H' q, Same H H' → H' q = some (.tup (natV (goalsN n (gsOf as)))) → Q (.ref q) H'
theorem scLg : FnScope NLg ["_law_lamps", "_law_gates_here"] (defScope s_l_goals) := ⟨rfl, rfl, rfl, by decide +kernel, rfl, by decide +kernel, by decide +kernel⟩
theorem film_lastV (gs : List G) (r : Nat) : atI (natV (filmN gs r)) (-1) = some (V.int ((runN gs r : Nat) : Int)) := by
  have z := natV_last (gs := gs) (Nat.le_refl _) r
  rwa [List.take_length] at z
theorem k_lgoals (T : Tx K mg) : FnK PR w K mg base 3 "_law_goals" ["_law_lamps", "_law_gates_here"] spLGoals :=
  mkK T.g_l_goals T.f_l_goals scLg (fun vs H Q E h => by obtain ⟨f, as, n, rfl, _⟩ := h; rfl) (fun _ _ _ _ _ _ us hl => match us, hl with | [_, _], _ => rfl) fun cdv A outer s H vs Q E hr h => by
    obtain ⟨f, as, n, rfl, g, n8, q⟩ := h
    refine ⟨_, pss_one (ps_ret (pe_tupleOf rfl T.n_tuple (pe_lc (own := [("_law_row", 2)]) (g := gName 2) (tt := tYes) rfl scLg.nd (pi_range1 rfl T.n_range (pa_cons (pe_op op_shl pe_int (pv 0)) pa_nil)) (blkOk_by (N := NLg) (sc := defScope s_l_goals) (by decide +kernel)) (fun _ _ _ _ _ => pg_name (i := 2) scLg.nd rfl (Or.inl rfl)) (fun _ _ _ _ _ => pts_nil)
      (fun _ _ _ _ _ => pe_ix (r := rIx K) ix_seq (pe_f (k_lfilm T) hr passL (pa_cons (pv 1) (pa_cons (pv 2) pa_nil))) (pe_un un_neg pe_int) fun _ _ => rfl)))), ?_⟩
    have h28 := pow8 n8
    dsimp only [tRet, tThen]
    refine lc_rng (H1 := H) (n := 2 ^ n) (fun Q h => ?_) (by omega) (fun i => natV ((List.range i).map (runN (gsOf as)))) rfl (fun D hD i H2 hi p => ?_) (fun D H2 hD s2 e2 => ?_)
    · refine ⟨_, rfl, _, _, rfl, rfl, cpow1 (by omega), ?_⟩
      show Q [V.int ((1 : Int) * 2 ^ ((n : Int)).toNat)] _
      rw [shl1]
      exact h
    · refine ⟨rfl, yes_if ⟨_, rfl, _, rfl, f, as, i, rfl, g.same p.1, by omega, fun H3 z s3 hz hzf => ?_⟩⟩
      refine ⟨_, rfl, .inl ⟨z, _, -1, _, rfl, rfl, .inl (.inl hzf), film_lastV _ _, acc_yes p hD (by rw [natV_len, List.length_map, List.length_range]; omega) s3 ?_⟩⟩
      rw [List.range_succ, List.map_append, natV_app]
      rfl
    · exact .inl ⟨D, _, rfl, .inl (.inl e2), fun t ht => q _ t (s2.trans (same_new ht)) upd_same⟩
abbrev NLw : List Str := ["_law_row", "_law_lamp"]
def spLWt : Sp := fun vs H Q _ => ∃ r : Nat, vs = [.int r] ∧ r < 256 ∧ ∀ H', Same H H' → Q (.int (wt 8 r : Nat)) H'
theorem scLw : FnScope NLw ["_law_row"] (defScope s_l_weight) := ⟨rfl, rfl, rfl, by decide +kernel, rfl, by decide +kernel, by decide +kernel⟩
theorem k_lwt (T : Tx K mg) : FnK PR w K mg base 1 "_law_weight" ["_law_row"] spLWt :=
  mkK T.g_l_weight T.f_l_weight scLw (fun vs H Q E h => by obtain ⟨r, rfl, _⟩ := h; rfl) (fun _ _ _ _ _ _ us hl => match us, hl with | [_], _ => rfl) fun cdv A outer s H vs Q E hr h => by
    obtain ⟨r, rfl, hr8, q⟩ := h
    refine ⟨_, pss_one (ps_ret (pe_callB (cr_sum rfl) rfl T.n_sum b_sum (pa_cons (pe_lc (own := [("_law_lamp", 1)]) (g := gName 1) (tt := tYes) rfl scLw.nd (pi_range1 rfl T.n_range (pa_cons pe_int pa_nil)) (blkOk_by (N := NLw) (sc := defScope s_l_weight) (by decide +kernel)) (fun _ _ _ _ _ => pg_name (i := 1) scLw.nd rfl (Or.inl rfl)) (fun _ _ _ _ _ => pts_nil)
      (fun _ _ _ _ _ => pe_op op_and (pe_op op_shr (pv 0) (pv 1)) pe_int)) pa_nil))), ?_⟩
    dsimp only [tRet]
    refine cb_lc (lc_rng (H1 := H) (n := 8) (fun Q h => h) (by decide) (fun i => natV ((List.range i).map fun l => (r.testBit l).toNat)) rfl (fun D hD i H2 hi p => ?_) (fun D H2 hD s2 e2 => ?_))
    · refine ⟨rfl, yes_if ⟨_, rfl, _, rfl, _, _, rfl, rfl, Int.natCast_nonneg _, _, _, rfl, rfl, acc_yes p hD (by rw [natV_len, List.length_map, List.length_range]; omega) (Same.refl _) ?_⟩⟩
      show _ = _ ++ [V.int (Builtin.bitAnd ((r : Int) / 2 ^ ((i : Int)).toNat) 1)]
      rw [lit_int, List.range_succ, List.map_append, natV_app]
      rfl
    · refine ⟨D, ((List.range 8).map fun l => (r.testBit l).toNat).map (fun n : Nat => (n : Int)), rfl, .inl (.inl (e2.trans (congrArg (fun z => some (HO.lst z)) (natV_int _)))), ?_⟩
      rw [sum_cast, wt_bits r hr8]
      exact q _ s2
end
end Kl
set_option maxHeartbeats 4000000
/-! ## data shown -/
namespace Kl
open PySem PySem.Spec PyProof.Rows L2
structure ShowOk (d : PyData) : Prop where
  sh : d.showable = true
  nd : d.hasDict = false
  dp : d.depth ≤ 60
  ln : d.shown.length ≤ sizeLine
abbrev intsD (l : List Nat) : List PyData := (l.map fun n : Nat => (n : Int)).map PyData.int
theorem intsD_cons (x : Nat) (l : List Nat) : intsD (x :: l) = .int (x : Int) :: intsD l := rfl
/-- small numbers, few of them -/
structure Few (l : List Nat) : Prop where
  n : l.length ≤ 1000
  lt : ∀ x ∈ l, x ≤ 256
theorem few_facts : ∀ {l : List Nat}, (∀ x ∈ l, x ≤ 256) → PyData.showableAll (intsD l) = true ∧ PyData.hasDictAll (intsD l) = false ∧ PyData.depthAll (intsD l) = 0 ∧ PyData.canLayAll0 (intsD l) = true ∧ PyData.weightAll (intsD l) ≤ 300 * l.length ∧ PyData.intsShortAll 13 (intsD l) = true
  | [], _ => ⟨by simp [PyData.showableAll], by simp [PyData.hasDictAll], by simp [PyData.depthAll], by simp [PyData.canLayAll0], by simp [PyData.weightAll], by simp [PyData.intsShortAll]⟩
  | x :: l, h => by
    obtain ⟨h1, h2, h3, h4, h5, h6⟩ := few_facts (l := l) fun y hy => h y (List.mem_cons_of_mem _ hy)
    have hx := h x List.mem_cons_self
    have hlog : ((x : Int)).natAbs.log2 ≤ x := Nat.log2_le_self x
    refine ⟨?_, ?_, ?_, ?_, ?_, ?_⟩
    · rw [intsD_cons]
      simp only [PyData.showableAll, PyData.showable, Bool.and_eq_true, decide_eq_true_eq]
      exact ⟨by omega, h1⟩
    · rw [intsD_cons]
      simp only [PyData.hasDictAll, PyData.hasDict, Bool.false_or]
      exact h2
    · rw [intsD_cons]
      simp only [PyData.depthAll, PyData.depth]
      omega
    · rw [intsD_cons]
      simp only [PyData.canLayAll0, PyData.canLay0, Bool.true_and]
      exact h4
    · rw [intsD_cons]
      simp only [PyData.weightAll, PyData.weight, List.length_cons]
      have e : (if (((x : Int)) == 0) = true then 0 else ((x : Int)).natAbs.log2 + 1) ≤ 257 := by split <;> omega
      omega
    · refine PyData.intsShortAll_ints (((x :: l).map fun n : Nat => (n : Int))) fun y hy => ?_
      obtain ⟨z, hz, rfl⟩ := List.mem_map.mp hy
      have := h z hz
      omega
theorem one_facts {a : Nat} (ha : a ≤ 256) : (PyData.int (a : Int)).showable = true ∧ (PyData.int (a : Int)).weight ≤ 257 ∧ (PyData.int (a : Int)).intsShort 13 = true := by
  obtain ⟨c1, _, _, _, _, c6⟩ := few_facts (l := [a]) (by simpa using ha)
  rw [intsD_cons] at c1 c6
  simp only [PyData.showableAll, PyData.intsShortAll, Bool.and_eq_true] at c1 c6
  refine ⟨c1.1, ?_, c6.1⟩
  have hlog : ((a : Int)).natAbs.log2 ≤ a := Nat.log2_le_self a
  simp only [PyData.weight]
  split <;> omega
def D3 (a : Nat) (l1 l2 : List Nat) : PyData := .list [.int (a : Int), .tuple (intsD l1), .tuple (intsD l2)]
def D2 (a : Nat) (l1 : List Nat) : PyData := .list [.int (a : Int), .tuple (intsD l1)]
theorem show3 {a : Nat} {l1 l2 : List Nat} (ha : a ≤ 256) (h1 : Few l1) (h2 : Few l2) : ShowOk (D3 a l1 l2) := by
  obtain ⟨a1, a2, a3, a4, a5, a6⟩ := few_facts h1.lt
  obtain ⟨b1, b2, b3, b4, b5, b6⟩ := few_facts h2.lt
  obtain ⟨c1, c5, c6⟩ := one_facts ha
  have n1 := h1.n
  have n2 := h2.n
  have hd : (D3 a l1 l2).depth ≤ 2 := by
    unfold D3
    simp only [PyData.depth, PyData.depthAll]
    omega
  refine ⟨?_, ?_, Nat.le_trans hd (by decide), ?_⟩
  · unfold D3
    show ((PyData.int (a : Int)).showable && (PyData.showableAll (intsD l1) && (PyData.showableAll (intsD l2) && true))) = true
    rw [a1, b1, c1]
    rfl
  · unfold D3
    show (false || (PyData.hasDictAll (intsD l1) || (PyData.hasDictAll (intsD l2) || false))) = false
    rw [a2, b2]
    rfl
  · have hl : PyData.layable0 (D3 a l1 l2) = true := by
      have hc : (D3 a l1 l2).canLay0 = true := by
        unfold D3
        show (true && (PyData.canLayAll0 (intsD l1) && (PyData.canLayAll0 (intsD l2) && true))) = true
        rw [a4, b4]
        rfl
      have hw : (D3 a l1 l2).weight ≤ 2 ^ 20 := by
        unfold D3
        show (PyData.int (a : Int)).weight + 1 + (PyData.weightAll (intsD l1) + 1 + (PyData.weightAll (intsD l2) + 1 + 0)) ≤ 2 ^ 20
        omega
      show (PyData.canLay0 _ && decide (PyData.depth _ ≤ 64) && decide (PyData.weight _ ≤ 2 ^ 20)) = true
      rw [hc, decide_eq_true (Nat.le_trans hd (by decide)), decide_eq_true hw]
      rfl
    have hi : (D3 a l1 l2).intsShort 13 = true := by
      unfold D3
      show ((PyData.int (a : Int)).intsShort 13 && (PyData.intsShortAll 13 (intsD l1) && (PyData.intsShortAll 13 (intsD l2) && true))) = true
      rw [a6, b6, c6]
      rfl
    exact Nat.le_trans (shown_le13 hl hi) (by rw [sizeLine_eq]; decide)
theorem show2 {a : Nat} {l1 : List Nat} (ha : a ≤ 256) (h1 : Few l1) : ShowOk (D2 a l1) := by
  obtain ⟨a1, a2, a3, a4, a5, a6⟩ := few_facts h1.lt
  obtain ⟨c1, c5, c6⟩ := one_facts ha
  have n1 := h1.n
  have hd : (D2 a l1).depth ≤ 2 := by
    unfold D2
    simp only [PyData.depth, PyData.depthAll]
    omega
  refine ⟨?_, ?_, Nat.le_trans hd (by decide), ?_⟩
  · unfold D2
    show ((PyData.int (a : Int)).showable && (PyData.showableAll (intsD l1) && true)) = true
    rw [a1, c1]
    rfl
  · unfold D2
    show (false || (PyData.hasDictAll (intsD l1) || false)) = false
    rw [a2]
    rfl
  · have hl : PyData.layable0 (D2 a l1) = true := by
      have hc : (D2 a l1).canLay0 = true := by
        unfold D2
        show (true && (PyData.canLayAll0 (intsD l1) && true)) = true
        rw [a4]
        rfl
      have hw : (D2 a l1).weight ≤ 2 ^ 20 := by
        unfold D2
        show (PyData.int (a : Int)).weight + 1 + (PyData.weightAll (intsD l1) + 1 + 0) ≤ 2 ^ 20
        omega
      show (PyData.canLay0 _ && decide (PyData.depth _ ≤ 64) && decide (PyData.weight _ ≤ 2 ^ 20)) = true
      rw [hc, decide_eq_true (Nat.le_trans hd (by decide)), decide_eq_true hw]
      rfl
    have hi : (D2 a l1).intsShort 13 = true := by
      unfold D2
      show ((PyData.int (a : Int)).intsShort 13 && (PyData.intsShortAll 13 (intsD l1) && true)) = true
      rw [a6, c6]
      rfl
    exact Nat.le_trans (shown_le13 hl hi) (by rw [sizeLine_eq]; decide)
theorem dp3 {K : PySem.W.Frag} {H : Hp} {f t u : Addr} {a : Nat} {l1 l2 : List Nat} (h0 : H f = some (.lst [.int (a : Int), .ref t, .ref u])) (h1 : H t = some (.tup (natV l1))) (h2 : H u = some (.tup (natV l2))) : Dp K H (.ref f) (D3 a l1 l2) :=
  .lst (.inl (.inl h0)) (.cons (.int _) (.cons (dp_tup h1) (.cons (dp_tup h2) .nil)))
theorem dp2 {K : PySem.W.Frag} {H : Hp} {f t : Addr} {a : Nat} {l1 : List Nat} (h0 : H f = some (.lst [.int (a : Int), .ref t])) (h1 : H t = some (.tup (natV l1))) : Dp K H (.ref f) (D2 a l1) :=
  .lst (.inl (.inl h0)) (.cons (.int _) (.cons (dp_tup h1) .nil))
/-! ### a call by keywords -/
section
variable {X : Cx} {k : Nat} {x : Str} {ps ks : List Str} {sp : Sp} {E : XK} {p pos : Pos} {kws : List Keyword} {tk : TA} {g : List Value → List Value} {gV : List V → List V}
theorem pe_kw (F : FnK X.prog X.w X.K X.mg X.base k x ps sp) (hkb : ∀ fd, (∃ oc od osl, X.K.lookup (He.ga X.K x) = some ⟨oc, od, .func fd, osl⟩) → KB0 fd ps ks g gV) (hr : Room k X.A) (hl : ks.length = ps.length) (hx : Passes (L2.CX X.prog X.w) X E) (hkw : PK X kws tk) (hg : Gl X x := by rfl)
    (hall : (backToKw pos (keywordEach kws X.env)).all (·.1.isSome) = true := by rfl) (hks : (backToKw pos (keywordEach kws X.env)).filterMap (·.1) = ks := by rfl) (hdb : (x == ("__debug__" : Str)) = false := by decide)
    (hpl : ((backTo pos (starEach [] X.env)).any (·.1) || (backToKw pos (keywordEach kws X.env)).any (·.1.isNone)) = false := by rfl) : PE X (.Call (.Name x p) [] kws pos) (tCallK0 sp gV E tk) := by
  obtain ⟨fd, F1, _, hlk⟩ := F.ok
  exact pe_k0 F1 hr F.g F.kp (hkb fd hlk) hl hx hkw hg hall hks hdb hpl
end
/-- two keywords, the other way round -/
def swp {α : Type} : List α → List α
  | [a, b] => [b, a]
  | l => l
theorem kb_of {K : PySem.W.Frag} {x : Str} {st : Stmt} {ps ks : List Str} (hk : ks.length = 2) (F : FD K x x st (He.ga K x) [])
    (h : ∀ (kV doc pm : Value) (an : Option Addr) (cdv ct : Value) (ws : List Value), ws.length = 2 → bindArgs (PySem.W.fnOf x x (defArgs st) (defBody st) (defScope st) .none kV doc pm an cdv ct) ⟨[], ks.zip ws⟩ = pure (ps.zip (swp ws))) :
    ∀ fd, (∃ oc od osl, K.lookup (He.ga K x) = some ⟨oc, od, .func fd, osl⟩) → KB0 fd ps ks swp swp := by
  intro fd ⟨oc, od, osl, hl⟩
  obtain ⟨fd2, F2⟩ := F
  obtain ⟨oc', od', dV, kV, doc, pm, an, cdv, ct, osl', rfl, lk, hcd, hD, hK⟩ := F2.ex
  rw [hl] at lk
  injection lk with lk
  injection lk with l1 l2 l3 l4
  injection l3 with l3
  subst l3
  refine ⟨fun s ws hw => ?_, fun {zs ws} r => ?_, fun zs => ?_⟩
  · rcases hD with ⟨_, rfl⟩ | ⟨e, _⟩
    · exact .of_eq (h kV doc pm an cdv ct ws (by omega))
    · exact absurd rfl e
  · cases r with
    | nil => exact .nil
    | cons r1 r2 =>
      cases r2 with
      | nil => exact .cons r1 .nil
      | cons r3 r4 =>
        cases r4 with
        | nil => exact .cons r3 (.cons r1 .nil)
        | cons r5 r6 => exact .cons r1 (.cons r3 (.cons r5 r6))
  · match zs with
    | [] => rfl
    | [_] => rfl
    | [_, _] => rfl
    | _ :: _ :: _ :: _ => rfl
end Kl
set_option maxHeartbeats 4000000
/-! ## _law_row_right -/
namespace Kl
open PySem PySem.Spec PyProof.Rows L2
theorem few_film {gs : List G} {n : Nat} (h : ∀ g ∈ gs, Ok n g) (n8 : n ≤ 8) (hl : gs.length ≤ 100) {r : Nat} (hr : r < 2 ^ n) : Few (filmN gs r) := by
  have h28 := pow8 n8
  refine ⟨by rw [film_len]; omega, fun x hx => ?_⟩
  obtain ⟨i, _, rfl⟩ := List.mem_map.mp hx
  have := run_lt (n := n) (gs := gs.take i) (fun g hg => h g (List.mem_of_mem_take hg)) hr
  omega
theorem few_act {gs : List G} (hl : gs.length ≤ 100) (r : Nat) : Few (actN gs r) := by
  refine ⟨?_, fun x hx => ?_⟩
  · have := List.length_filter_le (fun i => !decide (runN (gs.take i) r = runN (gs.take (i + 1)) r)) (List.range gs.length)
    rw [List.length_range] at this
    unfold actN
    omega
  · have := List.mem_range.mp (List.mem_filter.mp hx).1
    omega
abbrev actE (gs : List G) (r : Nat) : List Nat := (List.range gs.length).filter fun i => !decide (runN (gs.take i) r = runN (gs.take (i + 1)) r)
theorem eqv_nil2 : PyData.eqv (.list []) (.list []) = true := by
  rw [eqv_nil]
  rfl
section
variable {w : World} {K : PySem.W.Frag} {mg : Str → Option Value} {base : Heap}
abbrev NRR : List Str := ["_law_made", "_law_gates_here", "_law_row", "_law_due", "_law_moved", "_law_at", "_law_each"]
def spRR (C : Addr) : Sp := fun vs H Q _ => ∃ (p f : Addr) (n : Nat) (bs as : List AG) (r : Nat), vs = [.ref p, .ref f, .int r] ∧ n ≤ 8 ∧ WirAt C H p n bs ∧ gsOf bs = gsOf as ∧ bs.length ≤ 100 ∧ GL H f as ∧ r < 2 ^ n ∧ ∀ H', Same H H' → Q (.bl true) H'
theorem scRR : FnScope NRR ["_law_made", "_law_gates_here", "_law_row"] (defScope s_l_row_right) := ⟨rfl, rfl, rfl, by decide +kernel, rfl, by decide +kernel, by decide +kernel⟩
theorem g_rr (T : Tx K mg) : FnG PR w K mg base 5 "_law_row_right" ["_law_made", "_law_gates_here", "_law_row"] (spRR (He.ga K "Wiring")) := by
  obtain ⟨fd, F⟩ := T.f_l_row_right
  refine okG T.g_l_row_right F (F.bindsN fun _ _ _ _ _ _ us hl => match us, hl with | [_, _, _], _ => rfl) scRR (fun vs H Q E h => by obtain ⟨p, f, n, bs, as, r, rfl, _⟩ := h; rfl) fun cdv A outer s H vs Q E hgd hr h => ?_
  obtain ⟨p, f, n, bs, as, r, rfl, n8, W, egs, hlen, g, hr8, q⟩ := h
  have hr1 : Room 1 _ := hr.mono (by decide)
  have hr2 : Room 2 _ := hr.mono (by decide)
  refine ⟨_, pss_cons (ps_set (i := 3) scRR.nd rfl (Or.inr rfl) (pe_f (k_lfilm T) hr2 passL (pa_cons (pv 1) (pa_cons (pv 2) pa_nil))))
    (pss_cons (ps_set (i := 4) scRR.nd rfl (Or.inl rfl) (pe_tupleOf rfl T.n_tuple (pe_lc (own := [("_law_at", 5)]) (g := gName 5) rfl scRR.nd (pi_range1 rfl T.n_range (pa_cons (pe_callB (r := rLen K) call_len rfl T.n_len b_len (pa_cons (pv 1) pa_nil)) pa_nil)) (blkOk_by (N := NRR) (sc := defScope s_l_row_right) (by decide +kernel)) (fun _ _ _ _ _ => pg_name (i := 5) scRR.nd rfl (Or.inl rfl))
          (fun _ _ _ _ _ => pts_one (pt_cmpR op_ne (pe_ix (r := rIx K) ix_seq (pv 3) (pv 5) fun _ _ => rfl) (pe_ix (r := rIx K) ix_seq (pv 3) (pe_op op_add (pv 5) pe_int) fun _ _ => rfl) (nomark _))) (fun _ _ _ _ _ => pv 5))))
    (pss_cons (ps_if (pt_cmpR op_ne (pe_callB (call_repr_data hr hgd) rfl T.n_repr b_repr (pa_cons (pe_lst (pa_cons (pe_f (k_run T) hr passL (pa_cons (pv 0) (pa_cons (pv 2) pa_nil))) (pa_cons (pe_f (k_film T) hr passL (pa_cons (pv 0) (pa_cons (pv 2) pa_nil))) (pa_cons (pe_f (k_acting T) hr passL (pa_cons (pv 0) (pa_cons (pv 2) pa_nil))) pa_nil)))) pa_nil))
        (pe_callB (call_repr_data hr hgd) rfl T.n_repr b_repr (pa_cons (pe_lst (pa_cons (pe_ix ix_seq (pv 3) (pe_un un_neg pe_int) fun _ _ => rfl) (pa_cons (pe_tupleOf rfl T.n_tuple (pv 3)) (pa_cons (pv 4) pa_nil)))) pa_nil)) (nomark _)) pss_never pss_nil)
    (pss_cons (ps_if (pt_cmpR op_ne (pe_callB (call_repr_data hr hgd) rfl T.n_repr b_repr (pa_cons (pe_lst (pa_cons (pe_kw (k_run T) (kb_of (ks := ["row", "wiring"]) rfl T.f_run fun _ _ _ _ _ _ ws hw => match ws, hw with | [_, _], _ => rfl) hr rfl passL (pk_cons (pv 2) (pk_cons (pv 0) pk_nil)))
          (pa_cons (pe_kw (k_film T) (kb_of (ks := ["row", "wiring"]) rfl T.f_film fun _ _ _ _ _ _ ws hw => match ws, hw with | [_, _], _ => rfl) hr rfl passL (pk_cons (pv 2) (pk_cons (pv 0) pk_nil)))
          (pa_cons (pe_kw (k_acting T) (kb_of (ks := ["row", "wiring"]) rfl T.f_acting fun _ _ _ _ _ _ ws hw => match ws, hw with | [_, _], _ => rfl) hr rfl passL (pk_cons (pv 2) (pk_cons (pv 0) pk_nil))) pa_nil)))) pa_nil))
        (pe_callB (call_repr_data hr hgd) rfl T.n_repr b_repr (pa_cons (pe_lst (pa_cons (pe_ix ix_seq (pv 3) (pe_un un_neg pe_int) fun _ _ => rfl) (pa_cons (pe_tupleOf rfl T.n_tuple (pv 3)) (pa_cons (pv 4) pa_nil)))) pa_nil)) (nomark _)) pss_never pss_nil)
    (pss_one (ps_ret (pe_cmpR (op_eqD hr.units) (pe_lc (own := [("_law_each", 6)]) (g := gName 6) rfl scRR.nd (pi_list (pv 3)) (blkOk_by (N := NRR) (sc := defScope s_l_row_right) (by decide +kernel)) (fun _ _ _ _ _ => pg_name (i := 6) scRR.nd rfl (Or.inl rfl))
          (fun _ _ _ _ _ => pts_one (pt_cmpR op_ne (pe_f (k_lwt T) hr1 passL (pa_cons (pv 6) pa_nil)) (pe_f (k_lwt T) hr1 passL (pa_cons (pv 2) pa_nil)) (nomark _))) (fun _ _ _ _ _ => pv 6)) (pe_lst pa_nil) (nomark _))))))), ?_⟩
  have h28 := pow8 n8
  have gl : (gsOf as).length = as.length := List.length_map _
  have gl2 : (gsOf bs).length = bs.length := List.length_map _
  have hal : as.length = bs.length := by rw [← gl, ← egs, gl2]
  have okg : ∀ x ∈ gsOf as, Ok n x := fun x hx => by
    obtain ⟨dx, t, hv, _, _, G⟩ := W
    exact ok_gates G x (egs ▸ hx)
  -- due
  refine ⟨_, rfl, _, rfl, f, as, r, rfl, g, by omega, fun H1 d s1 _ hd => ?_⟩
  have g1 := g.same s1
  have W1 := W.same s1
  -- moved
  dsimp only [tSeq, tAsg, tThen, gName]
  refine lc_rng (H1 := H1) (n := as.length) (fun Q h => ⟨_, rfl, _, _, rfl, .inl ⟨_, .inl (.inl g1.1), rfl⟩, by rw [refs_len]; exact h⟩) (by omega) (fun i => natV ((List.range i).filter fun i => !decide (runN ((gsOf as).take i) r = runN ((gsOf as).take (i + 1)) r))) rfl (fun D hD i H2 hi p2 => ?_) (fun D H2 hD s2 e2 => ?_)
  · have hf2 := p2.1 _ _ hd
    have z1 := atI_nat (natV_get (film_at (gs := gsOf as) (i := i) (by omega) r))
    have z2 := atI_nat (natV_get (film_at (gs := gsOf as) (i := i + 1) (by omega) r))
    have e1 : ((i : Int) + 1) = (((i + 1 : Nat)) : Int) := by omega
    refine ⟨rfl, _, rfl, _, rfl, .inl ⟨d, _, _, _, rfl, rfl, .inl (.inl hf2), z1, ?_⟩⟩
    refine ⟨_, rfl, _, rfl, _, _, rfl, rfl, .inl ⟨d, _, _, _, rfl, rfl, .inl (.inl hf2), e1 ▸ z2, rfl, _, rfl, ?_⟩⟩
    rw [dec_nat]
    refine ifB (fun c => ?_) fun c => ?_
    · exact ⟨_, rfl, acc_yes p2 hD (by have := filt_len (p := fun i => !decide (runN ((gsOf as).take i) r = runN ((gsOf as).take (i + 1)) r)) i; omega) (Same.refl _) (filt_yes c)⟩
    · exact acc_no p2 (Same.refl _) (filt_no c)
  · rw [← gl] at e2
    refine .inl ⟨D, _, rfl, .inl (.inl e2), fun mv hmv => ?_⟩
    have s3 : Same H2 (upd H2 mv (.tup (natV (actE (gsOf as) r)))) := same_new hmv
    have hmv3 : (upd H2 mv (.tup (natV (actE (gsOf as) r)))) mv = some (.tup (natV (actE (gsOf as) r))) := upd_same
    have s13 : Same H1 (upd H2 mv (.tup (natV (actE (gsOf as) r)))) := s2.trans s3
    have hd3 := s13 _ _ hd
    have W3 := W1.same s13
    have s03 : Same H (upd H2 mv (.tup (natV (actE (gsOf as) r)))) := s1.trans s13
    generalize upd H2 mv (.tup (natV (actE (gsOf as) r))) = H3 at hmv3 hd3 W3 s03
    have hmv3 : H3 mv = some (.tup (natV (actN (gsOf as) r))) := hmv3
    clear s3 s13
    have sho : ShowOk (D3 (runN (gsOf as) r) (filmN (gsOf as) r) (actN (gsOf as) r)) := show3 (by have := run_lt (n := n) okg hr8; omega) (few_film okg n8 (by omega) hr8) (few_act (by omega) r)
    -- the right side, wherever
    have right : ∀ (H6 : Hp) (Q : VK), Same H3 H6 → (∀ H9, Same H6 H9 → Q (.str (D3 (runN (gsOf as) r) (filmN (gsOf as) r) (actN (gsOf as) r)).shown) H9) →
        tCB (rRepr K) (tCons (tLst (tCons (tOp (rIx K) (tVar 3) (tUn (rU fun i => .int (-i)) (tC (.int 1)))) (tCons (tThen (tVar 3) (kTup K)) (tCons (tVar 4) tNil)))) tNil) [some (.ref p), some (.ref f), some (.int (r : Nat)), some (.ref d), some (.ref mv), none, none] H6 Q := fun H6 Q s6 k => by
      refine ⟨_, rfl, _, rfl, .inl ⟨d, _, -1, _, rfl, rfl, .inl (.inl (s6 _ _ hd3)), film_lastV _ _, _, rfl, .inl ⟨d, _, rfl, .inl (.inl (s6 _ _ hd3)), fun t ht => ?_⟩⟩⟩
      have s7 : Same H6 (upd H6 t (.tup (natV (filmN (gsOf as) r)))) := same_new ht
      refine ⟨_, rfl, by show 3 ≤ sizeLine; decide, fun L hL => ?_⟩
      have s8 := s7.trans (same_new (o := .lst [V.int ((runN (gsOf as) r : Nat) : Int), .ref t, .ref mv]) hL)
      have tL : t ≠ L := ne_of_none upd_same hL
      have mL : mv ≠ L := ne_of_none (s7 _ _ (s6 _ _ hmv3)) hL
      exact ⟨L, _, rfl, dp3 upd_same (by rw [upd_ne tL, upd_same]) (by rw [upd_ne mL]; exact s7 _ _ (s6 _ _ hmv3)), sho.sh, sho.nd, sho.dp, sho.ln, k _ s8⟩
    -- the three answers
    refine ⟨_, rfl, _, rfl, _, _, rfl, .inl ⟨p, n, bs, r, rfl, rfl, n8, W3, hlen, hr8, fun H4 s4 => ⟨_, rfl, _, rfl, _, _, rfl, .inl ⟨p, n, bs, r, rfl, rfl, n8, W3.same s4, hlen, hr8, fun H5 t5 s5 h5 => ⟨_, rfl, _, rfl, _, _, rfl, .inl ⟨p, n, bs, r, rfl, rfl, n8, (W3.same s4).same s5, hlen, hr8, fun H6 t6 s6 h6 => ?_⟩⟩⟩⟩⟩⟩
    rw [egs] at h5 h6 ⊢
    refine ⟨by show 3 ≤ sizeLine; decide, fun L hL => ?_⟩
    have s7 : Same H6 (upd H6 L (.lst [V.int ((runN (gsOf as) r : Nat) : Int), .ref t5, .ref t6])) := same_new hL
    refine ⟨L, _, rfl, dp3 upd_same (s7 _ _ (s6 _ _ h5)) (s7 _ _ h6), sho.sh, sho.nd, sho.dp, sho.ln, right _ _ (s4.trans (s5.trans (s6.trans s7))) fun H9 s9 => ⟨rfl, _, rfl, ?_⟩⟩
    rw [decide_eq_true rfl]
    refine iteF ?_
    have s39 : Same H3 H9 := s4.trans (s5.trans (s6.trans (s7.trans s9)))
    clear s4 s5 h5 s6 h6 hL s7 s9
    have W9 := W3.same s39
    -- by keywords
    refine ⟨_, rfl, _, rfl, _, _, rfl, .inl ⟨p, n, bs, r, rfl, rfl, n8, W9, hlen, hr8, fun H4 s4 => ⟨_, rfl, _, rfl, _, _, rfl, .inl ⟨p, n, bs, r, rfl, rfl, n8, W9.same s4, hlen, hr8, fun H5 t5 s5 h5 => ⟨_, rfl, _, rfl, _, _, rfl, .inl ⟨p, n, bs, r, rfl, rfl, n8, (W9.same s4).same s5, hlen, hr8, fun H6 t6 s6 h6 => ?_⟩⟩⟩⟩⟩⟩
    rw [egs] at h5 h6 ⊢
    refine ⟨by show 3 ≤ sizeLine; decide, fun L hL => ?_⟩
    have s7 : Same H6 (upd H6 L (.lst [V.int ((runN (gsOf as) r : Nat) : Int), .ref t5, .ref t6])) := same_new hL
    refine ⟨L, _, rfl, dp3 upd_same (s7 _ _ (s6 _ _ h5)) (s7 _ _ h6), sho.sh, sho.nd, sho.dp, sho.ln, right _ _ (s39.trans (s4.trans (s5.trans (s6.trans s7)))) fun H10 s10 => ⟨rfl, _, rfl, ?_⟩⟩
    rw [decide_eq_true rfl]
    refine iteF ?_
    have s310 : Same H3 H10 := s39.trans (s4.trans (s5.trans (s6.trans (s7.trans s10))))
    clear s4 s5 h5 s6 h6 hL s7 s10
    have hd10 := s310 _ _ hd3
    -- the weights
    dsimp only [tNext, tRet, tOp]
    refine lc_lst rfl hd10 (fun _ => []) rfl (fun D5 hD5 i x H5 hx hi p5 => ?_) (fun D5 H5 hD5 s5 e5 => ?_)
    · obtain ⟨z, hz, rfl⟩ := natV_at hx
      obtain ⟨j, _, ez⟩ := List.mem_map.mp (List.mem_of_getElem? hz)
      have ok8 : ∀ x ∈ (gsOf as).take j, Ok 8 x := fun x hx => (okg x (List.mem_of_mem_take hx)).up n8
      have hz8 : z < 256 := by rw [← ez]; exact run_lt (n := 8) ok8 (by omega)
      have hw : wt 8 z = wt 8 r := by rw [← ez]; exact wt_run ok8 (by omega)
      refine ⟨rfl, _, rfl, z, rfl, hz8, fun H6 s6 => ⟨_, rfl, r, rfl, by omega, fun H7 s7 => ⟨rfl, _, rfl, ?_⟩⟩⟩
      rw [hw, decide_eq_true rfl]
      exact iteF (acc_no p5 (s6.trans s7) rfl)
    · refine ⟨by decide, fun e he => ?_⟩
      have s6 : Same H5 (upd H5 e (.lst [])) := same_new he
      refine ⟨_, _, .lst (.inl (.inl (s6 _ _ e5))) .nil, .lst (.inl (.inl upd_same)) .nil, by decide +kernel, by decide +kernel, ?_⟩
      rw [eqv_nil2]
      exact q _ (s03.trans (s310.trans (s5.trans s6)))
end
end Kl
set_option maxHeartbeats 4000000
/-! ## _law_said -/
namespace Kl
open PySem PySem.Spec PyProof.Rows L2 LamX
abbrev NSa : List Str := ["_law_ask", "_law_caught", "error", "_law_kinds", "_law_words", "_law_word", "_law_is_so"]
theorem scSa : FnScope NSa ["_law_ask"] (defScope s_l_said) := ⟨rfl, rfl, rfl, by decide +kernel, rfl, by decide +kernel, by decide +kernel⟩
/-- the kinds of errors that are asked for -/
def kindsL : List (Str × Str) := [("BadWiring", "wiring"), ("BadRow", "row"), ("BadTable", "table")]
/-- what the asking must come to -/
def TSaid (K : PySem.W.Frag) : (XK → Hp → VK → Prop) → Hp → VK → Prop := fun tl H Q =>
  tl (fun cls d H' => ∃ (x word part : Str) (dd : Addr), (x, word) ∈ kindsL ∧ cls = .ref (He.ga K x) ∧ d = some dd ∧ H' dd = some (.xd [("part", .str part)]) ∧ ∀ H2 q, Same H' H2 → H2 q = some (.tup [.str word, .str part]) → Q (.ref q) H2) H (fun _ _ => False)
theorem takes_len {X : Cx} {W : WX} (tk : Takes X W) : Takes X (fun cls d σ H => σ.length = X.N.length → W cls d σ H) := fun u s' ⟨a, B, sI, pins, σ, H, cls, d, e, I, nb, up, sky, na, os, ag, w⟩ =>
  tk u s' ⟨a, B, sI, pins, σ, H, cls, d, e, I, nb, up, sky, na, os, ag, w I.len⟩
theorem exT_of {K : PySem.W.Frag} {mg : Str → Option Value} (T : Tx K mg) {x word : Str} (h : (x, word) ∈ kindsL) : ∃ fI, ExT K (He.ga K x) fI := by
  simp only [kindsL, List.mem_cons, List.not_mem_nil, or_false, Prod.mk.injEq] at h
  rcases h with ⟨rfl, _⟩ | ⟨rfl, _⟩ | ⟨rfl, _⟩
  · exact ⟨_, T.e_BadWiring⟩
  · exact ⟨_, T.e_BadRow⟩
  · exact ⟨_, T.e_BadTable⟩
theorem excC_of {K : PySem.W.Frag} {mg : Str → Option Value} (T : Tx K mg) {x word : Str} (h : (x, word) ∈ kindsL) : ExcC K (He.ga K x) := by
  obtain ⟨fI, E⟩ := exT_of T h
  have ha : x ∈ asked := by
    simp only [kindsL, List.mem_cons, List.not_mem_nil, or_false, Prod.mk.injEq] at h
    rcases h with ⟨rfl, _⟩ | ⟨rfl, _⟩ | ⟨rfl, _⟩ <;> decide
  exact ⟨E.ga, E.gg, E.exC, E.hdC, (T.cl x ha).1, T.sp.1, T.sp.2, (T.cl x ha).2⟩
theorem exm_of {K : PySem.W.Frag} {mg : Str → Option Value} (T : Tx K mg) {x word : Str} (h : (x, word) ∈ kindsL) : PySem.W.exmOne K (.ref (He.ga K x)) (.ref (He.ga K "LampError")) = some true := by
  simp only [kindsL, List.mem_cons, List.not_mem_nil, or_false, Prod.mk.injEq] at h
  rcases h with ⟨rfl, _⟩ | ⟨rfl, _⟩ | ⟨rfl, _⟩
  · exact T.x_BadWiring
  · exact T.x_BadRow
  · exact T.x_BadTable
/-- each class against each asked one -/
theorem kit_of2 {K : PySem.W.Frag} {mg : Str → Option Value} (T : Tx K mg) {x word y : Str} (h : (x, word) ∈ kindsL) (hy : y ∈ (["BadNumber", "BadRow", "BadTable", "BadWiring", "BadOrder", "Misfit", "TooMany"] : List Str)) : PySem.W.kitOne K (.ref (He.ga K x)) (.ref (He.ga K y)) = some (x == y) := by
  have e : (x, y, x == y) ∈ kcs := by
    simp only [kindsL, List.mem_cons, List.not_mem_nil, or_false, Prod.mk.injEq] at h hy
    rcases h with ⟨rfl, _⟩ | ⟨rfl, _⟩ | ⟨rfl, _⟩ <;> rcases hy with rfl | rfl | rfl | rfl | rfl | rfl | rfl <;> decide +kernel
  exact T.kc _ e
/-- what is said of the kind -/
def kindsW (x : Str) : List (Str × Bool) := [("number", x == "BadNumber"), ("wiring", x == "BadWiring"), ("misfit", x == "Misfit"), ("row", x == "BadRow"), ("order", x == "BadOrder"), ("table", x == "BadTable")]
def wordsF (x : Str) (i : Nat) : List V := ((kindsW x).take i).filterMap fun p => if p.2 then some (.str p.1) else none
theorem wordsF_end {x word : Str} (h : (x, word) ∈ kindsL) : wordsF x 6 = [.str word] := by
  simp only [kindsL, List.mem_cons, List.not_mem_nil, or_false, Prod.mk.injEq] at h
  rcases h with ⟨rfl, rfl⟩ | ⟨rfl, rfl⟩ | ⟨rfl, rfl⟩ <;> rfl
theorem wordsF_up {x w : Str} {b : Bool} {i : Nat} (h : (kindsW x)[i]? = some (w, b)) : wordsF x (i + 1) = wordsF x i ++ (if b then [.str w] else []) := by
  unfold wordsF
  rw [List.take_add_one, List.filterMap_append, h]
  cases b <;> rfl
theorem wordsF_len {x : Str} (i : Nat) : (wordsF x i).length < 1000 := by
  unfold wordsF
  refine Nat.lt_of_le_of_lt (List.length_filterMap_le _ _) ?_
  rw [List.length_take]
  exact Nat.lt_of_le_of_lt (Nat.min_le_right _ _) (by show 6 < 1000; decide)
section
variable {K : PySem.W.Frag} {mg : Str → Option Value} {x word y w : Str} {a dd : Addr} {H : Hp} {fs : List (Str × V)} {σ : L2.St}
theorem isx (T : Tx K mg) (hk : (x, word) ∈ kindsL) (hy : y ∈ (["BadNumber", "BadRow", "BadTable", "BadWiring", "BadOrder", "Misfit", "TooMany"] : List Str)) (hA : H a = some (Exv (.ref (He.ga K x)) (some dd) a)) (hD : H dd = some (.xd fs)) {Q : VK} (q : Q (.bl (x == y)) H) : rIsX K [.ref a, .ref (He.ga K y)] H Q :=
  ⟨a, dd, _, _, .ref (He.ga K y), x == y, fs, rfl, excC_of T hk, hA, hD, fun _ r => r, kit_of2 T hk hy, q⟩
theorem istep (T : Tx K mg) (hk : (x, word) ∈ kindsL) (hy : y ∈ (["BadNumber", "BadRow", "BadTable", "BadWiring", "BadOrder", "Misfit", "TooMany"] : List Str)) (hA : H a = some (Exv (.ref (He.ga K x)) (some dd) a)) (hD : H dd = some (.xd fs)) (h1 : σ[1]? = some (some (.ref a))) {Q : Bool → Hp → Prop}
    (k : Q (x == y) H) : tB (tCB (rIsX K) (tCons (tVar 1) (tCons (tC (.ref (He.ga K y))) tNil))) σ H Q :=
  ⟨_, h1, isx (Q := fun x H1 => ∃ c, x = .bl c ∧ Q c H1) T hk hy hA hD ⟨_, rfl, k⟩⟩
theorem kstep (T : Tx K mg) (hk : (x, word) ∈ kindsL) (hy : y ∈ (["BadNumber", "BadRow", "BadTable", "BadWiring", "BadOrder", "Misfit", "TooMany"] : List Str)) (hA : H a = some (Exv (.ref (He.ga K x)) (some dd) a)) (hD : H dd = some (.xd fs)) (h1 : σ[1]? = some (some (.ref a))) {rest : TA} {Q : List V → Hp → Prop}
    (k : ∀ p H', Same H H' → H' p = some (.tup [.str w, .bl (x == y)]) → rest σ H' fun xs H2 => Q (.ref p :: xs) H2) : tCons (tTup (tCons (tC (.str w)) (tCons (tCB (rIsX K) (tCons (tVar 1) (tCons (tC (.ref (He.ga K y))) tNil))) tNil))) rest σ H Q :=
  ⟨_, h1, isx (Q := fun v H1 => ([.str w, v] : List V).length ≤ sizeLine ∧ ∀ p, H1 p = none → rest σ (upd H1 p (.tup [.str w, v])) fun xs H2 => Q (.ref p :: xs) H2) T hk hy hA hD ⟨by show 2 ≤ sizeLine; decide, fun p hp => k p _ (same_new hp) upd_same⟩⟩
end
section
variable {X : Cx} {g : Addr} {cdg : Value} {q : Str}
theorem said_gives (T : Tx X.K X.mg) : GivesTo X NSa "_law_said" (defScope s_l_said) g cdg (defBody s_l_said) "_law_ask" q (TSaid X.K) := by
  intro f c' s H Q tl act hc h
  refine ⟨_, pss_cons (ps_set (X := (cxOf C8.CX0 X.prog X.w X.K X.mg X.base NSa "_law_said" (defScope s_l_said) g cdg X.A X.stack s H C8.E0).nox) (i := 1) scSa.nd rfl (Or.inl rfl) pe_non)
    (pss_cons (ps_try_asX (X := (cxOf C8.CX0 X.prog X.w X.K X.mg X.base NSa "_law_said" (defScope s_l_said) g cdg X.A X.stack s H C8.E0).nox) (c := .ref (He.ga X.K "LampError")) (i := 2) (Wout := fun _ _ _ _ => False)
        (tb := fun W D σ H => ∃ Ech : XK, (∀ cls d H', Ech cls d H' → ∀ σ' : L2.St, σ'.length = 7 → W cls d σ' H') ∧ σ[0]? = some (some (.ref f)) ∧ H c' = some (CodeO c' q) ∧ tl Ech H (fun _ _ => False))
        rfl rfl rfl scSa.nd rfl rfl ⟨rfl, by decide, .inl T.g_LampError⟩ LamX.takes0 (fun W pn xe tk _ => ?_) (fun a pn => pss_one (ps_set (i := 1) scSa.nd rfl (Or.inl rfl) (pv 2))))
    (pss_cons (ps_if (pt_val (pe_callB call_isX rfl T.n_isinstance b_isi (pa_cons (pv 1) (pa_cons (pe_glob (v := .ref (He.ga X.K "TooMany")) rfl T.g_TooMany rfl) pa_nil)))) pss_never pss_nil)
    (pss_cons (ps_set (i := 3) scSa.nd rfl (Or.inl rfl) (pe_lst (pa_cons (pe_tup (pa_cons pe_str (pa_cons (pe_callB call_isX rfl T.n_isinstance b_isi (pa_cons (pv 1) (pa_cons (pe_glob (v := .ref (He.ga X.K "BadNumber")) rfl T.g_BadNumber rfl) pa_nil))) pa_nil)))
        (pa_cons (pe_tup (pa_cons pe_str (pa_cons (pe_callB call_isX rfl T.n_isinstance b_isi (pa_cons (pv 1) (pa_cons (pe_glob (v := .ref (He.ga X.K "BadWiring")) rfl T.g_BadWiring rfl) pa_nil))) pa_nil)))
        (pa_cons (pe_tup (pa_cons pe_str (pa_cons (pe_callB call_isX rfl T.n_isinstance b_isi (pa_cons (pv 1) (pa_cons (pe_glob (v := .ref (He.ga X.K "Misfit")) rfl T.g_Misfit rfl) pa_nil))) pa_nil))) pa_nil)))))
    (pss_cons (ps_set (i := 3) scSa.nd rfl (Or.inl rfl) (pe_op op_cat (pv 3) (pe_lst (pa_cons (pe_tup (pa_cons pe_str (pa_cons (pe_callB call_isX rfl T.n_isinstance b_isi (pa_cons (pv 1) (pa_cons (pe_glob (v := .ref (He.ga X.K "BadRow")) rfl T.g_BadRow rfl) pa_nil))) pa_nil)))
        (pa_cons (pe_tup (pa_cons pe_str (pa_cons (pe_callB call_isX rfl T.n_isinstance b_isi (pa_cons (pv 1) (pa_cons (pe_glob (v := .ref (He.ga X.K "BadOrder")) rfl T.g_BadOrder rfl) pa_nil))) pa_nil)))
        (pa_cons (pe_tup (pa_cons pe_str (pa_cons (pe_callB call_isX rfl T.n_isinstance b_isi (pa_cons (pv 1) (pa_cons (pe_glob (v := .ref (He.ga X.K "BadTable")) rfl T.g_BadTable rfl) pa_nil))) pa_nil))) pa_nil))))))
    (pss_cons (ps_setLc (i := 4) (own := [("_law_word", 5), ("_law_is_so", 6)]) (g := gTup X.K 2 (gCons (gName 5) (gCons (gName 6) gNil))) (tt := tB (tVar 6)) rfl scSa.nd rfl rfl (sw_true rfl rfl rfl (by decide +kernel)) (pi_list (pv 3)) (blkOk_by (N := NSa) (sc := defScope s_l_said) (by decide +kernel))
        (fun _ _ _ _ _ => pg_tup rfl (pgs_cons (pg_name (i := 5) scSa.nd rfl (Or.inl rfl)) (pgs_cons (pg_name (i := 6) scSa.nd rfl (Or.inl rfl)) pgs_nil))) (fun _ _ _ _ _ => pts_one (pt_val (pv 6))) (fun _ _ _ _ _ => pv 5))
    (pss_one (ps_ret (pe_ifExp (pt_cmpR op_eq (pe_callB call_len rfl T.n_len b_len (pa_cons (pv 4) pa_nil)) pe_int (nomark _)) (pe_tup (pa_cons (pe_ix ix_seq (pv 4) pe_int fun _ _ => rfl) (pa_cons (pe_xfX (pv 1)) pa_nil))) (pv 1))))))))), ?_⟩
  · have hp := fun Ech => act (fun cls d σ H => σ.length = 7 → W cls d σ H) pn xe Ech
    have ht : Takes ((cxOf C8.CX0 X.prog X.w X.K X.mg X.base NSa "_law_said" (defScope s_l_said) g cdg X.A X.stack s H C8.E0).tr pn xe) (fun cls d σ H => σ.length = 7 → W cls d σ H) := takes_len tk
    refine pss_one (ps_expr (te := fun σ H' Q => ∃ Ech : XK, (∀ cls d H', Ech cls d H' → ∀ σ' : L2.St, σ'.length = 7 → W cls d σ' H') ∧ σ[0]? = some (some (.ref f)) ∧ H' c' = some (CodeO c' q) ∧ tl Ech H' (fun _ _ => False)) ⟨fun pins s' σ H' Q I h' => ?_⟩)
    obtain ⟨Ech, hW, h1, h2, h3⟩ := h'
    exact thn ((hp Ech _ _ ht (fun cls d σ' H' hE hl => hW cls d H' hE σ' hl)).run pins s' σ H' (fun _ _ => False) I ⟨h1, h2, h3⟩) fun u s1 ⟨v, H1, I1, r1, q1⟩ => q1.elim
  · refine ⟨_, fun cls d H1 hE σ' hl => ?_, rfl, hc, h⟩
    obtain ⟨x, word, part, dd, hk, rfl, rfl, hdd, fin⟩ := hE
    obtain ⟨s0, s1, s2, s3, s4, s5, s6, rfl⟩ : ∃ s0 s1 s2 s3 s4 s5 s6, σ' = [s0, s1, s2, s3, s4, s5, s6] := by
      match σ', hl with
      | [s0, s1, s2, s3, s4, s5, s6], _ => exact ⟨s0, s1, s2, s3, s4, s5, s6, rfl⟩
    refine ⟨true, exm_of T hk, fun _ a na => ?_, fun z => nomatch z⟩
    refine ⟨.ref a, rfl, ?_⟩
    have hA : (upd H1 a (Exv (.ref (He.ga X.K x)) (some dd) a)) a = some (Exv (.ref (He.ga X.K x)) (some dd) a) := upd_same
    have hs : Same H1 (upd H1 a (Exv (.ref (He.ga X.K x)) (some dd) a)) := same_new na
    have hD := hs _ _ hdd
    generalize upd H1 a (Exv (.ref (He.ga X.K x)) (some dd) a) = H2 at hA hs hD
    have tm : (x == "TooMany") = false := by
      simp only [kindsL, List.mem_cons, List.not_mem_nil, or_false, Prod.mk.injEq] at hk
      rcases hk with ⟨rfl, _⟩ | ⟨rfl, _⟩ | ⟨rfl, _⟩ <;> decide
    dsimp only [tSeq, tNext, tAsg, tIfS, tNever]
    refine istep (y := "TooMany") T hk (by decide +kernel) hA hD rfl ?_
    rw [tm]
    refine iteF ?_
    -- the kinds
    refine kstep (y := "BadNumber") T hk (by decide +kernel) hA hD rfl fun p1 H3 t3 k1 => ?_
    refine kstep (y := "BadWiring") T hk (by decide +kernel) (t3 _ _ hA) (t3 _ _ hD) rfl fun p2 H4 t4 k2 => ?_
    have k1 := t4 _ _ k1
    have t4 := t3.trans t4
    refine kstep (y := "Misfit") T hk (by decide +kernel) (t4 _ _ hA) (t4 _ _ hD) rfl fun p3 H5 t5 k3 => ?_
    have k1 := t5 _ _ k1
    have k2 := t5 _ _ k2
    have t5 := t4.trans t5
    clear t3 t4
    refine ⟨by show 3 ≤ sizeLine; decide, fun L1 hL1 => ?_⟩
    have l1 : (upd H5 L1 (.lst [.ref p1, .ref p2, .ref p3])) L1 = some (.lst [.ref p1, .ref p2, .ref p3]) := upd_same
    have t6 : Same H5 (upd H5 L1 (.lst [.ref p1, .ref p2, .ref p3])) := same_new hL1
    have k1 := t6 _ _ k1
    have k2 := t6 _ _ k2
    have k3 := t6 _ _ k3
    have t6 := t5.trans t6
    refine ⟨_, rfl, ?_⟩
    dsimp only
    generalize upd H5 L1 (.lst [.ref p1, .ref p2, .ref p3]) = H6 at l1 k1 k2 k3 t6
    clear t5
    refine kstep (y := "BadRow") T hk (by decide +kernel) (t6 _ _ hA) (t6 _ _ hD) rfl fun p4 H7 t7 k4 => ?_
    have k1 := t7 _ _ k1
    have k2 := t7 _ _ k2
    have k3 := t7 _ _ k3
    have l1 := t7 _ _ l1
    have t7 := t6.trans t7
    refine kstep (y := "BadOrder") T hk (by decide +kernel) (t7 _ _ hA) (t7 _ _ hD) rfl fun p5 H8 t8 k5 => ?_
    have k1 := t8 _ _ k1
    have k2 := t8 _ _ k2
    have k3 := t8 _ _ k3
    have k4 := t8 _ _ k4
    have l1 := t8 _ _ l1
    have t8 := t7.trans t8
    refine kstep (y := "BadTable") T hk (by decide +kernel) (t8 _ _ hA) (t8 _ _ hD) rfl fun p6 H9 t9 k6 => ?_
    have k1 := t9 _ _ k1
    have k2 := t9 _ _ k2
    have k3 := t9 _ _ k3
    have k4 := t9 _ _ k4
    have k5 := t9 _ _ k5
    have l1 := t9 _ _ l1
    have t9 := t8.trans t9
    clear t6 t7 t8
    refine ⟨by show 3 ≤ sizeLine; decide, fun L2 hL2 => ?_⟩
    have t10 : Same H9 (upd H9 L2 (.lst [.ref p4, .ref p5, .ref p6])) := same_new hL2
    refine ⟨L1, L2, _, _, rfl, rfl, t10 _ _ l1, upd_same, by show 6 ≤ sizeLine; decide, fun L3 hL3 => ?_⟩
    have t11 := t10.trans (same_new (o := .lst (([V.ref p1, V.ref p2, V.ref p3] : List V) ++ [V.ref p4, V.ref p5, V.ref p6])) hL3)
    have l3 : (upd (upd H9 L2 (.lst [.ref p4, .ref p5, .ref p6])) L3 (.lst (([V.ref p1, V.ref p2, V.ref p3] : List V) ++ [V.ref p4, V.ref p5, V.ref p6]))) L3 = some (.lst [.ref p1, .ref p2, .ref p3, .ref p4, .ref p5, .ref p6]) := upd_same
    have k1 := t11 _ _ k1
    have k2 := t11 _ _ k2
    have k3 := t11 _ _ k3
    have k4 := t11 _ _ k4
    have k5 := t11 _ _ k5
    have k6 := t11 _ _ k6
    have t11 := t9.trans t11
    clear t9
    dsimp only [tSeq, tNext, tAsg, tRet, gName]
    generalize upd (upd H9 L2 (HO.lst [V.ref p4, V.ref p5, V.ref p6])) L3 (.lst (([V.ref p1, V.ref p2, V.ref p3] : List V) ++ [V.ref p4, V.ref p5, V.ref p6])) = H10 at l3 k1 k2 k3 k4 k5 k6 t11
    have each : ∀ (i : Nat) (v : V), ([.ref p1, .ref p2, .ref p3, .ref p4, .ref p5, .ref p6] : List V)[i]? = some v → ∃ p w b, v = .ref p ∧ H10 p = some (.tup [.str w, .bl b]) ∧ (kindsW x)[i]? = some (w, b) := fun i v e => by
      match i, e with
      | 0, e => cases e; exact ⟨p1, _, _, rfl, k1, rfl⟩
      | 1, e => cases e; exact ⟨p2, _, _, rfl, k2, rfl⟩
      | 2, e => cases e; exact ⟨p3, _, _, rfl, k3, rfl⟩
      | 3, e => cases e; exact ⟨p4, _, _, rfl, k4, rfl⟩
      | 4, e => cases e; exact ⟨p5, _, _, rfl, k5, rfl⟩
      | 5, e => cases e; exact ⟨p6, _, _, rfl, k6, rfl⟩
      | _ + 6, e => cases e
    refine lc_lst (H1 := H10) rfl l3 (wordsF x) rfl (fun D hD' i v H' hv hi p => ?_) (fun D H11 hD' t12 e12 => ?_)
    · obtain ⟨pp, w, b, rfl, hp, hi2⟩ := each i v hv
      have up := wordsF_up hi2
      show gTup X.K 2 (gCons (gName 5) (gCons (gName 6) gNil)) _ _ _ _
      refine ⟨pp, _, rfl, .inl (.inl (p.1 _ _ hp)), rfl, _, _, rfl, _, _, rfl, rfl, rfl, _, rfl, _, rfl, ?_⟩
      refine ifB (fun hb => ?_) (fun hb => ?_)
      · rw [hb] at up
        exact ⟨_, rfl, acc_yes p hD' (wordsF_len i) (Same.refl _) up⟩
      · rw [hb] at up
        exact acc_no p (Same.refl _) (by rw [up]; exact List.append_nil _)
    · rw [show wordsF x ([.ref p1, .ref p2, .ref p3, .ref p4, .ref p5, .ref p6] : List V).length = wordsF x 6 from rfl, wordsF_end hk] at e12
      obtain ⟨fI, E⟩ := exT_of T hk
      have t12 := t11.trans t12
      refine ⟨_, rfl, _, _, rfl, .inl ⟨_, .inl (.inl e12), rfl⟩, rfl, _, rfl, ?_⟩
      refine iteT ?_
      refine ⟨_, rfl, .inl ⟨_, _, _, _, rfl, rfl, .inl (.inl e12), rfl, ?_⟩⟩
      refine ⟨_, rfl, a, dd, _, _, _, rfl, ⟨E.ga, E.gg, E.exC, E.hdC⟩, E.noP, t12 _ _ hA, t12 _ _ hD, rfl, by show 2 ≤ sizeLine; decide, fun q hq => ?_⟩
      exact fin _ _ (hs.trans (t12.trans (same_new hq))) upd_same
end
end Kl
set_option maxHeartbeats 4000000
/-! ## _law_refused_right -/
namespace Kl
open PySem PySem.Spec PyProof.Rows L2 LamX
theorem mkKc {P : Program} {w : World} {K : PySem.W.Frag} {mg : Str → Option Value} {base : Heap} {x : Str} {st : Stmt} {N ps : List Str} {k : Nat} {sp : Sp} (g : mg x = some (.ref (He.ga K x))) (F : FD K x x st (He.ga K x) []) (S : FnScope N ps (defScope st)) (len : ∀ vs H Q E, sp vs H Q E → vs.length = ps.length)
    (b : ∀ (kV doc pm : Value) (an : Option Addr) (cdv ct : Value) (us : List Value), us.length = ps.length → bindArgs (PySem.W.fnOf x x (defArgs st) (defBody st) (defScope st) .none kV doc pm an cdv ct) ⟨us, []⟩ = pure (ps.zip us))
    (hbody : ∀ (A : Around) (outer : List Env) (s : Shared) (H : Hp) (vs : List V) (Q : VK) (E : XK), Room k (A.deeper (envOfC x (defScope st) s.heap.objs.size (He.ga K x) (.ref (He.cT K (x, none)).1))) → sp vs H Q E →
      ∃ t, PSs (cxOf (L2.CX P w) P w K mg base N x (defScope st) (He.ga K x) (.ref (He.cT K (x, none)).1) A outer s H E).nox (defBody st) t ∧ t { nx := fun _ H' => Q .non H', rt := Q } (start N vs) H) : FnK P w K mg base (k + 1) x ps sp := by
  obtain ⟨fd, F⟩ := F
  obtain ⟨oc, od, dV, kV, doc, pm, an, cdv, ct, osl, e, lk, hcd, _, _⟩ := F.ex
  obtain ⟨c, rfl⟩ := He.codeIn_ref hcd
  have hc : He.codeOf K (x, none) = c := He.codeOf_eq (p := (x, none)) lk (by rw [e])
  have hb := F.bindsN b
  subst e
  refine ⟨g, F.kp, _, fn_of lk hcd S len fun A outer s H vs Q E hr hsp => ?_, hb, _, _, _, lk⟩
  have z := hbody A outer s H vs Q E (by show Room k (A.deeper (envOfC x (defScope st) s.heap.objs.size (He.ga K x) (.ref (He.codeOf K (x, none))))); rw [hc]; exact hr) hsp
  have z : ∃ t, PSs (cxOf (L2.CX P w) P w K mg base N x (defScope st) (He.ga K x) (.ref (He.codeOf K (x, none))) A outer s H E).nox (defBody st) t ∧ t { nx := fun _ H' => Q .non H', rt := Q } (start N vs) H := z
  rw [hc] at z
  obtain ⟨t, ht, hq⟩ := z
  exact ⟨t, ht.nox, hq⟩
theorem extN_same {H H' : Hp} (s : Same H H') : ExtN H H' := ExtN.of s
theorem WirAt.extN {C : Addr} {H H' : Hp} {p : Addr} {n : Nat} {as : List AG} (h : WirAt C H p n as) (s : ExtN H H') : WirAt C H' p n as := by
  obtain ⟨dx, t, hv, h1, h2, h3⟩ := h
  exact ⟨dx, t, hv, s _ _ h1 (fun _ z => nomatch z), s _ _ h2 (fun _ z => nomatch z), h3.t fun b xs e => s _ _ e fun _ z => nomatch z⟩
theorem NotW.extN {H H' : Hp} {v : V} (h : NotW H v) (s : ExtN H H') : NotW H' v := by
  rcases h with h | h | h | h | ⟨a, xs, e, h⟩
  · exact .inl h
  · exact .inr (.inl h)
  · exact .inr (.inr (.inl h))
  · exact .inr (.inr (.inr (.inl h)))
  · exact .inr (.inr (.inr (.inr ⟨a, xs, e, s _ _ h fun _ z => nomatch z⟩)))
theorem BadR.extN {H H' : Hp} {v : V} {n : Nat} (h : BadR n H v) (s : ExtN H H') : BadR n H' v := by
  rcases h with (h | h | h | ⟨a, xs, e, h⟩) | h
  · exact .inl (.inl h)
  · exact .inl (.inr (.inl h))
  · exact .inl (.inr (.inr (.inl h)))
  · exact .inl (.inr (.inr (.inr ⟨a, xs, e, s _ _ h fun _ z => nomatch z⟩)))
  · exact .inr h
/-- a lambda that raises, heard -/
theorem lam_err {K : PySem.W.Frag} {T : List (Addr × Str)} {t : XK → TE} {xn word part : Str} {σ : L2.St} {H : Hp} {Q : VK} (hT : Tabs T H) (hk : (xn, word) ∈ kindsL)
    (hsp : ∀ H1 (E : XK), ExtN H H1 → Err E (He.ga K xn) part H1 → t E σ H1 (fun _ _ => False))
    (k : ∀ H2 q, ExtN H H2 → Tabs T H2 → H2 q = some (.tup [.str word, .str part]) → Q (.ref q) H2) : tLam T (TSaid K) t σ H Q :=
  ⟨hT, fun H1 e1 T1 => hsp H1 _ e1 fun H' d s nd => ⟨xn, word, part, d, hk, rfl, rfl, upd_same, fun H2 q s2 hq => by
    have s3 : Same H1 H2 := s.trans ((same_new nd).trans s2)
    exact k H2 q (e1.trans (.of s3)) (T1.ext s3) hq⟩⟩
section
variable {w : World} {K : PySem.W.Frag} {mg : Str → Option Value} {base : Heap}
abbrev PRf (K : PySem.W.Frag) : Addr := (He.cT K ("_law_refused_right", none)).2
abbrev TRf (K : PySem.W.Frag) : List (Addr × Str) := [(PRf K, "_law_refused_right" ++ ".<locals>." ++ "<lambda>")]
def spRf (K : PySem.W.Frag) : Sp := fun vs H Q _ => ∃ (c l p f : Addr) (n T : Nat) (bs as : List AG), vs = [.ref c, .ref p, .ref f] ∧ 1 ≤ n ∧ n ≤ 8 ∧ T ≤ 90000 ∧ Cin H c l T ∧ WirAt (He.ga K "Wiring") H p n bs ∧ bs.length ≤ 100 ∧ H f = some (.lst (refs as)) ∧ f ≠ c ∧ Tabs (TRf K) H ∧
  ∀ H', (∀ b o, b ≠ c → H b = some o → (∀ ps, o ≠ .tbl ps) → H' b = some o) → Tabs (TRf K) H' → Cin H' c l (T + 2) → Q (.bl true) H'
abbrev NRf : List Str := ["_law_cinema_here", "_law_made", "_law_gates_here", "_law_none", "_law_odd", "_law_heard"]
theorem scRf : FnScope NRf ["_law_cinema_here", "_law_made", "_law_gates_here"] (defScope s_l_refused_right) := ⟨rfl, rfl, rfl, by decide +kernel, rfl, by decide +kernel, by decide +kernel⟩


theorem singS {u v : Str} {σ : L2.St} {H : Hp} {Q : VK} (k : ∀ H' R q, Same H H' → H' R = some (.lst [.ref q]) → H' q = some (.tup [.str u, .str v]) → Q (.ref R) H') : tLst (tCons (tTup (tCons (tC (.str u)) (tCons (tC (.str v)) tNil))) tNil) σ H Q :=
  ⟨by show 2 ≤ sizeLine; decide, fun q hq => ⟨by show 1 ≤ sizeLine; decide, fun M hM => by
    have s1 : Same H (upd H q (.tup [.str u, .str v])) := same_new hq
    have s2 : Same (upd H q (.tup [.str u, .str v])) (upd (upd H q (.tup [.str u, .str v])) M (.lst [.ref q])) := same_new hM
    exact k _ M q (s1.trans s2) upd_same (s2 _ _ upd_same)⟩⟩
theorem repS {u v : Str} {m : Nat} {σ : L2.St} {H : Hp} {Q : VK} (hm : m ≤ 1000) (k : ∀ H' R q, Same H H' → H' R = some (.lst (List.replicate m [V.ref q]).flatten) → H' q = some (.tup [.str u, .str v]) → Q (.ref R) H') :
    tOp rRep (tLst (tCons (tTup (tCons (tC (.str u)) (tCons (tC (.str v)) tNil))) tNil)) (tC (.int (m : Nat))) σ H Q :=
  singS fun H1 R q s1 hR hq => ⟨R, _, _, rfl, rfl, hR, by omega, by omega, Nat.le_of_lt (small1000 (by show 1 * ((m : Int)).toNat ≤ 1000; omega)), fun R2 hR2 => by
    have s2 : Same H1 (upd H1 R2 (.lst (List.replicate ((m : Nat) : Int).toNat [V.ref q]).flatten)) := same_new hR2
    exact k _ R2 q (s1.trans s2) upd_same (s2 _ _ hq)⟩
theorem catS {a b : Addr} {xs ys : List V} {H : Hp} {Q : VK} (ha : H a = some (.lst xs)) (hb : H b = some (.lst ys)) (hz : xs.length + ys.length ≤ 1000) (k : ∀ H' R, Same H H' → H' R = some (.lst (xs ++ ys)) → Q (.ref R) H') : rCat (.ref a) (.ref b) H Q :=
  ⟨a, b, xs, ys, rfl, rfl, ha, hb, Nat.le_of_lt (small1000 hz), fun p hp => k _ p (same_new hp) upd_same⟩
theorem extN_l {H H' : Hp} (s : ExtN H H') {b : Addr} {xs : List V} (e : H b = some (.lst xs)) : H' b = some (.lst xs) := s _ _ e fun _ z => nomatch z
theorem extN_t {H H' : Hp} (s : ExtN H H') {b : Addr} {xs : List V} (e : H b = some (.tup xs)) : H' b = some (.tup xs) := s _ _ e fun _ z => nomatch z
theorem Cin.extN {H H' : Hp} {c l : Addr} {T : Nat} (h : Cin H c l T) (s : ExtN H H') : Cin H' c l T := by
  obtain ⟨ms, t, left, h1, h2, h3⟩ := h
  exact ⟨ms, t, left, extN_l s h1, extN_l s h2, h3⟩
theorem tabs_but {T : List (Addr × Str)} {H H' : Hp} {c l : Addr} {n : Nat} (h : Tabs T H) (C : Cin H c l n) (s : But c H H') : Tabs T H' := fun p hp => by
  obtain ⟨ps, h1, h2, h3⟩ := h p hp
  refine ⟨ps, s _ _ (C.ne h1 fun _ z => nomatch z) h1, h2, fun pos cv hc => ?_⟩
  obtain ⟨c2, e1, e2⟩ := h3 pos cv hc
  exact ⟨c2, e1, s _ _ (C.ne e2 fun _ z => nomatch z) e2⟩
theorem wir_but {C0 : Addr} {H H' : Hp} {c l p : Addr} {n m : Nat} {as : List AG} (h : WirAt C0 H p n as) (C : Cin H c l m) (s : But c H H') : WirAt C0 H' p n as := by
  obtain ⟨dx, t, hv, h1, h2, h3⟩ := h
  exact ⟨dx, t, hv, s _ _ (C.ne h1 fun _ z => nomatch z) h1, s _ _ (C.ne h2 fun _ z => nomatch z) h2, h3.t (but_t C s)⟩
/-- a list of three heard ones -/
theorem trio {K : PySem.W.Frag} {T : List (Addr × Str)} {t1 t2 t3 : XK → TE} {x1 w1 r1 x2 w2 r2 x3 w3 r3 : Str} {σ : L2.St} {H : Hp} {Q : VK} (hT : Tabs T H) (k1 : (x1, w1) ∈ kindsL) (k2 : (x2, w2) ∈ kindsL) (k3 : (x3, w3) ∈ kindsL)
    (s1 : ∀ H1 (E : XK), ExtN H H1 → Err E (He.ga K x1) r1 H1 → t1 E σ H1 (fun _ _ => False)) (s2 : ∀ H1 (E : XK), ExtN H H1 → Err E (He.ga K x2) r2 H1 → t2 E σ H1 (fun _ _ => False)) (s3 : ∀ H1 (E : XK), ExtN H H1 → Err E (He.ga K x3) r3 H1 → t3 E σ H1 (fun _ _ => False))
    (k : ∀ H2 L a b c, ExtN H H2 → Tabs T H2 → H2 L = some (.lst [.ref a, .ref b, .ref c]) → H2 a = some (.tup [.str w1, .str r1]) → H2 b = some (.tup [.str w2, .str r2]) → H2 c = some (.tup [.str w3, .str r3]) → Q (.ref L) H2) :
    tLst (tCons (tLam T (TSaid K) t1) (tCons (tLam T (TSaid K) t2) (tCons (tLam T (TSaid K) t3) tNil))) σ H Q :=
  lam_err hT k1 s1 fun H2 a e2 T2 ha => lam_err T2 k2 (fun H1 E e => s2 H1 E (e2.trans e)) fun H3 b e3 T3 hb => lam_err T3 k3 (fun H1 E e => s3 H1 E (e2.trans (e3.trans e))) fun H4 c e4 T4 hc =>
    ⟨by show 3 ≤ sizeLine; decide, fun L hL => by
      have s5 : Same H4 (upd H4 L (.lst [.ref a, .ref b, .ref c])) := same_new hL
      exact k _ L a b c (e2.trans (e3.trans (e4.trans (.of s5)))) (T4.ext s5) upd_same (s5 _ _ (extN_t (e3.trans e4) ha)) (s5 _ _ (extN_t e4 hb)) (s5 _ _ hc)⟩
abbrev pairD (q : Addr × Str × Str) : PyData := .tuple [.str q.2.1, .str q.2.2]
theorem dp_pair {K : PySem.W.Frag} {H : Hp} {a : Addr} {u v : Str} (h : H a = some (.tup [.str u, .str v])) : Dp K H (.ref a) (.tuple [.str u, .str v]) := .tup (.inl (.inl h)) (.cons (.str _) (.cons (.str _) .nil))
theorem dp_pairsA {K : PySem.W.Frag} {H : Hp} : ∀ (xs : List (Addr × Str × Str)), (∀ q ∈ xs, H q.1 = some (.tup [.str q.2.1, .str q.2.2])) → DpAll K H (xs.map fun q => V.ref q.1) (xs.map pairD)
  | [], _ => .nil
  | q :: xs, h => .cons (dp_pair (h q List.mem_cons_self)) (dp_pairsA xs fun r hr => h r (List.mem_cons_of_mem _ hr))
theorem dp_pairs {K : PySem.W.Frag} {H : Hp} {L : Addr} (xs : List (Addr × Str × Str)) (hL : H L = some (.lst (xs.map fun q => V.ref q.1))) (h : ∀ q ∈ xs, H q.1 = some (.tup [.str q.2.1, .str q.2.2])) : Dp K H (.ref L) (.list (xs.map pairD)) :=
  .lst (.inl (.inl hL)) (dp_pairsA xs h)
theorem heard_eqv : PyData.eqv (.list [.tuple [.str "wiring", .str "wiring"], .tuple [.str "wiring", .str "wiring"], .tuple [.str "wiring", .str "wiring"], .tuple [.str "row", .str "row"], .tuple [.str "row", .str "row"], .tuple [.str "row", .str "row"], .tuple [.str "wiring", .str "wiring"], .tuple [.str "wiring", .str "wiring"], .tuple [.str "table", .str "table"]])
  (.list [.tuple [.str "wiring", .str "wiring"], .tuple [.str "wiring", .str "wiring"], .tuple [.str "wiring", .str "wiring"], .tuple [.str "row", .str "row"], .tuple [.str "row", .str "row"], .tuple [.str "row", .str "row"], .tuple [.str "wiring", .str "wiring"], .tuple [.str "wiring", .str "wiring"], .tuple [.str "table", .str "table"]]) = true := by decide +kernel
theorem heard_shaped : SeqAt.shaped (.list [.tuple [.str "wiring", .str "wiring"], .tuple [.str "wiring", .str "wiring"], .tuple [.str "wiring", .str "wiring"], .tuple [.str "row", .str "row"], .tuple [.str "row", .str "row"], .tuple [.str "row", .str "row"], .tuple [.str "wiring", .str "wiring"], .tuple [.str "wiring", .str "wiring"], .tuple [.str "table", .str "table"]]) = true := by decide +kernel
theorem hdN_of {N : List Str} (d : Str) (h : d ∉ N) : ∀ i : Nat, N[i]? ≠ some d := fun i e => h (List.mem_of_getElem? e)
theorem k_rf (T : Tx K mg) (TB : TabB base mg (He.cT K ("_law_refused_right", none)).1 (PRf K)) : FnK PR w K mg base 11 "_law_refused_right" ["_law_cinema_here", "_law_made", "_law_gates_here"] (spRf K) :=
  mkKc T.g_l_refused_right T.f_l_refused_right scRf (fun vs H Q E h => by obtain ⟨c, l, p, f, n, T, bs, as, rfl, _⟩ := h; rfl) (fun _ _ _ _ _ _ us hl => match us, hl with | [_, _, _], _ => rfl) fun A outer s H vs Q E hr h => by
    obtain ⟨c, l, p, f, n, T0, bs, as, rfl, n1, n8, hT, C, W, hlen, hf, fc, TT, q⟩ := h
    have hr2 : Room 2 _ := hr.mono (by decide)
    have hr4 : Room 4 _ := hr.mono (by decide)
    have hr9 : Room 9 _ := hr.mono (by decide)
    obtain ⟨fdW, FW, bW⟩ := (f_wstr (w := w) (base := base) T).ok
    obtain ⟨fdS, FS⟩ := T.f_l_said
    have bS := FS.bindsN (ps := ["_law_ask"]) (fun _ _ _ _ _ _ us hl => match us, hl with | [_], _ => rfl)
    obtain ⟨ocS, odS, dVS, kVS, docS, pmS, anS, cdS, ctS, oslS, eS, lkS, hcS, _, _⟩ := FS.ex
    subst eS
    have hdN : ∀ d : Str, d ∉ NRf → ∀ i : Nat, NRf[i]? ≠ some d := fun d h i e => h (List.mem_of_getElem? e)
    refine ⟨_, pss_cons (ps_asg (pe_tup (pa_cons (pe_f (k_pick T) hr2 passL (pa_cons (pv 0) (pa_cons (pe_lst (pa_cons pe_non (pa_cons pe_int (pa_cons (pv 2) (pa_cons (pe_callTy (call_strO T.me_Wiring.at_ T.me_Wiring.fn FW bW hr4) rfl T.n_str b_str (pa_cons (pv 1) pa_nil)) (pa_cons pe_bl pa_nil)))))) pa_nil))) (pa_cons (pe_f (k_pick T) hr2 passL (pa_cons (pv 0) (pa_cons (pe_lst (pa_cons (pe_un un_neg pe_int) (pa_cons (pe_op op_shl pe_int (pe_fld (pv 1) rfl)) (pa_cons pe_non (pa_cons pe_bl (pa_cons pe_str (pa_cons (pe_lst (pa_cons pe_int pa_nil)) (pa_cons (pe_op op_pow pe_int pe_int) pa_nil)))))))) pa_nil))) pa_nil))) (pg_tup rfl (pgs_cons (pg_name (i := 3) scRf.nd rfl (Or.inr rfl)) (pgs_cons (pg_name (i := 4) scRf.nd rfl (Or.inr rfl)) pgs_nil))))
      (pss_cons (ps_set (i := 5) scRf.nd rfl (Or.inl rfl) (pe_lst (pa_cons (pe_lamcall (k := 7) (T := TRf K) rfl T.g_l_said FS.kp lkS hcS bS scSa rfl (Or.inl rfl) (said_gives T) TB rfl (List.mem_singleton.mpr rfl) (fun p hp _ => by rw [List.mem_singleton.mp hp]; rfl) hr9 (lamS_by (sc := defScope s_l_refused_right) (by decide +kernel)) rfl (fun _ _ _ _ _ => rfl) (fun A outer s H E f c' hr' => pe_f (k_run T) (hr'.mono (by decide)) (passE (takes_of rfl rfl rfl rfl)) (pa_cons (pv 3) (pa_cons (pv 4) pa_nil)))) (pa_cons (pe_lamD (k := 7) (d := "_law_x1") (T := TRf K) rfl T.g_l_said FS.kp lkS hcS bS scSa rfl (Or.inl rfl) (said_gives T) TB rfl (List.mem_singleton.mpr rfl) (fun p hp _ => by rw [List.mem_singleton.mp hp]; rfl) hr9 (lamD_by (sc := defScope s_l_refused_right) (by decide +kernel)) (hdN _ (by decide)) rfl rfl (fun _ _ _ _ _ _ _ _ => ⟨_, rfl, rfl⟩) (fun A outer s H E f c' hr' => pe_f (k_film T) (hr'.mono (by decide)) (passE (takes_of rfl rfl rfl rfl)) (pa_cons (pv 3) (pa_cons (pv 4) pa_nil)))) (pa_cons (pe_lamD (k := 7) (d := "_law_x2") (T := TRf K) rfl T.g_l_said FS.kp lkS hcS bS scSa rfl (Or.inl rfl) (said_gives T) TB rfl (List.mem_singleton.mpr rfl) (fun p hp _ => by rw [List.mem_singleton.mp hp]; rfl) hr9 (lamD_by (sc := defScope s_l_refused_right) (by decide +kernel)) (hdN _ (by decide)) rfl rfl (fun _ _ _ _ _ _ _ _ => ⟨_, rfl, rfl⟩) (fun A outer s H E f c' hr' => pe_f (k_acting T) (hr'.mono (by decide)) (passE (takes_of rfl rfl rfl rfl)) (pa_cons (pv 3) (pa_cons (pv 4) pa_nil)))) pa_nil)))))
      (pss_cons (ps_set (i := 5) scRf.nd rfl (Or.inl rfl) (pe_op op_cat (pv 5) (pe_lst (pa_cons (pe_lamcall (k := 7) (T := TRf K) rfl T.g_l_said FS.kp lkS hcS bS scSa rfl (Or.inl rfl) (said_gives T) TB rfl (List.mem_singleton.mpr rfl) (fun p hp _ => by rw [List.mem_singleton.mp hp]; rfl) hr9 (lamS_by (sc := defScope s_l_refused_right) (by decide +kernel)) rfl (fun _ _ _ _ _ => rfl) (fun A outer s H E f c' hr' => pe_f (k_run T) (hr'.mono (by decide)) (passE (takes_of rfl rfl rfl rfl)) (pa_cons (pv 1) (pa_cons (pv 4) pa_nil)))) (pa_cons (pe_lamD (k := 7) (d := "_law_x1") (T := TRf K) rfl T.g_l_said FS.kp lkS hcS bS scSa rfl (Or.inl rfl) (said_gives T) TB rfl (List.mem_singleton.mpr rfl) (fun p hp _ => by rw [List.mem_singleton.mp hp]; rfl) hr9 (lamD_by (sc := defScope s_l_refused_right) (by decide +kernel)) (hdN _ (by decide)) rfl rfl (fun _ _ _ _ _ _ _ _ => ⟨_, rfl, rfl⟩) (fun A outer s H E f c' hr' => pe_f (k_film T) (hr'.mono (by decide)) (passE (takes_of rfl rfl rfl rfl)) (pa_cons (pv 1) (pa_cons (pv 4) pa_nil)))) (pa_cons (pe_lamD (k := 7) (d := "_law_x2") (T := TRf K) rfl T.g_l_said FS.kp lkS hcS bS scSa rfl (Or.inl rfl) (said_gives T) TB rfl (List.mem_singleton.mpr rfl) (fun p hp _ => by rw [List.mem_singleton.mp hp]; rfl) hr9 (lamD_by (sc := defScope s_l_refused_right) (by decide +kernel)) (hdN _ (by decide)) rfl rfl (fun _ _ _ _ _ _ _ _ => ⟨_, rfl, rfl⟩) (fun A outer s H E f c' hr' => pe_f (k_acting T) (hr'.mono (by decide)) (passE (takes_of rfl rfl rfl rfl)) (pa_cons (pv 1) (pa_cons (pv 4) pa_nil)))) pa_nil))))))
      (pss_cons (ps_set (i := 5) scRf.nd rfl (Or.inl rfl) (pe_op op_cat (pv 5) (pe_lst (pa_cons (pe_lamcall (k := 7) (T := TRf K) rfl T.g_l_said FS.kp lkS hcS bS scSa rfl (Or.inl rfl) (said_gives T) TB rfl (List.mem_singleton.mpr rfl) (fun p hp _ => by rw [List.mem_singleton.mp hp]; rfl) hr9 (lamS_by (sc := defScope s_l_refused_right) (by decide +kernel)) rfl (fun _ _ _ _ _ => rfl) (fun A outer s H E f c' hr' => pe_f (k_tabof T) hr' (passE (takes_of rfl rfl rfl rfl)) (pa_cons (pv 3) pa_nil))) (pa_cons (pe_lamD (k := 7) (d := "_law_x1") (T := TRf K) rfl T.g_l_said FS.kp lkS hcS bS scSa rfl (Or.inl rfl) (said_gives T) TB rfl (List.mem_singleton.mpr rfl) (fun p hp _ => by rw [List.mem_singleton.mp hp]; rfl) hr9 (lamD_by (sc := defScope s_l_refused_right) (by decide +kernel)) (hdN _ (by decide)) rfl rfl (fun _ _ _ _ _ _ _ _ => ⟨_, rfl, rfl⟩) (fun A outer s H E f c' hr' => pe_f (k_first T) (hr'.mono (by decide)) (passE (takes_of rfl rfl rfl rfl)) (pa_cons (pv 3) (pa_cons (pv 4) pa_nil)))) (pa_cons (pe_lamD (k := 7) (d := "_law_x2") (T := TRf K) rfl T.g_l_said FS.kp lkS hcS bS scSa rfl (Or.inl rfl) (said_gives T) TB rfl (List.mem_singleton.mpr rfl) (fun p hp _ => by rw [List.mem_singleton.mp hp]; rfl) hr9 (lamD_by (sc := defScope s_l_refused_right) (by decide +kernel)) (hdN _ (by decide)) rfl rfl (fun _ _ _ _ _ _ _ _ => ⟨_, rfl, rfl⟩) (fun A outer s H E f c' hr' => pe_f (k_first T) (hr'.mono (by decide)) (passE (takes_of rfl rfl rfl rfl)) (pa_cons (pv 1) (pa_cons (pv 4) pa_nil)))) pa_nil))))))
      (pss_one (ps_ret (pe_cmpR (op_eqD (Nat.lt_of_succ_lt (hu65 hr2))) (pv 5) (pe_op op_cat (pe_op op_cat (pe_op op_cat (pe_op op_rep (pe_lst (pa_cons (pe_tup (pa_cons pe_str (pa_cons pe_str pa_nil))) pa_nil)) pe_int) (pe_op op_rep (pe_lst (pa_cons (pe_tup (pa_cons pe_str (pa_cons pe_str pa_nil))) pa_nil)) pe_int)) (pe_op op_rep (pe_lst (pa_cons (pe_tup (pa_cons pe_str (pa_cons pe_str pa_nil))) pa_nil)) pe_int)) (pe_lst (pa_cons (pe_tup (pa_cons pe_str (pa_cons pe_str pa_nil))) pa_nil))) (nomark _))))))), ?_⟩
    have hcw := W
    obtain ⟨dx, wt0, hv0, hp0, ht0, hG0⟩ := W
    have W : WirAt (He.ga K "Wiring") H p n bs := hcw
    -- the first pick
    refine ⟨_, rfl, _, rfl, _, rfl, p, _, _, rfl, hp0, ⟨p, n, bs, rfl, n8, W, hlen, fun H1 z s1 => ⟨z, rfl, by show 5 ≤ sizeLine; decide, fun L hL => ?_⟩⟩⟩
    have s2 : Same H1 (upd H1 L (.lst [V.non, V.int 5, V.ref f, V.str z, V.bl true])) := same_new hL
    have s12 := s1.trans s2
    have Lc : L ≠ c := fun e => by
      obtain ⟨ys, q⟩ := C.get
      rw [← e] at q
      rw [s1 _ _ q] at hL
      cases hL
    refine ⟨c, l, L, _, T0, rfl, by omega, C.same s12, Lc, upd_same, by show 0 < 5; decide, by show 5 < 1000; decide, fun H3 i v hi b3 C3 => ?_⟩
    have hf3 : H3 f = some (.lst (refs as)) := b3 _ _ fc (s12 _ _ hf)
    have hv : ∀ H' : Hp, H' f = some (.lst (refs as)) → NotW H' v := fun H' hf' => by
      match i, hi with
      | 0, e => cases e; exact .inl rfl
      | 1, e => cases e; exact .inr (.inl ⟨5, rfl⟩)
      | 2, e => cases e; exact .inr (.inr (.inr (.inr ⟨f, _, rfl, hf'⟩)))
      | 3, e => cases e; exact .inr (.inr (.inr (.inl ⟨z, rfl⟩)))
      | 4, e => cases e; exact .inr (.inr (.inl ⟨true, rfl⟩))
      | _ + 5, e => cases e
    have W3 := wir_but (W.same s12) (C.same s12) b3
    have T3 := tabs_but (TT.ext s12) (C.same s12) b3
    have b03 : But c H H3 := (but_same s12).trans b3
    clear hi s2 s12 hL Lc b3
    -- the second pick
    have hcw := W3
    obtain ⟨dx3, wt3, hv3, hp3, ht3, hG3⟩ := W3
    have W3 : WirAt (He.ga K "Wiring") H3 p n bs := hcw
    refine ⟨_, rfl, _, rfl, _, rfl, p, _, _, _, _, rfl, hp3, T.c_Wiring, T.no_Wiring_lamps, wirF_lamps n wt3 hv3, _, _, rfl, rfl, cpow1 (by omega), by show 1 ≤ sizeLine; decide, fun L0 hL0 => ⟨_, _, rfl, rfl, ⟨by decide, by decide, by decide⟩, by show 7 ≤ sizeLine; decide, fun L hL => ?_⟩⟩
    have s0 : Same H3 (upd H3 L0 (.lst [V.int 0])) := same_new hL0
    have e0 : (upd H3 L0 (.lst [V.int 0])) L0 = some (.lst [V.int 0]) := upd_same
    generalize upd H3 L0 (.lst [V.int 0]) = H4 at s0 e0 hL ⊢
    have s4 : Same H4 (upd H4 L (.lst [V.int (-1), V.int (1 * 2 ^ ((n : Int)).toNat), V.non, V.bl true, V.str "1", V.ref L0, V.int (10 ^ ((30 : Int)).toNat)])) := same_new hL
    have s34 := s0.trans s4
    have Lc : L ≠ c := fun e => by
      obtain ⟨ys, q⟩ := (C3.same s0).get
      rw [← e, hL] at q
      cases q
    have L0c : L0 ≠ c := fun e => by
      obtain ⟨ys, q⟩ := C3.get
      rw [← e, hL0] at q
      cases q
    refine ⟨c, l, L, _, T0 + 1, rfl, by omega, C3.same s34, Lc, upd_same, by show 0 < 7; decide, by show 7 < 1000; decide, fun H5 i o hi b5 C5 => ?_⟩
    have hl0 : H5 L0 = some (.lst [V.int 0]) := b5 _ _ L0c (s4 _ _ e0)
    have n256 := pow8 n8
    have ho : BadR n H5 o ∧ NotW H5 o := by
      match i, hi with
      | 0, e => cases e; exact ⟨.inr ⟨-1, rfl, rfl⟩, .inr (.inl ⟨_, rfl⟩)⟩
      | 1, e =>
        cases e
        refine ⟨.inr ⟨_, rfl, ?_⟩, .inr (.inl ⟨_, rfl⟩)⟩
        rw [shl1, Bool.and_eq_false_iff]
        exact .inr (decide_eq_false (by omega))
      | 2, e => cases e; exact ⟨.inl (.inl rfl), .inl rfl⟩
      | 3, e => cases e; exact ⟨.inl (.inr (.inl ⟨_, rfl⟩)), .inr (.inr (.inl ⟨_, rfl⟩))⟩
      | 4, e => cases e; exact ⟨.inl (.inr (.inr (.inl ⟨_, rfl⟩))), .inr (.inr (.inr (.inl ⟨_, rfl⟩)))⟩
      | 5, e => cases e; exact ⟨.inl (.inr (.inr (.inr ⟨_, _, rfl, hl0⟩))), .inr (.inr (.inr (.inr ⟨_, _, rfl, hl0⟩)))⟩
      | 6, e =>
        cases e
        refine ⟨.inr ⟨_, rfl, ?_⟩, .inr (.inl ⟨_, rfl⟩)⟩
        rw [Bool.and_eq_false_iff]
        refine .inr (decide_eq_false ?_)
        have z : (10 : Int) ^ ((30 : Int)).toNat = 1000000000000000000000000000000 := by decide +kernel
        rw [z]
        omega
      | _ + 7, e => cases e
    obtain ⟨hoB, hoW⟩ := ho
    have W5 := wir_but (W3.same s34) (C3.same s34) b5
    have T5 := tabs_but (T3.ext s34) (C3.same s34) b5
    have b05 : But c H H5 := b03.trans ((but_same s34).trans b5)
    have hv5 : NotW H5 v := hv _ (b5 _ _ fc (s34 _ _ hf3))
    clear hi s0 e0 hL hL0 s4 s34 Lc L0c b5
    refine ⟨by show 2 ≤ sizeLine; decide, fun tp htp => ⟨tp, _, rfl, .inl (.inl upd_same), rfl, _, _, rfl, _, _, rfl, rfl, ?_⟩⟩
    have s6 : Same H5 (upd H5 tp (.tup [v, o])) := same_new htp
    have C6 := C5.same s6
    have W6 := W5.same s6
    have T6 := T5.ext s6
    have b06 := b05.trans (but_same (c := c) s6)
    have hv6 := hv5.extN (extN_same s6)
    have hoB := hoB.extN (extN_same s6)
    have hoW := hoW.extN (extN_same s6)
    dsimp only [tSeq, tNext, tAsg, tRet, gName]
    generalize upd H5 tp (.tup [v, o]) = H6 at C6 W6 T6 b06 hv6 hoB hoW ⊢
    clear C5 W5 T5 b05 hv5 s6 htp
    -- what is asked
    refine trio (r1 := "wiring") (r2 := "wiring") (r3 := "wiring") T6 (x1 := "BadWiring") (x2 := "BadWiring") (x3 := "BadWiring") (w1 := "wiring") (w2 := "wiring") (w3 := "wiring") (by decide) (by decide) (by decide)
      (fun H1 E e he => ⟨_, rfl, _, rfl, v, o, rfl, .inr (.inl ⟨hv6.extN e, he⟩)⟩) (fun H1 E e he => ⟨_, rfl, _, rfl, v, o, rfl, .inr (.inl ⟨hv6.extN e, he⟩)⟩) (fun H1 E e he => ⟨_, rfl, _, rfl, v, o, rfl, .inr (.inl ⟨hv6.extN e, he⟩)⟩) fun H7 L7 a1 a2 a3 e7 T7 l7 k1 k2 k3 => ?_
    refine ⟨_, rfl, ?_⟩
    refine trio (r1 := "row") (r2 := "row") (r3 := "row") T7 (x1 := "BadRow") (x2 := "BadRow") (x3 := "BadRow") (w1 := "row") (w2 := "row") (w3 := "row") (by decide) (by decide) (by decide)
      (fun H1 E e he => ⟨_, rfl, _, rfl, _, o, rfl, .inr (.inr ⟨p, n, bs, rfl, n8, W6.extN (e7.trans e), hoB.extN (e7.trans e), he⟩)⟩) (fun H1 E e he => ⟨_, rfl, _, rfl, _, o, rfl, .inr (.inr ⟨p, n, bs, rfl, n8, W6.extN (e7.trans e), hoB.extN (e7.trans e), he⟩)⟩) (fun H1 E e he => ⟨_, rfl, _, rfl, _, o, rfl, .inr (.inr ⟨p, n, bs, rfl, n8, W6.extN (e7.trans e), hoB.extN (e7.trans e), he⟩)⟩) fun H8 L8 a4 a5 a6 e8 T8 l8 k4 k5 k6 => ?_
    refine ⟨L7, L8, _, _, rfl, rfl, extN_l e8 l7, l8, by show 6 ≤ sizeLine; decide, fun L9 hL9 => ?_⟩
    have s9 : Same H8 (upd H8 L9 (.lst (([V.ref a1, .ref a2, .ref a3] : List V) ++ [V.ref a4, .ref a5, .ref a6]))) := same_new hL9
    have l9 : (upd H8 L9 (.lst (([V.ref a1, .ref a2, .ref a3] : List V) ++ [V.ref a4, .ref a5, .ref a6]))) L9 = some (.lst (([V.ref a1, .ref a2, .ref a3] : List V) ++ [V.ref a4, .ref a5, .ref a6])) := upd_same
    have e79 := e8.trans (.of s9)
    have k1 := extN_t e79 k1
    have k2 := extN_t e79 k2
    have k3 := extN_t e79 k3
    have k4 := s9 _ _ k4
    have k5 := s9 _ _ k5
    have k6 := s9 _ _ k6
    have T9 := T8.ext s9
    have e69 := e7.trans e79
    generalize upd H8 L9 (.lst (([V.ref a1, .ref a2, .ref a3] : List V) ++ [V.ref a4, .ref a5, .ref a6])) = H9 at s9 l9 e79 k1 k2 k3 k4 k5 k6 T9 e69 ⊢
    clear e79 s9 e8 e7
    refine ⟨_, rfl, ?_⟩
    refine trio (r1 := "wiring") (r2 := "wiring") (r3 := "table") T9 (x1 := "BadWiring") (x2 := "BadWiring") (x3 := "BadTable") (w1 := "wiring") (w2 := "wiring") (w3 := "table") (by decide) (by decide) (by decide)
      (fun H1 E e he => ⟨_, rfl, v, rfl, .inr ⟨hv6.extN (e69.trans e), he⟩⟩) (fun H1 E e he => ⟨_, rfl, _, rfl, v, o, rfl, .inl ⟨hv6.extN (e69.trans e), he⟩⟩) (fun H1 E e he => ⟨_, rfl, _, rfl, _, o, rfl, .inr ⟨p, n, bs, rfl, W6.extN (e69.trans e), hoW.extN (e69.trans e), he⟩⟩) fun H10 L10 a7 a8 a9 e10 T10 l10 k7 k8 k9 => ?_
    refine ⟨L9, L10, _, _, rfl, rfl, extN_l e10 l9, l10, by show 9 ≤ sizeLine; decide, fun L11 hL11 => ?_⟩
    have s11 : Same H10 (upd H10 L11 (.lst ((([V.ref a1, .ref a2, .ref a3] : List V) ++ [V.ref a4, .ref a5, .ref a6]) ++ [V.ref a7, .ref a8, .ref a9]))) := same_new hL11
    have l11 : (upd H10 L11 (.lst ((([V.ref a1, .ref a2, .ref a3] : List V) ++ [V.ref a4, .ref a5, .ref a6]) ++ [V.ref a7, .ref a8, .ref a9]))) L11 = some (.lst ((([V.ref a1, .ref a2, .ref a3] : List V) ++ [V.ref a4, .ref a5, .ref a6]) ++ [V.ref a7, .ref a8, .ref a9])) := upd_same
    have e911 := e10.trans (.of s11)
    have k1 := extN_t e911 k1
    have k2 := extN_t e911 k2
    have k3 := extN_t e911 k3
    have k4 := extN_t e911 k4
    have k5 := extN_t e911 k5
    have k6 := extN_t e911 k6
    have k7 := s11 _ _ k7
    have k8 := s11 _ _ k8
    have k9 := s11 _ _ k9
    have T11 := T10.ext s11
    have e611 := e69.trans e911
    generalize upd H10 L11 (.lst ((([V.ref a1, .ref a2, .ref a3] : List V) ++ [V.ref a4, .ref a5, .ref a6]) ++ [V.ref a7, .ref a8, .ref a9])) = H11 at s11 l11 e911 k1 k2 k3 k4 k5 k6 k7 k8 k9 T11 e611 ⊢
    clear e911 s11 e69 e10
    -- what is due
    refine ⟨_, rfl, ?_⟩
    refine repS (m := 3) (by decide) fun H12 r1 q1 s12 lr1 kq1 => ?_
    refine repS (m := 3) (by decide) fun H13 r2 q2 s13 lr2 kq2 => ?_
    refine catS (s13 _ _ lr1) lr2 (by show 6 ≤ 1000; decide) fun H14 r3 s14 lr3 => ?_
    refine repS (m := 2) (by decide) fun H15 r4 q4 s15 lr4 kq4 => ?_
    refine catS (s15 _ _ lr3) lr4 (by show 8 ≤ 1000; decide) fun H16 r5 s16 lr5 => ?_
    refine singS fun H17 r6 q6 s17 lr6 kq6 => ?_
    refine catS (s17 _ _ lr5) lr6 (by show 9 ≤ 1000; decide) fun H18 r7 s18 lr7 => ?_
    have f17 := s18
    have f15 := (s16.trans s17).trans f17
    have f13 := (s14.trans s15).trans f15
    have f12 := s13.trans f13
    have f11 := s12.trans f12
    refine ⟨_, _, dp_pairs [(a1, "wiring", "wiring"), (a2, "wiring", "wiring"), (a3, "wiring", "wiring"), (a4, "row", "row"), (a5, "row", "row"), (a6, "row", "row"), (a7, "wiring", "wiring"), (a8, "wiring", "wiring"), (a9, "table", "table")] (f11 _ _ l11) ?_,
      dp_pairs [(q1, "wiring", "wiring"), (q1, "wiring", "wiring"), (q1, "wiring", "wiring"), (q2, "row", "row"), (q2, "row", "row"), (q2, "row", "row"), (q4, "wiring", "wiring"), (q4, "wiring", "wiring"), (q6, "table", "table")] lr7 ?_, heard_shaped, heard_shaped, ?_⟩
    · intro z hz
      simp only [List.mem_cons, List.not_mem_nil, or_false] at hz
      rcases hz with rfl | rfl | rfl | rfl | rfl | rfl | rfl | rfl | rfl
      · exact f11 _ _ k1
      · exact f11 _ _ k2
      · exact f11 _ _ k3
      · exact f11 _ _ k4
      · exact f11 _ _ k5
      · exact f11 _ _ k6
      · exact f11 _ _ k7
      · exact f11 _ _ k8
      · exact f11 _ _ k9
    · intro z hz
      simp only [List.mem_cons, List.not_mem_nil, or_false] at hz
      rcases hz with rfl | rfl | rfl | rfl | rfl | rfl | rfl | rfl | rfl
      · exact f12 _ _ kq1
      · exact f12 _ _ kq1
      · exact f12 _ _ kq1
      · exact f13 _ _ kq2
      · exact f13 _ _ kq2
      · exact f13 _ _ kq2
      · exact f15 _ _ kq4
      · exact f15 _ _ kq4
      · exact f17 _ _ kq6
    · rw [show PyData.eqv (.list (List.map pairD [(a1, ("wiring" : Str), ("wiring" : Str)), (a2, "wiring", "wiring"), (a3, "wiring", "wiring"), (a4, "row", "row"), (a5, "row", "row"), (a6, "row", "row"), (a7, "wiring", "wiring"), (a8, "wiring", "wiring"), (a9, "table", "table")])) (.list (List.map pairD [(q1, ("wiring" : Str), ("wiring" : Str)), (q1, "wiring", "wiring"), (q1, "wiring", "wiring"), (q2, "row", "row"), (q2, "row", "row"), (q2, "row", "row"), (q4, "wiring", "wiring"), (q4, "wiring", "wiring"), (q6, "table", "table")])) = true from heard_eqv]
      have e618 : ExtN H6 H18 := e611.trans (.of f11)
      exact q H18 (fun b ob nb e nt => e618 _ _ (b06 b ob nb e) nt) (T11.ext f11) (C6.extN e618)
end
end Kl
set_option maxHeartbeats 4000000
/-! ## law -/
namespace Kl
open PySem PySem.Spec PyProof.Rows L2 LamX
theorem kb_one {K : PySem.W.Frag} {x a : Str} {st : Stmt} (F : FD K x x st (He.ga K x) [])
    (h : ∀ (kV doc pm : Value) (an : Option Addr) (cdv ct : Value) (ws : List Value), ws.length = 1 → bindArgs (PySem.W.fnOf x x (defArgs st) (defBody st) (defScope st) .none kV doc pm an cdv ct) ⟨[], [a].zip ws⟩ = pure ([a].zip ws)) :
    ∀ fd, (∃ oc od osl, K.lookup (He.ga K x) = some ⟨oc, od, .func fd, osl⟩) → KB0 fd [a] [a] id id := by
  intro fd ⟨oc, od, osl, hl⟩
  obtain ⟨fd2, F2⟩ := F
  obtain ⟨oc', od', dV, kV, doc, pm, an, cdv, ct, osl', rfl, lk, hcd, hD, hK⟩ := F2.ex
  rw [hl] at lk
  injection lk with lk
  injection lk with l1 l2 l3 l4
  injection l3 with l3
  subst l3
  refine ⟨fun s ws hw => ?_, fun r => r, fun zs => rfl⟩
  rcases hD with ⟨_, rfl⟩ | ⟨e, _⟩
  · exact .of_eq (h kV doc pm an cdv ct ws hw)
  · exact absurd rfl e
section
variable {w : World} {K : PySem.W.Frag} {mg : Str → Option Value} {base : Heap}
def spLaw (K : PySem.W.Frag) : Sp := fun vs H Q _ => ∃ (a : Addr) (ns : List Int), vs = [.ref a] ∧ SqL K H a (ns.map V.int) ∧ ns.length ≤ 500 ∧ Tabs (TRf K) H ∧ ∀ H', Q (.bl true) H'
abbrev NLa : List Str := ["_law_script", "_law_cinema_here", "_law_turn", "_law_lamps", "_law_gates_here", "_law_made", "_law_rows", "_law_told", "_law_some", "_law_due", "_law_lap", "_law_row"]
theorem scLa : FnScope NLa ["_law_script"] (defScope s_law) := ⟨rfl, rfl, rfl, by decide +kernel, rfl, by decide +kernel, by decide +kernel⟩
/-- all but the cinema and the tables stays -/
def Fr (c : Addr) (H H' : Hp) : Prop := ∀ b o, b ≠ c → H b = some o → (∀ ps, o ≠ .tbl ps) → H' b = some o
theorem wir_fr {C0 : Addr} {H H' : Hp} {c l p : Addr} {n m : Nat} {as : List AG} (h : WirAt C0 H p n as) (C : Cin H c l m) (s : Fr c H H') : WirAt C0 H' p n as := by
  obtain ⟨dx, t, hv, h1, h2, h3⟩ := h
  exact ⟨dx, t, hv, s _ _ (C.ne h1 fun _ z => nomatch z) h1 (fun _ z => nomatch z), s _ _ (C.ne h2 fun _ z => nomatch z) h2 (fun _ z => nomatch z), h3.t fun b xs e => s _ _ (C.ne e fun _ z => nomatch z) e fun _ z => nomatch z⟩
theorem gl_fr {H H' : Hp} {c l f : Addr} {m : Nat} {as : List AG} (h : GL H f as) (fc : f ≠ c) (C : Cin H c l m) (s : Fr c H H') : GL H' f as :=
  ⟨s _ _ fc h.1 (fun _ z => nomatch z), h.2.1, h.2.2.t fun b xs e => s _ _ (C.ne e fun _ z => nomatch z) e fun _ z => nomatch z⟩
theorem fr_but {c : Addr} {H H' : Hp} (s : But c H H') : Fr c H H' := fun b o n e _ => s b o n e
theorem tab_but {C0 : Addr} {H H' : Hp} {c l p : Addr} {n m : Nat} {ls : List Nat} (h : TableAt C0 H p n ls) (C : Cin H c l m) (s : But c H H') : TableAt C0 H' p n ls := by
  obtain ⟨dx, t, h1, h2⟩ := h
  exact ⟨dx, t, s _ _ (C.ne h1 fun _ z => nomatch z) h1, s _ _ (C.ne h2 fun _ z => nomatch z) h2⟩
theorem tcons_op {r : R2} {ta tb : TE} {rest : TA} {σ : L2.St} {H : Hp} {Q : List V → Hp → Prop} (h : ta σ H fun x H1 => tb σ H1 fun y H2 => r x y H2 fun z H3 => rest σ H3 fun zs H4 => Q (z :: zs) H4) : tCons (tOp r ta tb) rest σ H Q := h
/-- the reel, some times -/
theorem laps {T n k : Nat} {H : Hp} {c l : Addr} {E : XK} {Q : VK} {s0 s2 s4 s5 s6 s7 s8 s9 s10 s11 : Option V} (C : Cin H c l T) (hT : T + k ≤ 100000) (n8 : n ≤ 8) (hk : k ≤ 100)
    (done : ∀ D H' xs, H D = none → But c H H' → Cin H' c l (T + k) → H' D = some (.lst (natV xs)) → (∀ x ∈ xs, x < 2 ^ n) → xs.length = k → Q (.ref D) H') :
    tLc (iRng1 (tCons (tC (.int (k : Nat))) tNil)) (gName 10) tYes (tCall spReel [] E (tCons (tVar 1) (tCons (tOp (rI CPow fun i j => .int (i * 2 ^ j.toNat)) (tC (.int 1)) (tVar 3)) tNil))) [10] [s0, some (.ref c), s2, some (.int (n : Nat)), s4, s5, s6, s7, s8, s9, s10, s11] H Q := by
  have h28 := pow8 n8
  refine ⟨k, rfl, by omega, by omega, fun D hD => ?_⟩
  obtain ⟨xc, hxc⟩ := C.get
  obtain ⟨xl, hxl⟩ := C.getl
  have cD : c ≠ D := ne_of_none hxc hD
  have lD : l ≠ D := ne_of_none hxl hD
  refine lc_it (walk_range (lo := 0) (n := (k : Int).toNat)) (fun i H' => But c H H' ∧ Cin H' c l (T + i) ∧ ∃ xs : List Nat, H' D = some (.lst (natV xs)) ∧ xs.length = i ∧ ∀ x ∈ xs, x < 2 ^ n) ⟨but_same (same_new hD), C.same (same_new hD), [], upd_same, rfl, fun x hx => nomatch hx⟩ (fun _ _ _ _ => trivial) (fun i x H1 H' hi p y => ?_) (fun H' p => ?_)
  · obtain ⟨rfl, rfl⟩ := y
    obtain ⟨b1, C1, xs, h1, hl, hx⟩ := p
    have hik : i < k := hi
    refine ⟨rfl, yes_if ⟨_, rfl, _, rfl, _, _, rfl, rfl, cpow1 (by omega), c, l, _, T + i, rfl, ?_, ?_, by omega, C1, fun H3 r b3 C3 r0 r1 => ?_⟩⟩
    · rw [shl1]
      have := Nat.two_pow_pos n
      omega
    · rw [shl1]
      omega
    · rw [shl1] at r1
      obtain ⟨j, rfl⟩ := Int.eq_ofNat_of_zero_le r0
      have e3 := b3 _ _ (Ne.symm cD) h1
      refine ⟨natV xs, e3, small1000 (by rw [natV_len]; omega), fun b o n e => by rw [upd_ne (ne_of_none e hD)]; exact b3 b o n (b1 b o n e), C3.put cD lD, xs ++ [j], by rw [upd_same, natV_app]; rfl, by rw [List.length_append, hl]; rfl, fun x hx' => ?_⟩
      rcases List.mem_append.mp hx' with h | h
      · exact hx x h
      · rw [List.mem_singleton.mp h]
        have r1 : (j : Int) < ((2 ^ n : Nat) : Int) := r1
        omega
  · obtain ⟨b1, C1, xs, h1, hl, hx⟩ := p
    exact done D H' xs hD b1 C1 h1 hx hl
theorem g_law (T : Tx K mg) (TB : TabB base mg (He.cT K ("_law_refused_right", none)).1 (PRf K)) : FnG PR w K mg base 12 "law" ["_law_script"] (spLaw K) := by
  obtain ⟨fd, F⟩ := T.f_law
  refine okG T.g_law F (F.bindsN fun _ _ _ _ _ _ us hl => match us, hl with | [_], _ => rfl) scLa (fun vs H Q E h => by obtain ⟨a, ns, rfl, _⟩ := h; rfl) fun cdv A outer s H vs Q E hgd hr h => ?_
  obtain ⟨a, ns, rfl, ha, hn, TT, q⟩ := h
  have hr1 : Room 1 _ := hr.mono (by decide)
  have hr2 : Room 2 _ := hr.mono (by decide)
  have hr3 : Room 3 _ := hr.mono (by decide)
  have hr4 : Room 4 _ := hr.mono (by decide)
  have hr5 : Room 5 _ := hr.mono (by decide)
  have hr6 : Room 6 _ := hr.mono (by decide)
  have hr7 : Room 7 _ := hr.mono (by decide)
  obtain ⟨fdE, FE, bE⟩ := (f_teq (w := w) (base := base) T).ok
  refine ⟨_, pss_cons (ps_set (i := 1) scLa.nd rfl (Or.inr rfl) (pe_f (k_cinema T) hr1 passL (pa_cons (pv 0) pa_nil)))
    (pss_cons (ps_for PassesOwn.never rfl (pi_range1 rfl T.n_range (pa_cons pe_int pa_nil)) (pg_name (i := 2) scLa.nd rfl (Or.inl rfl))
      (pss_cons (ps_set (i := 3) scLa.nd rfl (Or.inr rfl) (pe_op op_add pe_int (pe_f (k_reel T) hr1 passL (pa_cons (pv 1) (pa_cons (pe_f (k_pick T) hr2 passL (pa_cons (pv 1) (pa_cons (pe_lst (pa_cons pe_int (pa_cons pe_int (pa_cons pe_int pa_nil)))) pa_nil))) pa_nil)))))
      (pss_cons (ps_set (i := 4) scLa.nd rfl (Or.inr rfl) (pe_f (k_gs T) hr4 passL (pa_cons (pv 1) (pa_cons (pv 3) (pa_cons (pe_f (k_pick T) hr2 passL (pa_cons (pv 1) (pa_cons (pe_lst (pa_cons pe_int (pa_cons pe_int (pa_cons pe_int pa_nil)))) pa_nil))) pa_nil)))))
      (pss_cons (ps_set (i := 5) scLa.nd rfl (Or.inr rfl) (pe_mk (f_winit T) T.mk_Wiring T.g_Wiring hr5 passL (pa_cons (pv 3) (pa_cons (pv 4) pa_nil))))
      (pss_cons (ps_set (i := 6) scLa.nd rfl (Or.inl rfl) (pe_mono (pe_ifExp (pt_cmpR op_lt (pv 3) pe_int (nomark _)) (pe_listRg rfl rfl T.n_list (prg_1 rfl T.n_range (pe_op op_shl pe_int (pv 3)))) (pe_lc (own := [("_law_lap", 10)]) (g := gName 10) (tt := tYes) rfl scLa.nd (pi_range1 rfl T.n_range (pa_cons pe_int pa_nil)) (blkOk_by (N := NLa) (sc := defScope s_law) (by decide +kernel)) (fun _ _ _ _ _ => pg_name (i := 10) scLa.nd rfl (Or.inl rfl)) (fun _ _ _ _ _ => pts_nil) (fun _ _ _ _ _ => pe_f (k_reel T) hr1 passL (pa_cons (pv 1) (pa_cons (pe_op op_shl pe_int (pv 3)) pa_nil)))))))
      (pss_cons (ps_if (PW.pt (pw_or (pt_cmpR (op_neD hr.units) (pe_lc (own := [("_law_row", 11)]) (g := gName 11) rfl scLa.nd (pi_list (pv 6)) (blkOk_by (N := NLa) (sc := defScope s_law) (by decide +kernel)) (fun _ _ _ _ _ => pg_name (i := 11) scLa.nd rfl (Or.inl rfl)) (fun _ _ _ _ _ => pts_one (pt_not (pt_val (pe_g (g_rr T) hgd hr5 passL (pa_cons (pv 5) (pa_cons (pv 4) (pa_cons (pv 11) pa_nil))))))) (fun _ _ _ _ _ => pv 11)) (pe_lst pa_nil) (nomark _)) (pw_or1 (pt_not (pt_val (pe_f (k_rf T TB) hr passL (pa_cons (pv 1) (pa_cons (pv 5) (pa_cons (pv 4) pa_nil))))))))) pss_never pss_nil)
      (pss_one (ps_if (pt_cmpR op_gt (pv 3) pe_int (nomark _)) (pss_cons (ps_asg (pe_tup (pa_cons (pe_f (k_tabof T) hr7 passL (pa_cons (pv 5) pa_nil)) (pa_cons (pe_op op_cat (pe_lc (own := [("_law_lap", 10)]) (g := gName 10) (tt := tYes) rfl scLa.nd (pi_range1 rfl T.n_range (pa_cons pe_int pa_nil)) (blkOk_by (N := NLa) (sc := defScope s_law) (by decide +kernel)) (fun _ _ _ _ _ => pg_name (i := 10) scLa.nd rfl (Or.inl rfl)) (fun _ _ _ _ _ => pts_nil) (fun _ _ _ _ _ => pe_f (k_reel T) hr1 passL (pa_cons (pv 1) (pa_cons (pe_op op_shl pe_int (pv 3)) pa_nil)))) (pe_lst (pa_cons (pe_op op_sub (pe_op op_shl pe_int (pv 3)) pe_int) pa_nil))) pa_nil))) (pg_tup rfl (pgs_cons (pg_name (i := 7) scLa.nd rfl (Or.inr rfl)) (pgs_cons (pg_name (i := 8) scLa.nd rfl (Or.inl rfl)) pgs_nil))))
          (pss_one (ps_if (PW.pt (pw_or (pt_cmpR op_ne (pe_fld (pv 7) rfl) (pv 3) (nomark _)) (pw_or1 (pt_cmpR (op_neD hr.units) (pe_lc (own := [("_law_row", 11)]) (g := gName 11) rfl scLa.nd (pi_list (pv 8)) (blkOk_by (N := NLa) (sc := defScope s_law) (by decide +kernel)) (fun _ _ _ _ _ => pg_name (i := 11) scLa.nd rfl (Or.inl rfl)) (fun _ _ _ _ _ => pts_one (pt_cmpR op_ne (pe_ix (r := rIx K) (ta := tFld K (tVar 7) "goals") (tb := tVar 11) ix_seq (pe_fld (f := "goals") (ta := tVar 7) (pv 7) (by rfl)) (pv 11) fun _ _ => rfl) (pe_ix (r := rIx K) ix_seq (pe_f (k_lfilm T) hr2 passL (pa_cons (pv 4) (pa_cons (pv 11) pa_nil))) (pe_un un_neg pe_int) fun _ _ => rfl) (nomark _))) (fun _ _ _ _ _ => pv 11)) (pe_lst pa_nil) (nomark _))))) pss_never pss_nil))) (pss_cons (ps_asg (pe_tup (pa_cons (pe_f (k_tabof T) hr7 passL (pa_cons (pv 5) pa_nil)) (pa_cons (pe_f (k_lgoals T) hr3 passL (pa_cons (pv 3) (pa_cons (pv 4) pa_nil))) pa_nil))) (pg_tup rfl (pgs_cons (pg_name (i := 7) scLa.nd rfl (Or.inr rfl)) (pgs_cons (pg_name (i := 9) scLa.nd rfl (Or.inl rfl)) pgs_nil))))
          (pss_cons (ps_if (PW.pt (pw_or (pt_not (pt_val (pe_callB call_isi rfl T.n_isinstance b_isi (pa_cons (pv 7) (pa_cons (pe_glob (v := .ref (He.ga K "Table")) rfl T.g_Table rfl) pa_nil))))) (pw_or1 (pt_cmpR op_ne (pe_callB (call_repr_data hr hgd) rfl T.n_repr b_repr (pa_cons (pe_lst (pa_cons (pe_fld (pv 7) rfl) (pa_cons (pe_fld (pv 7) rfl) pa_nil))) pa_nil)) (pe_callB (call_repr_data hr hgd) rfl T.n_repr b_repr (pa_cons (pe_lst (pa_cons (pv 3) (pa_cons (pv 9) pa_nil))) pa_nil)) (nomark _))))) pss_never pss_nil)
          (pss_one (ps_if (pt_cmpR (op_neO T.ow T.owt FE bE hr2) (pe_kw (k_tabof T) (kb_one T.f_table_of fun _ _ _ _ _ _ ws hw => match ws, hw with | [_], _ => rfl) hr7 rfl passL (pk_cons (pv 5) pk_nil)) (pe_mk (f_tinit T) T.mk_Table T.g_Table hr6 passL (pa_cons (pv 3) (pa_cons (pv 9) pa_nil))) (nomark _)) pss_never pss_nil))))))))))))
    (pss_one (ps_ret pe_bl))), ?_⟩
  refine ⟨_, rfl, a, ns, rfl, ha, hn, fun H0 c l s0 _ _ _ C0 => ?_⟩
  refine ⟨3, rfl, by decide, by decide, ?_⟩
  refine for_range (fun i σ H' => ∃ v2 v3 v4 v5 v6 v7 v8 v9 v10 v11 : Option V, σ = [some (.ref a), some (.ref c), v2, v3, v4, v5, v6, v7, v8, v9, v10, v11] ∧ Cin H' c l (1000 * i) ∧ Tabs (TRf K) H') ⟨_, _, _, _, _, _, _, _, _, _, rfl, C0, TT.ext s0⟩ ?_ (fun σ H' _ => q H')
  rintro i σ H1 hi ⟨v2, v3, v4, v5, v6, v7, v8, v9, v10, v11, rfl, C1, T1⟩
  have i3 : i < 3 := hi
  dsimp only [gName]
  -- how many lamps
  refine ⟨_, rfl, _, rfl, by show 3 ≤ sizeLine; decide, fun L hL => ?_⟩
  have s2 : Same H1 (upd H1 L (.lst [V.int 8, V.int 5, V.int 4])) := same_new hL
  have Lc : L ≠ c := fun e => by
    obtain ⟨ys, q⟩ := C1.get
    rw [← e, hL] at q
    cases q
  refine ⟨c, l, L, _, _, rfl, by omega, C1.same s2, Lc, upd_same, by show 0 < 3; decide, by show 3 < 1000; decide, fun H3 j x hj b3 C3 => ?_⟩
  obtain ⟨m, rfl, m1, m8⟩ : ∃ m : Nat, x = .int m ∧ 1 ≤ m ∧ m ≤ 8 := by
    match j, hj with
    | 0, e => cases e; exact ⟨8, rfl, by decide, by decide⟩
    | 1, e => cases e; exact ⟨5, rfl, by decide, by decide⟩
    | 2, e => cases e; exact ⟨4, rfl, by decide, by decide⟩
    | _ + 3, e => cases e
  refine ⟨c, l, _, _, rfl, by omega, by omega, by omega, C3, fun H4 r b4 C4 r0 r1 => ?_⟩
  obtain ⟨r, rfl⟩ := Int.eq_ofNat_of_zero_le r0
  have T4 := tabs_but (tabs_but (T1.ext s2) (C1.same s2) b3) C3 b4
  refine ⟨_, _, rfl, rfl, ?_⟩
  have en : (1 : Int) + (r : Nat) = ((r + 1 : Nat) : Int) := by omega
  dsimp only [gName, tSeq, tAsg, tNext]
  rw [en]
  obtain ⟨n, hn1⟩ : ∃ n, n = r + 1 := ⟨_, rfl⟩
  rw [← hn1]
  have n1 : 1 ≤ n := by omega
  have n8 : n ≤ 8 := by omega
  have h28 := pow8 n8
  clear en hn1 r0 r1 hj Lc s2 hL b3 b4 C3 hi
  -- the gates
  refine ⟨_, rfl, _, rfl, _, rfl, by show 3 ≤ sizeLine; decide, fun L hL => ?_⟩
  have s2 : Same H4 (upd H4 L (.lst [V.int 30, V.int 10, V.int 4])) := same_new hL
  have Lc : L ≠ c := fun e => by
    obtain ⟨ys, q⟩ := C4.get
    rw [← e, hL] at q
    cases q
  refine ⟨c, l, L, _, _, rfl, by omega, C4.same s2, Lc, upd_same, by show 0 < 3; decide, by show 3 < 1000; decide, fun H5 j x hj b5 C5 => ?_⟩
  obtain ⟨mm, rfl, mm30⟩ : ∃ m : Nat, x = .int m ∧ m ≤ 30 := by
    match j, hj with
    | 0, e => cases e; exact ⟨30, rfl, by decide⟩
    | 1, e => cases e; exact ⟨10, rfl, by decide⟩
    | 2, e => cases e; exact ⟨4, rfl, by decide⟩
    | _ + 3, e => cases e
  refine ⟨c, l, n, mm, _, rfl, n1, n8, mm30, by omega, C5, fun H7 f as b7 hf0 hf hlen G7 _ C7 => ?_⟩
  have T7 := tabs_but (tabs_but (T4.ext s2) (C4.same s2) b5) C5 b7
  have fc : f ≠ c := fun e => by
    obtain ⟨ys, q⟩ := C5.get
    rw [← e, hf0] at q
    cases q
  clear hj Lc s2 hL b5 b7 C4 C5 T4 hf0
  -- the wiring
  refine ⟨_, rfl, _, rfl, fun p dx hp hdx nxd => ?_⟩
  have s8 : Same H7 (upd (upd H7 dx (.own p)) p (.ins (He.ga K "Wiring") dx [])) := same_upd (same_new hdx) hp
  refine ⟨p, dx, n, f, as, rfl, upd_same, n1, n8, s8 _ _ hf, by omega, G7.t (same_t s8), fun H9 bs W egs keep => ⟨rfl, ?_⟩⟩
  have s9 : Same H7 H9 := fun b o e => keep b o (s8 b o e) (ne_of_none e hp)
  have C9 := C7.same s9
  have T9 := T7.ext s9
  have g9 : GL H9 f as := ⟨s9 _ _ hf, by omega, fun q hq => ⟨((G7 q hq).1).same s9, (G7 q hq).2.up n8⟩⟩
  have okn : ∀ g ∈ gsOf as, Ok n g := fun g hg => by
    obtain ⟨q, hq, rfl⟩ := List.mem_map.mp hg
    exact (G7 q hq).2
  have egs : gsOf bs = gsOf as := egs
  have blen : bs.length ≤ 30 := by
    have z := congrArg List.length egs
    rw [List.length_map, List.length_map] at z
    omega
  clear keep s8 s9 C7 T7 G7 hp hdx nxd hf
  -- the rows
  refine ⟨fun x H' => ∃ (D : Addr) (xs : List Nat), x = .ref D ∧ But c H9 H' ∧ Cin H' c l (1000 * i + 1 + 1 + 1 + 500 + 6) ∧ H' D = some (.lst (natV xs)) ∧ (∀ x ∈ xs, x < 2 ^ n) ∧ xs.length ≤ 100, ⟨_, rfl, _, _, rfl, rfl, _, rfl, ifB (fun cc => ?_) fun cc => ?_⟩, ?_⟩
  · have cc : (n : Int) < 4 := of_decide_eq_true cc
    have n3 : n ≤ 3 := by omega
    have h8 : 2 ^ n ≤ 8 := Nat.pow_le_pow_right (by decide) n3
    refine ⟨_, rfl, _, _, rfl, rfl, cpow1 (by omega), _, rfl, ?_⟩
    rw [shl1]
    dsimp only
    rw [rg_nat]
    exact ⟨RgOk.of_le (by omega) (by omega) (by omega) (Int.natCast_nonneg _), fun q hq => ⟨q, List.range (2 ^ n), rfl, but_same (same_new hq), (C9.same (same_new hq)).up (by omega), upd_same, fun x hx => List.mem_range.mp hx, by rw [List.length_range]; omega⟩⟩
  · exact laps (T := 1000 * i + 1 + 1 + 1 + 500) (k := 6) C9 (by omega) n8 (by decide) fun D H' xs hD b C h1 hx hl => ⟨D, xs, rfl, b, C, h1, hx, by omega⟩
  rintro x H10 ⟨D, xs, rfl, b10, C10, hD, hxs, xlen⟩
  have W10 := wir_but W C9 b10
  have T10 := tabs_but T9 C9 b10
  have g10 := gl_fr g9 fc C9 (fr_but b10)
  clear W T9 g9 C9 b10
  dsimp only [tIfS, tOr, tTest, tOp]
  refine lc_lst (H1 := H10) rfl hD (fun _ => []) rfl (fun D2 hD2 j v H' hv hj p => ?_) (fun D2 H11 hD2 s11 e11 => ?_)
  · obtain ⟨z, hz, rfl⟩ := natV_at hv
    have hz2 := hxs z (List.mem_of_getElem? hz)
    exact ⟨rfl, _, rfl, _, rfl, _, rfl, _, f, n, bs, as, z, rfl, n8, W10.same p.1, egs, by omega, g10.same p.1, hz2, fun H' s => ⟨_, rfl, iteF (acc_no p s rfl)⟩⟩
  have C11 := C10.same s11
  have W11 := W10.same s11
  have T11 := T10.ext s11
  have g11 := g10.same s11
  refine ⟨by decide, fun e he => ?_⟩
  have s12 : Same H11 (upd H11 e (.lst [])) := same_new he
  refine ⟨_, _, .lst (.inl (.inl (s12 _ _ e11))) .nil, .lst (.inl (.inl upd_same)) .nil, by decide +kernel, by decide +kernel, _, rfl, ?_⟩
  rw [eqv_nil2]
  refine iteF ?_
  refine ⟨_, rfl, _, rfl, _, rfl, c, l, _, f, n, _, bs, as, rfl, n1, n8, by omega, C11.same s12, W11.same s12, by omega, (g11.same s12).1, fc, T11.ext s12, fun H13 fr T13 C13 => ⟨_, rfl, iteF ?_⟩⟩
  have fr : Fr c _ H13 := fr
  have W13 := wir_fr (W11.same s12) (C11.same s12) fr
  have g13 := gl_fr (g11.same s12) fc (C11.same s12) fr
  clear fr s12 he e11 hD2 s11 C11 W11 T11 g11 C10 W10 T10 g10 hD hxs xlen
  dsimp only [tNext, tSeq, tAsg]
  refine ⟨_, rfl, _, _, rfl, rfl, _, rfl, ifB (fun cc => ?_) fun cc => ?_⟩
  · -- many lamps
    have cc : (5 : Int) < n := of_decide_eq_true cc
    have n64 : 64 ≤ 2 ^ n := Nat.pow_le_pow_right (n := 2) (by decide) (show 6 ≤ n by omega)
    refine ⟨_, rfl, _, rfl, .inl ⟨_, n, bs, rfl, n1, n8, W13, fun H14 tq s14 TA => ?_⟩⟩
    rw [egs] at TA
    have C14 := C13.same s14
    have T14 := T13.ext s14
    have g14 := g13.same s14
    clear C13 T13 W13 g13 s14
    refine tcons_op ?_
    refine laps (T := 1000 * i + 1 + 1 + 1 + 500 + 6 + 2) (k := 8) C14 (by omega) n8 (by decide) fun D H15 xs hD b15 C15 h15 hx hl => ?_
    have T15 := tabs_but T14 C14 b15
    have g15 := gl_fr g14 fc C14 (fr_but b15)
    have TA := tab_but TA C14 b15
    clear C14 T14 g14 b15 hD
    refine ⟨_, rfl, _, _, rfl, rfl, cpow1 (by omega), _, _, rfl, rfl, by show 1 ≤ sizeLine; decide, fun e he => ?_⟩
    rw [shl1]
    dsimp only
    rw [show ((2 ^ n : Nat) : Int) - 2 = ((2 ^ n - 2 : Nat) : Int) from by omega]
    have s16 : Same H15 (upd H15 e (.lst [V.int ((2 ^ n - 2 : Nat) : Int)])) := same_new he
    refine catS (s16 _ _ h15) upd_same (by rw [natV_len]; show xs.length + 1 ≤ 1000; omega) fun H17 R s17 hR => ?_
    refine ⟨by show 2 ≤ sizeLine; decide, fun tp htp => ⟨tp, _, rfl, .inl (.inl upd_same), rfl, _, _, rfl, _, _, rfl, rfl, ?_⟩⟩
    have s18 : Same H15 (upd H17 tp (.tup [V.ref tq, V.ref R])) := s16.trans (s17.trans (same_new htp))
    have hR : (upd H17 tp (.tup [V.ref tq, V.ref R])) R = some (.lst (natV (xs ++ [2 ^ n - 2]))) := (same_new htp : Same H17 _) _ _ (by rw [hR, natV_app]; rfl)
    generalize upd H17 tp (.tup [V.ref tq, V.ref R]) = H18 at s18 hR ⊢
    have C18 := C15.same s18
    have T18 := T15.ext s18
    have g18 := g15.same s18
    have TA := TA.same s18
    clear C15 T15 g15 s18 s17 s16 he h15 htp
    obtain ⟨dx, tg, h1, h2⟩ := TA
    dsimp only [tIfS, tOr, tTest, tOp, gName, tNext]
    refine ⟨_, rfl, tq, _, dx, _, _, rfl, h1, T.c_Table, T.no_Table_lamps, tabF_lamps n tg, _, rfl, rfl, _, rfl, ?_⟩
    rw [decide_eq_true rfl]
    refine iteF ?_
    refine lc_lst (H1 := H18) rfl hR (fun _ => []) rfl (fun D2 hD2 j v H' hv hj p => ?_) (fun D2 H19 hD2 s19 e19 => ?_)
    · obtain ⟨z, hz, rfl⟩ := natV_at hv
      have hz2 : z < 2 ^ n := by
        rcases List.mem_append.mp (List.mem_of_getElem? hz) with h | h
        · exact hx z h
        · rw [List.mem_singleton.mp h]
          omega
      have hg : (natV (goalsN n (gsOf as)))[z]? = some (V.int ((runN (gsOf as) z : Nat) : Int)) := natV_get (by rw [List.getElem?_map, List.getElem?_range hz2]; rfl)
      refine ⟨rfl, _, rfl, tq, _, dx, _, _, rfl, p.1 _ _ h1, T.c_Table, T.no_Table_goals, tabF_goals n tg, _, rfl, .inr (.inl ⟨tg, _, _, _, rfl, rfl, .inl (.inl (p.1 _ _ h2)), atI_nat hg, _, rfl, _, rfl, f, as, z, rfl, g18.same p.1, by omega, fun H' q s hq0 hq => ?_⟩)⟩
      refine ⟨_, rfl, .inl ⟨q, _, -1, _, rfl, rfl, .inl (.inl hq), film_lastV _ _, rfl, _, rfl, ?_⟩⟩
      rw [decide_eq_true rfl]
      exact iteF (acc_no p s rfl)
    · refine ⟨by decide, fun e he => ?_⟩
      have s20 : Same H19 (upd H19 e (.lst [])) := same_new he
      refine ⟨_, _, .lst (.inl (.inl (s20 _ _ e19))) .nil, .lst (.inl (.inl upd_same)) .nil, by decide +kernel, by decide +kernel, _, rfl, ?_⟩
      rw [eqv_nil2]
      refine iteF ?_
      exact ⟨_, _, _, _, _, _, _, _, _, _, rfl, (C18.same (s19.trans s20)).up (by omega), T18.ext (s19.trans s20)⟩
  · -- few lamps
    have cc : ¬ (5 : Int) < n := of_decide_eq_false cc
    have n5 : n ≤ 5 := by omega
    have n32 : 2 ^ n ≤ 32 := Nat.pow_le_pow_right (n := 2) (by decide) n5
    refine ⟨_, rfl, _, rfl, .inl ⟨_, n, bs, rfl, n1, n8, W13, fun H14 tq s14 TA => ?_⟩⟩
    rw [egs] at TA
    refine ⟨_, rfl, _, rfl, f, as, n, rfl, g13.same s14, n8, fun H15 td s15 htd => ?_⟩
    refine ⟨by show 2 ≤ sizeLine; decide, fun tp htp => ⟨tp, _, rfl, .inl (.inl upd_same), rfl, _, _, rfl, _, _, rfl, rfl, ?_⟩⟩
    have s16 : Same H15 (upd H15 tp (.tup [V.ref tq, V.ref td])) := same_new htp
    generalize upd H15 tp (.tup [V.ref tq, V.ref td]) = H16 at s16 ⊢
    have s146 := s15.trans s16
    have s136 := s14.trans s146
    have TA := TA.same s146
    have htd := s16 _ _ htd
    have C16 := C13.same s136
    have W16 := W13.same s136
    have T16 := T13.ext s136
    clear C13 T13 W13 g13 s14 s15 s16 s146 s136 htp
    have TA2 := TA
    obtain ⟨dx, tg, h1, h2⟩ := TA
    have few : Few (goalsN n (gsOf as)) := ⟨by rw [List.length_map, List.length_range]; omega, fun x hx => by
      obtain ⟨r, hr0, rfl⟩ := List.mem_map.mp hx
      have := run_lt okn (List.mem_range.mp hr0)
      omega⟩
    have sho : ShowOk (Kl.D2 n (goalsN n (gsOf as))) := show2 (by omega) few
    refine ⟨_, rfl, _, _, _, _, true, rfl, .own _, isi_own T (x := "Table") (by decide) T.c_Table h1, T.kc ("Table", "Table", true) (by decide), true, rfl, iteF ?_⟩
    refine ⟨_, rfl, tq, _, dx, _, _, rfl, h1, T.c_Table, T.no_Table_lamps, tabF_lamps n tg, _, rfl, tq, _, dx, _, _, rfl, h1, T.c_Table, T.no_Table_goals, tabF_goals n tg, by show 2 ≤ sizeLine; decide, fun L hL => ?_⟩
    have s17 : Same H16 (upd H16 L (.lst [V.int (n : Nat), .ref tg])) := same_new hL
    refine ⟨L, _, rfl, dp2 upd_same (s17 _ _ h2), sho.sh, sho.nd, sho.dp, sho.ln, ?_⟩
    refine ⟨_, rfl, _, rfl, by show 2 ≤ sizeLine; decide, fun L2 hL2 => ?_⟩
    have s18 : Same (upd H16 L (.lst [V.int (n : Nat), .ref tg])) (upd (upd H16 L (.lst [V.int (n : Nat), .ref tg])) L2 (.lst [V.int (n : Nat), .ref td])) := same_new hL2
    refine ⟨L2, _, rfl, dp2 upd_same (s18 _ _ (s17 _ _ htd)), sho.sh, sho.nd, sho.dp, sho.ln, rfl, _, rfl, ?_⟩
    rw [decide_eq_true rfl]
    refine iteF ?_
    have s1618 := s17.trans s18
    generalize upd (upd H16 L (.lst [V.int (n : Nat), .ref tg])) L2 (.lst [V.int (n : Nat), .ref td]) = H18 at s1618 ⊢
    clear s17 s18 hL hL2
    refine ⟨_, rfl, _, rfl, .inl ⟨_, n, bs, rfl, n1, n8, W16.same s1618, fun H19 tr s19 TA3 => ?_⟩⟩
    rw [egs] at TA3
    have s1619 := s1618.trans s19
    refine ⟨_, rfl, _, rfl, fun y dy hy hdy nyd => ?_⟩
    have s20 : Same H19 (upd (upd H19 dy (.own y)) y (.ins (He.ga K "Table") dy [])) := same_upd (same_new hdy) hy
    refine ⟨y, dy, n, td, goalsN n (gsOf as), rfl, upd_same, n1, n8, .inr (s20 _ _ (s1619 _ _ htd)), goals_ok okn n8, fun H21 TB2 keep => ⟨rfl, ?_⟩⟩
    have s21 : Same H19 H21 := fun b o e => keep b o (s20 b o e) (ne_of_none e hy)
    have TA4 := TA3.same s21
    obtain ⟨dr, tt, k1, k2⟩ := id TA4
    obtain ⟨dy', tt', k3, k4⟩ := id TB2
    refine ⟨tr, y, dr, dy', _, _, rfl, rfl, k1, k3, ⟨tr, y, n, _, rfl, TA4, TB2, true, rfl, _, rfl, iteF ?_⟩⟩
    have sz := s1619.trans s21
    exact ⟨_, _, _, _, _, _, _, _, _, _, rfl, (C16.same sz).up (by omega), T16.ext sz⟩
end
end Kl
set_option maxHeartbeats 4000000
/-! ## The end -/
namespace Kl
open PySem PySem.Spec PyProof.Rows L2 LamX
/-- the law, asked once at the caller -/
theorem law_says {w : World} {K : PySem.W.Frag} {mg mb : Str → Option Value} {fa a : Addr} {s₁ : Shared} {vs : List Value} {ns : List Int} (KX : K.In s₁.heap) (c : SaysM s₁.heap K) (hns : s₁.heap.Ns mainGlobals mg) (hb : s₁.heap.Ns builtinsNs mb) (hbb : ∀ x : Str, x ≠ "__name__" → mb x = bootBuiltins x) (hlim : s₁.heap.NoLimit) (hg : s₁.gens = #[])
    (hbm : ∃ (bm : Addr) (ob : Obj), mg "__builtins__" = some (.ref bm) ∧ bm ≠ builtinsNs ∧ s₁.heap.get? bm = some ob ∧ ob.cls = .type "module" ∧ ob.dict = some builtinsNs ∧ ob.data = .plain) (hmg : mg "law" = some (.ref fa))
    (ha : s₁.heap.get? a = some { cls := .type "list", data := .seq vs.toArray }) (hi : IntsAre vs ns) (hl : ns.length ≤ 63) :
    codeAny (model PR w) callerA (.call (.ref fa) ⟨[.ref a], []⟩) (fun r s' => r = .ok (.ret (.bool true)) ∧ OldK s₁.heap s'.heap ∧ s'.os = s₁.os ∧ AllBare s'.gens) s₁ := by
  have T := tx_of KX hns c
  have efa : fa = He.ga K "law" := by
    have z := hmg.symm.trans T.g_law
    cases z
    rfl
  subst efa
  have hm : (He.cT K ("_law_refused_right", none)) ∈ tf.map (He.cT K) := List.mem_map.mpr ⟨_, List.mem_singleton.mpr rfl, rfl⟩
  have each : ∀ {P : Addr × Addr → Prop}, (∀ p ∈ tf, P (He.cT K p)) → ∀ p ∈ tf.map (He.cT K), P p := fun h p hp => by
    obtain ⟨q, hq, rfl⟩ := List.mem_map.mp hp
    exact h q hq
  refine law_callG (cs := tf.map (He.cT K)) KX hns hb hbb hlim hg (each c.empty) (each c.out) (each fun p hp => PySem.W.codeHd_of_K KX (c.hd p hp)) hbm ha hi (Nat.le_trans hl (by show 63 ≤ sizeLine; decide)) fun base H hK hG TB e0 hH hS => ?_
  have Tb := tx_of hK hG c
  obtain ⟨fd, hbd, run⟩ := (g_law (w := w) (base := base) Tb (TB _ hm)).bd
  refine run callerA [] s₁ H ⟨[.ref a], []⟩ [.ref a] [.ref a] _ _ guards0 ⟨rfl, by decide, by decide⟩ e0 ?_ (.cons rfl .nil) ⟨a, ns, rfl, hS, by omega, fun p hp => ?_, fun _ => rfl⟩
  · have b := hbd s₁ [.ref a] KX rfl
    rwa [List.append_nil] at b
  · rw [List.mem_singleton.mp hp]
    exact TabS.nil (hH _ hm)
end Kl
open PySem PySem.W PySem.Calls PyProof.Rows
theorem PySem.Challenge.cw_keptlamps_k20_whole_rows_run_and_filmed_holds : PySem.Challenge.rw_keptlamps_k20_whole_rows_run_and_filmed.Holds := by
  w_on; o_law
  refine HandSHeadRun.head_any (r := Kl.RR) (q := view Kl.RR.prog [67]) (H := Kl.hk) (ob := Kl.ob) (M := 8000) (loose := Kl.names) (d := HandSHeadRun.topDef Kl.RR.prog 67) (kwd := []) Kl.ob_eq
    (by kernel_rfl) (fun s => by kernel_rfl) Kl.run (by kernel_rfl) (by kernel_rfl) (by kernel_rfl) (by rfl) (by first | assumption | decide +kernel) (by decide +kernel) ⟨rfl, rfl, rfl, rfl, rfl, by decide +kernel⟩ ?hw ?hc
  case hw => w_witness2
  case hc =>
    refine Att.attach_callB (l := PySem.Challenge.rw_keptlamps_k20_whole_rows_run_and_filmed) (n := 63) rfl (by kernel_rfl) fun w s₀ s₁ mg mb fa o pm cd doc a vs ns G Y ho hd hcd hmg0 hobj hints hlen hbits hg => ?_
    obtain ⟨K, KX, c⟩ := Y
    have hmg : mg ("law" : PySem.Str) = some (.ref fa) := by
      have e : (HandSHeadRun.topDef Kl.RR.prog 67).name = ("law" : PySem.Str) := by kernel_rfl
      rw [← e]
      exact hmg0
    exact Kl.law_says KX c G.T.g G.T.b G.T.builtins G.T.nolimit hg G.T.bmain hmg hobj hints hlen
