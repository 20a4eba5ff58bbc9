import PyProof.Rows.All
import Wide.All
import OpenK.AllK
import Wide.FinOn
import Lean
import HandS.Base
import HandS.Call
import HandS.List
import HandS.Comp
import HandS.Dict
import HandS.Iter
import HandS.Text
import HandS.Ends
import HandS.More
import HandS.Exc
import HandS.ExcOwn
import HandS.TryOnly
import HandS.CallSlots
import HandS.ExcIs
import HandS.IsInst
import HandS.Style
import HandS.Conv
import HandS.Walk
import HandS.Wide
import HandS.SortInts
import HandS.Sort
import HandS.SortRule
import HandS.Strs
import HandS.Words
import HandS.WordsExc
import HandS.Defaults
import HandS.Flow
import HandS.NoneIn
import HandS.Head0
import HandS.Head1
import HandS.Head2
import HandS.HeadEnd
import HandS.HeadHook1
import HandS.HeadHook2
import HandS.Lambda
import KE.DataMinMax
import KE.SortData
import HandS.Zip
import HandS.SetFor
import HandS.HotCalls
import HandS.HeadHook4
import HandS.HeadWalk
import HandS.NestedK
import HandS.TupAny
import HandS.OwnEq
import HandS.NamedTupGet
import PyProof.AutoIntG7
import PyProof.TwoTypesSub
import PyProof.InstEq
import HandS.NamedTupSort
import PySem.Challenge.RW_scrolledlists_k60_moving
set_option Elab.async false
set_option linter.all false
set_option maxRecDepth 100000
set_option maxHeartbeats 2000000
namespace Pg
open PySem PySem.Spec PyProof.Rows L2
abbrev Fr := PySem.W.Frag
def excCB (K : Fr) (x : Str) : Bool :=
  decide (PySem.W.findIn K (.ref (He.ga K x)) "__getattribute__" = some (some (.builtin "BaseException.__getattribute__"))) && (decide (PySem.W.findIn K (.ref (He.ga K x)) "__getattr__" = some none) && (decide (PySem.W.subIn K (.ref (He.ga K x)) (.type "BaseException") = some true) &&
    (PySem.W.hasDictIn K (He.ga K x) && (decide (PySem.W.findIn K (.ref (He.ga K x)) "__class__" = some (some (.builtin "object.__class__"))) && (decide (PySem.W.specialIn K (.builtin "object.__class__") "__get__" = some (some (.builtin "getset_descriptor.__get__"))) &&
      (decide (PySem.W.takesIn K (.builtin "object.__class__") = some true) && decide (PySem.W.mroIn K (He.ga K x) (.type "object") = some true)))))))
def isaB (K : Fr) (x y : Str) (b : Bool) : Bool := decide (PySem.W.kitOne K (.ref (He.ga K x)) (.ref (He.ga K y)) = some b)
def exmB (K : Fr) (x y : Str) (b : Bool) : Bool := decide (PySem.W.exmOne K (.ref (He.ga K x)) (.ref (He.ga K y)) = some b)
def nthS (ss : List Stmt) (i : Nat) : Stmt := ss.getD i (.Pass ⟨0, 0, 0, 0⟩)
def isaVB (K : Fr) (x : Str) (T : String) (b : Bool) : Bool := decide (PySem.W.kitOne K (.ref (He.ga K x)) (.type T) = some b)
def apartB (K : Fr) (tf : List He.Defn) : Bool := tf.all fun p => tf.all fun q => !decide ((He.cT K p).2 = (He.cT K q).2) || decide (p.1 = q.1)
def cBody : Stmt → List Stmt
  | .ClassDef _ _ _ b _ _ _ _ _ _ _ => b
  | _ => []
def objB (K : Fr) (C : Str) : Bool :=
  decide (PySem.W.findIn K (.ref (He.ga K C)) "__class__" = some (some (.builtin "object.__class__"))) && (decide (PySem.W.specialIn K (.builtin "object.__class__") "__get__" = some (some (.builtin "getset_descriptor.__get__"))) && (decide (PySem.W.takesIn K (.builtin "object.__class__") = some true) &&
    (decide (PySem.W.mroIn K (He.ga K C) (.type "object") = some true) && (decide (PySem.W.kitOne K (.ref (He.ga K C)) (.ref (He.ga K C)) = some true) && (decide (PySem.W.kitOne K (.type "tuple") (.ref (He.ga K C)) = some false) &&
      (decide (PySem.W.subIn K (.type "tuple") (.ref (He.ga K C)) = some false) && decide (PySem.W.findIn K (.ref (He.ga K C)) "__ne__" = some (some (.builtin "object.__ne__")))))))))
end Pg
namespace Law
open PySem PySem.Spec PyProof.Rows L2 Pg
def top (i : Nat) : Stmt := PySem.Challenge.pw_scrolledlists_k60_moving.main.body.getD i (.Pass ⟨0, 0, 0, 0⟩)
def excs : List PySem.Str := ["InvalidView", "InvalidStep", "InvalidRow", "DifferentSteps", "InvalidNumber", "InvalidSize", "InvalidCells", "InvalidCell", "InvalidChange", "NothingToUndo", "ParseError"]
def exm_ScrollError (c : PySem.Str) : Option Bool := if c ∈ excs then some true else none
def isa_DifferentSteps (c : PySem.Str) : Bool := c == "DifferentSteps"
def isa_InvalidCell (c : PySem.Str) : Bool := c == "InvalidCell"
def isa_InvalidCells (c : PySem.Str) : Bool := c == "InvalidCells"
def isa_InvalidChange (c : PySem.Str) : Bool := c == "InvalidChange"
def isa_InvalidNumber (c : PySem.Str) : Bool := c == "InvalidNumber"
def isa_InvalidRow (c : PySem.Str) : Bool := c == "InvalidRow"
def isa_InvalidSize (c : PySem.Str) : Bool := c == "InvalidSize"
def isa_InvalidStep (c : PySem.Str) : Bool := c == "InvalidStep"
def isa_InvalidView (c : PySem.Str) : Bool := c == "InvalidView"
def isa_NothingToUndo (c : PySem.Str) : Bool := c == "NothingToUndo"
def isa_ParseError (c : PySem.Str) : Bool := c == "ParseError"
abbrev s_is_int : Stmt := top 21
abbrev s_is_view : Stmt := top 22
abbrev s_check_view : Stmt := top 23
abbrev s_check_step : Stmt := top 24
abbrev s_check_row : Stmt := top 25
abbrev s_rest_of : Stmt := top 26
abbrev s_rounded : Stmt := top 27
abbrev s_find_first : Stmt := top 28
abbrev s_find_changed : Stmt := top 33
abbrev s_has_change : Stmt := top 34
abbrev s_check_change : Stmt := top 35
abbrev s_find_kept : Stmt := top 36
abbrev s_check_size : Stmt := top 39
abbrev s_bounded : Stmt := top 40
abbrev s_ScrolledView_view : Stmt := nthS (cBody (top 42)) 1
abbrev s_ScrolledView_first : Stmt := nthS (cBody (top 42)) 2
abbrev s_ScrolledView_seen : Stmt := nthS (cBody (top 42)) 3
abbrev s_ScrolledView_move : Stmt := nthS (cBody (top 42)) 4
abbrev s_ScrolledView_go : Stmt := nthS (cBody (top 42)) 5
abbrev s_ScrolledView_turn : Stmt := nthS (cBody (top 42)) 6
abbrev s_ScrolledView_show : Stmt := nthS (cBody (top 42)) 7
abbrev s_ScrolledView_change : Stmt := nthS (cBody (top 42)) 8
abbrev s_ScrolledView_undo : Stmt := nthS (cBody (top 42)) 9
abbrev s_ScrolledView_redo : Stmt := nthS (cBody (top 42)) 10
abbrev s_ScrolledView_copy : Stmt := nthS (cBody (top 42)) 11
abbrev s_ScrolledView___eq__ : Stmt := nthS (cBody (top 42)) 12
abbrev s_ScrolledView___len__ : Stmt := nthS (cBody (top 42)) 13
abbrev s__law_round : Stmt := top 44
abbrev s__law_firsts : Stmt := top 45
abbrev s__law_pick : Stmt := top 46
abbrev s__law_some : Stmt := top 47
abbrev s__law_class : Stmt := top 48
abbrev s__law_result : Stmt := top 49
abbrev s__law_next : Stmt := top 50
abbrev s__law_calls : Stmt := top 51
abbrev s_law : Stmt := top 52
abbrev s_ScrolledView : Stmt := nthS (cBody (top 42)) 0
def fa : List He.Fa := ([.free "len", .free "range", .free "min", .free "max", .free "abs", .free "isinstance", .free "int", .free "bool", .free "str", .free "tuple", .free "list", .free "sum", .free "sorted", .free "any", .free "all", .free "zip", .free "enumerate", .free "set", .free "ValueError", .int "MAX_ROWS" 99, .int "MAX_HEIGHT" 30, .int "MAX_STEPS" 60, .int "MAX_COUNT" 30, .int "MAX_TURNS" 99, .str "DOWN" "down", .str "NEAR" "near", .str "UP" "up", .str "INSERT" "insert", .str "REMOVE" "remove", .glo "RULES"]
  ++ [.glo "ScrollError", .exc "ScrollError", .glo "InvalidView", .exc "InvalidView", .glo "InvalidStep", .exc "InvalidStep", .glo "InvalidRow", .exc "InvalidRow", .glo "DifferentSteps", .exc "DifferentSteps", .glo "InvalidNumber", .exc "InvalidNumber", .glo "InvalidSize", .exc "InvalidSize", .glo "InvalidCells", .exc "InvalidCells", .glo "InvalidCell", .exc "InvalidCell", .glo "InvalidChange", .exc "InvalidChange", .glo "NothingToUndo", .exc "NothingToUndo", .glo "ParseError", .exc "ParseError", .glo "ScrolledView", .cls "ScrolledView", .mkr "ScrolledView", .noat "ScrolledView" "state", .noat "ScrolledView" "earlier", .noat "ScrolledView" "later"]
  ++ [.meth "ScrolledView" "view", .meth "ScrolledView" "first", .meth "ScrolledView" "seen", .meth "ScrolledView" "move", .meth "ScrolledView" "go", .meth "ScrolledView" "turn", .meth "ScrolledView" "show", .meth "ScrolledView" "change", .meth "ScrolledView" "undo", .meth "ScrolledView" "redo", .meth "ScrolledView" "copy", .meth "ScrolledView" "__eq__", .meth "ScrolledView" "__len__", .glo "is_int", .glo "is_view", .glo "check_view", .glo "check_step", .glo "check_row", .glo "rest_of", .glo "rounded", .glo "find_first", .glo "find_changed", .glo "has_change", .glo "check_change", .glo "find_kept", .glo "check_size", .glo "bounded", .glo "_law_round", .glo "_law_firsts", .glo "_law_pick"]
  ++ [.glo "_law_some", .glo "_law_class", .glo "_law_result", .glo "_law_next", .glo "_law_calls", .glo "law"] : List He.Fa)
def d_is_int : He.DefD := ⟨("is_int", none), "is_int", "is_int", defArgs s_is_int, defBody s_is_int, defScope s_is_int, [], []⟩
def d_is_view : He.DefD := ⟨("is_view", none), "is_view", "is_view", defArgs s_is_view, defBody s_is_view, defScope s_is_view, [], []⟩
def d_check_view : He.DefD := ⟨("check_view", none), "check_view", "check_view", defArgs s_check_view, defBody s_check_view, defScope s_check_view, [], []⟩
def d_check_step : He.DefD := ⟨("check_step", none), "check_step", "check_step", defArgs s_check_step, defBody s_check_step, defScope s_check_step, [], []⟩
def d_check_row : He.DefD := ⟨("check_row", none), "check_row", "check_row", defArgs s_check_row, defBody s_check_row, defScope s_check_row, [], []⟩
def d_rest_of : He.DefD := ⟨("rest_of", none), "rest_of", "rest_of", defArgs s_rest_of, defBody s_rest_of, defScope s_rest_of, [], []⟩
def d_rounded : He.DefD := ⟨("rounded", none), "rounded", "rounded", defArgs s_rounded, defBody s_rounded, defScope s_rounded, [], []⟩
def d_find_first : He.DefD := ⟨("find_first", none), "find_first", "find_first", defArgs s_find_first, defBody s_find_first, defScope s_find_first, [], []⟩
def d_find_changed : He.DefD := ⟨("find_changed", none), "find_changed", "find_changed", defArgs s_find_changed, defBody s_find_changed, defScope s_find_changed, [], []⟩
def d_has_change : He.DefD := ⟨("has_change", none), "has_change", "has_change", defArgs s_has_change, defBody s_has_change, defScope s_has_change, [], []⟩
def d_check_change : He.DefD := ⟨("check_change", none), "check_change", "check_change", defArgs s_check_change, defBody s_check_change, defScope s_check_change, [], []⟩
def d_find_kept : He.DefD := ⟨("find_kept", none), "find_kept", "find_kept", defArgs s_find_kept, defBody s_find_kept, defScope s_find_kept, [], []⟩
def d_check_size : He.DefD := ⟨("check_size", none), "check_size", "check_size", defArgs s_check_size, defBody s_check_size, defScope s_check_size, [], []⟩
def d_bounded : He.DefD := ⟨("bounded", none), "bounded", "bounded", defArgs s_bounded, defBody s_bounded, defScope s_bounded, [], []⟩
def d_ScrolledView : He.DefD := ⟨("ScrolledView", some "__init__"), "__init__", "ScrolledView.__init__", defArgs s_ScrolledView, defBody s_ScrolledView, defScope s_ScrolledView, [], []⟩
def d_ScrolledView_view : He.DefD := ⟨("ScrolledView", some "view"), "view", "ScrolledView.view", defArgs s_ScrolledView_view, defBody s_ScrolledView_view, defScope s_ScrolledView_view, [], []⟩
def d_ScrolledView_first : He.DefD := ⟨("ScrolledView", some "first"), "first", "ScrolledView.first", defArgs s_ScrolledView_first, defBody s_ScrolledView_first, defScope s_ScrolledView_first, [], []⟩
def d_ScrolledView_seen : He.DefD := ⟨("ScrolledView", some "seen"), "seen", "ScrolledView.seen", defArgs s_ScrolledView_seen, defBody s_ScrolledView_seen, defScope s_ScrolledView_seen, [], []⟩
def d_ScrolledView_move : He.DefD := ⟨("ScrolledView", some "move"), "move", "ScrolledView.move", defArgs s_ScrolledView_move, defBody s_ScrolledView_move, defScope s_ScrolledView_move, [], []⟩
def d_ScrolledView_go : He.DefD := ⟨("ScrolledView", some "go"), "go", "ScrolledView.go", defArgs s_ScrolledView_go, defBody s_ScrolledView_go, defScope s_ScrolledView_go, [], []⟩
def d_ScrolledView_turn : He.DefD := ⟨("ScrolledView", some "turn"), "turn", "ScrolledView.turn", defArgs s_ScrolledView_turn, defBody s_ScrolledView_turn, defScope s_ScrolledView_turn, [], []⟩
def d_ScrolledView_show : He.DefD := ⟨("ScrolledView", some "show"), "show", "ScrolledView.show", defArgs s_ScrolledView_show, defBody s_ScrolledView_show, defScope s_ScrolledView_show, [], []⟩
def d_ScrolledView_change : He.DefD := ⟨("ScrolledView", some "change"), "change", "ScrolledView.change", defArgs s_ScrolledView_change, defBody s_ScrolledView_change, defScope s_ScrolledView_change, [], []⟩
def d_ScrolledView_undo : He.DefD := ⟨("ScrolledView", some "undo"), "undo", "ScrolledView.undo", defArgs s_ScrolledView_undo, defBody s_ScrolledView_undo, defScope s_ScrolledView_undo, [], []⟩
def d_ScrolledView_redo : He.DefD := ⟨("ScrolledView", some "redo"), "redo", "ScrolledView.redo", defArgs s_ScrolledView_redo, defBody s_ScrolledView_redo, defScope s_ScrolledView_redo, [], []⟩
def d_ScrolledView_copy : He.DefD := ⟨("ScrolledView", some "copy"), "copy", "ScrolledView.copy", defArgs s_ScrolledView_copy, defBody s_ScrolledView_copy, defScope s_ScrolledView_copy, [], []⟩
def d_ScrolledView___eq__ : He.DefD := ⟨("ScrolledView", some "__eq__"), "__eq__", "ScrolledView.__eq__", defArgs s_ScrolledView___eq__, defBody s_ScrolledView___eq__, defScope s_ScrolledView___eq__, [], []⟩
def d_ScrolledView___len__ : He.DefD := ⟨("ScrolledView", some "__len__"), "__len__", "ScrolledView.__len__", defArgs s_ScrolledView___len__, defBody s_ScrolledView___len__, defScope s_ScrolledView___len__, [], []⟩
def d__law_round : He.DefD := ⟨("_law_round", none), "_law_round", "_law_round", defArgs s__law_round, defBody s__law_round, defScope s__law_round, [], []⟩
def d__law_firsts : He.DefD := ⟨("_law_firsts", none), "_law_firsts", "_law_firsts", defArgs s__law_firsts, defBody s__law_firsts, defScope s__law_firsts, [], []⟩
def d__law_pick : He.DefD := ⟨("_law_pick", none), "_law_pick", "_law_pick", defArgs s__law_pick, defBody s__law_pick, defScope s__law_pick, [], []⟩
def d__law_some : He.DefD := ⟨("_law_some", none), "_law_some", "_law_some", defArgs s__law_some, defBody s__law_some, defScope s__law_some, [], []⟩
def d__law_class : He.DefD := ⟨("_law_class", none), "_law_class", "_law_class", defArgs s__law_class, defBody s__law_class, defScope s__law_class, [], []⟩
def d__law_result : He.DefD := ⟨("_law_result", none), "_law_result", "_law_result", defArgs s__law_result, defBody s__law_result, defScope s__law_result, [], []⟩
def d__law_next : He.DefD := ⟨("_law_next", none), "_law_next", "_law_next", defArgs s__law_next, defBody s__law_next, defScope s__law_next, [], []⟩
def d__law_calls : He.DefD := ⟨("_law_calls", none), "_law_calls", "_law_calls", defArgs s__law_calls, defBody s__law_calls, defScope s__law_calls, [], []⟩
def d_law : He.DefD := ⟨("law", none), "law", "law", defArgs s_law, defBody s_law, defScope s_law, [], []⟩
def fn : List He.DefD := ([d_is_int, d_is_view, d_check_view, d_check_step, d_check_row, d_rest_of, d_rounded, d_find_first, d_find_changed, d_has_change, d_check_change, d_find_kept, d_check_size, d_bounded, d_ScrolledView, d_ScrolledView_view, d_ScrolledView_first, d_ScrolledView_seen, d_ScrolledView_move, d_ScrolledView_go, d_ScrolledView_turn, d_ScrolledView_show, d_ScrolledView_change, d_ScrolledView_undo, d_ScrolledView_redo, d_ScrolledView_copy, d_ScrolledView___eq__, d_ScrolledView___len__, d__law_round, d__law_firsts]
  ++ [d__law_pick, d__law_some, d__law_class, d__law_result, d__law_next, d__law_calls, d_law] : List He.DefD)
def tf : List He.Defn := [("_law_calls", none)]
def ex (K : Fr) : Bool := apartB K tf && (objB K "ScrolledView" && ((He.tupB K "RULES" [.str "down", .str "near", .str "up"]) && (excs.all fun c => excCB K c && exmB K c "ScrollError" true && isaB K c "DifferentSteps" (isa_DifferentSteps c) && isaB K c "InvalidCell" (isa_InvalidCell c) && isaB K c "InvalidCells" (isa_InvalidCells c) && isaB K c "InvalidChange" (isa_InvalidChange c) && isaB K c "InvalidNumber" (isa_InvalidNumber c) && isaB K c "InvalidRow" (isa_InvalidRow c) && isaB K c "InvalidSize" (isa_InvalidSize c) && isaB K c "InvalidStep" (isa_InvalidStep c) && isaB K c "InvalidView" (isa_InvalidView c) && isaB K c "NothingToUndo" (isa_NothingToUndo c) && isaB K c "ParseError" (isa_ParseError c) && isaVB K c "ValueError" true)))
abbrev Rw0 : PySem.W.OpenRow := PySem.W.OpenLaw.row PySem.Challenge.rw_scrolledlists_k60_moving
abbrev hk : PySem.W.Hook := He.hookX 4 fa fn [] tf ex
def ob (s : PySem.W.SharedT) : He.AlX := He.obsX 4 fa fn [] tf ex (HandSHeadRun.getT s)
theorem ob_eq (s : PySem.W.SharedT) : ob s = hk.obs s.abs := He.obsX_eq (HandSHeadRun.getT_eq s)
def loose : List PySem.Str := (["ScrollError", "InvalidView", "InvalidStep", "InvalidRow", "DifferentSteps", "InvalidNumber", "InvalidSize", "InvalidCells", "InvalidCell", "InvalidChange", "NothingToUndo", "ParseError", "MAX_ROWS", "MAX_HEIGHT", "MAX_STEPS", "DOWN", "NEAR", "UP", "RULES", "is_int", "is_view", "check_view", "check_step", "check_row", "rest_of", "rounded", "find_first", "INSERT", "REMOVE", "MAX_COUNT"] : List PySem.Str)
  ++ (["find_changed", "has_change", "check_change", "find_kept", "MAX_TURNS", "check_size", "bounded", "ScrolledView", "_law_round", "_law_firsts", "_law_pick", "_law_some", "_law_class", "_law_result", "_law_next", "_law_calls"] : List PySem.Str)
set_option maxHeartbeats 0 in
theorem run (w : World) : HandSHeadRun.RunEq Rw0 (PySem.W.view Rw0.prog [52]) hk ob 20000 loose w := by
  intro os
  kernel_rfl
end Law
/-! A pure reading of a Python text: what each piece of syntax gives, as a Lean function over plain data. -/
namespace Pg
open PySem PySem.Spec PyProof.Rows L2

/-- a lambda of the text -/
structure LamCode where
  id : Nat
  /-- where the captured names stand in the maker's store -/
  ix : List Nat
  qual : PySem.Str
  params : Arguments
  body : Expr
  scope : Scope
/-- the names that it captures -/
def LamCode.caps (lc : LamCode) : List PySem.Str := lc.scope.names.filterMap fun y => match y.2 with
  | .free => some y.1
  | _ => none
/-- a function object of that text -/
def LamO (f : Addr) (lc : LamCode) (cl : List (PySem.Str × Addr)) (c : Addr) : HO := .ext fun h => ∃ pm ctv : Value, h.get? f = some (PySem.W.kla_obj "<lambda>" lc.qual lc.params lc.body lc.scope cl pm c ctv)
/-- the object at c, exactly -/
def CellX (c : Addr) (o : Obj) : HO := .ext fun h => h.get? c = some o
def dkV (kvs : List (Int × Int)) : List (Key × V) := kvs.map fun p => (.inl p.1, .int p.2)
inductive D where
  | non
  | bl (b : Bool)
  | int (i : Int)
  | str (s : PySem.Str)
  | tup (xs : List D)
  | lst (xs : List D)
  | scr (ns : List Int)
  | adr (a : Addr)
  | fn (x : PySem.Str)
  /-- a dict of ints by ints; true: it is locked -/
  | dic (lk : Bool) (kvs : List (Int × Int))
  /-- a lambda without parameters; what it captures -/
  | thk (lc : LamCode) (cap : List D)
  /-- an instance that nobody changes: its class, its attributes -/
  | obj (C : PySem.Str) (ns : List PySem.Str) (ds : List D)
instance : Inhabited D := ⟨.non⟩

/-! ### heaps -/
def Ex (H H' : Hp) : Prop := ∀ a o, H a = some o → H' a = some o
theorem Ex.refl (H : Hp) : Ex H H := fun _ _ h => h
theorem Ex.trans {H H1 H2 : Hp} (a : Ex H H1) (b : Ex H1 H2) : Ex H H2 := fun x o h => b x o (a x o h)
theorem Ex.new {H : Hp} {p : Addr} {o : HO} (h : H p = none) : Ex H (upd H p o) := fun a u e => by
  rw [upd_ne (ne_of_none e h)]
  exact e
theorem Ex.back {H H' : Hp} {p : Addr} (e : Ex H H') (h : H' p = none) : H p = none := by
  cases h1 : H p with
  | none => rfl
  | some o =>
    rw [e p o h1] at h
    cases h
theorem ex_rd {H H' : Hp} {a : Addr} {u : HO} (e : Ex H H') (h : Rd H a u) : Rd H' a u := by
  rcases h with h | ⟨o, h⟩
  · exact Or.inl (e a _ h)
  · exact Or.inr ⟨o, e a _ h⟩
theorem ex_l {K : PySem.W.Frag} {H H' : Hp} {a : Addr} {xs : List V} (e : Ex H H') (h : SqL K H a xs) : SqL K H' a xs := by
  rcases h with h | h
  · exact Or.inl (ex_rd e h)
  · exact Or.inr h
theorem ex_t {K : PySem.W.Frag} {H H' : Hp} {a : Addr} {xs : List V} (e : Ex H H') (h : SqT K H a xs) : SqT K H' a xs := by
  rcases h with h | h
  · exact Or.inl (ex_rd e h)
  · exact Or.inr h
/-- what is neither a table nor known by a thing said of it -/
def Loose : Option HO → Prop
  | some (.tbl _) => False
  | some (.ext _) => False
  | _ => True
theorem tabS_upd {H : Hp} {P l : Addr} {q : PySem.Str} {o : HO} (t : LamX.TabS H P q) (hl : Loose (H l)) : LamX.TabS (upd H l o) P q := by
  obtain ⟨ps, h1, h2, h3⟩ := t
  refine ⟨ps, ?_, h2, fun pos cv hc => ?_⟩
  · rw [upd_ne]
    · exact h1
    · intro z
      subst z
      rw [h1] at hl
      exact hl
  · obtain ⟨c, e1, e2⟩ := h3 pos cv hc
    refine ⟨c, e1, ?_⟩
    rw [upd_ne]
    · exact e2
    · intro z
      subst z
      rw [e2] at hl
      exact hl
/-- the tables of code objects that the law's lambdas are noted in, with the names -/
class Tb where
  T : List (Addr × PySem.Str)
  u : ∀ p ∈ T, ∀ q ∈ T, p.1 = q.1 → p.2 = q.2
variable [Tb]
/-- a heap grows: tables may be written -/
structure XH (H H' : Hp) : Prop where
  k : ∀ a o, H a = some o → (∀ ps, o ≠ .tbl ps) → H' a = some o
  k2 : ∀ a o, H a = some o → (∀ p ∈ Tb.T, p.1 ≠ a) → H' a = some o
  q : ∀ a ps, H a = some (.tbl ps) → ∃ ps', H' a = some (.tbl ps')
  t : ∀ p ∈ Tb.T, LamX.TabS H p.1 p.2 → LamX.TabS H' p.1 p.2
theorem XH.of {H H' : Hp} (e : Ex H H') : XH H H' := ⟨fun a o h _ => e a o h, fun a o h _ => e a o h, fun a ps h => ⟨ps, e a _ h⟩, fun _ _ t => t.ext e⟩
theorem XH.refl (H : Hp) : XH H H := XH.of (Ex.refl H)
theorem XH.trans {H H1 H2 : Hp} (a : XH H H1) (b : XH H1 H2) : XH H H2 := ⟨fun x o h n => b.k x o (a.k x o h n) n, fun x o h n => b.k2 x o (a.k2 x o h n) n, fun x ps h => by
  obtain ⟨p1, h1⟩ := a.q x ps h
  exact b.q x p1 h1, fun p hp t => b.t p hp (a.t p hp t)⟩
theorem XH.back {H H' : Hp} {p : Addr} (e : XH H H') (h : H' p = none) : H p = none := by
  cases h1 : H p with
  | none => rfl
  | some o =>
    cases o with
    | tbl ps =>
      obtain ⟨ps', h2⟩ := e.q p ps h1
      rw [h2] at h
      cases h
    | _ =>
      rw [e.k p _ h1 (fun _ z => by cases z)] at h
      cases h
/-- a thing that the first heap does not know is written -/
theorem XH.mutd {H0 H : Hp} {l : Addr} {o : HO} (x : XH H0 H) (h0 : H0 l = none) (hl : Loose (H l)) : XH H0 (upd H l o) := ⟨fun a u e n => by
  rw [upd_ne (ne_of_none e h0)]
  exact x.k a u e n, fun a u e n => by
  rw [upd_ne (ne_of_none e h0)]
  exact x.k2 a u e n, fun a ps e => by
  rw [upd_ne (ne_of_none e h0)]
  exact x.q a ps e, fun p hp t => tabS_upd (x.t p hp t) hl⟩
/-- new, or a code object -/
def Fre (H : Hp) (a : Addr) : Prop := H a = none ∨ ∃ q, H a = some (LamX.CodeO a q)
theorem Fre.lst {H : Hp} {a : Addr} {o : HO} (f : Fre H a) (h : H a = some o) (hl : Loose (some o)) : False := by
  rcases f with f | ⟨q, f⟩
  · rw [f] at h; cases h
  · rw [f] at h
    cases h
    exact hl
/-- the frozen part G of H grows to G', H to H' -/
structure Ext (G H G' H' : Hp) : Prop where
  g : Ex G G'
  h : XH H H'
  s : Ex G' H'
  n : ∀ a o, G' a = some o → G a = none → Fre H a
theorem Ext.refl {G H : Hp} (s : Ex G H) : Ext G H G H := ⟨Ex.refl _, XH.refl _, s, fun a o e n => by rw [n] at e; cases e⟩
theorem Ext.trans {G H G1 H1 G2 H2 : Hp} (a : Ext G H G1 H1) (b : Ext G1 H1 G2 H2) : Ext G H G2 H2 := ⟨a.g.trans b.g, a.h.trans b.h, b.s, fun x o e n => by
  cases q : G1 x with
  | none =>
    rcases b.n x o e q with f | ⟨z, f⟩
    · exact .inl (a.h.back f)
    · cases w : H x with
      | none => exact .inl w
      | some u =>
        refine .inr ⟨z, ?_⟩
        rw [w]
        cases u with
        | tbl ps =>
          obtain ⟨ps', h2⟩ := a.h.q x ps w
          rw [h2] at f
          cases f
        | _ =>
          rw [a.h.k x _ w (fun _ z => by cases z)] at f
          exact f
  | some u => exact a.n x u q n⟩
theorem Ext.new {G H : Hp} {p : Addr} {o : HO} (s : Ex G H) (h : H p = none) : Ext G H (upd G p o) (upd H p o) := by
  refine ⟨Ex.new (s.back h), XH.of (Ex.new h), fun a u e => ?_, fun a u e n => ?_⟩
  · by_cases q : a = p
    · subst q
      rw [upd_same] at e ⊢
      exact e
    · rw [upd_ne q] at e ⊢
      exact s a u e
  · by_cases q : a = p
    · subst q
      exact .inl h
    · rw [upd_ne q, n] at e
      cases e
/-- H alone grows -/
theorem Ext.topX {G H H' : Hp} (h : XH H H') (s : Ex G H') : Ext G H G H' := ⟨Ex.refl _, h, s, fun a o e n => by rw [n] at e; cases e⟩
theorem Ext.top {G H H' : Hp} (s : Ex G H) (h : Ex H H') : Ext G H G H' := Ext.topX (XH.of h) (s.trans h)
theorem Ext.newH {G H : Hp} {p : Addr} {o : HO} (s : Ex G H) (h : H p = none) : Ext G H G (upd H p o) := Ext.top s (Ex.new h)

theorem XH.lst {H H' : Hp} {a : Addr} {o : HO} (e : XH H H') (h : H a = some o) (hl : Loose (some o)) : H' a = some o := e.k a o h fun ps z => by subst z; exact hl
theorem XH.ext' {H H' : Hp} {a : Addr} {φ : Heap → Prop} (e : XH H H') (h : H a = some (.ext φ)) : H' a = some (.ext φ) := e.k a _ h fun ps z => by cases z
/-- a thing of the def's own is written -/
theorem Ext.wr {G0 H0 G H : Hp} {l : Addr} {o : HO} (x : Ext G0 H0 G H) (h0 : H0 l = none) (hG : G l = none) (hl : Loose (H l)) : Ext G0 H0 G (upd H l o) := ⟨x.g, x.h.mutd h0 hl, fun a u z => by
  rw [upd_ne (ne_of_none z hG)]
  exact x.s a u z, x.n⟩
/-! ### what a value denotes -/
/-- the captured names' cells hold these values -/
def CapsOk (H : Hp) (cl : List (PySem.Str × Addr)) (xs : List PySem.Str) (vs : List V) : Prop := vs.length = xs.length ∧ ∀ (i : Nat) (x : PySem.Str), xs[i]? = some x → ∃ c v o u, cl.lookup x = some c ∧ vs[i]? = some v ∧ H c = some (CellX c o) ∧ o.data = .cell (some u) ∧ RelV v u
theorem CapsOk.mono {H H' : Hp} (e : Ex H H') {cl : List (PySem.Str × Addr)} {xs : List PySem.Str} {vs : List V} (h : CapsOk H cl xs vs) : CapsOk H' cl xs vs := ⟨h.1, fun i x q => by
  obtain ⟨c, v, o, u, a, b, d, r⟩ := h.2 i x q
  exact ⟨c, v, o, u, a, b, e _ _ d, r⟩⟩
mutual
inductive Den (K : PySem.W.Frag) (H : Hp) : V → D → Prop
  | non : Den K H .non .non
  | bl (b : Bool) : Den K H (.bl b) (.bl b)
  | int (i : Int) : Den K H (.int i) (.int i)
  | str (x : PySem.Str) : Den K H (.str x) (.str x)
  | adr (a : Addr) : Den K H (.ref a) (.adr a)
  | fn (x : PySem.Str) : Den K H (.ref (He.ga K x)) (.fn x)
  | lst {a : Addr} {xs : List V} {ds : List D} : H a = some (.lst xs) → Dens K H xs ds → Den K H (.ref a) (.lst ds)
  | tup {a : Addr} {xs : List V} {ds : List D} : SqT K H a xs → Dens K H xs ds → Den K H (.ref a) (.tup ds)
  | scr {a : Addr} {ns : List Int} : SqL K H a (ns.map V.int) → Den K H (.ref a) (.scr ns)
  | dic {a : Addr} {kvs : List (Int × Int)} : H a = some (.dK (dkV kvs)) → Den K H (.ref a) (.dic false kvs)
  | dicL {a : Addr} {o : Obj} {kvs : List (Int × Int)} : H a = some (.frz o (.dK (dkV kvs))) → Den K H (.ref a) (.dic true kvs)
  | thk {f c : Addr} {lc : LamCode} {cl : List (PySem.Str × Addr)} {vs : List V} {ds : List D} : H f = some (LamO f lc cl c) → H c = some (LamX.CodeO c lc.qual) → (∀ x y b, cl.lookup x = some b → cl.lookup y = some b → x = y) → (∀ x b, cl.lookup x = some b → x ∈ lc.caps) → CapsOk H cl lc.caps vs → Dens K H vs ds → Den K H (.ref f) (.thk lc ds)
  | obj {a dx : Addr} {C : PySem.Str} {ns : List PySem.Str} {vs : List V} {ds : List D} : H a = some (.ins (He.ga K C) dx (ns.zip vs)) → ns.length = vs.length → Dens K H vs ds → Den K H (.ref a) (.obj C ns ds)
inductive Dens (K : PySem.W.Frag) (H : Hp) : List V → List D → Prop
  | nil : Dens K H [] []
  | cons {v : V} {vs : List V} {d : D} {ds : List D} : Den K H v d → Dens K H vs ds → Dens K H (v :: vs) (d :: ds)
end
section
variable {K : PySem.W.Frag} {H H' : Hp}
mutual
theorem Den.mono (e : Ex H H') : ∀ {v : V} {d : D}, Den K H v d → Den K H' v d
  | _, _, .non => .non
  | _, _, .bl b => .bl b
  | _, _, .int i => .int i
  | _, _, .str x => .str x
  | _, _, .adr a => .adr a
  | _, _, .fn x => .fn x
  | _, _, .lst h r => .lst (e _ _ h) (Dens.mono e r)
  | _, _, .tup h r => .tup (ex_t e h) (Dens.mono e r)
  | _, _, .scr h => .scr (ex_l e h)
  | _, _, .dic h => .dic (e _ _ h)
  | _, _, .dicL h => .dicL (e _ _ h)
  | _, _, .thk h h2 i j c r => .thk (e _ _ h) (e _ _ h2) i j (c.mono e) (Dens.mono e r)
  | _, _, .obj h l r => .obj (e _ _ h) l (Dens.mono e r)
theorem Dens.mono (e : Ex H H') : ∀ {vs : List V} {ds : List D}, Dens K H vs ds → Dens K H' vs ds
  | _, _, .nil => .nil
  | _, _, .cons h r => .cons (Den.mono e h) (Dens.mono e r)
end
theorem Dens.length : ∀ {vs : List V} {ds : List D}, Dens K H vs ds → vs.length = ds.length
  | _, _, .nil => rfl
  | _, _, .cons _ r => congrArg Nat.succ (Dens.length r)
theorem Dens.get : ∀ {vs : List V} {ds : List D} {i : Nat} {d : D}, Dens K H vs ds → ds[i]? = some d → ∃ v, vs[i]? = some v ∧ Den K H v d
  | _, _, _, _, .nil, e => by simp at e
  | _, _, 0, _, .cons h r, e => ⟨_, rfl, by cases (Option.some.inj (show some _ = some _ from e)); exact h⟩
  | _, _, i + 1, _, .cons h r, e => by
    obtain ⟨v, a, b⟩ := Dens.get (i := i) r (by simpa using e)
    exact ⟨v, by simpa using a, b⟩
theorem Dens.getV : ∀ {vs : List V} {ds : List D} {i : Nat} {v : V}, Dens K H vs ds → vs[i]? = some v → ∃ d, ds[i]? = some d ∧ Den K H v d
  | _, _, _, _, .nil, e => by simp at e
  | _, _, 0, _, .cons h r, e => ⟨_, rfl, by cases (Option.some.inj (show some _ = some _ from e)); exact h⟩
  | _, _, i + 1, _, .cons h r, e => by
    obtain ⟨v, a, b⟩ := Dens.getV (i := i) r (by simpa using e)
    exact ⟨v, by simpa using a, b⟩
theorem Dens.append : ∀ {vs us : List V} {ds es : List D}, Dens K H vs ds → Dens K H us es → Dens K H (vs ++ us) (ds ++ es)
  | _, _, _, _, .nil, q => q
  | _, _, _, _, .cons h r, q => .cons h (Dens.append r q)
theorem Dens.drop : ∀ {vs : List V} {ds : List D} (n : Nat), Dens K H vs ds → Dens K H (vs.drop n) (ds.drop n)
  | _, _, 0, r => r
  | _, _, n + 1, .nil => by simpa using Dens.nil
  | _, _, n + 1, .cons h r => by simpa using Dens.drop n r
theorem Dens.take : ∀ {vs : List V} {ds : List D} (n : Nat), Dens K H vs ds → Dens K H (vs.take n) (ds.take n)
  | _, _, 0, r => by simpa using Dens.nil
  | _, _, n + 1, .nil => by simpa using Dens.nil
  | _, _, n + 1, .cons h r => by simpa using Dens.cons h (Dens.take n r)
theorem Dens.reverse : ∀ {vs : List V} {ds : List D}, Dens K H vs ds → Dens K H vs.reverse ds.reverse
  | _, _, .nil => .nil
  | _, _, .cons h r => by
    rw [List.reverse_cons, List.reverse_cons]
    exact (Dens.reverse r).append (.cons h .nil)
theorem Dens.one {v : V} {ds : List D} (h : Dens K H [v] ds) : ∃ d, ds = [d] ∧ Den K H v d := by
  cases h with
  | cons a r => cases r; exact ⟨_, rfl, a⟩
theorem dens_ints : ∀ (ns : List Int), Dens K H (ns.map V.int) (ns.map D.int)
  | [] => .nil
  | n :: r => .cons (.int n) (dens_ints r)
theorem dens_bls : ∀ (ns : List Bool), Dens K H (ns.map V.bl) (ns.map D.bl)
  | [] => .nil
  | n :: r => .cons (.bl n) (dens_bls r)
theorem dens_strs : ∀ (ns : List PySem.Str), Dens K H (ns.map V.str) (ns.map D.str)
  | [] => .nil
  | n :: r => .cons (.str n) (dens_strs r)
theorem Den.int_inv {v : V} {i : Int} (h : Den K H v (.int i)) : v = .int i := by cases h; rfl
theorem Den.bl_inv {v : V} {i : Bool} (h : Den K H v (.bl i)) : v = .bl i := by cases h; rfl
theorem Den.str_inv {v : V} {i : PySem.Str} (h : Den K H v (.str i)) : v = .str i := by cases h; rfl
theorem Den.non_inv {v : V} (h : Den K H v .non) : v = .non := by cases h; rfl
theorem Dens.ints_inv : ∀ {vs : List V} {ns : List Int}, Dens K H vs (ns.map D.int) → vs = ns.map V.int
  | _, [], h => by cases h; rfl
  | _, n :: r, h => by
    cases h with
    | cons a b => rw [a.int_inv, Dens.ints_inv b]; rfl
theorem Dens.bls_inv : ∀ {vs : List V} {ns : List Bool}, Dens K H vs (ns.map D.bl) → vs = ns.map V.bl
  | _, [], h => by cases h; rfl
  | _, n :: r, h => by
    cases h with
    | cons a b => rw [a.bl_inv, Dens.bls_inv b]; rfl
theorem Dens.strs_inv : ∀ {vs : List V} {ns : List PySem.Str}, Dens K H vs (ns.map D.str) → vs = ns.map V.str
  | _, [], h => by cases h; rfl
  | _, n :: r, h => by
    cases h with
    | cons a b => rw [a.str_inv, Dens.strs_inv b]; rfl
end

/-! ### results -/
inductive R (α : Type) where
  | ok (a : α)
  | rs (c : PySem.Str)
  | no
def R.bind {α β : Type} : R α → (α → R β) → R β
  | .ok a, g => g a
  | .rs c, _ => .rs c
  | .no, _ => .no
def R.map {α β : Type} (g : α → β) : R α → R β
  | .ok a => .ok (g a)
  | .rs c => .rs c
  | .no => .no

/-- an object of the def's own: its class, its three attributes -/
structure Ob where
  C : PySem.Str
  st : D
  ea : List D
  la : List D
  /-- it stands at the frame's own address (the self of a method) -/
  me : Bool := false
def fl3 (t l1 l2 : Addr) : List (PySem.Str × V) := [("state", .ref t), ("earlier", .ref l1), ("later", .ref l2)]
def stN : List PySem.Str := ["state", "earlier", "later"]
inductive Slot where
  | ob (o : Ob)
  | un
  | exc
  | dat (d : D)
  | own (xs : List D)
  | owd (kvs : List (Int × Int))
  /-- a list of the def's own, of lambdas over its own names -/
  | lams (ks : List LamCode)
instance : Inhabited Slot := ⟨.un⟩
abbrev Store := List Slot
abbrev ME := Store → R D
abbrev MT := Store → R Bool
abbrev MA := Store → R (List D)

/-- a thing of the def's own -/
def Slot.mine : Slot → Bool
  | .own _ => true
  | .owd _ => true
  | .lams _ => true
  | .ob _ => true
  | _ => false
/-- it stands at the frame's own address -/
def Slot.held : Slot → Bool
  | .exc => true
  | .ob o => o.me
  | _ => false
def Slot.isob : Slot → Bool
  | .ob _ => true
  | _ => false
theorem Slot.ob_of {a : Slot} (h : a.isob = true) : ∃ o, a = .ob o := by
  cases a <;> first
    | exact ⟨_, rfl⟩
    | cases h
/-- of a def's frame: the exception that a suite holds, the cells, the tables of code objects -/
structure Fi where
  ea : Addr
  cells : List (PySem.Str × Addr)
abbrev Fi.at (fi : Fi) (a : Addr) : Fi := { fi with ea := a }
/-- a lambda's function object -/
def RawL (fi : Fi) (G : Hp) (v : V) (lc : LamCode) : Prop := ∃ f c, v = .ref f ∧ G f = some (LamO f lc (cloFrom fi.cells lc.scope.names []) c) ∧ G c = some (LamX.CodeO c lc.qual)
inductive Raws (fi : Fi) (G : Hp) : List V → List LamCode → Prop
  | nil : Raws fi G [] []
  | cons {v : V} {vs : List V} {lc : LamCode} {ks : List LamCode} : RawL fi G v lc → Raws fi G vs ks → Raws fi G (v :: vs) (lc :: ks)
theorem Raws.mono {fi : Fi} {G G' : Hp} (e : Ex G G') : ∀ {vs : List V} {ks : List LamCode}, Raws fi G vs ks → Raws fi G' vs ks
  | _, _, .nil => .nil
  | _, _, .cons ⟨f, c, a, b, d⟩ r => .cons ⟨f, c, a, e _ _ b, e _ _ d⟩ (Raws.mono e r)
theorem Raws.append {fi : Fi} {G : Hp} : ∀ {vs us : List V} {ks js : List LamCode}, Raws fi G vs ks → Raws fi G us js → Raws fi G (vs ++ us) (ks ++ js)
  | _, _, _, _, .nil, q => q
  | _, _, _, _, .cons h r, q => .cons h (Raws.append r q)
theorem Raws.length {fi : Fi} {G : Hp} : ∀ {vs : List V} {ks : List LamCode}, Raws fi G vs ks → vs.length = ks.length
  | _, _, .nil => rfl
  | _, _, .cons _ r => congrArg Nat.succ (Raws.length r)
/-- what stands there -/
def Hld (K : PySem.W.Frag) (fi : Fi) (G : Hp) : Slot → HO → Prop
  | .own xs, .lst vs => Dens K G vs xs
  | .owd kvs, .dK m => m = dkV kvs
  | .lams ks, .lst vs => Raws fi G vs ks
  | .ob o, .ins C dx fs => C = He.ga K o.C ∧ ∃ t l1 l2, fs = fl3 t l1 l2 ∧ Den K G (.ref t) o.st
  | _, _ => False
theorem Hld.mono {K : PySem.W.Frag} {fi : Fi} {G G' : Hp} {s : Slot} {o : HO} (e : Ex G G') (h : Hld K fi G s o) : Hld K fi G' s o := by
  cases s <;> cases o <;> first
    | exact Dens.mono e h
    | exact Raws.mono e h
    | exact ⟨h.1, let ⟨t, l1, l2, a, b⟩ := h.2; ⟨t, l1, l2, a, b.mono e⟩⟩
    | exact h
theorem Hld.held {K : PySem.W.Frag} {fi : Fi} {G : Hp} {s : Slot} {o : HO} (h : Hld K fi G s o) (nb : s.isob = false) : s.held = false := by
  cases s <;> first
    | rfl
    | (exfalso; cases o <;> exact h.elim)
    | (cases nb; done)
theorem Hld.loose {K : PySem.W.Frag} {fi : Fi} {G : Hp} {s : Slot} {o : HO} (h : Hld K fi G s o) : Loose (some o) := by
  cases s <;> cases o <;> first
    | trivial
    | exact h.elim
theorem Loose.ntbl {o : HO} (h : Loose (some o)) : ∀ ps, o ≠ .tbl ps := fun ps z => by subst z; exact h
theorem Hld.mine {K : PySem.W.Frag} {fi : Fi} {G : Hp} {s : Slot} {o : HO} (h : Hld K fi G s o) : s.mine = true := by
  cases s <;> cases o <;> first
    | rfl
    | exact h.elim
/-- l is one of the lists of the object in the slot i -/
def LstOf (σ : L2.St) (H : Hp) (st : Store) (i : Nat) (l : Addr) : Prop := ∃ o x C dx t l1 l2, st[i]? = some (.ob o) ∧ σ[i]? = some (some (.ref x)) ∧ H x = some (.ins C dx (fl3 t l1 l2)) ∧ (l = l1 ∨ l = l2)
/-- the objects' lists -/
structure Obs (K : PySem.W.Frag) (H0 G H : Hp) (σ : L2.St) (st : Store) : Prop where
  o1 : ∀ (i : Nat) (l : Addr), LstOf σ H st i l → (∃ vs, H l = some (.lst vs)) ∧ G l = none ∧ H0 l = none
  o2 : ∀ (i j : Nat) (l : Addr), LstOf σ H st i l → LstOf σ H st j l → i = j
  o3 : ∀ (i j : Nat) (a : Slot) (l : Addr), LstOf σ H st i l → st[j]? = some a → a.mine = true → σ[j]? = some (some (.ref l)) → False
  o4 : ∀ (i : Nat) (o : Ob) (x : Addr), st[i]? = some (.ob o) → σ[i]? = some (some (.ref x)) → ∃ C dx t l1 l2 vs1 vs2, H x = some (.ins C dx (fl3 t l1 l2)) ∧ H l1 = some (.lst vs1) ∧ H l2 = some (.lst vs2) ∧ Dens K G vs1 o.ea ∧ Dens K G vs2 o.la ∧ l1 ≠ l2
theorem Obs.no {K : PySem.W.Frag} {H0 G H : Hp} {σ : L2.St} {st : Store} (h : ∀ (i : Nat) (o : Ob), st[i]? ≠ some (.ob o)) : Obs K H0 G H σ st where
  o1 := fun i l ⟨o, _, _, _, _, _, _, q, _⟩ => absurd q (h i o)
  o2 := fun i j l ⟨o, _, _, _, _, _, _, q, _⟩ => absurd q (h i o)
  o3 := fun i j a l ⟨o, _, _, _, _, _, _, q, _⟩ => absurd q (h i o)
  o4 := fun i o x q => absurd q (h i o)
theorem Obs.tr {K : PySem.W.Frag} {H0 G H H0' G' H' : Hp} {σ σ' : L2.St} {st st' : Store} (r : Obs K H0 G H σ st) (φ : Nat → Nat) (ho : ∀ (i : Nat) (o : Ob), st'[i]? = some (.ob o) → st[φ i]? = some (.ob o) ∧ σ'[i]? = σ[φ i]?)
    (inj : ∀ (i j : Nat) (o o' : Ob), st'[i]? = some (.ob o) → st'[j]? = some (.ob o') → φ i = φ j → i = j) (hm : ∀ (j : Nat) (a : Slot) (l : Addr), st'[j]? = some a → a.mine = true → σ'[j]? = some (some (.ref l)) → H l = none ∨ ∃ b, st[φ j]? = some b ∧ b.mine = true ∧ σ[φ j]? = some (some (.ref l)))
    (hx : ∀ (i : Nat) (o : Ob) (x : Addr), st[i]? = some (.ob o) → σ[i]? = some (some (.ref x)) → (∃ (j : Nat) (o' : Ob), st'[j]? = some (.ob o') ∧ φ j = i) → H' x = H x) (hl : ∀ (i : Nat) (l : Addr), LstOf σ H st i l → (∃ (j : Nat) (o' : Ob), st'[j]? = some (.ob o') ∧ φ j = i) → H' l = H l) (hG : Ex G G')
    (hn : ∀ (i : Nat) (l : Addr), LstOf σ H st i l → (∃ (j : Nat) (o' : Ob), st'[j]? = some (.ob o') ∧ φ j = i) → G' l = none ∧ H0' l = none) : Obs K H0' G' H' σ' st' := by
  have bk : ∀ i l, LstOf σ' H' st' i l → LstOf σ H st (φ i) l := fun i l ⟨o, x, C, dx, t, l1, l2, q, p, e, z⟩ => by
    obtain ⟨a, b⟩ := ho i o q
    rw [b] at p
    rw [hx _ o x a p ⟨i, o, q, rfl⟩] at e
    exact ⟨o, x, C, dx, t, l1, l2, a, p, e, z⟩
  have is : ∀ i l, LstOf σ' H' st' i l → ∃ o, st'[i]? = some (.ob o) := fun i l ⟨o, _, _, _, _, _, _, q, _⟩ => ⟨o, q⟩
  refine ⟨fun i l h => ?_, fun i j l h h' => ?_, fun i j a l h q m p => ?_, fun i o x q p => ?_⟩
  · obtain ⟨o, q⟩ := is i l h
    obtain ⟨⟨vs, e⟩, _, _⟩ := r.o1 _ l (bk i l h)
    exact ⟨⟨vs, by rw [hl _ l (bk i l h) ⟨i, o, q, rfl⟩]; exact e⟩, hn _ l (bk i l h) ⟨i, o, q, rfl⟩⟩
  · obtain ⟨o, q⟩ := is i l h
    obtain ⟨o', q'⟩ := is j l h'
    exact inj i j o o' q q' (r.o2 _ _ l (bk i l h) (bk j l h'))
  · rcases hm j a l q m p with z | ⟨b, z1, z2, z3⟩
    · obtain ⟨⟨vs, e⟩, _, _⟩ := r.o1 _ l (bk i l h)
      rw [z] at e
      cases e
    · exact r.o3 _ _ b l (bk i l h) z1 z2 z3
  · obtain ⟨a, b⟩ := ho i o q
    rw [b] at p
    obtain ⟨C, dx, t, l1, l2, vs1, vs2, e, e1, e2, d1, d2, ne⟩ := r.o4 _ o x a p
    have w : ∃ j o', st'[j]? = some (.ob o') ∧ φ j = φ i := ⟨i, o, q, rfl⟩
    exact ⟨C, dx, t, l1, l2, vs1, vs2, by rw [hx _ o x a p w]; exact e, by rw [hl _ l1 ⟨o, x, C, dx, t, l1, l2, a, p, e, .inl rfl⟩ w]; exact e1, by rw [hl _ l2 ⟨o, x, C, dx, t, l1, l2, a, p, e, .inr rfl⟩ w]; exact e2, d1.mono hG, d2.mono hG, ne⟩
/-- the slots σ and the heap H hold the store: G is the frozen part of H, H0 the heap at the def's start, ea the exception that a suite holds -/
structure Rel (K : PySem.W.Frag) (ea : Fi) (H0 G H : Hp) (σ : L2.St) (st : Store) : Prop where
  s : Ex G H
  len : st.length = σ.length
  exc : ∀ (i : Nat) (a : Slot), st[i]? = some a → a.held = true → σ[i]? = some (some (.ref ea.ea))
  dat : ∀ (i : Nat) (d : D), st[i]? = some (.dat d) → ∃ v, σ[i]? = some (some v) ∧ Den K G v d
  own : ∀ (i : Nat) (a : Slot), st[i]? = some a → a.mine = true → ∃ l o, σ[i]? = some (some (.ref l)) ∧ H l = some o ∧ Hld K ea G a o ∧ G l = none ∧ H0 l = none
  sep : ∀ (i j : Nat) (a b : Slot) (l : Addr), st[i]? = some a → a.mine = true → st[j]? = some b → b.mine = true → σ[i]? = some (some (.ref l)) → σ[j]? = some (some (.ref l)) → i = j
  tb : LamX.Tabs Tb.T H
  tg : ∀ p ∈ Tb.T, G p.1 = none
  ob : Obs K H0 G H σ st
/-- the slot j of a store whose slot i is new -/
theorem set_cases {α : Type} {st : List α} {i j : Nat} {a b : α} (q : (st.set i a)[j]? = some b) : (i = j ∧ i < st.length ∧ a = b) ∨ (i ≠ j ∧ st[j]? = some b) := by
  by_cases z : i = j
  · subst z
    by_cases hl : i < st.length
    · rw [List.getElem?_set_self hl] at q
      exact .inl ⟨rfl, hl, Option.some.inj q⟩
    · rw [List.getElem?_eq_none (by simpa using hl)] at q
      cases q
  · rw [List.getElem?_set_ne z] at q
    exact .inr ⟨z, q⟩
section
variable {K : PySem.W.Frag} {ea : Fi} {H0 G H G' H' : Hp} {σ : L2.St} {st : Store}
theorem Rel.ownL (r : Rel K ea H0 G H σ st) {i : Nat} {xs : List D} (q : st[i]? = some (.own xs)) : ∃ l vs, σ[i]? = some (some (.ref l)) ∧ H l = some (.lst vs) ∧ Dens K G vs xs ∧ G l = none ∧ H0 l = none := by
  obtain ⟨l, o, a, b, c, d⟩ := r.own i _ q rfl
  cases o with
  | lst vs => exact ⟨l, vs, a, b, c, d⟩
  | _ => exact False.elim c
theorem Rel.ownD (r : Rel K ea H0 G H σ st) {i : Nat} {kvs : List (Int × Int)} (q : st[i]? = some (.owd kvs)) : ∃ l, σ[i]? = some (some (.ref l)) ∧ H l = some (.dK (dkV kvs)) ∧ G l = none ∧ H0 l = none := by
  obtain ⟨l, o, a, b, c, d⟩ := r.own i _ q rfl
  cases o with
  | dK m => exact ⟨l, a, by rw [b, show m = dkV kvs from c], d⟩
  | _ => exact False.elim c
theorem Rel.ext (r : Rel K ea H0 G H σ st) (e : Ext G H G' H') : Rel K ea H0 G' H' σ st where
  s := e.s
  len := r.len
  exc := r.exc
  dat := fun i d q => by
    obtain ⟨v, a, b⟩ := r.dat i d q
    exact ⟨v, a, b.mono e.g⟩
  own := fun i a q m => by
    obtain ⟨l, o, a, b, c, d, d0⟩ := r.own i a q m
    refine ⟨l, o, a, e.h.k _ _ b c.loose.ntbl, c.mono e.g, ?_, d0⟩
    cases z : G' l with
    | none => rfl
    | some u => exact ((e.n l u z d).lst b c.loose).elim
  sep := r.sep
  tb := fun p hp => e.h.t p hp (r.tb p hp)
  tg := fun p hp => by
    obtain ⟨ps, h1, _⟩ := r.tb p hp
    cases z : G' p.1 with
    | none => rfl
    | some o =>
      rcases e.n p.1 o z (r.tg p hp) with f | ⟨q, f⟩
      · rw [f] at h1; cases h1
      · rw [f] at h1; cases h1
  ob := r.ob.tr id (fun i o q => ⟨q, rfl⟩) (fun _ _ _ _ _ _ z => z) (fun j a l q m p => .inr ⟨a, q, m, p⟩) (fun i o x q p _ => by
    obtain ⟨C, dx, t, l1, l2, _, _, z, _⟩ := r.ob.o4 i o x q p
    rw [z]
    exact e.h.k _ _ z (fun _ y => by cases y)) (fun i l h _ => by
    obtain ⟨⟨vs, z⟩, _, _⟩ := r.ob.o1 i l h
    rw [z]
    exact e.h.k _ _ z (fun _ y => by cases y)) e.g (fun i l h _ => by
    obtain ⟨⟨vs, z⟩, g, h0⟩ := r.ob.o1 i l h
    refine ⟨?_, h0⟩
    cases y : G' l with
    | none => rfl
    | some u => exact ((e.n l u y g).lst z trivial).elim)
/-- one slot anew, no thing of its own -/
theorem Rel.put (r : Rel K ea H0 G H σ st) (i : Nat) (o : Option V) (a : Slot) (ho : a.mine = false) (he : a.held = true → o = some (.ref ea.ea)) (hd : ∀ d, a = .dat d → ∃ v, o = some v ∧ Den K G v d) : Rel K ea H0 G H (σ.set i o) (st.set i a) where
  s := r.s
  len := by rw [List.length_set, List.length_set]; exact r.len
  exc := fun j b q hb => by
    rcases set_cases q with ⟨rfl, hl, e⟩ | ⟨z, q⟩
    · subst e
      rw [List.getElem?_set_self (by rw [← r.len]; exact hl), he hb]
    · rw [List.getElem?_set_ne z]
      exact r.exc j b q hb
  dat := fun j d q => by
    rcases set_cases q with ⟨rfl, hl, e⟩ | ⟨z, q⟩
    · obtain ⟨v, e2, h⟩ := hd d e
      exact ⟨v, by rw [List.getElem?_set_self (by rw [← r.len]; exact hl), e2], h⟩
    · rw [List.getElem?_set_ne z]
      exact r.dat j d q
  own := fun j xs q m => by
    rcases set_cases q with ⟨rfl, hl, e⟩ | ⟨z, q⟩
    · rw [← e, ho] at m; cases m
    · rw [List.getElem?_set_ne z]
      exact r.own j xs q m
  sep := fun j k xs ys l q m q' m' p p' => by
    rcases set_cases q with ⟨rfl, hl, e⟩ | ⟨z, q⟩
    · rw [← e, ho] at m; cases m
    · rcases set_cases q' with ⟨rfl, hl, e⟩ | ⟨z', q'⟩
      · rw [← e, ho] at m'; cases m'
      · rw [List.getElem?_set_ne z] at p
        rw [List.getElem?_set_ne z'] at p'
        exact r.sep j k xs ys l q m q' m' p p'
  tb := r.tb
  tg := r.tg
  ob := r.ob.tr id (fun j o q => by
    rcases set_cases q with ⟨rfl, hl, e⟩ | ⟨z, q⟩
    · rw [e] at ho; cases ho
    · exact ⟨q, by rw [List.getElem?_set_ne z]; rfl⟩) (fun _ _ _ _ _ _ z => z) (fun j b l q m p => by
    rcases set_cases q with ⟨rfl, hl, e⟩ | ⟨z, q⟩
    · rw [e] at ho; rw [ho] at m; cases m
    · rw [List.getElem?_set_ne z] at p
      exact .inr ⟨b, q, m, p⟩) (fun _ _ _ _ _ _ => rfl) (fun _ _ _ _ => rfl) (Ex.refl _) (fun i l h _ => (r.ob.o1 i l h).2)
theorem Rel.set (r : Rel K ea H0 G H σ st) (i : Nat) {v : V} {d : D} (h : Den K G v d) : Rel K ea H0 G H (σ.set i (some v)) (st.set i (.dat d)) :=
  r.put i (some v) (.dat d) rfl (fun z => by cases z) (fun e z => by cases z; exact ⟨v, rfl, h⟩)
/-- a slot is forgotten -/
theorem Rel.forget (r : Rel K ea H0 G H σ st) (i : Nat) (o : Option V) : Rel K ea H0 G H (σ.set i o) (st.set i .un) :=
  r.put i o .un rfl (fun z => by cases z) (fun e z => by cases z)
/-- a new thing of the def's own -/
theorem Rel.setOwnG (r : Rel K ea H0 G H σ st) (i : Nat) {l : Addr} {o : HO} {a : Slot} (hl : H l = none) (h0 : H0 l = none) (h : Hld K ea G a o) (nb : a.isob = false := by rfl) :
    Rel K ea H0 G (upd H l o) (σ.set i (some (.ref l))) (st.set i a) where
  s := fun a o e => by
    have q := r.s a o e
    rw [upd_ne (ne_of_none q hl)]
    exact q
  len := by rw [List.length_set, List.length_set]; exact r.len
  exc := fun j b q hb => by
    rcases set_cases q with ⟨rfl, hl, e⟩ | ⟨z, q⟩
    · subst e
      rw [h.held nb] at hb
      cases hb
    · rw [List.getElem?_set_ne z]
      exact r.exc j b q hb
  dat := fun j d q => by
    rcases set_cases q with ⟨rfl, hl, e⟩ | ⟨z, q⟩
    · rw [e] at h; exact h.elim
    · rw [List.getElem?_set_ne z]
      exact r.dat j d q
  own := fun j ys q m => by
    rcases set_cases q with ⟨rfl, hi, e⟩ | ⟨z, q⟩
    · subst e
      exact ⟨l, o, List.getElem?_set_self (by rw [← r.len]; exact hi), upd_same, h, r.s.back hl, h0⟩
    · obtain ⟨l', vs', a, b, c, d, d0⟩ := r.own j ys q m
      exact ⟨l', vs', by rw [List.getElem?_set_ne z]; exact a, by rw [upd_ne (ne_of_none b hl)]; exact b, c, d, d0⟩
  sep := fun j k ys zs m q m1 q' m2 p p' => by
    rcases set_cases q with ⟨rfl, hi, e⟩ | ⟨z, q⟩
    · rcases set_cases q' with ⟨rfl, hi', e'⟩ | ⟨z', q'⟩
      · rfl
      · rw [List.getElem?_set_self (by rw [← r.len]; exact hi)] at p
        rw [List.getElem?_set_ne z'] at p'
        cases p
        obtain ⟨l', vs', a, b, _⟩ := r.own k zs q' m2
        rw [a] at p'
        cases p'
        rw [hl] at b
        cases b
    · rw [List.getElem?_set_ne z] at p
      rcases set_cases q' with ⟨rfl, hi', e'⟩ | ⟨z', q'⟩
      · rw [List.getElem?_set_self (by rw [← r.len]; exact hi')] at p'
        cases p'
        obtain ⟨l', vs', a, b, _⟩ := r.own j ys q m1
        rw [a] at p
        cases p
        rw [hl] at b
        cases b
      · rw [List.getElem?_set_ne z'] at p'
        exact r.sep j k ys zs m q m1 q' m2 p p'
  tb := fun p hp => tabS_upd (r.tb p hp) (by rw [hl]; trivial)
  tg := r.tg
  ob := r.ob.tr id (fun j o' q => by
    rcases set_cases q with ⟨rfl, hi, e⟩ | ⟨z, q⟩
    · rw [e] at nb; cases nb
    · exact ⟨q, by rw [List.getElem?_set_ne z]; rfl⟩) (fun _ _ _ _ _ _ z => z) (fun j b l' q m p => by
    rcases set_cases q with ⟨rfl, hi, e⟩ | ⟨z, q⟩
    · rw [List.getElem?_set_self (by rw [← r.len]; exact hi)] at p
      cases p
      exact .inl hl
    · rw [List.getElem?_set_ne z] at p
      exact .inr ⟨b, q, m, p⟩) (fun j o' x q p _ => by
    obtain ⟨C, dx, t, l1, l2, _, _, z, _⟩ := r.ob.o4 j o' x q p
    rw [upd_ne (ne_of_none z hl)]) (fun j l' h' _ => by
    obtain ⟨⟨vs, z⟩, _, _⟩ := r.ob.o1 j l' h'
    rw [upd_ne (ne_of_none z hl)]) (Ex.refl _) (fun j l' h' _ => (r.ob.o1 j l' h').2)
theorem Rel.setOwn (r : Rel K ea H0 G H σ st) (i : Nat) {l : Addr} {vs : List V} {xs : List D} (hl : H l = none) (h0 : H0 l = none) (h : Dens K G vs xs) :
    Rel K ea H0 G (upd H l (.lst vs)) (σ.set i (some (.ref l))) (st.set i (.own xs)) := r.setOwnG i (a := .own xs) (o := .lst vs) hl h0 h
/-- a thing of the def's own is changed -/
theorem Rel.mutG (r : Rel K ea H0 G H σ st) {i : Nat} {l : Addr} {a a' : Slot} {o' : HO} (q0 : st[i]? = some a) (m0 : a.mine = true) (p0 : σ[i]? = some (some (.ref l))) (h : Hld K ea G a' o') (nb : a'.isob = false := by rfl) :
    Rel K ea H0 G (upd H l o') σ (st.set i a') := by
  obtain ⟨l0, vs0, a0, b0, c0, d0, e0⟩ := r.own i a q0 m0
  rw [p0] at a0
  cases a0
  refine ⟨fun a o e => ?_, by rw [List.length_set]; exact r.len, fun j b q hb => ?_, fun j d q => ?_, fun j ys q m => ?_, fun j k ys zs m q m1 q' m2 p p' => ?_, fun p hp => tabS_upd (r.tb p hp) (by rw [b0]; exact c0.loose), r.tg,
    r.ob.tr id (fun j oo q => by
      rcases set_cases q with ⟨rfl, hi, e⟩ | ⟨z, q⟩
      · rw [e] at nb; cases nb
      · exact ⟨q, rfl⟩) (fun _ _ _ _ _ _ z => z) (fun j b l' q m p => by
      rcases set_cases q with ⟨rfl, hi, e⟩ | ⟨z, q⟩
      · exact .inr ⟨a, q0, m0, p⟩
      · exact .inr ⟨b, q, m, p⟩) (fun j oo x q p w => by
      obtain ⟨j', oo', q', ej⟩ := w
      cases ej
      have ne : i ≠ j' := fun z => by
        subst z
        rcases set_cases q' with ⟨_, _, e⟩ | ⟨z, _⟩
        · rw [e] at nb; cases nb
        · exact z rfl
      rw [upd_ne]
      intro z
      subst z
      exact ne (r.sep i j' a (.ob oo) x q0 m0 q rfl p0 p)) (fun j l' h' _ => by
      rw [upd_ne]
      intro z
      subst z
      exact r.ob.o3 j i a l' h' q0 m0 p0) (Ex.refl _) (fun j l' h' _ => (r.ob.o1 j l' h').2)⟩
  · rw [upd_ne (ne_of_none e d0)]
    exact r.s a o e
  · rcases set_cases q with ⟨rfl, hl, e⟩ | ⟨z, q⟩
    · subst e
      rw [h.held nb] at hb
      cases hb
    · exact r.exc j b q hb
  · rcases set_cases q with ⟨rfl, hl, e⟩ | ⟨z, q⟩
    · rw [e] at h; exact h.elim
    · exact r.dat j d q
  · rcases set_cases q with ⟨rfl, hi, e⟩ | ⟨z, q⟩
    · subst e
      exact ⟨l, o', p0, upd_same, h, d0, e0⟩
    · obtain ⟨l', ws, a, b, c, d, d'⟩ := r.own j ys q m
      refine ⟨l', ws, a, ?_, c, d, d'⟩
      rw [upd_ne (fun e => z (by subst e; exact r.sep i j _ ys l' q0 m0 q m p0 a))]
      exact b
  · rcases set_cases q with ⟨rfl, hi, e⟩ | ⟨z, q⟩
    · rcases set_cases q' with ⟨rfl, hi', e'⟩ | ⟨z', q'⟩
      · rfl
      · exact r.sep i k _ zs m q0 m0 q' m2 p p'
    · rcases set_cases q' with ⟨rfl, hi', e'⟩ | ⟨z', q'⟩
      · exact r.sep j i ys _ m q m1 q0 m0 p p'
      · exact r.sep j k ys zs m q m1 q' m2 p p'
theorem Rel.mut (r : Rel K ea H0 G H σ st) {i : Nat} {l : Addr} {xs xs' : List D} {vs' : List V} (q0 : st[i]? = some (.own xs)) (p0 : σ[i]? = some (some (.ref l))) (h : Dens K G vs' xs') :
    Rel K ea H0 G (upd H l (.lst vs')) σ (st.set i (.own xs')) := r.mutG (a' := .own xs') (o' := .lst vs') q0 rfl p0 h
/-- what is Loose there -/
theorem Rel.loose (r : Rel K ea H0 G H σ st) {i : Nat} {l : Addr} {a : Slot} (q0 : st[i]? = some a) (m0 : a.mine = true) (p0 : σ[i]? = some (some (.ref l))) : Loose (H l) ∧ G l = none ∧ H0 l = none := by
  obtain ⟨l', o, a1, b1, c1, d1, e1⟩ := r.own i a q0 m0
  rw [p0] at a1
  cases a1
  exact ⟨by rw [b1]; exact c1.loose, d1, e1⟩
/-- own things read as data -/
def thaw1 : Slot → Slot
  | .own xs => .dat (.lst xs)
  | .owd kvs => .dat (.dic false kvs)
  | .ob o => .dat (.obj o.C stN [o.st, .lst o.ea, .lst o.la])
  | s => s
def thaw (st : Store) : Store := st.map thaw1
/-- what is read as data -/
def Slot.melt : Slot → Bool
  | .own _ => true
  | .owd _ => true
  | _ => false
theorem Slot.melt_mine {a : Slot} (h : a.melt = true) : a.mine = true := by cases a <;> first | rfl | cases h
theorem thaw1_mine {a : Slot} (h : a.melt = true) : (thaw1 a).mine = false := by cases a <;> first | rfl | cases h
/-- what a statement's own reading takes as data -/
def Slot.meltT : Slot → Bool
  | .own _ => true
  | .owd _ => true
  | .ob _ => true
  | _ => false
theorem Slot.meltT_mine {a : Slot} (h : a.meltT = true) : a.mine = true := by cases a <;> first | rfl | cases h
theorem thawT_mine {a : Slot} (h : a.meltT = true) : (thaw1 a).mine = false := by cases a <;> first | rfl | cases h
theorem thaw1_same {a : Slot} (h : a.meltT = false) : thaw1 a = a := by cases a <;> first | rfl | cases h
theorem thaw1_nob (a : Slot) : (thaw1 a).isob = false := by cases a <;> rfl
theorem thaw_get {st : Store} {i : Nat} {a : Slot} (h : (thaw st)[i]? = some a) : ∃ b, st[i]? = some b ∧ a = thaw1 b := by
  unfold thaw at h
  rw [List.getElem?_map] at h
  cases q : st[i]? with
  | none => rw [q] at h; cases h
  | some s => rw [q] at h; cases h; exact ⟨s, rfl, rfl⟩
theorem thaw1_den {K : PySem.W.Frag} {fi : Fi} {G G' : Hp} {l : Addr} {a : Slot} {o : HO} (hm : a.melt = true) (h : Hld K fi G a o) (e : Ex G G') (g : G' l = some o) : ∃ d, thaw1 a = .dat d ∧ Den K G' (.ref l) d := by
  cases a with
  | own xs =>
    cases o with
    | lst vs => exact ⟨_, rfl, .lst g (Dens.mono e h)⟩
    | _ => exact False.elim h
  | owd kvs =>
    cases o with
    | dK m =>
      have h : m = dkV kvs := h
      rw [h] at g
      exact ⟨_, rfl, .dic g⟩
    | _ => exact False.elim h
  | _ => cases hm
open Classical in
theorem Rel.thaw (r : Rel K ea H0 G H σ st) {G0 : Hp} (x : Ext G0 H0 G H) : ∃ G', Ext G0 H0 G' H ∧ Ex G G' ∧ Rel K ea H0 G' H σ (thaw st) := by
  let P : Addr → Prop := fun a => (∃ (i : Nat) (b : Slot), st[i]? = some b ∧ b.meltT = true ∧ σ[i]? = some (some (V.ref a))) ∨ ∃ i, LstOf σ H st i a
  have own : ∀ a, P a → (∃ o, H a = some o) ∧ G a = none ∧ H0 a = none := fun a h => by
    rcases h with ⟨i, xs, q, m, p⟩ | ⟨i, h⟩
    · obtain ⟨l, vs, a1, b1, c1, d1, e1⟩ := r.own i xs q (Slot.meltT_mine m)
      rw [p] at a1
      cases a1
      exact ⟨⟨_, b1⟩, d1, e1⟩
    · obtain ⟨⟨vs, z⟩, g, h0⟩ := r.ob.o1 i a h
      exact ⟨⟨_, z⟩, g, h0⟩
  let G' : Hp := fun a => if P a then H a else G a
  have g1 : ∀ a, P a → G' a = H a := fun a h => if_pos h
  have g2 : ∀ a, ¬ P a → G' a = G a := fun a h => if_neg h
  have eG : Ex G G' := fun a o e => by
    by_cases h : P a
    · rw [(own a h).2.1] at e
      cases e
    · rw [g2 a h]
      exact e
  have sG : Ex G' H := fun a o e => by
    by_cases h : P a
    · rw [g1 a h] at e
      exact e
    · rw [g2 a h] at e
      exact r.s a o e
  refine ⟨G', ⟨x.g.trans eG, x.h, sG, fun a o e n => ?_⟩, eG, sG, by unfold Pg.thaw; rw [List.length_map]; exact r.len, fun i a q hb => ?_, fun i d q => ?_, fun i xs q m => ?_, fun i j xs ys l q m => ?_, r.tb, fun p hp => ?_, Obs.no fun i o q => ?_⟩
  · by_cases h : P a
    · exact .inl (own a h).2.2
    · rw [g2 a h] at e
      exact x.n a o e n
  · obtain ⟨b, q2, z⟩ := thaw_get q
    subst z
    cases b <;> first
      | exact r.exc i _ q2 rfl
      | cases hb
  · obtain ⟨b, q2, z⟩ := thaw_get q
    cases hb : b.meltT with
    | true =>
      obtain ⟨l, o, a, b', c, _⟩ := r.own i b q2 (Slot.meltT_mine hb)
      have gl : G' l = some o := by rw [g1 l (.inl ⟨i, b, q2, hb, a⟩)]; exact b'
      cases hb2 : b.melt with
      | true =>
        obtain ⟨d', e1, e2⟩ := thaw1_den hb2 c eG gl
        rw [e1] at z
        cases z
        exact ⟨_, a, e2⟩
      | false =>
        cases b with
        | ob o' =>
          cases z
          obtain ⟨C, dx, t, l1, l2, vs1, vs2, x1, x2, x3, x4, x5, _⟩ := r.ob.o4 i o' l q2 a
          rw [b'] at x1
          cases x1
          obtain ⟨eC, t', m1, m2, ef, dt⟩ := c
          subst eC
          have ef : fl3 t l1 l2 = fl3 t' m1 m2 := ef
          unfold fl3 at ef
          simp only [List.cons.injEq, Prod.mk.injEq, V.ref.injEq, true_and, and_true] at ef
          obtain ⟨rfl, rfl, rfl⟩ := ef
          have ls : ∀ y, y = l1 ∨ y = l2 → LstOf σ H st i y := fun y h => ⟨o', l, _, dx, t, l1, l2, q2, a, b', h⟩
          have gs : G' l = some (.ins (He.ga K o'.C) dx (stN.zip [.ref t, .ref l1, .ref l2])) := gl
          exact ⟨_, a, .obj gs rfl (.cons (dt.mono eG) (.cons (.lst (by rw [g1 l1 (.inr ⟨i, ls l1 (.inl rfl)⟩)]; exact x2) (x4.mono eG)) (.cons (.lst (by rw [g1 l2 (.inr ⟨i, ls l2 (.inr rfl)⟩)]; exact x3) (x5.mono eG)) .nil)))⟩
        | own _ => cases hb2
        | owd _ => cases hb2
        | _ => cases hb
    | false =>
      rw [thaw1_same hb] at z
      subst z
      obtain ⟨v, a, b⟩ := r.dat i d q2
      exact ⟨v, a, b.mono eG⟩
  · obtain ⟨b, q2, z⟩ := thaw_get q
    cases hb : b.meltT with
    | true =>
      rw [z, thawT_mine hb] at m
      cases m
    | false =>
      rw [thaw1_same hb] at z
      subst z
      obtain ⟨l, o, a, b', c, d, e⟩ := r.own i xs q2 m
      refine ⟨l, o, a, b', c.mono eG, ?_, e⟩
      rw [g2]
      · exact d
      · rintro (⟨j, u, qu, mu, zu⟩ | ⟨j, w⟩)
        · have := r.sep i j xs u l q2 m qu (Slot.meltT_mine mu) a zu
          subst this
          rw [q2] at qu
          cases qu
          rw [hb] at mu
          cases mu
        · exact r.ob.o3 j i xs l w q2 m a
  · intro q' m' p p'
    obtain ⟨b, q2, z⟩ := thaw_get q
    obtain ⟨b', q2', z'⟩ := thaw_get q'
    have hb : b.mine = true := by
      cases hb : b.meltT with
      | true => exact Slot.meltT_mine hb
      | false => rw [thaw1_same hb] at z; subst z; exact m
    have hb' : b'.mine = true := by
      cases hb : b'.meltT with
      | true => exact Slot.meltT_mine hb
      | false => rw [thaw1_same hb] at z'; subst z'; exact m'
    exact r.sep i j b b' l q2 hb q2' hb' p p'
  · have np : ¬ P p.1 := fun h => by
      obtain ⟨ps, h1, _⟩ := r.tb p hp
      rcases h with ⟨i, b, q, m, z⟩ | ⟨i, h⟩
      · have := (r.loose q (Slot.meltT_mine m) z).1
        rw [h1] at this
        exact this
      · obtain ⟨⟨vs, z⟩, _⟩ := r.ob.o1 i _ h
        rw [h1] at z
        cases z
    rw [g2 _ np]
    exact r.tg p hp
  · obtain ⟨b, q2, z⟩ := thaw_get q
    have := thaw1_nob b
    rw [← z] at this
    cases this
/-- an own thing becomes data -/
def frz (i : Nat) (st : Store) : Store := match st[i]? with
  | some a => if a.melt = true then st.set i (thaw1 a) else st
  | none => st
theorem Rel.frz (r : Rel K ea H0 G H σ st) {G0 : Hp} (e : Ext G0 H0 G H) (i : Nat) : ∃ G', Ext G0 H0 G' H ∧ Rel K ea H0 G' H σ (frz i st) := by
  cases q : st[i]? with
  | none => exact ⟨G, e, by unfold Pg.frz; rw [q]; exact r⟩
  | some s =>
    cases hm : s.melt with
    | false => exact ⟨G, e, by unfold Pg.frz; simp only [q, hm]; exact r⟩
    | true =>
      obtain ⟨l, o, a, b, c, d, d0⟩ := r.own i s q (Slot.melt_mine hm)
      have eG : Ex G (upd G l o) := Ex.new d
      have sG : Ex (upd G l o) H := fun x o z => by
        by_cases hx : x = l
        · subst hx
          rw [upd_same] at z
          cases z
          exact b
        · rw [upd_ne hx] at z
          exact r.s x o z
      refine ⟨upd G l o, ⟨e.g.trans eG, e.h, sG, fun x o z n => ?_⟩, ?_⟩
      · by_cases hx : x = l
        · subst hx
          exact .inl d0
        · rw [upd_ne hx] at z
          exact e.n x o z n
      · unfold Pg.frz
        simp only [q, hm, if_true]
        have il : i < st.length := (List.getElem?_eq_some_iff.mp q).1
        have r2 : Rel K ea H0 (upd G l o) H (σ.set i (some (.ref l))) (st.set i (thaw1 s)) := by
          refine ⟨sG, by rw [List.length_set, List.length_set]; exact r.len, fun j b2 q2 hb => ?_, fun j e q2 => ?_, fun j ys q2 m => ?_, fun j k ys zs m q2 m1 q' m2 p p' => ?_, r.tb, fun p hp => by
            rw [upd_ne]
            · exact r.tg p hp
            · intro z
              obtain ⟨ps, h1, _⟩ := r.tb p hp
              rw [z, b] at h1
              cases h1
              exact c.loose, ?_⟩
          · rcases set_cases q2 with ⟨rfl, hl, e⟩ | ⟨z, q2⟩
            · exfalso
              subst e
              cases s <;> first
                | (cases hb; done)
                | (cases hm; done)
            · rw [List.getElem?_set_ne z]
              exact r.exc j b2 q2 hb
          · rcases set_cases q2 with ⟨rfl, hl, e⟩ | ⟨z, q2⟩
            · obtain ⟨dd, e1, e2⟩ := thaw1_den hm c eG (l := l) upd_same
              rw [e1] at e
              cases e
              exact ⟨_, List.getElem?_set_self (by rw [← r.len]; exact hl), e2⟩
            · rw [List.getElem?_set_ne z]
              obtain ⟨v, a2, b2⟩ := r.dat j e q2
              exact ⟨v, a2, b2.mono eG⟩
          · rcases set_cases q2 with ⟨rfl, hl, e⟩ | ⟨z, q2⟩
            · subst e; rw [thaw1_mine hm] at m; cases m
            · obtain ⟨l', ws, a2, b2, c2, d2, e2⟩ := r.own j ys q2 m
              refine ⟨l', ws, by rw [List.getElem?_set_ne z]; exact a2, b2, c2.mono eG, ?_, e2⟩
              rw [upd_ne (fun w => z (by subst w; exact r.sep i j s ys l' q (Slot.melt_mine hm) q2 m a a2))]
              exact d2
          · rcases set_cases q2 with ⟨rfl, hl, e⟩ | ⟨z, q2⟩
            · subst e; rw [thaw1_mine hm] at m1; cases m1
            · rcases set_cases q' with ⟨rfl, hl, e⟩ | ⟨z', q'⟩
              · subst e; rw [thaw1_mine hm] at m2; cases m2
              · rw [List.getElem?_set_ne z] at p
                rw [List.getElem?_set_ne z'] at p'
                exact r.sep j k ys zs m q2 m1 q' m2 p p'
          · refine r.ob.tr id (fun j o' q2 => ?_) (fun _ _ _ _ _ _ z => z) (fun j b' l' q2 m p => ?_) (fun _ _ _ _ _ _ => rfl) (fun _ _ _ _ => rfl) eG (fun j l' h' _ => ?_)
            · rcases set_cases q2 with ⟨rfl, hl, e⟩ | ⟨z, q2⟩
              · have := thaw1_nob s
                rw [e] at this
                cases this
              · exact ⟨q2, by rw [List.getElem?_set_ne z]; rfl⟩
            · rcases set_cases q2 with ⟨rfl, hl, e⟩ | ⟨z, q2⟩
              · subst e; rw [thaw1_mine hm] at m; cases m
              · rw [List.getElem?_set_ne z] at p
                exact .inr ⟨b', q2, m, p⟩
            · obtain ⟨⟨vs, z⟩, g, h0⟩ := r.ob.o1 j l' h'
              refine ⟨?_, h0⟩
              rw [upd_ne]
              · exact g
              · intro y
                subst y
                exact r.ob.o3 j i s l' h' q (Slot.melt_mine hm) a
        have es : σ.set i (some (.ref l)) = σ := by
          apply List.ext_getElem?
          intro j
          by_cases z : i = j
          · subst z
            rw [List.getElem?_set_self (by rw [← r.len]; exact il), a]
          · rw [List.getElem?_set_ne z]
        rw [es] at r2
        exact r2
end
end Pg

namespace Pg
open PySem PySem.Spec PyProof.Rows L2
variable [Tb]
/-- what is asked behind a result: an exception goes to the wish W at the slots σ -/
def aft (K : PySem.W.Frag) (W : WX) (σ : L2.St) (G H : Hp) {α : Type} (r : R α) (k : α → Hp → Hp → Prop) : Prop := match r with
  | .ok a => ∀ G' H', Ext G H G' H' → k a G' H'
  | .rs c => ∀ G' H', Ext G H G' H' → W (.ref (He.ga K c)) none σ H'
  | .no => False
theorem aft_ok {K : PySem.W.Frag} {W : WX} {σ : L2.St} {G H : Hp} {α : Type} {a : α} {k : α → Hp → Hp → Prop} (h : aft K W σ G H (.ok a) k) {G' H' : Hp} (e : Ext G H G' H') : k a G' H' := h G' H' e
/-- a step, then another -/
theorem aft_bind {K : PySem.W.Frag} {W : WX} {σ : L2.St} {G H : Hp} {α β : Type} {r : R α} {g : α → R β} {k : β → Hp → Hp → Prop} (h : aft K W σ G H (r.bind g) k) : aft K W σ G H r fun a G' H' => aft K W σ G' H' (g a) k := by
  cases r with
  | no => exact h
  | rs c => exact h
  | ok a =>
    intro G' H' e
    have h' : aft K W σ G H (g a) k := h
    cases q : g a with
    | no => rw [q] at h'; exact h'
    | rs c => rw [q] at h'; exact fun G2 H2 e2 => h' G2 H2 (e.trans e2)
    | ok b => rw [q] at h'; exact fun G2 H2 e2 => h' G2 H2 (e.trans e2)
theorem aft_mono {K : PySem.W.Frag} {W : WX} {σ : L2.St} {G H : Hp} {α : Type} {r : R α} {k k' : α → Hp → Hp → Prop} (h : aft K W σ G H r k) (hk : ∀ a G' H', Ext G H G' H' → k a G' H' → k' a G' H') : aft K W σ G H r k' := by
  cases r with
  | no => exact h
  | rs c => exact h
  | ok a => exact fun G' H' e => hk a G' H' e (h G' H' e)
def R.of {α : Type} : Option α → R α
  | some a => .ok a
  | none => .no
theorem aft_of {K : PySem.W.Frag} {W : WX} {σ : L2.St} {G H : Hp} {α : Type} {o : Option α} {k : α → Hp → Hp → Prop} (h : aft K W σ G H (R.of o) k) : ∃ a, o = some a ∧ ∀ G' H', Ext G H G' H' → k a G' H' := by
  cases o with
  | none => exact h.elim
  | some a => exact ⟨a, rfl, h⟩

/-! ### the readings -/
def tE (K : PySem.W.Frag) (ea : Fi) (W : WX) (f : ME) : TE := fun σ H Q => ∃ H0 G st, Rel K ea H0 G H σ st ∧ aft K W σ G H (f st) fun d G' H' => ∀ v, Den K G' v d → Q v H'
def tT (K : PySem.W.Frag) (ea : Fi) (W : WX) (f : MT) : TT := fun σ H Q => ∃ H0 G st, Rel K ea H0 G H σ st ∧ aft K W σ G H (f st) fun b _ H' => Q b H'
def tA (K : PySem.W.Frag) (ea : Fi) (W : WX) (f : MA) : TA := fun σ H Q => ∃ H0 G st, Rel K ea H0 G H σ st ∧ aft K W σ G H (f st) fun ds G' H' => ∀ vs, Dens K G' vs ds → Q vs H'
theorem _root_.L2.PE.weak {X : Cx} {e : Expr} {t t' : TE} (h : PE X e t) (w : ∀ σ H Q, t' σ H Q → t σ H Q) : PE X e t' := ⟨fun pins s σ H Q I q => h.run pins s σ H Q I (w σ H Q q)⟩
theorem _root_.L2.PT.weak {X : Cx} {e : Expr} {t t' : TT} (h : PT X e t) (w : ∀ σ H Q, t' σ H Q → t σ H Q) : PT X e t' := ⟨fun pins s σ H Q I q => h.run pins s σ H Q I (w σ H Q q)⟩
theorem _root_.L2.PW.weak {X : Cx} {e : Expr} {t t' : TT} (h : PW X e t) (w : ∀ σ H Q, t' σ H Q → t σ H Q) : PW X e t' := ⟨fun wh pins s σ H Q I q => h.run wh pins s σ H Q I (w σ H Q q)⟩
theorem _root_.L2.PA.weak {X : Cx} {e : List Expr} {t t' : TA} (h : PA X e t) (w : ∀ σ H Q, t' σ H Q → t σ H Q) : PA X e t' := ⟨fun p pins s σ H Q I q => h.run p pins s σ H Q I (w σ H Q q)⟩
theorem _root_.L2.PS.weak {X : Cx} {e : Stmt} {t t' : TS} (h : PS X e t) (w : ∀ D σ H, t' D σ H → t D σ H) : PS X e t' := ⟨fun pins s σ H Q I q => h.run pins s σ H Q I (w Q σ H q)⟩
theorem _root_.L2.PSs.weak {X : Cx} {e : List Stmt} {t t' : TS} (h : PSs X e t) (w : ∀ D σ H, t' D σ H → t D σ H) : PSs X e t' := ⟨fun pins s σ H Q I q => h.run pins s σ H Q I (w Q σ H q)⟩

section
variable {K : PySem.W.Frag} {ea : Fi} {W : WX} {σ : L2.St} {H : Hp}
/-- one expression, then what follows -/
theorem tE.thn {f : ME} {H0 G : Hp} {st : Store} {Q : VK} (r : Rel K ea H0 G H σ st) (h : aft K W σ G H (f st) fun d G' H' => ∀ v, Den K G' v d → Q v H') : tE K ea W f σ H Q := ⟨H0, G, st, r, h⟩
end

/-! ### names, constants -/
def eVar (i : Nat) : ME := fun st => match st[i]? with
  | some (.dat d) => .ok d
  | _ => .no
def eC (d : D) : ME := fun _ => .ok d
section
variable {X : Cx} {ea : Fi} {W : WX}
theorem g_var (i : Nat) {x : Str} {pos : Pos} (hN : X.N[i]? = some x := by rfl) (hv : Vis X.env.scope x := by first | exact Or.inl rfl | exact Or.inr (Or.inl rfl) | exact Or.inr (Or.inr rfl)) (hd : (x == ("__debug__" : Str)) = false := by decide)
    (hcd : (x == ("__classdict__" : Str)) = false := by decide) : PE X (.Name x pos) (tE X.K ea W (eVar i)) := by
  refine (pe_var hN hv hd hcd).weak fun σ H Q h => ?_
  obtain ⟨H0, G, st, r, a⟩ := h
  unfold eVar at a
  cases q : st[i]? with
  | none => rw [q] at a; exact a.elim
  | some s =>
    rw [q] at a
    cases s with
    | un => exact a.elim
    | exc => exact a.elim
    | own xs => exact a.elim
    | owd xs => exact a.elim
    | lams xs => exact a.elim
    | ob o => exact a.elim
    | dat d =>
      obtain ⟨v, e, dv⟩ := r.dat i d q
      exact ⟨v, e, a G H (Ext.refl r.s) v dv⟩
theorem tE_c {K : PySem.W.Frag} {v : V} {d : D} (hd : ∀ G : Hp, Den K G v d) : ∀ σ H Q, tE K ea W (eC d) σ H Q → tC v σ H Q := fun σ H Q h => by
  obtain ⟨H0, G, st, r, a⟩ := h
  exact a G H (Ext.refl r.s) v (hd G)
theorem g_int {i : Int} {j pos} : PE X (.Constant (.int i) j pos) (tE X.K ea W (eC (.int i))) := pe_int.weak (tE_c fun _ => .int i)
theorem g_bl {b j pos} : PE X (.Constant (.bool b) j pos) (tE X.K ea W (eC (.bl b))) := pe_bl.weak (tE_c fun _ => .bl b)
theorem g_non {j pos} : PE X (.Constant .none j pos) (tE X.K ea W (eC .non)) := pe_non.weak (tE_c fun _ => .non)
theorem g_str {x j pos} : PE X (.Constant (.str x) j pos) (tE X.K ea W (eC (.str x))) := pe_str.weak (tE_c fun _ => .str x)
/-- a module's constant -/
theorem g_glob {x : Str} {v : V} {u : Value} {d : D} {pos : Pos} (hm : X.mg x = some u) (r : RelV v u) (hd : ∀ G : Hp, Den X.K G v d) (hg : Gl X x := by rfl) (hdb : (x == ("__debug__" : Str)) = false := by decide) : PE X (.Name x pos) (tE X.K ea W (eC d)) :=
  (pe_glob hg hm r hdb).weak (tE_c hd)
end

/-! ### two operands, one, calls of built-ins -/
def bin (op : D → D → Option D) (f g : ME) : ME := fun st => (f st).bind fun x => (g st).bind fun y => R.of (op x y)
def unr (op : D → Option D) (f : ME) : ME := fun st => (f st).bind fun x => R.of (op x)
def aNil : MA := fun _ => .ok []
def aCons (f : ME) (g : MA) : MA := fun st => (f st).bind fun x => (g st).bind fun xs => .ok (x :: xs)
def bcall (op : List D → Option D) (a : MA) : ME := fun st => (a st).bind fun xs => R.of (op xs)
/-- r does of values what op does of data -/
def Op2 (K : PySem.W.Frag) (r : R2) (op : D → D → Option D) : Prop := ∀ (G H : Hp) (v w : V) (x y z : D) (Q : VK), Ex G H → Den K G v x → Den K G w y → op x y = some z → (∀ u G' H', Ext G H G' H' → Den K G' u z → Q u H') → r v w H Q
def Op1 (K : PySem.W.Frag) (r : V → Hp → VK → Prop) (op : D → Option D) : Prop := ∀ (G H : Hp) (v : V) (x z : D) (Q : VK), Ex G H → Den K G v x → op x = some z → (∀ u G' H', Ext G H G' H' → Den K G' u z → Q u H') → r v H Q
def OpN (K : PySem.W.Frag) (r : List V → Hp → VK → Prop) (op : List D → Option D) : Prop := ∀ (G H : Hp) (vs : List V) (xs : List D) (z : D) (Q : VK), Ex G H → Dens K G vs xs → op xs = some z → (∀ u G' H', Ext G H G' H' → Den K G' u z → Q u H') → r vs H Q
section
variable {K : PySem.W.Frag} {ea : Fi} {W : WX}
theorem tE_bin {r : R2} {op : D → D → Option D} (ok : Op2 K r op) {f g : ME} : ∀ σ H Q, tE K ea W (bin op f g) σ H Q → tOp r (tE K ea W f) (tE K ea W g) σ H Q := fun σ H Q h => by
  obtain ⟨H0, G, st, rl, a⟩ := h
  refine ⟨H0, G, st, rl, aft_mono (aft_bind a) fun x G1 H1 e1 a1 v dv => ?_⟩
  refine ⟨H0, G1, st, rl.ext e1, aft_mono (aft_bind a1) fun y G2 H2 e2 a2 w dw => ?_⟩
  obtain ⟨z, ez, k⟩ := aft_of a2
  exact ok G2 H2 v w x y z Q e2.s (dv.mono e2.g) dw ez fun u G' H' e du => k G' H' e u du
theorem tE_un {r : V → Hp → VK → Prop} {op : D → Option D} (ok : Op1 K r op) {f : ME} : ∀ σ H Q, tE K ea W (unr op f) σ H Q → tUn r (tE K ea W f) σ H Q := fun σ H Q h => by
  obtain ⟨H0, G, st, rl, a⟩ := h
  refine ⟨H0, G, st, rl, aft_mono (aft_bind a) fun x G1 H1 e1 a1 v dv => ?_⟩
  obtain ⟨z, ez, k⟩ := aft_of a1
  exact ok G1 H1 v x z Q e1.s dv ez fun u G' H' e du => k G' H' e u du
theorem tA_nil : ∀ σ H Q, tA K ea W aNil σ H Q → tNil σ H Q := fun σ H Q h => by
  obtain ⟨H0, G, st, rl, a⟩ := h
  exact a G H (Ext.refl rl.s) [] .nil
theorem tA_cons {f : ME} {g : MA} : ∀ σ H Q, tA K ea W (aCons f g) σ H Q → tCons (tE K ea W f) (tA K ea W g) σ H Q := fun σ H Q h => by
  obtain ⟨H0, G, st, rl, a⟩ := h
  refine ⟨H0, G, st, rl, aft_mono (aft_bind a) fun x G1 H1 e1 a1 v dv => ?_⟩
  refine ⟨H0, G1, st, rl.ext e1, aft_mono (aft_bind a1) fun xs G2 H2 e2 a2 vs dvs => ?_⟩
  exact a2 G2 H2 (Ext.refl e2.s) _ (.cons (dv.mono e2.g) dvs)
theorem tE_bcall {r : List V → Hp → VK → Prop} {op : List D → Option D} (ok : OpN K r op) {a : MA} : ∀ σ H Q, tE K ea W (bcall op a) σ H Q → tCB r (tA K ea W a) σ H Q := fun σ H Q h => by
  obtain ⟨H0, G, st, rl, a⟩ := h
  refine ⟨H0, G, st, rl, aft_mono (aft_bind a) fun xs G1 H1 e1 a1 vs dvs => ?_⟩
  obtain ⟨z, ez, k⟩ := aft_of a1
  exact ok G1 H1 vs xs z Q e1.s dvs ez fun u G' H' e du => k G' H' e u du
end
section
variable {X : Cx} {ea : Fi} {W : WX} {a b : Expr} {es : List Expr} {f g : ME} {h : MA} {pos : Pos}
theorem ga_nil : PA X [] (tA X.K ea W aNil) := pa_nil.weak tA_nil
theorem ga_cons (ha : PE X a (tE X.K ea W f)) (hr : PA X es (tA X.K ea W h)) (hs : starEach (a :: es) X.env = (false, eval a X.env) :: starEach es X.env := by rfl) : PA X (a :: es) (tA X.K ea W (aCons f h)) := (pa_cons ha hr hs).weak tA_cons
theorem g_bin {op : Operator} {r : R2} {o : D → D → Option D} (ho : OpR X (binaryOp op) r) (ok : Op2 X.K r o) (ha : PE X a (tE X.K ea W f)) (hb : PE X b (tE X.K ea W g)) : PE X (.BinOp a op b pos) (tE X.K ea W (bin o f g)) := (pe_op ho ha hb).weak (tE_bin ok)
theorem g_cmp {op : CmpOp} {r : R2} {o : D → D → Option D} (ho : OpR X (compareOp op) r) (ok : Op2 X.K r o) (ha : PE X a (tE X.K ea W f)) (hb : PE X b (tE X.K ea W g)) (hm : behindInMarks op b = false) : PE X (.Compare a [op] [b] pos) (tE X.K ea W (bin o f g)) := (pe_cmpR ho ha hb hm).weak (tE_bin ok)
theorem g_ix {r : R2} {o : D → D → Option D} (hr : IxR X r) (ok : Op2 X.K r o) (ha : PE X a (tE X.K ea W f)) (hb : PE X b (tE X.K ea W g)) (hs : PlainIx b) : PE X (.Subscript a b pos) (tE X.K ea W (bin o f g)) := (pe_ix hr ha hb hs).weak (tE_bin ok)
theorem g_un {op : UnaryOp} {r : V → Hp → VK → Prop} {o : D → Option D} (ho : UnR X (unaryOp op) r) (ok : Op1 X.K r o) (ha : PE X a (tE X.K ea W f)) : PE X (.UnaryOp op a pos) (tE X.K ea W (unr o f)) := (pe_un ho ha).weak (tE_un ok)
theorem g_callB {id : String} {r : List V → Hp → VK → Prop} {o : List D → Option D} {x : Str} {p : Pos} (hc : CallR X (.builtin id) r) (ok : OpN X.K r o) (hm : X.mg x = none) (hv : bootBuiltins x = some (.builtin id)) (ha : PA X (a :: es) (tA X.K ea W h)) (hg : Gl X x := by rfl) (hn : x ≠ "__name__" := by decide) (hdb : (x == ("__debug__" : Str)) = false := by decide)
    (he : starEach (a :: es) X.env = (false, eval a X.env) :: starEach es X.env := by rfl) (hpl : (backTo pos (starEach es X.env)).any (·.1) = false := by rfl) : PE X (.Call (.Name x p) (a :: es) [] pos) (tE X.K ea W (bcall o h)) := (pe_callB hc hg hm hv ha hn hdb he hpl).weak (tE_bcall ok)
theorem g_callTy {T : String} {r : List V → Hp → VK → Prop} {o : List D → Option D} {x : Str} {p : Pos} (hc : CallR X (.type T) r) (ok : OpN X.K r o) (hm : X.mg x = none) (hv : bootBuiltins x = some (.type T)) (ha : PA X (a :: es) (tA X.K ea W h)) (hg : Gl X x := by rfl) (hn : x ≠ "__name__" := by decide) (hdb : (x == ("__debug__" : Str)) = false := by decide)
    (he : starEach (a :: es) X.env = (false, eval a X.env) :: starEach es X.env := by rfl) (hpl : (backTo pos (starEach es X.env)).any (·.1) = false := by rfl) : PE X (.Call (.Name x p) (a :: es) [] pos) (tE X.K ea W (bcall o h)) := (pe_callTy hc hg hm hv ha hn hdb he hpl).weak (tE_bcall ok)
end
end Pg

namespace Pg
open PySem PySem.Spec PyProof.Rows L2
variable [Tb]
theorem szl {n : Nat} (h : n ≤ 100000) : n ≤ sizeLine := Nat.le_trans h (by decide)
theorem szl' {n : Nat} (h : n < 100000) : n < sizeLine := Nat.lt_of_lt_of_le h (by decide)

/-! ### arithmetic -/
def addD : D → D → Option D
  | .int a, .int b => some (.int (a + b))
  | .str a, .str b => if a.length + b.length ≤ 100000 then some (.str (a ++ b)) else none
  | .lst a, .lst b => if a.length + b.length ≤ 100000 then some (.lst (a ++ b)) else none
  | .tup a, .tup b => if a.isEmpty = false ∧ b.isEmpty = false ∧ a.length + b.length ≤ 100000 then some (.tup (a ++ b)) else none
  | _, _ => none
def subD : D → D → Option D
  | .int a, .int b => some (.int (a - b))
  | _, _ => none
def mulD : D → D → Option D
  | .int a, .int b => if (-(2 ^ 64) < a ∧ a < 2 ^ 64) ∨ (-(2 ^ 64) < b ∧ b < 2 ^ 64) then some (.int (a * b)) else none
  | .lst a, .int k => if k ≤ 100000 ∧ 0 ≤ k ∧ a.length * k.toNat ≤ 100000 then some (.lst (List.replicate k.toNat a).flatten) else none
  | _, _ => none
def fdivD : D → D → Option D
  | .int a, .int b => if 0 < b ∧ b < 2 ^ 100 then some (.int (a / b)) else none
  | _, _ => none
def modD : D → D → Option D
  | .int a, .int b => if 0 < b then some (.int (a % b)) else none
  | _, _ => none
def powD : D → D → Option D
  | .int a, .int b => if 0 ≤ b ∧ b ≤ 1000 ∧ a.natAbs < 2 ^ 64 then some (.int (a ^ b.toNat)) else none
  | _, _ => none
def negD : D → Option D
  | .int a => some (.int (-a))
  | _ => none
abbrev rAddStr : R2 := fun x y H Q => ∃ i j, x = .str i ∧ y = .str j ∧ i.length + j.length ≤ sizeLine ∧ Q (.str (i ++ j)) H
def rAddD (K : Fr) : R2 := fun x y H Q => (rI0 fun i j => .int (i + j)) x y H Q ∨ rAddStr x y H Q ∨ rCat x y H Q ∨ rCatT K x y H Q
section
variable {X : Cx} {K : Fr}
theorem op_addD : OpR X (binaryOp .Add) (rAddD X.K) := op_add.or (op_add_str.or (op_cat.or op_catT))
theorem ok_add : Op2 K (rAddD K) addD := by
  intro G H v w x y z Q s dx dy e k
  cases dx with
  | int i =>
    cases dy with
    | int j => cases e; exact .inl ⟨i, j, rfl, rfl, k _ _ _ (Ext.refl s) (.int _)⟩
    | _ => cases e
  | str i =>
    cases dy with
    | str j =>
      simp only [addD] at e
      split at e
      · rename_i hl
        cases e
        exact .inr (.inl ⟨i, j, rfl, rfl, szl hl, k _ _ _ (Ext.refl s) (.str _)⟩)
      · cases e
    | _ => cases e
  | @lst a xs ds ha hd =>
    cases dy with
    | @lst b ys es hb he =>
      simp only [addD] at e
      split at e
      · rename_i hl
        cases e
        refine .inr (.inr (.inl ⟨a, b, xs, ys, rfl, rfl, s _ _ ha, s _ _ hb, szl (by rw [hd.length, he.length]; exact hl), fun p hp => ?_⟩))
        have ex := Ext.new (G := G) (H := H) (p := p) (o := .lst (xs ++ ys)) s hp
        exact k _ _ _ ex (.lst upd_same ((hd.mono ex.g).append (he.mono ex.g)))
      · cases e
    | _ => cases e
  | @tup a xs ds ha hd =>
    cases dy with
    | @tup b ys es hb he =>
      simp only [addD] at e
      split at e
      · rename_i hl
        cases e
        obtain ⟨h1, h2, hl⟩ := hl
        have n1 : xs ≠ [] := fun z => by
          subst z
          cases hd
          cases h1
        have n2 : ys ≠ [] := fun z => by
          subst z
          cases he
          cases h2
        refine .inr (.inr (.inr ⟨a, b, xs, ys, rfl, rfl, ex_t s ha, ex_t s hb, n1, szl (by rw [hd.length, he.length]; exact hl), fun z => absurd z n2, fun _ p hp => ?_⟩))
        have ex := Ext.new (G := G) (H := H) (p := p) (o := .tup (xs ++ ys)) s hp
        exact k _ _ _ ex (.tup (SqT.of upd_same) ((hd.mono ex.g).append (he.mono ex.g)))
      · cases e
    | _ => cases e
  | _ => cases y <;> cases e
theorem ok_I0 {g : Int → Int → V} {o : D → D → Option D} (ho : ∀ x y z, o x y = some z → ∃ i j, x = .int i ∧ y = .int j ∧ ∀ G : Hp, Den K G (g i j) z) : Op2 K (rI0 g) o := by
  intro G H v w x y z Q s dx dy e k
  obtain ⟨i, j, rfl, rfl, d⟩ := ho x y z e
  rw [dx.int_inv, dy.int_inv]
  exact ⟨i, j, rfl, rfl, k _ _ _ (Ext.refl s) (d G)⟩
theorem ok_I {C : Int → Int → Prop} {g : Int → Int → V} {o : D → D → Option D} (ho : ∀ x y z, o x y = some z → ∃ i j, x = .int i ∧ y = .int j ∧ C i j ∧ ∀ G : Hp, Den K G (g i j) z) : Op2 K (rI C g) o := by
  intro G H v w x y z Q s dx dy e k
  obtain ⟨i, j, rfl, rfl, c, d⟩ := ho x y z e
  rw [dx.int_inv, dy.int_inv]
  exact ⟨i, j, rfl, rfl, c, k _ _ _ (Ext.refl s) (d G)⟩
theorem ok_sub : Op2 K (rI0 fun i j => .int (i - j)) subD := ok_I0 fun x y z e => by
  cases x <;> cases y <;> cases e
  exact ⟨_, _, rfl, rfl, fun _ => .int _⟩
def rMulD : R2 := fun x y H Q => (rI CMul fun i j => .int (i * j)) x y H Q ∨ rRep x y H Q
theorem op_mulD : OpR X (binaryOp .Mult) rMulD := op_mul.or op_rep
theorem dens_flat {G : Hp} {vs : List V} {ds : List D} (h : Dens K G vs ds) : ∀ n : Nat, Dens K G (List.replicate n vs).flatten (List.replicate n ds).flatten
  | 0 => .nil
  | n + 1 => by
    rw [List.replicate_succ, List.replicate_succ, List.flatten_cons, List.flatten_cons]
    exact h.append (dens_flat h n)
theorem ok_mul : Op2 K rMulD mulD := by
  intro G H v w x y z Q s dx dy e k
  cases dx with
  | int i =>
    cases dy with
    | int j =>
      simp only [mulD] at e
      split at e
      · rename_i hl
        cases e
        exact .inl ⟨i, j, rfl, rfl, hl, k _ _ _ (Ext.refl s) (.int _)⟩
      · cases e
    | _ => cases e
  | @lst a xs ds ha hd =>
    cases dy with
    | int j =>
      simp only [mulD] at e
      split at e
      · rename_i hl
        cases e
        obtain ⟨h1, h2, h3⟩ := hl
        refine .inr ⟨a, j, xs, rfl, rfl, s _ _ ha, by omega, by omega, szl (by rw [hd.length]; exact h3), fun p hp => ?_⟩
        have ex := Ext.new (G := G) (H := H) (p := p) (o := .lst (List.replicate j.toNat xs).flatten) s hp
        exact k _ _ _ ex (.lst upd_same (dens_flat (hd.mono ex.g) _))
      · cases e
    | _ => cases e
  | _ => cases y <;> cases e
theorem ok_fdiv : Op2 K (rI CDivW fun i j => .int (i / j)) fdivD := ok_I fun x y z e => by
  cases x with
  | int i =>
    cases y with
    | int j =>
      simp only [fdivD] at e
      split at e
      · rename_i hl
        cases e
        refine ⟨i, j, rfl, rfl, wide_div (b := 100) hl.1 ?_ (by decide) (by decide), fun _ => .int _⟩
        have h1 := hl.1
        have h2 := hl.2
        have e : (j.natAbs : Int) = j := by omega
        have : (j.natAbs : Int) < 2 ^ 100 := by rw [e]; exact h2
        exact_mod_cast this
      · cases e
    | _ => cases e
  | _ => cases y <;> cases e
theorem ok_mod : Op2 K (rI (fun _ j => 0 < j) fun i j => .int (i % j)) modD := ok_I fun x y z e => by
  cases x with
  | int i =>
    cases y with
    | int j =>
      simp only [modD] at e
      split at e
      · rename_i hl
        cases e
        exact ⟨i, j, rfl, rfl, hl, fun _ => .int _⟩
      · cases e
    | _ => cases e
  | _ => cases y <;> cases e
theorem ok_pow : Op2 K (rI CPow fun i j => .int (i ^ j.toNat)) powD := ok_I fun x y z e => by
  cases x with
  | int i =>
    cases y with
    | int j =>
      simp only [powD] at e
      split at e
      · rename_i hl
        cases e
        exact ⟨i, j, rfl, rfl, ⟨hl.1, by omega, hl.2.2⟩, fun _ => .int _⟩
      · cases e
    | _ => cases e
  | _ => cases y <;> cases e
theorem ok_neg : Op1 K (rU fun i => .int (-i)) negD := by
  intro G H v x z Q s dx e k
  cases dx with
  | int i => cases e; exact ⟨i, rfl, k _ _ _ (Ext.refl s) (.int _)⟩
  | _ => cases e

/-! ### order of ints -/
def ltD : D → D → Option D
  | .int a, .int b => some (.bl (decide (a < b)))
  | _, _ => none
def leD : D → D → Option D
  | .int a, .int b => some (.bl (decide (a ≤ b)))
  | _, _ => none
def gtD : D → D → Option D
  | .int a, .int b => some (.bl (decide (b < a)))
  | _, _ => none
def geD : D → D → Option D
  | .int a, .int b => some (.bl (decide (b ≤ a)))
  | _, _ => none
theorem ok_lt : Op2 K (rI0 fun i j => .bl (decide (i < j))) ltD := ok_I0 fun x y z e => by
  cases x <;> cases y <;> cases e
  exact ⟨_, _, rfl, rfl, fun _ => .bl _⟩
theorem ok_le : Op2 K (rI0 fun i j => .bl (decide (i ≤ j))) leD := ok_I0 fun x y z e => by
  cases x <;> cases y <;> cases e
  exact ⟨_, _, rfl, rfl, fun _ => .bl _⟩
theorem ok_gt : Op2 K (rI0 fun i j => .bl (decide (j < i))) gtD := ok_I0 fun x y z e => by
  cases x <;> cases y <;> cases e
  exact ⟨_, _, rfl, rfl, fun _ => .bl _⟩
theorem ok_ge : Op2 K (rI0 fun i j => .bl (decide (j ≤ i))) geD := ok_I0 fun x y z e => by
  cases x <;> cases y <;> cases e
  exact ⟨_, _, rfl, rfl, fun _ => .bl _⟩

/-! ### is -/
def isD : D → D → Option D
  | .bl a, .bl b => some (.bl (decide (a = b)))
  | .non, .non => some (.bl true)
  | .bl _, .non => some (.bl false)
  | .int _, .non => some (.bl false)
  | .str _, .non => some (.bl false)
  | .tup _, .non => some (.bl false)
  | .lst _, .non => some (.bl false)
  | _, _ => none
def notB : Option D → Option D
  | some (.bl b) => some (.bl (!b))
  | _ => none
def isnD (x y : D) : Option D := notB (isD x y)
abbrev rIsN' : R2 := fun x y H Q => y = .non ∧ Q (.bl (decide (x = .non))) H
abbrev rNotN' : R2 := fun x y H Q => y = .non ∧ Q (.bl (!decide (x = .non))) H
def rIsD : R2 := fun x y H Q => rIsN' x y H Q ∨ rIsB x y H Q
def rIsnD : R2 := fun x y H Q => rNotN' x y H Q ∨ rNotB x y H Q
theorem op_isD : OpR X (compareOp .Is) rIsD := op_isN.or op_isBl
theorem op_isnD : OpR X (compareOp .IsNot) rIsnD := op_notN.or op_notBl
theorem isD_cases {G : Hp} {v w : V} {x y z : D} (dx : Den K G v x) (dy : Den K G w y) (e : isD x y = some z) : (w = .non ∧ z = .bl (decide (v = .non))) ∨ ∃ a b : Bool, v = .bl a ∧ w = .bl b ∧ z = .bl (decide (a = b)) := by
  cases dx with
  | adr a => cases y <;> cases e
  | fn a => cases y <;> cases e
  | dic _ => cases y <;> cases e
  | dicL _ => cases y <;> cases e
  | thk _ _ _ _ _ _ => cases y <;> cases e
  | obj _ _ _ => cases y <;> cases e
  | _ => cases dy <;> cases e <;> first
    | exact .inl ⟨rfl, by simp⟩
    | exact .inr ⟨_, _, rfl, rfl, rfl⟩
theorem ok_is : Op2 K rIsD isD := by
  intro G H v w x y z Q s dx dy e k
  rcases isD_cases dx dy e with ⟨rfl, rfl⟩ | ⟨a, b, rfl, rfl, rfl⟩
  · exact .inl ⟨rfl, k _ _ _ (Ext.refl s) (.bl _)⟩
  · exact .inr ⟨a, b, rfl, rfl, k _ _ _ (Ext.refl s) (.bl _)⟩
theorem ok_isn : Op2 K rIsnD isnD := by
  intro G H v w x y z Q s dx dy e k
  unfold isnD at e
  cases e1 : isD x y with
  | none => rw [e1] at e; cases e
  | some z1 =>
    rw [e1] at e
    rcases isD_cases dx dy e1 with ⟨rfl, rfl⟩ | ⟨a, b, rfl, rfl, rfl⟩
    · cases e
      exact .inl ⟨rfl, k _ _ _ (Ext.refl s) (.bl _)⟩
    · cases e
      exact .inr ⟨a, b, rfl, rfl, k _ _ _ (Ext.refl s) (.bl _)⟩

/-! ### in: flat items -/
def flatD : D → Bool
  | .non => true
  | .bl _ => true
  | .int _ => true
  | .str _ => true
  | _ => false
def eqF : D → D → Bool
  | .non, .non => true
  | .bl a, .bl b => a == b
  | .bl a, .int b => (if a then 1 else 0) == b
  | .int a, .bl b => a == (if b then 1 else 0)
  | .int a, .int b => a == b
  | .str a, .str b => a == b
  | _, _ => false
theorem flat_den {G : Hp} {v : V} {x : D} (h : Den K G v x) (f : flatD x = true) : flatV v = true := by
  cases h <;> first | rfl | cases f
theorem eqF_den {G : Hp} {v w : V} {x y : D} (h : Den K G v x) (h' : Den K G w y) (f : flatD x = true) (f' : flatD y = true) : eqV v w = eqF x y := by
  cases h <;> first | (cases h' <;> first | rfl | cases f') | cases f
theorem flats_den {G : Hp} : ∀ {vs : List V} {xs : List D}, Dens K G vs xs → xs.all flatD = true → vs.all flatV = true
  | _, _, .nil, _ => rfl
  | _, _, .cons h r, f => by
    rw [List.all_cons, Bool.and_eq_true] at f ⊢
    exact ⟨flat_den h f.1, flats_den r f.2⟩
theorem any_den {G : Hp} {v : V} {x : D} (h : Den K G v x) (f : flatD x = true) : ∀ {vs : List V} {xs : List D}, Dens K G vs xs → xs.all flatD = true → inV v vs = xs.any fun y => eqF y x
  | _, _, .nil, _ => rfl
  | _, _, .cons h' r, f' => by
    rw [List.all_cons, Bool.and_eq_true] at f'
    have ih := any_den h f r f'.2
    unfold inV at ih ⊢
    rw [List.any_cons, List.any_cons, ih, eqF_den h' h f'.1 f]
def inL (neg : Bool) (x : D) (ys : List D) : Option D := if flatD x = true ∧ ys.all flatD = true then some (.bl (if neg then !ys.any fun y => eqF y x else ys.any fun y => eqF y x)) else none
def inD (neg : Bool) : D → D → Option D
  | x, .lst ys => inL neg x ys
  | x, .tup ys => inL neg x ys
  | _, _ => none
theorem ok_in {neg : Bool} : Op2 K (rIn K neg) (inD neg) := by
  intro G H v w x y z Q s dx dy e k
  have go : ∀ {a : Addr} {vs : List V} {ys : List D}, w = .ref a → (SqL K H a vs ∨ SqT K H a vs) → Dens K G vs ys → inL neg x ys = some z → rIn K neg v w H Q := fun {a vs ys} ew hs hd e => by
    unfold inL at e
    split at e
    · rename_i hf
      cases e
      refine ⟨a, vs, ew, hs, flat_den dx hf.1, flats_den hd hf.2, ?_⟩
      rw [any_den dx hf.1 hd hf.2]
      exact k _ _ _ (Ext.refl s) (.bl _)
    · cases e
  cases dy with
  | lst ha hd => exact go rfl (.inl (SqL.of (s _ _ ha))) hd e
  | tup ha hd => exact go rfl (.inr (ex_t s ha)) hd e
  | _ => cases e

/-! ### == -/
mutual
def toP : D → PyData
  | .non => .none
  | .bl b => .bool b
  | .int i => .int i
  | .str x => .str x
  | .tup xs => .tuple (toPs xs)
  | .lst xs => .list (toPs xs)
  | .scr ns => .list (ns.map PyData.int)
  | .adr _ => .none
  | .fn _ => .none
  | .dic _ _ => .none
  | .thk _ _ => .none
  | .obj _ _ _ => .none
def toPs : List D → List PyData
  | [] => []
  | x :: xs => toP x :: toPs xs
end
/-- data of depth below n, no addresses in it -/
def okd : Nat → D → Bool
  | 0, _ => false
  | n + 1, d => match d with
    | .tup xs => xs.all (okd n)
    | .lst xs => xs.all (okd n)
    | .adr _ => false
    | .fn _ => false
    | .dic _ _ => false
    | .thk _ _ => false
    | .obj _ _ _ => false
    | .str s => PyData.strOk s
    | _ => true
mutual
theorem den_dp {G : Hp} : ∀ (n : Nat) {v : V} {d : D}, Den K G v d → okd n d = true → Dp K G v (toP d)
  | 0, _, _, _, h => by cases h
  | n + 1, _, _, .non, _ => .non
  | n + 1, _, _, .bl b, _ => .bl b
  | n + 1, _, _, .int i, _ => .int i
  | n + 1, _, _, .str x, _ => .str x
  | n + 1, _, _, .adr a, h => by cases h
  | n + 1, _, _, .fn a, h => by cases h
  | n + 1, _, _, .dic _, h => by cases h
  | n + 1, _, _, .dicL _, h => by cases h
  | n + 1, _, _, .thk _ _ _ _ _ _, h => by cases h
  | n + 1, _, _, .obj _ _ _, h => by cases h
  | n + 1, _, _, .lst ha hd, h => .lst (SqL.of ha) (dens_dp n hd h)
  | n + 1, _, _, .tup ha hd, h => .tup ha (dens_dp n hd h)
  | n + 1, _, _, .scr (ns := ns) ha, h => .lst ha (ints_dp ns)
theorem dens_dp {G : Hp} : ∀ (n : Nat) {vs : List V} {ds : List D}, Dens K G vs ds → ds.all (okd n) = true → DpAll K G vs (toPs ds)
  | n, _, _, .nil, _ => .nil
  | n, _, _, .cons h r, e => by
    rw [List.all_cons, Bool.and_eq_true] at e
    exact .cons (den_dp n h e.1) (dens_dp n r e.2)
theorem ints_dp {G : Hp} : ∀ ns : List Int, DpAll K G (ns.map V.int) (ns.map PyData.int)
  | [] => .nil
  | n :: r => .cons (.int n) (ints_dp r)
end
end
end Pg

namespace Pg
open PySem PySem.Spec PyProof.Rows L2
variable [Tb]
theorem toPs_eq : ∀ xs : List D, toPs xs = xs.map toP
  | [] => by unfold toPs; rfl
  | x :: xs => by unfold toPs; rw [toPs_eq xs]; rfl
theorem canLayAll_eq : ∀ xs : List PyData, PyData.canLayAll0 xs = xs.all PyData.canLay0
  | [] => by unfold PyData.canLayAll0; rfl
  | x :: xs => by unfold PyData.canLayAll0; rw [canLayAll_eq xs]; rfl
theorem depthAll_le {n : Nat} : ∀ {xs : List PyData}, (∀ x ∈ xs, PyData.depth x ≤ n) → PyData.depthAll xs ≤ n
  | [], _ => by unfold PyData.depthAll; exact Nat.zero_le _
  | x :: xs, h => by
    unfold PyData.depthAll
    have h1 := h x List.mem_cons_self
    have h2 := depthAll_le (xs := xs) fun y hy => h y (List.mem_cons_of_mem _ hy)
    omega
theorem okd_shape : ∀ (n : Nat) (d : D), okd n d = true → PyData.canLay0 (toP d) = true ∧ PyData.depth (toP d) ≤ n
  | 0, d, h => by cases h
  | n + 1, d, h => by
    have many : ∀ xs : List D, xs.all (okd n) = true → PyData.canLayAll0 (toPs xs) = true ∧ PyData.depthAll (toPs xs) ≤ n := fun xs hx => by
      have ih : ∀ x ∈ xs, PyData.canLay0 (toP x) = true ∧ PyData.depth (toP x) ≤ n := fun x m => okd_shape n x (List.all_eq_true.mp hx x m)
      rw [toPs_eq, canLayAll_eq]
      refine ⟨?_, depthAll_le fun y hy => ?_⟩
      · rw [List.all_eq_true]
        intro y hy
        obtain ⟨x, m, rfl⟩ := List.mem_map.mp hy
        exact (ih x m).1
      · obtain ⟨x, m, rfl⟩ := List.mem_map.mp hy
        exact (ih x m).2
    cases d with
    | tup xs =>
      obtain ⟨a, b⟩ := many xs h
      simp only [toP, PyData.canLay0, PyData.depth]
      exact ⟨a, by omega⟩
    | lst xs =>
      obtain ⟨a, b⟩ := many xs h
      simp only [toP, PyData.canLay0, PyData.depth]
      exact ⟨a, by omega⟩
    | adr a => cases h
    | fn a => cases h
    | dic b a => cases h
    | thk b a => cases h
    | obj b c a => cases h
    | scr ns =>
      simp only [toP, PyData.canLay0, PyData.depth]
      rw [canLayAll_eq]
      refine ⟨?_, ?_⟩
      · rw [List.all_eq_true]
        intro y hy
        obtain ⟨i, _, rfl⟩ := List.mem_map.mp hy
        simp only [PyData.canLay0]
      · have := depthAll_le (n := 0) (xs := ns.map PyData.int) fun y hy => by
          obtain ⟨i, _, rfl⟩ := List.mem_map.mp hy
          simp only [PyData.depth]; omega
        omega
    | str s =>
      simp only [toP, PyData.canLay0, PyData.depth]
      exact ⟨h, Nat.zero_le _⟩
    | non => simp only [toP, PyData.canLay0, PyData.depth]; exact ⟨trivial, Nat.zero_le _⟩
    | bl b => simp only [toP, PyData.canLay0, PyData.depth]; exact ⟨trivial, Nat.zero_le _⟩
    | int i => simp only [toP, PyData.canLay0, PyData.depth]; exact ⟨trivial, Nat.zero_le _⟩
theorem okd_shaped {d : D} (h : okd 6 d = true) : SeqAt.shaped (toP d) = true := by
  obtain ⟨a, b⟩ := okd_shape 6 d h
  unfold SeqAt.shaped
  rw [a, Bool.true_and]
  exact decide_eq_true (by omega)
def eqv (x y : D) : Bool := PyData.eqv (toP x) (toP y)
def eqD (x y : D) : Option D := if okd 6 x = true ∧ okd 6 y = true then some (.bl (eqv x y)) else none
def neD (x y : D) : Option D := if okd 6 x = true ∧ okd 6 y = true then some (.bl (!eqv x y)) else none
section
variable {X : Cx} {K : Fr}
theorem ok_eq : Op2 K (rEqD K) eqD := by
  intro G H v w x y z Q s dx dy e k
  unfold eqD at e
  split at e
  · rename_i h
    cases e
    exact ⟨_, _, den_dp 6 (dx.mono s) h.1, den_dp 6 (dy.mono s) h.2, okd_shaped h.1, okd_shaped h.2, k _ _ _ (Ext.refl s) (.bl _)⟩
  · cases e
theorem ok_ne : Op2 K (rNeD K) neD := by
  intro G H v w x y z Q s dx dy e k
  unfold neD at e
  split at e
  · rename_i h
    cases e
    exact ⟨_, _, den_dp 6 (dx.mono s) h.1, den_dp 6 (dy.mono s) h.2, okd_shaped h.1, okd_shaped h.2, k _ _ _ (Ext.refl s) (.bl _)⟩
  · cases e

/-! ### subscripts -/
def ixD : D → D → Option D
  | .lst xs, .int i => atI xs i
  | .tup xs, .int i => atI xs i
  | .scr ns, .int i => (atI ns i).map D.int
  | _, _ => none
theorem atI_den {G : Hp} {vs : List V} {xs : List D} {i : Int} {z : D} (h : Dens K G vs xs) (e : atI xs i = some z) : ∃ u, atI vs i = some u ∧ Den K G u z := by
  unfold atI at e ⊢
  rw [h.length]
  cases q : ixN xs.length i with
  | none => rw [q] at e; cases e
  | some j =>
    rw [q] at e
    exact h.get e
def rIxD (K : Fr) : R2 := fun x y H Q => rIxL K x y H Q ∨ rIxT K x y H Q
theorem ix_D : IxR X (rIxD X.K) := ix_list.or ix_tup
theorem atI_map {α β : Type} {g : α → β} {xs : List α} {i : Int} : atI (xs.map g) i = (atI xs i).map g := by
  unfold atI
  rw [List.length_map]
  cases ixN xs.length i with
  | none => rfl
  | some j => simp
theorem ok_ix : Op2 K (rIxD K) ixD := by
  intro G H v w x y z Q s dx dy e k
  cases dy with
  | int i =>
    cases dx with
    | @lst a vs xs ha hd =>
      obtain ⟨u, e1, d1⟩ := atI_den hd e
      exact .inl ⟨a, vs, i, u, rfl, rfl, SqL.of (s _ _ ha), e1, k _ _ _ (Ext.refl s) d1⟩
    | @tup a vs xs ha hd =>
      obtain ⟨u, e1, d1⟩ := atI_den hd e
      exact .inr ⟨a, vs, i, u, rfl, rfl, ex_t s ha, e1, k _ _ _ (Ext.refl s) d1⟩
    | @scr a ns ha =>
      have e' : (atI ns i).map D.int = some z := e
      cases q : atI ns i with
      | none => rw [q] at e'; cases e'
      | some m =>
        rw [q] at e'
        cases e'
        exact .inl ⟨a, ns.map V.int, i, .int m, rfl, rfl, ex_l s ha, by rw [atI_map, q]; rfl, k _ _ _ (Ext.refl s) (.int m)⟩
    | _ => cases e
  | _ => cases x <;> cases e
/-! ### slices -/
def cutD (xs : List D) (lo hi : Option Int) : List D := (xs.drop (HT.sIx xs.length 0 lo)).take (HT.sIx xs.length xs.length hi - HT.sIx xs.length 0 lo)
theorem cut_den {G : Hp} {vs : List V} {xs : List D} (h : Dens K G vs xs) (lo hi : Option Int) : Dens K G (cutV vs lo hi) (cutD xs lo hi) := by
  unfold cutV cutD
  rw [h.length]
  exact (h.drop _).take _
def slD (x : D) (lo hi : Option Int) : Option D := match x with
  | .lst xs => some (.lst (cutD xs lo hi))
  | .tup xs => if HT.sIx xs.length 0 lo = 0 ∧ HT.sIx xs.length xs.length hi = xs.length then none else some (.tup (cutD xs lo hi))
  | _ => none
abbrev MO := Store → R (Option Int)
def oNone : MO := fun _ => .ok none
def asInt : D → Option (Option Int)
  | .int i => some (some i)
  | _ => none
def oSome (f : ME) : MO := fun st => (f st).bind fun x => R.of (asInt x)
def eSl (f : ME) (l h : MO) : ME := fun st => (f st).bind fun x => (l st).bind fun lo => (h st).bind fun hi => R.of (slD x lo hi)
def tO (K : Fr) (ea : Fi) (W : WX) (f : MO) : TO := fun σ H Q => ∃ H0 G st, Rel K ea H0 G H σ st ∧ aft K W σ G H (f st) fun o _ H' => Q o H'
theorem _root_.L2.PO.weak {X : Cx} {e : Option Expr} {t t' : TO} (h : PO X e t) (w : ∀ σ H Q, t' σ H Q → t σ H Q) : PO X e t' := ⟨fun pins s σ H Q I q => h.run pins s σ H Q I (w σ H Q q)⟩
variable {ea : Fi} {W : WX}
theorem go_none : PO X none (tO X.K ea W oNone) := po_none.weak fun σ H Q h => by
  obtain ⟨H0, G, st, rl, a⟩ := h
  exact a G H (Ext.refl rl.s)
theorem go_some {e : Expr} {f : ME} (h : PE X e (tE X.K ea W f)) : PO X (some e) (tO X.K ea W (oSome f)) := (po_some h).weak fun σ H Q h => by
  obtain ⟨H0, G, st, rl, a⟩ := h
  refine ⟨H0, G, st, rl, aft_mono (aft_bind a) fun x G1 H1 e1 a1 v dv => ?_⟩
  obtain ⟨z, ez, k⟩ := aft_of a1
  cases x with
  | int i =>
    cases ez
    exact ⟨i, dv.int_inv, k G1 H1 (Ext.refl e1.s)⟩
  | _ => cases ez
def rSlD (K : Fr) : V → Option Int → Option Int → Hp → VK → Prop := fun x lo hi H Q => rSlL K x lo hi H Q ∨ rSlT K x lo hi H Q
theorem sl_D : SlR X (rSlD X.K) := sl_list.or sl_tup
theorem ok_sl {G H : Hp} {v : V} {x z : D} {lo hi : Option Int} {Q : VK} (s : Ex G H) (dx : Den K G v x) (e : slD x lo hi = some z) (k : ∀ u G' H', Ext G H G' H' → Den K G' u z → Q u H') : rSlD K v lo hi H Q := by
  cases dx with
  | @lst a vs xs ha hd =>
    cases e
    refine .inl ⟨a, vs, rfl, SqL.of (s _ _ ha), fun p hp => ?_⟩
    have ex := Ext.new (G := G) (H := H) (p := p) (o := .lst (cutV vs lo hi)) s hp
    exact k _ _ _ ex (.lst upd_same (cut_den (hd.mono ex.g) lo hi))
  | @tup a vs xs ha hd =>
    have e' : (if HT.sIx xs.length 0 lo = 0 ∧ HT.sIx xs.length xs.length hi = xs.length then none else some (D.tup (cutD xs lo hi))) = some z := e
    split at e'
    · cases e'
    · rename_i hn
      cases e'
      refine .inr ⟨a, vs, rfl, ex_t s ha, by rw [hd.length]; exact hn, fun p hp => ?_⟩
      have ex := Ext.new (G := G) (H := H) (p := p) (o := .tup (cutV vs lo hi)) s hp
      exact k _ _ _ ex (.tup (SqT.of upd_same) (cut_den (hd.mono ex.g) lo hi))
  | _ => cases e
theorem g_sl {e : Expr} {lo hi : Option Expr} {f : ME} {l h : MO} {p2 pos : Pos} (he : PE X e (tE X.K ea W f)) (hl : PO X lo (tO X.K ea W l)) (hh : PO X hi (tO X.K ea W h)) : PE X (.Subscript e (.Slice lo hi none p2) pos) (tE X.K ea W (eSl f l h)) :=
  (pe_slice sl_D he hl hh).weak fun σ H Q hq => by
    obtain ⟨H0, G, st, rl, a⟩ := hq
    refine ⟨H0, G, st, rl, aft_mono (aft_bind a) fun x G1 H1 e1 a1 v dv => ?_⟩
    refine ⟨H0, G1, st, rl.ext e1, aft_mono (aft_bind a1) fun lo G2 H2 e2 a2 => ?_⟩
    refine ⟨H0, G2, st, (rl.ext e1).ext e2, aft_mono (aft_bind a2) fun hi G3 H3 e3 a3 => ?_⟩
    obtain ⟨z, ez, k⟩ := aft_of a3
    exact ok_sl e3.s ((dv.mono e2.g).mono e3.g) ez fun u G' H' e du => k G' H' e u du
/-- xs[::-1] -/
def revD : D → Option D
  | .lst xs => some (.lst xs.reverse)
  | _ => none
theorem g_rev {e : Expr} {f : ME} {k : Nat} {p1 p2 p3 pos : Pos} (he : PE X e (tE X.K ea W f)) : PE X (.Subscript e (.Slice none none (some (.UnaryOp .USub (.Constant (.int 1) k p1) p2)) p3) pos) (tE X.K ea W (unr revD f)) :=
  (pe_revL he).weak fun σ H Q hq => by
    obtain ⟨H0, G, st, rl, a⟩ := hq
    refine ⟨H0, G, st, rl, aft_mono (aft_bind a) fun x G1 H1 e1 a1 v dv => ?_⟩
    obtain ⟨z, ez, k⟩ := aft_of a1
    cases dv with
    | @lst a vs xs ha hd =>
      cases ez
      refine ⟨a, vs, rfl, SqL.of (e1.s _ _ ha), fun p hp => ?_⟩
      have ex := Ext.new (G := G1) (H := H1) (p := p) (o := .lst vs.reverse) e1.s hp
      exact k _ _ ex _ (.lst upd_same ((hd.mono ex.g).reverse))
    | _ => cases ez
/-! ### displays -/
def eTup (a : MA) : ME := fun st => (a st).bind fun xs => if xs.length ≤ 100000 then .ok (.tup xs) else .no
def eLst (a : MA) : ME := fun st => (a st).bind fun xs => if xs.length ≤ 100000 then .ok (.lst xs) else .no
theorem g_tup {es : List Expr} {a : MA} {x1} {pos : Pos} (h : PA X es (tA X.K ea W a)) : PE X (.Tuple es x1 pos) (tE X.K ea W (eTup a)) := (pe_tup h).weak fun σ H Q hq => by
  obtain ⟨H0, G, st, rl, a⟩ := hq
  refine ⟨H0, G, st, rl, aft_mono (aft_bind a) fun xs G1 H1 e1 a1 vs dvs => ?_⟩
  split at a1
  · rename_i hl
    refine ⟨szl (by rw [dvs.length]; exact hl), fun p hp => ?_⟩
    have ex := Ext.new (G := G1) (H := H1) (p := p) (o := .tup vs) e1.s hp
    exact a1 _ _ ex _ (.tup (SqT.of upd_same) (dvs.mono ex.g))
  · exact a1.elim
theorem g_lst {es : List Expr} {a : MA} {pos : Pos} (h : PA X es (tA X.K ea W a)) : PE X (.List es pos) (tE X.K ea W (eLst a)) := (pe_lst h).weak fun σ H Q hq => by
  obtain ⟨H0, G, st, rl, a⟩ := hq
  refine ⟨H0, G, st, rl, aft_mono (aft_bind a) fun xs G1 H1 e1 a1 vs dvs => ?_⟩
  split at a1
  · rename_i hl
    refine ⟨szl (by rw [dvs.length]; exact hl), fun p hp => ?_⟩
    have ex := Ext.new (G := G1) (H := H1) (p := p) (o := .lst vs) e1.s hp
    exact a1 _ _ ex _ (.lst upd_same (dvs.mono ex.g))
  · exact a1.elim
/-! ### built-ins -/
def intsOf : List D → Option (List Int)
  | [] => some []
  | .int i :: r => (intsOf r).map (i :: ·)
  | _ :: _ => none
theorem intsOf_map : ∀ ns : List Int, intsOf (ns.map D.int) = some ns
  | [] => rfl
  | n :: r => by
    show (intsOf (r.map D.int)).map (n :: ·) = some (n :: r)
    rw [intsOf_map r] <;> rfl
theorem intsOf_inv : ∀ {xs : List D} {ns : List Int}, intsOf xs = some ns → xs = ns.map D.int
  | [], ns, h => by cases h; rfl
  | x :: r, ns, h => by
    cases x with
    | int i =>
      have h' : (intsOf r).map (i :: ·) = some ns := h
      cases q : intsOf r with
      | none => rw [q] at h'; cases h'
      | some ms =>
        rw [q] at h'
        cases h'
        rw [intsOf_inv q] <;> rfl
    | _ => cases h
def blsOf : List D → Option (List Bool)
  | [] => some []
  | .bl i :: r => (blsOf r).map (i :: ·)
  | _ :: _ => none
theorem blsOf_map : ∀ ns : List Bool, blsOf (ns.map D.bl) = some ns
  | [] => rfl
  | n :: r => by
    show (blsOf (r.map D.bl)).map (n :: ·) = some (n :: r)
    rw [blsOf_map r] <;> rfl
theorem blsOf_inv : ∀ {xs : List D} {ns : List Bool}, blsOf xs = some ns → xs = ns.map D.bl
  | [], ns, h => by cases h; rfl
  | x :: r, ns, h => by
    cases x with
    | bl i =>
      have h' : (blsOf r).map (i :: ·) = some ns := h
      cases q : blsOf r with
      | none => rw [q] at h'; cases h'
      | some ms =>
        rw [q] at h'
        cases h'
        rw [blsOf_inv q] <;> rfl
    | _ => cases h
def lenB : List D → Option D
  | [.lst xs] => some (.int xs.length)
  | [.tup xs] => some (.int xs.length)
  | [.scr xs] => some (.int xs.length)
  | _ => none
def absB : List D → Option D
  | [.int i] => some (.int (if i < 0 then -i else i))
  | _ => none
def min2B : List D → Option D
  | [.int i, .int j] => some (.int (if j < i then j else i))
  | _ => none
def max2B : List D → Option D
  | [.int i, .int j] => some (.int (if j > i then j else i))
  | _ => none
def maxI : List Int → Option Int
  | [] => none
  | [a] => some a
  | a :: r => (maxI r).map (max a)
def minI : List Int → Option Int
  | [] => none
  | [a] => some a
  | a :: r => (minI r).map (min a)
def lstArg : List D → Option (List D)
  | [.lst xs] => some xs
  | _ => none
theorem lstArg_inv {xs ys : List D} (h : lstArg xs = some ys) : xs = [.lst ys] := by
  match xs, h with
  | [.lst xs], rfl => rfl
def maxB (a : List D) : Option D := (lstArg a).bind fun xs => (intsOf xs).bind fun ns => (maxI ns).map D.int
def minB (a : List D) : Option D := (lstArg a).bind fun xs => (intsOf xs).bind fun ns => (minI ns).map D.int
def sumB (a : List D) : Option D := (lstArg a).bind fun xs => (intsOf xs).map fun ns => D.int ns.sum
def anyB (a : List D) : Option D := (lstArg a).bind fun xs => (blsOf xs).map fun ns => D.bl (ns.any id)
def allB (a : List D) : Option D := (lstArg a).bind fun xs => (blsOf xs).map fun ns => D.bl (ns.all id)
def sortI (ns : List Int) : List Int := ns.mergeSort fun a b => decide (a ≤ b)
def sortB (a : List D) : Option D := (lstArg a).bind fun xs => (intsOf xs).map fun ns => D.lst ((sortI ns).map D.int)
def listB : List D → Option D
  | [.lst xs] => some (.lst xs)
  | [.tup xs] => some (.lst xs)
  | _ => none
theorem sortI_perm (ns : List Int) : (sortI ns).Perm ns := List.mergeSort_perm ..
theorem sortI_sorted (ns : List Int) : (sortI ns).Pairwise (· ≤ ·) := by
  have h := List.pairwise_mergeSort (le := fun a b : Int => decide (a ≤ b)) (fun a b c h1 h2 => by simp at *; omega) (fun a b => by simp; omega) ns
  exact h.imp fun h => by simpa using h
theorem maxI_max : ∀ {ns : List Int} {m : Int}, maxI ns = some m → m ∈ ns ∧ ∀ y ∈ ns, y ≤ m
  | [a], m, h => by cases h; exact ⟨List.mem_cons_self, fun y hy => by simp at hy; omega⟩
  | a :: b :: r, m, h => by
    have h' : (maxI (b :: r)).map (max a) = some m := h
    cases q : maxI (b :: r) with
    | none => rw [q] at h'; cases h'
    | some k =>
      rw [q] at h'
      have e : max a k = m := Option.some.inj h'
      obtain ⟨h1, h2⟩ := maxI_max q
      refine ⟨?_, fun y hy => ?_⟩
      · by_cases z : a ≤ k
        · have : m = k := by omega
          rw [this]
          exact List.mem_cons_of_mem _ h1
        · have : m = a := by omega
          rw [this]
          exact List.mem_cons_self
      · rcases List.mem_cons.mp hy with rfl | hy
        · omega
        · have := h2 y hy
          omega
theorem minI_min : ∀ {ns : List Int} {m : Int}, minI ns = some m → m ∈ ns ∧ ∀ y ∈ ns, m ≤ y
  | [a], m, h => by cases h; exact ⟨List.mem_cons_self, fun y hy => by simp at hy; omega⟩
  | a :: b :: r, m, h => by
    have h' : (minI (b :: r)).map (min a) = some m := h
    cases q : minI (b :: r) with
    | none => rw [q] at h'; cases h'
    | some k =>
      rw [q] at h'
      have e : min a k = m := Option.some.inj h'
      obtain ⟨h1, h2⟩ := minI_min q
      refine ⟨?_, fun y hy => ?_⟩
      · by_cases z : k ≤ a
        · have : m = k := by omega
          rw [this]
          exact List.mem_cons_of_mem _ h1
        · have : m = a := by omega
          rw [this]
          exact List.mem_cons_self
      · rcases List.mem_cons.mp hy with rfl | hy
        · omega
        · have := h2 y hy
          omega
abbrev rLen (K : Fr) : List V → Hp → VK → Prop := fun xs H Q => ∃ p ys, xs = [.ref p] ∧ (SqL K H p ys ∨ SqT K H p ys) ∧ Q (.int ys.length) H
theorem ok_len : OpN K (rLen K) lenB := by
  intro G H vs xs z Q s d e k
  match xs, e with
  | [.lst xs], rfl =>
    cases d with
    | cons h r =>
      cases r
      cases h with
      | @lst a us _ ha hd => exact ⟨a, us, rfl, .inl (SqL.of (s _ _ ha)), by rw [hd.length]; exact k _ _ _ (Ext.refl s) (.int _)⟩
  | [.tup xs], rfl =>
    cases d with
    | cons h r =>
      cases r
      cases h with
      | @tup a us _ ha hd => exact ⟨a, us, rfl, .inr (ex_t s ha), by rw [hd.length]; exact k _ _ _ (Ext.refl s) (.int _)⟩
  | [.scr ns], rfl =>
    cases d with
    | cons h r =>
      cases r
      cases h with
      | @scr a us ha => exact ⟨a, ns.map V.int, rfl, .inl (ex_l s ha), by rw [List.length_map]; exact k _ _ _ (Ext.refl s) (.int _)⟩
theorem ok_abs : OpN K (fun xs H Q => ∃ i, xs = [V.int i] ∧ Q (.int (if i < 0 then -i else i)) H) absB := by
  intro G H vs xs z Q s d e k
  match xs, e with
  | [.int i], rfl =>
    obtain ⟨v, rfl, dv⟩ : ∃ v, vs = [v] ∧ Den K G v (.int i) := by cases d with | cons h r => cases r; exact ⟨_, rfl, h⟩
    exact ⟨i, by rw [dv.int_inv], k _ _ _ (Ext.refl s) (.int _)⟩
theorem two_inv {G : Hp} {vs : List V} {x y : D} (d : Dens K G vs [x, y]) : ∃ v w, vs = [v, w] ∧ Den K G v x ∧ Den K G w y := by
  cases d with
  | cons h r => cases r with | cons h' r' => cases r'; exact ⟨_, _, rfl, h, h'⟩
theorem one_inv {G : Hp} {vs : List V} {x : D} (d : Dens K G vs [x]) : ∃ v, vs = [v] ∧ Den K G v x := by
  cases d with
  | cons h r => cases r; exact ⟨_, rfl, h⟩
theorem ok_min2 : OpN K (fun xs H Q => ∃ i j, xs = [V.int i, V.int j] ∧ Q (.int (if j < i then j else i)) H) min2B := by
  intro G H vs xs z Q s d e k
  match xs, e with
  | [.int i, .int j], rfl =>
    obtain ⟨v, w, rfl, h1, h2⟩ := two_inv d
    exact ⟨i, j, by rw [h1.int_inv, h2.int_inv], k _ _ _ (Ext.refl s) (.int _)⟩
theorem ok_max2 : OpN K (fun xs H Q => ∃ i j, xs = [V.int i, V.int j] ∧ Q (.int (if j > i then j else i)) H) max2B := by
  intro G H vs xs z Q s d e k
  match xs, e with
  | [.int i, .int j], rfl =>
    obtain ⟨v, w, rfl, h1, h2⟩ := two_inv d
    exact ⟨i, j, by rw [h1.int_inv, h2.int_inv], k _ _ _ (Ext.refl s) (.int _)⟩
theorem lst_ints {G H : Hp} {vs : List V} {xs : List D} {ns : List Int} (s : Ex G H) (d : Dens K G vs [.lst xs]) (e : intsOf xs = some ns) : ∃ a, vs = [.ref a] ∧ SqL K H a (ns.map V.int) := by
  obtain ⟨v, rfl, h⟩ := one_inv d
  cases h with
  | @lst a us _ ha hd =>
    rw [intsOf_inv e] at hd
    rw [hd.ints_inv] at ha
    exact ⟨a, rfl, SqL.of (s _ _ ha)⟩
theorem lst_bls {G H : Hp} {vs : List V} {xs : List D} {ns : List Bool} (s : Ex G H) (d : Dens K G vs [.lst xs]) (e : blsOf xs = some ns) : ∃ a, vs = [.ref a] ∧ SqL K H a (ns.map V.bl) := by
  obtain ⟨v, rfl, h⟩ := one_inv d
  cases h with
  | @lst a us _ ha hd =>
    rw [blsOf_inv e] at hd
    rw [hd.bls_inv] at ha
    exact ⟨a, rfl, SqL.of (s _ _ ha)⟩
theorem ok_max : OpN K (rMax K) maxB := by
  intro G H vs xs z Q s d e k
  obtain ⟨ys, h1, e⟩ := Option.bind_eq_some_iff.mp e
  obtain ⟨ns, h2, e⟩ := Option.bind_eq_some_iff.mp e
  obtain ⟨m, h3, rfl⟩ := Option.map_eq_some_iff.mp e
  rw [lstArg_inv h1] at d
  obtain ⟨g1, g2⟩ := maxI_max h3
  obtain ⟨a, e3, hs⟩ := lst_ints s d h2
  refine ⟨a, ns, e3, hs, List.length_pos_of_mem g1, fun m' g3 g4 => ?_⟩
  have : m' = m := by have := g4 m g1; have := g2 m' g3; omega
  rw [this]
  exact k _ _ _ (Ext.refl s) (.int _)
theorem ok_min : OpN K (rMin K) minB := by
  intro G H vs xs z Q s d e k
  obtain ⟨ys, h1, e⟩ := Option.bind_eq_some_iff.mp e
  obtain ⟨ns, h2, e⟩ := Option.bind_eq_some_iff.mp e
  obtain ⟨m, h3, rfl⟩ := Option.map_eq_some_iff.mp e
  rw [lstArg_inv h1] at d
  obtain ⟨g1, g2⟩ := minI_min h3
  obtain ⟨a, e3, hs⟩ := lst_ints s d h2
  refine ⟨a, ns, e3, hs, List.length_pos_of_mem g1, fun m' g3 g4 => ?_⟩
  have : m' = m := by have := g4 m g1; have := g2 m' g3; omega
  rw [this]
  exact k _ _ _ (Ext.refl s) (.int _)
theorem ok_sum : OpN K (rSum K) sumB := by
  intro G H vs xs z Q s d e k
  obtain ⟨ys, h1, e⟩ := Option.bind_eq_some_iff.mp e
  obtain ⟨ns, h2, rfl⟩ := Option.map_eq_some_iff.mp e
  rw [lstArg_inv h1] at d
  obtain ⟨a, e3, hs⟩ := lst_ints s d h2
  exact ⟨a, ns, e3, hs, k _ _ _ (Ext.refl s) (.int _)⟩
theorem ok_any : OpN K (rAny K) anyB := by
  intro G H vs xs z Q s d e k
  obtain ⟨ys, h1, e⟩ := Option.bind_eq_some_iff.mp e
  obtain ⟨ns, h2, rfl⟩ := Option.map_eq_some_iff.mp e
  rw [lstArg_inv h1] at d
  obtain ⟨a, e3, hs⟩ := lst_bls s d h2
  exact ⟨a, ns, e3, hs, k _ _ _ (Ext.refl s) (.bl _)⟩
theorem ok_all : OpN K (rAll K) allB := by
  intro G H vs xs z Q s d e k
  obtain ⟨ys, h1, e⟩ := Option.bind_eq_some_iff.mp e
  obtain ⟨ns, h2, rfl⟩ := Option.map_eq_some_iff.mp e
  rw [lstArg_inv h1] at d
  obtain ⟨a, e3, hs⟩ := lst_bls s d h2
  exact ⟨a, ns, e3, hs, k _ _ _ (Ext.refl s) (.bl _)⟩
theorem ok_sorted : OpN K (rSortedI K) sortB := by
  intro G H vs xs z Q s d e k
  obtain ⟨ys, h1, e⟩ := Option.bind_eq_some_iff.mp e
  obtain ⟨ns, h2, rfl⟩ := Option.map_eq_some_iff.mp e
  rw [lstArg_inv h1] at d
  obtain ⟨a, e3, hs⟩ := lst_ints s d h2
  refine ⟨a, ns, e3, hs, fun ns' p g1 g2 hp => ?_⟩
  have : ns' = sortI ns := PySem.W.ksm_same (g1.trans (sortI_perm ns).symm) g2 (sortI_sorted ns)
  subst this
  have ex := Ext.new (G := G) (H := H) (p := p) (o := .lst ((sortI ns).map V.int)) s hp
  exact k _ _ _ ex (.lst upd_same (dens_ints _))
abbrev rListOf (K : Fr) : List V → Hp → VK → Prop := fun xs H Q => ∃ p ys, xs = [.ref p] ∧ (SqL K H p ys ∨ SqT K H p ys) ∧ ∀ l, H l = none → Q (.ref l) (upd H l (.lst ys))
theorem ok_list : OpN K (rListOf K) listB := by
  intro G H vs xs z Q s d e k
  match xs, e with
  | [.lst xs], rfl =>
    obtain ⟨v, rfl, h⟩ := one_inv d
    cases h with
    | @lst a us _ ha hd =>
      refine ⟨a, us, rfl, .inl (SqL.of (s _ _ ha)), fun p hp => ?_⟩
      have ex := Ext.new (G := G) (H := H) (p := p) (o := .lst us) s hp
      exact k _ _ _ ex (.lst upd_same (hd.mono ex.g))
  | [.tup xs], rfl =>
    obtain ⟨v, rfl, h⟩ := one_inv d
    cases h with
    | @tup a us _ ha hd =>
      refine ⟨a, us, rfl, .inr (ex_t s ha), fun p hp => ?_⟩
      have ex := Ext.new (G := G) (H := H) (p := p) (o := .lst us) s hp
      exact k _ _ _ ex (.lst upd_same (hd.mono ex.g))
/-! ### isinstance(x, T), T a built-in type -/
def tyN : D → String
  | .non => "NoneType"
  | .bl _ => "bool"
  | .int _ => "int"
  | .str _ => "str"
  | .tup _ => "tuple"
  | .lst _ => "list"
  | .scr _ => "list"
  | .adr _ => ""
  | .fn _ => ""
  | .dic _ _ => ""
  | .thk _ _ => ""
  | .obj _ _ _ => ""
def isiD (T : String) : D → Option D
  | .adr _ => none
  | .fn _ => none
  | .dic _ _ => none
  | .thk _ _ => none
  | .obj _ _ _ => none
  | .scr _ => none
  | x => some (.bl (tyN x == T || (tyN x == "bool" && T == "int")))
def eIsi (T : String) (f : ME) : ME := unr (isiD T) f
/-- data whose type is one of the built-in ones -/
def tyOk : D → Bool
  | .adr _ => false
  | .fn _ => false
  | .scr _ => false
  | .dic _ _ => false
  | .thk _ _ => false
  | .obj _ _ _ => false
  | _ => true
theorem tyX_den {G H : Hp} {v : V} {x : D} (s : Ex G H) (d : Den K G v x) (h : tyOk x = true) : TyX K H v (.type (tyN x)) := by
  cases d with
  | non => exact .base .non
  | bl b => exact .base (.bl b)
  | int b => exact .base (.int b)
  | str b => exact .base (.str b)
  | lst ha hd => exact .base (.lst (s _ _ ha))
  | tup ha hd =>
    rcases s, ha with ⟨s, (ha | ⟨o, ha⟩) | ha⟩
    · exact .base (.tup (s _ _ ha))
    · exact .fTuple (s _ _ ha)
    · obtain ⟨o, its, n, h1, h2, h3⟩ := ha
      exact .kTuple h1 h2
  | _ => cases h
/-- the answers that the library's look gives -/
def KitT (T : String) : Prop := ∀ x : D, tyOk x = true → kitB (tyN x) T = some (tyN x == T || (tyN x == "bool" && T == "int"))
theorem kit_all {T : String} (h : ∀ t ∈ ["NoneType", "bool", "int", "str", "tuple", "list"], kitB t T = some (t == T || (t == "bool" && T == "int"))) : KitT T := fun x hx => by
  refine h _ ?_
  cases x <;> first
    | simp [tyN]; done
    | cases hx
theorem kit_int : KitT "int" := kit_all (by decide +kernel)
theorem kit_bool : KitT "bool" := kit_all (by decide +kernel)
theorem kit_str : KitT "str" := kit_all (by decide +kernel)
theorem kit_tuple : KitT "tuple" := kit_all (by decide +kernel)
theorem g_isi {T : String} {x : Str} {e : Expr} {f : ME} {p p2 pos : Pos} (kt : KitT T) (hv : bootBuiltins x = some (.type T)) (hI : X.mg "isinstance" = none) (hT : X.mg x = none) (he : PE X e (tE X.K ea W f)) (hg : Gl X "isinstance" := by rfl) (hg2 : Gl X x := by rfl)
    (hn : x ≠ "__name__" := by decide) (hdb : (x == ("__debug__" : Str)) = false := by decide)
    (h1 : starEach [.Name x p2] X.env = (false, eval (.Name x p2) X.env) :: starEach [] X.env := by rfl) (h2 : starEach [e, .Name x p2] X.env = (false, eval e X.env) :: starEach [.Name x p2] X.env := by rfl) (hpl : (backTo pos (starEach [.Name x p2] X.env)).any (·.1) = false := by rfl) :
    PE X (.Call (.Name "isinstance" p) [e, .Name x p2] [] pos) (tE X.K ea W (eIsi T f)) :=
  (pe_callB call_isi hg hI (by decide +kernel) (pa_cons he (pa_cons (pe_bltn hg2 hT hv (v := .ty T) rfl hn hdb) pa_nil h1) h2) (by decide) (by decide) h2 hpl).weak fun σ H Q hq => by
    obtain ⟨H0, G, st, rl, a⟩ := hq
    refine ⟨H0, G, st, rl, aft_mono (aft_bind a) fun x G1 H1 e1 a1 v dv => ?_⟩
    obtain ⟨z, ez, k⟩ := aft_of a1
    have na : tyOk x = true := by cases x <;> first | rfl | cases ez
    have ez' : some (D.bl (tyN x == T || (tyN x == "bool" && T == "int"))) = some z := by
      rw [← ez]
      unfold isiD
      cases x <;> first | rfl | (exfalso; cases na)
    cases ez'
    exact ⟨v, .ty T, _, _, _, rfl, .ty T, tyX_den e1.s dv na, kit_ty (kt x na), k _ _ (Ext.refl e1.s) _ (.bl _)⟩
end
end Pg

namespace Pg
open PySem PySem.Spec PyProof.Rows L2
variable [Tb]
def asB : D → Option Bool
  | .bl b => some b
  | _ => none
theorem asB_inv {x : D} {b : Bool} (h : asB x = some b) : x = .bl b := by cases x <;> cases h; rfl
def mVal (f : ME) : MT := fun st => (f st).bind fun x => R.of (asB x)
def mAnd (t u : MT) : MT := fun st => (t st).bind fun b => if b = true then u st else .ok false
def mOr (t u : MT) : MT := fun st => (t st).bind fun b => if b = true then .ok true else u st
def mNot (t : MT) : MT := fun st => (t st).bind fun b => .ok (!b)
def vAnd (f g : ME) : ME := fun st => (f st).bind fun x => (R.of (asB x)).bind fun b => if b = true then g st else .ok (.bl false)
def vOr (f g : ME) : ME := fun st => (f st).bind fun x => (R.of (asB x)).bind fun b => if b = true then .ok (.bl true) else g st
def vNot (f : ME) : ME := fun st => (f st).bind fun x => (R.of (asB x)).bind fun b => .ok (.bl (!b))
def eIf (t : MT) (f g : ME) : ME := fun st => (t st).bind fun b => if b = true then f st else g st
def eChn (o o' : D → D → Option D) (f g h : ME) : ME := fun st => (f st).bind fun x => (g st).bind fun y => (R.of (o x y)).bind fun z => (R.of (asB z)).bind fun b => if b = true then (h st).bind fun w => R.of (o' y w) else .ok (.bl false)
section
variable {X : Cx} {K : Fr} {ea : Fi} {W : WX} {a b c : Expr} {rest : List Expr} {f g h : ME} {t u : MT} {pos : Pos}
theorem tT_val : ∀ σ H Q, tT K ea W (mVal f) σ H Q → tB (tE K ea W f) σ H Q := fun σ H Q hq => by
  obtain ⟨H0, G, st, rl, a⟩ := hq
  refine ⟨H0, G, st, rl, aft_mono (aft_bind a) fun x G1 H1 e1 a1 v dv => ?_⟩
  obtain ⟨z, ez, k⟩ := aft_of a1
  rw [asB_inv ez] at dv
  exact ⟨z, dv.bl_inv, k G1 H1 (Ext.refl e1.s)⟩
theorem gt_val {e : Expr} (he : PE X e (tE X.K ea W f)) (hi : ∀ whole, isTrue e X.env whole = (do let v ← whole; standAt e.pos; holding [v] (truthy v)) := by intro _; rfl) : PT X e (tT X.K ea W (mVal f)) := (pt_val he hi).weak tT_val
theorem gw_and1 (ha : PT X a (tT X.K ea W t)) : PW X (.BoolOp .And [a] pos) (tT X.K ea W t) := pw_and1 ha
theorem gw_or1 (ha : PT X a (tT X.K ea W t)) : PW X (.BoolOp .Or [a] pos) (tT X.K ea W t) := pw_or1 ha
theorem gw_and (ha : PT X a (tT X.K ea W t)) (hb : PW X (.BoolOp .And (b :: rest) pos) (tT X.K ea W u)) : PW X (.BoolOp .And (a :: b :: rest) pos) (tT X.K ea W (mAnd t u)) := (pw_and ha hb).weak fun σ H Q hq => by
  obtain ⟨H0, G, st, rl, a⟩ := hq
  refine ⟨H0, G, st, rl, aft_mono (aft_bind a) fun x G1 H1 e1 a1 => ?_⟩
  cases x with
  | true => exact ⟨H0, G1, st, rl.ext e1, a1⟩
  | false => exact a1 G1 H1 (Ext.refl e1.s)
theorem gw_or (ha : PT X a (tT X.K ea W t)) (hb : PW X (.BoolOp .Or (b :: rest) pos) (tT X.K ea W u)) : PW X (.BoolOp .Or (a :: b :: rest) pos) (tT X.K ea W (mOr t u)) := (pw_or ha hb).weak fun σ H Q hq => by
  obtain ⟨H0, G, st, rl, a⟩ := hq
  refine ⟨H0, G, st, rl, aft_mono (aft_bind a) fun x G1 H1 e1 a1 => ?_⟩
  cases x with
  | true => exact a1 G1 H1 (Ext.refl e1.s)
  | false => exact ⟨H0, G1, st, rl.ext e1, a1⟩
theorem gt_not (ha : PT X a (tT X.K ea W t)) : PT X (.UnaryOp .Not a pos) (tT X.K ea W (mNot t)) := (pt_not ha).weak fun σ H Q hq => by
  obtain ⟨H0, G, st, rl, a⟩ := hq
  exact ⟨H0, G, st, rl, aft_mono (aft_bind a) fun x G1 H1 e1 a1 => a1 G1 H1 (Ext.refl e1.s)⟩
theorem g_one {op} (ha : PE X a (tE X.K ea W f)) : PE X (.BoolOp op [a] pos) (tE X.K ea W f) := pe_one ha
theorem g_and (ha : PE X a (tE X.K ea W f)) (hb : PE X (.BoolOp .And (b :: rest) pos) (tE X.K ea W g)) : PE X (.BoolOp .And (a :: b :: rest) pos) (tE X.K ea W (vAnd f g)) := (pe_and ha hb).weak fun σ H Q hq => by
  obtain ⟨H0, G, st, rl, a⟩ := hq
  refine ⟨H0, G, st, rl, aft_mono (aft_bind a) fun x G1 H1 e1 a1 v dv => ?_⟩
  cases ez : asB x with
  | none => rw [ez] at a1; exact a1.elim
  | some z =>
    rw [ez] at a1
    rw [asB_inv ez] at dv
    refine ⟨z, dv.bl_inv, ?_⟩
    cases z with
    | true => exact ⟨H0, G1, st, rl.ext e1, a1⟩
    | false => exact a1 G1 H1 (Ext.refl e1.s) _ (.bl _)
theorem g_or (ha : PE X a (tE X.K ea W f)) (hb : PE X (.BoolOp .Or (b :: rest) pos) (tE X.K ea W g)) : PE X (.BoolOp .Or (a :: b :: rest) pos) (tE X.K ea W (vOr f g)) := (pe_or ha hb).weak fun σ H Q hq => by
  obtain ⟨H0, G, st, rl, a⟩ := hq
  refine ⟨H0, G, st, rl, aft_mono (aft_bind a) fun x G1 H1 e1 a1 v dv => ?_⟩
  cases ez : asB x with
  | none => rw [ez] at a1; exact a1.elim
  | some z =>
    rw [ez] at a1
    rw [asB_inv ez] at dv
    refine ⟨z, dv.bl_inv, ?_⟩
    cases z with
    | false => exact ⟨H0, G1, st, rl.ext e1, a1⟩
    | true => exact a1 G1 H1 (Ext.refl e1.s) _ (.bl _)
theorem g_not (ha : PE X a (tE X.K ea W f)) : PE X (.UnaryOp .Not a pos) (tE X.K ea W (vNot f)) := (pe_not ha).weak fun σ H Q hq => by
  obtain ⟨H0, G, st, rl, a⟩ := hq
  refine ⟨H0, G, st, rl, aft_mono (aft_bind a) fun x G1 H1 e1 a1 v dv => ?_⟩
  cases ez : asB x with
  | none => rw [ez] at a1; exact a1.elim
  | some z =>
    rw [ez] at a1
    rw [asB_inv ez] at dv
    exact ⟨z, dv.bl_inv, a1 G1 H1 (Ext.refl e1.s) _ (.bl _)⟩
theorem g_if (hc : PT X c (tT X.K ea W t)) (ha : PE X a (tE X.K ea W f)) (hb : PE X b (tE X.K ea W g)) : PE X (.IfExp c a b pos) (tE X.K ea W (eIf t f g)) := (pe_ifExp hc ha hb).weak fun σ H Q hq => by
  obtain ⟨H0, G, st, rl, a⟩ := hq
  refine ⟨H0, G, st, rl, aft_mono (aft_bind a) fun x G1 H1 e1 a1 => ?_⟩
  cases x with
  | true => exact ⟨H0, G1, st, rl.ext e1, a1⟩
  | false => exact ⟨H0, G1, st, rl.ext e1, a1⟩
theorem tE_chn {r r' : R2} {o o' : D → D → Option D} (ok : Op2 K r o) (ok' : Op2 K r' o') : ∀ σ H Q, tE K ea W (eChn o o' f g h) σ H Q → tChain r r' (tE K ea W f) (tE K ea W g) (tE K ea W h) σ H Q := fun σ H Q hq => by
  obtain ⟨H0, G, st, rl, a⟩ := hq
  refine ⟨H0, G, st, rl, aft_mono (aft_bind a) fun x G1 H1 e1 a1 v dv => ?_⟩
  refine ⟨H0, G1, st, rl.ext e1, aft_mono (aft_bind a1) fun y G2 H2 e2 a2 w dw => ?_⟩
  cases ez : o x y with
  | none => rw [ez] at a2; exact a2.elim
  | some z =>
    rw [ez] at a2
    refine ok G2 H2 v w x y z _ e2.s (dv.mono e2.g) dw ez fun q G3 H3 e3 dq => ?_
    cases ez2 : asB z with
    | none => unfold R.of at a2; simp only [R.bind] at a2; rw [ez2] at a2; exact a2.elim
    | some k =>
      unfold R.of at a2; simp only [R.bind] at a2; rw [ez2] at a2
      simp only [R.bind] at a2
      rw [asB_inv ez2] at dq
      refine ⟨k, dq.bl_inv, ?_⟩
      cases k with
      | false => exact a2 G3 H3 e3 _ (.bl _)
      | true =>
        have a3 : aft K W σ G2 H2 ((h st).bind fun w => R.of (o' y w)) (fun d G' H' => ∀ v, Den K G' v d → Q v H') := a2
        have a4 : aft K W σ G3 H3 ((h st).bind fun w => R.of (o' y w)) (fun d G' H' => ∀ v, Den K G' v d → Q v H') := by
          cases q1 : (h st).bind fun w => R.of (o' y w) with
          | no => rw [q1] at a3; exact a3
          | rs c => rw [q1] at a3; exact fun G4 H4 e4 => a3 G4 H4 (e3.trans e4)
          | ok d => rw [q1] at a3; exact fun G4 H4 e4 => a3 G4 H4 (e3.trans e4)
        refine ⟨H0, G3, st, ((rl.ext e1).ext e2).ext e3, aft_mono (aft_bind a4) fun w2 G4 H4 e4 a5 u du => ?_⟩
        obtain ⟨z2, ez3, k2⟩ := aft_of a5
        exact ok' G4 H4 _ _ y w2 z2 Q e4.s ((dw.mono e3.g).mono e4.g) du ez3 fun u G' H' e du => k2 G' H' e u du
theorem g_chn {op op' : CmpOp} {r r' : R2} {o o' : D → D → Option D} (ho : OpR X (compareOp op) r) (ok : Op2 X.K r o) (ho' : OpR X (compareOp op') r') (ok' : Op2 X.K r' o') (ha : PE X a (tE X.K ea W f)) (hb : PE X b (tE X.K ea W g)) (hc : PE X c (tE X.K ea W h))
    (hm : lastMarks [op, op'] [b, c] = false := by with_unfolding_all rfl) : PE X (.Compare a [op, op'] [b, c] pos) (tE X.K ea W (eChn o o' f g h)) := (pe_chain ho ho' ha hb hc hm).weak (tE_chn ok ok')
theorem gt_chn {op op' : CmpOp} {r r' : R2} {o o' : D → D → Option D} (ho : OpR X (compareOp op) r) (ok : Op2 X.K r o) (ho' : OpR X (compareOp op') r') (ok' : Op2 X.K r' o') (ha : PE X a (tE X.K ea W f)) (hb : PE X b (tE X.K ea W g)) (hc : PE X c (tE X.K ea W h))
    (hm : lastMarks [op, op'] [b, c] = false := by with_unfolding_all rfl) : PT X (.Compare a [op, op'] [b, c] pos) (tT X.K ea W (mVal (eChn o o' f g h))) := (pt_chain ho ho' ha hb hc hm).weak fun σ H Q hq => by
  have h1 := tT_val (f := eChn o o' f g h) σ H Q hq
  exact tE_chn ok ok' σ H _ h1
end

/-! ### calls of the text's own defs -/
/-- a def does what F says: of n arguments -/
def spOf (K : Fr) (n : Nat) (F : List D → R D) : Sp := fun vs H Q E => ∃ G ds, vs.length = n ∧ Ex G H ∧ LamX.Tabs Tb.T H ∧ (∀ p ∈ Tb.T, G p.1 = none) ∧ Dens K G vs ds ∧ match F ds with
  | .ok d => ∀ v G' H', Ext G H G' H' → Den K G' v d → Q v H'
  | .rs c => ∀ G' H', Ext G H G' H' → E (.ref (He.ga K c)) none H'
  | .no => False
def eCall (n : Nat) (F : List D → R D) (a : MA) : ME := fun st => (a st).bind fun ds => if ds.length = n then F ds else .no
/-- a def of the text as a caller takes it -/
structure DefK (P : Program) (w : World) (K : Fr) (mg : Str → Option Value) (base : Heap) (x : Str) (k n : Nat) (F : List D → R D) : Prop where
  m : mg x = some (.ref (He.ga K x))
  kp : PySem.W.keepIn K (.ref (He.ga K x)) = true
  ex : ∃ (fd : FuncData) (ps : List Str), FnOk P w K mg base (L2.CX P w) k (He.ga K x) fd ps (spOf K n F) ∧ Binds K fd ps []
abbrev Def (X : Cx) (x : Str) (k n : Nat) (F : List D → R D) : Prop := DefK X.prog X.w X.K X.mg X.base x k n F
section
variable {X : Cx} {ea : Fi} {W : WX} {x : Str} {k n : Nat} {F : List D → R D} {e : Expr} {es : List Expr} {a : MA} {p pos : Pos}
theorem g_call (df : Def X x k n F) (hr : Room k X.A) (tk : Takes X W) (ha : PA X (e :: es) (tA X.K ea W a)) (hg : Gl X x := by rfl) (hdb : (x == ("__debug__" : Str)) = false := by decide)
    (he : starEach (e :: es) X.env = (false, eval e X.env) :: starEach es X.env := by rfl) (hpl : (backTo pos (starEach es X.env)).any (·.1) = false := by rfl) :
    PE X (.Call (.Name x p) (e :: es) [] pos) (tE X.K ea W (eCall n F a)) := by
  obtain ⟨fd, ps, Fn, hb⟩ := df.ex
  refine (pe_callSD (dvs := []) (E := WE W) Fn hr hg df.m df.kp hb .nil (fun σ => passAt tk σ) ha hdb he hpl).weak fun σ H Q hq => ?_
  obtain ⟨H0, G, st, rl, a⟩ := hq
  refine ⟨H0, G, st, rl, aft_mono (aft_bind a) fun ds G1 H1 e1 a1 vs dvs => ?_⟩
  show spOf X.K n F (vs ++ []) H1 Q (WE W σ)
  rw [List.append_nil]
  split at a1
  · rename_i hl
    refine ⟨G1, ds, by rw [dvs.length]; exact hl, e1.s, (rl.ext e1).tb, (rl.ext e1).tg, dvs, ?_⟩
    cases q : F ds with
    | no => rw [q] at a1; exact a1
    | rs c => rw [q] at a1; exact a1
    | ok d => rw [q] at a1; exact fun v G' H' e dv => a1 G' H' e v dv
  · exact a1.elim
/-- a def's name as a value -/
theorem g_fn {x : Str} {pos : Pos} (hm : X.mg x = some (.ref (He.ga X.K x))) (hg : Gl X x := by rfl) (hdb : (x == ("__debug__" : Str)) = false := by decide) : PE X (.Name x pos) (tE X.K ea W (eC (.fn x))) :=
  g_glob (v := .ref (He.ga X.K x)) hm rfl (fun _ => .fn x) hg hdb
/-- a call of what an expression gives: one of the defs of the table -/
def eCallV (tab : Str → Option (Nat × (List D → R D))) (ff : ME) (a : MA) : ME := fun st => (ff st).bind fun d => match d with
  | .fn x => (match tab x with
    | some nF => (a st).bind fun ds => if ds.length = nF.1 then nF.2 ds else .no
    | none => .no)
  | _ => .no
theorem g_callV {tab : Str → Option (Nat × (List D → R D))} {fe : Expr} {ff : ME} (hf : PE X fe (tE X.K ea W ff)) (ht : ∀ x nF, tab x = some nF → Def X x k nF.1 nF.2) (hr : Room k X.A) (tk : Takes X W) (ha : PA X (e :: es) (tA X.K ea W a))
    (he : starEach (e :: es) X.env = (false, eval e X.env) :: starEach es X.env := by rfl) (hpl : (backTo pos (starEach es X.env)).any (·.1) = false := by rfl)
    (hc : eval (.Call fe (e :: es) [] pos) X.env = (do callWith pos (← eval fe X.env) [] (backTo pos (starEach (e :: es) X.env)) (backToKw pos (keywordEach [] X.env))) := by rfl) :
    PE X (.Call fe (e :: es) [] pos) (tE X.K ea W (eCallV tab ff a)) := by
  refine ⟨fun pins s σ H Q I hq => ?_⟩
  obtain ⟨H0, G, st, rl, a⟩ := hq
  refine Call_ (thn (hf.run pins s σ H (fun v H1 => ∃ G1 x nF, Ext G H G1 H1 ∧ v = .ref (He.ga X.K x) ∧ tab x = some nF ∧ aft X.K W σ G1 H1 ((‹MA› st).bind fun ds => if ds.length = nF.1 then nF.2 ds else .no) fun d G' H' => ∀ v, Den X.K G' v d → Q v H') I ?_) fun u s1 hh => ?_) hc
  · refine ⟨H0, G, st, rl, aft_mono (aft_bind a) fun d G1 H1 e1 a1 v dv => ?_⟩
    cases dv with
    | fn x =>
      cases q : tab x with
      | none => simp only [q] at a1; exact a1.elim
      | some nF => simp only [q] at a1; exact ⟨G1, x, nF, e1, rfl, q, a1⟩
    | _ => exact a1.elim
  · obtain ⟨v, H1, I1, r1, G1, x, nF, e1, rfl, q, a1⟩ := hh
    cases r1
    obtain ⟨fd, ps, Fn, hb⟩ := (ht x nF q).ex
    refine PySem.W.callWith_K (h₀ := X.base) I1.ok.mod.kin (ht x nF q).kp (thn (ha.run pos pins s1 σ H1 (fun vs H2 => spOf X.K nF.1 nF.2 vs H2 Q (WE W σ)) I1 ?_) fun us s2 ⟨vs, H2, I2, r, q2⟩ => ⟨I2.kIn, ?_⟩) he hpl
    · refine ⟨H0, G1, st, rl.ext e1, aft_mono (aft_bind a1) fun ds G2 H2 e2 a2 vs dvs => ?_⟩
      split at a2
      · rename_i hl
        refine ⟨G2, ds, by rw [dvs.length]; exact hl, e2.s, ((rl.ext e1).ext e2).tb, ((rl.ext e1).ext e2).tg, dvs, ?_⟩
        cases q : nF.2 ds with
        | no => rw [q] at a2; exact a2
        | rs c => rw [q] at a2; exact a2
        | ok d => rw [q] at a2; exact fun v G' H' e dv => a2 G' H' e v dv
      · exact a2.elim
    · exact run_fnS (E := WE W) Fn hr hb (passAt tk σ) I2 r q2
end
end Pg

namespace Pg
open PySem PySem.Spec PyProof.Rows L2
variable [Tb]
/-! ### what a loop walks -/
structure WalkD (K : Fr) (J : It) (G0 : Hp) (ds : List D) : Prop where
  goes : ∀ i H, i < ds.length → Ex G0 H → J.go i H
  stops : ∀ H, Ex G0 H → J.stop ds.length H
  yields : ∀ i G H x H', i < ds.length → Ex G0 G → Ex G H → J.yld i H x H' → ∃ G' d, ds[i]? = some d ∧ Ext G H G' H' ∧ Den K G' x d
def tI (K : Fr) (ea : Fi) (W : WX) (f : MA) : TI := fun σ H R => ∃ H0 G st, Rel K ea H0 G H σ st ∧ aft K W σ G H (f st) fun ds G' H' => ∀ J, WalkD K J G' ds → R J H'
theorem _root_.L2.PI.weak {X : Cx} {tg e : Expr} {t t' : TI} (h : PI X tg e t) (w : ∀ σ H Q, t' σ H Q → t σ H Q) : PI X tg e t' := ⟨fun pins s σ H Q I q => h.run pins s σ H Q I (w σ H Q q)⟩
def lstD : D → Option (List D)
  | .lst xs => some xs
  | _ => none
def tupD : D → Option (List D)
  | .tup xs => some xs
  | _ => none
def iSeq (sel : D → Option (List D)) (f : ME) : MA := fun st => (f st).bind fun d => R.of (sel d)
def iArg (sel : List D → Option (List D)) (a : MA) : MA := fun st => (a st).bind fun ds => R.of (sel ds)
section
variable {K : Fr} {G0 : Hp} {a b : Addr} {vs us : List V} {xs ys : List D}
theorem wd_list (h : G0 a = some (.lst vs)) (hd : Dens K G0 vs xs) : WalkD K (Itl K a) G0 xs where
  goes := fun i H hi e => walk_list.goes i H (by rw [hd.length]; exact hi) (SqL.of (e _ _ h))
  stops := fun H e => by rw [← hd.length]; exact walk_list.stops H (SqL.of (e _ _ h))
  yields := fun i G H x H' hi e0 e y => by
    obtain ⟨rfl, hx⟩ := walk_list.yields i H x H' (by rw [hd.length]; exact hi) (SqL.of (e _ _ (e0 _ _ h))) y
    obtain ⟨d, e1, e2⟩ := hd.getV hx
    exact ⟨G, d, e1, Ext.refl e, e2.mono e0⟩
theorem wd_tup (h : SqT K G0 a vs) (hd : Dens K G0 vs xs) : WalkD K (Itt K a) G0 xs where
  goes := fun i H hi e => walk_tup.goes i H (by rw [hd.length]; exact hi) (ex_t e h)
  stops := fun H e => by rw [← hd.length]; exact walk_tup.stops H (ex_t e h)
  yields := fun i G H x H' hi e0 e y => by
    obtain ⟨rfl, hx⟩ := walk_tup.yields i H x H' (by rw [hd.length]; exact hi) (ex_t (e0.trans e) h) y
    obtain ⟨d, e1, e2⟩ := hd.getV hx
    exact ⟨G, d, e1, Ext.refl e, e2.mono e0⟩
def rangeI (lo : Int) (n : Nat) : List D := (List.range n).map fun i => .int (lo + (i : Nat))
theorem wd_range {lo : Int} {n : Nat} : WalkD K (Itr lo n) G0 (rangeI lo n) where
  goes := fun i H hi e => by unfold rangeI at hi; simp only [List.length_map, List.length_range] at hi; exact hi
  stops := fun H e => by unfold rangeI; simp only [List.length_map, List.length_range]; exact Nat.le_refl _
  yields := fun i G H x H' hi e0 e y => by
    obtain ⟨rfl, rfl⟩ := y
    unfold rangeI at hi
    simp only [List.length_map, List.length_range] at hi
    exact ⟨G, .int (lo + (i : Nat)), by unfold rangeI; simp [hi], Ext.refl e, .int _⟩
/-- new pairs -/
theorem wd_pair {J : It} {n : Nat} {P : Hp → Prop} {f g : Nat → Option V} (w : Walk J n P (YPair f g)) (hP : ∀ H, Ex G0 H → P H) {ds : List D} (hn : ds.length = n)
    (hf : ∀ i x y, f i = some x → g i = some y → ∃ dx dy, ds[i]? = some (.tup [dx, dy]) ∧ Den K G0 x dx ∧ Den K G0 y dy) : WalkD K J G0 ds where
  goes := fun i H hi e => w.goes i H (by rw [← hn]; exact hi) (hP H e)
  stops := fun H e => by rw [hn]; exact w.stops H (hP H e)
  yields := fun i G H x H' hi e0 e y => by
    obtain ⟨T, u, v, rfl, hT, rfl, hu, hv⟩ := w.yields i H x H' (by rw [← hn]; exact hi) (hP H (e0.trans e)) y
    obtain ⟨dx, dy, e1, d1, d2⟩ := hf i u v hu hv
    have ex := Ext.new (G := G) (H := H) (p := T) (o := .tup [u, v]) e hT
    exact ⟨_, _, e1, ex, .tup (SqT.of upd_same) (.cons (d1.mono (e0.trans ex.g)) (.cons (d2.mono (e0.trans ex.g)) .nil))⟩
end
def zipD (xs ys : List D) : List D := List.zipWith (fun x y => D.tup [x, y]) xs ys
def zipA : List D → Option (List D)
  | [.lst xs, .lst ys] => some (zipD xs ys)
  | _ => none
def enumD (n : Nat) : List D → List D
  | [] => []
  | x :: xs => .tup [.int (n : Nat), x] :: enumD (n + 1) xs
def enumA : List D → Option (List D)
  | [.lst xs] => some (enumD 0 xs)
  | _ => none
theorem enumD_length : ∀ (n : Nat) (xs : List D), (enumD n xs).length = xs.length
  | _, [] => rfl
  | n, x :: xs => congrArg Nat.succ (enumD_length (n + 1) xs)
theorem enumD_get : ∀ (n : Nat) (xs : List D) (i : Nat), (enumD n xs)[i]? = xs[i]?.map fun x => D.tup [.int ((n + i : Nat) : Int), x]
  | _, [], i => by simp [enumD]
  | n, x :: xs, 0 => by simp [enumD]
  | n, x :: xs, i + 1 => by
    unfold enumD
    rw [List.getElem?_cons_succ, List.getElem?_cons_succ, enumD_get (n + 1) xs i]
    have : n + 1 + i = n + (i + 1) := by omega
    rw [this]
def range1A : List D → Option (List D)
  | [.int n] => if n ≤ 100000 ∧ -100000 ≤ n then some (rangeI 0 n.toNat) else none
  | _ => none
def range2A : List D → Option (List D)
  | [.int a, .int b] => if (-100000 ≤ a ∧ a ≤ 100000) ∧ -100000 ≤ b ∧ b ≤ 100000 then some (rangeI a (b - a).toNat) else none
  | _ => none
section
variable {X : Cx} {ea : Fi} {W : WX} {tg e : Expr} {f : ME} {a : MA} {pos p : Pos}
theorem gi_list (h : PE X e (tE X.K ea W f)) : PI X tg e (tI X.K ea W (iSeq lstD f)) := (pi_list h).weak fun σ H R hq => by
  obtain ⟨H0, G, st, rl, a⟩ := hq
  refine ⟨H0, G, st, rl, aft_mono (aft_bind a) fun x G1 H1 e1 a1 v dv => ?_⟩
  obtain ⟨z, ez, k⟩ := aft_of a1
  cases dv with
  | @lst a vs xs ha hd =>
    cases ez
    exact ⟨a, rfl, ⟨vs, SqL.of (e1.s _ _ ha)⟩, k G1 H1 (Ext.refl e1.s) _ (wd_list ha hd)⟩
  | _ => cases ez
theorem gi_tup (h : PE X e (tE X.K ea W f)) : PI X tg e (tI X.K ea W (iSeq tupD f)) := (pi_tup h).weak fun σ H R hq => by
  obtain ⟨H0, G, st, rl, a⟩ := hq
  refine ⟨H0, G, st, rl, aft_mono (aft_bind a) fun x G1 H1 e1 a1 v dv => ?_⟩
  obtain ⟨z, ez, k⟩ := aft_of a1
  cases dv with
  | @tup a vs xs ha hd =>
    cases ez
    exact ⟨a, rfl, ⟨vs, ex_t e1.s ha⟩, k G1 H1 (Ext.refl e1.s) _ (wd_tup ha hd)⟩
  | _ => cases ez
theorem gi_range1 (hm : X.mg "range" = none) (ha : PA X [e] (tA X.K ea W a)) (hg : Gl X "range" := by rfl) (hs : starEach [e] X.env = [(false, eval e X.env)] := by rfl) : PI X tg (.Call (.Name "range" p) [e] [] pos) (tI X.K ea W (iArg range1A a)) := (pi_range1 hg hm ha hs).weak fun σ H R hq => by
  obtain ⟨H0, G, st, rl, a⟩ := hq
  refine ⟨H0, G, st, rl, aft_mono (aft_bind a) fun ds G1 H1 e1 a1 vs dvs => ?_⟩
  obtain ⟨z, ez, k⟩ := aft_of a1
  match ds, ez with
  | [.int n], ez =>
    simp only [range1A] at ez
    split at ez
    · rename_i hn
      cases ez
      obtain ⟨v, rfl, dv⟩ := one_inv dvs
      exact ⟨n, by rw [dv.int_inv], by omega, by omega, k G1 H1 (Ext.refl e1.s) _ wd_range⟩
    · cases ez
theorem gi_range2 {e2 : Expr} (hm : X.mg "range" = none) (ha : PA X [e, e2] (tA X.K ea W a)) (hg : Gl X "range" := by rfl) (hs : starEach [e, e2] X.env = [(false, eval e X.env), (false, eval e2 X.env)] := by rfl) (hs2 : starEach [e2] X.env = [(false, eval e2 X.env)] := by rfl) :
    PI X tg (.Call (.Name "range" p) [e, e2] [] pos) (tI X.K ea W (iArg range2A a)) := (pi_range2 hg hm ha hs hs2).weak fun σ H R hq => by
  obtain ⟨H0, G, st, rl, a⟩ := hq
  refine ⟨H0, G, st, rl, aft_mono (aft_bind a) fun ds G1 H1 e1 a1 vs dvs => ?_⟩
  obtain ⟨z, ez, k⟩ := aft_of a1
  match ds, ez with
  | [.int i, .int j], ez =>
    simp only [range2A] at ez
    split at ez
    · rename_i hn
      cases ez
      obtain ⟨v, w, rfl, d1, d2⟩ := two_inv dvs
      exact ⟨i, j, by rw [d1.int_inv, d2.int_inv], by omega, k G1 H1 (Ext.refl e1.s) _ wd_range⟩
    · cases ez
theorem gi_zip {e2 : Expr} {elts : List Expr} {kk : Nat} {tpos : Pos} (hm : X.mg "zip" = none) (ha : PA X [e, e2] (tA X.K ea W a)) (hg : Gl X "zip" := by rfl) (hs : starEach [e, e2] X.env = (false, eval e X.env) :: starEach [e2] X.env := by rfl) (hpl : (backTo pos (starEach [e2] X.env)).any (·.1) = false := by rfl) :
    PI X (.Tuple elts kk tpos) (.Call (.Name "zip" p) [e, e2] [] pos) (tI X.K ea W (iArg zipA a)) := (pi_zip hg hm ha hs hpl).weak fun σ H R hq => by
  obtain ⟨H0, G, st, rl, a⟩ := hq
  refine ⟨H0, G, st, rl, aft_mono (aft_bind a) fun ds G1 H1 e1 a1 vs dvs => ?_⟩
  obtain ⟨z, ez, k⟩ := aft_of a1
  match ds, ez with
  | [.lst xs, .lst ys], rfl =>
    obtain ⟨v, w, rfl, d1, d2⟩ := two_inv dvs
    cases d1 with
    | @lst a us _ h1 hd1 =>
      cases d2 with
      | @lst b ws _ h2 hd2 =>
        refine ⟨a, b, us, ws, rfl, SqL.of (e1.s _ _ h1), SqL.of (e1.s _ _ h2), k G1 H1 (Ext.refl e1.s) _ (wd_pair (walk_zip rfl) (fun H e => ⟨SqL.of (e _ _ h1), SqL.of (e _ _ h2)⟩) ?_ fun i x y hx hy => ?_)⟩
        · unfold zipD
          rw [List.length_zipWith, hd1.length, hd2.length]
        · obtain ⟨dx, p1, q1⟩ := hd1.getV hx
          obtain ⟨dy, p2, q2⟩ := hd2.getV hy
          exact ⟨dx, dy, by unfold zipD; rw [List.getElem?_zipWith, p1, p2], q1, q2⟩
theorem gi_enum {elts : List Expr} {kk : Nat} {tpos : Pos} (hm : X.mg "enumerate" = none) (ha : PA X [e] (tA X.K ea W a)) (hg : Gl X "enumerate" := by rfl) (hs : starEach [e] X.env = [(false, eval e X.env)] := by rfl) :
    PI X (.Tuple elts kk tpos) (.Call (.Name "enumerate" p) [e] [] pos) (tI X.K ea W (iArg enumA a)) := (pi_enum hg hm ha hs).weak fun σ H R hq => by
  obtain ⟨H0, G, st, rl, a⟩ := hq
  refine ⟨H0, G, st, rl, aft_mono (aft_bind a) fun ds G1 H1 e1 a1 vs dvs => ?_⟩
  obtain ⟨z, ez, k⟩ := aft_of a1
  match ds, ez with
  | [.lst xs], rfl =>
    obtain ⟨v, rfl, d1⟩ := one_inv dvs
    cases d1 with
    | @lst a us _ h1 hd1 =>
      refine ⟨a, us, rfl, SqL.of (e1.s _ _ h1), k G1 H1 (Ext.refl e1.s) _ (wd_pair walk_enum (fun H e => SqL.of (e _ _ h1)) (by rw [enumD_length, hd1.length]) fun i x y hx hy => ?_)⟩
      obtain ⟨dy, p2, q2⟩ := hd1.getV hy
      cases hx
      exact ⟨.int (i : Nat), dy, by rw [enumD_get, p2]; simp, .int _, q2⟩
end

/-! ### targets -/
def bName (i : Nat) : D → Store → Option Store := fun d st => some (st.set i (.dat d))
def setAll : List Nat → List D → Store → Store
  | i :: is, d :: ds, st => setAll is ds (st.set i (.dat d))
  | _, _, st => st
def bTup (is : List Nat) : D → Store → Option Store := fun d st => match d with
  | .tup ds => if ds.length = is.length then some (setAll is ds st) else none
  | _ => none
def bLst (is : List Nat) : D → Store → Option Store := fun d st => match d with
  | .lst ds => if ds.length = is.length then some (setAll is ds st) else none
  | _ => none
def tgs : List Nat → TGs
  | [] => gNil
  | i :: is => gCons (gName i) (tgs is)
/-- a target g stores as b does, in the slots bs -/
def GOk (K : Fr) (bs : List Nat) (g : TG) (b : D → Store → Option Store) : Prop := ∀ (ea : Fi) (H0 G H : Hp) (v : V) (σ : L2.St) (st st' : Store) (d : D) (Q : L2.St → Hp → Prop), Rel K ea H0 G H σ st → Den K G v d → b d st = some st' →
  (∀ σ', Rel K ea H0 G H σ' st' → σ'.length = σ.length → (∀ k, k ∉ bs → σ'[k]? = σ[k]?) → Q σ' H) → g v σ H Q
section
variable {K : Fr}
theorem gok_name (i : Nat) : GOk K [i] (gName i) (bName i) := fun ea H0 G H v σ st st' d Q r dv e k => by
  cases e
  exact k _ (r.set i dv) (by rw [List.length_set]) fun j hj => List.getElem?_set_ne (by simp at hj; omega)
theorem gok_many : ∀ (is : List Nat) {ea : Fi} {H0 G H : Hp} {vs : List V} {σ : L2.St} {st : Store} {ds : List D} {Q : L2.St → Hp → Prop}, Rel K ea H0 G H σ st → Dens K G vs ds → ds.length = is.length →
    (∀ σ', Rel K ea H0 G H σ' (setAll is ds st) → σ'.length = σ.length → (∀ k, k ∉ is → σ'[k]? = σ[k]?) → Q σ' H) → tgs is vs σ H Q
  | [], ea, H0, G, H, vs, σ, st, ds, Q, r, dv, hl, k => by
    cases dv with
    | nil => exact ⟨rfl, k σ r rfl fun _ _ => rfl⟩
    | cons _ _ => cases hl
  | i :: is, ea, H0, G, H, vs, σ, st, ds, Q, r, dv, hl, k => by
    cases dv with
    | nil => cases hl
    | @cons v us d es h hr =>
      refine ⟨v, us, rfl, ?_⟩
      exact gok_many is (r.set i h) hr (Nat.succ.inj hl) fun σ' r' l' k' => k σ' r' (by rw [l', List.length_set]) fun j hj => by
        simp only [List.mem_cons, not_or] at hj
        rw [k' j hj.2, List.getElem?_set_ne (Ne.symm hj.1)]
theorem gok_tup {n : Nat} {is : List Nat} (hn : is.length = n) : GOk K is (gTup K n (tgs is)) (bTup is) := fun ea H0 G H v σ st st' d Q r dv e k => by
  cases dv with
  | @tup a vs ds ha hd =>
    simp only [bTup] at e
    split at e
    · rename_i hl
      cases e
      exact ⟨a, vs, rfl, ex_t r.s ha, by rw [hd.length, hl, hn], gok_many is r hd hl k⟩
    · cases e
  | _ => cases e
theorem gok_lst {n : Nat} {is : List Nat} (hn : is.length = n) : GOk K is (gUnl K n (tgs is)) (bLst is) := fun ea H0 G H v σ st st' d Q r dv e k => by
  cases dv with
  | @lst a vs ds ha hd =>
    simp only [bLst] at e
    split at e
    · rename_i hl
      cases e
      exact ⟨a, vs, rfl, SqL.of (r.s _ _ ha), by rw [hd.length, hl, hn], gok_many is r hd hl k⟩
    · cases e
  | _ => cases e
end
theorem gpgs_cons {X : Cx} {e : Expr} {es : List Expr} {i : Nat} {is : List Nat} (h1 : PG X e (gName i)) (h2 : PGs X es (tgs is)) (hs : (assignEach (e :: es) X.env).map (·.2) = assign e X.env :: (assignEach es X.env).map (·.2) := by rfl) : PGs X (e :: es) (tgs (i :: is)) := pgs_cons h1 h2 hs
theorem gpgs_nil {X : Cx} : PGs X [] (tgs []) := pgs_nil

/-! ### comprehensions -/
/-- an exception is not let out -/
def R.nr {α : Type} : R α → R α
  | .ok a => .ok a
  | _ => .no
abbrev W0 : WX := fun _ _ _ _ => False
theorem aft_nr {K : Fr} {W W' : WX} {σ σ' : L2.St} {G H : Hp} {α β : Type} {r : R α} {g : α → R β} {k : β → Hp → Hp → Prop} (h : aft K W σ G H (r.nr.bind g) k) : aft K W' σ' G H r fun a G' H' => aft K W σ G' H' (g a) k := by
  cases r with
  | no => exact h
  | rs c => exact h.elim
  | ok a => exact aft_bind (r := .ok a) h
def wipeS (st : Store) : List Nat → Store
  | [] => st
  | v :: vs => (wipeS st vs).set v .un
theorem Rel.wipe {K : Fr} {ea : Fi} {H0 G H : Hp} {σ : L2.St} {st : Store} (r : Rel K ea H0 G H σ st) : ∀ vs : List Nat, Rel K ea H0 G H (wipe σ vs) (wipeS st vs)
  | [] => r
  | v :: vs => (Rel.wipe r vs).forget v none
theorem wipe_get : ∀ (vs : List Nat) (σ : L2.St) (k : Nat), k ∉ vs → (wipe σ vs)[k]? = σ[k]?
  | [], _, _, _ => rfl
  | v :: vs, σ, k, h => by
    simp only [List.mem_cons, not_or] at h
    unfold L2.wipe
    rw [List.getElem?_set_ne (Ne.symm h.1)]
    exact wipe_get vs σ k h.2
theorem wipe_in : ∀ (vs : List Nat) (σ : L2.St) (k : Nat), k ∈ vs → (wipe σ vs)[k]? = if k < σ.length then some none else none
  | v :: vs, σ, k, h => by
    unfold L2.wipe
    by_cases z : v = k
    · subst z
      by_cases hl : v < σ.length
      · rw [List.getElem?_set_self (by rw [wipe_length]; exact hl), if_pos hl]
      · rw [List.getElem?_eq_none (by rw [List.length_set, wipe_length]; omega), if_neg hl]
    · rw [List.getElem?_set_ne z]
      exact wipe_in vs σ k (by
        rcases List.mem_cons.mp h with e | e
        · exact absurd e.symm z
        · exact e)
theorem wipe_same {σ σ' : L2.St} {vs : List Nat} (hl : σ'.length = σ.length) (h : ∀ k, k ∉ vs → σ'[k]? = σ[k]?) : wipe σ' vs = wipe σ vs := by
  apply List.ext_getElem?
  intro k
  by_cases hk : k ∈ vs
  · rw [wipe_in vs σ' k hk, wipe_in vs σ k hk, hl]
  · rw [wipe_get vs σ' k hk, wipe_get vs σ k hk, h k hk]
def compGo (b : D → Store → Option Store) (c : MT) (e : ME) (st : Store) : List D → R (List D)
  | [] => .ok []
  | d :: ds => (R.of (b d st)).bind fun st1 => (c st1).nr.bind fun k => if k = true then (e st1).nr.bind fun y => (compGo b c e st ds).bind fun ys => .ok (y :: ys) else compGo b c e st ds
def eComp (it : MA) (own : List Nat) (b : D → Store → Option Store) (c : MT) (e : ME) : ME := fun st => (it st).bind fun ds => (compGo b c e (wipeS st own) ds).bind fun ys => if ys.length ≤ 100000 then .ok (.lst ys) else .no
def mYes : MT := fun _ => .ok true
section
variable {K : Fr} {ea : Fi} {W : WX}
theorem tE_comp {wi : MA} {g : TG} {b : D → Store → Option Store} {bs vs : List Nat} {c : MT} {e : ME} (hg : GOk K bs g b) (hb : ∀ k, k ∈ bs → k ∈ vs) : ∀ σ H Q, tE K ea W (eComp wi vs b c e) σ H Q → tLc (tI K ea W wi) g (tT K ea W0 c) (tE K ea W0 e) vs σ H Q := fun σ H Q h => by
  obtain ⟨H0, G, st, rl, a⟩ := h
  refine ⟨H0, G, st, rl, aft_mono (aft_bind a) fun ds G1 H1 e1 a1 J wd D hD => ?_⟩
  cases q : compGo b c e (wipeS st vs) ds with
  | no => rw [q] at a1; exact a1.elim
  | rs c' =>
    exfalso
    have no : ∀ ds, compGo b c e (wipeS st vs) ds ≠ .rs c' := by
      intro ds
      induction ds with
      | nil => intro z; cases z
      | cons d ds ih =>
        intro z
        unfold compGo at z
        cases z1 : b d (wipeS st vs) with
        | none => rw [z1] at z; cases z
        | some st1 =>
          rw [z1] at z
          simp only [R.of, R.bind] at z
          cases z2 : c st1 with
          | no => rw [z2] at z; cases z
          | rs c2 => rw [z2] at z; cases z
          | ok k =>
            rw [z2] at z
            simp only [R.nr, R.bind] at z
            split at z
            · cases z3 : e st1 with
              | no => rw [z3] at z; cases z
              | rs c2 => rw [z3] at z; cases z
              | ok y =>
                rw [z3] at z
                simp only [R.nr, R.bind] at z
                cases z4 : compGo b c e (wipeS st vs) ds with
                | no => rw [z4] at z; cases z
                | rs c2 => rw [z4] at z; cases z; exact ih z4
                | ok ys => rw [z4] at z; cases z
            · exact ih z
    exact no ds q
  | ok ys =>
    rw [q] at a1
    have a2 : aft K W σ G1 H1 (if ys.length ≤ 100000 then R.ok (Pg.D.lst ys) else .no) (fun d G' H' => ∀ v, Den K G' v d → Q v H') := a1
    split at a2
    · rename_i hlen
      have fin : ∀ v G' H', Ext G1 H1 G' H' → Den K G' v (.lst ys) → Q v H' := fun v G' H' e dv => a2 G' H' e v dv
      let Pv : Nat → Hp → Prop := fun i H' => ∃ G' acc us rest, Ext G1 H1 G' H' ∧ H' D = some (.lst us) ∧ G' D = none ∧ Dens K G' us acc ∧ compGo b c e (wipeS st vs) (ds.drop i) = .ok rest ∧ ys = acc ++ rest
      refine ⟨fun i m H' => m = ds.length - i ∧ i ≤ ds.length ∧ Pv i H', ⟨ds.length, by simp, Nat.zero_le _, G1, [], [], ys, Ext.newH e1.s hD, upd_same, e1.s.back hD, .nil, q, rfl⟩, ?_⟩
      rintro i m H' ⟨rfl, hi, G', acc, us, rest, x1, x2, x3, x4, x5, x6⟩
      by_cases hlt : i < ds.length
      · refine .inr ⟨wd.goes i H' hlt (x1.g.trans x1.s), Pv (i + 1), fun H'' p => ⟨ds.length - (i + 1), by omega, rfl, hlt, p⟩, fun x H2 hy => ?_⟩
        obtain ⟨G2, d, y1, y2, y3⟩ := wd.yields i G' H' x H2 hlt x1.g x1.s hy
        have hdrop : ds.drop i = d :: ds.drop (i + 1) := by
          rw [List.drop_eq_getElem_cons hlt]
          have : ds[i] = d := by rw [List.getElem?_eq_getElem hlt] at y1; exact Option.some.inj y1
          rw [this]
        rw [hdrop] at x5
        unfold compGo at x5
        cases z1 : b d (wipeS st vs) with
        | none => rw [z1] at x5; cases x5
        | some st1 =>
          rw [z1] at x5
          simp only [R.of, R.bind] at x5
          have rl2 : Rel K ea H0 G2 H2 (wipe σ vs) (wipeS st vs) := ((rl.ext e1).ext (x1.trans y2)).wipe vs
          have nD : ∀ {G3 H3 : Hp}, Ext G' H' G3 H3 → G3 D = none := fun {G3 H3} ex => by
            cases z : G3 D with
            | none => rfl
            | some o => exact ((ex.n D o z x3).lst x2 trivial).elim
          refine hg ea H0 G2 H2 x (wipe σ vs) (wipeS st vs) st1 d _ rl2 y3 z1 fun σ2 rl3 l3 k3 => ⟨?_, ?_⟩
          · rw [wipe_same l3 fun k hk => k3 k fun z => hk (hb k z)]
            exact wipe_same (wipe_length σ vs) fun k hk => wipe_get vs σ k hk
          · refine ⟨H0, G2, st1, rl3, ?_⟩
            cases z2 : c st1 with
            | no => rw [z2] at x5; cases x5
            | rs c2 => rw [z2] at x5; cases x5
            | ok k =>
              rw [z2] at x5
              simp only [R.nr, R.bind] at x5
              intro G3 H3 e3
              cases k with
              | true =>
                rw [if_pos rfl] at x5 ⊢
                refine ⟨H0, G3, st1, rl3.ext e3, ?_⟩
                cases z3 : e st1 with
                | no => rw [z3] at x5; cases x5
                | rs c2 => rw [z3] at x5; cases x5
                | ok y =>
                  rw [z3] at x5
                  simp only [R.nr, R.bind] at x5
                  intro G4 H4 e4 yv dy
                  have ex : Ext G' H' G4 H4 := (y2.trans e3).trans e4
                  cases z4 : compGo b c e (wipeS st vs) (ds.drop (i + 1)) with
                  | no => rw [z4] at x5; cases x5
                  | rs c2 => rw [z4] at x5; cases x5
                  | ok rest' =>
                    rw [z4] at x5
                    cases x5
                    have hl2 : us.length < 100000 := by
                      have := x4.length
                      rw [x6, List.length_append, List.length_cons] at hlen
                      omega
                    have n4 := nD ex
                    have ex2 := x1.trans ex
                    exact ⟨us, ex.h.lst x2 trivial, szl' hl2, G4, acc ++ [y], us ++ [yv], rest', ex2.wr hD n4 (by rw [ex.h.lst x2 trivial]; trivial), upd_same, n4, (x4.mono ex.g).append (.cons dy .nil), z4, by rw [x6]; simp⟩
              | false =>
                rw [if_neg Bool.false_ne_true] at x5 ⊢
                have ex : Ext G' H' G3 H3 := y2.trans e3
                exact ⟨G3, acc, us, rest, x1.trans ex, ex.h.lst x2 trivial, nD ex, x4.mono ex.g, x5, x6⟩
      · have e : i = ds.length := by omega
        subst e
        rw [List.drop_length] at x5
        cases x5
        rw [List.append_nil] at x6
        subst x6
        refine .inl ⟨wd.stops H' (x1.g.trans x1.s), fin _ (upd G' D (.lst us)) H' ⟨x1.g.trans (Ex.new x3), x1.h, fun a o z => ?_, fun a o z n => ?_⟩ (.lst upd_same (x4.mono (Ex.new x3)))⟩
        · by_cases hx : a = D
          · subst hx
            rw [upd_same] at z
            cases z
            exact x2
          · rw [upd_ne hx] at z
            exact x1.s a o z
        · by_cases hx : a = D
          · subst hx
            exact .inl hD
          · rw [upd_ne hx] at z
            exact x1.n a o z n
    · exact a2.elim
end
section
variable {X : Cx} {ea : Fi} {W : WX} {elt tg iter : Expr} {ifs : List Expr} {scope : Scope} {own : List (Str × Nat)} {pos spos : Pos} {wi : MA} {g : TG} {b : D → Store → Option Store} {bs : List Nat} {c : MT} {e : ME}
theorem gp_nil {X : Cx} : PTs X [] (tT X.K ea W mYes) := ⟨fun pins s σ H Q I h => pts_nil.run pins s σ H Q I (by
  obtain ⟨H0, G, st, rl, a⟩ := h
  exact a G H (Ext.refl rl.s))⟩
theorem gp_one {X : Cx} {t : Expr} (h : PT X t (tT X.K ea W c)) : PTs X [t] (tT X.K ea W c) := pts_one h
theorem g_comp {ow : List Nat} (hw : own.map (·.2) = ow) (hc : X.calm = true) (hN : X.N.Nodup) (hi : PI X tg iter (tI X.K ea W wi)) (ok : BlkOk X.N X.env.scope scope own) (hk : GOk X.K bs g b)
    (hg : ∀ (s : Shared) (H : Hp) (C : Addr) (cl : List (Str × Addr)) (fp : List Addr), PG (X.blk s H scope (compEnvC scope cl C X.env) fp) tg g) (ht : ∀ (s : Shared) (H : Hp) (C : Addr) (cl : List (Str × Addr)) (fp : List Addr), PTs (X.blk s H scope (compEnvC scope cl C X.env) fp) ifs (tT X.K ea W0 c))
    (he : ∀ (s : Shared) (H : Hp) (C : Addr) (cl : List (Str × Addr)) (fp : List Addr), PE (X.blk s H scope (compEnvC scope cl C X.env) fp) elt (tE X.K ea W0 e)) (hb : ∀ k, k ∈ bs → k ∈ ow := by decide) (hs : ∀ x, foldedSetIterable iter X.env x = pure x := by intro _; rfl) :
    PE X (.ListComp elt [⟨tg, iter, ifs, 0⟩] scope pos) (tE X.K ea W (eComp wi ow b c e)) := by
  subst hw
  exact (pe_lc hc hN hi ok hg ht he hs).weak (tE_comp hk hb)
end
end Pg

namespace Pg
open PySem PySem.Spec PyProof.Rows L2
variable [Tb]
inductive RS where
  | nx (st : Store)
  | rt (d : D)
  | bk (st : Store)
  | ct (st : Store)
  | rs (c : PySem.Str) (st : Store)
  | no
abbrev MS := Store → RS
/-- what is asked behind a statement's result; G0, H0: the frozen heap and the heap at the start -/
def aftS (K : Fr) (ea : Fi) (W : WX) (G0 H0 : Hp) (D : Ends) (r : RS) : Prop := match r with
  | .nx st => ∀ G H σ, Ext G0 H0 G H → Rel K ea H0 G H σ st → D.nx σ H
  | .bk st => ∀ G H σ, Ext G0 H0 G H → Rel K ea H0 G H σ st → D.bk σ H
  | .ct st => ∀ G H σ, Ext G0 H0 G H → Rel K ea H0 G H σ st → D.ct σ H
  | .rt d => ∀ v G H, Ext G0 H0 G H → Den K G v d → D.rt v H
  | .rs c st => ∀ G H σ, Ext G0 H0 G H → Rel K ea H0 G H σ st → W (.ref (He.ga K c)) none σ H
  | .no => False
def tS (K : Fr) (ea : Fi) (W : WX) (m : MS) : TS := fun D σ H => ∃ G0 H0 G st, Ext G0 H0 G H ∧ Rel K ea H0 G H σ st ∧ aftS K ea W G0 H0 D (m st)
/-- an expression's result, then a statement's -/
def R.thn {α : Type} (st : Store) : R α → (α → RS) → RS
  | .ok a, g => g a
  | .rs c, _ => .rs c st
  | .no, _ => .no
theorem aftS_thn {K : Fr} {ea : Fi} {W : WX} {G0 H0 G H : Hp} {D : Ends} {σ : L2.St} {st : Store} {α : Type} {r : R α} {g : α → RS} (x : Ext G0 H0 G H) (rl : Rel K ea H0 G H σ st) (h : aftS K ea W G0 H0 D (r.thn st g)) : aft K W σ G H r fun a _ _ => aftS K ea W G0 H0 D (g a) := by
  cases r with
  | no => exact h
  | rs c => exact fun G' H' e => h G' H' σ (x.trans e) (rl.ext e)
  | ok a => exact fun _ _ _ => h
/-- read with its own lists as data -/
theorem aftS_thaw {K : Fr} {ea : Fi} {W : WX} {G0 H0 G H : Hp} {D : Ends} {σ : L2.St} {st : Store} {α : Type} {r : R α} {g : α → RS} (x : Ext G0 H0 G H) (rl : Rel K ea H0 G H σ st) {G' : Hp} (gg : Ex G G') (h : aftS K ea W G0 H0 D (r.thn st g)) : aft K W σ G' H r fun a _ _ => aftS K ea W G0 H0 D (g a) := by
  cases r with
  | no => exact h
  | rs c => exact fun G2 H2 e => h G H2 σ (x.trans (Ext.topX e.h (gg.trans (e.g.trans e.s)))) (rl.ext (Ext.topX e.h (gg.trans (e.g.trans e.s))))
  | ok a => exact fun _ _ _ => h
def mNx : MS := fun st => .nx st
def mSeq (a b : MS) : MS := fun st => match a st with
  | .nx st => b st
  | r => r
def mRet (f : ME) : MS := fun st => (f (thaw st)).thn st fun d => .rt d
def mDrop (f : ME) : MS := fun st => (f (thaw st)).thn st fun _ => .nx st
def mIf (t : MT) (a b : MS) : MS := fun st => (t (thaw st)).thn st fun k => if k = true then a st else b st
def mSet (i : Nat) (f : ME) : MS := fun st => (f st).thn st fun d => .nx (st.set i (.dat d))
/-- x = e, e a number, a text, True, False or None, read of lists of one's own too -/
def mSetF (i : Nat) (f : ME) : MS := fun st => (f (thaw st)).thn st fun d => if flatD d = true then .nx (st.set i (.dat d)) else .no
def mAsg (b : D → Store → Option Store) (f : ME) : MS := fun st => (f st).thn st fun d => match b d st with
  | some st' => .nx st'
  | none => .no
def mOwn (i : Nat) (a : MA) : MS := fun st => (a st).thn st fun ds => if ds.length ≤ 100000 then .nx (st.set i (.own ds)) else .no
def appTo (i : Nat) (d : D) (st : Store) : RS := match st[i]? with
  | some (.own xs) => if xs.length < 100000 then .nx (st.set i (.own (xs ++ [d]))) else .no
  | _ => .no
def ifOwn (i : Nat) (st : Store) (r : RS) : RS := match st[i]? with
  | some (.own _) => r
  | _ => .no
def mApp (i : Nat) (f : ME) : MS := fun st => ifOwn i st ((f st).thn st fun d => appTo i d st)
def mAppF (i : Nat) (f : ME) : MS := fun st => ifOwn i st ((f (thaw st)).thn st fun d => if flatD d = true then appTo i d st else .no)
def mFrz (i : Nat) (m : MS) : MS := fun st => m (frz i st)
def mLoop (b : D → Store → Option Store) (body : MS) : List D → MS
  | [], st => .nx st
  | d :: ds, st => match b d st with
    | none => .no
    | some st1 => match body st1 with
      | .nx st2 => mLoop b body ds st2
      | .ct st2 => mLoop b body ds st2
      | .bk st2 => .nx st2
      | r => r
def mFor (it : MA) (b : D → Store → Option Store) (body : MS) : MS := fun st => (it st).thn st fun ds => mLoop b body ds st
def mWhile (t : MT) (body : MS) : Nat → MS
  | 0, _ => .no
  | n + 1, st => (t (thaw st)).thn st fun k => if k = true then (match body st with
      | .nx st2 => mWhile t body n st2
      | .ct st2 => mWhile t body n st2
      | .bk st2 => .nx st2
      | r => r) else .nx st
def mRaise (c : PySem.Str) : MS := fun st => .rs c st
section
variable {X : Cx} {K : Fr} {ea : Fi} {W : WX} {s : Stmt} {ss : List Stmt} {a b : MS} {f : ME} {t : MT} {e : Expr} {pos : Pos}
theorem ext_den_flat {G G' : Hp} {v : V} {d : D} (h : flatD d = true) (dv : Den K G v d) : Den K G' v d := by
  cases dv with
  | non => exact .non
  | bl b => exact .bl b
  | int b => exact .int b
  | str b => exact .str b
  | _ => cases h
theorem gs_nil : PSs X [] (tS X.K ea W mNx) := pss_nil.weak fun D σ H h => by
  obtain ⟨G0, H0, G, st, x, rl, k⟩ := h
  exact k G H σ x rl
theorem tS_seq : ∀ D σ H, tS K ea W (mSeq a b) D σ H → tSeq (tS K ea W a) (tS K ea W b) D σ H := fun D σ H h => by
  obtain ⟨G0, H0, G, st, x, rl, k⟩ := h
  refine ⟨G0, H0, G, st, x, rl, ?_⟩
  unfold mSeq at k
  cases q : a st with
  | nx st' =>
    rw [q] at k
    exact fun G' H' σ' x' rl' => ⟨G0, H0, G', st', x', rl', k⟩
  | _ => rw [q] at k; exact k
theorem gs_cons (h1 : PS X s (tS X.K ea W a)) (h2 : PSs X ss (tS X.K ea W b)) : PSs X (s :: ss) (tS X.K ea W (mSeq a b)) := (pss_cons h1 h2).weak tS_seq
theorem gs_one (h1 : PS X s (tS X.K ea W a)) : PSs X [s] (tS X.K ea W a) := pss_one h1
theorem gs_ret (he : PE X e (tE X.K ea W f)) : PS X (.Return (some e) pos) (tS X.K ea W (mRet f)) := (ps_ret he).weak fun D σ H h => by
  obtain ⟨G0, H0, G, st, x, rl, k⟩ := h
  obtain ⟨G', x', gg, rl'⟩ := rl.thaw x
  refine ⟨H0, G', thaw st, rl', aft_mono (aftS_thaw x rl gg k) fun d G1 H1 e1 k1 v dv => ?_⟩
  exact k1 v G1 H1 (x'.trans e1) dv
theorem gs_drop (he : PE X e (tE X.K ea W f)) (hs : swapsWith e none pos.line X.env = pure false := by rfl) : PS X (.Expr e pos) (tS X.K ea W (mDrop f)) := (ps_expr he hs).weak fun D σ H h => by
  obtain ⟨G0, H0, G, st, x, rl, k⟩ := h
  obtain ⟨G', x', gg, rl'⟩ := rl.thaw x
  refine ⟨H0, G', thaw st, rl', aft_mono (aftS_thaw x rl gg k) fun d G1 H1 e1 k1 v dv => ?_⟩
  exact k1 G H1 σ (x.trans (Ext.topX e1.h (gg.trans (e1.g.trans e1.s)))) (rl.ext (Ext.topX e1.h (gg.trans (e1.g.trans e1.s))))
theorem gs_if {c : Expr} {sa sb : List Stmt} (hc : PT X c (tT X.K ea W t)) (ha : PSs X sa (tS X.K ea W a)) (hb : PSs X sb (tS X.K ea W b)) : PS X (.If c sa sb pos) (tS X.K ea W (mIf t a b)) := (ps_if hc ha hb).weak fun D σ H h => by
  obtain ⟨G0, H0, G, st, x, rl, k⟩ := h
  obtain ⟨G', x', gg, rl'⟩ := rl.thaw x
  refine ⟨H0, G', thaw st, rl', aft_mono (aftS_thaw x rl gg k) fun b G1 H1 e1 k1 => ?_⟩
  have x2 := x.trans (Ext.topX e1.h (gg.trans (e1.g.trans e1.s)))
  have r2 := rl.ext (Ext.topX e1.h (gg.trans (e1.g.trans e1.s)))
  cases b with
  | true => exact ⟨G0, H0, G, st, x2, r2, k1⟩
  | false => exact ⟨G0, H0, G, st, x2, r2, k1⟩
theorem gs_set {i : Nat} {x : Str} {pos' : Pos} (hN : X.N.Nodup) (hi : X.N[i]? = some x) (hx : Loc X.env.scope x) (he : PE X e (tE X.K ea W f)) (hs : swapsWith e (some (.Name x pos')) pos.line X.env = pure false := by rfl)
    (hf : X.fn x = true ∨ X.env.scope.names.lookup x = some .local := by first | exact .inl rfl | exact .inr rfl | assumption) : PS X (.Assign [.Name x pos'] e pos) (tS X.K ea W (mSet i f)) := (ps_set hN hi hx he hs hf).weak fun D σ H h => by
  obtain ⟨G0, H0, G, st, x, rl, k⟩ := h
  refine ⟨H0, G, st, rl, aft_mono (aftS_thn x rl k) fun d G1 H1 e1 k1 v dv => ?_⟩
  exact k1 G1 H1 _ (x.trans e1) ((rl.ext e1).set i dv)
theorem gs_setF {i : Nat} {x : Str} {pos' : Pos} (hN : X.N.Nodup) (hi : X.N[i]? = some x) (hx : Loc X.env.scope x) (he : PE X e (tE X.K ea W f)) (hs : swapsWith e (some (.Name x pos')) pos.line X.env = pure false := by rfl)
    (hf : X.fn x = true ∨ X.env.scope.names.lookup x = some .local := by first | exact .inl rfl | exact .inr rfl | assumption) : PS X (.Assign [.Name x pos'] e pos) (tS X.K ea W (mSetF i f)) := (ps_set hN hi hx he hs hf).weak fun D σ H h => by
  obtain ⟨G0, H0, G, st, x, rl, k⟩ := h
  obtain ⟨G', x', gg, rl'⟩ := rl.thaw x
  refine ⟨H0, G', thaw st, rl', aft_mono (aftS_thaw x rl gg k) fun d G1 H1 e1 k1 v dv => ?_⟩
  split at k1
  · rename_i hfl
    exact k1 G H1 _ (x.trans (Ext.topX e1.h (gg.trans (e1.g.trans e1.s)))) ((rl.ext (Ext.topX e1.h (gg.trans (e1.g.trans e1.s)))).set i (ext_den_flat hfl dv))
  · exact k1.elim
theorem gs_setLc {i : Nat} {y : Str} {py : Pos} {elt tg iter : Expr} {ifs : List Expr} {scope : Scope} {own : List (Str × Nat)} {lpos spos : Pos} {wi : MA} {g : TG} {bd : D → Store → Option Store} {bs : List Nat} {c : MT} {f : ME}
    {ow : List Nat} (hw : own.map (·.2) = ow) (hc : X.calm = true) (hN : X.N.Nodup) (hy : X.N[i]? = some y) (hyl : X.env.scope.names.lookup y = some .local) (hsw : swapsWith (.ListComp elt [⟨tg, iter, ifs, 0⟩] scope lpos) (some (.Name y py)) spos.line X.env = pure true)
    (hi : PI X tg iter (tI X.K ea W wi)) (ok : BlkOk X.N X.env.scope scope own) (hk : GOk X.K bs g bd)
    (hg : ∀ (s : Shared) (H : Hp) (C : Addr) (cl : List (Str × Addr)) (fp : List Addr), PG (X.blk s H scope (compEnvC scope cl C X.env) fp) tg g) (ht : ∀ (s : Shared) (H : Hp) (C : Addr) (cl : List (Str × Addr)) (fp : List Addr), PTs (X.blk s H scope (compEnvC scope cl C X.env) fp) ifs (tT X.K ea W0 c))
    (he : ∀ (s : Shared) (H : Hp) (C : Addr) (cl : List (Str × Addr)) (fp : List Addr), PE (X.blk s H scope (compEnvC scope cl C X.env) fp) elt (tE X.K ea W0 f)) (hb : ∀ k, k ∈ bs → k ∈ ow := by decide) (hs : ∀ x, foldedSetIterable iter X.env x = pure x := by intro _; rfl) :
    PS X (.Assign [.Name y py] (.ListComp elt [⟨tg, iter, ifs, 0⟩] scope lpos) spos) (tS X.K ea W (mSet i (eComp wi ow bd c f))) := by
  subst hw
  refine (ps_setLc hc hN hy hyl hsw hi ok hg ht he hs).weak fun D σ H h => ?_
  obtain ⟨G0, H0, G, st, x, rl, k⟩ := h
  refine tE_comp hk hb σ H _ ⟨H0, G, st, rl, aft_mono (aftS_thn x rl k) fun d G1 H1 e1 k1 v dv => ?_⟩
  exact k1 G1 H1 _ (x.trans e1) ((rl.ext e1).set i dv)
theorem gs_asg {tg : Expr} {g : TG} {bd : D → Store → Option Store} {bs : List Nat} (he : PE X e (tE X.K ea W f)) (hg : PG X tg g) (hk : GOk X.K bs g bd) (hs : swapsWithSole [tg] e pos.line X.env = pure false := by rfl) (hw : swappedStores [tg] e X.env = pure none := by rfl) (h1 : (assignEach [tg] X.env).map (·.2) = [assign tg X.env] := by rfl) :
    PS X (.Assign [tg] e pos) (tS X.K ea W (mAsg bd f)) := (ps_asg he hg hs hw h1).weak fun D σ H h => by
  obtain ⟨G0, H0, G, st, x, rl, k⟩ := h
  refine ⟨H0, G, st, rl, aft_mono (aftS_thn x rl k) fun d G1 H1 e1 k1 v dv => ?_⟩
  cases q : bd d st with
  | none => rw [q] at k1; exact k1.elim
  | some st' =>
    rw [q] at k1
    exact hk ea H0 G1 H1 v σ st st' d _ (rl.ext e1) dv q fun σ' r' _ _ => k1 G1 H1 σ' (x.trans e1) r'
theorem gs_own {i : Nat} {x : Str} {pos' lpos : Pos} {es : List Expr} {ar : MA} (hN : X.N.Nodup) (hi : X.N[i]? = some x) (hx : Loc X.env.scope x) (ha : PA X es (tA X.K ea W ar)) (hs : swapsWith (.List es lpos) (some (.Name x pos')) pos.line X.env = pure false := by rfl)
    (hf : X.fn x = true ∨ X.env.scope.names.lookup x = some .local := by first | exact .inl rfl | exact .inr rfl | assumption) : PS X (.Assign [.Name x pos'] (.List es lpos) pos) (tS X.K ea W (mOwn i ar)) := (ps_set hN hi hx (pe_lst ha) hs hf).weak fun D σ H h => by
  obtain ⟨G0, H0, G, st, x, rl, k⟩ := h
  refine ⟨H0, G, st, rl, aft_mono (aftS_thn x rl k) fun ds G1 H1 e1 k1 vs dvs => ?_⟩
  split at k1
  · rename_i hl
    refine ⟨szl (by rw [dvs.length]; exact hl), fun p hp => ?_⟩
    have x1 := x.trans e1
    have h0 := x1.h.back hp
    exact k1 G1 _ _ (x1.trans (Ext.newH e1.s hp)) ((rl.ext e1).setOwn i hp h0 dvs)
  · exact k1.elim
/-- xs.append(e) -/
theorem tS_app {i : Nat} {d : D} {D : Ends} {G0 H0 G H : Hp} {σ : L2.St} {st : Store} {l : Addr} {v : V} (x : Ext G0 H0 G H) (rl : Rel K ea H0 G H σ st) (dv : Den K G v d) (p : σ[i]? = some (some (.ref l))) (k : aftS K ea W G0 H0 D (appTo i d st)) :
    rAppend (.ref l) [v] H fun _ H1 => D.nx σ H1 := by
  unfold appTo at k
  cases q : st[i]? with
  | none => rw [q] at k; exact k.elim
  | some s =>
    rw [q] at k
    cases s with
    | own xs =>
      simp only at k
      split at k
      · rename_i hl
        obtain ⟨l', us, a1, b1, c1, d1, e1⟩ := rl.ownL q
        rw [p] at a1
        cases a1
        exact ⟨l, us, v, rfl, rfl, b1, szl' (by rw [c1.length]; exact hl), k G _ σ (x.wr e1 d1 (by rw [b1]; trivial)) (rl.mut q p (c1.append (.cons dv .nil)))⟩
      · exact k.elim
    | _ => exact k.elim
theorem if_own {D : Ends} {G0 H0 G H : Hp} {σ : L2.St} {st : Store} {i : Nat} {r : RS} (rl : Rel K ea H0 G H σ st) (k : aftS K ea W G0 H0 D (ifOwn i st r)) : (∃ l vs, σ[i]? = some (some (.ref l)) ∧ H l = some (.lst vs)) ∧ aftS K ea W G0 H0 D r := by
  unfold ifOwn at k
  cases q : st[i]? with
  | none => rw [q] at k; exact k.elim
  | some s =>
    rw [q] at k
    cases s with
    | own xs =>
      obtain ⟨l, vs, a, b, _⟩ := rl.ownL q
      exact ⟨⟨l, vs, a, b⟩, k⟩
    | _ => exact k.elim
theorem gs_app {i : Nat} {x : Str} {p p2 p3 : Pos} (hN : X.N[i]? = some x) (hv : Vis X.env.scope x) (he : PE X e (tE X.K ea W f)) (hd : (x == ("__debug__" : Str)) = false := by decide) (hcd : (x == ("__classdict__" : Str)) = false := by decide)
    (hbase : attributeBase (.Name x p) "append" X.env (eval (.Name x p) X.env) = eval (.Name x p) X.env := by rfl)
    (hfew : ((backTo p3 (starEach [e] X.env)).all (fun x => !x.1) && (backToKw p3 (keywordEach [] X.env)).all (fun x => x.1.isSome) && decide ([e].length + ([] : List Keyword).length + (if ([] : List Keyword).isEmpty then 0 else 1) < 30)) = true := by rfl)
    (hline : (p2.endLine == p3.line) = true := by rfl) (h1 : starEach [e] X.env = (false, eval e X.env) :: starEach [] X.env := by rfl) (hplain : (backTo p3 (starEach [] X.env)).any (·.1) = false := by rfl) (hs : swapsWith (.Call (.Attribute (.Name x p) "append" p2) [e] [] p3) none pos.line X.env = pure false := by rfl) :
    PS X (.Expr (.Call (.Attribute (.Name x p) "append" p2) [e] [] p3) pos) (tS X.K ea W (mApp i f)) :=
  (ps_expr (pe_bm PySem.F.plainAttrs_list PySem.F.slot_list_append PySem.F.type_list_append mt_append (pe_var hN hv hd hcd) (pa_cons he pa_nil h1) hbase hfew hline h1 hplain) hs).weak fun D σ H h => by
    obtain ⟨G0, H0, G, st, x, rl, k⟩ := h
    obtain ⟨⟨l, vs, p, hl⟩, k⟩ := if_own rl k
    refine ⟨.ref l, p, .inl ⟨rfl, vs, SqL.of hl⟩, H0, G, st, rl, aft_mono (aftS_thn x rl k) fun d G1 H1 e1 k1 v dv => ?_⟩
    exact tS_app (x.trans e1) (rl.ext e1) dv p k1
theorem gs_appF {i : Nat} {x : Str} {p p2 p3 : Pos} (hN : X.N[i]? = some x) (hv : Vis X.env.scope x) (he : PE X e (tE X.K ea W f)) (hd : (x == ("__debug__" : Str)) = false := by decide) (hcd : (x == ("__classdict__" : Str)) = false := by decide)
    (hbase : attributeBase (.Name x p) "append" X.env (eval (.Name x p) X.env) = eval (.Name x p) X.env := by rfl)
    (hfew : ((backTo p3 (starEach [e] X.env)).all (fun x => !x.1) && (backToKw p3 (keywordEach [] X.env)).all (fun x => x.1.isSome) && decide ([e].length + ([] : List Keyword).length + (if ([] : List Keyword).isEmpty then 0 else 1) < 30)) = true := by rfl)
    (hline : (p2.endLine == p3.line) = true := by rfl) (h1 : starEach [e] X.env = (false, eval e X.env) :: starEach [] X.env := by rfl) (hplain : (backTo p3 (starEach [] X.env)).any (·.1) = false := by rfl) (hs : swapsWith (.Call (.Attribute (.Name x p) "append" p2) [e] [] p3) none pos.line X.env = pure false := by rfl) :
    PS X (.Expr (.Call (.Attribute (.Name x p) "append" p2) [e] [] p3) pos) (tS X.K ea W (mAppF i f)) :=
  (ps_expr (pe_bm PySem.F.plainAttrs_list PySem.F.slot_list_append PySem.F.type_list_append mt_append (pe_var hN hv hd hcd) (pa_cons he pa_nil h1) hbase hfew hline h1 hplain) hs).weak fun D σ H h => by
    obtain ⟨G0, H0, G, st, x, rl, k⟩ := h
    obtain ⟨⟨l, vs, p, hl⟩, k⟩ := if_own rl k
    obtain ⟨G', x', gg, rl'⟩ := rl.thaw x
    refine ⟨.ref l, p, .inl ⟨rfl, vs, SqL.of hl⟩, H0, G', thaw st, rl', aft_mono (aftS_thaw x rl gg k) fun d G1 H1 e1 k1 v dv => ?_⟩
    split at k1
    · rename_i hfl
      exact tS_app (x.trans (Ext.topX e1.h (gg.trans (e1.g.trans e1.s)))) (rl.ext (Ext.topX e1.h (gg.trans (e1.g.trans e1.s)))) (ext_den_flat hfl dv) p k1
    · exact k1.elim
theorem gs_frz {i : Nat} {st : Stmt} (h : PS X st (tS X.K ea W a)) : PS X st (tS X.K ea W (mFrz i a)) := h.weak fun D σ H h => by
  obtain ⟨G0, H0, G, st, x, rl, k⟩ := h
  obtain ⟨G', x', rl'⟩ := rl.frz x i
  exact ⟨G0, H0, G', _, x', rl', k⟩
/-! ### loops -/
theorem Ext.rebase {G0 H0 G1 H1 G H : Hp} (a : Ext G0 H0 G1 H1) (g : Ex G1 G) (b : Ext G0 H0 G H) : Ext G1 H0 G H := ⟨g, b.h, b.s, fun x o e n => by
  cases q : G0 x with
  | none => exact b.n x o e q
  | some u => exact absurd (a.g x u q) (by rw [n]; intro z; cases z)⟩
theorem Ext.unbase {G0 H0 G1 H1 G H : Hp} (a : Ext G0 H0 G1 H1) (b : Ext G1 H0 G H) : Ext G0 H0 G H := ⟨a.g.trans b.g, b.h, b.s, fun x o e n => by
  cases q : G1 x with
  | none => exact b.n x o e q
  | some u => exact a.n x u q n⟩
/-- what is asked over an elder base follows over a younger -/
theorem aftS.rebase {D D' : Ends} {G0 H0 G1 H1 : Hp} {r : RS} (a : Ext G0 H0 G1 H1) (h : aftS K ea W G0 H0 D r) (h1 : D'.rt = D.rt) : (∀ st, r ≠ .nx st) → (∀ st, r ≠ .bk st) → (∀ st, r ≠ .ct st) → aftS K ea W G1 H0 D' r := fun n1 n2 n3 => by
  cases r with
  | nx st => exact absurd rfl (n1 st)
  | bk st => exact absurd rfl (n2 st)
  | ct st => exact absurd rfl (n3 st)
  | no => exact h
  | rt d =>
    intro v G H e dv
    rw [h1]
    exact h v G H (a.unbase e) dv
  | rs c st => exact fun G H σ e rl => h G H σ (a.unbase e) rl
theorem tS_for {wi : MA} {g : TG} {bd : D → Store → Option Store} {bs : List Nat} (hg : GOk K bs g bd) : ∀ D σ H, tS K ea W (mFor wi bd a) D σ H → tFor (tI K ea W wi) g (tS K ea W a) D σ H := fun D σ H h => by
  obtain ⟨G0, H0, G, st, x, rl, k⟩ := h
  refine ⟨H0, G, st, rl, aft_mono (aftS_thn x rl k) fun ds G1 H1 e1 k1 J wd => ?_⟩
  have x1 : Ext G0 H0 G1 H1 := x.trans e1
  let Pv : Nat → L2.St → Hp → Prop := fun i σ' H' => ∃ G' st', Ex G1 G' ∧ Ext G0 H0 G' H' ∧ Rel K ea H0 G' H' σ' st' ∧ aftS K ea W G0 H0 D (mLoop bd a (ds.drop i) st')
  refine ⟨fun i m σ' H' => m = ds.length - i ∧ i ≤ ds.length ∧ Pv i σ' H', ⟨ds.length, by simp, Nat.zero_le _, G1, st, Ex.refl _, x1, rl.ext e1, k1⟩, ?_⟩
  rintro i m σ' H' ⟨rfl, hi, G', st', g1, x2, rl2, k2⟩
  by_cases hlt : i < ds.length
  · refine .inr ⟨wd.goes i H' hlt (g1.trans x2.s), Pv (i + 1), fun σ'' H'' p => ⟨ds.length - (i + 1), by omega, rfl, hlt, p⟩, fun v H2 hy => ?_⟩
    obtain ⟨G2, d, y1, y2, y3⟩ := wd.yields i G' H' v H2 hlt g1 x2.s hy
    have hdrop : ds.drop i = d :: ds.drop (i + 1) := by
      rw [List.drop_eq_getElem_cons hlt]
      have : ds[i] = d := by rw [List.getElem?_eq_getElem hlt] at y1; exact Option.some.inj y1
      rw [this]
    rw [hdrop] at k2
    unfold mLoop at k2
    cases z1 : bd d st' with
    | none => rw [z1] at k2; exact k2.elim
    | some st1 =>
      rw [z1] at k2
      simp only at k2
      have x3 : Ext G0 H0 G2 H2 := x2.trans y2
      refine hg ea H0 G2 H2 v σ' st' st1 d _ (rl2.ext y2) y3 z1 fun σ2 rl3 _ _ => ?_
      have g2 : Ex G1 G2 := g1.trans y2.g
      refine ⟨G1, H0, G2, st1, Ext.rebase x1 g2 x3, rl3, ?_⟩
      cases z2 : a st1 with
      | nx st2 =>
        rw [z2] at k2
        exact fun G3 H3 σ3 e3 r3 => ⟨G3, st2, e3.g, x1.unbase e3, r3, k2⟩
      | ct st2 =>
        rw [z2] at k2
        exact fun G3 H3 σ3 e3 r3 => ⟨G3, st2, e3.g, x1.unbase e3, r3, k2⟩
      | bk st2 =>
        rw [z2] at k2
        exact fun G3 H3 σ3 e3 r3 => k2 G3 H3 σ3 (x1.unbase e3) r3
      | rt d2 =>
        rw [z2] at k2
        exact fun v G3 H3 e3 dv => k2 v G3 H3 (x1.unbase e3) dv
      | rs c st2 =>
        rw [z2] at k2
        exact fun G3 H3 σ3 e3 r3 => k2 G3 H3 σ3 (x1.unbase e3) r3
      | no => rw [z2] at k2; exact k2
  · have e : i = ds.length := by omega
    subst e
    rw [List.drop_length] at k2
    exact .inl ⟨wd.stops H' (g1.trans x2.s), k2 G' H' σ' x2 rl2⟩
theorem gs_for {tg iter : Expr} {body : List Stmt} {wi : MA} {g : TG} {bd : D → Store → Option Store} {bs : List Nat} (hp : PassesOwn (model X.prog X.w) X.A X.env X.xe) (hc : X.calm = true) (hi : PI X tg iter (tI X.K ea W wi)) (hgt : PG X tg g) (hk : GOk X.K bs g bd) (hb : PSs X body (tS X.K ea W a))
    (hs : ∀ x, foldedSetIterable iter X.env x = pure x := by intro _; rfl) : PS X (.For tg iter body [] pos) (tS X.K ea W (mFor wi bd a)) := (ps_for hp hc hi hgt hb hs).weak (tS_for hk)
theorem tS_while (n : Nat) : ∀ D σ H, tS K ea W (mWhile t a n) D σ H → tWhile (tT K ea W t) (tS K ea W a) D σ H := fun D σ H h => by
  obtain ⟨G0, H0, G, st, x, rl, k⟩ := h
  refine ⟨fun m σ' H' => ∃ G' st', Ext G0 H0 G' H' ∧ Rel K ea H0 G' H' σ' st' ∧ aftS K ea W G0 H0 D (mWhile t a m st'), ⟨n, G, st, x, rl, k⟩, ?_⟩
  rintro m σ' H' ⟨G', st', x2, rl2, k2⟩
  cases m with
  | zero => exact k2.elim
  | succ m =>
    unfold mWhile at k2
    obtain ⟨G3, x3, gg, rl3⟩ := rl2.thaw x2
    refine ⟨H0, G3, thaw st', rl3, aft_mono (aftS_thaw x2 rl2 gg k2) fun b G1 H1 e1 k1 => ?_⟩
    have x4 := x2.trans (Ext.topX e1.h (gg.trans (e1.g.trans e1.s)))
    have r4 := rl2.ext (Ext.topX e1.h (gg.trans (e1.g.trans e1.s)))
    cases b with
    | true =>
      rw [if_pos rfl] at k1
      show ∃ N : L2.St → Hp → Prop, _
      refine ⟨fun σ'' H'' => ∃ G' st', Ext G0 H0 G' H'' ∧ Rel K ea H0 G' H'' σ'' st' ∧ aftS K ea W G0 H0 D (mWhile t a m st'), fun σ'' H'' p => ⟨m, Nat.lt_succ_self m, p⟩, G0, H0, G', st', x4, r4, ?_⟩
      cases z2 : a st' with
      | nx st2 =>
        rw [z2] at k1
        exact fun G3 H3 σ3 e3 r3 => ⟨G3, st2, e3, r3, k1⟩
      | ct st2 =>
        rw [z2] at k1
        exact fun G3 H3 σ3 e3 r3 => ⟨G3, st2, e3, r3, k1⟩
      | bk st2 =>
        rw [z2] at k1
        exact k1
      | rt d2 =>
        rw [z2] at k1
        exact k1
      | rs c st2 =>
        rw [z2] at k1
        exact k1
      | no => rw [z2] at k1; exact k1
    | false =>
      rw [if_neg Bool.false_ne_true] at k1
      show D.nx σ' H1
      exact k1 G' H1 σ' x4 r4
theorem gs_while {c : Expr} {body : List Stmt} (n : Nat) (hp : PassesOwn (model X.prog X.w) X.A X.env X.xe) (hc : PT X c (tT X.K ea W t)) (hb : PSs X body (tS X.K ea W a)) : PS X (.While c body [] pos) (tS X.K ea W (mWhile t a n)) := (ps_while hp hc hb).weak (tS_while n)
/-! ### exceptions -/
/-- an own exception class over ValueError -/
structure ExcK (K : Fr) (mg : Str → Option Value) (x : Str) : Prop where
  m : mg x = some (.ref (He.ga K x))
  xi : PySem.W.excIn K (He.ga K x) He.veBase "ValueError.__new__" = true
  kp : PySem.W.keepIn K (.ref (He.ga K x)) = true
  sub : PySem.W.subIn K (.ref (He.ga K x)) (.type "BaseException") = some true
  ty : PySem.W.typeIn K (.ref (He.ga K x)) = some (.type "type")
abbrev Exc (X : Cx) (x : Str) : Prop := ExcK X.K X.mg x
theorem gs_raise {x m : Str} {j : Nat} {p p2 p3 : Pos} (ex : Exc X x) (hc : X.calm = true) (tk : Takes X W) (hg : Gl X x := by rfl) (hdb : (x == ("__debug__" : Str)) = false := by decide) :
    PS X (.Raise (some (.Call (.Name x p) [.Constant (.str m) j p2] [] p3)) none pos) (tS X.K ea W (mRaise x)) := (ps_raise hc tk (pmk_own PySem.F.excBase_ValueError ex.xi ex.m ex.kp (raises_own ex.sub ex.ty) hg hdb)).weak fun D σ H h => by
  obtain ⟨G0, H0, G, st, x, rl, k⟩ := h
  exact k G H σ x rl
end
def noExc (st : Store) : Bool := st.all fun s => !s.held
theorem noExc_get {st : Store} (h : noExc st = true) (i : Nat) (a : Slot) (z : st[i]? = some a) (hb : a.held = true) : False := by
  have := List.all_eq_true.mp h _ (List.mem_of_getElem? z)
  rw [hb] at this
  cases this
theorem Raws.at {fi : Fi} {G : Hp} : ∀ {vs : List V} {ks : List LamCode}, Raws fi G vs ks → ∀ a : Addr, Raws (fi.at a) G vs ks
  | _, _, .nil, _ => .nil
  | _, _, .cons h r, a => .cons h (Raws.at r a)
theorem Rel.ea {K : Fr} {ea : Fi} {ea' : Addr} {H0 G H : Hp} {σ : L2.St} {st : Store} (r : Rel K ea H0 G H σ st) (h : noExc st = true) : Rel K (ea.at ea') H0 G H σ st := ⟨r.s, r.len, fun i a z hb => (noExc_get h i a z hb).elim, r.dat, fun i a q m => by
  obtain ⟨l, o, a1, b1, c1, d1⟩ := r.own i a q m
  refine ⟨l, o, a1, b1, ?_, d1⟩
  cases a <;> cases o <;> first
    | exact c1
    | exact Raws.at c1 ea'
    | exact False.elim c1, r.sep, r.tb, r.tg, r.ob⟩
theorem Rel.ea' {K : Fr} {ea : Fi} {ea' : Addr} {H0 G H : Hp} {σ : L2.St} {st : Store} (r : Rel K (ea.at ea') H0 G H σ st) (h : noExc st = true) : Rel K ea H0 G H σ st := r.ea (ea' := ea.ea) h
/-- try: body; except c as n: suite. sub: which classes the clause names -/
def mTry (i : Nat) (sub : PySem.Str → Option Bool) (body : MS) (suite : PySem.Str → MS) : MS := fun st => match body st with
  | .rs c st1 => (match sub c with
    | some true => if noExc st1 = true then (match suite c (st1.set i .exc) with
      | .nx st2 => if noExc (st2.set i .un) = true then .nx (st2.set i .un) else .no
      | .bk st2 => if noExc (st2.set i .un) = true then .bk (st2.set i .un) else .no
      | .ct st2 => if noExc (st2.set i .un) = true then .ct (st2.set i .un) else .no
      | .rt d => .rt d
      | _ => .no) else .no
    | some false => .rs c st1
    | none => .no)
  | r => r
section
variable {X : Cx} {W : WX} {pos : Pos}
theorem gs_try {fi : Fi} {x n : Str} {i : Nat} {body suite : List Stmt} {b₀ : Stmt} {np pos' : Pos} {a : MS} {su : PySem.Str → MS} {sub : PySem.Str → Option Bool} (hs : X.stack = X.env :: X.outer) (hf : X.env.frame = some X.env.locals) (hN : X.N.Nodup) (hi : X.N[i]? = some n) (hln : X.env.kindOf n = some .local)
    (hc : X.mg x = some (.ref (He.ga X.K x))) (hsub : ∀ c b, sub c = some b → PySem.W.exmOne X.K (.ref (He.ga X.K c)) (.ref (He.ga X.K x)) = some b) (tk : Takes X W)
    (hb : ∀ (W : WX) (pn : List (Addr × Obj)) (xe : Value → Shared → Prop), Takes (X.tr pn xe) W → PassesOwn (model X.prog X.w) X.A X.env xe → PSs (X.tr pn xe) body (tS X.K fi W a))
    (hsu : ∀ (c : PySem.Str) (a : Addr) (oe : Obj) (pn : List (Addr × Obj)), sub c = some true → Zc (.ref (He.ga X.K c)) none oe → (∃ vs, oe.data = .fields vs) → PSs (X.suite a ((a, oe) :: pn)) (b₀ :: suite) (tS X.K (fi.at a) W0 (su c)))
    (hg : Gl X x := by rfl) (hdb : (x == ("__debug__" : Str)) = false := by decide) :
    PS X (.Try body [.ExceptHandler (some (.Name x np)) (some n) (b₀ :: suite) pos'] [] [] pos) (tS X.K fi W (mTry i sub a su)) := by
  refine (ps_try_as (tb := fun W => tS X.K fi W a) (ts := fun a cls d => fun D σ H => ∃ c, sub c = some true ∧ cls = .ref (He.ga X.K c) ∧ d = none ∧ tS X.K (fi.at a) W0 (su c) D σ H) (Wout := W) hs hf hN hi hln ⟨hg, hdb, .inl hc⟩ tk hb ?_).weak fun D σ H h => ?_
  · intro a oe cls d pn hz hv
    refine ⟨fun pins s σ H D I h => ?_⟩
    obtain ⟨c, hc, rfl, rfl, h⟩ := h
    exact (hsu c a oe pn hc hz hv).run pins s σ H D I h
  · obtain ⟨G0, H0, G, st, x, rl, k⟩ := h
    refine ⟨G0, H0, G, st, x, rl, ?_⟩
    unfold mTry at k
    cases z : a st with
    | rs c st1 =>
      rw [z] at k
      simp only at k
      intro G1 H1 σ1 x1 r1
      cases z2 : sub c with
      | none => rw [z2] at k; exact k.elim
      | some b =>
        rw [z2] at k
        refine ⟨b, hsub c b z2, fun hb e _ => ?_, fun hb => ?_⟩
        · subst hb
          simp only at k
          split at k
          · rename_i hne
            have r2 : Rel X.K (fi.at e) H0 G1 H1 (σ1.set i (some (.ref e))) (st1.set i .exc) := (r1.ea (ea' := e) hne).put i (some (.ref e)) .exc rfl (fun _ => rfl) (fun _ z => by cases z)
            refine ⟨c, z2, rfl, rfl, G0, H0, G1, _, x1, r2, ?_⟩
            cases z3 : su c (st1.set i .exc) with
            | nx st2 =>
              rw [z3] at k
              simp only at k
              split at k
              · rename_i hn2
                exact fun G3 H3 σ3 e3 r3 => k G3 H3 _ e3 ((r3.forget i none).ea' hn2)
              · exact k.elim
            | bk st2 =>
              rw [z3] at k
              simp only at k
              split at k
              · rename_i hn2
                exact fun G3 H3 σ3 e3 r3 => k G3 H3 _ e3 ((r3.forget i none).ea' hn2)
              · exact k.elim
            | ct st2 =>
              rw [z3] at k
              simp only at k
              split at k
              · rename_i hn2
                exact fun G3 H3 σ3 e3 r3 => k G3 H3 _ e3 ((r3.forget i none).ea' hn2)
              · exact k.elim
            | rt d =>
              rw [z3] at k
              exact k
            | rs c2 st2 =>
              rw [z3] at k
              exact k.elim
            | no => rw [z3] at k; exact k.elim
          · exact k.elim
        · subst hb
          simp only at k
          exact k G1 H1 σ1 x1 r1
    | nx st1 => rw [z] at k; exact k
    | bk st1 => rw [z] at k; exact k
    | ct st1 => rw [z] at k; exact k
    | rt d => rw [z] at k; exact k
    | no => rw [z] at k; exact k
end
end Pg

namespace Pg
open PySem PySem.Spec PyProof.Rows L2
variable [Tb]
/-! ### a def -/
def mkF (n N : Nat) (m : MS) : List D → R D := fun ds => if ds.length = n then (match m (ds.map Slot.dat ++ List.replicate (N - n) .un) with
  | .nx _ => .ok .non
  | .rt d => .ok d
  | .rs c _ => .rs c
  | _ => .no) else .no
/-- of a def that makes no lambdas -/
abbrev fi0 : Fi := ⟨0, []⟩
theorem rel_start {K : Fr} {ea : Fi} {G H : Hp} {vs : List V} {ds : List D} {N : List Str} (s : Ex G H) (d : Dens K G vs ds) (tb : LamX.Tabs Tb.T H) (tg : ∀ p ∈ Tb.T, G p.1 = none) : Rel K ea H G H (start N vs) (ds.map Slot.dat ++ List.replicate (N.length - ds.length) .un) := by
  have hl := d.length
  have noU : ∀ (i : Nat) (a : Slot), (ds.map Slot.dat ++ List.replicate (N.length - ds.length) .un)[i]? = some a → (∃ d, a = .dat d ∧ ds[i]? = some d) ∨ a = .un := fun i a q => by
    by_cases z : i < ds.length
    · rw [List.getElem?_append_left (by simpa using z), List.getElem?_map] at q
      cases q2 : ds[i]? with
      | none => rw [q2] at q; cases q
      | some e => rw [q2] at q; cases q; exact .inl ⟨e, rfl, rfl⟩
    · rw [List.getElem?_append_right (by simpa using z), List.getElem?_replicate] at q
      split at q
      · cases q; exact .inr rfl
      · cases q
  refine ⟨s, ?_, fun i a q hb => ?_, fun i e q => ?_, fun i xs q m => ?_, fun i j xs ys l q m => ?_, tb, tg, Obs.no fun i o q => ?_⟩
  · unfold L2.start
    simp [hl]
  · rcases noU i _ q with ⟨d, z, _⟩ | z <;> subst z <;> cases hb
  · rcases noU i _ q with ⟨d', z, q2⟩ | z
    · cases z
      obtain ⟨v, e1, e2⟩ := d.get q2
      refine ⟨v, ?_, e2⟩
      unfold L2.start
      have : i < vs.length := (List.getElem?_eq_some_iff.mp e1).1
      rw [List.getElem?_append_left (by simpa using this), List.getElem?_map, e1]
      rfl
    · cases z
  · rcases noU i _ q with ⟨d, z, _⟩ | z <;> subst z <;> cases m
  · rcases noU i _ q with ⟨d, z, _⟩ | z <;> subst z <;> cases m
  · rcases noU i _ q with ⟨d, z, _⟩ | z <;> cases z
section
variable {P : Program} {w : World} {K : Fr} {mg : Str → Option Value} {base : Heap} {x : Str} {params : Arguments} {body : List Stmt} {scope : Scope} {f : Addr} {fd : FuncData}
/-- a def whose body does m -/
theorem def_ok {nm : Str} (N ps : List Str) (k n Nn : Nat) (m : MS) (hn : ps.length = n) (hN : N.length = Nn) (F : FunD K nm x params body scope [] [] f fd) (S : FnScope N ps scope)
    (hb : ∀ (cdv : Value) (A : Around) (outer : List Env) (s : Shared) (H : Hp) (E : XK), Room k (A.deeper (envOfC x scope s.heap.objs.size f cdv)) → ∀ W, Takes (cxOf (L2.CX P w) P w K mg base N x scope f cdv A outer s H E) W →
      PassesOwn (model P w) (A.deeper (envOfC x scope s.heap.objs.size f cdv)) (envOfC x scope s.heap.objs.size f cdv) (cxOf (L2.CX P w) P w K mg base N x scope f cdv A outer s H E).xe →
      PSs (cxOf (L2.CX P w) P w K mg base N x scope f cdv A outer s H E) body (tS K fi0 W m)) :
    FnOk P w K mg base (L2.CX P w) (k + 1) f fd ps (spOf K n (mkF n Nn m)) := by
  subst hn hN
  refine F.ok S (fun vs H Q E h => ?_) fun cdv A outer s H vs Q E hr h => ⟨_, hb cdv A outer s H E hr (fun cls d _ H => E cls d H) (takes_of rfl rfl rfl rfl) (passes_of rfl), ?_⟩
  · obtain ⟨_, _, hl, _⟩ := h
    exact hl
  · obtain ⟨G, ds, hl, sx, tb, tg, dv, k⟩ := h
    have hl2 : ds.length = ps.length := by rw [← dv.length]; exact hl
    refine ⟨G, H, G, _, Ext.refl sx, rel_start (N := N) sx dv tb tg, ?_⟩
    unfold mkF at k
    rw [if_pos hl2] at k
    rw [hl2]
    cases z : m (ds.map Slot.dat ++ List.replicate (N.length - ps.length) .un) with
    | nx st => rw [z] at k; exact fun G' H' σ' e r => k _ _ _ e .non
    | rt d => rw [z] at k; exact fun v G' H' e dv => k v G' H' e dv
    | rs c st => rw [z] at k; exact fun G' H' σ' e r => k G' H' e
    | bk st => rw [z] at k; exact k.elim
    | ct st => rw [z] at k; exact k.elim
    | no => rw [z] at k; exact k.elim
theorem defK {ps : List Str} {k n : Nat} {Fm : List D → R D} (F : FunD K x x params body scope [] [] (He.ga K x) fd) (hm : mg x = some (.ref (He.ga K x))) (hn : ps.length = n) (ok : FnOk P w K mg base (L2.CX P w) k (He.ga K x) fd ps (spOf K n Fm))
    (h : ∀ (kV doc pm : Value) (an : Option Addr) (cdv ct : Value) (us : List Value), us.length = ps.length → bindArgs (PySem.W.fnOf x x params body scope .none kV doc pm an cdv ct) ⟨us, []⟩ = pure (ps.zip us)) : DefK P w K mg base x k n Fm := by
  subst hn
  exact ⟨hm, F.kp, fd, ps, ok, F.bindsN h⟩
end
/-! ### in an except suite -/
/-- isinstance(e, C): e the exception that the suite holds, of the class c -/
def eIsE (i : Nat) (b : Bool) : ME := fun st => match st[i]? with
  | some .exc => .ok (.bl b)
  | _ => .no
section
variable {X : Cx} {W : WX}
theorem g_isE {fi : Fi} {a : Addr} {oe : Obj} {pn : List (Addr × Obj)} {c x y : Str} {i : Nat} {b : Bool} {p p1 p2 pos : Pos} (C : ExcC X.K (He.ga X.K c)) (hz : Zc (.ref (He.ga X.K c)) none oe) (hf : ∃ vs, oe.data = .fields vs) (hk : PySem.W.kitOne X.K (.ref (He.ga X.K c)) (.ref (He.ga X.K y)) = some b)
    (hI : X.mg "isinstance" = none) (hy : X.mg y = some (.ref (He.ga X.K y))) (hN : X.N[i]? = some x) (hv : Vis X.env.scope x) (hg : Gl X "isinstance" := by rfl) (hgy : Gl X y := by rfl) (hd : (x == ("__debug__" : Str)) = false := by decide)
    (hcd : (x == ("__classdict__" : Str)) = false := by decide) (hdy : (y == ("__debug__" : Str)) = false := by decide)
    (h1 : starEach [.Name y p2] X.env = (false, eval (.Name y p2) X.env) :: starEach [] X.env := by rfl) (h2 : starEach [.Name x p1, .Name y p2] X.env = (false, eval (.Name x p1) X.env) :: starEach [.Name y p2] X.env := by rfl) (hpl : (backTo pos (starEach [.Name y p2] X.env)).any (·.1) = false := by rfl) :
    PE (X.suite a ((a, oe) :: pn)) (.Call (.Name "isinstance" p) [.Name x p1, .Name y p2] [] pos) (tE X.K (fi.at a) W (eIsE i b)) :=
  (pe_callB (X := X.suite a ((a, oe) :: pn)) (call_isE C hz hf) hg hI (by decide +kernel) (pa_cons (pe_var (X := X.suite a ((a, oe) :: pn)) hN hv hd hcd) (pa_cons (pe_glob (X := X.suite a ((a, oe) :: pn)) (v := .ref (He.ga X.K y)) hgy hy rfl hdy) pa_nil h1) h2) (by decide) (by decide) h2 hpl).weak fun σ H Q hq => by
    obtain ⟨H0, G, st, rl, k⟩ := hq
    unfold eIsE at k
    cases q : st[i]? with
    | none => rw [q] at k; exact k.elim
    | some s =>
      rw [q] at k
      cases s with
      | exc => exact ⟨.ref a, rl.exc i _ q rfl, .ref (He.ga X.K y), .ref (He.ga X.K y), b, rfl, fun u r => r, hk, k _ _ (Ext.refl rl.s) _ (.bl b)⟩
      | _ => exact k.elim
/-- xs.index(v), flat items, v there -/
def idxF (x : D) : List D → Option Nat
  | [] => none
  | y :: r => if eqF y x = true then some 0 else (idxF x r).map (· + 1)
def indexD (ys : List D) (x : D) : Option D := if flatD x = true ∧ ys.all flatD = true then (idxF x ys).map fun j => .int (j : Nat) else none
def eIndex (f g : ME) : ME := fun st => (f st).bind fun x => match x with
  | .lst ys => (g st).bind fun y => R.of (indexD ys y)
  | _ => .no
theorem idxF_spec {x : D} : ∀ {ys : List D} {j : Nat}, idxF x ys = some j → (∃ z, ys[j]? = some z ∧ eqF z x = true) ∧ ∀ m z, m < j → ys[m]? = some z → eqF z x = false
  | [], _, h => by cases h
  | y :: r, j, h => by
    unfold idxF at h
    split at h
    · rename_i e
      cases h
      exact ⟨⟨y, rfl, e⟩, fun m z hm => by omega⟩
    · rename_i e
      cases q : idxF x r with
      | none => rw [q] at h; cases h
      | some i =>
        rw [q] at h
        cases h
        obtain ⟨⟨z, h1, h2⟩, h3⟩ := idxF_spec q
        refine ⟨⟨z, by simpa using h1, h2⟩, fun m z' hm hz => ?_⟩
        cases m with
        | zero =>
          cases (Option.some.inj (show some y = some z' from hz))
          simpa using e
        | succ m => exact h3 m z' (Nat.lt_of_succ_lt_succ hm) (by simpa using hz)
variable {ea : Fi} {o e : Expr} {f g : ME} {apos cpos : Pos}
theorem g_index (ho : PE X o (tE X.K ea W f)) (he : PE X e (tE X.K ea W g)) (hbase : attributeBase o "index" X.env (eval o X.env) = eval o X.env := by rfl)
    (hfew : ((backTo cpos (starEach [e] X.env)).all (fun x => !x.1) && (backToKw cpos (keywordEach [] X.env)).all (fun x => x.1.isSome) && decide ([e].length + ([] : List Keyword).length + (if ([] : List Keyword).isEmpty then 0 else 1) < 30)) = true := by rfl)
    (hline : (apos.endLine == cpos.line) = true := by rfl) (h1 : starEach [e] X.env = (false, eval e X.env) :: starEach [] X.env := by rfl) (hplain : (backTo cpos (starEach [] X.env)).any (·.1) = false := by rfl) :
    PE X (.Call (.Attribute o "index" apos) [e] [] cpos) (tE X.K ea W (eIndex f g)) :=
  (pe_bm PySem.F.plainAttrs_list PySem.F.slot_list_index PySem.F.type_list_index mt_index ho (pa_cons he pa_nil h1) hbase hfew hline h1 hplain).weak fun σ H Q hq => by
    obtain ⟨H0, G, st, rl, k⟩ := hq
    refine ⟨H0, G, st, rl, aft_mono (aft_bind k) fun x G1 H1 e1 a1 v dv => ?_⟩
    cases dv with
    | @lst a vs ys ha hd =>
      refine ⟨.inl ⟨rfl, vs, SqL.of (e1.s _ _ ha)⟩, H0, G1, st, rl.ext e1, aft_mono (aft_bind a1) fun y G2 H2 e2 a2 w dw => ?_⟩
      obtain ⟨z, ez, k2⟩ := aft_of a2
      unfold indexD at ez
      split at ez
      · rename_i hfl
        obtain ⟨j, hj, rfl⟩ := Option.map_eq_some_iff.mp ez
        obtain ⟨⟨z, z1, z2⟩, z3⟩ := idxF_spec hj
        have hd2 := hd.mono e2.g
        obtain ⟨u, u1, u2⟩ := hd2.get z1
        have fz : ∀ (m : Nat) (d : D), ys[m]? = some d → flatD d = true := fun m d q => List.all_eq_true.mp hfl.2 d (List.mem_of_getElem? q)
        refine ⟨a, vs, w, j, u, rfl, rfl, SqL.of (e2.s _ _ (e2.g _ _ ha)), flat_den dw hfl.1, flats_den hd hfl.2, u1, by rw [eqF_den u2 dw (fz _ _ z1) hfl.1]; exact z2, fun m z' hm hz' => ?_, k2 _ _ (Ext.refl e2.s) _ (.int _)⟩
        obtain ⟨d, d1, d2⟩ := hd2.getV hz'
        rw [eqF_den d2 dw (fz _ _ d1) hfl.1]
        exact z3 m d hm d1
      · cases ez
    | _ => exact a1.elim
end
/-! ### list(range(a, b)) -/
def rg1D : D → Option D
  | .int n => if 0 ≤ n ∧ n ≤ 100000 then some (.lst (rangeI 0 n.toNat)) else none
  | _ => none
def rg2D : D → D → Option D
  | .int a, .int b => if (-100000 ≤ a ∧ a ≤ 100000) ∧ -100000 ≤ b ∧ b ≤ 100000 then some (.lst (rangeI a (b - a).toNat)) else none
  | _, _ => none
theorem dens_rg {K : Fr} {G : Hp} (a b : Int) : Dens K G (rgV a b) (rangeI a (b - a).toNat) := by
  unfold rgV rangeI
  generalize (b - a).toNat = n
  induction List.range n with
  | nil => exact .nil
  | cons i r ih => exact .cons (.int _) ih
section
variable {X : Cx} {W : WX} {ea : Fi} {e e2 : Expr} {f g : ME} {p p1 p2 pos : Pos}
theorem g_lrg1 (hc : X.calm = true) (hl : X.mg "list" = none) (hr : X.mg "range" = none) (he : PE X e (tE X.K ea W f)) (hg : Gl X "list" := by rfl) (hg2 : Gl X "range" := by rfl) (na : starEach [e] X.env = (false, eval e X.env) :: starEach [] X.env := by rfl)
    (nb : starEach [.Call (.Name "range" p1) [e] [] p2] X.env = (false, eval (.Call (.Name "range" p1) [e] [] p2) X.env) :: starEach [] X.env := by rfl) : PE X (.Call (.Name "list" p) [.Call (.Name "range" p1) [e] [] p2] [] pos) (tE X.K ea W (unr rg1D f)) :=
  (pe_listRg hc hg hl (prg_1 hg2 hr he na) nb).weak fun σ H Q hq => by
    obtain ⟨H0, G, st, rl, a⟩ := hq
    refine ⟨H0, G, st, rl, aft_mono (aft_bind a) fun x G1 H1 e1 a1 v dv => ?_⟩
    obtain ⟨z, ez, k⟩ := aft_of a1
    cases x with
    | int n =>
      simp only [rg1D] at ez
      split at ez
      · rename_i hn
        cases ez
        refine ⟨n, dv.int_inv, RgOk.of_le (by omega) (by omega) (by omega) (by omega), fun q hq => ?_⟩
        have ex := Ext.new (G := G1) (H := H1) (p := q) (o := .lst (rgV 0 n)) e1.s hq
        have d : Dens X.K (upd G1 q (.lst (rgV 0 n))) (rgV 0 n) (rangeI 0 (n - 0).toNat) := dens_rg 0 n
        have e0 : n - 0 = n := by omega
        rw [e0] at d
        exact k _ _ ex _ (.lst upd_same d)
      · cases ez
    | _ => cases ez
theorem g_lrg2 (hc : X.calm = true) (hl : X.mg "list" = none) (hr : X.mg "range" = none) (he : PE X e (tE X.K ea W f)) (he2 : PE X e2 (tE X.K ea W g)) (hg : Gl X "list" := by rfl) (hg2 : Gl X "range" := by rfl) (na : starEach [e, e2] X.env = (false, eval e X.env) :: starEach [e2] X.env := by rfl)
    (na2 : starEach [e2] X.env = (false, eval e2 X.env) :: starEach [] X.env := by rfl) (hpl : (backTo p2 (starEach [e2] X.env)).any (·.1) = false := by rfl)
    (nb : starEach [.Call (.Name "range" p1) [e, e2] [] p2] X.env = (false, eval (.Call (.Name "range" p1) [e, e2] [] p2) X.env) :: starEach [] X.env := by rfl) : PE X (.Call (.Name "list" p) [.Call (.Name "range" p1) [e, e2] [] p2] [] pos) (tE X.K ea W (bin rg2D f g)) :=
  (pe_listRg hc hg hl (prg_2 hg2 hr he he2 na na2 hpl) nb).weak fun σ H Q hq => by
    obtain ⟨H0, G, st, rl, a⟩ := hq
    refine ⟨H0, G, st, rl, aft_mono (aft_bind a) fun x G1 H1 e1 a1 v dv => ?_⟩
    refine ⟨H0, G1, st, rl.ext e1, aft_mono (aft_bind a1) fun y G2 H2 e2 a2 w dw => ?_⟩
    obtain ⟨z, ez, k⟩ := aft_of a2
    cases x with
    | int i =>
      cases y with
      | int j =>
        simp only [rg2D] at ez
        split at ez
        · rename_i hn
          cases ez
          refine ⟨i, j, dv.int_inv, dw.int_inv, ⟨by omega, by omega, by omega, by omega, by omega⟩, fun q hq => ?_⟩
          have ex := Ext.new (G := G2) (H := H2) (p := q) (o := .lst (rgV i j)) e2.s hq
          exact k _ _ ex _ (.lst upd_same (dens_rg i j))
        · cases ez
      | _ => cases ez
    | _ => cases y <;> cases ez
end
end Pg

namespace Pg
open PySem PySem.Spec PyProof.Rows L2
variable [Tb]
/-! ### the head's facts: the defs, the names, and one answer more -/
abbrev AlM : Type := He.AlD × Bool
def obsM (fa : List He.Fa) (fn : List He.DefD) (ex : Fr → Bool) (K : Fr) : AlM := (He.obsD fa fn K, ex K)
def SaysM (fa : List He.Fa) (fn : List He.DefD) (ex : Fr → Bool) (K : Fr) : Prop := obsM fa fn ex K = (He.valD fn, true)
def obsMG (n : Nat) (fa : List He.Fa) (fn : List He.DefD) (ex : Fr → Bool) (g : Addr → Option Obj) : AlM := obsM fa fn ex (He.frG g (He.asD g n))
def hookM (n : Nat) (fa : List He.Fa) (fn : List He.DefD) (ex : Fr → Bool) : PySem.W.Hook where
  α := AlM
  obs := fun s => obsMG n fa fn ex s.heap.get?
  val := fun _ => (He.valD fn, true)
  says := fun _ h => ∃ K : Fr, K.In h ∧ SaysM fa fn ex K
  of := fun _ _ e => ⟨_, He.frG_in, e⟩
  keeps := fun _ _ _ ⟨K, hK, c⟩ k => ⟨K, PySem.W.Frag.In.keeps hK k, c⟩
theorem obsMG_eq {n : Nat} {fa : List He.Fa} {fn : List He.DefD} {ex : Fr → Bool} {g : Addr → Option Obj} {s : Shared} (h : ∀ a, g a = s.heap.get? a) : obsMG n fa fn ex g = (hookM n fa fn ex).obs s := by
  have e : g = s.heap.get? := funext h
  rw [e] <;> rfl
theorem SaysM.d {fa : List He.Fa} {fn : List He.DefD} {ex : Fr → Bool} {K : Fr} (c : SaysM fa fn ex K) : He.SaysD fa fn K := congrArg (fun z : AlM => z.1) c
theorem SaysM.e {fa : List He.Fa} {fn : List He.DefD} {ex : Fr → Bool} {K : Fr} (c : SaysM fa fn ex K) : ex K = true := congrArg (fun z : AlM => z.2) c
theorem excCB_ok {K : Fr} {x : Str} (h : excCB K x = true) : ExcC K (He.ga K x) := by
  obtain ⟨h1, h⟩ := He.ba h
  obtain ⟨h2, h⟩ := He.ba h
  obtain ⟨h3, h⟩ := He.ba h
  obtain ⟨h4, h⟩ := He.ba h
  obtain ⟨h5, h⟩ := He.ba h
  obtain ⟨h6, h⟩ := He.ba h
  obtain ⟨h7, h8⟩ := He.ba h
  exact ⟨of_decide_eq_true h1, of_decide_eq_true h2, of_decide_eq_true h3, h4, of_decide_eq_true h5, of_decide_eq_true h6, of_decide_eq_true h7, of_decide_eq_true h8⟩
theorem isaB_ok {K : Fr} {x y : Str} {b : Bool} (h : isaB K x y b = true) : PySem.W.kitOne K (.ref (He.ga K x)) (.ref (He.ga K y)) = some b := of_decide_eq_true h
theorem exmB_ok {K : Fr} {x y : Str} {b : Bool} (h : exmB K x y b = true) : PySem.W.exmOne K (.ref (He.ga K x)) (.ref (He.ga K y)) = some b := of_decide_eq_true h
/-- the names that stand for built-ins -/
structure BiK (mg : Str → Option Value) : Prop where
  b_len : mg "len" = none
  b_range : mg "range" = none
  b_min : mg "min" = none
  b_max : mg "max" = none
  b_abs : mg "abs" = none
  b_isinstance : mg "isinstance" = none
  b_int : mg "int" = none
  b_bool : mg "bool" = none
  b_str : mg "str" = none
  b_tuple : mg "tuple" = none
  b_list : mg "list" = none
  b_sum : mg "sum" = none
  b_sorted : mg "sorted" = none
  b_any : mg "any" = none
  b_all : mg "all" = none
  b_zip : mg "zip" = none
  b_enumerate : mg "enumerate" = none
  b_set : mg "set" = none
/-! constants of the module -/
section
variable {X : Cx} {ea : Fi} {W : WX} {x : Str} {pos : Pos}
theorem g_glI {i : Int} (hm : ∃ t, X.mg x = some (.int i t)) (hg : Gl X x := by rfl) (hdb : (x == ("__debug__" : Str)) = false := by decide) : PE X (.Name x pos) (tE X.K ea W (eC (.int i))) := by
  obtain ⟨t, hm⟩ := hm
  exact g_glob (v := .int i) hm ⟨t, rfl⟩ (fun _ => .int i) hg hdb
theorem g_glS {i : Str} (hm : ∃ t, X.mg x = some (.str i t)) (hg : Gl X x := by rfl) (hdb : (x == ("__debug__" : Str)) = false := by decide) : PE X (.Name x pos) (tE X.K ea W (eC (.str i))) := by
  obtain ⟨t, hm⟩ := hm
  exact g_glob (v := .str i) hm ⟨t, rfl⟩ (fun _ => .str i) hg hdb
/-- a tuple of texts -/
structure TupK (K : Fr) (mg : Str → Option Value) (x : Str) (xs : List Str) : Prop where
  m : mg x = some (.ref (He.ga K x))
  t : ∀ H : Hp, SqT K H (He.ga K x) (xs.map V.str)
theorem g_glT {xs : List Str} (h : TupK X.K X.mg x xs) (hg : Gl X x := by rfl) (hdb : (x == ("__debug__" : Str)) = false := by decide) : PE X (.Name x pos) (tE X.K ea W (eC (.tup (xs.map D.str)))) :=
  g_glob (v := .ref (He.ga X.K x)) h.m rfl (fun G => .tup (h.t G) (dens_strs xs)) hg hdb
end
/-! ### the end -/
/-- the law's def does F; F is True of every script -/
theorem law_end {K : Fr} {F : List D → R D} (hF : ∀ ns : List Int, ns.length ≤ 63 → F [.scr ns] = .ok (.bl true)) : ∀ (H : Hp) (a : Addr) (ns : List Int), ns.length ≤ 63 → LamX.Tabs Tb.T H → SqL K H a (ns.map V.int) → spOf K 1 F [.ref a] H (fun v _ => v = .bl true) fun _ _ _ => False := fun H a ns hl hT hS => by
  obtain ⟨G, hG⟩ : ∃ G : Hp, G = fun b => match H b with
    | some (.tbl _) => none
    | o => o := ⟨_, rfl⟩
  have g1 : ∀ b o, H b = some o → (∀ ps, o ≠ .tbl ps) → G b = some o := fun b o e n => by
    rw [hG]
    simp only [e]
    cases o with
    | tbl ps => exact absurd rfl (n ps)
    | _ => rfl
  refine ⟨G, [.scr ns], rfl, fun b o e => ?_, hT, fun p hp => ?_, .cons (.scr ?_) .nil, ?_⟩
  · rw [hG] at e
    simp only at e
    cases q : H b with
    | none => rw [q] at e; cases e
    | some u =>
      rw [q] at e
      cases u <;> first
        | exact e
        | cases e
  · obtain ⟨ps, h1, _⟩ := hT p hp
    rw [hG]
    simp only [h1]
  · rcases hS with (h | ⟨o, h⟩) | h
    · exact .inl (.inl (g1 _ _ h fun ps z => by cases z))
    · exact .inl (.inr ⟨o, g1 _ _ h fun ps z => by cases z⟩)
    · exact .inr h
  rw [hF ns hl]
  exact fun v G' H' _ dv => dv.bl_inv
theorem noCX {P : Program} {w : World} : ∀ (H : Hp) (s : Shared) (e : Value) (s' : Shared), L2.CX P w [] H s (fun _ _ _ => False) e s' → False := fun H s e s' h => by
  obtain ⟨_, _, _, _, _, _, _, _, _, _, _, _, z⟩ := h
  exact z
end Pg

namespace Pg
open PySem PySem.Spec PyProof.Rows L2
variable [Tb]
theorem bo_len : bootBuiltins "len" = some (.builtin "len") := by decide +kernel
theorem bo_min : bootBuiltins "min" = some (.builtin "min") := by decide +kernel
theorem bo_max : bootBuiltins "max" = some (.builtin "max") := by decide +kernel
theorem bo_abs : bootBuiltins "abs" = some (.builtin "abs") := by decide +kernel
theorem bo_sum : bootBuiltins "sum" = some (.builtin "sum") := by decide +kernel
theorem bo_sorted : bootBuiltins "sorted" = some (.builtin "sorted") := by decide +kernel
theorem bo_any : bootBuiltins "any" = some (.builtin "any") := by decide +kernel
theorem bo_all : bootBuiltins "all" = some (.builtin "all") := by decide +kernel
theorem bo_int : bootBuiltins "int" = some (.type "int") := by decide +kernel
theorem bo_bool : bootBuiltins "bool" = some (.type "bool") := by decide +kernel
theorem bo_str : bootBuiltins "str" = some (.type "str") := by decide +kernel
theorem bo_tuple : bootBuiltins "tuple" = some (.type "tuple") := by decide +kernel
theorem bo_list : bootBuiltins "list" = some (.type "list") := by decide +kernel
/-! ### several targets at once, lists of the def's own among the values -/
abbrev MQ := Store → R (List Slot)
def qNil : MQ := fun _ => .ok []
def qVal (f : ME) (g : MQ) : MQ := fun st => (f st).bind fun d => (g st).bind fun ss => .ok (.dat d :: ss)
def qOwn (a : MA) (g : MQ) : MQ := fun st => (a st).bind fun ds => if ds.length ≤ 100000 then (g st).bind fun ss => .ok (.own ds :: ss) else .no
def setS : List Nat → List Slot → Store → Store
  | i :: is, s :: ss, st => setS is ss (st.set i s)
  | _, _, st => st
def setV : List Nat → List V → L2.St → L2.St
  | i :: is, v :: vs, σ => setV is vs (σ.set i (some v))
  | _, _, σ => σ
def mPar (is : List Nat) (f : MQ) : MS := fun st => (f st).thn st fun ss => if ss.length = is.length ∧ is.all (fun i => decide (i < st.length)) = true then .nx (setS is ss st) else .no
section
variable {K : Fr} {ea : Fi} {W : WX} {H0 G H : Hp}
/-- a store whose slots are taken from another's -/
theorem Rel.pull {σ σ' : L2.St} {st st' : Store} (r : Rel K ea H0 G H σ st) (φ : Nat → Nat) (hl : st'.length = σ'.length) (h : ∀ (j : Nat) (s : Slot), st'[j]? = some s → st[φ j]? = some s ∧ σ'[j]? = σ[φ j]?) (inj : ∀ j k, j < st'.length → k < st'.length → φ j = φ k → j = k) : Rel K ea H0 G H σ' st' where
  s := r.s
  len := hl
  exc := fun i c q hb => by
    obtain ⟨a, b⟩ := h i _ q
    rw [b]
    exact r.exc _ c a hb
  dat := fun i d q => by
    obtain ⟨a, b⟩ := h i _ q
    rw [b]
    exact r.dat _ d a
  own := fun i xs q m => by
    obtain ⟨a, b⟩ := h i _ q
    rw [b]
    exact r.own _ xs a m
  sep := fun i j xs ys l q m q' m' p p' => by
    obtain ⟨a, b⟩ := h i _ q
    obtain ⟨a', b'⟩ := h j _ q'
    rw [b] at p
    rw [b'] at p'
    exact inj i j (List.getElem?_eq_some_iff.mp q).1 (List.getElem?_eq_some_iff.mp q').1 (r.sep _ _ xs ys l a m a' m' p p')
  tb := r.tb
  tg := r.tg
  ob := r.ob.tr φ (fun i o q => h i _ q) (fun i j o o' q q' e => inj i j (List.getElem?_eq_some_iff.mp q).1 (List.getElem?_eq_some_iff.mp q').1 e) (fun j a l q m p => by
    obtain ⟨a1, b1⟩ := h j _ q
    rw [b1] at p
    exact .inr ⟨a, a1, m, p⟩) (fun _ _ _ _ _ _ => rfl) (fun _ _ _ _ => rfl) (Ex.refl _) (fun i l h' _ => (r.ob.o1 i l h').2)
theorem Rel.left {σ τ : L2.St} {st ss : Store} (r : Rel K ea H0 G H (σ ++ τ) (st ++ ss)) (hl : st.length = σ.length) : Rel K ea H0 G H σ st :=
  r.pull id hl (fun j s q => by
    have hj : j < st.length := (List.getElem?_eq_some_iff.mp q).1
    exact ⟨by rw [id, List.getElem?_append_left hj]; exact q, by rw [id, List.getElem?_append_left (by omega)]⟩) fun _ _ _ _ e => e
/-- the first of the values behind goes into a slot -/
theorem Rel.mv {σ τ : L2.St} {st ss : Store} {v : V} {s : Slot} {i : Nat} (r : Rel K ea H0 G H (σ ++ some v :: τ) (st ++ s :: ss)) (hl : st.length = σ.length) (hi : i < st.length) : Rel K ea H0 G H (σ.set i (some v) ++ τ) (st.set i s ++ ss) := by
  have hlen := r.len
  rw [List.length_append, List.length_append, List.length_cons, List.length_cons] at hlen
  refine r.pull (fun j => if j = i then st.length else if j < st.length then j else j + 1) ?_ (fun j s' q => ?_) fun j k _ _ e => ?_
  · simp only [List.length_append, List.length_set]
    omega
  · by_cases z : j = i
    · subst z
      simp only [if_true]
      rw [List.getElem?_append_left (by simpa using hi), List.getElem?_set_self hi] at q
      cases q
      refine ⟨by rw [List.getElem?_append_right (Nat.le_refl _), Nat.sub_self]; rfl, ?_⟩
      rw [List.getElem?_append_left (by rw [List.length_set]; omega), List.getElem?_set_self (by omega), List.getElem?_append_right (by omega), hl, Nat.sub_self]
      rfl
    · simp only [if_neg z]
      by_cases y : j < st.length
      · simp only [if_pos y]
        rw [List.getElem?_append_left (by simpa using y), List.getElem?_set_ne (Ne.symm z)] at q
        refine ⟨by rw [List.getElem?_append_left y]; exact q, ?_⟩
        rw [List.getElem?_append_left (by rw [List.length_set]; omega), List.getElem?_set_ne (Ne.symm z), List.getElem?_append_left (by omega)]
      · simp only [if_neg y]
        rw [List.getElem?_append_right (by rw [List.length_set]; omega), List.length_set] at q
        refine ⟨?_, ?_⟩
        · rw [List.getElem?_append_right (by omega), show j + 1 - st.length = (j - st.length) + 1 by omega, List.getElem?_cons_succ]
          exact q
        · rw [List.getElem?_append_right (by rw [List.length_set]; omega), List.length_set, List.getElem?_append_right (by omega), show j + 1 - σ.length = (j - σ.length) + 1 by omega, List.getElem?_cons_succ]
  · have e2 : (if j = i then st.length else if j < st.length then j else j + 1) = (if k = i then st.length else if k < st.length then k else k + 1) := e
    split at e2 <;> split at e2 <;> (try split at e2) <;> (try split at e2) <;> omega
theorem Rel.mvs : ∀ (is : List Nat) {vs : List V} {ss : List Slot} {σ : L2.St} {st : Store}, Rel K ea H0 G H (σ ++ vs.map some) (st ++ ss) → st.length = σ.length → vs.length = ss.length → ss.length = is.length → is.all (fun i => decide (i < st.length)) = true → Rel K ea H0 G H (setV is vs σ) (setS is ss st)
  | [], vs, ss, σ, st, r, hl, h1, h2, h3 => by
    cases ss with
    | nil =>
      cases vs with
      | nil =>
        show Rel K ea H0 G H σ st
        simpa using r
      | cons _ _ => cases h1
    | cons _ _ => cases h2
  | i :: is, vs, ss, σ, st, r, hl, h1, h2, h3 => by
    cases ss with
    | nil => cases h2
    | cons s ss =>
      cases vs with
      | nil => cases h1
      | cons v vs =>
        rw [List.all_cons, Bool.and_eq_true] at h3
        have hi : i < st.length := of_decide_eq_true h3.1
        exact Rel.mvs is (Rel.mv r hl hi) (by rw [List.length_set, List.length_set]; exact hl) (Nat.succ.inj h1) (Nat.succ.inj h2) (by rw [List.length_set]; exact h3.2)
/-- a value more behind -/
theorem Rel.push {σ : L2.St} {st : Store} {v : V} {d : D} (r : Rel K ea H0 G H σ st) (h : Den K G v d) : Rel K ea H0 G H (σ ++ [some v]) (st ++ [.dat d]) := by
  have r1 : Rel K ea H0 G H (σ ++ [none]) (st ++ [.un]) := by
    refine ⟨r.s, by simp [r.len], fun i c q hb => ?_, fun i e q => ?_, fun i xs q m => ?_, fun i j xs ys l q m q' m' p p' => ?_, r.tb, r.tg, r.ob.tr id (fun i o q => ?_) (fun _ _ _ _ _ _ z => z) (fun j a l q m p => ?_) (fun _ _ _ _ _ _ => rfl) (fun _ _ _ _ => rfl) (Ex.refl _) (fun i l h' _ => (r.ob.o1 i l h').2)⟩
    all_goals
      have cs : ∀ {i : Nat} {s : Slot}, (st ++ [.un])[i]? = some s → s ≠ .un → i < st.length ∧ st[i]? = some s ∧ (σ ++ [none])[i]? = σ[i]? := fun {i s} q n => by
        by_cases z : i < st.length
        · rw [List.getElem?_append_left z] at q
          exact ⟨z, q, List.getElem?_append_left (by rw [← r.len]; exact z)⟩
        · rw [List.getElem?_append_right (by omega)] at q
          cases hq : i - st.length with
          | zero => rw [hq] at q; cases q; exact absurd rfl n
          | succ m => rw [hq] at q; simp at q
    · obtain ⟨_, a, b⟩ := cs q (by intro z; rw [z] at hb; cases hb)
      rw [b]
      exact r.exc i c a hb
    · obtain ⟨_, a, b⟩ := cs q (by intro z; cases z)
      rw [b]
      exact r.dat i e a
    · obtain ⟨_, a, b⟩ := cs q (by intro z; rw [z] at m; cases m)
      rw [b]
      exact r.own i xs a m
    · obtain ⟨_, a, b⟩ := cs q (by intro z; rw [z] at m; cases m)
      obtain ⟨_, a', b'⟩ := cs q' (by intro z; rw [z] at m'; cases m')
      rw [b] at p
      rw [b'] at p'
      exact r.sep i j xs ys l a m a' m' p p'
    · obtain ⟨_, a, b⟩ := cs q (by intro z; cases z)
      exact ⟨a, b⟩
    · obtain ⟨_, a', b⟩ := cs q (by intro z; rw [z] at m; cases m)
      rw [b] at p
      exact .inr ⟨a, a', m, p⟩
  have r2 := r1.set st.length h
  have e1 : (σ ++ [none]).set st.length (some v) = σ ++ [some v] := by rw [r.len, List.set_append_right _ _ (Nat.le_refl _), Nat.sub_self]; rfl
  have e2 : (st ++ [Slot.un]).set st.length (.dat d) = st ++ [.dat d] := by rw [List.set_append_right _ _ (Nat.le_refl _), Nat.sub_self]; rfl
  rw [e1, e2] at r2
  exact r2
theorem Rel.pushOwnG {σ : L2.St} {st : Store} {l : Addr} {o : HO} {a : Slot} (r : Rel K ea H0 G H σ st) (hl : H l = none) (h0 : H0 l = none) (h : Hld K ea G a o) (nb : a.isob = false := by rfl) : Rel K ea H0 G (upd H l o) (σ ++ [some (.ref l)]) (st ++ [a]) := by
  have r1 := (r.push (v := .non) .non).setOwnG st.length (a := a) hl h0 h nb
  have e1 : (σ ++ [some V.non]).set st.length (some (.ref l)) = σ ++ [some (.ref l)] := by rw [r.len, List.set_append_right _ _ (Nat.le_refl _), Nat.sub_self]; rfl
  have e2 : (st ++ [Slot.dat .non]).set st.length a = st ++ [a] := by rw [List.set_append_right _ _ (Nat.le_refl _), Nat.sub_self]; rfl
  rw [e1, e2] at r1
  exact r1
theorem Rel.pushOwn {σ : L2.St} {st : Store} {l : Addr} {vs : List V} {xs : List D} (r : Rel K ea H0 G H σ st) (hl : H l = none) (h0 : H0 l = none) (h : Dens K G vs xs) : Rel K ea H0 G (upd H l (.lst vs)) (σ ++ [some (.ref l)]) (st ++ [.own xs]) := by
  have r1 := (r.push (v := .non) .non).setOwn st.length hl h0 h
  have e1 : (σ ++ [some V.non]).set st.length (some (.ref l)) = σ ++ [some (.ref l)] := by rw [r.len, List.set_append_right _ _ (Nat.le_refl _), Nat.sub_self]; rfl
  have e2 : (st ++ [Slot.dat .non]).set st.length (.own xs) = st ++ [.own xs] := by rw [List.set_append_right _ _ (Nat.le_refl _), Nat.sub_self]; rfl
  rw [e1, e2] at r1
  exact r1
def aftQ (K : Fr) (ea : Fi) (W : WX) (G0 H0 : Hp) (σ : L2.St) (st : Store) (vs0 : List V) (ss0 : List Slot) (Q : List V → Hp → Prop) (r : R (List Slot)) : Prop := match r with
  | .ok ss => ∀ vs G' H', Ext G0 H0 G' H' → vs.length = ss.length → Rel K ea H0 G' H' (σ ++ (vs0 ++ vs).map some) (st ++ (ss0 ++ ss)) → Q vs H'
  | .rs c => ∀ G' H', Ext G0 H0 G' H' → Rel K ea H0 G' H' σ st → W (.ref (He.ga K c)) none σ H'
  | .no => False
def tQ (K : Fr) (ea : Fi) (W : WX) (f : MQ) : TA := fun σ H Q => ∃ G0 H0 G st vs0 ss0, Ext G0 H0 G H ∧ st.length = σ.length ∧ Rel K ea H0 G H (σ ++ vs0.map some) (st ++ ss0) ∧ aftQ K ea W G0 H0 σ st vs0 ss0 Q (f st)
theorem tQ_nil : ∀ σ H Q, tQ K ea W qNil σ H Q → tNil σ H Q := fun σ H Q h => by
  obtain ⟨G0, H0, G, st, vs0, ss0, x, hl, rl, k⟩ := h
  exact k [] G H x rfl (by rw [List.append_nil, List.append_nil]; exact rl)
theorem tQ_val {f : ME} {g : MQ} : ∀ σ H Q, tQ K ea W (qVal f g) σ H Q → tCons (tE K ea W f) (tQ K ea W g) σ H Q := fun σ H Q h => by
  obtain ⟨G0, H0, G, st, vs0, ss0, x, hl, rl, k⟩ := h
  refine ⟨H0, G, st, rl.left hl, ?_⟩
  unfold qVal at k
  cases z : f st with
  | no => rw [z] at k; exact k
  | rs c => rw [z] at k; exact fun G' H' e => k G' H' (x.trans e) ((rl.left hl).ext e)
  | ok d =>
    rw [z] at k
    intro G1 H1 e1 v dv
    refine ⟨G0, H0, G1, st, vs0 ++ [v], ss0 ++ [.dat d], x.trans e1, hl, ?_, ?_⟩
    · have r2 := (rl.ext e1).push dv
      rw [List.map_append, ← List.append_assoc, ← List.append_assoc]
      exact r2
    · cases z2 : g st with
      | no => simp only [R.bind, z2] at k; exact k
      | rs c => simp only [R.bind, z2] at k; exact k
      | ok ss =>
        simp only [R.bind, z2] at k
        intro vs G2 H2 e2 hv r2
        refine k (v :: vs) G2 H2 e2 (by simp [hv]) ?_
        rw [List.append_assoc, List.append_assoc] at r2
        exact r2
theorem tQ_own {a : MA} {g : MQ} : ∀ σ H Q, tQ K ea W (qOwn a g) σ H Q → tCons (tLst (tA K ea W a)) (tQ K ea W g) σ H Q := fun σ H Q h => by
  obtain ⟨G0, H0, G, st, vs0, ss0, x, hl, rl, k⟩ := h
  refine ⟨H0, G, st, rl.left hl, ?_⟩
  unfold qOwn at k
  cases z : a st with
  | no => rw [z] at k; exact k
  | rs c => rw [z] at k; exact fun G' H' e => k G' H' (x.trans e) ((rl.left hl).ext e)
  | ok ds =>
    rw [z] at k
    simp only [R.bind] at k
    intro G1 H1 e1 vs dvs
    split at k
    · rename_i hlen
      refine ⟨szl (by rw [dvs.length]; exact hlen), fun p hp => ?_⟩
      have x1 := x.trans e1
      have h0 := x1.h.back hp
      refine ⟨G0, H0, G1, st, vs0 ++ [.ref p], ss0 ++ [.own ds], x1.trans (Ext.newH e1.s hp), hl, ?_, ?_⟩
      · have r2 := (rl.ext e1).pushOwn hp h0 dvs
        rw [List.map_append, ← List.append_assoc, ← List.append_assoc]
        exact r2
      · cases z2 : g st with
        | no => simp only [R.bind, z2] at k; exact k
        | rs c => simp only [R.bind, z2] at k; exact k
        | ok ss =>
          simp only [R.bind, z2] at k
          intro vs G2 H2 e2 hv r2
          refine k (.ref p :: vs) G2 H2 e2 (by simp [hv]) ?_
          rw [List.append_assoc, List.append_assoc] at r2
          exact r2
    · exact k.elim
theorem tQ_of {f : MQ} {is : List Nat} {D : Ends} {σ : L2.St} (h : tS K ea W (mPar is f) D σ H) : ∃ G0 H0, tQ K ea W f σ H fun vs H1 => vs.length = is.length ∧ ∃ G1 st1, Ext G0 H0 G1 H1 ∧ Rel K ea H0 G1 H1 (setV is vs σ) st1 ∧ aftS K ea W G0 H0 D (.nx st1) := by
  obtain ⟨G0, H0, G, st, x, rl, k⟩ := h
  refine ⟨G0, H0, G0, H0, G, st, [], [], x, rl.len, by simpa using rl, ?_⟩
  unfold mPar at k
  cases z : f st with
  | no => rw [z] at k; exact k
  | rs c => rw [z] at k; exact fun G' H' e r => k G' H' σ e r
  | ok ss =>
    rw [z] at k
    simp only [R.thn] at k
    intro vs G' H' e hv r
    split at k
    · rename_i hc
      exact ⟨hv.trans hc.1, G', setS is ss st, e, Rel.mvs is (by simpa using r) rl.len hv hc.1 hc.2, k⟩
    · exact k.elim
theorem tgs_set : ∀ {is : List Nat} {vs : List V} {σ : L2.St} {Q : L2.St → Hp → Prop}, vs.length = is.length → Q (setV is vs σ) H → tgs is vs σ H Q
  | [], [], σ, Q, _, q => ⟨rfl, q⟩
  | [], _ :: _, σ, Q, h, _ => by cases h
  | _ :: _, [], σ, Q, h, _ => by cases h
  | i :: is, v :: vs, σ, Q, h, q => ⟨v, vs, rfl, tgs_set (is := is) (Nat.succ.inj h) q⟩
end
section
variable {X : Cx} {ea : Fi} {W : WX} {a b c : Expr} {es : List Expr} {f : ME} {g : MQ} {ar : MA} {pos : Pos}
theorem gq_nil : PA X [] (tQ X.K ea W qNil) := pa_nil.weak tQ_nil
theorem gq_val (ha : PE X a (tE X.K ea W f)) (hr : PA X es (tQ X.K ea W g)) (hs : starEach (a :: es) X.env = (false, eval a X.env) :: starEach es X.env := by rfl) : PA X (a :: es) (tQ X.K ea W (qVal f g)) := (pa_cons ha hr hs).weak tQ_val
theorem gq_own {els : List Expr} {p : Pos} (ha : PA X els (tA X.K ea W ar)) (hr : PA X es (tQ X.K ea W g)) (hs : starEach (.List els p :: es) X.env = (false, eval (.List els p) X.env) :: starEach es X.env := by rfl) : PA X (.List els p :: es) (tQ X.K ea W (qOwn ar g)) := (pa_cons (pe_lst ha) hr hs).weak tQ_own
theorem gs_par2 {i j : Nat} {x y : Str} {px py pt : Pos} {kt k2 pt2} (hc : X.calm = true) (hN : X.N.Nodup) (hi : X.N[i]? = some x) (hj : X.N[j]? = some y) (hij : i ≠ j) (hx : X.env.scope.names.lookup x = some .local) (hy : X.env.scope.names.lookup y = some .local)
    (ha : PA X [a, b] (tQ X.K ea W g)) (hw : swappedStores [.Tuple [.Name x px, .Name y py] kt pt] (.Tuple [a, b] k2 pt2) X.env = pure (some [x, y]) := by rfl)
    (hs : swapsWithSole [.Tuple [.Name x px, .Name y py] kt pt] (.Tuple [a, b] k2 pt2) pos.line X.env = pure false := by rfl) :
    PS X (.Assign [.Tuple [.Name x px, .Name y py] kt pt] (.Tuple [a, b] k2 pt2) pos) (tS X.K ea W (mPar [i, j] g)) := by
  refine (ps_par (ta := tQ X.K ea W g) hc hN hi hj hij hx hy ha hw hs).weak fun D σ H h => ?_
  obtain ⟨G0, H0, q⟩ := tQ_of h
  obtain ⟨G0', H0', G, st, vs0, ss0, x, hl, rl, k⟩ := q
  refine ⟨G0', H0', G, st, vs0, ss0, x, hl, rl, ?_⟩
  cases z : g st with
  | no => rw [z] at k; exact k
  | rs c => rw [z] at k; exact k
  | ok ss =>
    rw [z] at k
    intro vs G' H' e hv r
    obtain ⟨h1, G1, st1, e1, r1, k1⟩ := k vs G' H' e hv r
    match vs, h1 with
    | [v, w], _ => exact ⟨v, w, rfl, k1 G1 H' _ e1 r1⟩
theorem gs_par3 {i j l : Nat} {x y z : Str} {px py pz pt : Pos} {kt k2 pt2} (hc : X.calm = true) (hN : X.N.Nodup) (hi : X.N[i]? = some x) (hj : X.N[j]? = some y) (hl : X.N[l]? = some z) (hij : i ≠ j) (hil : i ≠ l) (hjl : j ≠ l)
    (hx : X.env.scope.names.lookup x = some .local) (hy : X.env.scope.names.lookup y = some .local) (hz : X.env.scope.names.lookup z = some .local) (ha : PA X [a, b, c] (tQ X.K ea W g))
    (hw : swappedStores [.Tuple [.Name x px, .Name y py, .Name z pz] kt pt] (.Tuple [a, b, c] k2 pt2) X.env = pure (some [x, y, z]) := by rfl)
    (hs : swapsWithSole [.Tuple [.Name x px, .Name y py, .Name z pz] kt pt] (.Tuple [a, b, c] k2 pt2) pos.line X.env = pure false := by rfl) :
    PS X (.Assign [.Tuple [.Name x px, .Name y py, .Name z pz] kt pt] (.Tuple [a, b, c] k2 pt2) pos) (tS X.K ea W (mPar [i, j, l] g)) := by
  refine (ps_par3 (ta := tQ X.K ea W g) hc hN hi hj hl hij hil hjl hx hy hz ha hw hs).weak fun D σ H h => ?_
  obtain ⟨G0, H0, q⟩ := tQ_of h
  obtain ⟨G0', H0', G, st, vs0, ss0, x, hl, rl, k⟩ := q
  refine ⟨G0', H0', G, st, vs0, ss0, x, hl, rl, ?_⟩
  cases z : g st with
  | no => rw [z] at k; exact k
  | rs c => rw [z] at k; exact k
  | ok ss =>
    rw [z] at k
    intro vs G' H' e hv r
    obtain ⟨h1, G1, st1, e1, r1, k1⟩ := k vs G' H' e hv r
    match vs, h1 with
    | [u, v, w], _ => exact ⟨u, v, w, rfl, k1 G1 H' _ e1 r1⟩
/-- as a tuple that is taken apart -/
theorem gs_parT {ts es : List Expr} {n : Nat} {is : List Nat} {kt k2 : Nat} {pt pt2 : Pos} (hn : is.length = n) (ha : PA X es (tQ X.K ea W g)) (hc : X.calm = true) (hp : PGs X ts (tgs is)) (h3 : n ≤ 100000) (hn2 : (assignEach ts X.env).length = n := by rfl) (hst : (assignEach ts X.env).findIdx? (·.1) = none := by rfl)
    (hs : swapsWithSole [.Tuple ts kt pt] (.Tuple es k2 pt2) pos.line X.env = pure false := by rfl) (hw : swappedStores [.Tuple ts kt pt] (.Tuple es k2 pt2) X.env = pure none := by rfl) (h1 : (assignEach [.Tuple ts kt pt] X.env).map (·.2) = [assign (.Tuple ts kt pt) X.env] := by rfl) :
    PS X (.Assign [.Tuple ts kt pt] (.Tuple es k2 pt2) pos) (tS X.K ea W (mPar is g)) := by
  refine (ps_asg (te := tTup (tQ X.K ea W g)) (pe_tup ha) (pg_tup hc hp hn2 hst) hs hw h1).weak fun D σ H h => ?_
  obtain ⟨G0, H0, q⟩ := tQ_of h
  obtain ⟨G0', H0', G, st, vs0, ss0, x, hl, rl, k⟩ := q
  refine ⟨G0', H0', G, st, vs0, ss0, x, hl, rl, ?_⟩
  cases z : g st with
  | no => rw [z] at k; exact k
  | rs c => rw [z] at k; exact k
  | ok ss =>
    rw [z] at k
    intro vs G' H' e hv r
    obtain ⟨h1, G1, st1, e1, r1, k1⟩ := k vs G' H' e hv r
    refine ⟨szl (by omega), fun p hp => ⟨p, vs, rfl, SqT.of upd_same, by omega, tgs_set h1 ?_⟩⟩
    have ex := Ext.newH (o := .tup vs) e1.s hp
    exact k1 G1 _ _ (e1.trans ex) (r1.ext ex)
end
end Pg
namespace Pg
open PySem PySem.Spec PyProof.Rows L2
variable [Tb]
theorem gt_cmp {X : Cx} {ea : Fi} {W : WX} {a b : Expr} {f g : ME} {pos : Pos} {op : CmpOp} {r : R2} {o : D → D → Option D} (ho : OpR X (compareOp op) r) (ok : Op2 X.K r o) (ha : PE X a (tE X.K ea W f)) (hb : PE X b (tE X.K ea W g)) (hm : behindInMarks op b = false) : PT X (.Compare a [op] [b] pos) (tT X.K ea W (mVal (bin o f g))) :=
  (pt_cmpR ho ha hb hm).weak fun σ H Q hq => tE_bin ok σ H _ (tT_val (f := bin o f g) σ H Q hq)
end Pg
namespace Pg
open PySem PySem.Spec PyProof.Rows L2
variable [Tb]
/-- the end of a law whose def may let exceptions out of its callees -/
theorem walk_end {l : PySem.W.OpenLaw} {n k : Nat} {q : Program} {loose : List Str} {XP : (Str → Option Value) → Heap → Prop} {YP : World → Heap → Prop} {d : DefRec} {x : Str} (hn : l.most = some n) (hn2 : n ≤ sizeLine) (hdf : d.params.defaults = []) (hr : Room k callerA)
    (F : ∀ (w : World) (mg : Str → Option Value) (fa : Addr) (h : Heap), YP w h → h.Ns mainGlobals mg → mg d.name = some (.ref fa) →
      ∃ (K : Fr) (fd : FuncData) (sp : Sp), K.In h ∧ (∀ (s : Shared) (u : Value), BindsTo s fd ⟨[u], []⟩ [(x, u)]) ∧
        (∀ (H : Hp) (a : Addr) (ns : List Int), ns.length ≤ n → Only H → SqL K H a (ns.map V.int) → sp [.ref a] H (fun v _ => v = .bl true) fun _ _ _ => False) ∧
        ∀ base : Heap, FnOk l.prog w K mg base (L2.CX l.prog w) k fa fd [x] sp) :
    PySem.W.WalkO q loose XP YP l.row.toRowW d [] (fun f vs => PySem.call f vs) := by
  refine Att.attach_call hn hdf fun w s₀ s₁ mg mb fa o pm cd doc a vs ns G Y ho hd hcd hmg hobj hints hlen hg => ?_
  obtain ⟨K, fd, sp, KX, hb, hsp, hF⟩ := F w mg fa _ Y G.T.g hmg
  exact law_call KX G.T.g G.T.b G.T.builtins G.T.nolimit hg hobj hints (Nat.le_trans hlen hn2) hr (fun base _ _ => hF base) hb (fun H hO hS => hsp H a ns hlen hO hS) fun H e s' h => noCX H s₁ e s' h
end Pg

namespace Pg
open PySem PySem.Spec PyProof.Rows L2
variable [Tb]
theorem DefK.mono {P : Program} {w : World} {K : Fr} {mg : Str → Option Value} {base : Heap} {x : Str} {j k n : Nat} {F : List D → R D} (d : DefK P w K mg base x j n F) (h : j ≤ k) : DefK P w K mg base x k n F := by
  obtain ⟨fd, ps, a, b⟩ := d.ex
  exact ⟨d.m, d.kp, fd, ps, a.mono h, b⟩
/-! ### the least of a list of pairs -/
abbrev prP (p : Int × Int) : PyData := .tuple [.int p.1, .int p.2]
def prLt (p q : Int × Int) : Bool := decide (p.1 < q.1 ∨ (p.1 = q.1 ∧ p.2 < q.2))
def minPr (x : Int × Int) (xs : List (Int × Int)) : Int × Int := xs.foldl (fun a y => if prLt y a = true then y else a) x
theorem minPr_map : ∀ (xs : List (Int × Int)) (x : Int × Int), PySem.W.minD (prP x) (xs.map prP) = prP (minPr x xs)
  | [], _ => rfl
  | y :: xs, x => by
    have e : PySem.W.minD (prP x) (prP y :: xs.map prP) = PySem.W.minD (if PySem.W.dataLt (prP y) (prP x) = true then prP y else prP x) (xs.map prP) := rfl
    have e2 : minPr x (y :: xs) = minPr (if prLt y x = true then y else x) xs := rfl
    rw [List.map_cons, e, e2, PySem.W.dataLt_ii]
    show PySem.W.minD (if prLt y x = true then _ else _) _ = _
    split
    · exact minPr_map xs y
    · exact minPr_map xs x
def prsOf : List D → Option (List (Int × Int))
  | [] => some []
  | .tup [.int a, .int b] :: r => (prsOf r).map fun q => (a, b) :: q
  | _ => none
def minPB (a : List D) : Option D := (lstArg a).bind fun xs => (prsOf xs).bind fun
  | p :: ps => some (.tup [.int (minPr p ps).1, .int (minPr p ps).2])
  | [] => none
theorem prsOf_inv : ∀ {xs : List D} {ps : List (Int × Int)}, prsOf xs = some ps → xs = ps.map fun p => D.tup [.int p.1, .int p.2]
  | [], _, h => by cases h; rfl
  | .tup [.int a, .int b] :: r, ps, h => by
    obtain ⟨q, h1, rfl⟩ := Option.map_eq_some_iff.mp (show (prsOf r).map _ = some ps from h)
    rw [prsOf_inv h1]
    rfl
theorem dens_pairs {K : Fr} {G H : Hp} (s : Ex G H) : ∀ {ps : List (Int × Int)} {ws : List V}, Dens K G ws (ps.map fun p => D.tup [.int p.1, .int p.2]) → DpAll K H ws (ps.map prP)
  | [], _, .nil => .nil
  | p :: ps, _, .cons h r => by
    have a : okd 2 (D.tup [.int p.1, .int p.2]) = true := rfl
    exact .cons (den_dp 2 (h.mono s) a) (dens_pairs s r)
theorem prs_alike (ps : List (Int × Int)) : PySem.W.AlikeAll (ps.map prP) := by
  refine ⟨fun x hx y hy => ?_, fun x hx => ?_⟩
  · obtain ⟨p, _, rfl⟩ := List.mem_map.mp hx
    obtain ⟨q, _, rfl⟩ := List.mem_map.mp hy
    rfl
  · obtain ⟨p, _, rfl⟩ := List.mem_map.mp hx
    exact fun h => by cases h
theorem prs_depth : ∀ ps : List (Int × Int), PyData.depthAll (ps.map prP) ≤ 2
  | [] => Nat.zero_le _
  | p :: ps => by
    rw [List.map_cons]
    simp only [PyData.depthAll, PyData.depth]
    have := prs_depth ps
    omega
/-- min(xs), a list of pairs of ints -/
def rMinP (K : Fr) : List V → Hp → VK → Prop := fun vs H Q => ∃ (a : Addr) (ws : List V) (p : Int × Int) (ps : List (Int × Int)), vs = [.ref a] ∧ SqL K H a ws ∧ DpAll K H ws ((p :: ps).map prP) ∧
  ∀ (i : Nat) (u : V), ws[i]? = some u → (p :: ps)[i]? = some (minPr p ps) → Q u H
theorem reads_pair {h : Heap} {v : Value} {p q : Int × Int} {as bs : List Addr} (r : Reads h v (prP p) as) (r2 : Reads h v (prP q) bs) : p = q := by
  have e := (Reads.unique r _ _ r2).1
  simp only [prP, PyData.tuple.injEq, List.cons.injEq, PyData.int.injEq, and_true] at e
  exact Prod.ext e.1 e.2
theorem rel_get : ∀ {vs : List V} {us : List Value}, Vals vs us → ∀ {i : Nat} {u : Value}, us[i]? = some u → ∃ v, vs[i]? = some v ∧ RelV v u
  | _, _, .nil, i, u, h => by simp at h
  | _, _, .cons h r, 0, u, e => by cases e; exact ⟨_, rfl, h⟩
  | _, _, .cons h r, i + 1, u, e => rel_get r (i := i) (by simpa using e)
theorem dp_get {K : Fr} {H : Hp} : ∀ {vs : List V} {ds : List PyData}, DpAll K H vs ds → ∀ {i : Nat} {v : V}, vs[i]? = some v → ∃ d, ds[i]? = some d ∧ Dp K H v d
  | _, _, .nil, i, u, h => by simp at h
  | _, _, .cons h r, 0, u, e => by cases e; exact ⟨_, rfl, h⟩
  | _, _, .cons h r, i + 1, u, e => dp_get r (i := i) (by simpa using e)
theorem cr_minP {X : Cx} (hc : X.calm = true) (hu : X.A.units + 64 < cLine) : CallR X (.builtin "min") (rMinP X.K) := by
  intro pins s σ H vs us Q I r h
  obtain ⟨a, ws, p, ps, rfl, hs, dp, q⟩ := h
  obtain ⟨its, rv, hl, _⟩ := I.list hs
  rw [Vals.ref1 r]
  obtain ⟨as, hr⟩ := Dp.readsAll I _ _ _ dp rv
  rw [List.map_cons] at hr
  have hd := prs_depth (p :: ps)
  rw [List.map_cons] at hd
  have hal := prs_alike (p :: ps)
  rw [List.map_cons] at hal
  refine PySem.W.min_list_data (I.ok.hd hc) (vs := its.toArray) hl.isList hr hal (by omega) fun i v h' tk bs hv r2 hk => ?_
  rw [minPr_map] at r2
  have hv' : its[i]? = some v := by simpa using hv
  obtain ⟨u, hu1, hu2⟩ := rel_get rv hv'
  obtain ⟨d, hd1, hd2⟩ := dp_get dp hu1
  rw [List.getElem?_map] at hd1
  obtain ⟨pr, hp1, rfl⟩ := Option.map_eq_some_iff.mp hd1
  obtain ⟨cs, r3⟩ := Dp.reads I _ _ _ hd2 hu2
  have e := reads_pair (Reads.keeps hk r3) r2
  exact ⟨u, H, I.kept hk, hu2, q i u hu1 (by rw [hp1, e])⟩
theorem ok_minP {K : Fr} : OpN K (rMinP K) minPB := by
  intro G H vs xs z Q s d e k
  obtain ⟨ys, h1, e⟩ := Option.bind_eq_some_iff.mp e
  obtain ⟨ps, h2, e⟩ := Option.bind_eq_some_iff.mp e
  match ps, e with
  | p :: ps, e =>
    cases e
    rw [lstArg_inv h1] at d
    obtain ⟨v, rfl, h⟩ := one_inv d
    cases h with
    | @lst a us _ ha hd =>
      rw [prsOf_inv h2] at hd
      refine ⟨a, us, p, ps, rfl, SqL.of (s _ _ ha), dens_pairs s hd, fun i u hu hp => ?_⟩
      obtain ⟨w, hw, dw⟩ := hd.get (i := i) (by rw [List.getElem?_map, hp]; rfl)
      rw [hu] at hw
      cases hw
      exact k _ _ _ (Ext.refl s) dw
end Pg

namespace Pg
open PySem PySem.Spec PyProof.Rows L2
variable [Tb]
/-! ### len(set(xs)) -/
def dedupI (ns : List Int) : List Int := PyProof.Rows.firstMet (fun i => ns.getD i 0) ns.length
def lensetD : D → Option D
  | .lst xs => (intsOf xs).bind fun ns => if ns.length ≤ 4000 then some (.int ((dedupI ns).length : Nat)) else none
  | _ => none
def tLenSet (K : Fr) (ta : TE) : TE := fun σ H Q => ta σ H fun x H1 => ∃ (l : Addr) (ns : List Int), x = .ref l ∧ SqL K H1 l (ns.map V.int) ∧ ns.length ≤ 4000 ∧ Q (.int ((dedupI ns).length : Nat)) H1
theorem pe_lenSet {X : Cx} {a : Expr} {ta : TE} {p p2 q pos : Pos} (hg : Gl X "len") (hm : X.mg "len" = none) (hg2 : Gl X "set") (hm2 : X.mg "set" = none) (ha : PE X a ta) (hc : X.calm = true)
    (na : starEach [a] X.env = (false, eval a X.env) :: starEach [] X.env) : PE X (.Call (.Name "len" p) [.Call (.Name "set" p2) [a] [] q] [] pos) (tLenSet X.K ta) := by
  refine ⟨fun pins s σ H Q I h => ?_⟩
  refine Call_ (ld_blt I hg hm boot_len ?_)
  refine PyProof.Rows.callWith_builtin1 (PyProof.Rows.args_cons ?_ rfl) rfl rfl
  refine Call_ (ld_blt I hg2 hm2 boot_set ?_)
  refine PyProof.Rows.callWith_type1 (PyProof.Rows.args_cons (thn (ha.run pins s σ H _ I h) fun v s1 ⟨x, H1, I1, r1, q1⟩ => PyProof.Rows.args_nil ?_) na) na rfl
  obtain ⟨l, ns, rfl, hq, hl, q1⟩ := q1
  cases r1
  obtain ⟨its, r, pl, hz⟩ := I1.list hq
  have hlen : its.toArray.size = ns.length := by rw [List.size_toArray, ← r.length, List.length_map]
  refine call_set_list (I1.ok.hd hc) pl.isList (by simpa using RZ.intsAre_vals r) (by rw [hlen]; unfold scanBound; omega) fun h' tk hS hk => ?_
  refine PyProof.Rows.args_nil ?_
  rw [hlen] at hS
  obtain ⟨o, es, ep, t, ho, hex, hd, _, _, _, hf, hn⟩ := hS
  have I2 : Inv X pins σ H1 { s1 with heap := h', toks := tk } := I1.kept fun b o e => hk b o (Heap.lt_size e) e
  have hle := PyProof.Rows.firstMet_length_le (fun i => ns.getD i 0) ns.length
  exact call_len_set ho hex hd hf (by rw [hn] <;> omega) ⟨.int ((dedupI ns).length : Nat), H1, I2.tok _, ⟨_, by rw [hn]; rfl⟩, q1⟩
theorem g_lenset {X : Cx} {ea : Fi} {W : WX} {a : Expr} {f : ME} {p p2 q pos : Pos} (hc : X.calm = true) (hm : X.mg "len" = none) (hm2 : X.mg "set" = none) (ha : PE X a (tE X.K ea W f)) (hg : Gl X "len" := by rfl) (hg2 : Gl X "set" := by rfl)
    (na : starEach [a] X.env = (false, eval a X.env) :: starEach [] X.env := by rfl) : PE X (.Call (.Name "len" p) [.Call (.Name "set" p2) [a] [] q] [] pos) (tE X.K ea W (unr lensetD f)) :=
  (pe_lenSet hg hm hg2 hm2 ha hc na).weak fun σ H Q hq => by
    obtain ⟨H0, G, st, rl, a⟩ := hq
    refine ⟨H0, G, st, rl, aft_mono (aft_bind a) fun x G1 H1 e1 a1 v dv => ?_⟩
    obtain ⟨z, ez, k⟩ := aft_of a1
    cases dv with
    | @lst l vs xs hl hd =>
      have ez' : ((intsOf xs).bind fun ns => if ns.length ≤ 4000 then some (D.int ((dedupI ns).length : Nat)) else none) = some z := ez
      obtain ⟨ns, h1, h2⟩ := Option.bind_eq_some_iff.mp ez'
      rw [intsOf_inv h1] at hd
      rw [hd.ints_inv] at hl
      split at h2
      · rename_i h4
        cases h2
        exact ⟨l, ns, rfl, SqL.of (e1.s _ _ hl), h4, k _ _ (Ext.refl e1.s) _ (.int _)⟩
      · cases h2
    | _ => cases ez
end Pg

namespace Pg
open PySem PySem.Spec PyProof.Rows L2
variable [Tb]
/-! ### a op1 b op2 c op3 d, as a test -/
def eChn3 (o1 o2 o3 : D → D → Option D) (f g h i : ME) : ME := fun st => (f st).bind fun x => (g st).bind fun y => (R.of (o1 x y)).bind fun z => (R.of (asB z)).bind fun b => if b = true then (h st).bind fun w => (R.of (o2 y w)).bind fun z2 => (R.of (asB z2)).bind fun b2 => if b2 = true then (i st).bind fun u => R.of (o3 w u) else .ok (.bl false) else .ok (.bl false)
def tChn3 (r1 r2 r3 : R2) (ta tb tc td : TE) : TE := fun σ H Q => ta σ H fun x H1 => tb σ H1 fun y H2 => r1 x y H2 fun z H3 => ∃ k, z = .bl k ∧
  (if k = true then tc σ H3 fun w H4 => r2 y w H4 fun z2 H5 => ∃ k2, z2 = .bl k2 ∧ (if k2 = true then td σ H5 fun u H6 => r3 w u H6 Q else Q (.bl false) H5) else Q (.bl false) H3)
section
variable {X : Cx} {a b c d : Expr} {ta tb tc td : TE} {pos : Pos}
theorem pt_chn3 {p1 p2 p3 : CmpOp} {r1 r2 r3 : R2} (h1 : OpR X (compareOp p1) r1) (h2 : OpR X (compareOp p2) r2) (h3 : OpR X (compareOp p3) r3) (ha : PE X a ta) (hb : PE X b tb) (hc : PE X c tc) (hd : PE X d td)
    (hm : lastMarks [p1, p2, p3] [b, c, d] = false := by with_unfolding_all rfl) : PT X (.Compare a [p1, p2, p3] [b, c, d] pos) (tTest (tChn3 r1 r2 r3 ta tb tc td)) := by
  refine ⟨fun pins s σ H Q I h => ?_⟩
  refine isTrue_chain (thn (ha.run pins s σ H _ I h) fun v s1 ⟨x, H1, I1, q1, e1⟩ => test_link (thn (hb.run pins s1 σ H1 _ I1 e1) fun u s2 ⟨y, H2, I2, q2, e2⟩ =>
    thn (h1 pins s2 σ H2 x y v u _ I2 q1 q2 e2) fun m s3 ⟨z, H3, I3, q3, k, e, e3⟩ => ?_)) hm
  subst e
  cases q3
  refine wpAny_truthy_bool ?_
  cases k with
  | false =>
    obtain ⟨k', e', q'⟩ := e3
    cases e'
    exact ite_ff ⟨H3, I3, q'⟩
  | true =>
    refine ite_tt (test_link (thn (hc.run pins s3 σ H3 _ I3 e3) fun w' s4 ⟨z', H4, I4, q4, e4⟩ => thn (h2 pins s4 σ H4 y z' u w' _ I4 q2 q4 e4) fun m2 s5 ⟨z2, H5, I5, q5, k2, e5, e6⟩ => ?_))
    subst e5
    cases q5
    refine wpAny_truthy_bool ?_
    cases k2 with
    | false =>
      obtain ⟨k', e', q'⟩ := e6
      cases e'
      exact ite_ff ⟨H5, I5, q'⟩
    | true =>
      refine ite_tt (test_last (thn (hd.run pins s5 σ H5 _ I5 e6) fun t' s6 ⟨t, H6, I6, q6, e7⟩ => thn (h3 pins s6 σ H6 z' t w' t' _ I6 q4 q6 e7) fun m3 s7 ⟨z3, H7, I7, q7, k3, e8, e9⟩ => ?_))
      subst e8
      cases q7
      exact wpAny_truthy_bool ⟨H7, I7, e9⟩
end
section
variable {K : Fr} {ea : Fi} {W : WX}
theorem aft_up {σ : L2.St} {G H G' H' : Hp} {α : Type} {r : R α} {k : α → Hp → Hp → Prop} (a : aft K W σ G H r k) (e : Ext G H G' H') : aft K W σ G' H' r k := by
  cases r with
  | no => exact a
  | rs c => exact fun G4 H4 e4 => a G4 H4 (e.trans e4)
  | ok d => exact fun G4 H4 e4 => a G4 H4 (e.trans e4)
theorem tE_chn3 {r1 r2 r3 : R2} {o1 o2 o3 : D → D → Option D} {f g h i : ME} (k1 : Op2 K r1 o1) (k2 : Op2 K r2 o2) (k3 : Op2 K r3 o3) : ∀ σ H Q, tE K ea W (eChn3 o1 o2 o3 f g h i) σ H Q → tChn3 r1 r2 r3 (tE K ea W f) (tE K ea W g) (tE K ea W h) (tE K ea W i) σ H Q := fun σ H Q hq => by
  obtain ⟨H0, G, st, rl, a⟩ := hq
  refine ⟨H0, G, st, rl, aft_mono (aft_bind a) fun x G1 H1 e1 a1 v dv => ?_⟩
  refine ⟨H0, G1, st, rl.ext e1, aft_mono (aft_bind a1) fun y G2 H2 e2 a2 w dw => ?_⟩
  cases ez : o1 x y with
  | none => rw [ez] at a2; exact a2.elim
  | some z =>
    rw [ez] at a2
    refine k1 G2 H2 v w x y z _ e2.s (dv.mono e2.g) dw ez fun q G3 H3 e3 dq => ?_
    cases ez2 : asB z with
    | none => unfold R.of at a2; simp only [R.bind] at a2; rw [ez2] at a2; exact a2.elim
    | some k =>
      unfold R.of at a2; simp only [R.bind] at a2; rw [ez2] at a2
      simp only [R.bind] at a2
      rw [asB_inv ez2] at dq
      refine ⟨k, dq.bl_inv, ?_⟩
      cases k with
      | false => exact a2 G3 H3 e3 _ (.bl _)
      | true =>
        have a3 := aft_up a2 e3
        refine ⟨H0, G3, st, ((rl.ext e1).ext e2).ext e3, aft_mono (aft_bind a3) fun w2 G4 H4 e4 a5 u du => ?_⟩
        cases ey : o2 y w2 with
        | none => rw [ey] at a5; exact a5.elim
        | some z2 =>
          rw [ey] at a5
          refine k2 G4 H4 w u y w2 z2 _ e4.s ((dw.mono e3.g).mono e4.g) du ey fun q2 G5 H5 e5 dq2 => ?_
          cases ey2 : asB z2 with
          | none => simp only [R.bind] at a5; rw [ey2] at a5; exact a5.elim
          | some kk =>
            simp only [R.bind] at a5
            rw [ey2] at a5
            simp only [R.bind] at a5
            rw [asB_inv ey2] at dq2
            refine ⟨kk, dq2.bl_inv, ?_⟩
            cases kk with
            | false => exact a5 G5 H5 e5 _ (.bl _)
            | true =>
              have a6 := aft_up a5 e5
              refine ⟨H0, G5, st, ((((rl.ext e1).ext e2).ext e3).ext e4).ext e5, aft_mono (aft_bind a6) fun t G6 H6 e6 a7 tv dt => ?_⟩
              obtain ⟨z3, ez3, kk2⟩ := aft_of a7
              exact k3 G6 H6 _ _ w2 t z3 Q e6.s ((du.mono e5.g).mono e6.g) dt ez3 fun u G' H' e du => kk2 G' H' e u du
end
theorem gt_chn3 {X : Cx} {ea : Fi} {W : WX} {a b c d : Expr} {f g h i : ME} {pos : Pos} {p1 p2 p3 : CmpOp} {r1 r2 r3 : R2} {o1 o2 o3 : D → D → Option D} (h1 : OpR X (compareOp p1) r1) (k1 : Op2 X.K r1 o1) (h2 : OpR X (compareOp p2) r2) (k2 : Op2 X.K r2 o2) (h3 : OpR X (compareOp p3) r3) (k3 : Op2 X.K r3 o3)
    (ha : PE X a (tE X.K ea W f)) (hb : PE X b (tE X.K ea W g)) (hc : PE X c (tE X.K ea W h)) (hd : PE X d (tE X.K ea W i)) (hm : lastMarks [p1, p2, p3] [b, c, d] = false := by with_unfolding_all rfl) :
    PT X (.Compare a [p1, p2, p3] [b, c, d] pos) (tT X.K ea W (mVal (eChn3 o1 o2 o3 f g h i))) := (pt_chn3 h1 h2 h3 ha hb hc hd hm).weak fun σ H Q hq => by
  have q1 := tT_val (f := eChn3 o1 o2 o3 f g h i) σ H Q hq
  exact tE_chn3 k1 k2 k3 σ H _ q1
/-! ### {k1: v1, k2: v2, k3: v3}[e], texts -/
def sel3D (k1 v1 k2 v2 k3 v3 : PySem.Str) : D → Option D
  | .str x => if k1 = x then some (.str v1) else if k2 = x then some (.str v2) else if k3 = x then some (.str v3) else none
  | _ => none
theorem merge3 {k1 v1 k2 v2 k3 v3 : PySem.Str} (h12 : k1 ≠ k2) (h13 : k1 ≠ k3) (h23 : k2 ≠ k3) : mergeK [] [((.inr k1 : Key), V.str v1), (.inr k2, V.str v2), (.inr k3, V.str v3)] = [(.inr k1, V.str v1), (.inr k2, V.str v2), (.inr k3, V.str v3)] := by
  simp [mergeK, putK, h12, h13, h23]
theorem val3 {k1 v1 k2 v2 k3 v3 x : PySem.Str} {z : D} (h : sel3D k1 v1 k2 v2 k3 v3 (.str x) = some z) : ∃ y, z = .str y ∧ valV [((.inr k1 : Key), V.str v1), (.inr k2, V.str v2), (.inr k3, V.str v3)] (.inr x) = some (.str y) := by
  simp only [sel3D] at h
  split at h
  · rename_i e
    cases h
    exact ⟨_, rfl, by simp [valV, List.find?_cons, e]⟩
  · rename_i n1
    split at h
    · rename_i e
      cases h
      subst e
      exact ⟨_, rfl, by simp [valV, List.find?_cons, n1]⟩
    · rename_i n2
      split at h
      · rename_i e
        cases h
        subst e
        exact ⟨_, rfl, by simp [valV, List.find?_cons, n1, n2]⟩
      · cases h
theorem g_sel3 {X : Cx} {ea : Fi} {W : WX} {e : Expr} {f : ME} {k1 v1 k2 v2 k3 v3 : PySem.Str} {j1 j2 j3 l1 l2 l3 : Nat} {p1 p2 p3 q1 q2 q3 pd pos : Pos} (hu : X.A.units + 64 < cLine) (he : PE X e (tE X.K ea W f)) (h12 : k1 ≠ k2) (h13 : k1 ≠ k3) (h23 : k2 ≠ k3)
    (hs : NoSl e := by intro _ _; rfl) : PE X (.Subscript (.Dict [some (.Constant (.str k1) j1 p1), some (.Constant (.str k2) j2 p2), some (.Constant (.str k3) j3 p3)] [.Constant (.str v1) l1 q1, .Constant (.str v2) l2 q2, .Constant (.str v3) l3 q3] pd) e pos) (tE X.K ea W (unr (sel3D k1 v1 k2 v2 k3 v3) f)) :=
  (pe_dget (by omega) (pe_disp (pps_cons pe_str pe_str (pps_cons pe_str pe_str (pps_cons pe_str pe_str pps_nil))) rfl rfl (by simp) (show 3 ≤ 15 by decide)) he hs).weak fun σ H Q hq => by
    obtain ⟨H0, G, st, rl, a⟩ := hq
    intro p hp
    refine ⟨upd_same, [(.inr k1, V.str v1), (.inr k2, V.str v2), (.inr k3, V.str v3)], rfl, show 3 ≤ 15 by decide, ?_⟩
    have hn : ∀ o o', upd (upd H p o) p o' = upd H p o' := fun o o' => by
      funext x
      by_cases q : x = p
      · subst q; rw [upd_same, upd_same]
      · rw [upd_ne q, upd_ne q, upd_ne q]
    rw [hn, merge3 h12 h13 h23]
    have ex : Ext G H G (upd H p (.dK [(.inr k1, V.str v1), (.inr k2, V.str v2), (.inr k3, V.str v3)])) := Ext.newH rl.s hp
    have a' := aft_up a ex
    refine ⟨H0, G, st, rl.ext ex, aft_mono (aft_bind a') fun x G1 H1 e1 a1 v dv => ?_⟩
    obtain ⟨z, ez, k⟩ := aft_of a1
    cases x with
    | str x =>
      obtain ⟨y, rfl, hv⟩ := val3 ez
      have dv' := dv.str_inv
      subst dv'
      have hd : H1 p = some (.dK [(.inr k1, V.str v1), (.inr k2, V.str v2), (.inr k3, V.str v3)]) := e1.h.lst upd_same trivial
      have g := DGet.k (k := .inr x) hd
      rw [hv] at g
      exact ⟨p, _, rfl, g, k _ _ (Ext.refl e1.s) _ (.str _)⟩
    | _ => cases ez
end Pg

namespace Pg
open PySem PySem.Spec PyProof.Rows L2
variable [Tb]
/-! ### xs.extend(e), xs the def's own list -/
def extTo (i : Nat) (d : D) (st : Store) : RS := match d with
  | .lst zs => (match st[i]? with
    | some (.own xs) => if xs.length + zs.length ≤ 100000 then .nx (st.set i (.own (xs ++ zs))) else .no
    | _ => .no)
  | _ => .no
def mExt (i : Nat) (f : ME) : MS := fun st => ifOwn i st ((f st).thn st fun d => extTo i d st)
section
variable {X : Cx} {K : Fr} {ea : Fi} {W : WX} {e : Expr} {f : ME} {pos : Pos}
theorem tS_ext {i : Nat} {d : D} {D : Ends} {G0 H0 G H : Hp} {σ : L2.St} {st : Store} {l : Addr} {v : V} (x : Ext G0 H0 G H) (rl : Rel K ea H0 G H σ st) (dv : Den K G v d) (p : σ[i]? = some (some (.ref l))) (k : aftS K ea W G0 H0 D (extTo i d st)) :
    rExtend (.ref l) [v] H fun _ H1 => D.nx σ H1 := by
  unfold extTo at k
  cases dv with
  | @lst b us zs hb hd =>
    simp only at k
    cases q : st[i]? with
    | none => rw [q] at k; exact k.elim
    | some s =>
      rw [q] at k
      cases s with
      | own xs =>
        simp only at k
        split at k
        · rename_i hl
          obtain ⟨l', vs, a1, b1, c1, d1, e1⟩ := rl.ownL q
          rw [p] at a1
          cases a1
          exact ⟨l, b, vs, us, rfl, rfl, b1, rl.s _ _ hb, szl (by rw [c1.length, hd.length]; exact hl), k G _ σ (x.wr e1 d1 (by rw [b1]; trivial)) (rl.mut q p (c1.append hd))⟩
        · exact k.elim
      | _ => exact k.elim
  | _ => exact k.elim
theorem gs_ext {i : Nat} {x : Str} {p p2 p3 : Pos} (hN : X.N[i]? = some x) (hv : Vis X.env.scope x) (he : PE X e (tE X.K ea W f)) (hd : (x == ("__debug__" : Str)) = false := by decide) (hcd : (x == ("__classdict__" : Str)) = false := by decide)
    (hbase : attributeBase (.Name x p) "extend" X.env (eval (.Name x p) X.env) = eval (.Name x p) X.env := by rfl)
    (hfew : ((backTo p3 (starEach [e] X.env)).all (fun x => !x.1) && (backToKw p3 (keywordEach [] X.env)).all (fun x => x.1.isSome) && decide ([e].length + ([] : List Keyword).length + (if ([] : List Keyword).isEmpty then 0 else 1) < 30)) = true := by rfl)
    (hline : (p2.endLine == p3.line) = true := by rfl) (h1 : starEach [e] X.env = (false, eval e X.env) :: starEach [] X.env := by rfl) (hplain : (backTo p3 (starEach [] X.env)).any (·.1) = false := by rfl) (hs : swapsWith (.Call (.Attribute (.Name x p) "extend" p2) [e] [] p3) none pos.line X.env = pure false := by rfl) :
    PS X (.Expr (.Call (.Attribute (.Name x p) "extend" p2) [e] [] p3) pos) (tS X.K ea W (mExt i f)) :=
  (ps_expr (pe_bm PySem.F.plainAttrs_list PySem.F.slot_list_extend PySem.F.type_list_extend mt_extend (pe_var hN hv hd hcd) (pa_cons he pa_nil h1) hbase hfew hline h1 hplain) hs).weak fun D σ H h => by
    obtain ⟨G0, H0, G, st, x, rl, k⟩ := h
    obtain ⟨⟨l, vs, p, hl⟩, k⟩ := if_own rl k
    refine ⟨.ref l, p, .inl ⟨rfl, vs, SqL.of hl⟩, H0, G, st, rl, aft_mono (aftS_thn x rl k) fun d G1 H1 e1 k1 v dv => ?_⟩
    exact tS_ext (x.trans e1) (rl.ext e1) dv p k1
end
end Pg

namespace Pg
open PySem PySem.Spec PyProof.Rows L2
variable [Tb]
/-! ### set(xs) of a list of ints, as sorted(..) wants it -/
abbrev emptyS (w : World) : Obj := { cls := .type "set", dict := none, data := .set #[] 0 (.fresh 0 0 (!w.params.followText "set-order")) }
abbrev withS (w : World) (s : Shared) : Shared := { s with heap := s.heap.push (emptyS w) }
theorem set_of_list {P : Program} {w : World} {A : Around} {E : Value → Shared → Prop} {s : Shared} {l : Addr} {us : Array Value} (ns : List Int) {Q : Value → Shared → Prop} (calm : A.handled = none) (il : s.heap.IsList l us) (ia : IntsAre us.toList ns) (few : ns.length + 1 < scanBound)
    (done : ∀ (h' : Heap) (tk c : Nat), SetR w h' s.heap.objs.size (fun j => decide (j ∈ ns)) c → c ≤ ns.length → (∀ b o, s.heap.get? b = some o → h'.get? b = some o) → Q (.ref s.heap.objs.size) { s with heap := h', toks := tk }) :
    wpAny (model P w) A (call (.type "set") [.ref l]) Q E s := by
  have nsz : us.size = ns.length := by
    rw [← Array.length_toList]
    exact ia.length
  obtain ⟨m1, m2, mro⟩ := F.called_set.mro
  have x1 := F.called_set.made
  have x2 := F.called_set.sub
  refine wpAny_call (codeAny_of_tree ?_)
  show wpAny _ _ (callAny (.type "set") _) _ _ _
  refine wpAny_pure ⟨Code.quiet_builtin _ (by decide +kernel), codeAny_builtin F.entry_type_call ?_⟩
  rw [Around.under_plain (weight_type_call_type "set" [.ref l] []) rfl]
  have x3 := F.called_set.notType
  have x4 := F.called_set.canCreate
  have x5 := F.typeCall_set_1 (.ref l)
  repeat any_goals first | assumption | wp_step
  refine codeAny_mono (code_set_led1 (.ref l) (E := E) (Q₁ := fun z s₁ => z = .ref s.heap.objs.size ∧ s₁ = withS w s) ⟨rfl, rfl⟩) fun r s₁ hr => ?_
  match r, hr with
  | .error e, hr => exact hr
  | .ok (.ret z), hr =>
    obtain ⟨rfl, rfl⟩ := hr
    have at0 : (withS w s).heap.get? s.heap.objs.size = some (emptyS w) := Heap.get?_push_size _ rfl
    have ty : (withS w s).TypeIs (.ref s.heap.objs.size) "set" := ⟨_, at0, rfl⟩
    have x6 := F.called_set.init.lookup
    have x7 := F.called_set.init.bind (.ref s.heap.objs.size)
    repeat any_goals first | assumption | wp_step
    refine codeAny_mono (codeAny_call_builtin (R := wants (fun r s₂ => r = .none ∧ ∃ h' tk c, s₂ = { s with heap := h', toks := tk } ∧ SetR w h' s.heap.objs.size (fun j => decide (j ∈ ns)) c ∧ c ≤ ns.length ∧ ∀ b o, s.heap.get? b = some o → h'.get? b = some o) E)
      F.called_set.init.plain F.entry_set_init (check_set_init_1 ty ?_)) fun r₂ s₂ hr₂ => ?_
    · have lt : l < s.heap.objs.size := by
        obtain ⟨o, ho, _⟩ := il
        exact Heap.lt_size ho
      have il1 : (withS w s).heap.IsList l us := il.push _
      obtain ⟨⟨oc, od, oa, os⟩, at1, q1, n1, q2⟩ := il1
      simp only at q1 q2
      subst q1; subst q2
      have il2 : (withS w s).heap.IsList l us := ⟨_, at1, rfl, n1, rfl⟩
      have y1 := F.sub_list_set
      have y2 := F.sub_list_frozenset
      have y3 : (Value.type "list" == Value.type "dict") = false := by decide
      unfold Builtin.«set.__init__» noKeywords Builtin.Frozenset.updateFrom
      generalize gi : pyIter = PI
      wp_walk
      subst gi
      refine wpAny_pyIter_list il2 ?_
      refine wpAny_bind (wpAny_runValue ?_)
      have calm3 : A.in1.in1.in1.handled = none := by simp [calm]
      have sz1 : (withS w s).heap.objs.size = s.heap.objs.size + 1 := Heap.size_push ..
      have ne1 : l ≠ (withS w s).heap.objs.size := by
        rw [sz1]
        exact Nat.ne_of_lt (Nat.lt_succ_of_lt lt)
      have ne2 : s.heap.objs.size ∉ [(withS w s).heap.objs.size, l] := by
        simp only [List.mem_cons, List.not_mem_nil, or_false, not_or]
        rw [sz1]
        exact ⟨Nat.ne_of_lt (Nat.lt_succ_self _), Nat.ne_of_gt lt⟩
      have vals : ∀ (i : Nat) (v : Value), us[i]? = some v → ∃ k t, ns[i]? = some k ∧ v = .int k t := fun i v hv => by
        have hi : i < ns.length := by rw [← nsz]; exact (Array.getElem?_eq_some_iff.mp hv).1
        obtain ⟨t, e⟩ := PyProof.Rows.IntsAre.int_at ia i v (by rw [Array.getElem?_toList]; exact hv)
        refine ⟨ns[i], t, List.getElem?_eq_getElem hi, ?_⟩
        rw [e, List.getD_eq_getElem?_getD, List.getElem?_eq_getElem hi]
        rfl
      refine set_update_ints ((Walks.list calm3 _ l ne1 us).toS) s.heap.objs.size ne2 ns nsz few vals (us.size - 0) 0 _ (by omega) (Nat.zero_le _) ⟨⟨_, Heap.get?_push_size _ rfl, rfl, rfl⟩, (il2.push _)⟩ ?first ?last
      case first => exact ⟨0, Nat.le_refl 0, setR_new_at (Heap.get?_push_of_some _ at0)⟩
      case last =>
        intro s' c' mv hc' sr
        obtain ⟨h', g2, d', tk', os'⟩ := s'
        have e1 : g2 = s.gens := mv.gens
        have e2 : d' = s.drawn := mv.drawn
        have e3 : os' = s.os := mv.os
        subst e1; subst e2; subst e3
        show wpAny _ _ _ _ _ _
        refine wpAny_pure ?_
        show wpAny _ _ (ret Value.none) _ _ _
        rw [nsz] at hc'
        refine wpAny_pure ⟨rfl, h', tk', c', rfl, sr, hc', fun b o e => ?_⟩
        have b0 : b < s.heap.objs.size := Heap.lt_size e
        refine mv.heap b o ?_ (Heap.get?_push_of_some _ (Heap.get?_push_of_some _ e))
        simp only [List.mem_cons, List.not_mem_nil, or_false, not_or]
        exact ⟨Nat.ne_of_lt b0, by
          have z := Nat.ne_of_lt (Nat.lt_succ_of_lt b0)
          rw [← Nat.succ_eq_add_one] at sz1
          exact sz1 ▸ z⟩
    · match r₂, hr₂ with
      | .error e, hr₂ => exact hr₂
      | .ok (.ret z), hr₂ =>
        obtain ⟨rfl, h', tk, c', rfl, sr, hc', kp⟩ := hr₂
        repeat any_goals first | assumption | wp_step
        exact done _ _ _ sr hc' kp
/-! ### sorted(set(xs)) -/
def sortsetD : D → Option D
  | .lst xs => (intsOf xs).bind fun ns => if (sortI (dedupI ns)).length < 64 ∧ ns.length ≤ 4000 then some (.lst ((sortI (dedupI ns)).map D.int)) else none
  | _ => none
end Pg

namespace Pg
open PySem PySem.Spec PyProof.Rows L2
variable [Tb]
/-! ### dicts of ints by ints -/
def dgetI (kvs : List (Int × Int)) (k : Int) : Option Int := match kvs with
  | [] => none
  | p :: r => if p.1 = k then some p.2 else dgetI r k
/-- what may be read of it -/
theorem dgetI_val (k : Int) : ∀ kvs : List (Int × Int), valV (dkV kvs) (.inl k) = (dgetI kvs k).map V.int
  | [] => rfl
  | p :: r => by
    unfold dgetI
    show valV ((Sum.inl p.1, V.int p.2) :: dkV r) (.inl k) = _
    split
    · rename_i e
      rw [valV_pos (by rw [e])]
      rfl
    · rename_i e
      rw [valV_neg (fun z => e (Sum.inl.inj z)), dgetI_val k r]
def putI (kvs : List (Int × Int)) (k v : Int) : List (Int × Int) := if kvs.any (fun p => decide (p.1 = k)) then kvs.map (fun p => if p.1 = k then (p.1, v) else p) else kvs ++ [(k, v)]
theorem put_dkV (kvs : List (Int × Int)) (k v : Int) : putK (dkV kvs) (.inl k) (.int v) = dkV (putI kvs k v) := by
  have e1 : ∀ kvs : List (Int × Int), ((dkV kvs).any fun kv => decide (kv.1 = Sum.inl k)) = kvs.any fun p => decide (p.1 = k) := fun kvs => by
    induction kvs with
    | nil => rfl
    | cons p r ih =>
      show (decide (Sum.inl p.1 = (Sum.inl k : Key)) || (dkV r).any _) = (decide (p.1 = k) || r.any _)
      rw [ih]
      congr 1
      by_cases h : p.1 = k
      · simp [h]
      · simp [h]
  have e2 : ∀ kvs : List (Int × Int), ((dkV kvs).map fun kv => if kv.1 = (Sum.inl k : Key) then (kv.1, V.int v) else kv) = dkV (kvs.map fun p => if p.1 = k then (p.1, v) else p) := fun kvs => by
    induction kvs with
    | nil => rfl
    | cons p r ih =>
      show (if (Sum.inl p.1 : Key) = Sum.inl k then ((Sum.inl p.1 : Key), V.int v) else (Sum.inl p.1, V.int p.2)) :: (dkV r).map _ = _
      rw [ih]
      by_cases h : p.1 = k
      · simp [h, dkV]
      · simp [h, dkV]
  unfold putK putI
  rw [e1]
  split
  · exact e2 kvs
  · simp [dkV]
theorem den_dic {K : Fr} {G H : Hp} {v : V} {b : Bool} {kvs : List (Int × Int)} (s : Ex G H) (d : Den K G v (.dic b kvs)) : ∃ a, v = .ref a ∧ Rd H a (.dK (dkV kvs)) := by
  cases d with
  | dic h => exact ⟨_, rfl, .inl (s _ _ h)⟩
  | dicL h => exact ⟨_, rfl, .inr ⟨_, s _ _ h⟩⟩
theorem rd_get {H : Hp} {a : Addr} {kvs : List (Int × Int)} (h : Rd H a (.dK (dkV kvs))) (k : Int) : DGet H a (.int k) ((dgetI kvs k).map V.int) := .inl ⟨dkV kvs, .inl k, h, rfl, (dgetI_val k kvs).symm⟩
def dixD : D → D → Option D
  | .dic _ kvs, .int k => (dgetI kvs k).map D.int
  | _, _ => none
def dinD (neg : Bool) : D → D → Option D
  | .int k, .dic _ kvs => some (.bl (if neg then !(dgetI kvs k).isSome else (dgetI kvs k).isSome))
  | _, _ => none
def getD1 (kvs : List (Int × Int)) : D → R D
  | .int k => .ok (match dgetI kvs k with
    | some v => .int v
    | none => .non)
  | _ => .no
def getD2 (kvs : List (Int × Int)) : D → D → R D
  | .int k, .int d => .ok (.int ((dgetI kvs k).getD d))
  | _, _ => .no
def onDic (d : D) (g : List (Int × Int) → R D) : R D := match d with
  | .dic _ kvs => g kvs
  | _ => .no
def eGet1 (f g : ME) : ME := fun st => (f st).bind fun x => onDic x fun kvs => (g st).bind fun y => getD1 kvs y
def eGet2 (f g h : ME) : ME := fun st => (f st).bind fun x => onDic x fun kvs => (g st).bind fun y => (h st).bind fun z => getD2 kvs y z
theorem aft_dic {K : Fr} {W : WX} {σ : L2.St} {G H : Hp} {d : D} {g : List (Int × Int) → R D} {k : D → Hp → Hp → Prop} (a : aft K W σ G H (onDic d g) k) : ∃ b kvs, d = .dic b kvs ∧ aft K W σ G H (g kvs) k := by
  cases d with
  | dic b kvs => exact ⟨b, kvs, rfl, a⟩
  | _ => exact a.elim
section
variable {X : Cx} {ea : Fi} {W : WX} {a b c : Expr} {f g h : ME} {pos apos cpos : Pos}
theorem g_dix (hu : X.A.units + 64 < cLine) (ha : PE X a (tE X.K ea W f)) (hb : PE X b (tE X.K ea W g)) (hs : NoSl b := by intro _ _; rfl) : PE X (.Subscript a b pos) (tE X.K ea W (bin dixD f g)) :=
  (pe_dget (by omega) ha hb hs).weak fun σ H Q hq => by
    obtain ⟨H0, G, st, rl, a⟩ := hq
    refine ⟨H0, G, st, rl, aft_mono (aft_bind a) fun x G1 H1 e1 a1 v dv => ?_⟩
    refine ⟨H0, G1, st, rl.ext e1, aft_mono (aft_bind a1) fun y G2 H2 e2 a2 w dw => ?_⟩
    obtain ⟨z, ez, k⟩ := aft_of a2
    cases x with
    | dic l kvs =>
      cases y with
      | int i =>
        obtain ⟨m, hm, rfl⟩ := Option.map_eq_some_iff.mp (show (dgetI kvs i).map D.int = some z from ez)
        obtain ⟨p, rfl, hp⟩ := den_dic e2.s (dv.mono e2.g)
        have q := rd_get hp i
        rw [hm] at q
        rw [dw.int_inv]
        exact ⟨p, .int m, rfl, q, k _ _ (Ext.refl e2.s) _ (.int m)⟩
      | _ => cases ez
    | _ => cases y <;> cases ez
theorem dinD_inv {neg : Bool} {z x y : D} (e : dinD neg x y = some z) : ∃ k l kvs, x = .int k ∧ y = .dic l kvs ∧ z = .bl (if neg then !(dgetI kvs k).isSome else (dgetI kvs k).isSome) := by
  cases x with
  | int k =>
    cases y with
    | dic l kvs => cases e; exact ⟨k, l, kvs, rfl, rfl, rfl⟩
    | _ => cases e
  | _ => cases y <;> cases e
theorem tE_din {neg : Bool} (σ : L2.St) (H : Hp) (Q : VK) (hq : tE X.K ea W (bin (dinD neg) f g) σ H Q) : tE X.K ea W f σ H fun y H1 => tE X.K ea W g σ H1 fun x H2 => ∃ a o, x = .ref a ∧ DGet H2 a y o ∧ Q (.bl (if neg then !o.isSome else o.isSome)) H2 := by
  obtain ⟨H0, G, st, rl, a⟩ := hq
  refine ⟨H0, G, st, rl, aft_mono (aft_bind a) fun x G1 H1 e1 a1 v dv => ?_⟩
  refine ⟨H0, G1, st, rl.ext e1, aft_mono (aft_bind a1) fun y G2 H2 e2 a2 w dw => ?_⟩
  obtain ⟨z, ez, k⟩ := aft_of a2
  obtain ⟨i, l, kvs, rfl, rfl, rfl⟩ := dinD_inv ez
  obtain ⟨p, rfl, hp⟩ := den_dic e2.s dw
  rw [dv.int_inv]
  refine ⟨p, (dgetI kvs i).map V.int, rfl, rd_get hp i, ?_⟩
  rw [Option.isSome_map]
  exact k _ _ (Ext.refl e2.s) _ (.bl _)
theorem g_din (hu : X.A.units + 64 < cLine) (ha : PE X a (tE X.K ea W f)) (hb : PE X b (tE X.K ea W g)) (hm : behindInMarks .In b = false := by rfl) : PE X (.Compare a [.In] [b] pos) (tE X.K ea W (bin (dinD false) f g)) :=
  (pe_cmp (pc_din (by omega) ha hb) hm).weak fun σ H Q hq => tE_din (neg := false) σ H Q hq
theorem g_dnin (hu : X.A.units + 64 < cLine) (ha : PE X a (tE X.K ea W f)) (hb : PE X b (tE X.K ea W g)) (hm : behindInMarks .NotIn b = false := by rfl) : PE X (.Compare a [.NotIn] [b] pos) (tE X.K ea W (bin (dinD true) f g)) :=
  (pe_cmp (pc_dnotin (by omega) ha hb) hm).weak fun σ H Q hq => tE_din (neg := true) σ H Q hq
theorem gt_din (hu : X.A.units + 64 < cLine) (ha : PE X a (tE X.K ea W f)) (hb : PE X b (tE X.K ea W g)) (hm : behindInMarks .In b = false := by rfl) : PT X (.Compare a [.In] [b] pos) (tT X.K ea W (mVal (bin (dinD false) f g))) :=
  (pt_cmp (pc_din (by omega) ha hb) hm).weak fun σ H Q hq => tE_din (neg := false) σ H _ (tT_val (f := bin (dinD false) f g) σ H Q hq)
theorem gt_dnin (hu : X.A.units + 64 < cLine) (ha : PE X a (tE X.K ea W f)) (hb : PE X b (tE X.K ea W g)) (hm : behindInMarks .NotIn b = false := by rfl) : PT X (.Compare a [.NotIn] [b] pos) (tT X.K ea W (mVal (bin (dinD true) f g))) :=
  (pt_cmp (pc_dnotin (by omega) ha hb) hm).weak fun σ H Q hq => tE_din (neg := true) σ H _ (tT_val (f := bin (dinD true) f g) σ H Q hq)
/-- d.get(k) -/
theorem g_dget1 (hu : X.A.units + 64 < cLine) (ha : PE X a (tE X.K ea W f)) (hb : PE X b (tE X.K ea W g)) (m : M1 X a "get" apos b cpos := by exact ⟨rfl, rfl, rfl, rfl⟩) : PE X (.Call (.Attribute a "get" apos) [b] [] cpos) (tE X.K ea W (eGet1 f g)) :=
  (pe_dget1 (by omega) ha hb m).weak fun σ H Q hq => by
    obtain ⟨H0, G, st, rl, a⟩ := hq
    refine ⟨H0, G, st, rl, aft_mono (aft_bind a) fun x G1 H1 e1 a1 v dv => ?_⟩
    obtain ⟨l, kvs, rfl, a2⟩ := aft_dic a1
    obtain ⟨p, rfl, hp⟩ := den_dic e1.s dv
    refine ⟨p, rfl, .inl ⟨_, hp⟩, H0, G1, st, rl.ext e1, aft_mono (aft_bind a2) fun y G2 H2 e2 a3 w dw => ?_⟩
    cases y with
    | int i =>
      obtain ⟨p', e', hp2⟩ := den_dic e2.s (dv.mono e2.g)
      cases e'
      rw [dw.int_inv]
      refine ⟨_, rd_get hp2 i, ?_⟩
      cases q : dgetI kvs i with
      | none => exact a3 _ _ (Ext.refl e2.s) _ (by rw [q]; exact .non)
      | some z => exact a3 _ _ (Ext.refl e2.s) _ (by rw [q]; exact .int z)
    | _ => exact a3.elim
/-- d.get(k, x) -/
theorem g_dget2 (hu : X.A.units + 64 < cLine) (ha : PE X a (tE X.K ea W f)) (hb : PE X b (tE X.K ea W g)) (hc : PE X c (tE X.K ea W h)) (m : M2 X a "get" apos b c cpos := by exact ⟨rfl, rfl, rfl, rfl⟩) : PE X (.Call (.Attribute a "get" apos) [b, c] [] cpos) (tE X.K ea W (eGet2 f g h)) :=
  (pe_dget2 (by omega) ha hb hc m).weak fun σ H Q hq => by
    obtain ⟨H0, G, st, rl, a⟩ := hq
    refine ⟨H0, G, st, rl, aft_mono (aft_bind a) fun x G1 H1 e1 a1 v dv => ?_⟩
    obtain ⟨l, kvs, rfl, a2⟩ := aft_dic a1
    obtain ⟨p, rfl, hp⟩ := den_dic e1.s dv
    refine ⟨p, rfl, .inl ⟨_, hp⟩, H0, G1, st, rl.ext e1, aft_mono (aft_bind a2) fun y G2 H2 e2 a3 w dw => ?_⟩
    refine ⟨H0, G2, st, (rl.ext e1).ext e2, aft_mono (aft_bind a3) fun z G3 H3 e3 a4 u du => ?_⟩
    cases y with
    | int i =>
      cases z with
      | int j =>
        obtain ⟨p', e', hp2⟩ := den_dic e3.s ((dv.mono e2.g).mono e3.g)
        cases e'
        rw [dw.int_inv, du.int_inv]
        refine ⟨_, rd_get hp2 i, ?_⟩
        have e : ((dgetI kvs i).map V.int).getD (.int j) = .int ((dgetI kvs i).getD j) := by cases dgetI kvs i <;> rfl
        rw [e]
        exact a4 _ _ (Ext.refl e3.s) _ (.int _)
      | _ => exact a4.elim
    | _ => cases z <;> exact a4.elim
/-- for k in d, d locked -/
def keysL : D → Option (List D)
  | .dic true kvs => some (kvs.map fun p => .int p.1)
  | _ => none
theorem wd_keys {K : Fr} {G0 : Hp} {d : Addr} {o : Obj} {kvs : List (Int × Int)} (h : G0 d = some (.frz o (.dK (dkV kvs)))) : WalkD K (Itk d o (dkV kvs)) G0 (kvs.map fun p => .int p.1) where
  goes := fun i H hi e => ⟨e _ _ h, by unfold dkV; simpa using hi⟩
  stops := fun H e => ⟨e _ _ h, by unfold dkV; simp⟩
  yields := fun i G H x H' hi e0 e y => by
    obtain ⟨rfl, k, v, hk, rfl⟩ := y
    unfold dkV at hk
    rw [List.getElem?_map] at hk
    cases q : kvs[i]? with
    | none => rw [q] at hk; cases hk
    | some p =>
      rw [q] at hk
      cases hk
      exact ⟨G, .int p.1, by rw [List.getElem?_map, q]; rfl, Ext.refl e, .int _⟩
theorem gi_keys {tg : Expr} (hp : PE X a (tE X.K ea W f)) : PI X tg a (tI X.K ea W (iSeq keysL f)) := (pi_keys hp).weak fun σ H R hq => by
  obtain ⟨H0, G, st, rl, a⟩ := hq
  refine ⟨H0, G, st, rl, aft_mono (aft_bind a) fun x G1 H1 e1 a1 v dv => ?_⟩
  obtain ⟨z, ez, k⟩ := aft_of a1
  cases dv with
  | @dicL d o kvs hd =>
    cases ez
    exact ⟨d, o, rfl, .inl ⟨dkV kvs, e1.s _ _ hd, k G1 H1 (Ext.refl e1.s) _ (wd_keys hd)⟩⟩
  | _ => cases ez
/-- the store of a locked expression: the dict in slot i, and what is flat -/
def flatS : Slot → Slot
  | .dat d => if flatD d = true then .dat d else .un
  | _ => .un
def lockS (i : Nat) (st : Store) : Option Store := match st[i]? with
  | some (.dat (.dic false kvs)) => some ((st.map flatS).set i (.dat (.dic true kvs)))
  | some (.owd kvs) => some ((st.map flatS).set i (.dat (.dic true kvs)))
  | _ => none
theorem lockS_inv {K : Fr} {ea : Fi} {H0 G H : Hp} {σ : L2.St} {st st' : Store} {i : Nat} (rl : Rel K ea H0 G H σ st) (h : lockS i st = some st') : ∃ kvs p, st' = (st.map flatS).set i (.dat (.dic true kvs)) ∧ σ[i]? = some (some (.ref p)) ∧ H p = some (.dK (dkV kvs)) ∧ i < st.length := by
  unfold lockS at h
  cases hi : st[i]? with
  | none => rw [hi] at h; cases h
  | some sl =>
    have il : i < st.length := (List.getElem?_eq_some_iff.mp hi).1
    rw [hi] at h
    cases sl with
    | dat d =>
      cases d with
      | dic b kvs =>
        cases b with
        | true => cases h
        | false =>
          cases h
          obtain ⟨v, hv, dv⟩ := rl.dat i _ hi
          cases dv with
          | @dic p _ hp => exact ⟨kvs, p, rfl, hv, rl.s _ _ hp, il⟩
      | _ => cases h
    | owd kvs =>
      cases h
      obtain ⟨l, a, b, _⟩ := rl.ownD hi
      exact ⟨kvs, l, rfl, a, b, il⟩
    | _ => cases h
def flatL : D → R D
  | .lst xs => if xs.all flatD = true then .ok (.lst xs) else .no
  | _ => .no
def eLock (i : Nat) (f : ME) : ME := fun st => match lockS i st with
  | some st' => (f st').nr.bind flatL
  | none => .no
theorem dens_flatD {K : Fr} {G G' : Hp} : ∀ {vs : List V} {xs : List D}, Dens K G vs xs → xs.all flatD = true → Dens K G' vs xs
  | _, _, .nil, _ => .nil
  | _, _, .cons h r, e => by
    rw [List.all_cons, Bool.and_eq_true] at e
    exact .cons (ext_den_flat e.1 h) (dens_flatD r e.2)
theorem g_lock {i : Nat} (hp : PE X a (tE X.K ea W0 f)) : PE X a (tE X.K ea W (eLock i f)) := (pe_lock hp).weak fun σ H Q hq => by
  obtain ⟨H0, G, st, rl, q⟩ := hq
  unfold eLock at q
  cases hs : lockS i st with
  | none => rw [hs] at q; exact q.elim
  | some st' =>
    rw [hs] at q
    obtain ⟨kvs, p, rfl, hv, hpH, il⟩ := lockS_inv rl hs
    refine ⟨p, .dK (dkV kvs), hpH, trivial, fun od => ?_⟩
    have hne : ∀ {b o}, H b = some o → b ≠ p → upd H p (.frz od (.dK (dkV kvs))) b = some o := fun {b o} e n => by rw [upd_ne n]; exact e
    obtain ⟨G1, hG1⟩ : ∃ G1, G1 = upd G p (.frz od (.dK (dkV kvs))) := ⟨_, rfl⟩
    have g1p : G1 p = some (.frz od (.dK (dkV kvs))) := by rw [hG1, upd_same]
    have g1n : ∀ b, b ≠ p → G1 b = G b := fun b n => by rw [hG1, upd_ne n]
    have s1 : Ex G1 (upd H p (.frz od (.dK (dkV kvs)))) := fun b o e => by
      by_cases n : b = p
      · subst n
        rw [g1p] at e
        rw [upd_same]
        exact e
      · rw [g1n b n] at e
        rw [upd_ne n]
        exact rl.s _ _ e
    have rel1 : Rel X.K ea H0 G1 (upd H p (.frz od (.dK (dkV kvs)))) σ ((st.map flatS).set i (.dat (.dic true kvs))) := by
      refine ⟨s1, by rw [List.length_set, List.length_map]; exact rl.len, fun j b z hb => ?_, fun j d z => ?_, fun j s z m => ?_, fun j l s t a z m => ?_, fun q hq => tabS_upd (rl.tb q hq) (by rw [hpH]; trivial), fun q hq => by
        have : q.1 ≠ p := fun z => by
          obtain ⟨ps, h1, _⟩ := rl.tb q hq
          rw [z, hpH] at h1
          cases h1
        rw [g1n _ this]
        exact rl.tg q hq, Obs.no fun j o z => ?_⟩
      · rcases set_cases z with ⟨rfl, _, e⟩ | ⟨n, z⟩
        · subst e
          cases hb
        · rw [List.getElem?_map] at z
          cases w : st[j]? with
          | none => rw [w] at z; cases z
          | some s =>
            rw [w] at z
            cases s with
            | dat d =>
              have z : some (if flatD d = true then Slot.dat d else .un) = some b := z
              split at z <;> (cases z; cases hb)
            | _ => cases z; cases hb
      · rcases set_cases z with ⟨rfl, _, e⟩ | ⟨n, z⟩
        · cases e
          exact ⟨_, hv, .dicL g1p⟩
        · rw [List.getElem?_map] at z
          cases w : st[j]? with
          | none => rw [w] at z; cases z
          | some s =>
            rw [w] at z
            cases s with
            | dat d' =>
              have z : some (if flatD d' = true then Slot.dat d' else .un) = some (Slot.dat d) := z
              split at z
              · rename_i hf
                cases z
                obtain ⟨u, a, b⟩ := rl.dat j _ w
                exact ⟨u, a, ext_den_flat hf b⟩
              · cases z
            | _ => cases z
      · exfalso
        rcases set_cases z with ⟨rfl, _, e⟩ | ⟨n, z⟩
        · subst e; cases m
        · rw [List.getElem?_map] at z
          cases w : st[j]? with
          | none => rw [w] at z; cases z
          | some s' =>
            rw [w] at z
            cases s' with
            | dat d' =>
              have z : some (if flatD d' = true then Slot.dat d' else .un) = some s := z
              split at z <;> cases z <;> cases m
            | _ => cases z; cases m
      · exfalso
        rcases set_cases z with ⟨rfl, _, e⟩ | ⟨n, z⟩
        · subst e; cases m
        · rw [List.getElem?_map] at z
          cases w : st[j]? with
          | none => rw [w] at z; cases z
          | some s' =>
            rw [w] at z
            cases s' with
            | dat d' =>
              have z : some (if flatD d' = true then Slot.dat d' else .un) = some s := z
              split at z <;> cases z <;> cases m
            | _ => cases z; cases m
      · rcases set_cases z with ⟨rfl, _, e⟩ | ⟨n, z⟩
        · cases e
        · rw [List.getElem?_map] at z
          cases w : st[j]? with
          | none => rw [w] at z; cases z
          | some s =>
            rw [w] at z
            cases s with
            | dat d =>
              have z : some (if flatD d = true then Slot.dat d else .un) = some (Slot.ob o) := z
              split at z <;> cases z
            | _ => cases z
    refine ⟨H0, G1, _, rel1, ?_⟩
    cases hr : f ((st.map flatS).set i (.dat (.dic true kvs))) with
    | no => simp only [hr] at q; exact q.elim
    | rs c => simp only [hr] at q; exact q.elim
    | ok d =>
      simp only [hr] at q
      intro G2 H2 e2 u du
      cases d with
      | lst xs =>
        have q' : aft X.K W σ G H (if xs.all flatD = true then R.ok (D.lst xs) else .no) (fun d G' H' => ∀ v, Den X.K G' v d → Q v H') := q
        split at q'
        · rename_i hf
          cases du with
          | @lst l vs _ hl hd =>
            have lp : l ≠ p := fun z => by
              subst z
              have := e2.g _ _ g1p
              rw [this] at hl
              cases hl
            have h2p : H2 p = some (.frz od (.dK (dkV kvs))) := e2.h.lst upd_same trivial
            refine ⟨h2p, q' (upd G l (.lst vs)) (upd H2 p (.dK (dkV kvs))) ⟨fun b o e => ?_, ⟨fun b o e nt => ?_, fun b o e nt => ?_, fun b ps e => ?_, fun q hq t => tabS_upd (e2.h.t q hq (tabS_upd t (by rw [hpH]; trivial))) (by rw [h2p]; trivial)⟩, fun b o e => ?_, fun b o e n => ?_⟩ _ (.lst upd_same (dens_flatD hd hf))⟩
            · by_cases n : b = l
              · subst n
                rw [upd_same, ← e2.g b o (by rw [g1n b lp]; exact e), hl]
              · rw [upd_ne n]
                exact e
            · by_cases n : b = p
              · subst n
                rw [upd_same, ← e]
                exact hpH.symm
              · rw [upd_ne n]
                exact e2.h.k _ _ (by rw [upd_ne n]; exact e) nt
            · by_cases n : b = p
              · subst n
                rw [upd_same, ← e]
                exact hpH.symm
              · rw [upd_ne n]
                exact e2.h.k2 _ _ (by rw [upd_ne n]; exact e) nt
            · have n : b ≠ p := fun n => by
                subst n
                rw [hpH] at e
                cases e
              rw [upd_ne n]
              exact e2.h.q b ps (by rw [upd_ne n]; exact e)
            · by_cases nl : b = l
              · subst nl
                rw [upd_same] at e
                cases e
                rw [upd_ne lp]
                exact e2.s _ _ hl
              · rw [upd_ne nl] at e
                by_cases n : b = p
                · subst n
                  have e' := rl.s _ _ e
                  rw [upd_same, ← e']
                  exact hpH.symm
                · rw [upd_ne n]
                  exact e2.s _ _ (e2.g _ _ (by rw [g1n b n]; exact e))
            · by_cases nl : b = l
              · subst nl
                rcases e2.n b _ hl (by rw [g1n b lp]; exact n) with f | ⟨z, f⟩
                · rw [upd_ne lp] at f
                  exact .inl f
                · rw [upd_ne lp] at f
                  exact .inr ⟨z, f⟩
              · rw [upd_ne nl, n] at e
                cases e
        · exact q'.elim
      | _ => exact q.elim
/-- sorted(d) -/
def sortDB : List D → Option D
  | [.dic _ kvs] => if kvs.length < 64 then some (.lst ((sortI (kvs.map (·.1))).map D.int)) else none
  | _ => none
def rSortD (H : Hp) (xs : List V) (Q : VK) : Prop := ∃ (a : Addr) (kvs : List (Key × V)) (ks : List Int), xs = [.ref a] ∧ Rd H a (.dK kvs) ∧ kvs.map (·.1) = ks.map Sum.inl ∧ ks.length < 64 ∧
    ∀ (ys : List Int) (p : Addr), ys.Perm ks → ys.Pairwise (· ≤ ·) → H p = none → Q (.ref p) (upd H p (.lst (ys.map V.int)))
theorem cr_sortD (hc : X.calm = true) : CallR X (.builtin "sorted") (fun xs H Q => rSortD H xs Q) := call_sortedDI hc
theorem ok_sortD {K : Fr} : OpN K (fun xs H Q => rSortD H xs Q) sortDB := by
  intro G H vs xs z Q s d e k
  match xs, e with
  | [.dic b kvs], e =>
    simp only [sortDB] at e
    split at e
    · rename_i hl
      cases e
      obtain ⟨v, rfl, dv⟩ := one_inv d
      obtain ⟨p, rfl, hp⟩ := den_dic s dv
      refine ⟨p, dkV kvs, kvs.map (·.1), rfl, hp, by unfold dkV; simp, by simpa using hl, fun ys q h1 h2 hq => ?_⟩
      have : ys = sortI (kvs.map (·.1)) := PySem.W.ksm_same (h1.trans (sortI_perm _).symm) h2 (sortI_sorted _)
      subst this
      have ex := Ext.new (G := G) (H := H) (p := q) (o := .lst ((sortI (kvs.map (·.1))).map V.int)) s hq
      exact k _ _ _ ex (.lst upd_same (dens_ints _))
    · cases e
end
/-! ### d[k] = v, d the def's own -/
def putTo (i : Nat) (k v : D) (st : Store) : RS := match k, v with
  | .int k, .int v => (match st[i]? with
    | some (.owd kvs) => if kvs.length < 100000 then .nx (st.set i (.owd (putI kvs k v))) else .no
    | _ => .no)
  | _, _ => .no
def ifOwd (i : Nat) (st : Store) (r : RS) : RS := match st[i]? with
  | some (.owd _) => r
  | _ => .no
def mPut (i : Nat) (fk fv : ME) : MS := fun st => ifOwd i st ((fv (thaw st)).thn st fun v => (fk (thaw st)).thn st fun k => putTo i k v st)
section
variable {X : Cx} {K : Fr} {ea : Fi} {W : WX} {e e2 : Expr} {f fk : ME} {pos : Pos}
theorem if_owd {D : Ends} {G0 H0 G H : Hp} {σ : L2.St} {st : Store} {i : Nat} {r : RS} (rl : Rel K ea H0 G H σ st) (k : aftS K ea W G0 H0 D (ifOwd i st r)) : (∃ l, σ[i]? = some (some (.ref l))) ∧ aftS K ea W G0 H0 D r := by
  unfold ifOwd at k
  cases q : st[i]? with
  | none => rw [q] at k; exact k.elim
  | some s =>
    rw [q] at k
    cases s with
    | owd kvs =>
      obtain ⟨l, a, b, _⟩ := rl.ownD q
      exact ⟨⟨l, a⟩, k⟩
    | _ => exact k.elim
theorem tS_put {i : Nat} {k v : D} {D : Ends} {G0 H0 G H : Hp} {σ : L2.St} {st : Store} {l : Addr} {G1 G2 : Hp} {u w : V} (x : Ext G0 H0 G H) (rl : Rel K ea H0 G H σ st) (dk : Den K G1 w k) (dv : Den K G2 u v) (p : σ[i]? = some (some (.ref l))) (q : aftS K ea W G0 H0 D (putTo i k v st)) :
    ∃ H4, DPut H l w u H4 ∧ D.nx σ H4 := by
  unfold putTo at q
  cases k with
  | int k =>
    cases v with
    | int v =>
      simp only at q
      cases z : st[i]? with
      | none => rw [z] at q; exact q.elim
      | some s =>
        rw [z] at q
        cases s with
        | owd kvs =>
          simp only at q
          split at q
          · rename_i hl
            obtain ⟨l', a1, b1, d1, e1⟩ := rl.ownD z
            rw [p] at a1
            cases a1
            rw [dk.int_inv, dv.int_inv]
            refine ⟨_, DPut.k (k := .inl k) (v := .int v) b1 (szl' (by unfold dkV; simpa using hl)), ?_⟩
            rw [put_dkV]
            exact q G _ σ (x.wr e1 d1 (by rw [b1]; trivial)) (rl.mutG (a' := .owd (putI kvs k v)) (o' := .dK (dkV (putI kvs k v))) z rfl p rfl)
          · exact q.elim
        | _ => exact q.elim
    | _ => exact q.elim
  | _ => cases v <;> exact q.elim
theorem gs_put {i : Nat} {x : Str} {p p2 : Pos} (hu : X.A.units + 64 < cLine) (hN : X.N[i]? = some x) (hv : Vis X.env.scope x) (hk : PE X e2 (tE X.K ea W fk)) (he : PE X e (tE X.K ea W f)) (hd : (x == ("__debug__" : Str)) = false := by decide) (hcd : (x == ("__classdict__" : Str)) = false := by decide)
    (hs : swapsWith e (some (.Subscript (.Name x p) e2 p2)) pos.line X.env = pure false := by rfl) :
    PS X (.Assign [.Subscript (.Name x p) e2 p2] e pos) (tS X.K ea W (mPut i fk f)) :=
  (ps_dput (by omega) (pe_var hN hv hd hcd) hk he hs).weak fun D σ H h => by
    obtain ⟨G0, H0, G, st, x, rl, k⟩ := h
    obtain ⟨⟨l, p⟩, k⟩ := if_owd rl k
    obtain ⟨G', x', gg, rl'⟩ := rl.thaw x
    refine ⟨H0, G', thaw st, rl', aft_mono (aftS_thaw x rl gg k) fun d G1 H1 e1 k1 v dv => ?_⟩
    have x2 := x.trans (Ext.topX e1.h (gg.trans (e1.g.trans e1.s)))
    have r2 := rl.ext (Ext.topX e1.h (gg.trans (e1.g.trans e1.s)))
    obtain ⟨G2, x3, gg2, rl3⟩ := r2.thaw x2
    refine ⟨.ref l, p, H0, G2, thaw st, rl3, aft_mono (aftS_thaw x2 r2 gg2 k1) fun d2 G3 H3 e3 k2 w dw => ?_⟩
    have x4 := x2.trans (Ext.topX e3.h (gg2.trans (e3.g.trans e3.s)))
    have r4 := r2.ext (Ext.topX e3.h (gg2.trans (e3.g.trans e3.s)))
    obtain ⟨H4, h1, h2⟩ := tS_put x4 r4 dw dv p k2
    exact ⟨l, H4, rfl, h1, h2⟩
/-! ### {k: v}, a dict of the def's own, in a parallel assignment -/
def qOwd (fk fv : ME) (g : MQ) : MQ := fun st => (fk st).bind fun k => (fv st).bind fun v => match k, v with
  | .int k, .int v => (g st).bind fun ss => .ok (.owd [(k, v)] :: ss)
  | _, _ => .no
theorem tQ_owd {fk fv : ME} {g : MQ} : ∀ σ H Q, tQ K ea W (qOwd fk fv g) σ H Q → tCons (tDisp [(tE K ea W fk, tE K ea W fv)]) (tQ K ea W g) σ H Q := fun σ H Q h => by
  obtain ⟨G0, H0, G, st, vs0, ss0, x, hl, rl, k⟩ := h
  intro p hp
  have ex : Ext G H G (upd H p (.dK [])) := Ext.newH rl.s hp
  have rp := Rel.pushOwnG (a := .owd []) (o := .dK []) rl hp (x.h.back hp) rfl
  have r0 := (rl.left hl).ext ex
  unfold qOwd at k
  refine ⟨H0, G, st, r0, ?_⟩
  cases z : fk st with
  | no => rw [z] at k; exact k
  | rs c => rw [z] at k; exact fun G' H' e => k G' H' (x.trans (ex.trans e)) (r0.ext e)
  | ok kd =>
    simp only [z, R.bind] at k
    intro G1 H1 e1 w dw
    refine ⟨H0, G1, st, r0.ext e1, ?_⟩
    cases z2 : fv st with
    | no => simp only [z2] at k; exact k
    | rs c => simp only [z2] at k; exact fun G' H' e => k G' H' (x.trans (ex.trans (e1.trans e))) ((r0.ext e1).ext e)
    | ok vd =>
      simp only [z2] at k
      intro G2 H2 e2 u du
      cases kd with
      | int kk =>
        cases vd with
        | int vv =>
          simp only at k
          rw [dw.int_inv, du.int_inv]
          have rq := (rp.ext e1).ext e2
          have h2p : H2 p = some (.dK []) := e2.h.lst (e1.h.lst upd_same trivial) trivial
          refine ⟨h2p, [(.inl kk, .int vv)], rfl, by simp, ?_⟩
          have hn : ((st ++ ss0) ++ [Slot.owd []])[(st ++ ss0).length]? = some (.owd []) := by rw [List.getElem?_append_right (Nat.le_refl _), Nat.sub_self]; rfl
          have hs : ((σ ++ vs0.map some) ++ [some (V.ref p)])[(st ++ ss0).length]? = some (some (V.ref p)) := by rw [rl.len, List.getElem?_append_right (Nat.le_refl _), Nat.sub_self]; rfl
          have rm := rq.mutG (a' := .owd [(kk, vv)]) (o' := .dK (dkV [(kk, vv)])) hn rfl hs rfl
          have es : ((st ++ ss0) ++ [Slot.owd []]).set (st ++ ss0).length (.owd [(kk, vv)]) = (st ++ ss0) ++ [Slot.owd [(kk, vv)]] := by rw [List.set_append_right _ _ (Nat.le_refl _), Nat.sub_self]; rfl
          rw [es] at rm
          have xx : Ext G0 H0 G2 (upd H2 p (.dK (dkV [(kk, vv)]))) := by
            have x3 := x.trans (ex.trans (e1.trans e2))
            have g1 : G1 p = none := by
              cases q1 : G1 p with
              | none => rfl
              | some o1 => exact ((e1.n p o1 q1 (rl.s.back hp)).lst upd_same trivial).elim
            have g2 : G2 p = none := by
              cases q : G2 p with
              | none => rfl
              | some o => exact ((e2.n p o q g1).lst (e1.h.lst upd_same trivial) trivial).elim
            exact x3.wr (x.h.back hp) g2 (by rw [h2p]; trivial)
          show tQ K ea W g σ (upd H2 p (.dK (dkV [(kk, vv)]))) fun vs H => Q (.ref p :: vs) H
          refine ⟨G0, H0, G2, st, vs0 ++ [.ref p], ss0 ++ [.owd [(kk, vv)]], xx, hl, ?_, ?_⟩
          · rw [List.map_append, ← List.append_assoc, ← List.append_assoc]
            exact rm
          · cases z3 : g st with
            | no => simp only [z3] at k; exact k
            | rs c => simp only [z3] at k; exact k
            | ok ss =>
              simp only [z3] at k
              intro vs G3 H3 e3 hv r3
              refine k (.ref p :: vs) G3 H3 e3 (by simp [hv]) ?_
              rw [List.append_assoc, List.append_assoc] at r3
              exact r3
        | _ => exact k.elim
      | _ => cases vd <;> exact k.elim
theorem gq_owd {es : List Expr} {q : Pos} {fv : ME} {g : MQ} (hk : PE X e2 (tE X.K ea W fk)) (he : PE X e (tE X.K ea W fv)) (hr : PA X es (tQ X.K ea W g)) (hs : starEach (.Dict [some e2] [e] q :: es) X.env = (false, eval (.Dict [some e2] [e] q) X.env) :: starEach es X.env := by rfl) :
    PA X (.Dict [some e2] [e] q :: es) (tQ X.K ea W (qOwd fk fv g)) := (pa_cons (pe_disp (pps_cons hk he pps_nil) rfl rfl (by simp) (by simp)) hr hs).weak tQ_owd
end
end Pg

namespace Pg
open PySem PySem.Spec PyProof.Rows L2
variable [Tb]
/-! ### list(range(a, b, c)) -/
def rg3n (a b c : Int) : Nat := if a < b then ((b - a - 1) / c + 1).toNat else 0
def rg3L (a b c : Int) : List Int := (List.range (rg3n a b c)).map fun i => a + (i : Nat) * c
def rg3B : List D → Option D
  | [.int a, .int b, .int c] => if (0 ≤ a ∧ a ≤ 100000) ∧ (0 ≤ b ∧ b ≤ 100000) ∧ 1 ≤ c ∧ c ≤ 100000 then some (.lst ((rg3L a b c).map D.int)) else none
  | _ => none
theorem rg3_size {a b c : Int} (hc : 1 ≤ c) : Builtin.Range.rangeSize a b c = (rg3n a b c : Int) := by
  unfold Builtin.Range.rangeSize rg3n
  rw [if_pos (by omega)]
  split
  · have := Int.ediv_nonneg (a := b - a - 1) (b := c) (by omega) (by omega)
    omega
  · rfl
theorem rg3_le {a b c : Int} (hc : 1 ≤ c) (h0 : 0 ≤ a) (hb : b ≤ 100000) : rg3n a b c ≤ 100000 := by
  unfold rg3n
  split
  · have := Int.ediv_le_self c (show (0 : Int) ≤ b - a - 1 by omega)
    omega
  · omega
theorem rg3_small {a b c : Int} (ha : 0 ≤ a ∧ a ≤ 100000) (hb : 0 ≤ b ∧ b ≤ 100000) (hc : 1 ≤ c ∧ c ≤ 100000) : Builtin.Range.small a b c = true := by
  have h1 := rg3_le hc.1 ha.1 hb.2
  unfold Builtin.Range.small
  rw [rg3_size hc.1]
  have h2 : (rg3n a b c : Int) * c ≤ 100000 * 100000 := Int.mul_le_mul (by omega) hc.2 (by omega) (by omega)
  have h3 : 0 ≤ (rg3n a b c : Int) * c := Int.mul_nonneg (by omega) (by omega)
  simp only [Builtin.Range.rangeFitsLong, Bool.and_eq_true, Bool.or_eq_true, decide_eq_true_eq, beq_iff_eq, show c > 0 by omega, if_true]
  omega
def tRg3 (ta : TA) : TE := fun σ H Q => ta σ H fun vs H1 => ∃ a b c : Int, vs = [.int a, .int b, .int c] ∧ (0 ≤ a ∧ a ≤ 100000) ∧ (0 ≤ b ∧ b ≤ 100000) ∧ (1 ≤ c ∧ c ≤ 100000) ∧ ∀ q, H1 q = none → Q (.ref q) (upd H1 q (.lst ((rg3L a b c).map V.int)))
theorem vals_rg3 {a c : Int} {n : Nat} {acc : Array Value} (h : ItemsOf (fun i v => ∃ t, v = .int (a + i * c) t) acc n) : Vals ((List.range n).map fun i => V.int (a + (i : Nat) * c)) acc.toList := by
  have e : acc.toList.length = n := by rw [Array.length_toList]; exact h.1
  rw [← e]
  refine vals_of_get acc.toList _ fun j u hj => ?_
  obtain ⟨t, rfl⟩ := h.2 j u (by rw [← hj, Array.getElem?_toList])
  exact ⟨t, rfl⟩
section
variable {X : Cx} {ea : Fi} {W : WX} {a b c : Expr} {g : MA} {p p1 p2 pos : Pos}
theorem pe_lrg3 {ta : TA} (hc : X.calm = true) (hg : Gl X "list") (hm : X.mg "list" = none) (hg2 : Gl X "range") (hm2 : X.mg "range" = none) (ha : PA X [a, b, c] ta)
    (hs : starEach [a, b, c] X.env = (false, eval a X.env) :: starEach [b, c] X.env) (hpl : (backTo p2 (starEach [b, c] X.env)).any (·.1) = false)
    (nb : starEach [.Call (.Name "range" p1) [a, b, c] [] p2] X.env = (false, eval (.Call (.Name "range" p1) [a, b, c] [] p2) X.env) :: starEach [] X.env) : PE X (.Call (.Name "list" p) [.Call (.Name "range" p1) [a, b, c] [] p2] [] pos) (tRg3 ta) := by
  refine ⟨fun pins s σ H Q I h => ?_⟩
  refine Call_ (ld_blt I hg hm boot_list (PyProof.Rows.callWith_type1 (args_cons ?_ nb) nb))
  refine Call_ (ld_blt I hg2 hm2 boot_range (PyProof.Rows.callWith_type1 (thn (ha.run p2 pins s σ H _ I h) fun us s1 ⟨vs, H1, I1, r1, q1⟩ => ?_) hs hpl))
  obtain ⟨i, j, k, e, hi, hj, hk, q⟩ := q1
  subst e
  cases r1 with
  | cons r rr =>
    cases rr with
    | cons r' rr =>
      cases rr with
      | cons r'' rr =>
        cases rr
        obtain ⟨t, rfl⟩ := r
        obtain ⟨t', rfl⟩ := r'
        obtain ⟨t'', rfl⟩ := r''
        refine call_range_3 (by omega) ?_ (.inl (PyProof.noPylong_small (by omega)))
        refine args_nil ?_
        have I2 : Inv X pins σ H1 { s1 with heap := s1.heap.push { cls := .type "range", data := .fields #[.int i t, .int j t', .int k t''] } } := I1.kept (t' := s1.toks) fun b o e => Heap.get?_push_of_some _ e
        refine call_list_range (n := rg3n i j k) (I2.ok.hd hc) (IsRange.new _ _ _ _ _ _ _) (rg3_small hi hj hk) (rg3_size hk.1) (Nat.le_trans (rg3_le hk.1 hi.1 hj.2) (by decide)) fun h' tk acc c' hk' e' hit => ?_
        have hl : ((rg3L i j k).map V.int).length ≤ sizeLine := by
          unfold rg3L
          rw [List.length_map, List.length_map, List.length_range]
          exact szl (rg3_le hk.1 hi.1 hj.2)
        have hv : Vals ((rg3L i j k).map V.int) acc.toList := by
          unfold rg3L
          rw [List.map_map]
          exact vals_rg3 hit
        refine ⟨.ref _, upd H1 _ (.lst ((rg3L i j k).map V.int)), I2.laid hk' (Nat.le_refl _) (show ObjOk X.prog X.w _ _ _ (.lst ((rg3L i j k).map V.int)) from ⟨hl, acc.toList, c', hv, ?_⟩), rfl, q _ (I2.hok.fresh (Nat.le_refl _))⟩
        rw [Array.toArray_toList]
        exact e'
theorem g_lrg3 (hc : X.calm = true) (hm : X.mg "list" = none) (hm2 : X.mg "range" = none) (ha : PA X [a, b, c] (tA X.K ea W g)) (hg : Gl X "list" := by rfl) (hg2 : Gl X "range" := by rfl)
    (hs : starEach [a, b, c] X.env = (false, eval a X.env) :: starEach [b, c] X.env := by rfl) (hpl : (backTo p2 (starEach [b, c] X.env)).any (·.1) = false := by rfl)
    (nb : starEach [.Call (.Name "range" p1) [a, b, c] [] p2] X.env = (false, eval (.Call (.Name "range" p1) [a, b, c] [] p2) X.env) :: starEach [] X.env := by rfl) : PE X (.Call (.Name "list" p) [.Call (.Name "range" p1) [a, b, c] [] p2] [] pos) (tE X.K ea W (bcall rg3B g)) :=
  (pe_lrg3 hc hg hm hg2 hm2 ha hs hpl nb).weak fun σ H Q hq => by
    obtain ⟨H0, G, st, rl, a⟩ := hq
    refine ⟨H0, G, st, rl, aft_mono (aft_bind a) fun xs G1 H1 e1 a1 vs dvs => ?_⟩
    obtain ⟨z, ez, k⟩ := aft_of a1
    match xs, ez with
    | [.int i, .int j, .int l], ez =>
      simp only [rg3B] at ez
      split at ez
      · rename_i hn
        cases ez
        have e : vs = [.int i, .int j, .int l] := Dens.ints_inv (ns := [i, j, l]) dvs
        refine ⟨i, j, l, e, hn.1, hn.2.1, hn.2.2, fun q hq => ?_⟩
        have ex := Ext.new (G := G1) (H := H1) (p := q) (o := .lst ((rg3L i j l).map V.int)) e1.s hq
        exact k _ _ ex _ (.lst upd_same (dens_ints _))
      · cases ez
end
end Pg

namespace Pg
open PySem PySem.Spec PyProof.Rows L2
variable [Tb]
/-! ### a lambda is made -/
theorem tab_keep {H : Hp} {P P' c : Addr} {q : Str} {t u : HO} (h : LamX.TabS H P' q) (n : P' ≠ P) (hc : H c = none) (hP : ∃ ps, H P = some (.tbl ps)) : LamX.TabS (upd (upd H P t) c u) P' q := by
  obtain ⟨ps, h1, h2, h3⟩ := h
  refine ⟨ps, by rw [upd_ne (ne_of_none h1 hc), upd_ne n]; exact h1, h2, fun pos cv hq => ?_⟩
  obtain ⟨c1, e1, e2⟩ := h3 pos cv hq
  refine ⟨c1, e1, ?_⟩
  rw [upd_ne (ne_of_none e2 hc), upd_ne]
  · exact e2
  · intro z
    obtain ⟨ps', hP⟩ := hP
    rw [z, hP] at e2
    cases e2
theorem tab_more {H : Hp} {P c : Addr} {q : Str} {ps : Array Value} {pos : Pos} (h : LamX.TabS H P q) (hP : H P = some (.tbl ps)) (hc : H c = none) : LamX.TabS (upd (upd H P (.tbl (ps ++ #[rawInt pos.line, rawInt pos.col, .ref c]))) c (LamX.CodeO c q)) P q := by
  obtain ⟨ps', h1, h2, h3⟩ := h
  rw [hP] at h1
  cases h1
  have eL : (ps ++ #[rawInt pos.line, rawInt pos.col, .ref c]).toList = ps.toList ++ [rawInt pos.line, rawInt pos.col, .ref c] := by simp
  refine ⟨_, (upd_ne (ne_of_none hP hc)).trans upd_same, by rw [eL]; exact PySem.TriplesOk_snoc _ _ _ _ h2, fun p' cv hq => ?_⟩
  rw [eL] at hq
  rcases LamX.among_app _ h2 hq with z | z
  · obtain ⟨c1, e1, e2⟩ := h3 p' cv z
    refine ⟨c1, e1, ?_⟩
    rw [upd_ne (ne_of_none e2 hc), upd_ne]
    · exact e2
    · intro z
      rw [z, hP] at e2
      cases e2
  · exact ⟨c, z, upd_same⟩
/-- what a made lambda brings -/
structure Made (fi : Fi) (lc : LamCode) (H H1 : Hp) (f c : Addr) : Prop where
  x : XH H H1
  nf : H f = none
  fc : Fre H c
  ne : f ≠ c
  hf : H1 f = some (LamO f lc (cloFrom fi.cells lc.scope.names []) c)
  hc : H1 c = some (LamX.CodeO c lc.qual)
/-- what the maker says of itself -/
structure Mk (X : Cx) (fi : Fi) (lc : LamCode) : Prop where
  cells : X.env.cells = fi.cells
  tab : ∃ c P, LamX.TabB X.base X.mg c P ∧ X.env.code = .ref c ∧ (P, lc.qual) ∈ Tb.T
  q : lc.qual = X.env.qual ++ "<lambda>"
  df : defaultsOf lc.params X.env = ([], [])
  L : LamX.LamS X.env.scope lc.scope
def tLam (fi : Fi) (lc : LamCode) : TE := fun σ H Q => LamX.Tabs Tb.T H ∧ ∀ f c H1, Made fi lc H H1 f c → Q (.ref f) H1
theorem pe_lam {X : Cx} {fi : Fi} {lc : LamCode} {pos : Pos} (M : Mk X fi lc) : PE X (.Lambda lc.params lc.body lc.scope pos) (tLam fi lc) := by
  refine ⟨fun pins s σ H Q I ⟨hT, h⟩ => ?_⟩
  obtain ⟨c, P, TB, hcode, hm⟩ := M.tab
  have t0 := hT _ hm
  obtain ⟨ps, hP, ht, ha⟩ := id t0
  refine PySem.W.kla_eval M.df ?_
  have hcl := closure_ok (M.L.has I.ok)
  rw [← M.q]
  cases hf : codeAmong pos ps.toList with
  | none =>
    refine PySem.W.kla_makeFunction (mg := X.mg) (c := c) (P := P) (ps := ps) hcl I.ok.glob (I.mod.glob.keeps I.bk) hcode (TB.code.keeps I.bk) (I.hok P _ hP) ht hf TB.gP (TB.bm.keeps I.bk) fun c' ctv h' tk hx hge hlt hrec htb => ?_
    obtain ⟨c2, oc, vs, t, e2, hoc, hd, hv⟩ := hrec
    cases e2
    have nC : H c' = none := I.hok.fresh hge
    have I1 := LamX.inv_table (t' := tk) (more := #[rawInt pos.line, rawInt pos.col, .ref c']) (q := lc.qual) I hP (fun b o hb e => hx b o hb e) htb hge ⟨oc, vs, t, hoc, hd, hv⟩
    have nf1 := I1.hok.fresh (a := h'.objs.size) (Nat.le_refl _)
    have hfc : h'.objs.size ≠ c' := Nat.ne_of_gt hlt
    have hfP : h'.objs.size ≠ P := fun z => by
      rw [z, upd_ne (ne_of_none hP nC), upd_same] at nf1
      cases nf1
    have nf : H h'.objs.size = none := by
      rw [upd_ne hfc, upd_ne hfP] at nf1
      exact nf1
    have I2 := I1.laid (a := h'.objs.size) (o := LamO h'.objs.size lc (cloFrom X.env.cells lc.scope.names []) c') (h' := h'.push (PySem.W.kla_obj "<lambda>" lc.qual lc.params lc.body lc.scope (cloFrom X.env.cells lc.scope.names []) ((X.mg "__name__").getD .none) c' ctv)) (t' := tk)
      (fun b u e => Heap.get?_push_of_some _ e) (Nat.le_refl _) ⟨⟨_, _, Heap.get?_push_size _ rfl⟩, ⟨_, Heap.get?_push_size _ rfl⟩, fun h1 h2 ⟨pm, cv, e⟩ st => ⟨pm, cv, st _ e⟩⟩
    refine ⟨.ref h'.objs.size, _, I2, rfl, h _ c' _ ⟨⟨fun b u e n => ?_, fun b u e n => ?_, fun b qs e => ?_, fun p hp tt => ?_⟩, nf, .inl nC, hfc, by rw [← M.cells]; exact upd_same, by rw [upd_ne hfc.symm]; exact upd_same⟩⟩
    · rw [upd_ne (ne_of_none e nf), upd_ne (ne_of_none e nC), upd_ne (fun z => n ps (Option.some.inj (e.symm.trans (by rw [z]; exact hP))))]
      exact e
    · rw [upd_ne (ne_of_none e nf), upd_ne (ne_of_none e nC), upd_ne (fun z => n _ hm z.symm)]
      exact e
    · by_cases z : b = P
      · subst z
        exact ⟨_, by rw [upd_ne (ne_of_none e nf), upd_ne (ne_of_none e nC), upd_same]⟩
      · exact ⟨qs, by rw [upd_ne (ne_of_none e nf), upd_ne (ne_of_none e nC), upd_ne z]; exact e⟩
    · refine tabS_upd ?_ (by rw [nf1]; trivial)
      by_cases z : p.1 = P
      · have e := Tb.u p hp _ hm z
        have e' : p.2 = lc.qual := e
        rw [z, e'] at tt ⊢
        exact tab_more tt hP nC
      · exact tab_keep tt z nC ⟨ps, hP⟩
  | some cv =>
    obtain ⟨c', e, hco⟩ := ha pos cv hf
    subst e
    refine PySem.W.kla_makeFunctionHit (mg := X.mg) (c := c) (P := P) (ps := ps) hcl I.ok.glob (I.mod.glob.keeps I.bk) hcode (TB.code.keeps I.bk) (I.hok P _ hP) ht hf (TB.bm.keeps I.bk) fun ctv h' tk hx hsz => ?_
    have I1 : Inv X pins σ H { s with heap := h', toks := tk } := I.kept (t' := tk) hx
    have nf := I1.hok.fresh (a := h'.objs.size) (Nat.le_refl _)
    have I2 := I1.laid (a := h'.objs.size) (o := LamO h'.objs.size lc (cloFrom X.env.cells lc.scope.names []) c') (h' := h'.push (PySem.W.kla_obj "<lambda>" lc.qual lc.params lc.body lc.scope (cloFrom X.env.cells lc.scope.names []) ((X.mg "__name__").getD .none) c' ctv)) (t' := tk)
      (fun b u e => Heap.get?_push_of_some _ e) (Nat.le_refl _) ⟨⟨_, _, Heap.get?_push_size _ rfl⟩, ⟨_, Heap.get?_push_size _ rfl⟩, fun h1 h2 ⟨pm, cv, e⟩ st => ⟨pm, cv, st _ e⟩⟩
    have hfc : h'.objs.size ≠ c' := fun z => by
      rw [z, hco] at nf
      cases nf
    exact ⟨.ref h'.objs.size, _, I2, rfl, h _ c' _ ⟨XH.of (Ex.new nf), nf, .inr ⟨_, hco⟩, hfc, by rw [← M.cells]; exact upd_same, by rw [upd_ne hfc.symm]; exact hco⟩⟩
/-- the frozen part grows by it -/
theorem Made.ext {K : Fr} {fi : Fi} {lc : LamCode} {H0 G H H1 : Hp} {f c : Addr} {σ : L2.St} {st : Store} (m : Made fi lc H H1 f c) (rl : Rel K fi H0 G H σ st) : ∃ G1, Ext G H G1 H1 ∧ RawL fi G1 (.ref f) lc := by
  have gc : ∀ o, G c = some o → o = LamX.CodeO c lc.qual := fun o e => by
    have e1 := rl.s _ _ e
    rcases m.fc with z | ⟨q, z⟩
    · rw [z] at e1; cases e1
    · rw [z] at e1
      cases e1
      have := m.x.ext' z
      rw [m.hc] at this
      exact (Option.some.inj this).symm
  obtain ⟨G1, hG1⟩ : ∃ G1, G1 = upd (upd G c (LamX.CodeO c lc.qual)) f (LamO f lc (cloFrom fi.cells lc.scope.names []) c) := ⟨_, rfl⟩
  have g1f : G1 f = some (LamO f lc (cloFrom fi.cells lc.scope.names []) c) := by rw [hG1, upd_same]
  have g1c : G1 c = some (LamX.CodeO c lc.qual) := by rw [hG1, upd_ne m.ne.symm, upd_same]
  have g1n : ∀ b, b ≠ f → b ≠ c → G1 b = G b := fun b h1 h2 => by rw [hG1, upd_ne h1, upd_ne h2]
  have gf : G f = none := rl.s.back m.nf
  refine ⟨G1, ⟨fun b o e => ?_, m.x, fun b o e => ?_, fun b o e n => ?_⟩, f, c, rfl, g1f, g1c⟩
  · by_cases h1 : b = f
    · subst h1
      rw [gf] at e
      cases e
    · by_cases h2 : b = c
      · subst h2
        rw [g1c, gc o e]
      · rw [g1n b h1 h2]
        exact e
  · by_cases h1 : b = f
    · subst h1
      rw [← e, g1f]
      exact m.hf
    · by_cases h2 : b = c
      · subst h2
        rw [← e, g1c]
        exact m.hc
      · rw [g1n b h1 h2] at e
        refine m.x.k2 b o (rl.s _ _ e) fun p hp z => ?_
        rw [← z, rl.tg p hp] at e
        cases e
  · by_cases h1 : b = f
    · rw [h1]
      exact .inl m.nf
    · by_cases h2 : b = c
      · rw [h2]
        exact m.fc
      · rw [g1n b h1 h2, n] at e
        cases e
/-! ### lists of lambdas -/
def mLams (i : Nat) (lc : LamCode) : MS := fun st => .nx (st.set i (.lams [lc]))
def appLam (i : Nat) (lc : LamCode) (st : Store) : RS := match st[i]? with
  | some (.lams ks) => if ks.length < 1000 then .nx (st.set i (.lams (ks ++ [lc]))) else .no
  | _ => .no
def mAppL (i : Nat) (lc : LamCode) : MS := fun st => appLam i lc st
section
variable {X : Cx} {fi : Fi} {W : WX} {lc : LamCode} {pos : Pos}
theorem gs_lams {i : Nat} {x : Str} {pos' lpos lp : Pos} (M : Mk X fi lc) (hN : X.N.Nodup) (hi : X.N[i]? = some x) (hx : Loc X.env.scope x) (hs : swapsWith (.List [.Lambda lc.params lc.body lc.scope lpos] lp) (some (.Name x pos')) pos.line X.env = pure false := by rfl)
    (h1 : starEach [.Lambda lc.params lc.body lc.scope lpos] X.env = (false, eval (.Lambda lc.params lc.body lc.scope lpos) X.env) :: starEach [] X.env := by rfl)
    (hf : X.fn x = true ∨ X.env.scope.names.lookup x = some .local := by first | exact .inl rfl | exact .inr rfl | assumption) : PS X (.Assign [.Name x pos'] (.List [.Lambda lc.params lc.body lc.scope lpos] lp) pos) (tS X.K fi W (mLams i lc)) :=
  (ps_set hN hi hx (pe_lst (pa_cons (pe_lam M) pa_nil h1)) hs hf).weak fun D σ H h => by
    obtain ⟨G0, H0, G, st, x, rl, k⟩ := h
    refine ⟨rl.tb, fun f c H1 m => ⟨szl (by simp), fun p hp => ?_⟩⟩
    obtain ⟨G1, e1, r1⟩ := m.ext rl
    have x1 := x.trans e1
    have h0 := x1.h.back hp
    exact k G1 _ _ (x1.trans (Ext.newH e1.s hp)) ((rl.ext e1).setOwnG i (a := .lams [lc]) (o := .lst [.ref f]) hp h0 (.cons r1 .nil))
theorem gs_appL {i : Nat} {x : Str} {lpos p p2 p3 : Pos} (M : Mk X fi lc) (hN : X.N[i]? = some x) (hv : Vis X.env.scope x) (hd : (x == ("__debug__" : Str)) = false := by decide) (hcd : (x == ("__classdict__" : Str)) = false := by decide)
    (hbase : attributeBase (.Name x p) "append" X.env (eval (.Name x p) X.env) = eval (.Name x p) X.env := by rfl)
    (hfew : ((backTo p3 (starEach [.Lambda lc.params lc.body lc.scope lpos] X.env)).all (fun x => !x.1) && (backToKw p3 (keywordEach [] X.env)).all (fun x => x.1.isSome) && decide ([Expr.Lambda lc.params lc.body lc.scope lpos].length + ([] : List Keyword).length + (if ([] : List Keyword).isEmpty then 0 else 1) < 30)) = true := by rfl)
    (hline : (p2.endLine == p3.line) = true := by rfl) (h1 : starEach [.Lambda lc.params lc.body lc.scope lpos] X.env = (false, eval (.Lambda lc.params lc.body lc.scope lpos) X.env) :: starEach [] X.env := by rfl) (hplain : (backTo p3 (starEach [] X.env)).any (·.1) = false := by rfl)
    (hs : swapsWith (.Call (.Attribute (.Name x p) "append" p2) [.Lambda lc.params lc.body lc.scope lpos] [] p3) none pos.line X.env = pure false := by rfl) :
    PS X (.Expr (.Call (.Attribute (.Name x p) "append" p2) [.Lambda lc.params lc.body lc.scope lpos] [] p3) pos) (tS X.K fi W (mAppL i lc)) :=
  (ps_expr (pe_bm PySem.F.plainAttrs_list PySem.F.slot_list_append PySem.F.type_list_append mt_append (pe_var hN hv hd hcd) (pa_cons (pe_lam M) pa_nil h1) hbase hfew hline h1 hplain) hs).weak fun D σ H h => by
    obtain ⟨G0, H0, G, st, x, rl, k⟩ := h
    unfold mAppL appLam at k
    cases q : st[i]? with
    | none => rw [q] at k; exact k.elim
    | some s =>
      rw [q] at k
      cases s with
      | lams ks =>
        simp only at k
        split at k
        · rename_i hl
          obtain ⟨l, o, a1, b1, c1, d1, e1⟩ := rl.own i _ q rfl
          cases o with
          | lst vs =>
            refine ⟨.ref l, a1, .inl ⟨rfl, vs, SqL.of b1⟩, rl.tb, fun f c H1 m => ?_⟩
            obtain ⟨G1, e2, r1⟩ := m.ext rl
            have c1 : Raws fi G vs ks := c1
            have b2 := e2.h.lst b1 trivial
            have rl2 := rl.ext e2
            have g1 : G1 l = none := (rl2.loose q rfl a1).2.1
            have hl2 : vs.length < 100000 := by rw [c1.length]; omega
            exact ⟨l, vs, _, rfl, rfl, b2, szl' hl2, k G1 _ σ ((x.trans e2).wr e1 g1 (by rw [b2]; trivial)) (rl2.mutG (a' := .lams (ks ++ [lc])) (o' := .lst (vs ++ [.ref f])) q rfl a1 ((c1.mono e2.g).append (.cons r1 .nil)))⟩
          | _ => exact False.elim c1
        · exact k.elim
      | _ => exact k.elim
end
end Pg

namespace Pg
open PySem PySem.Spec PyProof.Rows L2
variable [Tb]
/-! ### cells shown and hidden -/
abbrev CMap := Addr → Option Obj
def plusC (H : Hp) (Cs : CMap) : Hp := fun a => match Cs a with
  | some o => some (CellX a o)
  | none => H a
def minusC (H : Hp) (Cs : CMap) : Hp := fun a => match Cs a with
  | some _ => none
  | none => H a
theorem plus_in {H : Hp} {Cs : CMap} {a : Addr} {o : Obj} (h : Cs a = some o) : plusC H Cs a = some (CellX a o) := by unfold plusC; rw [h]
theorem plus_out {H : Hp} {Cs : CMap} {a : Addr} (h : Cs a = none) : plusC H Cs a = H a := by unfold plusC; rw [h]
theorem minus_in {H : Hp} {Cs : CMap} {a : Addr} {o : Obj} (h : Cs a = some o) : minusC H Cs a = none := by unfold minusC; rw [h]
theorem minus_out {H : Hp} {Cs : CMap} {a : Addr} (h : Cs a = none) : minusC H Cs a = H a := by unfold minusC; rw [h]
theorem some_out {H : Hp} {Cs : CMap} {a : Addr} {u : HO} (hn : ∀ c o, Cs c = some o → H c = none) (h : H a = some u) : Cs a = none := by
  cases q : Cs a with
  | none => rfl
  | some o =>
    rw [hn a o q] at h
    cases h
section
variable {P : Program} {w : World} {H H' : Hp} {h h' : Heap} {Cs : CMap} {fs : List Addr}
theorem hok_plus (hok : HOk P w H h) (hn : ∀ c o, Cs c = some o → H c = none) (ha : ∀ c o, Cs c = some o → h.get? c = some o) : HOk P w (plusC H Cs) h := fun a u e => by
  cases q : Cs a with
  | some o =>
    rw [plus_in q] at e
    cases e
    exact ⟨ha a o q, ⟨o, ha a o q⟩, fun h1 h2 e st => st _ e⟩
  | none =>
    rw [plus_out q] at e
    exact (hok a u e).stay (fun _ _ _ z => z) (fun b z => by rw [plus_out (some_out hn z)]; exact z) fun b xs z => by rw [plus_out (some_out hn z)]; exact z
theorem hok_minus (hok : HOk P w H h) (hc : ∀ c o, Cs c = some o → ∃ φ, H c = some (.ext φ)) : HOk P w (minusC H Cs) h := fun a u e => by
  cases q : Cs a with
  | some o =>
    rw [minus_in q] at e
    cases e
  | none =>
    rw [minus_out q] at e
    have out : ∀ b u, H b = some u → (∀ φ, u ≠ .ext φ) → Cs b = none := fun b u z n => by
      cases q2 : Cs b with
      | none => rfl
      | some o =>
        obtain ⟨φ, y⟩ := hc b o q2
        rw [z] at y
        cases y
        exact absurd rfl (n φ)
    exact (hok a u e).stay (fun _ _ _ z => z) (fun b z => by rw [minus_out (out b _ z (fun φ y => by cases y))]; exact z) fun b xs z => by rw [minus_out (out b _ z (fun φ y => by cases y))]; exact z
theorem tab_plus {P' : Addr} {q : Str} (t : LamX.TabS H P' q) (hn : ∀ c o, Cs c = some o → H c = none) : LamX.TabS (plusC H Cs) P' q := by
  obtain ⟨ps, h1, h2, h3⟩ := t
  refine ⟨ps, by rw [plus_out (some_out hn h1)]; exact h1, h2, fun pos cv hq => ?_⟩
  obtain ⟨c1, e1, e2⟩ := h3 pos cv hq
  exact ⟨c1, e1, by rw [plus_out (some_out hn e2)]; exact e2⟩
/-- a code object is no cell -/
theorem code_out (hok : HOk P w H h) (hc : ∀ c o, Cs c = some o → H c = some (CellX c o) ∧ ∃ u, o.data = .cell u) {c : Addr} {q : Str} (e : H c = some (LamX.CodeO c q)) : Cs c = none := by
  cases z : Cs c with
  | none => rfl
  | some o =>
    obtain ⟨y, u, hd⟩ := hc c o z
    obtain ⟨g1, _, _⟩ := hok c _ y
    obtain ⟨⟨oc, vs, t, g2, g3, _⟩, _, _⟩ := hok c _ e
    have g1 : h.get? c = some o := g1
    rw [g1] at g2
    cases g2
    rw [hd] at g3
    cases g3
theorem tab_minus {P' : Addr} {q : Str} (t : LamX.TabS H P' q) (hok : HOk P w H h) (hc : ∀ c o, Cs c = some o → H c = some (CellX c o) ∧ ∃ u, o.data = .cell u) : LamX.TabS (minusC H Cs) P' q := by
  obtain ⟨ps, h1, h2, h3⟩ := t
  have o1 : Cs P' = none := by
    cases z : Cs P' with
    | none => rfl
    | some o =>
      have := (hc P' o z).1
      rw [h1] at this
      cases this
  refine ⟨ps, by rw [minus_out o1]; exact h1, h2, fun pos cv hq => ?_⟩
  obtain ⟨c1, e1, e2⟩ := h3 pos cv hq
  exact ⟨c1, e1, by rw [minus_out (code_out hok hc e2)]; exact e2⟩
/-- from shown to shown, told of hidden to hidden -/
theorem un_hide (un : Un fs [] (plusC H Cs) H' h h') (hn : ∀ c o, Cs c = some o → H c = none) (ha : ∀ c o, Cs c = some o → h.get? c = some o) (hb : ∀ c o, Cs c = some o → h'.get? c = some o) : Un fs [] H (minusC H' Cs) h h' where
  keep := fun b o e n hf hx => by
    cases q : Cs b with
    | some o' =>
      have := ha b o' q
      rw [e] at this
      cases this
      exact hb b _ q
    | none => exact un.keep b o e (by rw [plus_out q]; exact n) hf hx
  slot := fun b o e n hf hx => by
    cases q : Cs b with
    | some o' =>
      have := ha b o' q
      rw [e] at this
      cases this
      exact ⟨o.slots, hb b _ q⟩
    | none => exact un.slot b o e (by rw [plus_out q]; exact n) hf hx
  free := fun b o e n hx => by
    cases q : Cs b with
    | some o' => exact minus_in q
    | none =>
      rw [minus_out q]
      exact un.free b o e (by rw [plus_out q]; exact n) hx
  there := fun b o e hx => un.there b o e hx
  tups := fun b xs e => by
    have q := some_out hn e
    rw [minus_out q]
    exact un.tups b xs (by rw [plus_out q]; exact e)
  frzs := fun b o u e => by
    have q := some_out hn e
    rw [minus_out q]
    exact un.frzs b o u (by rw [plus_out q]; exact e)
  tbls := fun b ps e => by
    have q := some_out hn e
    rw [minus_out q]
    exact un.tbls b ps (by rw [plus_out q]; exact e)
end
section
variable {X : Cx} {x : Str} {k n : Nat} {F : List D → R D}
theorem noCXf {P : Program} {w : World} {o : List Env} {H : Hp} {s : Shared} {e : Value} {s' : Shared} (h : L2.CX P w o H s (fun _ _ _ => False) e s') : False := by
  obtain ⟨_, _, _, _, _, _, _, _, _, _, _, _, z⟩ := h
  exact z
/-- a def is called, cells of the caller's frame shown to it; it lets nothing out and gives a flat thing -/
theorem alive (df : Def X x k n F) (hr : Room k X.A) (hfn : ∀ y, X.fn y = true) {pins : List (Addr × Obj)} {σ : L2.St} {H : Hp} {s : Shared} (I : Inv X pins σ H s) {Cs : CMap} (hn : ∀ c o, Cs c = some o → H c = none)
    (ha : ∀ c o, Cs c = some o → s.heap.get? c = some o ∧ (∃ y, X.env.cells.lookup y = some c) ∧ ∃ u, o.data = .cell u) {us : List Value} {vs : List V} (r : Vals vs us) {G : Hp} {ds : List D} (hl : vs.length = n) (hs : Ex G (plusC H Cs)) (tg : ∀ p ∈ Tb.T, G p.1 = none)
    (tb : LamX.Tabs Tb.T H) (dd : Dens X.K G vs ds) {d : D} (hF : F ds = .ok d) (hd : flatD d = true) {Q : VK} (post : ∀ v H', XH H H' → (∀ G : Hp, Den X.K G v d) → Q v H') : wpAny (model X.prog X.w) X.A (call (.ref (He.ga X.K x)) us) (EP X pins σ Q) X.xe s := by
  obtain ⟨fd, ps, Fn, hb⟩ := df.ex
  have hl2 : us.length = ps.length := by
    rw [← r.length]
    exact Fn.len vs (plusC H Cs) (fun _ _ => True) (fun _ _ _ => True) ⟨G, ds, hl, hs, fun p hp => tab_plus (tb p hp) hn, tg, dd, by rw [hF]; exact fun _ _ _ _ _ => trivial⟩
  have b := hb s us I.kIn (by rw [List.append_nil]; exact hl2)
  rw [List.append_nil] at b
  have nfr : ∀ c o, Cs c = some o → c ∉ frs X.stack := fun c o q z => by
    obtain ⟨_, ⟨y, hy⟩, _⟩ := ha c o q
    rcases List.mem_cons.mp (I.stkSub c z) with e | e
    · exact I.cne y c hy e
    · obtain ⟨_, o', e', _⟩ := I.ok.funs.mem e
      exact absurd (Heap.lt_size e') (Nat.not_lt.mpr (I.ok.cab y c (hfn y) hy))
  have e0 := I.env0
  have e1 : Env0 X.prog X.w X.K X.mg X.base X.A X.stack s (plusC H Cs) := ⟨e0.frames, e0.mod, fun b o e => by
    obtain ⟨z1, z2⟩ := e0.bs b o e
    refine ⟨z1, ?_⟩
    cases q : Cs b with
    | none => rw [plus_out q]; exact z2
    | some o' =>
      obtain ⟨_, ⟨y, hy⟩, _⟩ := ha b o' q
      exact absurd (Heap.lt_size (I.ok.bs b o e).1) (Nat.not_lt.mpr (I.ok.cab y b (hfn y) hy)), e0.bsz, e0.funs, fun b hb => by
    cases q : Cs b with
    | none => rw [plus_out q]; exact e0.frf b hb
    | some o => exact absurd hb (nfr b o q), hok_plus I.hok hn fun c o q => (ha c o q).1, e0.bare⟩
  refine wpAny_call (codeAny_mono (Fn.run X.A X.stack s (plusC H Cs) ⟨us, []⟩ us vs (fun v H' => XH (plusC H Cs) H' ∧ ∀ G : Hp, Den X.K G v d) (fun _ _ _ => False) hr e1 b r
    ⟨G, ds, hl, hs, fun p hp => tab_plus (tb p hp) hn, tg, dd, by rw [hF]; exact fun v G' H' e dv => ⟨e.h, fun G => ext_den_flat hd dv⟩⟩) fun r s' hq => ?_)
  cases r with
  | error e => exact (noCXf hq).elim
  | ok fl =>
    cases fl with
    | ret u =>
      obtain ⟨v, H', os, bare, un, hok, rv, xh, dv⟩ := hq
      have hc : ∀ c o, Cs c = some o → H' c = some (CellX c o) ∧ ∃ u, o.data = .cell u := fun c o q => ⟨xh.ext' (plus_in q), (ha c o q).2.2⟩
      have hb' : ∀ c o, Cs c = some o → s'.heap.get? c = some o := fun c o q => by
        obtain ⟨z, _, _⟩ := hok c _ (hc c o q).1
        exact z
      refine I.after ⟨v, minusC H' Cs, os, bare, un_hide un hn (fun c o q => (ha c o q).1) hb', hok_minus hok fun c o q => ⟨_, (hc c o q).1⟩, rv, post v _ ⟨fun a o e nt => ?_, fun a o e nt => ?_, fun a ps e => ?_, fun p hp t => ?_⟩ dv⟩
      · have q := some_out hn e
        rw [minus_out q]
        exact xh.k a o (by rw [plus_out q]; exact e) nt
      · have q := some_out hn e
        rw [minus_out q]
        exact xh.k2 a o (by rw [plus_out q]; exact e) nt
      · have q := some_out hn e
        rw [minus_out q]
        exact xh.q a ps (by rw [plus_out q]; exact e)
      · exact tab_minus (xh.t p hp (tab_plus t hn)) hok hc
    | next => exact False.elim hq
    | brk => exact False.elim hq
    | cont => exact False.elim hq
end
end Pg

namespace Pg
open PySem PySem.Spec PyProof.Rows L2
variable [Tb]
/-! ### lambdas handed to a def while their maker's frame lives -/
def capIx (st : Store) : List Nat → Option (List D)
  | [] => some []
  | i :: r => match st[i]? with
    | some (.dat d) => (capIx st r).map (d :: ·)
    | _ => none
def thksOf (st : Store) : List LamCode → Option (List D)
  | [] => some []
  | lc :: r => match capIx st lc.ix with
    | some ds => (thksOf st r).map (.thk lc ds :: ·)
    | none => none
/-- what is captured is the maker's -/
structure CapV (X : Cx) (lc : LamCode) : Prop where
  L : LamX.LamS X.env.scope lc.scope
  ix : lc.caps.map some = lc.ix.map fun i => X.N[i]?
theorem caps_free {lc : LamCode} {y : Str} (h : y ∈ lc.caps) : (y, NameKind.free) ∈ lc.scope.names := by
  unfold LamCode.caps at h
  obtain ⟨p, hp, e⟩ := List.mem_filterMap.mp h
  obtain ⟨a, b⟩ := p
  cases b <;> cases e
  exact hp
/-- the closure's cells are the maker's -/
theorem clo_look {X : Cx} {sc : Scope} (L : LamX.LamS X.env.scope sc) (ok : X.Ok) {y : Str} {b : Addr} (h : (cloFrom X.env.cells sc.names []).lookup y = some b) : X.env.cells.lookup y = some b := by
  rcases cloFrom_mem (PySem.mem_of_lookup h) with z | ⟨z, e⟩
  · cases z
  · obtain ⟨c1, hc⟩ := L.has ok _ z rfl
    have hc : X.env.cells.lookup y = some c1 := hc
    rw [hc] at e
    rw [hc, e]
    rfl
theorem clo_has {X : Cx} {sc : Scope} (L : LamX.LamS X.env.scope sc) (ok : X.Ok) {y : Str} (h : (y, NameKind.free) ∈ sc.names) : ∃ b, (cloFrom X.env.cells sc.names []).lookup y = some b ∧ X.env.cells.lookup y = some b := by
  obtain ⟨b, e⟩ := mem_lookup (cloFrom_has (cells := X.env.cells) (acc := []) h)
  exact ⟨b, e, clo_look L ok e⟩
theorem caps_mem {lc : LamCode} {y : Str} (h : (y, NameKind.free) ∈ lc.scope.names) : y ∈ lc.caps := by
  unfold LamCode.caps
  exact List.mem_filterMap.mpr ⟨_, h, rfl⟩
theorem clo_dom {cells : List (Str × Addr)} {lc : LamCode} {y : Str} {b : Addr} (h : (cloFrom cells lc.scope.names []).lookup y = some b) : y ∈ lc.caps := by
  rcases cloFrom_mem (PySem.mem_of_lookup h) with z | ⟨z, _⟩
  · cases z
  · exact caps_mem z
section
variable {X : Cx} {pins : List (Addr × Obj)} {σ : L2.St} {H0 G H : Hp} {s : Shared} {fi : Fi} {st : Store}
theorem cell_val (I : Inv X pins σ H s) {i : Nat} {y : Str} {v : V} {b : Addr} (hN : X.N[i]? = some y) (hσ : σ[i]? = some (some v)) (hv : X.env.scope.names.lookup y = some .cell ∨ X.env.scope.names.lookup y = some .free) (hb : X.env.cells.lookup y = some b) : ∃ o u, s.heap.get? b = some o ∧ o.data = .cell (some u) ∧ RelV v u := by
  obtain ⟨m, _, hl⟩ := I.loc
  obtain ⟨u, r, q⟩ := hl i y v hN hσ (.inr hv)
  rcases q with ⟨k, _⟩ | ⟨_, c, e, o, z1, z2⟩
  · have k : X.env.scope.names.lookup y = some .local := k
    rcases hv with z | z <;> rw [z] at k <;> cases k
  · rw [hb] at e
    cases e
    exact ⟨o, u, z1, z2, r⟩
theorem caps_ok (I : Inv X pins σ H s) (rl : Rel X.K fi H0 G H σ st) {lc : LamCode} (C : CapV X lc) {Cs : CMap} (hC : ∀ y b, y ∈ lc.caps → X.env.cells.lookup y = some b → Cs b = s.heap.get? b) (eG : Ex G (plusC G Cs)) :
    ∀ (is : List Nat) (xs : List Str) (ds : List D), (∀ y ∈ xs, y ∈ lc.caps) → xs.map some = is.map (fun i => X.N[i]?) → capIx st is = some ds → ∃ vs, CapsOk (plusC G Cs) (cloFrom X.env.cells lc.scope.names []) xs vs ∧ Dens X.K (plusC G Cs) vs ds
  | [], xs, ds, hm, hx, hd => by
    cases xs with
    | nil =>
      cases hd
      exact ⟨[], ⟨rfl, fun i x e => by simp at e⟩, .nil⟩
    | cons y r => cases hx
  | i :: is, xs, ds, hm, hx, hd => by
    cases xs with
    | nil => cases hx
    | cons y xs =>
      rw [List.map_cons, List.map_cons] at hx
      injection hx with h1 h2
      unfold capIx at hd
      cases q : st[i]? with
      | none => rw [q] at hd; cases hd
      | some sl =>
        rw [q] at hd
        cases sl with
        | dat d =>
          obtain ⟨ds', h3, rfl⟩ := Option.map_eq_some_iff.mp hd
          obtain ⟨vs, c1, c2⟩ := caps_ok I rl C hC eG is xs ds' (fun z hz => hm z (List.mem_cons_of_mem _ hz)) h2 h3
          obtain ⟨v, hv, dv⟩ := rl.dat i d q
          have fr := caps_free (hm y List.mem_cons_self)
          obtain ⟨b, b1, b2⟩ := clo_has C.L I.ok fr
          obtain ⟨o, u, g1, g2, g3⟩ := cell_val I h1.symm hv (C.L.free _ fr rfl) b2
          have hCb := hC y b (hm y List.mem_cons_self) b2
          rw [g1] at hCb
          refine ⟨v :: vs, ⟨by simp [c1.1], fun j x e => ?_⟩, .cons (dv.mono eG) c2⟩
          cases j with
          | zero =>
            cases (Option.some.inj (show some y = some x from e))
            exact ⟨b, v, o, u, b1, rfl, plus_in hCb, g2, g3⟩
          | succ j =>
            obtain ⟨c, v', o', u', z⟩ := c1.2 j x (by simpa using e)
            exact ⟨c, v', o', u', z.1, by simpa using z.2.1, z.2.2⟩
        | _ => cases hd
open Classical in
/-- the captured cells shown, the lambdas are data -/
theorem expose (I : Inv X pins σ H s) (rl : Rel X.K fi H0 G H σ st) (hfc : X.env.cells = fi.cells) (ks : List LamCode) (hk : ∀ lc ∈ ks, CapV X lc) : ∃ Cs : CMap, (∀ c o, Cs c = some o → H c = none) ∧ (∀ c o, Cs c = some o → s.heap.get? c = some o ∧ (∃ y, X.env.cells.lookup y = some c) ∧ ∃ u, o.data = .cell u) ∧
    Ex G (plusC G Cs) ∧ Ex (plusC G Cs) (plusC H Cs) ∧ (∀ p ∈ Tb.T, plusC G Cs p.1 = none) ∧ ∀ (vs : List V) (js : List LamCode) (ts : List D), (∀ lc ∈ js, lc ∈ ks) → Raws fi G vs js → thksOf st js = some ts → Dens X.K (plusC G Cs) vs ts := by
  obtain ⟨Cs, hCs⟩ : ∃ Cs : CMap, Cs = fun a => if (∃ lc ∈ ks, ∃ y ∈ lc.caps, X.env.cells.lookup y = some a) then s.heap.get? a else none := ⟨_, rfl⟩
  have c1 : ∀ c o, Cs c = some o → ∃ lc ∈ ks, ∃ y ∈ lc.caps, X.env.cells.lookup y = some c := fun c o e => by
    rw [hCs] at e
    simp only at e
    split at e
    · assumption
    · cases e
  have c2 : ∀ c o, Cs c = some o → s.heap.get? c = some o := fun c o e => by
    have := c1 c o e
    rw [hCs] at e
    simp only [if_pos this] at e
    exact e
  have hn : ∀ c o, Cs c = some o → H c = none := fun c o e => by
    obtain ⟨_, _, y, _, h⟩ := c1 c o e
    exact I.freeC y c h
  have eG : Ex G (plusC G Cs) := fun a o e => by
    rw [plus_out (some_out hn (rl.s _ _ e))]
    exact e
  refine ⟨Cs, hn, fun c o e => ?_, eG, fun a o e => ?_, fun p hp => ?_, fun vs js => ?_⟩
  · obtain ⟨_, _, y, _, h⟩ := c1 c o e
    obtain ⟨v, o', z1, z2⟩ := I.cell y c h
    rw [c2 c o e] at z1
    cases z1
    exact ⟨c2 c o e, ⟨y, h⟩, v, z2⟩
  · cases q : Cs a with
    | some o' =>
      rw [plus_in q] at e ⊢
      exact e
    | none =>
      rw [plus_out q] at e ⊢
      exact rl.s _ _ e
  · obtain ⟨ps, h1, _⟩ := rl.tb p hp
    rw [plus_out (some_out hn h1)]
    exact rl.tg p hp
  · induction js generalizing vs with
    | nil =>
      intro ts _ hr ht
      cases hr
      cases ht
      exact .nil
    | cons lc r ih =>
      intro ts hm hr ht
      cases hr with
      | @cons v vs _ _ hl hr =>
        unfold thksOf at ht
        cases q : capIx st lc.ix with
        | none => rw [q] at ht; cases ht
        | some ds =>
          rw [q] at ht
          obtain ⟨ts', h3, rfl⟩ := Option.map_eq_some_iff.mp ht
          have C := hk lc (hm lc List.mem_cons_self)
          refine .cons ?_ (ih vs ts' (fun z hz => hm z (List.mem_cons_of_mem _ hz)) hr h3)
          obtain ⟨f, c, rfl, f1, f2⟩ := hl
          rw [← hfc] at f1
          obtain ⟨vs', k1, k2⟩ := caps_ok I rl C (Cs := Cs) (fun y b hy hb => by
            rw [hCs]
            simp only
            rw [if_pos ⟨lc, hm lc List.mem_cons_self, y, hy, hb⟩]) eG lc.ix lc.caps ds (fun _ h => h) C.ix q
          exact .thk (eG _ _ f1) (eG _ _ f2) (fun x y b e1 e2 => I.ok.inj x y b (clo_look C.L I.ok e1) (clo_look C.L I.ok e2)) (fun x b e => clo_dom e) k1 k2
/-- a heap that grew, the frozen part as it was -/
theorem Rel.top {K : Fr} {H' : Hp} (rl : Rel K fi H0 G H σ st) (x : XH H H') : Ext G H G H' := Ext.topX x fun b o e => x.k2 b o (rl.s _ _ e) fun p hp z => by
  rw [← z, rl.tg p hp] at e
  cases e
end
def flatR (d : D) : R D := if flatD d = true then .ok d else .no
open Classical in
noncomputable def eAllV (F : List D → R D) (i : Nat) (ks0 : List LamCode) (w : PySem.Str) : ME := fun st => match st[i]? with
  | some (.lams ks) => if ks ≠ ks0 then .no else (R.of (thksOf st ks)).bind fun ts => (F [.lst ts, .str w]).nr.bind flatR
  | _ => .no
def eAll1 (F : List D → R D) (lc : LamCode) (w : PySem.Str) : ME := fun st => (R.of (thksOf st [lc])).bind fun ts => (F [.lst ts, .str w]).nr.bind flatR
theorem flat_nr {K : Fr} {W : WX} {σ : L2.St} {G H : Hp} {r : R D} {k : D → Hp → Hp → Prop} (h : aft K W σ G H (r.nr.bind flatR) k) : ∃ d, r = .ok d ∧ flatD d = true ∧ ∀ G' H', Ext G H G' H' → k d G' H' := by
  cases r with
  | no => exact h.elim
  | rs c => exact h.elim
  | ok d =>
    have h' : aft K W σ G H (flatR d) k := h
    unfold flatR at h'
    split at h'
    · rename_i hf
      exact ⟨d, rfl, hf, h'⟩
    · exact h'.elim
section
variable {X : Cx} {fi : Fi} {W : WX} {x y : Str} {k : Nat} {F : List D → R D} {pos p p1 p2 lp lpos : Pos} {w : Str} {j : Nat} {lc : LamCode}
/-- x(xs, 'w'), xs a list of lambdas of one's own -/
theorem g_allV {i : Nat} (df : Def X x k 2 F) (hr : Room k X.A) (hfn : ∀ y, X.fn y = true) (hfc : X.env.cells = fi.cells) {ks0 : List LamCode} (hk : ∀ lc ∈ ks0, CapV X lc)
    (hN : X.N[i]? = some y) (hv : Vis X.env.scope y) (hg : Gl X x := by rfl) (hdb : (x == ("__debug__" : Str)) = false := by decide) (hd : (y == ("__debug__" : Str)) = false := by decide) (hcd : (y == ("__classdict__" : Str)) = false := by decide)
    (h1 : starEach [.Constant (.str w) j p2] X.env = (false, eval (.Constant (.str w) j p2) X.env) :: starEach [] X.env := by rfl) (he : starEach [.Name y p1, .Constant (.str w) j p2] X.env = (false, eval (.Name y p1) X.env) :: starEach [.Constant (.str w) j p2] X.env := by rfl)
    (hpl : (backTo pos (starEach [.Constant (.str w) j p2] X.env)).any (·.1) = false := by rfl) : PE X (.Call (.Name x p) [.Name y p1, .Constant (.str w) j p2] [] pos) (tE X.K fi W (eAllV F i ks0 w)) := by
  refine ⟨fun pins s σ H Q I h => ?_⟩
  obtain ⟨H0, G, st, rl, a⟩ := h
  unfold eAllV at a
  cases q : st[i]? with
  | none => rw [q] at a; exact a.elim
  | some sl =>
    rw [q] at a
    cases sl with
    | lams ks =>
      simp only at a
      split at a
      · exact a.elim
      rename_i hks
      have hks : ks = ks0 := Classical.not_not.mp hks
      subst hks
      cases ht : thksOf st ks with
      | none => rw [ht] at a; exact a.elim
      | some ts =>
        rw [ht] at a
        obtain ⟨d, hF, hfl, post⟩ := flat_nr a
        obtain ⟨l, o, a1, b1, c1, d1, e1⟩ := rl.own i _ q rfl
        cases o with
        | lst vs =>
          have c1 : Raws fi G vs ks := c1
          refine wpAny_Call_Name_kw (ld_glob I hg df.m ?_ hdb)
          refine PySem.W.callWith_K (h₀ := X.base) I.ok.mod.kin df.kp (thn ((pa_cons (pe_var hN hv hd hcd) (pa_cons pe_str pa_nil h1) he).run pos pins s σ H (fun us H1 => us = [.ref l, .str w] ∧ H1 = H) I ⟨.ref l, a1, rfl, rfl⟩) fun us s1 ⟨vs', H1, I1, r1, ev, eH⟩ => ⟨I1.kIn, ?_⟩) he hpl
          subst eH ev
          obtain ⟨Cs, n1, n2, n3, n4, n5, n6⟩ := expose I1 rl hfc ks hk
          have lo : Cs l = none := some_out n1 b1
          refine alive df hr hfn I1 n1 n2 r1 (G := upd (plusC G Cs) l (.lst vs)) (ds := [.lst ts, .str w]) rfl (fun b u e => ?_) (fun p hp => ?_) rl.tb (.cons (.lst upd_same ((n6 vs ks ts (fun _ h => h) c1 ht).mono ?_)) (.cons (.str w) .nil)) hF hfl fun v H' xh dv => post G H' (rl.top xh) v (dv _)
          · by_cases z : b = l
            · subst z
              rw [upd_same] at e
              rw [plus_out lo, b1]
              exact e
            · rw [upd_ne z] at e
              exact n4 _ _ e
          · rw [upd_ne]
            · exact n5 p hp
            · intro z
              obtain ⟨ps, h1, _⟩ := rl.tb p hp
              rw [z, b1] at h1
              cases h1
          · exact Ex.new (by rw [plus_out lo]; exact d1)
        | _ => exact False.elim c1
    | _ => exact a.elim
/-- x([lambda: ..], 'w') -/
theorem g_all1 (df : Def X x k 2 F) (hr : Room k X.A) (hfn : ∀ y, X.fn y = true) (M : Mk X fi lc) (C : CapV X lc) (hg : Gl X x := by rfl) (hdb : (x == ("__debug__" : Str)) = false := by decide)
    (h0 : starEach [.Lambda lc.params lc.body lc.scope lpos] X.env = (false, eval (.Lambda lc.params lc.body lc.scope lpos) X.env) :: starEach [] X.env := by rfl)
    (h1 : starEach [.Constant (.str w) j p2] X.env = (false, eval (.Constant (.str w) j p2) X.env) :: starEach [] X.env := by rfl) (he : starEach [.List [.Lambda lc.params lc.body lc.scope lpos] lp, .Constant (.str w) j p2] X.env = (false, eval (.List [.Lambda lc.params lc.body lc.scope lpos] lp) X.env) :: starEach [.Constant (.str w) j p2] X.env := by rfl)
    (hpl : (backTo pos (starEach [.Constant (.str w) j p2] X.env)).any (·.1) = false := by rfl) : PE X (.Call (.Name x p) [.List [.Lambda lc.params lc.body lc.scope lpos] lp, .Constant (.str w) j p2] [] pos) (tE X.K fi W (eAll1 F lc w)) := by
  refine ⟨fun pins s σ H Q I h => ?_⟩
  obtain ⟨H0, G, st, rl, a⟩ := h
  unfold eAll1 at a
  cases ht : thksOf st [lc] with
  | none => rw [ht] at a; exact a.elim
  | some ts =>
    rw [ht] at a
    obtain ⟨d, hF, hfl, post⟩ := flat_nr a
    refine wpAny_Call_Name_kw (ld_glob I hg df.m ?_ hdb)
    refine PySem.W.callWith_K (h₀ := X.base) I.ok.mod.kin df.kp (thn ((pa_cons (pe_lst (pa_cons (pe_lam M) pa_nil h0)) (pa_cons pe_str pa_nil h1) he).run pos pins s σ H (fun us H2 => ∃ f c H1 l, us = [.ref l, .str w] ∧ Made fi lc H H1 f c ∧ H1 l = none ∧ H2 = upd H1 l (.lst [.ref f])) I ?_) fun us s1 ⟨vs', H2, I1, r1, f, c, H1, l, ev, m, nl, eH⟩ => ⟨I1.kIn, ?_⟩) he hpl
    · exact ⟨rl.tb, fun f c H1 m => ⟨szl (by simp), fun l nl => ⟨f, c, H1, l, rfl, m, nl, rfl⟩⟩⟩
    · subst eH ev
      obtain ⟨G1, e1, raw⟩ := m.ext rl
      have xl : Ext G1 H1 G1 (upd H1 l (.lst [.ref f])) := Ext.newH e1.s nl
      have rl1 := (rl.ext e1).ext xl
      obtain ⟨Cs, n1, n2, n3, n4, n5, n6⟩ := expose I1 rl1 M.cells [lc] (fun z hz => by simp at hz; subst hz; exact C)
      have lo : Cs l = none := some_out n1 (upd_same (H := H1) (a := l))
      have gl : G1 l = none := e1.s.back nl
      refine alive df hr hfn I1 n1 n2 r1 (G := upd (plusC G1 Cs) l (.lst [.ref f])) (ds := [.lst ts, .str w]) rfl (fun b u e => ?_) (fun p hp => ?_) rl1.tb (.cons (.lst upd_same ((n6 [.ref f] [lc] ts (fun _ h => h) (.cons raw .nil) ht).mono ?_)) (.cons (.str w) .nil)) hF hfl fun v H' xh dv => post G H' (rl.top (m.x.trans (xl.h.trans xh))) v (dv _)
      · by_cases z : b = l
        · subst z
          rw [upd_same] at e
          rw [plus_out lo, upd_same]
          exact e
        · rw [upd_ne z] at e
          exact n4 _ _ e
      · rw [upd_ne]
        · exact n5 p hp
        · intro z
          obtain ⟨ps, h1, _⟩ := (rl.ext e1).tb p hp
          rw [z, nl] at h1
          cases h1
      · exact Ex.new (by rw [plus_out lo]; exact gl)
end
end Pg

namespace Pg
open PySem PySem.Spec PyProof.Rows L2
variable [Tb]
/-! ### a lambda is called -/
mutual
def noThk : D → Bool
  | .thk _ _ => false
  | .tup xs => noThks xs
  | .lst xs => noThks xs
  | .obj _ _ xs => noThks xs
  | _ => true
def noThks : List D → Bool
  | [] => true
  | x :: xs => noThk x && noThks xs
end
section
variable {K : Fr} {G G' : Hp}
mutual
theorem Den.away (h : ∀ a o, G a = some o → (∀ φ, o ≠ .ext φ) → G' a = some o) : ∀ {v : V} {d : D}, Den K G v d → noThk d = true → Den K G' v d
  | _, _, .non, _ => .non
  | _, _, .bl b, _ => .bl b
  | _, _, .int i, _ => .int i
  | _, _, .str x, _ => .str x
  | _, _, .adr a, _ => .adr a
  | _, _, .fn x, _ => .fn x
  | _, _, .lst (xs := xs) (ds := ds) e r, q => .lst (h _ _ e fun φ z => by cases z) (Dens.away h r (by unfold noThk at q; exact q))
  | _, _, .tup (ds := ds) e r, q => .tup (by
      rcases e with (e | ⟨o, e⟩) | e
      · exact .inl (.inl (h _ _ e fun φ z => by cases z))
      · exact .inl (.inr ⟨o, h _ _ e fun φ z => by cases z⟩)
      · exact .inr e) (Dens.away h r (by unfold noThk at q; exact q))
  | _, _, .scr e, _ => .scr (by
      rcases e with (e | ⟨o, e⟩) | e
      · exact .inl (.inl (h _ _ e fun φ z => by cases z))
      · exact .inl (.inr ⟨o, h _ _ e fun φ z => by cases z⟩)
      · exact .inr e)
  | _, _, .dic e, _ => .dic (h _ _ e fun φ z => by cases z)
  | _, _, .dicL e, _ => .dicL (h _ _ e fun φ z => by cases z)
  | _, _, .thk _ _ _ _ _ _, q => by unfold noThk at q; cases q
  | _, _, .obj e l r, q => .obj (h _ _ e fun φ z => by cases z) l (Dens.away h r (by unfold noThk at q; exact q))
theorem Dens.away (h : ∀ a o, G a = some o → (∀ φ, o ≠ .ext φ) → G' a = some o) : ∀ {vs : List V} {ds : List D}, Dens K G vs ds → noThks ds = true → Dens K G' vs ds
  | _, _, .nil, _ => .nil
  | _, _, .cons a r, q => by
    unfold noThks at q
    rw [Bool.and_eq_true] at q
    exact .cons (Den.away h a q.1) (Dens.away h r q.2)
end
end
abbrev lamE (lc : LamCode) (cl : List (Str × Addr)) (L f c : Addr) : Env := PySem.W.envX lc.qual lc.scope L f (.ref c) cl
/-- the context of the lambda's body -/
def lamC (P : Program) (w : World) (K : Fr) (mg : Str → Option Value) (base : Heap) (lc : LamCode) (cl : List (Str × Addr)) (A : Around) (outer : List Env) (s : Shared) (H : Hp) (E : XK) (f c : Addr) : Cx where
  prog := P
  w := w
  K := K
  mg := mg
  base := base
  A := A.deeper (lamE lc cl s.heap.objs.size f c)
  N := lc.caps
  s_0 := s
  H_0 := H
  env := lamE lc cl s.heap.objs.size f c
  outer := outer
  stack := lamE lc cl s.heap.objs.size f c :: outer
  ex := []
  fn := fun _ => false
  calm := true
  pn := []
  xe := fun e s' => wpAny (model P w) (A.deeper (lamE lc cl s.heap.objs.size f c)) (leaving (lamE lc cl s.heap.objs.size f c) e) (fun _ s'' => L2.CX P w outer H s E e s'') (fun e' s'' => L2.CX P w outer H s E e' s'') s'
/-- the lambda's text does f of what is captured -/
structure LamB (P : Program) (w : World) (K : Fr) (mg : Str → Option Value) (base : Heap) (k : Nat) (lc : LamCode) (f : ME) : Prop where
  bind : ∀ (cl : List (Str × Addr)) (pm cv ctv : Value), bindArgs (PySem.W.kla_fn "<lambda>" lc.qual lc.params lc.body lc.scope cl pm cv ctv) ⟨[], []⟩ = pure []
  kind : lc.scope.kind = .function
  co : lc.scope.isCoroutine = false
  gen : lc.scope.isGenerator = false
  own : ∀ y ∈ lc.scope.names, y.2 ≠ .local ∧ y.2 ≠ .cell
  body : ∀ (cl : List (Str × Addr)) (A : Around) (outer : List Env) (s : Shared) (H : Hp) (E : XK) (fa c : Addr), Room k (A.deeper (lamE lc cl s.heap.objs.size fa c)) → ∀ W, Takes (lamC P w K mg base lc cl A outer s H E fa c) W → PE (lamC P w K mg base lc cl A outer s H E fa c) lc.body (tE K fi0 W f)
section
variable {P : Program} {w : World} {H H' : Hp} {h h' : Heap} {Cs : CMap} {fs : List Addr}
/-- from hidden to hidden, told of shown to shown -/
theorem un_show (un : Un fs [] (minusC H Cs) H' h h') (hc : ∀ c o, Cs c = some o → ∃ φ, H c = some (.ext φ)) : Un fs [] H (plusC H' Cs) h h' := by
  have out : ∀ b, (∀ φ, H b ≠ some (.ext φ)) → Cs b = none := fun b n => by
    cases q : Cs b with
    | none => rfl
    | some o =>
      obtain ⟨φ, z⟩ := hc b o q
      exact absurd z (n φ)
  have o0 : ∀ b, H b = none → Cs b = none := fun b e => out b fun φ z => by rw [e] at z; cases z
  exact {
    keep := fun b o e n hf hx => un.keep b o e (by rw [minus_out (o0 b n)]; exact n) hf hx
    slot := fun b o e n hf hx => un.slot b o e (by rw [minus_out (o0 b n)]; exact n) hf hx
    free := fun b o e n hx => by
      rw [plus_out (o0 b n)]
      exact un.free b o e (by rw [minus_out (o0 b n)]; exact n) hx
    there := fun b o e hx => un.there b o e hx
    tups := fun b xs e => by
      have q := out b fun φ z => by rw [e] at z; cases z
      rw [plus_out q]
      exact un.tups b xs (by rw [minus_out q]; exact e)
    frzs := fun b o u e => by
      have q := out b fun φ z => by rw [e] at z; cases z
      rw [plus_out q]
      exact un.frzs b o u (by rw [minus_out q]; exact e)
    tbls := fun b ps e => by
      have q := out b fun φ z => by rw [e] at z; cases z
      rw [plus_out q]
      exact un.tbls b ps (by rw [minus_out q]; exact e) }
/-- the same of an exception's ground -/
theorem cx_show {outer : List Env} {s : Shared} {E : XK} {e : Value} {s' : Shared} (c : L2.CX P w outer (minusC H Cs) s (fun cls d H2 => (∀ c o, Cs c = some o → H2 c = none) → E cls d (plusC H2 Cs)) e s') (hc : ∀ c o, Cs c = some o → ∃ φ, H c = some (.ext φ)) (hs : ∀ c o, Cs c = some o → s.heap.get? c = some o)
    (hf : ∀ b ∈ frs outer, Cs b = none) : L2.CX P w outer H s E e s' := by
  obtain ⟨a, B, H', cls, d, rfl, fl, hok, ub, na, os, ag, q⟩ := c
  have out : ∀ b, (∀ φ, H b ≠ some (.ext φ)) → Cs b = none := fun b n => by
    cases q : Cs b with
    | none => rfl
    | some o =>
      obtain ⟨φ, z⟩ := hc b o q
      exact absurd z (n φ)
  have o0 : ∀ b, H b = none → Cs b = none := fun b e => out b fun φ z => by rw [e] at z; cases z
  have inB : ∀ c o, Cs c = some o → B.get? c = some o := fun c o z => ub.keep c o (hs c o z) (minus_in z) fun y => by rw [hf c y] at z; cases z
  have inN : ∀ c o, Cs c = some o → H' c = none := fun c o z => ub.free c o (hs c o z) (minus_in z)
  refine ⟨a, B, plusC H' Cs, cls, d, rfl, fl, hok_plus hok inN inB, ?_, ?_, os, ag, q inN⟩
  · exact {
      keep := fun b o e n hf' => ub.keep b o e (by rw [minus_out (o0 b n)]; exact n) hf'
      slot := fun b o e hf' => ub.slot b o e hf'
      free := fun b o e n => by
        rw [plus_out (o0 b n)]
        exact ub.free b o e (by rw [minus_out (o0 b n)]; exact n)
      there := fun b o e hf' => ub.there b o e hf'
      tups := fun b xs e => by
        have q := out b fun φ z => by rw [e] at z; cases z
        rw [plus_out q]
        exact ub.tups b xs (by rw [minus_out q]; exact e)
      frzs := fun b o u e => by
        have q := out b fun φ z => by rw [e] at z; cases z
        rw [plus_out q]
        exact ub.frzs b o u (by rw [minus_out q]; exact e)
      tbls := fun b ps e => by
        have q := out b fun φ z => by rw [e] at z; cases z
        rw [plus_out q]
        exact ub.tbls b ps (by rw [minus_out q]; exact e) }
  · have : Cs a = none := by
      cases z : Cs a with
      | none => rfl
      | some o =>
        have := inB a o z
        rw [fl.2.1] at this
        cases this
    rw [plus_out this]
    exact na
end
def eThk (TF : LamCode → List D → R D) (i : Nat) : ME := fun st => match st[i]? with
  | some (.dat (.thk lc ds)) => if noThks ds = true then TF lc ds else .no
  | _ => .no
section
variable {X : Cx} {fi : Fi} {W : WX} {k i : Nat} {a : Str} {p1 p2 : Pos} {TF : LamCode → List D → R D}
open Classical in
/-- a(), a a local that holds a lambda -/
theorem g_thk (hr : Room (k + 1) X.A) (tk : Takes X W) (hT : ∀ lc ds, TF lc ds ≠ .no → ∃ f : ME, LamB X.prog X.w X.K X.mg X.base k lc f ∧ TF lc ds = f (ds.map Slot.dat)) (hN : X.N[i]? = some a) (hv : Vis X.env.scope a)
    (hd : (a == ("__debug__" : Str)) = false := by decide) (hcd : (a == ("__classdict__" : Str)) = false := by decide) : PE X (.Call (.Name a p1) [] [] p2) (tE X.K fi W (eThk TF i)) := by
  refine ⟨fun pins s0 σ H Q I0 h => ?_⟩
  obtain ⟨H0, G, st, rl, q⟩ := h
  unfold eThk at q
  cases hi : st[i]? with
  | none => rw [hi] at q; exact q.elim
  | some sl =>
    rw [hi] at q
    cases sl with
    | dat d =>
      cases d with
      | thk lc ds =>
        simp only at q
        split at q
        · rename_i hnt
          obtain ⟨v, hv1, dv⟩ := rl.dat i _ hi
          cases dv with
          | @thk f c _ cl vs _ hf hc hinj hdom hcap hds =>
            refine wpAny_Call_Name_kw (thn ((pe_var (pos := p1) (i := i) hN hv hd hcd).run pins s0 σ H (fun v H1 => v = .ref f ∧ H1 = H) I0 ⟨.ref f, hv1, rfl, rfl⟩) fun u s ⟨v, H1, I, r1, ev, eH⟩ => ?_)
            subst ev eH
            obtain rfl : u = Value.ref f := r1
            by_cases hno : TF lc ds = .no
            · rw [hno] at q; exact q.elim
            obtain ⟨fm, B, hTF⟩ := hT lc ds hno
            rw [hTF] at q
            obtain ⟨⟨pm, ctv, of1⟩, _, _⟩ := I.hok f _ (rl.s _ _ hf)
            obtain ⟨⟨oc, cvs, ct, hoc, hdc, hvc⟩, _, _⟩ := I.hok c _ (rl.s _ _ hc)
            refine PySem.W.callWith_F0 ⟨_, _, _, _, of1⟩ ?_
            -- the cells
            obtain ⟨Cs, hCs⟩ : ∃ Cs : CMap, Cs = fun b => if (∃ y, cl.lookup y = some b) then s.heap.get? b else none := ⟨_, rfl⟩
            have cellOf : ∀ y b, cl.lookup y = some b → ∃ j v o u, lc.caps[j]? = some y ∧ vs[j]? = some v ∧ G b = some (CellX b o) ∧ o.data = .cell (some u) ∧ RelV v u := fun y b e => by
              obtain ⟨j, hj⟩ := List.mem_iff_getElem?.mp (hdom y b e)
              obtain ⟨b', v, o, u, e1, e2, e3, e4, e5⟩ := hcap.2 j y hj
              rw [e] at e1
              cases e1
              exact ⟨j, v, o, u, hj, e2, e3, e4, e5⟩
            have at_ : ∀ b o, G b = some (CellX b o) → s.heap.get? b = some o := fun b o e => by
              obtain ⟨z, _, _⟩ := I.hok b _ (rl.s _ _ e)
              exact z
            have inC : ∀ y b, cl.lookup y = some b → ∃ o, Cs b = some o := fun y b e => by
              obtain ⟨j, v, o, u, _, _, e3, _⟩ := cellOf y b e
              refine ⟨o, ?_⟩
              rw [hCs]
              simp only
              rw [if_pos ⟨y, e⟩]
              exact at_ b o e3
            have ofC : ∀ b o, Cs b = some o → s.heap.get? b = some o ∧ G b = some (CellX b o) ∧ ∃ u, o.data = .cell u := fun b o e => by
              rw [hCs] at e
              simp only at e
              split at e
              · rename_i hy
                obtain ⟨y, hy⟩ := hy
                obtain ⟨j, v, o', u, _, _, e3, e4, _⟩ := cellOf y b hy
                have := at_ b o' e3
                rw [e] at this
                cases this
                exact ⟨e, e3, _, e4⟩
              · cases e
            have hcH : ∀ b o, Cs b = some o → H1 b = some (CellX b o) ∧ ∃ u, o.data = .cell u := fun b o e => ⟨rl.s _ _ (ofC b o e).2.1, (ofC b o e).2.2⟩
            have hcφ : ∀ b o, Cs b = some o → ∃ φ, H1 b = some (.ext φ) := fun b o e => ⟨_, (hcH b o e).1⟩
            have nfr : ∀ b ∈ frs X.stack, Cs b = none := fun b hb => by
              cases z : Cs b with
              | none => rfl
              | some o =>
                have := (hcH b o z).1
                rw [I.stkFree b hb] at this
                cases this
            have e0 := I.env0
            have plainG : ∀ b o, G b = some o → (∀ φ, o ≠ .ext φ) → minusC G Cs b = some o := fun b o e n => by
              cases z : Cs b with
              | none => rw [minus_out z]; exact e
              | some o' =>
                have := (ofC b o' z).2.1
                rw [e] at this
                cases this
                exact absurd rfl (n _)
            have extGH : ∀ {G2 H2 : Hp}, Ext (minusC G Cs) (minusC H1 Cs) G2 H2 → (∀ c o, Cs c = some o → H2 c = none) → Ext G H1 (plusC G2 Cs) (plusC H2 Cs) := fun {G2 H2} e nn => by
              refine ⟨fun b o g => ?_, ⟨fun b o g nt => ?_, fun b o g nt => ?_, fun b ps g => ?_, fun p hp t => ?_⟩, fun b o g => ?_, fun b o g n => ?_⟩
              · cases z : Cs b with
                | some o' =>
                  rw [plus_in z, ← g]
                  exact (ofC b o' z).2.1.symm
                | none => rw [plus_out z]; exact e.g _ _ (by rw [minus_out z]; exact g)
              · cases z : Cs b with
                | some o' =>
                  rw [plus_in z, ← g]
                  exact (hcH b o' z).1.symm
                | none => rw [plus_out z]; exact e.h.k _ _ (by rw [minus_out z]; exact g) nt
              · cases z : Cs b with
                | some o' =>
                  rw [plus_in z, ← g]
                  exact (hcH b o' z).1.symm
                | none => rw [plus_out z]; exact e.h.k2 _ _ (by rw [minus_out z]; exact g) nt
              · have z : Cs b = none := by
                  cases z : Cs b with
                  | none => rfl
                  | some o' =>
                    have := (hcH b o' z).1
                    rw [g] at this
                    cases this
                rw [plus_out z]
                exact e.h.q b ps (by rw [minus_out z]; exact g)
              · exact tab_plus (e.h.t p hp (tab_minus t I.hok hcH)) nn
              · cases z : Cs b with
                | some o' =>
                  rw [plus_in z] at g ⊢
                  exact g
                | none =>
                  rw [plus_out z] at g ⊢
                  exact e.s _ _ g
              · cases z : Cs b with
                | some o' =>
                  have := (ofC b o' z).2.1
                  rw [n] at this
                  cases this
                | none =>
                  rw [plus_out z] at g
                  have f := e.n b o g (by rw [minus_out z]; exact n)
                  unfold Fre at f ⊢
                  rw [minus_out z] at f
                  exact f
            -- the run
            let E' : XK := fun cls d H2 => (∀ c o, Cs c = some o → H2 c = none) → WE W σ cls d (plusC H2 Cs)
            let Q' : VK := fun v H2 => (∀ c o, Cs c = some o → H2 c = none) → Q v (plusC H2 Cs)
            have rc : codeAny (model X.prog X.w) X.A (.call (.ref f) ⟨[], []⟩) (CR (L2.CX X.prog X.w) X.stack X.prog X.w H1 s Q (WE W σ)) s := by
              refine PySem.W.kla_callFunE hr.depth of1 rfl B.co B.gen rfl ⟨c, oc, cvs, ct, rfl, hoc, hdc, hvc⟩ ?_
              rw [B.bind]
              refine wpAny_pure (wpAny_newFunctionEnv (fun y hy => (B.own y hy).2) (fun y hy => absurd hy (by simp)) (fun h₁ hns hsb => ⟨I.nolimit.fresh _ hsb, ?_⟩) B.kind)
              show codeAny _ _ (.expr lc.body (lamE lc cl s.heap.objs.size f c)) _ _
              have kp : ∀ b o, s.heap.get? b = some o → h₁.get? b = some o := fun b o e => hsb.extBut b o (Nat.ne_of_lt (Heap.lt_size e)) (Heap.get?_push_of_some _ e)
              have noA : ∀ b : Addr, b ∉ (lamC X.prog X.w X.K X.mg X.base lc cl X.A X.stack s (minusC H1 Cs) E' f c).ex := fun b z => absurd (show b ∈ ([] : List Addr) from z) (by simp)
              have mN : ∀ b, H1 b = none → minusC H1 Cs b = none := fun b e => by
                cases z : Cs b with
                | some o => exact minus_in z
                | none => rw [minus_out z]; exact e
              have J : Inv (lamC X.prog X.w X.K X.mg X.base lc cl X.A X.stack s (minusC H1 Cs) E' f c) [] (vs.map some) (minusC H1 Cs) { s with heap := h₁, toks := s.toks + ([] : List (Str × Value)).length } := by
                refine ⟨⟨e0.mod, B.kind, rfl, rfl, Nat.le_refl _, hinj, fun y hy => ?_, fun y b z _ => absurd (show false = true from z) (by decide), fun _ => hr.hd, Around.frames_deeper e0.frames, .inr ⟨rfl, rfl⟩, fun b z => absurd z (noA b), fun b o e => ⟨(e0.bs b o e).1, mN b (e0.bs b o e).2⟩, e0.bsz, fun b _ _ => noA b,
                    fun b z => absurd z (noA b), e0.funs, fun b hb => mN b (e0.frf b hb)⟩,
                  rfl, e0.bare, Un.kept kp, ⟨_, hns, fun j y v e1 e2 e3 => ?_⟩, fun y b e => ?_, mN _ (e0.hok.fresh (Nat.le_refl _)), fun y b e => ?_, fun q hq => absurd (show q ∈ ([] : List (Addr × Obj)) ++ [] from hq) (by simp), (hok_minus I.hok hcφ).kept kp, by rw [List.length_map]; exact hcap.1⟩
                · have hy : lc.scope.names.lookup y = some .cell ∨ lc.scope.names.lookup y = some .free := hy
                  rcases hy with hy | hy
                  · exact absurd rfl (B.own _ (PySem.mem_of_lookup hy)).2
                  · obtain ⟨j, hj⟩ := List.mem_iff_getElem?.mp (caps_mem (PySem.mem_of_lookup hy))
                    obtain ⟨b, _, _, _, e1, _⟩ := hcap.2 j y hj
                    exact ⟨b, e1⟩
                · obtain ⟨b, v', o, u, c1, c2, c3, c4, c5⟩ := hcap.2 j y e1
                  rw [List.getElem?_map, c2] at e2
                  cases e2
                  refine ⟨u, c5, .inr ⟨.inr ?_, b, c1, o, kp _ _ (at_ b o c3), c4⟩⟩
                  rcases e3 with k | k | k
                  · exact absurd rfl (B.own _ (PySem.mem_of_lookup k)).1
                  · exact absurd rfl (B.own _ (PySem.mem_of_lookup k)).2
                  · exact k
                · obtain ⟨j, v', o, u, _, _, c3, c4, _⟩ := cellOf y b e
                  exact ⟨_, o, kp _ _ (at_ b o c3), c4⟩
                · obtain ⟨o, z⟩ := inC y b e
                  exact minus_in z
              have tbm : LamX.Tabs Tb.T (minusC H1 Cs) := fun p hp => tab_minus (rl.tb p hp) I.hok hcH
              have tgm : ∀ p ∈ Tb.T, minusC G Cs p.1 = none := fun p hp => by
                cases z : Cs p.1 with
                | some o => exact minus_in z
                | none => rw [minus_out z]; exact rl.tg p hp
              have sm : Ex (minusC G Cs) (minusC H1 Cs) := fun b o g => by
                cases z : Cs b with
                | some o' => rw [minus_in z] at g; cases g
                | none =>
                  rw [minus_out z] at g ⊢
                  exact rl.s _ _ g
              have dm : Dens X.K (minusC G Cs) vs ds := hds.away plainG hnt
              have rlm : Rel X.K fi0 (minusC H1 Cs) (minusC G Cs) (minusC H1 Cs) (vs.map some) (ds.map Slot.dat) := by
                have r0 := rel_start (K := X.K) (ea := fi0) (N := lc.caps) sm dm tbm tgm
                have e1 : L2.start lc.caps vs = vs.map some := by unfold L2.start; rw [hcap.1, Nat.sub_self]; simp
                have e2 : lc.caps.length - ds.length = 0 := by rw [← dm.length, hcap.1, Nat.sub_self]
                rw [e1, e2] at r0
                simpa using r0
              have hb := B.body cl X.A X.stack s (minusC H1 Cs) E' f c (hr.deeper _) (fun cls d _ H2 => E' cls d H2) (takes_of (E := E') (E₁ := fun e' s'' => L2.CX X.prog X.w X.stack (minusC H1 Cs) s E' e' s'') rfl rfl rfl rfl)
              refine PySem.W.kla_codeExpr (wpAny_mono (hb.run [] _ _ (minusC H1 Cs) Q' J ⟨minusC H1 Cs, minusC G Cs, ds.map Slot.dat, rlm, ?_⟩) (fun v s' hq => ?_) fun e s' hq => ?_)
              · cases hfr : fm (ds.map Slot.dat) with
                | no => rw [hfr] at q; exact q.elim
                | rs c' =>
                  rw [hfr] at q
                  exact fun G2 H2 e nn => q _ _ (extGH e nn)
                | ok d =>
                  rw [hfr] at q
                  intro G2 H2 e v dv nn
                  refine q _ _ (extGH e nn) v (dv.mono fun b o g => ?_)
                  rw [plus_out]
                  · exact g
                  · cases z : Cs b with
                    | none => rfl
                    | some o' =>
                      have := e.s _ _ g
                      rw [nn b o' z] at this
                      cases this
              · obtain ⟨v', H2, J', rv, qq⟩ := hq
                have nn : ∀ b o, Cs b = some o → H2 b = none := fun b o z => J'.base.free b o (ofC b o z).1 (minus_in z) (by intro z; cases z)
                have st2 : ∀ b o, Cs b = some o → s'.heap.get? b = some o := fun b o z => J'.base.keep b o (ofC b o z).1 (minus_in z) (fun hb => by
                  have := nfr b hb
                  rw [z] at this
                  cases this) (by intro z; cases z)
                exact ⟨v', plusC H2 Cs, J'.os, J'.bare, un_show J'.base hcφ, hok_plus J'.hok nn st2, rv, qq nn⟩
              · exact wpAny_mono hq (fun _ s'' z => cx_show z hcφ (fun b o y => (ofC b o y).1) nfr) fun e' s'' z => cx_show z hcφ (fun b o y => (ofC b o y).1) nfr
            have hx : PassesAt (L2.CX X.prog X.w) X σ (WE W σ) := passAt tk σ
            refine wpAny_call (codeAny_mono rc fun r s' hq => ?_)
            cases r with
            | error e => exact hx pins H1 s e s' I hq
            | ok fl =>
              cases fl with
              | ret u => exact I.after hq
              | next => exact False.elim hq
              | brk => exact False.elim hq
              | cont => exact False.elim hq
        · exact q.elim
      | _ => exact q.elim
    | _ => exact q.elim
end
end Pg

namespace Pg
open PySem PySem.Spec PyProof.Rows L2
variable [Tb]
/-! ### a def called in an except suite, of the exception that it holds -/
/-- c: the exception's class; what F gives is flat -/
structure HotK (P : Program) (w : World) (K : Fr) (mg : Str → Option Value) (base : Heap) (x : Str) (k : Nat) (F : Str → R D) : Prop where
  m : mg x = some (.ref (He.ga K x))
  kp : PySem.W.keepIn K (.ref (He.ga K x)) = true
  ex : ∃ (fd : FuncData) (ps : List Str), Binds K fd ps [] ∧ ps.length = 1 ∧ ∀ (c : Str) (A : Around) (outer : List Env) (s : Shared) (H : Hp) (args : Args) (us : List Value) (a : Addr) (oe : Obj) (Q : VK) (d : D), L2H.RoomH k A → L2H.PinOk outer H s (a, oe) → Zc (.ref (He.ga K c)) none oe → (∃ vs, oe.data = .fields vs) →
    Env0 P w K mg base A outer s H → BindsTo s fd args (ps.zip us) → Vals [.ref a] us → LamX.Tabs Tb.T H → F c = .ok d → flatD d = true → (∀ v H', XH H H' → (∀ G : Hp, Den K G v d) → Q v H') → codeAny (model P w) A (.call (.ref (He.ga K x)) args) (CR (L2.CX P w) outer P w H s Q fun _ _ _ => False) s
def mkH (N : Nat) (m : Str → MS) : Str → R D := fun c => match m c (.exc :: List.replicate (N - 1) .un) with
  | .rt d => .ok d
  | _ => .no
section
variable {P : Program} {w : World} {K : Fr} {mg : Str → Option Value} {base : Heap} {x p : Str} {params : Arguments} {body : List Stmt} {scope : Scope} {fd : FuncData}
theorem hot_ok (N : List Str) (k Nn : Nat) (m : Str → MS) (hN : N.length = Nn + 1) (F : FunD K x x params body scope [] [] (He.ga K x) fd) (hm : mg x = some (.ref (He.ga K x))) (S : FnScope N [p] scope)
    (hbd : ∀ (kV doc pm : Value) (an : Option Addr) (cdv ct : Value) (us : List Value), us.length = [p].length → bindArgs (PySem.W.fnOf x x params body scope .none kV doc pm an cdv ct) ⟨us, []⟩ = pure ([p].zip us))
    (hb : ∀ (c : Str) (cdv : Value) (A : Around) (outer : List Env) (s : Shared) (H : Hp) (a : Addr) (oe : Obj), L2H.RoomH k (A.deeper (envOfC x scope s.heap.objs.size (He.ga K x) cdv)) → Zc (.ref (He.ga K c)) none oe → (∃ vs, oe.data = .fields vs) → (∃ d, mkH (Nn + 1) m c = .ok d) →
      PSs (L2H.cxH (L2.CX P w) P w K mg base N x scope (He.ga K x) cdv A outer s H (fun _ _ _ => False) (a, oe)) body (tS K ⟨a, []⟩ W0 (m c))) : HotK P w K mg base x (k + 1) (mkH (Nn + 1) m) := by
  refine ⟨hm, F.kp, fd, [p], F.bindsN hbd, rfl, fun c A outer s H args us a oe Q d hr hpin hz hf e0 hbnd hv tb hF hfl post => ?_⟩
  obtain ⟨oc, od, dV, kV, doc, pm, an, cdv, ct, osl, rfl, lk, hcd, _, _⟩ := F.ex
  have KX : K.In s.heap := e0.mod.kin.keeps fun b o e => (e0.bs b o e).1
  have lim : s.heap.NoLimit := e0.mod.nolimit.keeps fun b o e => (e0.bs b o e).1
  have kinds : ∀ y ∈ [p].zip us, scope.names.lookup y.1 = some .local ∨ (scope.names.lookup y.1 = some .cell ∧ ((cellsFrom (s.heap.objs.size + 1) scope.names []).lookup y.1).isSome = true) := fun y hy =>
    (S.par y.1 (List.of_mem_zip (a := y.1) (b := y.2) hy).1).imp id fun q => ⟨q, PySem.W.cellsFrom_some _ _ _ (.inl q)⟩
  refine codeAny_call_function hr.depth (KX _ _ lk) rfl S.co S.gen rfl (PySem.W.codeRec_of KX hcd) (hbnd _ _ _ _ ?_)
  refine wpAny_newFunctionEnv_cells S.kind kinds fun env he s1 xc => ?_
  subst he
  refine ⟨lim.keeps xc.toInCall.keep, codeAny_func ?_⟩
  have I := L2H.inv_startH (CX := L2.CX P w) (E := fun _ _ _ => False) S hpin e0 (vs := [.ref a]) rfl hv xc
  have hbb := hb c cdv A outer s H a oe (hr.deeper _) hz hf ⟨d, hF⟩
  have est : L2.start N [.ref a] = some (V.ref a) :: List.replicate Nn none := by
    unfold L2.start
    rw [hN]
    simp
  have hl : (Slot.exc :: List.replicate (Nn + 1 - 1) Slot.un).length = (L2.start N [.ref a]).length := by rw [est]; simp
  have nor : ∀ (i : Nat) (t : Slot), (Slot.exc :: List.replicate (Nn + 1 - 1) Slot.un)[i]? = some t → (i = 0 ∧ t = .exc) ∨ t = .un := fun i t q => by
    cases i with
    | zero => cases q; exact .inl ⟨rfl, rfl⟩
    | succ i =>
      rw [List.getElem?_cons_succ, List.getElem?_replicate] at q
      split at q
      · cases q; exact .inr rfl
      · cases q
  have rl : Rel K ⟨a, []⟩ H (fun _ => none) H (L2.start N [.ref a]) (Slot.exc :: List.replicate (Nn + 1 - 1) Slot.un) := by
    refine ⟨(fun b o e => by cases e), hl, fun i c q hb => ?_, fun i d q => ?_, fun i t q mm => ?_, fun i j t u l q mm => ?_, tb, fun _ _ => rfl, Obs.no fun i o q => ?_⟩
    · rcases nor i _ q with ⟨rfl, _⟩ | z
      · rw [est]; rfl
      · subst z; cases hb
    · rcases nor i _ q with ⟨_, z⟩ | z <;> cases z
    · rcases nor i _ q with ⟨_, z⟩ | z <;> subst z <;> cases mm
    · rcases nor i _ q with ⟨_, z⟩ | z <;> subst z <;> cases mm
    · rcases nor i _ q with ⟨_, z⟩ | z <;> cases z
  refine wpAny_mono (hbb.run [] s1 (L2.start N [.ref a]) H { nx := fun _ _ => False, rt := Q } I ⟨fun _ => none, H, fun _ => none, _, Ext.refl (fun b o e => by cases e), rl, ?_⟩) (fun fl s' hs => ?_) fun e s' hs => hs
  · unfold mkH at hF
    cases z : m c (Slot.exc :: List.replicate (Nn + 1 - 1) Slot.un) with
    | rt d' =>
      rw [z] at hF
      cases hF
      exact fun v G' H' e dv => post v H' e.h fun G => ext_den_flat hfl dv
    | _ => rw [z] at hF; cases hF
  · cases fl with
    | ret u =>
      obtain ⟨v, σ', H', J, rv, q⟩ := hs
      exact ⟨v, H', J.os, J.bare, J.base, J.hok, rv, q⟩
    | next =>
      obtain ⟨_, _, _, q⟩ := hs
      exact False.elim q
    | brk =>
      obtain ⟨_, _, _, q⟩ := hs
      exact False.elim q
    | cont =>
      obtain ⟨_, _, _, q⟩ := hs
      exact False.elim q
end
def eHot (F : Str → R D) (c : Str) (i : Nat) : ME := fun st => match st[i]? with
  | some .exc => (F c).nr.bind flatR
  | _ => .no
section
variable {X : Cx} {fi : Fi} {W : WX} {x y c : Str} {k i : Nat} {F : Str → R D} {p p1 pos : Pos} {a : Addr} {oe : Obj} {pn : List (Addr × Obj)}
/-- x(e), e the exception that the suite holds -/
theorem g_hot (df : HotK X.prog X.w X.K X.mg X.base x k F) (hr : Room k X.A) (hz : Zc (.ref (He.ga X.K c)) none oe) (hf : ∃ vs, oe.data = .fields vs) (hN : X.N[i]? = some y) (hv : Vis X.env.scope y) (hg : Gl X x := by rfl) (hdb : (x == ("__debug__" : Str)) = false := by decide)
    (hd : (y == ("__debug__" : Str)) = false := by decide) (hcd : (y == ("__classdict__" : Str)) = false := by decide) (he : starEach [.Name y p1] X.env = (false, eval (.Name y p1) X.env) :: starEach [] X.env := by rfl) (hpl : (backTo pos (starEach [] X.env)).any (·.1) = false := by rfl) :
    PE (X.suite a ((a, oe) :: pn)) (.Call (.Name x p) [.Name y p1] [] pos) (tE X.K (fi.at a) W (eHot F c i)) := by
  refine ⟨fun pins s σ H Q I h => ?_⟩
  obtain ⟨H0, G, st, rl, q⟩ := h
  unfold eHot at q
  cases hi : st[i]? with
  | none => rw [hi] at q; exact q.elim
  | some sl =>
    rw [hi] at q
    cases sl with
    | exc =>
      obtain ⟨d, hF, hfl, post⟩ := flat_nr q
      have hv1 := rl.exc i _ hi rfl
      refine wpAny_Call_Name_kw (ld_glob (X := X.suite a ((a, oe) :: pn)) I hg df.m ?_ hdb)
      refine PySem.W.callWith_K (h₀ := X.base) I.ok.mod.kin df.kp (thn ((pa_cons (X := X.suite a ((a, oe) :: pn)) (pe_var (X := X.suite a ((a, oe) :: pn)) hN hv hd hcd) pa_nil he).run pos pins s σ H (fun us H1 => us = [.ref a] ∧ H1 = H) I ⟨.ref a, hv1, rfl, rfl⟩) fun us s1 ⟨vs', H1, I1, r1, ev, eH⟩ => ⟨I1.kIn, ?_⟩) he hpl
      subst ev eH
      obtain ⟨fd, ps, hb, hl, run⟩ := df.ex
      have hlu : us.length = ps.length := by rw [← r1.length, hl]; rfl
      have b := hb s1 us I1.kIn (by rw [List.append_nil]; exact hlu)
      rw [List.append_nil] at b
      have P1 := I1.pin (a, oe) (List.mem_append_left _ List.mem_cons_self)
      have hpin : L2H.PinOk (X.suite a ((a, oe) :: pn)).stack H1 s1 (a, oe) := ⟨P1.1, P1.2.1, fun hm => (List.mem_cons.mp (I1.stkSub a hm)).elim P1.2.2.1 P1.2.2.2.1, P1.2.2.2.2⟩
      refine wpAny_call (codeAny_mono (run c _ _ s1 H1 ⟨us, []⟩ us a oe Q d ⟨hr.dp, hr.un⟩ hpin hz hf I1.env0 b r1 rl.tb hF hfl fun v H' xh dv => post G H' (rl.top xh) v (dv _)) fun r s' hq => ?_)
      cases r with
      | error e => exact (noCXf hq).elim
      | ok fl =>
        cases fl with
        | ret u => exact I1.after hq
        | next => exact False.elim hq
        | brk => exact False.elim hq
        | cont => exact False.elim hq
    | _ => exact q.elim
end
/-! ### isinstance of the exception that is held, anywhere -/
section
variable {X : Cx} {fi : Fi} {W : WX} {x y c : Str} {i : Nat} {b : Bool} {p p1 p2 pos : Pos} {a : Addr} {oe : Obj}
theorem call_isH {D : Addr} (hp : (a, oe) ∈ X.pn) (C : ExcC X.K D) (hz : Zc (.ref D) none oe) (hf : ∃ vs, oe.data = .fields vs) : CallR X (.builtin "isinstance") (rIsE X.K D a) := by
  intro pins s σ H xs us Q I r h
  obtain ⟨c, cv, b, rfl, hcv, e, q⟩ := h
  cases r with
  | cons rx rr => cases rr with
    | cons rt rr =>
      cases rr
      cases rx
      have ec := hcv _ rt
      subst ec
      have hget := (I.pin (a, oe) (List.mem_append_left _ hp)).1
      obtain ⟨vs, hv⟩ := hf
      have J : PySem.W.InstAt s.heap a oe D none := by
        obtain ⟨oc, od, oda, osl⟩ := oe
        obtain ⟨h1, h2⟩ := hz
        dsimp only at h1 h2 hv
        subst h1 h2 hv
        exact ⟨hget, rfl, rfl, trivial⟩
      exact PySem.W.kia_one (PySem.W.handS_kitx_exc C.hg C.hk C.hs C.hd C.ha C.hn C.ht C.hm) I.kIn J e (fun z => nomatch z) fun tk => ⟨.bl b, H, I.kept (t' := tk) fun _ _ z => z, rfl, q⟩
theorem g_isH (hfi : fi.ea = a) (hp : (a, oe) ∈ X.pn) (C : ExcC X.K (He.ga X.K c)) (hz : Zc (.ref (He.ga X.K c)) none oe) (hf : ∃ vs, oe.data = .fields vs) (hk : PySem.W.kitOne X.K (.ref (He.ga X.K c)) (.ref (He.ga X.K y)) = some b) (hI : X.mg "isinstance" = none) (hy : X.mg y = some (.ref (He.ga X.K y)))
    (hN : X.N[i]? = some x) (hv : Vis X.env.scope x) (hg : Gl X "isinstance" := by rfl) (hgy : Gl X y := by rfl) (hd : (x == ("__debug__" : Str)) = false := by decide) (hcd : (x == ("__classdict__" : Str)) = false := by decide) (hdy : (y == ("__debug__" : Str)) = false := by decide)
    (h1 : starEach [.Name y p2] X.env = (false, eval (.Name y p2) X.env) :: starEach [] X.env := by rfl) (h2 : starEach [.Name x p1, .Name y p2] X.env = (false, eval (.Name x p1) X.env) :: starEach [.Name y p2] X.env := by rfl) (hpl : (backTo pos (starEach [.Name y p2] X.env)).any (·.1) = false := by rfl) :
    PE X (.Call (.Name "isinstance" p) [.Name x p1, .Name y p2] [] pos) (tE X.K fi W (eIsE i b)) :=
  (pe_callB (call_isH hp C hz hf) hg hI (by decide +kernel) (pa_cons (pe_var hN hv hd hcd) (pa_cons (pe_glob (v := .ref (He.ga X.K y)) hgy hy rfl hdy) pa_nil h1) h2) (by decide) (by decide) h2 hpl).weak fun σ H Q hq => by
    obtain ⟨H0, G, st, rl, k⟩ := hq
    unfold eIsE at k
    cases q : st[i]? with
    | none => rw [q] at k; exact k.elim
    | some s =>
      rw [q] at k
      cases s with
      | exc => exact ⟨.ref a, by rw [← hfi]; exact rl.exc i _ q rfl, .ref (He.ga X.K y), .ref (He.ga X.K y), b, rfl, fun u r => r, hk, k _ _ (Ext.refl rl.s) _ (.bl b)⟩
      | _ => exact k.elim
/-- of a built-in class -/
theorem g_isHB {T : String} (hfi : fi.ea = a) (hp : (a, oe) ∈ X.pn) (C : ExcC X.K (He.ga X.K c)) (hz : Zc (.ref (He.ga X.K c)) none oe) (hf : ∃ vs, oe.data = .fields vs) (hk : PySem.W.kitOne X.K (.ref (He.ga X.K c)) (.type T) = some b) (hI : X.mg "isinstance" = none) (hy : X.mg y = none) (hb : bootBuiltins y = some (.type T))
    (hN : X.N[i]? = some x) (hv : Vis X.env.scope x) (hg : Gl X "isinstance" := by rfl) (hgy : Gl X y := by rfl) (hn : y ≠ "__name__" := by decide) (hd : (x == ("__debug__" : Str)) = false := by decide) (hcd : (x == ("__classdict__" : Str)) = false := by decide) (hdy : (y == ("__debug__" : Str)) = false := by decide)
    (h1 : starEach [.Name y p2] X.env = (false, eval (.Name y p2) X.env) :: starEach [] X.env := by rfl) (h2 : starEach [.Name x p1, .Name y p2] X.env = (false, eval (.Name x p1) X.env) :: starEach [.Name y p2] X.env := by rfl) (hpl : (backTo pos (starEach [.Name y p2] X.env)).any (·.1) = false := by rfl) :
    PE X (.Call (.Name "isinstance" p) [.Name x p1, .Name y p2] [] pos) (tE X.K fi W (eIsE i b)) :=
  (pe_callB (call_isH hp C hz hf) hg hI (by decide +kernel) (pa_cons (pe_var hN hv hd hcd) (pa_cons (pe_bltn (v := .ty T) hgy hy hb rfl hn hdy) pa_nil h1) h2) (by decide) (by decide) h2 hpl).weak fun σ H Q hq => by
    obtain ⟨H0, G, st, rl, k⟩ := hq
    unfold eIsE at k
    cases q : st[i]? with
    | none => rw [q] at k; exact k.elim
    | some s =>
      rw [q] at k
      cases s with
      | exc => exact ⟨.ref a, by rw [← hfi]; exact rl.exc i _ q rfl, .ty T, .type T, b, rfl, fun u r => r, hk, k _ _ (Ext.refl rl.s) _ (.bl b)⟩
      | _ => exact k.elim
end
/-! ### xs.count(True) -/
def cntD : D → D → Option D
  | .lst xs, .bl t => (blsOf xs).map fun bs => .int ((bs.count t : Nat) : Int)
  | _, _ => none
def rCntB (K : Fr) : V → List V → Hp → VK → Prop := fun x xs H Q => ∃ (p : Addr) (bs : List Bool) (t : Bool), x = .ref p ∧ xs = [.bl t] ∧ SqL K H p (bs.map V.bl) ∧ Q (.int ((bs.count t : Nat) : Int)) H
theorem vals_bl : ∀ {bs : List Bool} {us : List Value}, Vals (bs.map V.bl) us → us = bs.map Value.bool
  | [], us, h => by cases h; rfl
  | b :: r, us, h => by
    cases h with
    | cons h t =>
      rw [vals_bl t, h]
      rfl
theorem mt_cntB {X : Cx} : MtR X "list.count" (rCntB X.K) := by
  intro pins s σ H x xs v us Q I rx rxs h
  obtain ⟨p, bs, t, rfl, rfl, hs, q⟩ := h
  cases rx
  cases rxs with
  | cons ry rt =>
    rename_i uy ut
    cases rt
    obtain ⟨its, rv, ⟨⟨cls, dd, data, sl⟩, n, ho, hc, hdn, hd⟩, hlen⟩ := I.list hs
    simp only at hc hd
    subst hc hd
    have fys : (bs.map V.bl).all flatV = true := by
      rw [List.all_eq_true]
      intro z hz
      obtain ⟨b, _, rfl⟩ := List.mem_map.mp hz
      rfl
    refine call_meets PySem.F.slot_list_count ⟨_, ho, rfl⟩ PySem.F.entry_list_count (PySem.F.args_list_count_2 _ _)
      (SeqAt.list_countAt p its.toArray n dd sl uy (eqU (.bl t))) ⟨ho, fun u' hu' => mem_eqAt ry rfl rv fys u' (by simpa using hu'), ?_⟩
    refine ⟨.int ((bs.count t : Nat) : Int), H, I.tok _, ⟨s.toks, ?_⟩, q⟩
    have ec : its.toArray.toList.countP (eqU (.bl t)) = bs.count t := by
      rw [List.toList_toArray, vals_bl rv, List.countP_map, List.count]
      apply List.countP_congr
      intro b _
      cases b <;> cases t <;> decide
    show Value.int ((its.toArray.toList.countP (eqU (.bl t)) : Nat) : Int) s.toks = _
    rw [ec]
section
variable {X : Cx} {fi : Fi} {W : WX} {o e : Expr} {f g : ME} {apos cpos : Pos}
def eCnt (f g : ME) : ME := fun st => (f st).bind fun x => match x with
  | .lst ys => (g st).bind fun y => R.of (cntD (.lst ys) y)
  | _ => .no
theorem g_cnt (ho : PE X o (tE X.K fi W f)) (he : PE X e (tE X.K fi W g)) (hbase : attributeBase o "count" X.env (eval o X.env) = eval o X.env := by rfl)
    (hfew : ((backTo cpos (starEach [e] X.env)).all (fun x => !x.1) && (backToKw cpos (keywordEach [] X.env)).all (fun x => x.1.isSome) && decide ([e].length + ([] : List Keyword).length + (if ([] : List Keyword).isEmpty then 0 else 1) < 30)) = true := by rfl)
    (hline : (apos.endLine == cpos.line) = true := by rfl) (h1 : starEach [e] X.env = (false, eval e X.env) :: starEach [] X.env := by rfl) (hplain : (backTo cpos (starEach [] X.env)).any (·.1) = false := by rfl) :
    PE X (.Call (.Attribute o "count" apos) [e] [] cpos) (tE X.K fi W (eCnt f g)) :=
  (pe_bm PySem.F.plainAttrs_list PySem.F.slot_list_count PySem.F.type_list_count mt_cntB ho (pa_cons he pa_nil h1) hbase hfew hline h1 hplain).weak fun σ H Q hq => by
    obtain ⟨H0, G, st, rl, k⟩ := hq
    refine ⟨H0, G, st, rl, aft_mono (aft_bind k) fun x G1 H1 e1 a1 v dv => ?_⟩
    cases dv with
    | @lst a vs ys ha hd =>
      refine ⟨.inl ⟨rfl, vs, SqL.of (e1.s _ _ ha)⟩, H0, G1, st, rl.ext e1, aft_mono (aft_bind a1) fun y G2 H2 e2 a2 w dw => ?_⟩
      obtain ⟨z, ez, k2⟩ := aft_of a2
      cases y with
      | bl t =>
        obtain ⟨bs, hb, rfl⟩ := Option.map_eq_some_iff.mp (show (blsOf ys).map _ = some z from ez)
        have hd2 := hd.mono e2.g
        rw [blsOf_inv hb] at hd2
        have ha2 := e2.s _ _ (e2.g _ _ ha)
        rw [hd2.bls_inv] at ha2
        rw [dw.bl_inv]
        exact ⟨a, bs, t, rfl, rfl, SqL.of ha2, k2 _ _ (Ext.refl e2.s) _ (.int _)⟩
      | _ => cases ez
    | _ => exact a1.elim
end
end Pg

namespace Pg
open PySem PySem.Spec PyProof.Rows L2
/-! ### places of the text -/
def nthE (es : List Expr) (i : Nat) : Expr := es.getD i (.Constant .none 0 ⟨0, 0, 0, 0⟩)
def sBody : Stmt → List Stmt
  | .FunctionDef _ _ b _ _ _ _ _ _ _ => b
  | .For _ _ b _ _ => b
  | .While _ b _ _ => b
  | .If _ b _ _ => b
  | _ => []
def sElse : Stmt → List Stmt
  | .If _ _ b _ => b
  | _ => []
def sVal : Stmt → Expr
  | .Assign _ v _ => v
  | .Expr v _ => v
  | .Return (some v) _ => v
  | .If t _ _ _ => t
  | .While t _ _ _ => t
  | _ => .Constant .none 0 ⟨0, 0, 0, 0⟩
def eSub : Expr → Nat → Expr
  | .Call _ es _ _, i => nthE es i
  | .List es _, i => nthE es i
  | .Tuple es _ _, i => nthE es i
  | .BoolOp _ es _, i => nthE es i
  | .UnaryOp _ e _, _ => e
  | .Compare e _ es _, i => nthE (e :: es) i
  | e, _ => e
def eLeft : Expr → Expr
  | .Compare e _ _ _ => e
  | .Subscript e _ _ => e
  | e => e
def lamAt (id : Nat) (ix : List Nat) (x : Str) : Expr → LamCode
  | .Lambda ps b sc _ => ⟨id, ix, (x ++ ".<locals>.") ++ "<lambda>", ps, b, sc⟩
  | e => ⟨id, ix, x, { posonlyargs := [], args := [], vararg := none, kwonlyargs := [], kw_defaults := [], kwarg := none, defaults := [] }, e, { kind := .function, names := [], isGenerator := false, isCoroutine := false }⟩
variable [Tb]
/-! ### a def that makes lambdas -/
/-- of the def's function object: its code object has a table that is told -/
def Tells (base : Heap) (mg : Str → Option Value) (x : Str) (cd : Value) : Prop := ∃ c P, LamX.TabB base mg c P ∧ cd = .ref c ∧ (P, (x ++ ".<locals>.") ++ "<lambda>") ∈ Tb.T
abbrev fiM (n : Nat) (sc : Scope) : Fi := ⟨0, cellsFrom (n + 1) sc.names []⟩
section
variable {P : Program} {w : World} {K : Fr} {mg : Str → Option Value} {base : Heap} {x : Str} {params : Arguments} {body : List Stmt} {scope : Scope} {f : Addr} {fd : FuncData}
theorem def_okM (N ps : List Str) (k n Nn : Nat) (m : MS) (hn : ps.length = n) (hN : N.length = Nn) (F : FunD K x x params body scope [] [] f fd) (S : FnScope N ps scope) (ht : Tells base mg x fd.code)
    (hb : ∀ (cdv : Value) (A : Around) (outer : List Env) (s : Shared) (H : Hp) (E : XK), Tells base mg x cdv → Room k (A.deeper (envOfC x scope s.heap.objs.size f cdv)) → ∀ W, Takes (cxOf (L2.CX P w) P w K mg base N x scope f cdv A outer s H E) W →
      PassesOwn (model P w) (A.deeper (envOfC x scope s.heap.objs.size f cdv)) (envOfC x scope s.heap.objs.size f cdv) (cxOf (L2.CX P w) P w K mg base N x scope f cdv A outer s H E).xe →
      PSs (cxOf (L2.CX P w) P w K mg base N x scope f cdv A outer s H E) body (tS K (fiM s.heap.objs.size scope) W m)) :
    FnOk P w K mg base (L2.CX P w) (k + 1) f fd ps (spOf K n (mkF n Nn m)) := by
  subst hn hN
  obtain ⟨oc, od, dV, kV, doc, pm, an, cdv, ct, osl, rfl, lk, hcd, _, _⟩ := F.ex
  refine fn_of lk hcd S (fun vs H Q E h => ?_) fun A outer s H vs Q E hr h => ⟨_, hb cdv A outer s H E ht hr (fun cls d _ H => E cls d H) (takes_of rfl rfl rfl rfl) (passes_of rfl), ?_⟩
  · obtain ⟨_, _, hl, _⟩ := h
    exact hl
  · obtain ⟨G, ds, hl, sx, tb, tg, dv, k⟩ := h
    have hl2 : ds.length = ps.length := by rw [← dv.length]; exact hl
    refine ⟨G, H, G, _, Ext.refl sx, rel_start (N := N) sx dv tb tg, ?_⟩
    unfold mkF at k
    rw [if_pos hl2] at k
    rw [hl2]
    cases z : m (ds.map Slot.dat ++ List.replicate (N.length - ps.length) .un) with
    | nx st => rw [z] at k; exact fun G' H' σ' e r => k _ _ _ e .non
    | rt d => rw [z] at k; exact fun v G' H' e dv => k v G' H' e dv
    | rs c st => rw [z] at k; exact fun G' H' σ' e r => k G' H' e
    | bk st => rw [z] at k; exact k.elim
    | ct st => rw [z] at k; exact k.elim
    | no => rw [z] at k; exact k.elim
/-- what a maker's context says -/
theorem mk_by {A : Around} {outer : List Env} {s : Shared} {H : Hp} {E : XK} {N : List Str} {cdv : Value} {lc : LamCode} (t : Tells base mg x cdv) (q : lc.qual = (x ++ ".<locals>.") ++ "<lambda>") (df : lc.params.defaults = [] ∧ lc.params.kw_defaults = []) (L : LamX.lamSB scope lc.scope = true)
    (hd : defaultsOf lc.params (cxOf (L2.CX P w) P w K mg base N x scope f cdv A outer s H E).env = ([], [])) : Mk (cxOf (L2.CX P w) P w K mg base N x scope f cdv A outer s H E) (fiM s.heap.objs.size scope) lc := by
  obtain ⟨c, P', TB, hc, hm⟩ := t
  exact ⟨rfl, ⟨c, P', TB, hc, by rw [q]; exact hm⟩, q, hd, LamX.lamS_by L⟩
end
/-! ### the end, with tables -/
theorem tellsD {K : Fr} {base : Heap} {mg : Str → Option Value} {x : Str} {params : Arguments} {body : List Stmt} {scope : Scope} {fd : FuncData} (F : FunD K x x params body scope [] [] (He.fAd K (x, none)) fd) (TB : LamX.TabB base mg (He.cT K (x, none)).1 (He.cT K (x, none)).2)
    (hm : ((He.cT K (x, none)).2, (x ++ ".<locals>.") ++ "<lambda>") ∈ Tb.T) : Tells base mg x fd.code := by
  obtain ⟨oc, od, dV, kV, doc, pm, an, cdv, ct, osl, rfl, lk, hcd, _, _⟩ := F.ex
  obtain ⟨c, rfl⟩ := He.codeIn_ref hcd
  have e := He.codeOf_eq (p := (x, none)) lk rfl
  exact ⟨_, _, TB, by show Value.ref c = _; rw [← e]; rfl, hm⟩
end Pg

namespace Pg
open PySem PySem.Spec PyProof.Rows L2
variable [Tb]
/-- a reading that is one of these classes' alone -/
def onlyM (b : Bool) (m : MS) : MS := if b = true then m else fun _ => .no
theorem only_of {n : Nat} {b : Str → Bool} {m : Str → MS} {c : Str} {p : MS → Prop} (h : ∃ d, mkH n (fun c => onlyM (b c) (m c)) c = .ok d) (k : b c = true → p (m c)) : p (onlyM (b c) (m c)) := by
  unfold onlyM
  split
  · rename_i e
    exact k e
  · rename_i e
    obtain ⟨d, hd⟩ := h
    simp [mkH, onlyM, e] at hd
theorem bo_VE : bootBuiltins "ValueError" = some (.type "ValueError") := by rfl
theorem isaVB_ok {K : Fr} {x : Str} {T : String} {b : Bool} (h : isaVB K x T b = true) : PySem.W.kitOne K (.ref (He.ga K x)) (.type T) = some b := of_decide_eq_true h
def lamQ (x : Str) : Str := (x ++ ".<locals>.") ++ "<lambda>"
/-- the tables of a law's makers -/
@[reducible] def tbOf (K : Fr) (tf : List He.Defn) (h : apartB K tf = true) : Tb where
  T := tf.map fun p => ((He.cT K p).2, lamQ p.1)
  u := fun p hp q hq e => by
    obtain ⟨a, ha, rfl⟩ := List.mem_map.mp hp
    obtain ⟨b, hb, rfl⟩ := List.mem_map.mp hq
    have z := List.all_eq_true.mp (List.all_eq_true.mp h a ha) b hb
    rcases (Bool.or_eq_true _ _).mp z with z | z
    · simp only [Bool.not_eq_true', decide_eq_false_iff_not] at z
      exact absurd e z
    · show lamQ a.1 = lamQ b.1
      rw [of_decide_eq_true z]
theorem hotU {k : Nat} {A : Around} (r : L2H.RoomH k A) : A.units + 64 < cLine := by have := r.un; omega
end Pg

namespace Pg
open PySem PySem.Spec PyProof.Rows L2
/-! ### the end of a law whose defs make lambdas -/
theorem law_endX {l : PySem.W.OpenLaw} {w : World} {K : Fr} {k n : Nat} {x : Str} {mg : Str → Option Value} {fa : Addr} {h : Heap} {tf : List He.Defn} {F : List D → R D} (KX : K.In h) (hd : ∀ p ∈ tf, PySem.W.codeHdIn K (He.cT K p).1 (He.cT K p).2 = true) (out : ∀ p ∈ tf, K.lookup (He.cT K p).2 = none)
    (empty : ∀ p ∈ tf, h.get? (He.cT K p).2 = some { cls := .none, data := .fields #[] }) (ap : apartB K tf = true) (hn : n ≤ 63) (hF : ∀ ns : List Int, ns.length ≤ 63 → F [.scr ns] = .ok (.bl true))
    (facts : ∀ t : Tb, (∀ p ∈ tf, ((He.cT K p).2, lamQ p.1) ∈ t.T) → ∃ fd : FuncData, (∀ (s : Shared) (u : Value), BindsTo s fd ⟨[u], []⟩ [(x, u)]) ∧ ∀ base : Heap, (∀ p ∈ tf, LamX.TabB base mg (He.cT K p).1 (He.cT K p).2) → FnOk l.prog w K mg base (L2.CX l.prog w) k fa fd [x] (spOf K 1 F)) :
    LamX.LawAtS l w K (L2.CX l.prog w) k n x mg fa h := by
  letI t : Tb := tbOf K tf ap
  obtain ⟨fd, hb, hf⟩ := facts t fun p hp => List.mem_map.mpr ⟨p, hp, rfl⟩
  refine ⟨fd, tf.map (He.cT K), spOf K 1 F, fun p hp => ?_, fun p hp => ?_, fun p hp => ?_, hb, fun H a ns hl _ ht hS => ?_, fun base _ _ hT => hf base fun p hp => hT _ (List.mem_map.mpr ⟨p, hp, rfl⟩)⟩
  · obtain ⟨q, hq, rfl⟩ := List.mem_map.mp hp
    exact empty q hq
  · obtain ⟨q, hq, rfl⟩ := List.mem_map.mp hp
    exact out q hq
  · obtain ⟨q, hq, rfl⟩ := List.mem_map.mp hp
    exact PySem.W.codeHd_of_K KX (hd q hq)
  · refine law_end hF H a ns (Nat.le_trans hl hn) (fun p hp => ?_) hS
    obtain ⟨q, hq, rfl⟩ := List.mem_map.mp hp
    exact LamX.TabS.nil (ht _ (List.mem_map.mpr ⟨q, hq, rfl⟩))
end Pg

namespace Pg
open PySem PySem.Spec PyProof.Rows L2
variable [Tb]
/-! ### texts -/
/-- t + u of tuples, empty ones too -/
def addTD : D → D → Option D
  | .tup a, .tup b => if a.length + b.length ≤ 100000 then some (.tup (a ++ b)) else none
  | _, _ => none
theorem ok_addT {K : Fr} : Op2 K (rCatA K) addTD := by
  intro G H v w x y z Q s dx dy e k
  cases dx with
  | @tup a xs ds ha hd =>
    cases dy with
    | @tup b ys es hb he =>
      simp only [addTD] at e
      split at e
      · rename_i hl
        cases e
        refine ⟨a, b, xs, ys, rfl, rfl, ex_t s ha, ex_t s hb, szl (by rw [hd.length, he.length]; exact hl), fun z => ?_, fun _ z => ?_, fun _ _ p hp => ?_⟩
        · subst z
          cases hd
          exact k _ _ _ (Ext.refl s) (.tup hb he)
        · subst z
          cases he
          rw [List.append_nil] at k
          exact k _ _ _ (Ext.refl s) (.tup ha hd)
        · have ex := Ext.new (G := G) (H := H) (p := p) (o := .tup (xs ++ ys)) s hp
          exact k _ _ _ ex (.tup (SqT.of upd_same) ((hd.mono ex.g).append (he.mono ex.g)))
      · cases e
    | _ => cases e
  | _ => cases e
/-- x * n -/
def repS (x : Str) (n : Int) : Str := if n < 1 then Str.empty else if (n == 1 || x.length == 0) = true then x else ⟨(List.replicate n.toNat x.cps).foldl (· ++ ·) #[]⟩
def mulSD : D → D → Option D
  | .str a, .int k => if (-1000 ≤ k ∧ k ≤ 1000) ∧ a.length ≤ 100 then some (.str (repS a k)) else none
  | _, _ => none
abbrev rMulS : R2 := fun x y H Q => ∃ i j, x = .str i ∧ y = .int j ∧ ((-1000 ≤ j ∧ j ≤ 1000) ∧ i.length ≤ 100) ∧ Q (.str (repS i j)) H
theorem fold_size (a : Array Nat) : ∀ (n : Nat) (b : Array Nat), ((List.replicate n a).foldl (· ++ ·) b).size = b.size + n * a.size
  | 0, b => by rw [Nat.zero_mul]; rfl
  | n + 1, b => by
    rw [List.replicate_succ, List.foldl_cons, fold_size a n, Array.size_append, Nat.add_mul]
    omega
theorem op_mulS {X : Cx} : OpR X (binaryOp .Mult) rMulS := by
  intro pins s σ H x y v u Q I rx ry h
  obtain ⟨i, j, rfl, rfl, ⟨⟨b1, b2⟩, b3⟩, q⟩ := h
  obtain ⟨t, rfl⟩ := rx
  obtain ⟨t', rfl⟩ := ry
  have big : ∀ n : Int, 0 < n → n ≤ 1000 → ¬ ((i.length : Int) > (2 ^ 63 - 1) / n) := fun n h1 h2 => by
    intro z
    have z : (2 ^ 63 - 1) / n < (i.length : Int) := z
    rw [Int.ediv_lt_iff_lt_mul h1] at z
    have : (i.length : Int) * n ≤ 100 * 1000 := Int.mul_le_mul (by omega) h2 (by omega) (by omega)
    omega
  refine PySem.P.mul_str ?_ (fun h1 _ => big j (by omega) b2) (fun h1 _ => ?_) ?_
  · have h1 : ¬ j < -(2 ^ 63 : Int) := by omega
    have h2 : ¬ j ≥ 2 ^ 63 := by omega
    rw [decide_eq_false h1, decide_eq_false h2]
    rfl
  · have : i.length * j.toNat ≤ 100 * 1000 := Nat.mul_le_mul b3 (by omega)
    have := szl (show i.length * j.toNat ≤ 100000 by omega)
    show decide (_ > _) = false
    rw [decide_eq_false_iff_not]
    omega
  · have fin : ∀ (z : Str) (tk : Nat) (tt : Tok), repS i j = z → EP X pins σ Q (.str z tt) { s with toks := tk } := fun z tk tt e => ⟨.str z, H, I.tok _, ⟨_, rfl⟩, by rw [← e]; exact q⟩
    unfold repS at fin
    by_cases c1 : j < 1
    · rw [if_pos c1] at fin ⊢
      exact ⟨by decide, fin _ _ _ rfl⟩
    · rw [if_neg c1] at fin ⊢
      by_cases c2 : (j == 1 || i.length == 0) = true
      · rw [if_pos c2] at fin ⊢
        exact fin _ _ _ rfl
      · rw [if_neg c2] at fin ⊢
        refine ⟨szl ?_, fin _ _ _ rfl⟩
        show ((List.replicate j.toNat i.cps).foldl (· ++ ·) #[]).size ≤ 100000
        rw [fold_size]
        have : j.toNat * i.length ≤ 1000 * 100 := Nat.mul_le_mul (by omega) b3
        have e : i.cps.size = i.length := rfl
        rw [e]
        show 0 + _ ≤ _
        omega
theorem ok_mulS {K : Fr} : Op2 K rMulS mulSD := by
  intro G H v w x y z Q s dx dy e k
  cases dx with
  | str i =>
    cases dy with
    | int j =>
      simp only [mulSD] at e
      split at e
      · rename_i hl
        cases e
        exact ⟨i, j, rfl, rfl, hl, k _ _ _ (Ext.refl s) (.str _)⟩
      · cases e
    | _ => cases e
  | _ => cases e
/-- a sign in a text -/
def inS (neg : Bool) : D → D → Option D
  | .str a, .str z => match a.cps.toList with
    | [c] => some (.bl (if neg then !decide (c ∈ z.cps.toList) else decide (c ∈ z.cps.toList)))
    | _ => none
  | _, _ => none
abbrev rInS : R2 := fun x y H Q => ∃ (c : Nat) (z : Str), x = .str ⟨#[c]⟩ ∧ y = .str z ∧ Q (.bl (decide (c ∈ z.cps.toList))) H
theorem ok_inS {K : Fr} : Op2 K rInS (inS false) := by
  intro G H v w x y z Q s dx dy e k
  cases dx with
  | str a =>
    cases dy with
    | str b =>
      simp only [inS] at e
      split at e
      · rename_i c hc
        cases e
        obtain ⟨⟨l⟩⟩ := a
        have hc : l = [c] := hc
        subst hc
        exact ⟨c, b, rfl, rfl, k _ _ _ (Ext.refl s) (.bl _)⟩
      · cases e
    | _ => cases e
  | _ => cases e
def strB : List D → Option D
  | [.int i] => if i.natAbs.log2 < 1920 then some (.str (toString i)) else none
  | _ => none
abbrev rStr : List V → Hp → VK → Prop := fun xs H Q => ∃ i, xs = [.int i] ∧ i.natAbs.log2 < 1920 ∧ Q (.str (toString i)) H
theorem ok_str {K : Fr} : OpN K rStr strB := by
  intro G H vs xs z Q s d e k
  match xs, e with
  | [.int i], e =>
    simp only [strB] at e
    split at e
    · rename_i h
      cases e
      obtain ⟨v, rfl, dv⟩ := one_inv d
      exact ⟨i, by rw [dv.int_inv], h, k _ _ _ (Ext.refl s) (.str _)⟩
    · cases e
def intB : List D → Option D
  | [.str a] => if a.length ≤ 640 then (PySem.intText? a).map D.int else none
  | _ => none
abbrev rInt : List V → Hp → VK → Prop := fun xs H Q => ∃ a n, xs = [.str a] ∧ PySem.intText? a = some n ∧ a.length ≤ 640 ∧ Q (.int n) H
theorem ok_intT {K : Fr} : OpN K rInt intB := by
  intro G H vs xs z Q s d e k
  match xs, e with
  | [.str a], e =>
    simp only [intB] at e
    split at e
    · rename_i h
      obtain ⟨n, hn, rfl⟩ := Option.map_eq_some_iff.mp e
      obtain ⟨v, rfl, dv⟩ := one_inv d
      exact ⟨a, n, by rw [dv.str_inv], hn, h, k _ _ _ (Ext.refl s) (.int _)⟩
    · cases e
def tupB : List D → Option D
  | [.lst xs] => some (.tup xs)
  | _ => none
abbrev rTup (K : Fr) : List V → Hp → VK → Prop := fun xs H Q => ∃ p ys, xs = [.ref p] ∧ ((SqL K H p ys ∧ ∀ l, H l = none → Q (.ref l) (upd H l (.tup ys))) ∨ (SqT K H p ys ∧ Q (.ref p) H))
theorem ok_tupT {K : Fr} : OpN K (rTup K) tupB := by
  intro G H vs xs z Q s d e k
  match xs, e with
  | [.lst ys], e =>
    cases e
    obtain ⟨v, rfl, dv⟩ := one_inv d
    cases dv with
    | @lst a us _ ha hd =>
      refine ⟨a, us, rfl, .inl ⟨SqL.of (s _ _ ha), fun p hp => ?_⟩⟩
      have ex := Ext.new (G := G) (H := H) (p := p) (o := .tup us) s hp
      exact k _ _ _ ex (.tup (SqT.of upd_same) (hd.mono ex.g))
def lenSB : List D → Option D
  | [.str z] => if z.length ≤ 100000 then some (.int z.length) else none
  | _ => none
abbrev rLenS : List V → Hp → VK → Prop := fun xs H Q => ∃ z : Str, xs = [.str z] ∧ z.length ≤ sizeLine ∧ Q (.int z.length) H
theorem ok_lenS {K : Fr} : OpN K rLenS lenSB := by
  intro G H vs xs z Q s d e k
  match xs, e with
  | [.str a], e =>
    simp only [lenSB] at e
    split at e
    · rename_i h
      cases e
      obtain ⟨v, rfl, dv⟩ := one_inv d
      exact ⟨a, by rw [dv.str_inv], szl h, k _ _ _ (Ext.refl s) (.int _)⟩
    · cases e
/-! walks of a text -/
def signsD : D → Option (List D)
  | .str x => some (x.cps.toList.map fun c => .str ⟨#[c]⟩)
  | _ => none
theorem wd_str {K : Fr} {G0 : Hp} {x : Str} : WalkD K (Its x) G0 (x.cps.toList.map fun c => .str ⟨#[c]⟩) where
  goes := fun i H hi e => by
    rw [List.length_map, Array.length_toList] at hi
    exact hi
  stops := fun H e => by
    rw [List.length_map, Array.length_toList]
    exact Nat.le_refl _
  yields := fun i G H v H' hi e0 e y => by
    obtain ⟨rfl, c, hc, rfl⟩ := y
    refine ⟨G, .str ⟨#[c]⟩, ?_, Ext.refl e, .str _⟩
    rw [List.getElem?_map, Array.getElem?_toList, hc]
    rfl
section
variable {X : Cx} {ea : Fi} {W : WX} {tg e o : Expr} {f g : ME} {apos pos : Pos}
theorem gi_str (h : PE X e (tE X.K ea W f)) : PI X tg e (tI X.K ea W (iSeq signsD f)) := (pi_str h).weak fun σ H R hq => by
  obtain ⟨H0, G, st, rl, a⟩ := hq
  refine ⟨H0, G, st, rl, aft_mono (aft_bind a) fun x G1 H1 e1 a1 v dv => ?_⟩
  obtain ⟨z, ez, k⟩ := aft_of a1
  cases dv with
  | str x =>
    cases ez
    exact ⟨x, rfl, k G1 H1 (Ext.refl e1.s) _ wd_str⟩
  | _ => cases ez
/-! ### split, join -/
def splitD : D → D → Option D
  | .str a, .str b => if (b.length == 0) = false ∧ a.length + 2 ≤ 100000 then some (.lst ((Txt.split a b).map D.str)) else none
  | _, _ => none
def strsOf : List D → Option (List Str)
  | [] => some []
  | .str a :: r => (strsOf r).map (a :: ·)
  | _ => none
theorem strsOf_inv : ∀ {xs : List D} {ys : List Str}, strsOf xs = some ys → xs = ys.map D.str
  | [], _, h => by cases h; rfl
  | .str a :: r, ys, h => by
    obtain ⟨q, h1, rfl⟩ := Option.map_eq_some_iff.mp (show (strsOf r).map _ = some ys from h)
    rw [strsOf_inv h1]
    rfl
theorem dens_strs_inv {K : Fr} {G : Hp} : ∀ {ys : List Str} {vs : List V}, Dens K G vs (ys.map D.str) → vs = ys.map V.str
  | [], _, .nil => rfl
  | y :: ys, _, .cons h r => by rw [h.str_inv, dens_strs_inv r]; rfl
def joinD : D → D → Option D
  | .str a, .lst xs => (strsOf xs).bind fun ys => if (ys.map (·.length)).sum + ys.length * a.length ≤ 100000 then some (.str (Txt.join a ys)) else none
  | _, _ => none
def eSplit (f g : ME) : ME := fun st => (f st).bind fun x => match x with
  | .str a => (g st).bind fun y => R.of (splitD (.str a) y)
  | _ => .no
def eJoin (f g : ME) : ME := fun st => (f st).bind fun x => match x with
  | .str a => (g st).bind fun y => R.of (joinD (.str a) y)
  | _ => .no
theorem g_split (ho : PE X o (tE X.K ea W f)) (he : PE X e (tE X.K ea W g)) (hs : starEach [e] X.env = [(false, eval e X.env)] := by rfl) (hbase : attributeBase o "split" X.env (eval o X.env) = eval o X.env := by rfl) (hline : (apos.endLine == pos.line) = true := by rfl) :
    PE X (.Call (.Attribute o "split" apos) [e] [] pos) (tE X.K ea W (eSplit f g)) := (pe_split ho he hs hbase hline).weak fun σ H Q hq => by
  obtain ⟨H0, G, st, rl, k⟩ := hq
  refine ⟨H0, G, st, rl, aft_mono (aft_bind k) fun x G1 H1 e1 a1 v dv => ?_⟩
  cases dv with
  | str a =>
    refine ⟨⟨a, rfl⟩, H0, G1, st, rl.ext e1, aft_mono (aft_bind a1) fun y G2 H2 e2 a2 w dw => ?_⟩
    obtain ⟨z, ez, k2⟩ := aft_of a2
    cases dw with
    | str b =>
      simp only [splitD] at ez
      split at ez
      · rename_i h
        cases ez
        refine ⟨a, b, rfl, rfl, h.1, szl h.2, fun p hp => ?_⟩
        have ex := Ext.new (G := G2) (H := H2) (p := p) (o := .lst ((Txt.split a b).map V.str)) e2.s hp
        exact k2 _ _ ex _ (.lst upd_same (dens_strs _))
      · cases ez
    | _ => cases ez
  | _ => exact a1.elim
theorem g_join (ho : PE X o (tE X.K ea W f)) (he : PE X e (tE X.K ea W g)) (hs : starEach [e] X.env = [(false, eval e X.env)] := by rfl) (hbase : attributeBase o "join" X.env (eval o X.env) = eval o X.env := by rfl) (hline : (apos.endLine == pos.line) = true := by rfl) :
    PE X (.Call (.Attribute o "join" apos) [e] [] pos) (tE X.K ea W (eJoin f g)) := (pe_join ho he hs hbase hline).weak fun σ H Q hq => by
  obtain ⟨H0, G, st, rl, k⟩ := hq
  refine ⟨H0, G, st, rl, aft_mono (aft_bind k) fun x G1 H1 e1 a1 v dv => ?_⟩
  cases dv with
  | str a =>
    refine ⟨⟨a, rfl⟩, H0, G1, st, rl.ext e1, aft_mono (aft_bind a1) fun y G2 H2 e2 a2 w dw => ?_⟩
    obtain ⟨z, ez, k2⟩ := aft_of a2
    cases dw with
    | @lst p vs xs hp hd =>
      obtain ⟨ys, h1, h2⟩ := Option.bind_eq_some_iff.mp (show (strsOf xs).bind _ = some z from ez)
      split at h2
      · rename_i h
        cases h2
        rw [strsOf_inv h1] at hd
        rw [dens_strs_inv hd] at hp
        have e24 : (100000 : Nat) ≤ 16777216 := by decide
        exact ⟨a, p, ys, rfl, rfl, .inl (SqL.of (e2.s _ _ hp)), Nat.le_trans h e24, k2 _ _ (Ext.refl e2.s) _ (.str _)⟩
      · cases h2
    | _ => cases ez
  | _ => exact a1.elim
end
end Pg

namespace Pg
open PySem PySem.Spec PyProof.Rows L2
variable [Tb]
/-! ### a def that gives back the lambdas that it made -/
/-- a body that ends in a return; what is known behind it may speak of the frame's cells -/
structure PR (X : Cx) (ss : List Stmt) (t : L2.St → Hp → VK → Prop) : Prop where
  run : ∀ (s : Shared) (σ : L2.St) (H : Hp) (Q : VK), Inv X [] σ H s → t σ H Q → wpAny (model X.prog X.w) X.A (execs ss X.env) (fun f s' => match f with
    | .ret u => CE X.outer X.prog X.w X.H_0 X.s_0 Q u s'
    | _ => False) X.xe s
def aftR (K : Fr) (G0 H0 : Hp) (Q : VK) (r : RS) : Prop := match r with
  | .rt d => ∀ v G H, Ext G0 H0 G H → Den K G v d → Q v H
  | _ => False
def tM (K : Fr) (fi : Fi) (m : MS) : L2.St → Hp → VK → Prop := fun σ H Q => ∃ G0 H0 G st, Ext G0 H0 G H ∧ Rel K fi H0 G H σ st ∧ aftR K G0 H0 Q (m st)
def mSeqR (a b : MS) : MS := fun st => match a st with
  | .nx st => b st
  | _ => .no
open Classical in
noncomputable def mRetL (i : Nat) (ks0 : List LamCode) : MS := fun st => match st[i]? with
  | some (.lams ks) => if ks ≠ ks0 then .no else (match thksOf st ks with
    | some ts => .rt (.lst ts)
    | none => .no)
  | _ => .no
section
variable {X : Cx} {fi : Fi} {W : WX} {st : Stmt} {rest : List Stmt} {a b : MS} {pos : Pos}
theorem gr_cons (h1 : PS X st (tS X.K fi W a)) (h2 : PR X rest (tM X.K fi b)) : PR X (st :: rest) (tM X.K fi (mSeqR a b)) := by
  refine ⟨fun s σ H Q I h => ?_⟩
  obtain ⟨G0, H0, G, st0, x, rl, k⟩ := h
  unfold mSeqR at k
  cases z : a st0 with
  | nx st1 =>
    rw [z] at k
    simp only at k
    refine wpAny_execs_cons (thn (h1.run [] s σ H { nx := fun σ' H' => tM X.K fi b σ' H' Q, rt := fun _ _ => False } I ⟨G0, H0, G, st0, x, rl, by rw [z]; exact fun G' H' σ' x' rl' => ⟨G0, H0, G', st1, x', rl', k⟩⟩) fun f s1 q => ?_)
    cases f with
    | next =>
      obtain ⟨σ', H', I', q⟩ := q
      exact h2.run s1 σ' H' Q I' q
    | ret v =>
      obtain ⟨_, _, _, _, _, q⟩ := q
      exact q.elim
    | brk =>
      obtain ⟨_, _, _, q⟩ := q
      exact False.elim q
    | cont =>
      obtain ⟨_, _, _, q⟩ := q
      exact False.elim q
  | _ => rw [z] at k; exact k.elim
/-- the cells of a frame that ends are told of -/
theorem un_plus {H0 H : Hp} {h0 h : Heap} {fs : List Addr} {Cs : CMap} (un : Un fs [] H0 H h0 h) (hn : ∀ c o, Cs c = some o → H c = none) (hb : ∀ c o, Cs c = some o → h0.objs.size ≤ c) : Un fs [] H0 (plusC H Cs) h0 h where
  keep := un.keep
  slot := un.slot
  free := fun b o e n hx => by
    cases q : Cs b with
    | some o' => exact absurd (Heap.lt_size e) (Nat.not_lt.mpr (hb b o' q))
    | none =>
      rw [plus_out q]
      exact un.free b o e n hx
  there := un.there
  tups := fun b xs e => by
    have z := un.tups b xs e
    rw [plus_out (some_out hn z)]
    exact z
  frzs := fun b o u e => by
    have z := un.frzs b o u e
    rw [plus_out (some_out hn z)]
    exact z
  tbls := fun b ps e => by
    obtain ⟨more, z⟩ := un.tbls b ps e
    exact ⟨more, by rw [plus_out (some_out hn z)]; exact z⟩
theorem gr_retL {i : Nat} {y : Str} {p : Pos} {ks0 : List LamCode} (hfn : ∀ y, X.fn y = true) (hex : X.ex = []) (hfs : X.fs = frs X.outer) (hfc : X.env.cells = fi.cells) (hk : ∀ lc ∈ ks0, CapV X lc) (hN : X.N[i]? = some y) (hv : Vis X.env.scope y)
    (hd : (y == ("__debug__" : Str)) = false := by decide) (hcd : (y == ("__classdict__" : Str)) = false := by decide) : PR X [.Return (some (.Name y p)) pos] (tM X.K fi (mRetL i ks0)) := by
  refine ⟨fun s σ H Q I h => ?_⟩
  obtain ⟨G0, H0, G, st, x, rl, k⟩ := h
  unfold mRetL at k
  cases q : st[i]? with
  | none => rw [q] at k; exact k.elim
  | some sl =>
    rw [q] at k
    cases sl with
    | lams ks =>
      simp only at k
      split at k
      · exact k.elim
      rename_i hks
      have hks : ks = ks0 := Classical.not_not.mp hks
      subst hks
      cases ht : thksOf st ks with
      | none => rw [ht] at k; exact k.elim
      | some ts =>
        rw [ht] at k
        simp only [aftR] at k
        obtain ⟨l, o, a1, b1, c1, d1, e1⟩ := rl.own i _ q rfl
        cases o with
        | lst vs =>
          have c1 : Raws fi G vs ks := c1
          refine wpAny_execs_cons (wpAny_Return_some (thn ((pe_var hN hv hd hcd).run [] s σ H (fun u H1 => u = .ref l ∧ H1 = H) I ⟨.ref l, a1, rfl, rfl⟩) fun v s1 ⟨x1, H1, I1, r1, ev, eH⟩ => ?_))
          subst eH ev
          obtain ⟨Cs, n1, n2, n3, n4, n5, n6⟩ := expose I1 rl hfc ks hk
          have lo : Cs l = none := some_out n1 b1
          have lG : plusC G Cs l = none := by rw [plus_out lo]; exact d1
          have big : ∀ c o, Cs c = some o → X.s_0.heap.objs.size ≤ c := fun c o z => by
            obtain ⟨_, ⟨y, hy⟩, _⟩ := n2 c o z
            exact I1.ok.cab y c (hfn y) hy
          have ub := I1.base
          rw [hfs, hex] at ub
          refine ⟨.ref l, plusC H1 Cs, I1.os, I1.bare, un_plus ub n1 big, hok_plus I1.hok n1 (fun c o z => (n2 c o z).1), r1, k _ (upd (plusC G Cs) l (.lst vs)) _ ⟨fun a o e => ?_, ⟨fun a o e nt => ?_, fun a o e nt => ?_, fun a ps e => ?_, fun p hp t => ?_⟩, fun b u e => ?_, fun a o e n => ?_⟩ (.lst upd_same ((n6 vs ks ts (fun _ h => h) c1 ht).mono (Ex.new lG)))⟩
          · have z := n3 a o (x.g a o e)
            exact Ex.new lG a o z
          · have z := x.h.k a o e nt
            rw [plus_out (some_out n1 z)]
            exact z
          · have z := x.h.k2 a o e nt
            rw [plus_out (some_out n1 z)]
            exact z
          · obtain ⟨ps', z⟩ := x.h.q a ps e
            exact ⟨ps', by rw [plus_out (some_out n1 z)]; exact z⟩
          · exact tab_plus (x.h.t p hp t) n1
          · by_cases z : b = l
            · subst z
              rw [upd_same] at e
              rw [plus_out lo, b1]
              exact e
            · rw [upd_ne z] at e
              exact n4 _ _ e
          · by_cases z : a = l
            · subst z
              exact .inl e1
            · rw [upd_ne z] at e
              cases w : Cs a with
              | some o' => exact .inl (x.h.back (n1 a o' w))
              | none =>
                rw [plus_out w] at e
                exact x.n a o e n
        | _ => exact False.elim c1
    | _ => exact k.elim
end
section
variable {P : Program} {w : World} {K : Fr} {mg : Str → Option Value} {base : Heap} {x : Str} {params : Arguments} {body : List Stmt} {scope : Scope} {f : Addr} {fd : FuncData}
def rtOnly (m : MS) : MS := fun st => match m st with
  | .rt d => .rt d
  | _ => .no
theorem def_okR (N ps : List Str) (k n Nn : Nat) (m : MS) (hn : ps.length = n) (hN : N.length = Nn) (F : FunD K x x params body scope [] [] f fd) (S : FnScope N ps scope) (ht : Tells base mg x fd.code)
    (hb : ∀ (cdv : Value) (A : Around) (outer : List Env) (s : Shared) (H : Hp) (E : XK), Tells base mg x cdv → Room k (A.deeper (envOfC x scope s.heap.objs.size f cdv)) → ∀ W, Takes (cxOf (L2.CX P w) P w K mg base N x scope f cdv A outer s H E) W →
      PassesOwn (model P w) (A.deeper (envOfC x scope s.heap.objs.size f cdv)) (envOfC x scope s.heap.objs.size f cdv) (cxOf (L2.CX P w) P w K mg base N x scope f cdv A outer s H E).xe →
      PR (cxOf (L2.CX P w) P w K mg base N x scope f cdv A outer s H E) body (tM K (fiM s.heap.objs.size scope) m)) :
    FnOk P w K mg base (L2.CX P w) (k + 1) f fd ps (spOf K n (mkF n Nn (rtOnly m))) := by
  subst hn hN
  obtain ⟨oc, od, dV, kV, doc, pm, an, cdv, ct, osl, rfl, lk, hcd, _, _⟩ := F.ex
  refine ⟨fun vs H Q E h => ?_, fun A outer s H args us vs Q E hr e0 hbnd r hsp => ?_⟩
  · obtain ⟨_, _, hl, _⟩ := h
    exact hl
  obtain ⟨G, ds, hl, sx, tb, tg, dv, hk⟩ := hsp
  have KX : K.In s.heap := e0.mod.kin.keeps fun b o e => (e0.bs b o e).1
  have lim : s.heap.NoLimit := e0.mod.nolimit.keeps fun b o e => (e0.bs b o e).1
  have kinds : ∀ y ∈ ps.zip us, scope.names.lookup y.1 = some .local ∨ (scope.names.lookup y.1 = some .cell ∧ ((cellsFrom (s.heap.objs.size + 1) scope.names []).lookup y.1).isSome = true) := fun y hy =>
    (S.par y.1 (List.of_mem_zip (a := y.1) (b := y.2) hy).1).imp id fun q => ⟨q, PySem.W.cellsFrom_some _ _ _ (.inl q)⟩
  refine codeAny_call_function hr.depth (KX _ _ lk) rfl S.co S.gen rfl (PySem.W.codeRec_of KX hcd) (hbnd _ _ _ _ ?_)
  refine wpAny_newFunctionEnv_cells S.kind kinds fun env he s1 xc => ?_
  subst he
  refine ⟨lim.keeps xc.toInCall.keep, codeAny_func ?_⟩
  have I := inv_start (CX := L2.CX P w) (E := E) S hr.hd e0 hl r xc
  have hbb := hb cdv A outer s H E ht (hr.deeper _) (fun cls d _ H => E cls d H) (takes_of rfl rfl rfl rfl) (passes_of rfl)
  refine wpAny_mono (hbb.run s1 _ H Q I ?_) (fun fl s' hs => ?_) fun e s' hs => hs
  · refine ⟨G, H, G, _, Ext.refl sx, rel_start (N := N) sx dv tb tg, ?_⟩
    have hl2 : ds.length = ps.length := by rw [← dv.length]; exact hl
    unfold mkF rtOnly at hk
    rw [if_pos hl2] at hk
    rw [hl2]
    cases z : m (ds.map Slot.dat ++ List.replicate (N.length - ps.length) .un) with
    | rt d => simp only [z] at hk; exact fun v G' H' e dv => hk v G' H' e dv
    | _ => simp only [z] at hk
  · cases fl with
    | ret u => exact hs
    | next => exact False.elim hs
    | brk => exact False.elim hs
    | cont => exact False.elim hs
end
end Pg

namespace Pg
open PySem PySem.Spec PyProof.Rows L2
variable [Tb]
/-! ### instances that nobody changes -/
def lookD : List Str → List D → Str → Option D
  | n :: ns, d :: ds, x => if (x == n) = true then some d else lookD ns ds x
  | _, _, _ => none
theorem look_den {K : Fr} {G : Hp} {x : Str} : ∀ {ns : List Str} {vs : List V} {ds : List D} {d : D}, ns.length = vs.length → Dens K G vs ds → lookD ns ds x = some d → ∃ v, (ns.zip vs).lookup x = some v ∧ Den K G v d
  | [], _, _, _, _, _, h => by simp [lookD] at h
  | n :: ns, [], _, _, hl, _, _ => by simp at hl
  | n :: ns, v :: vs, _, d, hl, .cons a r, h => by
    unfold lookD at h
    rw [List.zip_cons_cons, List.lookup_cons]
    cases q : x == n with
    | true =>
      rw [q, if_pos rfl] at h
      cases h
      exact ⟨v, rfl, a⟩
    | false =>
      rw [q, if_neg Bool.false_ne_true] at h
      exact look_den (by simpa using hl) r h
theorem look_no {x : Str} : ∀ {ns : List Str} {vs : List V}, x ∉ ns → (ns.zip vs).lookup x = none
  | [], _, _ => rfl
  | n :: ns, [], _ => rfl
  | n :: ns, v :: vs, h => by
    rw [List.zip_cons_cons, List.lookup_cons]
    have : (x == n) = false := by
      rw [beq_eq_false_iff_ne]
      exact fun e => h (by rw [e]; exact List.mem_cons_self)
    rw [this]
    exact look_no fun q => h (List.mem_cons_of_mem _ q)
def eAttr (C nm : Str) (f : ME) : ME := fun st => (f st).bind fun x => match x with
  | .obj C' ns ds => if C' = C then R.of (lookD ns ds nm) else .no
  | _ => .no
/-- a method as a caller takes it; n: with self -/
structure MetK (P : Program) (w : World) (K : Fr) (mg : Str → Option Value) (base : Heap) (C m : Str) (k n : Nat) (F : List D → R D) : Prop where
  c : Cls K (He.ga K C)
  mt : Meth K (He.ga K C) m (He.fAd K (C, some m))
  ex : ∃ (fd : FuncData) (ps : List Str), FnOk P w K mg base (L2.CX P w) k (He.fAd K (C, some m)) fd ps (spOf K n F) ∧ Binds K fd ps []
def eMeth (C m : Str) (n : Nat) (F : List D → R D) (f : ME) (a : MA) : ME := fun st => (f st).bind fun x => match x with
  | .obj C' ns ds => if C' = C ∧ m ∉ ns then (a st).bind fun xs => if xs.length + 1 = n then F (.obj C' ns ds :: xs) else .no else .no
  | _ => .no
section
variable {X : Cx} {fi : Fi} {W : WX} {C m nm : Str} {k n : Nat} {F : List D → R D} {o e : Expr} {es : List Expr} {f : ME} {a : MA} {pos apos : Pos}
theorem g_attr (c : Cls X.K (He.ga X.K C)) (na : NoAttr X.K (He.ga X.K C) nm) (he : PE X e (tE X.K fi W f)) (hb : attributeBase e nm X.env (eval e X.env) = eval e X.env := by rfl) : PE X (.Attribute e nm pos) (tE X.K fi W (eAttr C nm f)) := (pe_fld he hb).weak fun σ H Q hq => by
  obtain ⟨H0, G, st, rl, k⟩ := hq
  refine ⟨H0, G, st, rl, aft_mono (aft_bind k) fun x G1 H1 e1 a1 v dv => ?_⟩
  cases dv with
  | @obj p dx C' ns vs ds hp hl hd =>
    simp only at a1
    split at a1
    · rename_i hC
      subst hC
      obtain ⟨z, ez, k2⟩ := aft_of a1
      obtain ⟨u, hu, du⟩ := look_den hl hd ez
      exact ⟨p, _, dx, _, u, rfl, e1.s _ _ hp, c, na, hu, k2 _ _ (Ext.refl e1.s) _ du⟩
    · exact a1.elim
  | _ => exact a1.elim
theorem g_meth {pl : Sem Bool} (df : MetK X.prog X.w X.K X.mg X.base C m k n F) (hr : Room k X.A) (tk : Takes X W) (ho : PE X o (tE X.K fi W f)) (ha : PA X (e :: es) (tA X.K fi W a))
    (hst : starEach (e :: es) X.env = (false, eval e X.env) :: starEach es X.env := by rfl) (hpl : (backTo pos (starEach es X.env)).any (·.1) = false := by rfl)
    (ht : eval (.Call (.Attribute o m apos) (e :: es) [] pos) X.env = (do let ov ← eval o X.env; standAt apos.atName; let (f, first) ← holding [ov] (getMethod ov m pl); callWith pos f first (backTo pos (starEach (e :: es) X.env)) (backToKw pos (keywordEach [] X.env))) := by rfl) :
    PE X (.Call (.Attribute o m apos) (e :: es) [] pos) (tE X.K fi W (eMeth C m n F f a)) := by
  obtain ⟨fd, ps, Fn, hb⟩ := df.ex
  refine ⟨fun pins s σ H Q I hq => ?_⟩
  obtain ⟨H0, G, st, rl, q⟩ := hq
  refine PySem.W.methodCall_KW (pl := pl) (thn (ho.run pins s σ H (fun x H1 => ∃ G1 p dx ns vs ds, Ext G H G1 H1 ∧ x = .ref p ∧ G1 p = some (.ins (He.ga X.K C) dx (ns.zip vs)) ∧ m ∉ ns ∧ Den X.K G1 (.ref p) (.obj C ns ds) ∧ aft X.K W σ G1 H1 ((a st).bind fun xs => if xs.length + 1 = n then F (.obj C ns ds :: xs) else .no) fun d G' H' => ∀ v, Den X.K G' v d → Q v H') I
    ⟨H0, G, st, rl, aft_mono (aft_bind q) fun x G1 H1 e1 a1 v dv => ?_⟩) fun u s1 ⟨x, H1, I1, rx, G1, p, dx, ns, vs, ds, e1, ex, hp, hm, dp, a1⟩ => ?_) ht
  · cases dv with
    | @obj p dx C' ns vs ds hp hl hd =>
      simp only at a1
      split at a1
      · rename_i hC
        obtain ⟨hC, hm⟩ := hC
        subst hC
        exact ⟨G1, p, dx, ns, vs, ds, e1, rfl, hp, hm, .obj hp hl hd, a1⟩
      · exact a1.elim
    | _ => exact a1.elim
  · subst ex
    cases rx
    refine getmeth_ok I1 (e1.s _ _ hp) df.c df.mt (look_no hm) ?_
    refine PySem.W.callWith_K (first := [.ref p]) (h₀ := X.base) I1.ok.mod.kin df.mt.kp (thn (ha.run pos pins s1 σ H1 (fun us H2 => spOf X.K n F (.ref p :: us) H2 Q (WE W σ)) I1
      ⟨H0, G1, st, rl.ext e1, aft_mono (aft_bind a1) fun xs G2 H2 e2 a2 us dus => ?_⟩) fun us s2 ⟨ws, H2, I2, r, q2⟩ => ⟨I2.kIn, ?_⟩) hst hpl
    · split at a2
      · rename_i hl
        refine ⟨G2, .obj C ns ds :: xs, by rw [List.length_cons, dus.length]; exact hl, e2.s, ((rl.ext e1).ext e2).tb, ((rl.ext e1).ext e2).tg, .cons (dp.mono e2.g) dus, ?_⟩
        cases z : F (.obj C ns ds :: xs) with
        | no => rw [z] at a2; exact a2
        | rs c => rw [z] at a2; exact a2
        | ok d => rw [z] at a2; exact fun v G' H' e dv => a2 G' H' e v dv
      · exact a2.elim
    · exact run_fnS (us := .ref p :: us) (vs := .ref p :: ws) (E := WE W) Fn hr hb (passAt tk σ) I2 (.cons rfl r) q2
theorem g_meth0 {pl : Sem Bool} (df : MetK X.prog X.w X.K X.mg X.base C m k n F) (hr : Room k X.A) (tk : Takes X W) (ho : PE X o (tE X.K fi W f))
    (ht : eval (.Call (.Attribute o m apos) [] [] pos) X.env = (do let ov ← eval o X.env; standAt apos.atName; let (f, first) ← holding [ov] (getMethod ov m pl); callWith pos f first (backTo pos (starEach [] X.env)) (backToKw pos (keywordEach [] X.env))) := by rfl) :
    PE X (.Call (.Attribute o m apos) [] [] pos) (tE X.K fi W (eMeth C m n F f aNil)) := by
  obtain ⟨fd, ps, Fn, hb⟩ := df.ex
  refine ⟨fun pins s σ H Q I hq => ?_⟩
  obtain ⟨H0, G, st, rl, q⟩ := hq
  refine PySem.W.methodCall_KW (pl := pl) (thn (ho.run pins s σ H (fun x H1 => ∃ G1 p dx ns vs ds, Ext G H G1 H1 ∧ x = .ref p ∧ G1 p = some (.ins (He.ga X.K C) dx (ns.zip vs)) ∧ m ∉ ns ∧ Den X.K G1 (.ref p) (.obj C ns ds) ∧ aft X.K W σ G1 H1 (if ([] : List D).length + 1 = n then F [.obj C ns ds] else .no) fun d G' H' => ∀ v, Den X.K G' v d → Q v H') I
    ⟨H0, G, st, rl, aft_mono (aft_bind q) fun x G1 H1 e1 a1 v dv => ?_⟩) fun u s1 ⟨x, H1, I1, rx, G1, p, dx, ns, vs, ds, e1, ex, hp, hm, dp, a1⟩ => ?_) ht
  · cases dv with
    | @obj p dx C' ns vs ds hp hl hd =>
      simp only at a1
      split at a1
      · rename_i hC
        obtain ⟨hC, hm⟩ := hC
        subst hC
        exact ⟨G1, p, dx, ns, vs, ds, e1, rfl, hp, hm, .obj hp hl hd, a1⟩
      · exact a1.elim
    | _ => exact a1.elim
  · subst ex
    cases rx
    refine getmeth_ok I1 (e1.s _ _ hp) df.c df.mt (look_no hm) ?_
    refine PySem.W.callWith_K0 (first := [.ref p]) I1.kIn df.mt.kp (run_fnS (us := [.ref p]) (vs := [.ref p]) (E := WE W) Fn hr hb (passAt tk σ) I1 (.cons rfl .nil) ?_)
    split at a1
    · rename_i hl
      refine ⟨G1, [.obj C ns ds], hl, e1.s, (rl.ext e1).tb, (rl.ext e1).tg, .cons dp .nil, ?_⟩
      cases z : F [.obj C ns ds] with
      | no => rw [z] at a1; exact a1
      | rs c => rw [z] at a1; exact a1
      | ok d => rw [z] at a1; exact fun v G' H' e dv => a1 G' H' e v dv
    · exact a1.elim
end
end Pg

namespace Pg
open PySem PySem.Spec PyProof.Rows L2
variable [Tb]
/-! ### what the proof never comes to -/
def mNo : MS := fun _ => .no
theorem gs_no {X : Cx} {fi : Fi} {W : WX} {st : Stmt} : PS X st (tS X.K fi W mNo) := ⟨fun _ _ _ _ _ _ h => by
  obtain ⟨_, _, _, _, _, _, h⟩ := h
  exact h.elim⟩
/-! ### a new instance -/
def hide (H : Hp) (x : Addr) : Hp := fun a => if a = x then none else H a
theorem hide_same {H : Hp} {x : Addr} : hide H x x = none := if_pos rfl
theorem hide_ne {H : Hp} {x a : Addr} (h : a ≠ x) : hide H x a = H a := if_neg h
def fl1 (t : Addr) : List (Str × V) := [("state", .ref t)]
def fl2 (t l1 : Addr) : List (Str × V) := [("state", .ref t), ("earlier", .ref l1)]
theorem put1 (t : Addr) : putF "state" (.ref t) [] = fl1 t := rfl
theorem put2 (t l1 : Addr) : putF "earlier" (.ref l1) (fl1 t) = fl2 t l1 := by
  have h : ("state" : Str) ≠ "earlier" := by decide +kernel
  unfold fl1
  rw [putF, if_neg h]
  rfl
theorem put3 (t l1 l2 : Addr) : putF "later" (.ref l2) (fl2 t l1) = fl3 t l1 l2 := by
  have h : ("state" : Str) ≠ "later" := by decide +kernel
  have h2 : ("earlier" : Str) ≠ "later" := by decide +kernel
  unfold fl2
  rw [putF, if_neg h, putF, if_neg h2]
  rfl
/-- an __init__ of one argument v: state = (v, 0), two empty lists; F: what is asked of v first -/
def spNew (K : Fr) (C : Str) (F : List D → R D) : Sp := fun vs H Q E => ∃ x dx v G d, vs = [.ref x, v] ∧ H x = some (.ins (He.ga K C) dx []) ∧ Ex G H ∧ G x = none ∧ LamX.Tabs Tb.T H ∧ (∀ p ∈ Tb.T, G p.1 = none) ∧ Den K G v d ∧ match F [d] with
  | .ok _ => ∀ G' H' t v' l1 l2, Ext G (hide H x) G' H' → G' t = some (.tup [v', .int 0]) → Den K G' v' d → H l1 = none → H l2 = none → l1 ≠ l2 → G' l1 = none → G' l2 = none → G' x = none → H' l1 = some (.lst []) → H' l2 = some (.lst []) →
      H' x = some (.ins (He.ga K C) dx (fl3 t l1 l2)) → Q .non H'
  | .rs c => ∀ G' H', Ext G (hide H x) G' H' → E (.ref (He.ga K c)) none H'
  | .no => False
def tNew (K : Fr) : TS := tSeq (sFld K (tVar 0) (tTup (tCons (tVar 1) (tCons (tC (.int 0)) tNil))) "state") (tSeq (sFld K (tVar 0) (tLst tNil) "earlier") (sFld K (tVar 0) (tLst tNil) "later"))
theorem xh_hide {H H' : Hp} {x : Addr} (h : XH H H') : XH (hide H x) H' := (XH.of fun a o e => by
  by_cases z : a = x
  · subst z
    rw [hide_same] at e
    cases e
  · rw [hide_ne z] at e
    exact e).trans h
theorem fre_hide {H : Hp} {x a : Addr} (h : Fre H a) : Fre (hide H x) a := by
  by_cases z : a = x
  · subst z
    exact .inl hide_same
  · rcases h with h | ⟨q, h⟩
    · exact .inl (by rw [hide_ne z]; exact h)
    · exact .inr ⟨q, by rw [hide_ne z]; exact h⟩
section
variable {P : Program} {w : World} {K : Fr} {mg : Str → Option Value} {base : Heap} {qual : Str} {params : Arguments} {body : List Stmt} {scope : Scope} {f : Addr} {fd : FuncData}
theorem init_ok {C : Str} {k : Nat} {F : List D → R D} (c : Cls K (He.ga K C)) (n1 : NoAttr K (He.ga K C) "state") (n2 : NoAttr K (He.ga K C) "earlier") (n3 : NoAttr K (He.ga K C) "later")
    (Fd : FunD K "__init__" qual params body scope [] [] f fd) (S : FnScope ["self", "view"] ["self", "view"] scope)
    (hb : ∀ (cdv : Value) (A : Around) (outer : List Env) (s : Shared) (H : Hp) (E : XK), Room k (A.deeper (envOfC qual scope s.heap.objs.size f cdv)) → ∀ W, Takes (cxOf (L2.CX P w) P w K mg base ["self", "view"] qual scope f cdv A outer s H E) W →
      PSs (cxOf (L2.CX P w) P w K mg base ["self", "view"] qual scope f cdv A outer s H E) body (tSeq (tS K fi0 W (mDrop (eCall 1 F (aCons (eVar 1) aNil)))) (tNew K))) :
    FnOk P w K mg base (L2.CX P w) (k + 1) f fd ["self", "view"] (spNew K C F) := by
  refine Fd.ok S (fun vs H Q E h => ?_) fun cdv A outer s H vs Q E hr h => ⟨_, hb cdv A outer s H E hr (fun cls d _ H => E cls d H) (takes_of rfl rfl rfl rfl), ?_⟩
  · obtain ⟨x, dx, v, G, d, rfl, _⟩ := h
    rfl
  · obtain ⟨x, dx, v, G, d, rfl, hx, sx, gx, tb, tg, dv, k⟩ := h
    refine ⟨G, H, G, _, Ext.refl sx, rel_start (N := ["self", "view"]) sx (.cons (.adr x) (.cons dv .nil)) tb tg, ?_⟩
    show aftS _ _ _ _ _ _ ((F [d]).thn [.dat (.adr x), .dat d] fun _ => .nx [.dat (.adr x), .dat d])
    cases z : F [d] with
    | no => rw [z] at k; exact k
    | rs c0 =>
      rw [z] at k
      exact fun G1 H1 σ1 e1 _ => k G1 H1 ⟨e1.g, xh_hide e1.h, e1.s, fun a o e n => fre_hide (e1.n a o e n)⟩
    | ok d0 =>
      rw [z] at k
      intro G1 H1 σ1 e1 r1
      obtain ⟨v0, s0, d0⟩ := r1.dat 0 (.adr x) rfl
      obtain ⟨v1, s1, d1⟩ := r1.dat 1 d rfl
      cases d0
      have x1 : H1 x = some (.ins (He.ga K C) dx []) := e1.h.k _ _ hx (fun _ z => by cases z)
      have g1x : G1 x = none := by
        cases q : G1 x with
        | none => rfl
        | some o => exact ((e1.n x o q gx).lst hx trivial).elim
      refine ⟨v1, s1, szl (by simp), fun t nt => ?_⟩
      have xt : x ≠ t := ne_of_none x1 nt
      have x2 : upd H1 t (.tup [v1, .int 0]) x = some (.ins (He.ga K C) dx []) := by rw [upd_ne xt]; exact x1
      refine ⟨_, s0, x, _, dx, _, rfl, x2, c, n1, by simp, ?_⟩
      obtain ⟨H3, e3⟩ : ∃ H3 : Hp, H3 = upd (upd H1 t (.tup [v1, .int 0])) x (.ins (He.ga K C) dx (fl1 t)) := ⟨_, rfl⟩
      rw [put1, ← e3]
      refine ⟨szl (by simp), fun l1 nl1 => ?_⟩
      have x3 : H3 x = some (.ins (He.ga K C) dx (fl1 t)) := by rw [e3, upd_same]
      have t3 : H3 t = some (.tup [v1, .int 0]) := by rw [e3, upd_ne (Ne.symm xt), upd_same]
      have xl1 : x ≠ l1 := ne_of_none x3 nl1
      have tl1 : t ≠ l1 := ne_of_none t3 nl1
      have x4 : upd H3 l1 (.lst []) x = some (.ins (He.ga K C) dx (fl1 t)) := by rw [upd_ne xl1]; exact x3
      refine ⟨_, s0, x, _, dx, _, rfl, x4, c, n2, by simp [fl1], ?_⟩
      obtain ⟨H5, e5⟩ : ∃ H5 : Hp, H5 = upd (upd H3 l1 (.lst [])) x (.ins (He.ga K C) dx (fl2 t l1)) := ⟨_, rfl⟩
      rw [put2, ← e5]
      refine ⟨szl (by simp), fun l2 nl2 => ?_⟩
      have x5 : H5 x = some (.ins (He.ga K C) dx (fl2 t l1)) := by rw [e5, upd_same]
      have l5 : H5 l1 = some (.lst []) := by rw [e5, upd_ne (Ne.symm xl1), upd_same]
      have t5 : H5 t = some (.tup [v1, .int 0]) := by rw [e5, upd_ne (Ne.symm xt), upd_ne tl1]; exact t3
      have xl2 : x ≠ l2 := ne_of_none x5 nl2
      have tl2 : t ≠ l2 := ne_of_none t5 nl2
      have ll : l1 ≠ l2 := ne_of_none l5 nl2
      have x6 : upd H5 l2 (.lst []) x = some (.ins (He.ga K C) dx (fl2 t l1)) := by rw [upd_ne xl2]; exact x5
      refine ⟨_, s0, x, _, dx, _, rfl, x6, c, n3, by simp [fl2], ?_⟩
      obtain ⟨H7, e7⟩ : ∃ H7 : Hp, H7 = upd (upd H5 l2 (.lst [])) x (.ins (He.ga K C) dx (fl3 t l1 l2)) := ⟨_, rfl⟩
      rw [put3, ← e7]
      -- what lies where, behind it all
      have h3n : ∀ a, H3 a = none → H1 a = none ∧ a ≠ t ∧ a ≠ x := fun a z => by
        have ax : a ≠ x := fun y => by rw [y, x3] at z; cases z
        have at_ : a ≠ t := fun y => by rw [y, t3] at z; cases z
        rw [e3, upd_ne ax, upd_ne at_] at z
        exact ⟨z, at_, ax⟩
      have h5n : ∀ a, H5 a = none → H3 a = none ∧ a ≠ l1 := fun a z => by
        have ax : a ≠ x := fun y => by rw [y, x5] at z; cases z
        have al : a ≠ l1 := fun y => by rw [y, l5] at z; cases z
        rw [e5, upd_ne ax, upd_ne al] at z
        exact ⟨z, al⟩
      have n1l : H1 l1 = none := (h3n _ nl1).1
      have n2l : H1 l2 = none := (h3n _ (h5n _ nl2).1).1
      have at7 : ∀ a, a ≠ x → a ≠ t → a ≠ l1 → a ≠ l2 → H7 a = H1 a := fun a y1 y2 y3 y4 => by
        rw [e7, upd_ne y1, upd_ne y4, e5, upd_ne y1, upd_ne y3, e3, upd_ne y1, upd_ne y2]
      have t7 : H7 t = some (.tup [v1, .int 0]) := by rw [e7, upd_ne (Ne.symm xt), upd_ne tl2]; exact t5
      have gt : G1 t = none := e1.s.back nt
      have xh : XH (hide H x) H7 := by
        rw [e7, e5, e3]
        have a1 : XH (hide H x) H1 := xh_hide e1.h
        have a2 : XH (hide H x) (upd H1 t (.tup [v1, .int 0])) := a1.trans (XH.of (Ex.new nt))
        have a3 := a2.mutd (o := .ins (He.ga K C) dx (fl1 t)) hide_same (by rw [x2]; trivial)
        have a4 := a3.trans (XH.of (Ex.new (o := .lst []) (by rw [← e3]; exact nl1)))
        have a5 := a4.mutd (o := .ins (He.ga K C) dx (fl2 t l1)) hide_same (by rw [← e3, x4]; trivial)
        have a6 := a5.trans (XH.of (Ex.new (o := .lst []) (by rw [← e3, ← e5]; exact nl2)))
        exact a6.mutd hide_same (by rw [← e3, ← e5, x6]; trivial)
      refine k (upd G1 t (.tup [v1, .int 0])) H7 t v1 l1 l2 ⟨e1.g.trans (Ex.new gt), xh, fun a o e => ?_, fun a o e n => ?_⟩ upd_same (d1.mono (Ex.new gt)) (e1.h.back n1l) (e1.h.back n2l) ll ?_ ?_ ?_ ?_ ?_ (by rw [e7, upd_same])
      · by_cases y : a = t
        · subst y
          rw [upd_same] at e
          cases e
          exact t7
        · rw [upd_ne y] at e
          have ea := e1.s a o e
          rw [at7 a (fun y => by rw [y, g1x] at e; cases e) y (ne_of_none ea n1l) (ne_of_none ea n2l)]
          exact ea
      · by_cases y : a = t
        · subst y
          exact fre_hide (.inl (e1.h.back nt))
        · rw [upd_ne y] at e
          exact fre_hide (e1.n a o e n)
      · rw [upd_ne (Ne.symm tl1)]
        exact e1.s.back n1l
      · rw [upd_ne (Ne.symm tl2)]
        exact e1.s.back n2l
      · rw [upd_ne xt]
        exact g1x
      · rw [e7, upd_ne (Ne.symm xl1), upd_ne ll]
        exact l5
      · rw [e7, upd_ne (Ne.symm xl2), upd_same]
end
end Pg

namespace Pg
open PySem PySem.Spec PyProof.Rows L2
variable [Tb]
/-! ### C(e) -/
/-- a class whose __init__ keeps to spNew -/
structure NewK (P : Program) (w : World) (K : Fr) (mg : Str → Option Value) (base : Heap) (C : Str) (k : Nat) (F : List D → R D) : Prop where
  mc : mg C = some (.ref (He.ga K C))
  ex : ∃ (f : Addr) (fd : FuncData), L2.Mk K (He.ga K C) f ∧ FnOk P w K mg base (L2.CX P w) k f fd ["self", "view"] (spNew K C F) ∧ Binds K fd ["self", "view"] []
def eMake (C : Str) (F : List D → R D) (a : MA) : ME := fun st => (a st).bind fun xs => match xs with
  | [d] => (F [d]).bind fun _ => .ok (.obj C stN [.tup [d, .int 0], .lst [], .lst []])
  | _ => .no
section
variable {X : Cx} {fi : Fi} {W : WX} {C x : Str} {k : Nat} {F : List D → R D} {e : Expr} {es : List Expr} {a : MA} {pos p : Pos}
theorem make_at {pins : List (Addr × Obj)} {σ : L2.St} {H : Hp} {s : Shared} {Q : VK} {Ca f : Addr} {fd : FuncData} {ps : List Str} {sp : Sp} {u : Value} {v : V} {E : XK} (M : L2.Mk X.K Ca f) (Fn : FnOk X.prog X.w X.K X.mg X.base (L2.CX X.prog X.w) k f fd ps sp) (hr : Room (k + 1) X.A) (hb : Binds X.K fd ps [])
    (hx : PassesAt (L2.CX X.prog X.w) X σ E) (I : Inv X pins σ H s) (r : RelV v u) (h : ∀ x dx, H x = none → H dx = none → dx ≠ x → sp [.ref x, v] (upd (upd H dx (.own x)) x (.ins Ca dx [])) (fun w H2 => w = .non ∧ Q (.ref x) H2) E) :
    wpAny (model X.prog X.w) X.A (call (.ref Ca) [u]) (EP X pins σ Q) X.xe s := by
  have hq := h (s.heap.objs.size + 1) s.heap.objs.size (I.hok.fresh (Nat.le_succ _)) (I.hok.fresh (Nat.le_refl _)) (Nat.ne_of_lt (Nat.lt_succ_self _))
  have I2 := Inv.made (C := Ca) I
  have r2 : Vals [V.ref (s.heap.objs.size + 1), v] [Value.ref (s.heap.objs.size + 1), u] := .cons rfl (.cons r .nil)
  have hl : ([Value.ref (s.heap.objs.size + 1), u] ++ ([] : List Value)).length = ps.length := by
    rw [← Fn.len _ _ _ _ hq]
    rfl
  have hbb := hb _ [Value.ref (s.heap.objs.size + 1), u] I2.kIn hl
  rw [List.append_nil] at hbb
  refine wpAny_call (make_map (f := f) I.kIn M.makes M.init (beq_iff_eq.mp M.fn) (codeAny_mono
    (Fn.run _ X.stack _ _ ⟨[Value.ref (s.heap.objs.size + 1), u], []⟩ [Value.ref (s.heap.objs.size + 1), u] _ _ E (hr.make Ca [u] []) (I2.env0.make Ca [u] []) hbb r2 hq) fun r s' hq' => ?_))
  cases r with
  | error e => exact hx pins _ _ e s' I2 hq'
  | ok fl =>
    cases fl with
    | ret z =>
      obtain ⟨y, H', I3, rv, ey, q3⟩ := I2.after hq'
      subst ey
      exact ⟨rv, ⟨V.ref (s.heap.objs.size + 1), H', I3, rfl, q3⟩⟩
    | next => exact False.elim hq'
    | brk => exact False.elim hq'
    | cont => exact False.elim hq'
theorem g_make (df : NewK X.prog X.w X.K X.mg X.base C k F) (hr : Room (k + 1) X.A) (tk : Takes X W) (ha : PA X [e] (tA X.K fi W a)) (hg : Gl X C := by rfl) (hdb : (C == ("__debug__" : Str)) = false := by decide)
    (he : starEach [e] X.env = (false, eval e X.env) :: starEach [] X.env := by rfl) (hpl : (backTo pos (starEach [] X.env)).any (·.1) = false := by rfl) : PE X (.Call (.Name C p) [e] [] pos) (tE X.K fi W (eMake C F a)) := by
  obtain ⟨f, fd, M, Fn, hb⟩ := df.ex
  refine ⟨fun pins s σ H Q I hq => ?_⟩
  obtain ⟨H0, G, st, rl, q⟩ := hq
  refine wpAny_Call_Name_kw (ld_glob I hg df.mc ?_ hdb)
  refine PySem.W.callWith_K (h₀ := X.base) I.ok.mod.kin M.kp (thn (ha.run pos pins s σ H (fun vs H1 => ∃ v G1 d, vs = [v] ∧ Ext G H G1 H1 ∧ Den X.K G1 v d ∧ aft X.K W σ G1 H1 ((F [d]).bind fun _ => R.ok (D.obj C stN [.tup [d, .int 0], .lst [], .lst []])) fun d G' H' => ∀ v, Den X.K G' v d → Q v H') I
    ⟨H0, G, st, rl, aft_mono (aft_bind q) fun xs G1 H1 e1 a1 vs dvs => ?_⟩) fun us s1 ⟨vs, H1, I1, r, v, G1, d, ev, e1, dv, a1⟩ => ⟨I1.kIn, ?_⟩) he hpl
  · match xs, a1 with
    | [d], a1 =>
      obtain ⟨v, rfl, dv⟩ := one_inv dvs
      exact ⟨v, G1, d, rfl, e1, dv, a1⟩
  · subst ev
    cases r with
    | @cons _ u _ _ ru rr =>
      cases rr
      refine make_at (E := WE W σ) M Fn hr hb (passAt tk σ) I1 ru fun x dx nx nd ne => ?_
      have rl1 := rl.ext e1
      have xd : x ≠ dx := fun z => ne z.symm
      have ex : Ex G1 (upd (upd H1 dx (.own x)) x (.ins (He.ga X.K C) dx [])) := fun b o z => by
        have y := e1.s b o z
        rw [upd_ne (ne_of_none y nx), upd_ne (ne_of_none y nd)]
        exact y
      have h2 : XH H1 (hide (upd (upd H1 dx (.own x)) x (.ins (He.ga X.K C) dx [])) x) := XH.of fun b o z => by
        rw [hide_ne (ne_of_none z nx), upd_ne (ne_of_none z nx), upd_ne (ne_of_none z nd)]
        exact z
      have gx : G1 x = none := e1.s.back nx
      refine ⟨x, dx, v, G1, d, rfl, upd_same, ex, gx, fun p hp => ?_, rl1.tg, dv, ?_⟩
      · exact tabS_upd (tabS_upd (rl1.tb p hp) (by rw [nd]; trivial)) (by rw [upd_ne xd, nx]; trivial)
      · have fre : ∀ b, Fre (hide (upd (upd H1 dx (.own x)) x (.ins (He.ga X.K C) dx [])) x) b → Fre H1 b := fun b f => by
          by_cases z : b = x
          · subst z
            exact .inl nx
          · rcases f with f | ⟨qq, f⟩
            · rw [hide_ne z, upd_ne z] at f
              by_cases y : b = dx
              · subst y
                exact .inl nd
              · rw [upd_ne y] at f
                exact .inl f
            · rw [hide_ne z, upd_ne z] at f
              by_cases y : b = dx
              · subst y
                exact .inl nd
              · rw [upd_ne y] at f
                exact .inr ⟨qq, f⟩
        cases z : F [d] with
        | no => rw [z] at a1; exact a1
        | rs c =>
          rw [z] at a1
          exact fun G' H' e2 => a1 G' H' ⟨e2.g, h2.trans e2.h, e2.s, fun b o y n => fre b (e2.n b o y n)⟩
        | ok d0 =>
          rw [z] at a1
          intro G' H' t v' l1 l2 e2 gt dv' nl1 nl2 ll g1 g2 g3 hl1 hl2 hx
          refine ⟨rfl, ?_⟩
          obtain ⟨G3, eG⟩ : ∃ G3 : Hp, G3 = upd (upd (upd G' l1 (.lst [])) l2 (.lst [])) x (.ins (He.ga X.K C) dx (fl3 t l1 l2)) := ⟨_, rfl⟩
          have xl1 : x ≠ l1 := fun y => by rw [← y, upd_same] at nl1; cases nl1
          have xl2 : x ≠ l2 := fun y => by rw [← y, upd_same] at nl2; cases nl2
          have n1 : H1 l1 = none := by
            rw [upd_ne (Ne.symm xl1)] at nl1
            by_cases y : l1 = dx
            · rw [y, upd_same] at nl1; cases nl1
            · rw [upd_ne y] at nl1; exact nl1
          have n2 : H1 l2 = none := by
            rw [upd_ne (Ne.symm xl2)] at nl2
            by_cases y : l2 = dx
            · rw [y, upd_same] at nl2; cases nl2
            · rw [upd_ne y] at nl2; exact nl2
          have ex3 : Ex G' G3 := fun b o y => by
            rw [eG, upd_ne (ne_of_none y g3), upd_ne (ne_of_none y g2), upd_ne (ne_of_none y g1)]
            exact y
          have x3 : G3 x = some (.ins (He.ga X.K C) dx (fl3 t l1 l2)) := by rw [eG, upd_same]
          have l13 : G3 l1 = some (.lst []) := by rw [eG, upd_ne (Ne.symm xl1), upd_ne ll, upd_same]
          have l23 : G3 l2 = some (.lst []) := by rw [eG, upd_ne (Ne.symm xl2), upd_same]
          have cas : ∀ b o, G3 b = some o → (b = x ∧ o = .ins (He.ga X.K C) dx (fl3 t l1 l2)) ∨ (b = l1 ∧ o = .lst []) ∨ (b = l2 ∧ o = .lst []) ∨ G' b = some o := fun b o y => by
            rw [eG] at y
            by_cases y1 : b = x
            · subst y1
              rw [upd_same] at y
              cases y
              exact .inl ⟨rfl, rfl⟩
            · rw [upd_ne y1] at y
              by_cases y2 : b = l2
              · subst y2
                rw [upd_same] at y
                cases y
                exact .inr (.inr (.inl ⟨rfl, rfl⟩))
              · rw [upd_ne y2] at y
                by_cases y3 : b = l1
                · subst y3
                  rw [upd_same] at y
                  cases y
                  exact .inr (.inl ⟨rfl, rfl⟩)
                · rw [upd_ne y3] at y
                  exact .inr (.inr (.inr y))
          refine a1 G3 H' ⟨e2.g.trans ex3, h2.trans e2.h, fun b o y => ?_, fun b o y n => ?_⟩ (.ref x) (.obj (vs := [.ref t, .ref l1, .ref l2]) (dx := dx) x3 rfl (.cons ?_ (.cons (.lst l13 .nil) (.cons (.lst l23 .nil) .nil))))
          · rcases cas b o y with ⟨rfl, rfl⟩ | ⟨rfl, rfl⟩ | ⟨rfl, rfl⟩ | y
            · exact hx
            · exact hl1
            · exact hl2
            · exact e2.s b o y
          · rcases cas b o y with ⟨rfl, rfl⟩ | ⟨rfl, rfl⟩ | ⟨rfl, rfl⟩ | y
            · exact .inl nx
            · exact .inl n1
            · exact .inl n2
            · exact fre b (e2.n b o y n)
          · exact .tup (SqT.of (ex3 _ _ gt)) (.cons (dv'.mono ex3) (.cons (.int 0) .nil))
end
end Pg

namespace Pg
open PySem PySem.Spec PyProof.Rows L2
variable [Tb]
/-! ### len(o) by an own __len__ -/
def eLenO (C : Str) (F : List D → R D) (f : ME) : ME := fun st => (f st).bind fun x => match x with
  | .obj C' ns ds => if C' = C then (match F [.obj C' ns ds] with
    | .ok (.int n) => if 0 ≤ n ∧ n ≤ 100000 then .ok (.int n) else .no
    | _ => .no) else .no
  | _ => .no
section
variable {X : Cx} {fi : Fi} {W : WX} {C : Str} {k : Nat} {F : List D → R D} {e : Expr} {f : ME} {pos p : Pos}
theorem call_lenO (df : MetK X.prog X.w X.K X.mg X.base C "__len__" k 1 F) (hr : Room (k + 1) X.A) {pins : List (Addr × Obj)} {σ : L2.St} {H : Hp} {s : Shared} {Q : VK} (I : Inv X pins σ H s) {G : Hp} {y : Addr} {ns : List Str} {ds : List D} {n : Int} (hs : Ex G H) (tb : LamX.Tabs Tb.T H) (tg : ∀ p ∈ Tb.T, G p.1 = none)
    (hd : Den X.K G (.ref y) (.obj C ns ds)) (hF : F [.obj C ns ds] = .ok (.int n)) (h0 : 0 ≤ n) (h1 : n ≤ 100000) (post : ∀ G' H', Ext G H G' H' → Q (.int n) H') : wpAny (model X.prog X.w) X.A (call (.builtin "len") [.ref y]) (EP X pins σ Q) X.xe s := by
  obtain ⟨fd, ps, Fn, hb⟩ := df.ex
  have hd' := hd
  cases hd with
  | @obj _ dx _ _ vs _ hp hl hdd =>
    obtain ⟨mA, J, _⟩ := ins_get I.hok (hs _ _ hp)
    obtain ⟨od, J, _⟩ := J.look
    have hsp : spOf X.K 1 F [.ref y] H (fun v H' => v = .int n ∧ ∃ G', Ext G H G' H') (fun _ _ _ => False) := ⟨G, _, rfl, hs, tb, tg, .cons hd' .nil, by rw [hF]; exact fun v G' H' e dv => ⟨dv.int_inv, G', e⟩⟩
    have e0 : Env0 X.prog X.w X.K X.mg X.base X.A.in1 X.stack s H := by
      have e := I.env0
      exact ⟨e.frames, e.mod, e.bs, e.bsz, e.funs, e.frf, e.hok, e.bare⟩
    have hln := Fn.len _ _ _ _ hsp
    have r2 : Vals [V.ref y] [Value.ref y] := .cons rfl .nil
    refine Calls.call_function_entry kind_len plain_len entry_len (args_len1 _) ?_
    unfold Builtin.«len»
    refine wpAny_bind (m := oneArg "len" _) (wpAny_pure ?_)
    refine wpAny_bind (m := callSpecial? (.ref y) (PySem.Str.ofString "__len__")) (PySem.W.special_fn I.kIn J df.mt.at_ (beq_iff_eq.mp df.mt.fn) (wpAny_call (codeAny_mono
      (Fn.run X.A.in1 X.stack s H ⟨[.ref y], []⟩ [.ref y] [.ref y] _ _ hr.in1 e0 (by
        have := hb s [.ref y] I.kIn (by simpa using hln)
        simpa using this) r2 hsp) fun r s' hq => ?_)))
    cases r with
    | error e => exact (noCXf hq).elim
    | ok fl =>
      cases fl with
      | ret z =>
        obtain ⟨v, H', I', rz, ez, G', eG⟩ := I.after hq
        subst ez
        obtain ⟨t, rfl⟩ := rz
        refine wpAny_bind (wpAny_holding (wpAny_pure ?_))
        refine wpAny_bind (wpAny_letGo ?_)
        show wpAny _ _ (if (n : Int) < 0 then _ else _) _ _ _
        rw [if_neg (by omega)]
        show wpAny _ _ (if (n : Int) ≥ 2 ^ 63 then _ else _) _ _ _
        rw [if_neg (by omega)]
        exact wpAny_bind (wpAny_mkInt (wpAny_pure ⟨_, rfl, .int n, H', I'.tok _, ⟨_, rfl⟩, post G' H' eG⟩))
      | next => exact False.elim hq
      | brk => exact False.elim hq
      | cont => exact False.elim hq
def rLenO (X : Cx) (C : Str) (F : List D → R D) : List V → Hp → VK → Prop := fun xs H Q => ∃ (G : Hp) (y : Addr) (ns : List Str) (ds : List D) (n : Int), xs = [.ref y] ∧ Ex G H ∧ LamX.Tabs Tb.T H ∧ (∀ p ∈ Tb.T, G p.1 = none) ∧ Den X.K G (.ref y) (.obj C ns ds) ∧ F [.obj C ns ds] = .ok (.int n) ∧ (0 ≤ n ∧ n ≤ 100000) ∧ ∀ G' H', Ext G H G' H' → Q (.int n) H'
theorem cr_lenO (df : MetK X.prog X.w X.K X.mg X.base C "__len__" k 1 F) (hr : Room (k + 1) X.A) : CallR X (.builtin "len") (rLenO X C F) := by
  intro pins s σ H xs us Q I r h
  obtain ⟨G, y, ns, ds, n, rfl, hs, tb, tg, hd, hF, ⟨h0, h1⟩, post⟩ := h
  cases r with
  | cons a b =>
    cases b
    cases a
    exact call_lenO df hr I hs tb tg hd hF h0 h1 post
theorem g_lenO (df : MetK X.prog X.w X.K X.mg X.base C "__len__" k 1 F) (hr : Room (k + 1) X.A) (hm : X.mg "len" = none) (he : PE X e (tE X.K fi W f)) (hg : Gl X "len" := by rfl)
    (h1 : starEach [e] X.env = (false, eval e X.env) :: starEach [] X.env := by rfl) (hpl : (backTo pos (starEach [] X.env)).any (·.1) = false := by rfl) : PE X (.Call (.Name "len" p) [e] [] pos) (tE X.K fi W (eLenO C F f)) :=
  (pe_callB (cr_lenO df hr) hg hm bo_len (pa_cons he pa_nil h1) (by decide) (by decide) h1 hpl).weak fun σ H Q hq => by
    obtain ⟨H0, G, st, rl, k⟩ := hq
    refine ⟨H0, G, st, rl, aft_mono (aft_bind k) fun x G1 H1 e1 a1 v dv => ?_⟩
    cases dv with
    | @obj y dx C' ns vs ds hp hl hd =>
      simp only at a1
      split at a1
      · rename_i hC
        subst hC
        split at a1
        · rename_i n hF
          split at a1
          · rename_i hn
            exact ⟨G1, y, ns, ds, n, rfl, e1.s, (rl.ext e1).tb, (rl.ext e1).tg, .obj hp hl hd, hF, hn, fun G' H' e => a1 G' H' e _ (.int n)⟩
          · exact a1.elim
        · exact a1.elim
      · exact a1.elim
    | _ => exact a1.elim
end
/-- x(), x a def without parameters -/
theorem g_call0 {X : Cx} {fi : Fi} {W : WX} {x : Str} {k : Nat} {F : List D → R D} {p pos : Pos} (df : Def X x k 0 F) (hr : Room k X.A) (tk : Takes X W) (hg : Gl X x := by rfl) (hdb : (x == ("__debug__" : Str)) = false := by decide) :
    PE X (.Call (.Name x p) [] [] pos) (tE X.K fi W (eCall 0 F aNil)) := by
  obtain ⟨fd, ps, Fn, hb⟩ := df.ex
  refine ⟨fun pins s σ H Q I hq => ?_⟩
  obtain ⟨H0, G, st, rl, a⟩ := hq
  refine wpAny_Call_Name_kw (ld_glob I hg df.m ?_ hdb)
  refine PySem.W.callWith_K0 I.kIn df.kp (run_fnS (us := []) (vs := []) (E := WE W) Fn hr hb (passAt tk σ) I .nil ⟨G, [], rfl, rl.s, rl.tb, rl.tg, .nil, ?_⟩)
  have a : aft X.K W σ G H (F []) fun d G' H' => ∀ v, Den X.K G' v d → Q v H' := a
  cases q : F [] with
  | no => rw [q] at a; exact a
  | rs c => rw [q] at a; exact a
  | ok d => rw [q] at a; exact fun v G' H' e dv => a G' H' e v dv
end Pg

namespace Pg
open PySem PySem.Spec PyProof.Rows L2
variable [Tb]
/-! ### objects of one's own: lent to a method, changed -/
def hid (H : Hp) (F : List Addr) : Hp := fun a => if a ∈ F then none else H a
theorem hid_in {H : Hp} {F : List Addr} {a : Addr} (h : a ∈ F) : hid H F a = none := if_pos h
theorem hid_out {H : Hp} {F : List Addr} {a : Addr} (h : a ∉ F) : hid H F a = H a := if_neg h
/-- o stands at x -/
structure ObAt (K : Fr) (G H : Hp) (x : Addr) (o : Ob) (dx t l1 l2 : Addr) : Prop where
  hx : H x = some (.ins (He.ga K o.C) dx (fl3 t l1 l2))
  st : Den K G (.ref t) o.st
  e1 : ∃ vs, H l1 = some (.lst vs) ∧ Dens K G vs o.ea
  e2 : ∃ vs, H l2 = some (.lst vs) ∧ Dens K G vs o.la
  ne : l1 ≠ l2
  gx : G x = none
  g1 : G l1 = none
  g2 : G l2 = none
section
variable {K : Fr} {fi : Fi} {H0 G H G' H' : Hp} {σ : L2.St} {st : Store} {i : Nat} {o : Ob}
theorem ObAt.x1 {x dx t l1 l2 : Addr} (a : ObAt K G H x o dx t l1 l2) : x ≠ l1 := fun z => by
  obtain ⟨vs, e, _⟩ := a.e1
  rw [← z, a.hx] at e
  cases e
theorem ObAt.x2 {x dx t l1 l2 : Addr} (a : ObAt K G H x o dx t l1 l2) : x ≠ l2 := fun z => by
  obtain ⟨vs, e, _⟩ := a.e2
  rw [← z, a.hx] at e
  cases e
/-- pure steps leave it -/
theorem ObAt.ext {x dx t l1 l2 : Addr} (a : ObAt K G H x o dx t l1 l2) (e : Ext G H G' H') : ObAt K G' H' x o dx t l1 l2 := by
  obtain ⟨v1, p1, q1⟩ := a.e1
  obtain ⟨v2, p2, q2⟩ := a.e2
  have no : ∀ {b u}, H b = some u → Loose (some u) → G b = none → G' b = none := fun {b u} h l g => by
    cases z : G' b with
    | none => rfl
    | some w => exact ((e.n b w z g).lst h l).elim
  exact ⟨e.h.k _ _ a.hx (fun _ z => by cases z), a.st.mono e.g, ⟨v1, e.h.k _ _ p1 (fun _ z => by cases z), q1.mono e.g⟩, ⟨v2, e.h.k _ _ p2 (fun _ z => by cases z), q2.mono e.g⟩, a.ne, no a.hx trivial a.gx, no p1 trivial a.g1, no p2 trivial a.g2⟩
/-- the object of a slot -/
theorem Rel.obAt (r : Rel K fi H0 G H σ st) (q : st[i]? = some (.ob o)) : ∃ x dx t l1 l2, σ[i]? = some (some (.ref x)) ∧ ObAt K G H x o dx t l1 l2 ∧ H0 x = none ∧ H0 l1 = none ∧ H0 l2 = none := by
  obtain ⟨x, ho, a, b, c, d, d0⟩ := r.own i _ q rfl
  obtain ⟨C, dx, t, l1, l2, vs1, vs2, z, z1, z2, y1, y2, ne⟩ := r.ob.o4 i o x q a
  rw [b] at z
  cases z
  obtain ⟨eC, t', m1, m2, ef, dt⟩ := c
  subst eC
  have ef : fl3 t l1 l2 = fl3 t' m1 m2 := ef
  unfold fl3 at ef
  simp only [List.cons.injEq, Prod.mk.injEq, V.ref.injEq, true_and, and_true] at ef
  obtain ⟨rfl, rfl, rfl⟩ := ef
  obtain ⟨_, h1, h2⟩ := r.ob.o1 i l1 ⟨o, x, _, dx, t, l1, l2, q, a, b, .inl rfl⟩
  obtain ⟨_, h3, h4⟩ := r.ob.o1 i l2 ⟨o, x, _, dx, t, l1, l2, q, a, b, .inr rfl⟩
  exact ⟨x, dx, t, l1, l2, a, ⟨b, dt, ⟨vs1, z1, y1⟩, ⟨vs2, z2, y2⟩, ne, d, h1, h3⟩, d0, h2, h4⟩
theorem fl3_inj {t l1 l2 t' m1 m2 : Addr} (h : fl3 t l1 l2 = fl3 t' m1 m2) : t = t' ∧ l1 = m1 ∧ l2 = m2 := by
  unfold fl3 at h
  simp only [List.cons.injEq, Prod.mk.injEq, V.ref.injEq, true_and, and_true] at h
  exact h
/-- not told of a frame's own things -/
def Slot.plain : Slot → Bool
  | .ob o => !o.me
  | .dat _ => true
  | .un => true
  | .own _ => true
  | _ => false
theorem Hld.plain {K : Fr} {fi fi' : Fi} {G : Hp} {s : Slot} {o : HO} (p : s.plain = true) (h : Hld K fi G s o) : Hld K fi' G s o := by
  cases s <;> cases o <;> first
    | exact h
    | cases p
theorem Slot.plain_held {s : Slot} (p : s.plain = true) : s.held = false := by
  cases s <;> first
    | rfl
    | (simp [Slot.plain] at p; done)
    | (simp [Slot.plain] at p; exact p)
/-- a callee's things beside the caller's -/
theorem Rel.frame {F : List Addr} (r : Rel K fi H0 G H σ st) (hF : ∀ y ∈ F, H0 y = none) (far : ∀ (j : Nat) (b : Slot) (y : Addr), st[j]? = some b → b.mine = true → σ[j]? = some (some (.ref y)) → y ∉ F)
    (farL : ∀ (j : Nat) (y : Addr), LstOf σ H st j y → y ∉ F) (x0 : XH H0 H) {fi' : Fi} {τ : L2.St} {tt : Store} (e : Ext G (hid H F) G' H') (r' : Rel K fi' (hid H F) G' H' τ tt) (pl : tt.all Slot.plain = true) : Rel K fi H0 G' H' (σ ++ τ) (st ++ tt) := by
  have keep : ∀ (y : Addr) (u : HO), y ∉ F → H y = some u → (∀ ps, u ≠ .tbl ps) → H' y = some u := fun y u n h nt => e.h.k y u (by rw [hid_out n]; exact h) nt
  have gno : ∀ (y : Addr) (u : HO), y ∉ F → H y = some u → Loose (some u) → G y = none → G' y = none := fun y u n h l g => by
    cases z : G' y with
    | none => rfl
    | some w => exact ((e.n y w z g).lst (by rw [hid_out n]; exact h) l).elim
  have h0n : ∀ y, hid H F y = none → H0 y = none := fun y h => by
    by_cases z : y ∈ F
    · exact hF y z
    · rw [hid_out z] at h
      exact x0.back h
  have pla : ∀ {k : Nat} {s : Slot}, tt[k]? = some s → s.plain = true := fun q => List.all_eq_true.mp pl _ (List.mem_of_getElem? q)
  have sp : ∀ {j : Nat} {s : Slot}, (st ++ tt)[j]? = some s → (st[j]? = some s ∧ (σ ++ τ)[j]? = σ[j]?) ∨ (∃ k, j = st.length + k ∧ tt[k]? = some s ∧ (σ ++ τ)[j]? = τ[k]?) := fun {j s} q => by
    by_cases z : j < st.length
    · rw [List.getElem?_append_left z] at q
      exact .inl ⟨q, List.getElem?_append_left (by rw [← r.len]; exact z)⟩
    · rw [List.getElem?_append_right (by omega)] at q
      exact .inr ⟨j - st.length, by omega, q, by rw [List.getElem?_append_right (by rw [← r.len]; omega), r.len]⟩
  have bk : ∀ (j : Nat) (y : Addr), LstOf (σ ++ τ) H' (st ++ tt) j y → LstOf σ H st j y ∨ (∃ k, j = st.length + k ∧ LstOf τ H' tt k y) := fun j y ⟨oo, xx, C, dd, t, k1, k2, z, w, hh, hy⟩ => by
    rcases sp z with ⟨z, e1⟩ | ⟨k, ek, z, e1⟩
    · rw [e1] at w
      obtain ⟨C', dx', t1, j1, j2, _, _, y0, _⟩ := r.ob.o4 j oo xx z w
      have := keep xx _ (far j (.ob oo) xx z rfl w) y0 (fun _ z => by cases z)
      rw [this] at hh
      exact .inl ⟨oo, xx, C, dd, t, k1, k2, z, w, by rw [y0]; exact hh, hy⟩
    · rw [e1] at w
      exact .inr ⟨k, ek, oo, xx, C, dd, t, k1, k2, z, w, hh, hy⟩
  have mixL : ∀ (j k : Nat) (y : Addr), LstOf σ H st j y → LstOf τ H' tt k y → False := fun j k y h h' => by
    obtain ⟨⟨vs, w⟩, _, _⟩ := r.ob.o1 j y h
    obtain ⟨_, _, z⟩ := r'.ob.o1 k y h'
    rw [hid_out (farL j y h), w] at z
    cases z
  refine ⟨r'.s, by simp [r.len, r'.len], fun j a q hb => ?_, fun j d q => ?_, fun j a q m => ?_, fun j k a b y q m q' m' p p' => ?_, r'.tb, r'.tg, fun j y h => ?_, fun j k y h h' => ?_, fun j k a y h q m p => ?_, fun j oo xx q p => ?_⟩
  · rcases sp q with ⟨q, w⟩ | ⟨k, _, q, w⟩
    · rw [w]
      exact r.exc j a q hb
    · rw [Slot.plain_held (pla q)] at hb
      cases hb
  · rcases sp q with ⟨q, w⟩ | ⟨k, _, q, w⟩
    · obtain ⟨v, w1, w2⟩ := r.dat j d q
      exact ⟨v, by rw [w]; exact w1, w2.mono e.g⟩
    · obtain ⟨v, w1, w2⟩ := r'.dat k d q
      exact ⟨v, by rw [w]; exact w1, w2⟩
  · rcases sp q with ⟨q, w⟩ | ⟨k, _, q, w⟩
    · obtain ⟨l, u, w1, w2, w3, w4, w5⟩ := r.own j a q m
      have n := far j a l q m w1
      exact ⟨l, u, by rw [w]; exact w1, keep l u n w2 w3.loose.ntbl, w3.mono e.g, gno l u n w2 w3.loose w4, w5⟩
    · obtain ⟨l, u, w1, w2, w3, w4, w5⟩ := r'.own k a q m
      exact ⟨l, u, by rw [w]; exact w1, w2, w3.plain (pla q), w4, h0n l w5⟩
  · have mix : ∀ (j k : Nat) (a b : Slot), st[j]? = some a → a.mine = true → tt[k]? = some b → b.mine = true → σ[j]? = some (some (.ref y)) → τ[k]? = some (some (.ref y)) → False := fun j k a b q m q' m' p p' => by
      obtain ⟨l, u, w1, w2, _⟩ := r.own j a q m
      rw [p] at w1
      cases w1
      obtain ⟨l', u', z1, _, _, _, z5⟩ := r'.own k b q' m'
      rw [p'] at z1
      cases z1
      rw [hid_out (far j a y q m p), w2] at z5
      cases z5
    rcases sp q with ⟨q, w⟩ | ⟨k1, e1, q, w⟩
    · rcases sp q' with ⟨q', w'⟩ | ⟨k2, e2, q', w'⟩
      · rw [w] at p
        rw [w'] at p'
        exact r.sep j k a b y q m q' m' p p'
      · rw [w] at p
        rw [w'] at p'
        exact (mix j k2 a b q m q' m' p p').elim
    · rcases sp q' with ⟨q', w'⟩ | ⟨k2, e2, q', w'⟩
      · rw [w] at p
        rw [w'] at p'
        exact (mix k k1 b a q' m' q m p' p).elim
      · rw [w] at p
        rw [w'] at p'
        have := r'.sep k1 k2 a b y q m q' m' p p'
        omega
  · rcases bk j y h with h | ⟨k, _, h⟩
    · obtain ⟨⟨vs, w⟩, g, h0⟩ := r.ob.o1 j y h
      have n := farL j y h
      exact ⟨⟨vs, keep y _ n w (fun _ z => by cases z)⟩, gno y _ n w trivial g, h0⟩
    · obtain ⟨w, g, h0⟩ := r'.ob.o1 k y h
      exact ⟨w, g, h0n y h0⟩
  · rcases bk j y h with h | ⟨k1, e1, h⟩
    · rcases bk k y h' with h' | ⟨k2, e2, h'⟩
      · exact r.ob.o2 j k y h h'
      · exact (mixL _ _ y h h').elim
    · rcases bk k y h' with h' | ⟨k2, e2, h'⟩
      · exact (mixL _ _ y h' h).elim
      · have := r'.ob.o2 k1 k2 y h h'
        omega
  · rcases bk j y h with h | ⟨k1, e1, h⟩
    · rcases sp q with ⟨q, w⟩ | ⟨k2, e2, q, w⟩
      · rw [w] at p
        exact r.ob.o3 j k a y h q m p
      · rw [w] at p
        obtain ⟨⟨vs, z⟩, _, _⟩ := r.ob.o1 j y h
        obtain ⟨l, u, z1, _, _, _, z5⟩ := r'.own k2 a q m
        rw [p] at z1
        cases z1
        rw [hid_out (farL j y h), z] at z5
        cases z5
    · rcases sp q with ⟨q, w⟩ | ⟨k2, e2, q, w⟩
      · rw [w] at p
        obtain ⟨_, _, z⟩ := r'.ob.o1 k1 y h
        obtain ⟨l, u, z1, z2, _⟩ := r.own k a q m
        rw [p] at z1
        cases z1
        rw [hid_out (far k a y q m p), z2] at z
        cases z
      · rw [w] at p
        exact r'.ob.o3 k1 k2 a y h q m p
  · rcases sp q with ⟨q, w⟩ | ⟨k, _, q, w⟩
    · rw [w] at p
      obtain ⟨C', dx', t1, j1, j2, v1, v2, y0, y1, y2, y3, y4, y5⟩ := r.ob.o4 j oo xx q p
      have f1 := farL j j1 ⟨oo, xx, C', dx', t1, j1, j2, q, p, y0, .inl rfl⟩
      have f2 := farL j j2 ⟨oo, xx, C', dx', t1, j1, j2, q, p, y0, .inr rfl⟩
      exact ⟨C', dx', t1, j1, j2, v1, v2, keep xx _ (far j (.ob oo) xx q rfl p) y0 (fun _ z => by cases z), keep j1 _ f1 y1 (fun _ z => by cases z), keep j2 _ f2 y2 (fun _ z => by cases z), y3.mono e.g, y4.mono e.g, y5⟩
    · rw [w] at p
      exact r'.ob.o4 k oo xx q p
/-- the mark set or taken -/
theorem Rel.remark (r : Rel K fi H0 G H σ st) (q : st[i]? = some (.ob o)) (b : Bool) (hb : b = true → σ[i]? = some (some (.ref fi.ea))) : Rel K fi H0 G H σ (st.set i (.ob { o with me := b })) := by
  have m0 : ∀ {j : Nat} {c : Slot}, (st.set i (.ob { o with me := b }))[j]? = some c → c.mine = true → ∃ b0 : Slot, st[j]? = some b0 ∧ b0.mine = true := fun {j c} z m => by
    rcases set_cases z with ⟨rfl, _, w⟩ | ⟨ne, z⟩
    · exact ⟨_, q, rfl⟩
    · exact ⟨c, z, m⟩
  have bk : ∀ (j : Nat) (y : Addr), LstOf σ H (st.set i (.ob { o with me := b })) j y → LstOf σ H st j y := fun j y ⟨oo, xx, C, dd, t, k1, k2, z, w, hh, hy⟩ => by
    rcases set_cases z with ⟨rfl, _, e1⟩ | ⟨ne, z⟩
    · exact ⟨o, xx, C, dd, t, k1, k2, q, w, hh, hy⟩
    · exact ⟨oo, xx, C, dd, t, k1, k2, z, w, hh, hy⟩
  refine ⟨r.s, by rw [List.length_set]; exact r.len, fun j c z hc => ?_, fun j d z => ?_, fun j c z m => ?_, fun j k c d y z m z' m' p p' => ?_, r.tb, r.tg, fun j y h => r.ob.o1 j y (bk j y h), fun j k y h h' => r.ob.o2 j k y (bk j y h) (bk k y h'), fun j k c y h z m p => ?_, fun j oo xx z p => ?_⟩
  · rcases set_cases z with ⟨rfl, _, e1⟩ | ⟨ne, z⟩
    · subst e1
      exact hb hc
    · exact r.exc j c z hc
  · rcases set_cases z with ⟨rfl, _, e1⟩ | ⟨ne, z⟩
    · cases e1
    · exact r.dat j d z
  · rcases set_cases z with ⟨rfl, _, e1⟩ | ⟨ne, z⟩
    · subst e1
      obtain ⟨l, u, w1, w2, w3, w4⟩ := r.own i _ q rfl
      refine ⟨l, u, w1, w2, ?_, w4⟩
      cases u <;> first
        | exact w3
        | exact w3.elim
    · exact r.own j c z m
  · obtain ⟨b0, z0, m00⟩ := m0 z m
    obtain ⟨c0, z1, m11⟩ := m0 z' m'
    exact r.sep j k b0 c0 y z0 m00 z1 m11 p p'
  · obtain ⟨b0, z0, m00⟩ := m0 z m
    exact r.ob.o3 j k b0 y (bk j y h) z0 m00 p
  · rcases set_cases z with ⟨rfl, _, e1⟩ | ⟨ne, z⟩
    · cases e1
      exact r.ob.o4 i o xx q p
    · exact r.ob.o4 j oo xx z p
/-- one object alone -/
theorem rel_ob1 {x dx t l1 l2 : Addr} (s : Ex G H) (tb : LamX.Tabs Tb.T H) (tg : ∀ p ∈ Tb.T, G p.1 = none) (a : ObAt K G H x o dx t l1 l2) (hx : H0 x = none) (h1 : H0 l1 = none) (h2 : H0 l2 = none) (hm : o.me = false) : Rel K fi H0 G H [some (.ref x)] [.ob o] := by
  have z0 : ∀ {j : Nat} {c : Slot}, [Slot.ob o][j]? = some c → j = 0 ∧ c = .ob o := fun {j c} q => by
    cases j with
    | zero => cases q; exact ⟨rfl, rfl⟩
    | succ j => simp at q
  have bk : ∀ (j : Nat) (y : Addr), LstOf [some (.ref x)] H [.ob o] j y → j = 0 ∧ (y = l1 ∨ y = l2) := fun j y ⟨oo, xx, C, dd, t', k1, k2, z, w, hh, hy⟩ => by
    obtain ⟨rfl, e1⟩ := z0 z
    cases e1
    cases w
    rw [a.hx] at hh
    have hh := Option.some.inj hh
    injection hh with _ _ hf
    obtain ⟨_, rfl, rfl⟩ := fl3_inj hf
    exact ⟨rfl, hy⟩
  obtain ⟨v1, p1, q1⟩ := a.e1
  obtain ⟨v2, p2, q2⟩ := a.e2
  refine ⟨s, rfl, fun j c z hc => ?_, fun j d z => ?_, fun j c z m => ?_, fun j k c d y z m z' m' p p' => ?_, tb, tg, fun j y h => ?_, fun j k y h h' => ?_, fun j k c y h z m p => ?_, fun j oo xx z p => ?_⟩
  · obtain ⟨rfl, rfl⟩ := z0 z
    have hc : o.me = true := hc
    rw [hm] at hc
    cases hc
  · obtain ⟨_, e1⟩ := z0 z
    cases e1
  · obtain ⟨rfl, rfl⟩ := z0 z
    exact ⟨x, _, rfl, a.hx, ⟨rfl, t, l1, l2, rfl, a.st⟩, a.gx, hx⟩
  · rw [(z0 z).1, (z0 z').1]
  · obtain ⟨_, rfl | rfl⟩ := bk j y h
    · exact ⟨⟨v1, p1⟩, a.g1, h1⟩
    · exact ⟨⟨v2, p2⟩, a.g2, h2⟩
  · rw [(bk j y h).1, (bk k y h').1]
  · obtain ⟨rfl, rfl⟩ := z0 z
    cases p
    obtain ⟨_, hy | hy⟩ := bk j x h
    · exact a.x1 hy
    · exact a.x2 hy
  · obtain ⟨rfl, e1⟩ := z0 z
    cases e1
    cases p
    exact ⟨_, dx, t, l1, l2, v1, v2, a.hx, p1, p2, q1, q2, a.ne⟩
/-- what the object's places are to the frame -/
theorem Rel.places (r : Rel K fi H0 G H σ st) (q : st[i]? = some (.ob o)) {x dx t l1 l2 : Addr} (p : σ[i]? = some (some (.ref x))) (a : ObAt K G H x o dx t l1 l2) :
    (∀ y ∈ [x, l1, l2], H0 y = none) ∧ (∀ (j : Nat) (b : Slot) (y : Addr), j ≠ i → st[j]? = some b → b.mine = true → σ[j]? = some (some (.ref y)) → y ∉ [x, l1, l2]) ∧ (∀ (j : Nat) (y : Addr), j ≠ i → LstOf σ H st j y → y ∉ [x, l1, l2]) := by
  have L1 : LstOf σ H st i l1 := ⟨o, x, _, dx, t, l1, l2, q, p, a.hx, .inl rfl⟩
  have L2' : LstOf σ H st i l2 := ⟨o, x, _, dx, t, l1, l2, q, p, a.hx, .inr rfl⟩
  refine ⟨fun y h => ?_, fun j b y ne qj mj pj h => ?_, fun j y ne lj h => ?_⟩
  · rcases List.mem_cons.mp h with rfl | h
    · exact (r.loose q rfl p).2.2
    · rcases List.mem_cons.mp h with rfl | h
      · exact (r.ob.o1 i y L1).2.2
      · rcases List.mem_cons.mp h with rfl | h
        · exact (r.ob.o1 i y L2').2.2
        · cases h
  · rcases List.mem_cons.mp h with rfl | h
    · exact ne (r.sep j i b (.ob o) y qj mj q rfl pj p)
    · rcases List.mem_cons.mp h with rfl | h
      · exact r.ob.o3 i j b y L1 qj mj pj
      · rcases List.mem_cons.mp h with rfl | h
        · exact r.ob.o3 i j b y L2' qj mj pj
        · cases h
  · rcases List.mem_cons.mp h with rfl | h
    · exact r.ob.o3 j i (.ob o) y lj q rfl p
    · rcases List.mem_cons.mp h with rfl | h
      · exact ne (r.ob.o2 j i y lj L1)
      · rcases List.mem_cons.mp h with rfl | h
        · exact ne (r.ob.o2 j i y lj L2')
        · cases h
theorem set_self {α : Type} {σ : List α} {i : Nat} {a : α} (h : σ[i]? = some a) : σ.set i a = σ := by
  have hi : i < σ.length := (List.getElem?_eq_some_iff.mp h).1
  apply List.ext_getElem?
  intro j
  by_cases z : i = j
  · subst z
    rw [List.getElem?_set_self hi, h]
  · rw [List.getElem?_set_ne z]
/-- the object of the slot i was lent: it stands as the callee says, and so do the callee's things behind -/
theorem Rel.lent (r : Rel K fi H0 G H σ st) (q : st[i]? = some (.ob o)) (x0 : XH H0 H) {x dx t l1 l2 : Addr} (p : σ[i]? = some (some (.ref x))) (a : ObAt K G H x o dx t l1 l2) (e : Ext G (hid H [x, l1, l2]) G' H') {fi' : Fi} {τ : L2.St} {tt : Store} {o' : Ob}
    (r' : Rel K fi' (hid H [x, l1, l2]) G' H' (some (.ref x) :: τ) (.ob o' :: tt)) (hm : o'.me = false) (pl : tt.all Slot.plain = true) : Rel K fi H0 G' H' (σ ++ τ) (st.set i (.ob { o' with me := o.me }) ++ tt) := by
  obtain ⟨f1, f2, f3⟩ := r.places q p a
  have il : i < st.length := (List.getElem?_eq_some_iff.mp q).1
  have r0 := r.forget i (some (.ref x))
  rw [set_self p] at r0
  have r1 : Rel K fi H0 G' H' (σ ++ some (.ref x) :: τ) (st.set i .un ++ .ob o' :: tt) := by
    refine r0.frame f1 (fun j b y z m w => ?_) (fun j y h => ?_) x0 e r' ?_
    · rcases set_cases z with ⟨rfl, _, e1⟩ | ⟨ne, z⟩
      · subst e1; cases m
      · exact f2 j b y (Ne.symm ne) z m w
    · obtain ⟨oo, xx, C, dd, t', k1, k2, z, w, hh, hy⟩ := h
      rcases set_cases z with ⟨rfl, _, e1⟩ | ⟨ne, z⟩
      · cases e1
      · exact f3 j y (Ne.symm ne) ⟨oo, xx, C, dd, t', k1, k2, z, w, hh, hy⟩
    · rw [List.all_cons, Bool.and_eq_true]
      exact ⟨by simp [Slot.plain, hm], pl⟩
  have r2 := r1.mv (i := i) (by rw [List.length_set]; exact r.len) (by rw [List.length_set]; exact il)
  rw [set_self p, List.set_set] at r2
  have q2 : (st.set i (.ob o') ++ tt)[i]? = some (.ob o') := by rw [List.getElem?_append_left (by rw [List.length_set]; exact il), List.getElem?_set_self il]
  have p2 : (σ ++ τ)[i]? = some (some (.ref x)) := by rw [List.getElem?_append_left (by rw [← r.len]; exact il)]; exact p
  have r3 := r2.remark q2 o.me fun hb => by
    have := r.exc i _ q hb
    rw [p] at this
    rw [p2, this]
  rw [List.set_append_left _ _ (by rw [List.length_set]; exact il), List.set_set] at r3
  exact r3
theorem Rel.base (r : Rel K fi H0 G H σ st) {H1 : Hp} (h : ∀ y, H0 y = none → H1 y = none) : Rel K fi H1 G H σ st := ⟨r.s, r.len, r.exc, r.dat, fun j a q m => by
  obtain ⟨l, u, w1, w2, w3, w4, w5⟩ := r.own j a q m
  exact ⟨l, u, w1, w2, w3, w4, h l w5⟩, r.sep, r.tb, r.tg, fun j y z => ⟨(r.ob.o1 j y z).1, (r.ob.o1 j y z).2.1, h y (r.ob.o1 j y z).2.2⟩, r.ob.o2, r.ob.o3, r.ob.o4⟩
/-- steps in the heap, the object's own places aside -/
theorem xh_hid {H H' : Hp} {F : List Addr} (h : XH H H') : XH (hid H F) H' := (XH.of fun a o e => by
  by_cases z : a ∈ F
  · rw [hid_in z] at e
    cases e
  · rw [hid_out z] at e
    exact e).trans h
theorem fre_hid {H : Hp} {F : List Addr} {a : Addr} (h : Fre H a) : Fre (hid H F) a := by
  by_cases z : a ∈ F
  · exact .inl (hid_in z)
  · rcases h with h | ⟨q, h⟩
    · exact .inl (by rw [hid_out z]; exact h)
    · exact .inr ⟨q, by rw [hid_out z]; exact h⟩
theorem ext_hid {G H G' H' : Hp} {F : List Addr} (e : Ext G H G' H') : Ext G (hid H F) G' H' := ⟨e.g, xh_hid e.h, e.s, fun a o z n => fre_hid (e.n a o z n)⟩
theorem hid_none {H : Hp} {F : List Addr} {y : Addr} (h : H y = none) : hid H F y = none := by
  by_cases z : y ∈ F
  · exact hid_in z
  · rw [hid_out z]; exact h
/-- a frame that borrows the object at x: its slot i holds it -/
theorem Rel.take (r : Rel K fi H G H σ st) (nm : ∀ (j : Nat) (b : Slot), st[j]? = some b → b.mine = false) {x dx t l1 l2 : Addr} (p : σ[i]? = some (some (.ref x))) (a : ObAt K G H x o dx t l1 l2) (hm : o.me = false) : Rel K fi (hid H [x, l1, l2]) G H σ (st.set i (.ob o)) := by
  have r0 : Rel K fi (hid H [x, l1, l2]) G H σ st := r.base fun y => hid_none
  have i1 : l1 ∈ [x, l1, l2] := List.mem_cons_of_mem _ List.mem_cons_self
  have i2 : l2 ∈ [x, l1, l2] := List.mem_cons_of_mem _ (List.mem_cons_of_mem _ List.mem_cons_self)
  have il : i < st.length := by rw [r.len]; exact (List.getElem?_eq_some_iff.mp p).1
  have r1 := r0.frame (F := [x, l1, l2]) (fi' := fi) (τ := [some (.ref x)]) (tt := [.ob o]) (fun y h => hid_in h) (fun j b y z m => by rw [nm j b z] at m; cases m) (fun j y ⟨oo, _, _, _, _, _, _, z, _⟩ => by
    have := nm j _ z
    cases this) (xh_hid (XH.refl H)) (ext_hid (Ext.refl r.s)) (rel_ob1 r.s r.tb r.tg a (hid_in List.mem_cons_self) (hid_in i1) (hid_in i2) hm) (by simp [Slot.plain, hm])
  have r2 := r1.mv (i := i) r.len il
  rw [set_self p, List.append_nil, List.append_nil] at r2
  exact r2
end
end Pg

namespace Pg
open PySem PySem.Spec PyProof.Rows L2
variable [Tb]
/-! ### methods that change their object -/
theorem s_ne_e : ("state" : Str) ≠ "earlier" := by decide +kernel
theorem s_ne_l : ("state" : Str) ≠ "later" := by decide +kernel
theorem e_ne_l : ("earlier" : Str) ≠ "later" := by decide +kernel
theorem putS (t l1 l2 t' : Addr) : putF "state" (.ref t') (fl3 t l1 l2) = fl3 t' l1 l2 := by
  unfold fl3
  rw [putF, if_pos rfl]
theorem putE (t l1 l2 l1' : Addr) : putF "earlier" (.ref l1') (fl3 t l1 l2) = fl3 t l1' l2 := by
  unfold fl3
  rw [putF, if_neg s_ne_e, putF, if_pos rfl]
theorem putL (t l1 l2 l2' : Addr) : putF "later" (.ref l2') (fl3 t l1 l2) = fl3 t l1 l2' := by
  unfold fl3
  rw [putF, if_neg s_ne_l, putF, if_neg e_ne_l, putF, if_pos rfl]
theorem getS (t l1 l2 : Addr) : (fl3 t l1 l2).lookup ("state" : Str) = some (V.ref t) := rfl
theorem getE (t l1 l2 : Addr) : (fl3 t l1 l2).lookup ("earlier" : Str) = some (V.ref l1) := by
  unfold fl3
  rw [List.lookup_cons, show (("earlier" : Str) == "state") = false from beq_eq_false_iff_ne.mpr (Ne.symm s_ne_e)]
  rfl
theorem getL (t l1 l2 : Addr) : (fl3 t l1 l2).lookup ("later" : Str) = some (V.ref l2) := by
  unfold fl3
  rw [List.lookup_cons, show (("later" : Str) == "state") = false from beq_eq_false_iff_ne.mpr (Ne.symm s_ne_l)]
  show List.lookup _ _ = _
  rw [List.lookup_cons, show (("later" : Str) == "earlier") = false from beq_eq_false_iff_ne.mpr (Ne.symm e_ne_l)]
  rfl
/-- what the class says of its attributes -/
structure ClsK (K : Fr) (C : Str) : Prop where
  c : Cls K (He.ga K C)
  s : NoAttr K (He.ga K C) "state"
  e : NoAttr K (He.ga K C) "earlier"
  l : NoAttr K (He.ga K C) "later"
def Ob.as (o : Ob) (b : Bool) : Ob := { o with me := b }
theorem Ob.as_me (o : Ob) : o.as o.me = o := rfl
/-! ### what a method does -/
inductive RM where
  | ok (d : D) (o : Ob)
  | mk (o o2 : Ob)
  | rs (c : PySem.Str) (o : Ob)
  | no
def aftM (K : Fr) (G H : Hp) (F : List Addr) (x : Addr) (Q : VK) (E : XK) : RM → Prop
  | .ok d o => ∀ v G' H', o.me = false → Ext G (hid H F) G' H' → Rel K fi0 (hid H F) G' H' [some (.ref x)] [.ob o] → Den K G' v d → Q v H'
  | .mk o o2 => ∀ v G' H', o.me = false → o2.me = false → Ext G (hid H F) G' H' → Rel K fi0 (hid H F) G' H' [some (.ref x), some v] [.ob o, .ob o2] → Q v H'
  | .rs c o => ∀ G' H', o.me = false → Ext G (hid H F) G' H' → Rel K fi0 (hid H F) G' H' [some (.ref x)] [.ob o] → E (.ref (He.ga K c)) none H'
  | .no => False
/-- a method of n arguments besides self: what it gives, the object behind it -/
def spM (K : Fr) (C : Str) (n : Nat) (M : Ob → List D → RM) : Sp := fun vs H Q E => ∃ x ws G ds o dx t l1 l2, vs = .ref x :: ws ∧ ws.length = n ∧ o.C = C ∧ ObAt K G H x o dx t l1 l2 ∧ Ex G H ∧ LamX.Tabs Tb.T H ∧ (∀ p ∈ Tb.T, G p.1 = none) ∧ Dens K G ws ds ∧ aftM K G H [x, l1, l2] x Q E (M (o.as false) ds)
structure MetO (P : Program) (w : World) (K : Fr) (mg : Str → Option Value) (base : Heap) (C m : Str) (k n : Nat) (M : Ob → List D → RM) : Prop where
  c : Cls K (He.ga K C)
  mt : Meth K (He.ga K C) m (He.fAd K (C, some m))
  ex : ∃ (fd : FuncData) (ps : List Str), FnOk P w K mg base (L2.CX P w) k (He.fAd K (C, some m)) fd ps (spM K C n M) ∧ Binds K fd ps []
section
variable {K : Fr} {fi : Fi} {H0 G H G' H' : Hp} {σ : L2.St} {st : Store} {i : Nat} {o : Ob}
theorem ObAt.as {x dx t l1 l2 : Addr} (a : ObAt K G H x o dx t l1 l2) (b : Bool) : ObAt K G H x (o.as b) dx t l1 l2 := ⟨a.hx, a.st, a.e1, a.e2, a.ne, a.gx, a.g1, a.g2⟩
theorem ObAt.un {x dx t l1 l2 : Addr} {b : Bool} (a : ObAt K G H x (o.as b) dx t l1 l2) : ObAt K G H x o dx t l1 l2 := ⟨a.hx, a.st, a.e1, a.e2, a.ne, a.gx, a.g1, a.g2⟩
theorem ObAt.lo {x dx t l1 l2 : Addr} (a : ObAt K G H x o dx t l1 l2) : ∀ y ∈ [x, l1, l2], Loose (H y) := fun y h => by
  obtain ⟨v1, p1, _⟩ := a.e1
  obtain ⟨v2, p2, _⟩ := a.e2
  rcases List.mem_cons.mp h with rfl | h
  · rw [a.hx]; trivial
  · rcases List.mem_cons.mp h with rfl | h
    · rw [p1]; trivial
    · rcases List.mem_cons.mp h with rfl | h
      · rw [p2]; trivial
      · cases h
theorem tabS_hid {F : List Addr} {P : Addr} {q : Str} (t : LamX.TabS H P q) (lo : ∀ y ∈ F, Loose (H y)) : LamX.TabS (hid H F) P q := by
  obtain ⟨ps, k1, k2, k3⟩ := t
  have no : ∀ y, ¬ Loose (H y) → y ∉ F := fun y n h => n (lo y h)
  refine ⟨ps, by rw [hid_out (no P (by rw [k1]; exact id))]; exact k1, k2, fun pos cv hc => ?_⟩
  obtain ⟨c1, y1, y2⟩ := k3 pos cv hc
  exact ⟨c1, y1, by rw [hid_out (no c1 (by rw [y2]; exact id))]; exact y2⟩
/-- steps, then a callee's that borrows -/
theorem Ext.thr {G0 : Hp} {F : List Addr} (x : Ext G0 H0 G H) (hF : ∀ y ∈ F, H0 y = none) (lo : ∀ y ∈ F, Loose (H y)) (e : Ext G (hid H F) G' H') : Ext G0 H0 G' H' := by
  have nF : ∀ {a o}, H0 a = some o → a ∉ F := fun {a o} z h => by
    rw [hF a h] at z
    cases z
  refine ⟨x.g.trans e.g, XH.trans ⟨fun a o z n => by rw [hid_out (nF z)]; exact x.h.k a o z n, fun a o z n => by rw [hid_out (nF z)]; exact x.h.k2 a o z n, fun a ps z => by
    obtain ⟨ps', w⟩ := x.h.q a ps z
    exact ⟨ps', by rw [hid_out (nF z)]; exact w⟩, fun p hp t => tabS_hid (x.h.t p hp t) lo⟩ e.h, e.s, fun a o z n => ?_⟩
  cases q : G a with
  | some u => exact x.n a u q n
  | none =>
    have back : ∀ {u : Option HO}, H a = u → a ∉ F → (H a = none ∨ ∃ q, H a = some (LamX.CodeO a q)) → Fre H0 a := fun {u} _ nf f => by
      rcases f with f | ⟨qq, f⟩
      · exact .inl (x.h.back f)
      · cases w : H0 a with
        | none => exact .inl w
        | some v =>
          refine .inr ⟨qq, ?_⟩
          rw [w]
          cases v with
          | tbl ps =>
            obtain ⟨ps', h2⟩ := x.h.q a ps w
            rw [h2] at f
            cases f
          | _ =>
            rw [x.h.k a _ w (fun _ z => by cases z)] at f
            exact f
    by_cases hf : a ∈ F
    · exact .inl (hF a hf)
    · have f := e.n a o z q
      unfold Fre at f
      rw [hid_out hf] at f
      exact back rfl hf f
theorem Rel.refi (r : Rel K fi H0 G H σ st) {fi' : Fi} (pl : st.all Slot.plain = true) : Rel K fi' H0 G H σ st := by
  have pla : ∀ {k : Nat} {s : Slot}, st[k]? = some s → s.plain = true := fun q => List.all_eq_true.mp pl _ (List.mem_of_getElem? q)
  exact ⟨r.s, r.len, fun j a q hb => (by rw [Slot.plain_held (pla q)] at hb; cases hb), r.dat, fun j a q m => by
    obtain ⟨l, u, w1, w2, w3, w4⟩ := r.own j a q m
    exact ⟨l, u, w1, w2, w3.plain (pla q), w4⟩, r.sep, r.tb, r.tg, r.ob⟩
/-- of a frame that ends: its own object -/
theorem Rel.end1 {x : Addr} (r : Rel K ⟨x, []⟩ H0 G H σ st) (q : st[0]? = some (.ob o)) (hm : o.me = true) : Rel K fi0 H0 G H [some (.ref x)] [.ob (o.as false)] := by
  have p := r.exc 0 _ q hm
  have r1 : Rel K ⟨x, []⟩ H0 G H [some (.ref x)] [.ob o] := r.pull (fun _ => 0) rfl (fun j s z => by
    cases j with
    | zero => cases z; exact ⟨q, p.symm⟩
    | succ j => simp at z) (fun j k hj hk _ => by simp at hj hk; omega)
  have r2 := r1.remark (i := 0) rfl false (fun z => by cases z)
  exact r2.refi rfl
/-- .. and one more -/
theorem Rel.end2 {x : Addr} {j : Nat} {v : V} {o2 : Ob} (r : Rel K ⟨x, []⟩ H0 G H σ st) (q : st[0]? = some (.ob o)) (hm : o.me = true) (hj : j ≠ 0) (q2 : st[j]? = some (.ob o2)) (hm2 : o2.me = false) (hv : σ[j]? = some (some v)) :
    Rel K fi0 H0 G H [some (.ref x), some v] [.ob (o.as false), .ob o2] := by
  have p := r.exc 0 _ q hm
  have r1 : Rel K ⟨x, []⟩ H0 G H [some (.ref x), some v] [.ob o, .ob o2] := r.pull (fun k => if k = 0 then 0 else j) rfl (fun k s z => by
    match k, z with
    | 0, z => cases z; exact ⟨q, p.symm⟩
    | 1, z => cases z; exact ⟨q2, hv.symm⟩
    | k + 2, z => simp at z) (fun k l hk hl e => by
      simp at hk hl
      split at e <;> split at e <;> omega)
  have r2 := r1.remark (i := 0) rfl false (fun z => by cases z)
  exact r2.refi (by simp [Slot.plain, hm2])
/-- the object of a slot is changed in place -/
theorem Rel.obSet {G0 : Hp} (r : Rel K fi H0 G H σ st) (x0 : Ext G0 H0 G H) (q : st[i]? = some (.ob o)) {x dx t l1 l2 : Addr} (p : σ[i]? = some (some (.ref x))) (a : ObAt K G H x o dx t l1 l2) {o' : Ob} {dx' t' m1 m2 : Addr} (e : Ext G (hid H [x, l1, l2]) G' H')
    (a' : ObAt K G' H' x o' dx' t' m1 m2) (n1 : hid H [x, l1, l2] m1 = none) (n2 : hid H [x, l1, l2] m2 = none) : Ext G0 H0 G' H' ∧ Rel K fi H0 G' H' σ (st.set i (.ob (o'.as o.me))) := by
  obtain ⟨f1, _, _⟩ := r.places q p a
  have tb : LamX.Tabs Tb.T H' := fun pp hp => e.h.t pp hp (tabS_hid (r.tb pp hp) a.lo)
  have tg : ∀ pp ∈ Tb.T, G' pp.1 = none := fun pp hp => by
    cases z : G' pp.1 with
    | none => rfl
    | some w =>
      have tt := tabS_hid (r.tb pp hp) a.lo
      obtain ⟨ps, k1, _⟩ := tt
      rcases e.n pp.1 w z (r.tg pp hp) with f | ⟨qq, f⟩
      · rw [k1] at f; cases f
      · rw [k1] at f; cases f
  have r' : Rel K fi0 (hid H [x, l1, l2]) G' H' [some (.ref x)] [.ob (o'.as false)] := rel_ob1 e.s tb tg (a'.as false) (hid_in List.mem_cons_self) n1 n2 rfl
  have := r.lent q x0.h p a e r' rfl rfl
  rw [List.append_nil, List.append_nil] at this
  exact ⟨x0.thr f1 a.lo e, this⟩
end
/-! ### expressions that change an object of one's own -/
inductive RO where
  | ok (d : D) (st : Store)
  | rs (c : PySem.Str) (st : Store)
  | no
abbrev MEO := Store → RO
def aftO (K : Fr) (ea : Fi) (W : WX) (G0 H0 : Hp) (σ : L2.St) (Q : VK) : RO → Prop
  | .ok d st => ∀ v G H, Ext G0 H0 G H → Rel K ea H0 G H σ st → Den K G v d → Q v H
  | .rs c st => ∀ G H, Ext G0 H0 G H → Rel K ea H0 G H σ st → W (.ref (He.ga K c)) none σ H
  | .no => False
def tEO (K : Fr) (ea : Fi) (W : WX) (f : MEO) : TE := fun σ H Q => ∃ G0 H0 G st, Ext G0 H0 G H ∧ Rel K ea H0 G H σ st ∧ aftO K ea W G0 H0 σ Q (f st)
def setO (i : Nat) (o : Ob) (st : Store) : RM → RO
  | .ok d o' => .ok d (st.set i (.ob (o'.as o.me)))
  | .rs c o' => .rs c (st.set i (.ob (o'.as o.me)))
  | _ => .no
def eMO (i : Nat) (C : Str) (n : Nat) (M : Ob → List D → RM) (a : MA) : MEO := fun st => match st[i]? with
  | some (.ob o) => if o.C = C then (match a st with
    | .ok ds => if ds.length = n then setO i o st (M (o.as false) ds) else .no
    | .rs c => .rs c st
    | .no => .no) else .no
  | _ => .no
theorem setO_spec {K : Fr} {fi : Fi} {W : WX} {G0 H0 G H : Hp} {σ : L2.St} {st : Store} {i : Nat} {o : Ob} {x dx t l1 l2 : Addr} {Q : VK} {r : RM} (x0 : Ext G0 H0 G H) (rl : Rel K fi H0 G H σ st) (q : st[i]? = some (.ob o)) (p : σ[i]? = some (some (.ref x))) (a : ObAt K G H x o dx t l1 l2)
    (h : aftO K fi W G0 H0 σ Q (setO i o st r)) : aftM K G H [x, l1, l2] x Q (WE W σ) r := by
  obtain ⟨f1, _, _⟩ := rl.places q p a
  have go : ∀ {G' H' : Hp} {o' : Ob}, o'.me = false → Ext G (hid H [x, l1, l2]) G' H' → Rel K fi0 (hid H [x, l1, l2]) G' H' [some (.ref x)] [.ob o'] → Ext G0 H0 G' H' ∧ Rel K fi H0 G' H' σ (st.set i (.ob (o'.as o.me))) := fun {G' H' o'} hm e r' => by
    have := rl.lent q x0.h p a e r' hm rfl
    rw [List.append_nil, List.append_nil] at this
    exact ⟨x0.thr f1 a.lo e, this⟩
  cases r with
  | ok d o' => exact fun v G' H' hm e r' dv => h v G' H' (go hm e r').1 (go hm e r').2 dv
  | rs c o' => exact fun G' H' hm e r' => h G' H' (go hm e r').1 (go hm e r').2
  | mk o o2 => exact h.elim
  | no => exact h
section
variable {X : Cx} {fi : Fi} {W : WX} {C m y : Str} {k n i : Nat} {M : Ob → List D → RM} {e : Expr} {es : List Expr} {a : MA} {p pos apos : Pos}
/-- y.m(..), y holds an object of one's own -/
theorem g_methO {pl : Sem Bool} (df : MetO X.prog X.w X.K X.mg X.base C m k n M) (hm : m ∉ stN) (hr : Room k X.A) (tk : Takes X W) (hN : X.N[i]? = some y) (hv : Vis X.env.scope y) (ha : PA X (e :: es) (tA X.K fi W a)) (hd : (y == ("__debug__" : Str)) = false := by decide) (hcd : (y == ("__classdict__" : Str)) = false := by decide)
    (hst : starEach (e :: es) X.env = (false, eval e X.env) :: starEach es X.env := by rfl) (hpl : (backTo pos (starEach es X.env)).any (·.1) = false := by rfl)
    (ht : eval (.Call (.Attribute (.Name y p) m apos) (e :: es) [] pos) X.env = (do let ov ← eval (.Name y p) X.env; standAt apos.atName; let (f, first) ← holding [ov] (getMethod ov m pl); callWith pos f first (backTo pos (starEach (e :: es) X.env)) (backToKw pos (keywordEach [] X.env))) := by rfl) :
    PE X (.Call (.Attribute (.Name y p) m apos) (e :: es) [] pos) (tEO X.K fi W (eMO i C n M a)) := by
  obtain ⟨fd, ps, Fn, hb⟩ := df.ex
  refine ⟨fun pins s σ H Q I hq => ?_⟩
  obtain ⟨G0, H0, G, st, x0, rl, q⟩ := hq
  unfold eMO at q
  cases qi : st[i]? with
  | none => rw [qi] at q; exact q.elim
  | some sl =>
    rw [qi] at q
    cases sl with
    | ob o =>
      simp only at q
      split at q
      · rename_i hC
        subst hC
        obtain ⟨x, dx, t, l1, l2, px, oa, _⟩ := rl.obAt qi
        refine PySem.W.methodCall_KW (pl := pl) (thn ((pe_var (pos := p) hN hv hd hcd).run pins s σ H (fun u H1 => u = .ref x ∧ H1 = H) I ⟨.ref x, px, rfl, rfl⟩) fun u s1 ⟨v, H1, I1, rx, ev, eH⟩ => ?_) ht
        subst ev eH
        obtain rfl : u = Value.ref x := rx
        refine getmeth_ok I1 oa.hx df.c df.mt (show (stN.zip [V.ref t, .ref l1, .ref l2]).lookup m = none from look_no hm) ?_
        refine PySem.W.callWith_K (first := [.ref x]) (h₀ := X.base) I1.ok.mod.kin df.mt.kp (thn (ha.run pos pins s1 σ H1 (fun us H2 => spM X.K o.C n M (.ref x :: us) H2 Q (WE W σ)) I1 ⟨H0, G, st, rl, ?_⟩) fun us s2 ⟨ws, H2, I2, r, q2⟩ => ⟨I2.kIn, ?_⟩) hst hpl
        · cases z : a st with
          | no => rw [z] at q; exact q.elim
          | rs c => rw [z] at q; exact fun G' H' e => q G' H' (x0.trans e) (rl.ext e)
          | ok ds =>
            rw [z] at q
            simp only at q
            intro G2 H2 e2 us dus
            split at q
            · rename_i hl
              exact ⟨x, us, G2, ds, o, dx, t, l1, l2, rfl, by rw [dus.length]; exact hl, rfl, oa.ext e2, e2.s, (rl.ext e2).tb, (rl.ext e2).tg, dus, setO_spec (x0.trans e2) (rl.ext e2) qi px (oa.ext e2) q⟩
            · exact q.elim
        · exact run_fnS (us := .ref x :: us) (vs := .ref x :: ws) (E := WE W) Fn hr hb (passAt tk σ) I2 (.cons rfl r) q2
      · exact q.elim
    | _ => exact q.elim
/-- run of y.m(): what the object's state is asked -/
theorem run_meth0 {pl : Sem Bool} (df : MetO X.prog X.w X.K X.mg X.base C m k 0 M) (hm : m ∉ stN) (hr : Room k X.A) (tk : Takes X W) (hN : X.N[i]? = some y) (hv : Vis X.env.scope y) (hd : (y == ("__debug__" : Str)) = false) (hcd : (y == ("__classdict__" : Str)) = false)
    (ht : eval (.Call (.Attribute (.Name y p) m apos) [] [] pos) X.env = (do let ov ← eval (.Name y p) X.env; standAt apos.atName; let (f, first) ← holding [ov] (getMethod ov m pl); callWith pos f first (backTo pos (starEach [] X.env)) (backToKw pos (keywordEach [] X.env))))
    {pins : List (Addr × Obj)} {s : Shared} {σ : L2.St} {H0 G H : Hp} {Q : VK} (I : Inv X pins σ H s) {st : Store} (rl : Rel X.K fi H0 G H σ st) {o : Ob} (qi : st[i]? = some (.ob o)) (hC : o.C = C) {x dx t l1 l2 : Addr} (px : σ[i]? = some (some (.ref x))) (oa : ObAt X.K G H x o dx t l1 l2)
    (q : aftM X.K G H [x, l1, l2] x Q (WE W σ) (M (o.as false) [])) : wpAny (model X.prog X.w) X.A (eval (.Call (.Attribute (.Name y p) m apos) [] [] pos) X.env) (EP X pins σ Q) X.xe s := by
  obtain ⟨fd, ps, Fn, hb⟩ := df.ex
  subst hC
  refine PySem.W.methodCall_KW (pl := pl) (thn ((pe_var (pos := p) hN hv hd hcd).run pins s σ H (fun u H1 => u = .ref x ∧ H1 = H) I ⟨.ref x, px, rfl, rfl⟩) fun u s1 ⟨v, H1, I1, rx, ev, eH⟩ => ?_) ht
  subst ev eH
  obtain rfl : u = Value.ref x := rx
  refine getmeth_ok I1 oa.hx df.c df.mt (show (stN.zip [V.ref t, .ref l1, .ref l2]).lookup m = none from look_no hm) ?_
  exact PySem.W.callWith_K0 (first := [.ref x]) I1.kIn df.mt.kp (run_fnS (us := [.ref x]) (vs := [.ref x]) (E := WE W) Fn hr hb (passAt tk σ) I1 (.cons rfl .nil) ⟨x, [], G, [], o, dx, t, l1, l2, rfl, rfl, rfl, oa, rl.s, rl.tb, rl.tg, .nil, q⟩)
theorem g_methO0 {pl : Sem Bool} (df : MetO X.prog X.w X.K X.mg X.base C m k 0 M) (hm : m ∉ stN) (hr : Room k X.A) (tk : Takes X W) (hN : X.N[i]? = some y) (hv : Vis X.env.scope y) (hd : (y == ("__debug__" : Str)) = false := by decide) (hcd : (y == ("__classdict__" : Str)) = false := by decide)
    (ht : eval (.Call (.Attribute (.Name y p) m apos) [] [] pos) X.env = (do let ov ← eval (.Name y p) X.env; standAt apos.atName; let (f, first) ← holding [ov] (getMethod ov m pl); callWith pos f first (backTo pos (starEach [] X.env)) (backToKw pos (keywordEach [] X.env))) := by rfl) :
    PE X (.Call (.Attribute (.Name y p) m apos) [] [] pos) (tEO X.K fi W (eMO i C 0 M aNil)) := by
  refine ⟨fun pins s σ H Q I hq => ?_⟩
  obtain ⟨G0, H0, G, st, x0, rl, q⟩ := hq
  unfold eMO at q
  cases qi : st[i]? with
  | none => rw [qi] at q; exact q.elim
  | some sl =>
    rw [qi] at q
    cases sl with
    | ob o =>
      simp only at q
      split at q
      · rename_i hC
        obtain ⟨x, dx, t, l1, l2, px, oa, _⟩ := rl.obAt qi
        exact run_meth0 df hm hr tk hN hv hd hcd ht I rl qi hC px oa (setO_spec x0 rl qi px oa q)
      · exact q.elim
    | _ => exact q.elim
/-- z = y.m(), m gives a new object -/
def mCopy (i j : Nat) (C : Str) (M : Ob → List D → RM) : MS := fun st => match st[i]? with
  | some (.ob o) => if o.C = C ∧ j < st.length then (match M (o.as false) [] with
    | .mk o' o2 => if o2.me = false then .nx ((st.set i (.ob (o'.as o.me))).set j (.ob o2)) else .no
    | _ => .no) else .no
  | _ => .no
theorem gs_copy {pl : Sem Bool} {j : Nat} {z : Str} {pz pos0 : Pos} (df : MetO X.prog X.w X.K X.mg X.base C m k 0 M) (hm : m ∉ stN) (hr : Room k X.A) (tk : Takes X W) (hN : X.N[i]? = some y) (hv : Vis X.env.scope y) (hnd : X.N.Nodup) (hj : X.N[j]? = some z) (hz : Loc X.env.scope z) (hd : (y == ("__debug__" : Str)) = false := by decide)
    (hcd : (y == ("__classdict__" : Str)) = false := by decide)
    (ht : eval (.Call (.Attribute (.Name y p) m apos) [] [] pos) X.env = (do let ov ← eval (.Name y p) X.env; standAt apos.atName; let (f, first) ← holding [ov] (getMethod ov m pl); callWith pos f first (backTo pos (starEach [] X.env)) (backToKw pos (keywordEach [] X.env))) := by rfl)
    (hs : swapsWith (.Call (.Attribute (.Name y p) m apos) [] [] pos) (some (.Name z pz)) pos0.line X.env = pure false := by rfl) (hf : X.fn z = true ∨ X.env.scope.names.lookup z = some .local := by first | exact .inl rfl | exact .inr rfl | assumption) :
    PS X (.Assign [.Name z pz] (.Call (.Attribute (.Name y p) m apos) [] [] pos) pos0) (tS X.K fi W (mCopy i j C M)) := by
  refine (ps_set (te := fun σ H Q => ∃ H0 G st o x dx t l1 l2, Rel X.K fi H0 G H σ st ∧ st[i]? = some (.ob o) ∧ o.C = C ∧ σ[i]? = some (some (.ref x)) ∧ ObAt X.K G H x o dx t l1 l2 ∧ aftM X.K G H [x, l1, l2] x Q (WE W σ) (M (o.as false) [])) hnd hj hz
    ⟨fun pins s σ H Q I ⟨H0, G, st, o, x, dx, t, l1, l2, rl, qi, hC, px, oa, q⟩ => run_meth0 df hm hr tk hN hv hd hcd ht I rl qi hC px oa q⟩ hs hf).weak fun D σ H h => ?_
  obtain ⟨G0, H0, G, st, x0, rl, q⟩ := h
  unfold mCopy at q
  cases qi : st[i]? with
  | none => rw [qi] at q; exact q.elim
  | some sl =>
    rw [qi] at q
    cases sl with
    | ob o =>
      simp only at q
      split at q
      · rename_i hC
        obtain ⟨hC, hjl⟩ := hC
        obtain ⟨x, dx, t, l1, l2, px, oa, _⟩ := rl.obAt qi
        refine ⟨H0, G, st, o, x, dx, t, l1, l2, rl, qi, hC, px, oa, ?_⟩
        cases hM : M (o.as false) [] with
        | mk o' o2 =>
          rw [hM] at q
          simp only at q
          split at q
          · intro v G' H' h1 h2 e r'
            obtain ⟨f1, _, _⟩ := rl.places qi px oa
            have r1 := rl.lent qi x0.h px oa e r' h1 (by simp [Slot.plain, h2])
            have r2 := r1.mv (i := j) (by rw [List.length_set]; exact rl.len) (by rw [List.length_set]; exact hjl)
            rw [List.append_nil, List.append_nil] at r2
            exact q G' H' _ (x0.thr f1 oa.lo e) r2
          · exact q.elim
        | _ => rw [hM] at q; exact q.elim
      · exact q.elim
    | _ => exact q.elim
end
end Pg

namespace Pg
open PySem PySem.Spec PyProof.Rows L2
variable [Tb]
/-! ### the frame of a method -/
inductive RSO where
  | nx (st : Store)
  | rt (d : D) (st : Store)
  | ro (j : Nat) (st : Store)
  | rs (c : PySem.Str) (st : Store)
  | no
abbrev MSO := Store → RSO
def aftSO (K : Fr) (ea : Fi) (W : WX) (G0 H0 : Hp) (D : Ends) : RSO → Prop
  | .nx st => ∀ G H σ, Ext G0 H0 G H → Rel K ea H0 G H σ st → D.nx σ H
  | .rt d st => ∀ v G H σ, Ext G0 H0 G H → Rel K ea H0 G H σ st → Den K G v d → D.rt v H
  | .ro j st => ∀ v G H σ, Ext G0 H0 G H → Rel K ea H0 G H σ st → σ[j]? = some (some v) → D.rt v H
  | .rs c st => ∀ G H σ, Ext G0 H0 G H → Rel K ea H0 G H σ st → W (.ref (He.ga K c)) none σ H
  | .no => False
def tSO (K : Fr) (ea : Fi) (W : WX) (m : MSO) : TS := fun D σ H => ∃ G0 H0 G st, Ext G0 H0 G H ∧ Rel K ea H0 G H σ st ∧ aftSO K ea W G0 H0 D (m st)
def liftO (m : MS) : MSO := fun st => match m st with
  | .nx st => .nx st
  | .rs c st => .rs c st
  | _ => .no
def soSeq (a b : MSO) : MSO := fun st => match a st with
  | .nx st => b st
  | r => r
def soRet (f : ME) : MSO := fun st => match f st with
  | .ok d => .rt d st
  | .rs c => .rs c st
  | .no => .no
def soRetO (f : MEO) : MSO := fun st => match f st with
  | .ok d st => .rt d st
  | .rs c st => .rs c st
  | .no => .no
def soRetOb (j : Nat) : MSO := fun st => match st[j]? with
  | some (.ob _) => .ro j st
  | _ => .no
section
variable {X : Cx} {ea : Fi} {W : WX} {s : Stmt} {ss : List Stmt} {a b : MSO} {m : MS} {f : ME} {g : MEO} {e : Expr} {pos : Pos}
theorem gso_pure (h : PS X s (tS X.K ea W m)) : PS X s (tSO X.K ea W (liftO m)) := h.weak fun D σ H h => by
  obtain ⟨G0, H0, G, st, x, rl, k⟩ := h
  refine ⟨G0, H0, G, st, x, rl, ?_⟩
  unfold liftO at k
  cases q : m st with
  | nx st' => rw [q] at k; exact k
  | rs c st' => rw [q] at k; exact k
  | _ => rw [q] at k; exact k.elim
theorem gso_one (h1 : PS X s (tSO X.K ea W a)) : PSs X [s] (tSO X.K ea W a) := pss_one h1
theorem gso_cons (h1 : PS X s (tSO X.K ea W a)) (h2 : PSs X ss (tSO X.K ea W b)) : PSs X (s :: ss) (tSO X.K ea W (soSeq a b)) := (pss_cons h1 h2).weak fun D σ H h => by
  obtain ⟨G0, H0, G, st, x, rl, k⟩ := h
  refine ⟨G0, H0, G, st, x, rl, ?_⟩
  unfold soSeq at k
  cases q : a st with
  | nx st' =>
    rw [q] at k
    exact fun G' H' σ' x' rl' => ⟨G0, H0, G', st', x', rl', k⟩
  | _ => rw [q] at k; exact k
theorem gso_ret (he : PE X e (tE X.K ea W f)) : PS X (.Return (some e) pos) (tSO X.K ea W (soRet f)) := (ps_ret he).weak fun D σ H h => by
  obtain ⟨G0, H0, G, st, x, rl, k⟩ := h
  unfold soRet at k
  refine ⟨H0, G, st, rl, ?_⟩
  cases q : f st with
  | no => rw [q] at k; exact k
  | rs c => rw [q] at k; exact fun G' H' e => k G' H' σ (x.trans e) (rl.ext e)
  | ok d => rw [q] at k; exact fun G' H' e v dv => k v G' H' σ (x.trans e) (rl.ext e) dv
theorem gso_retO (he : PE X e (tEO X.K ea W g)) : PS X (.Return (some e) pos) (tSO X.K ea W (soRetO g)) := (ps_ret he).weak fun D σ H h => by
  obtain ⟨G0, H0, G, st, x, rl, k⟩ := h
  unfold soRetO at k
  refine ⟨G0, H0, G, st, x, rl, ?_⟩
  cases q : g st with
  | no => rw [q] at k; exact k
  | rs c st' => rw [q] at k; exact fun G' H' e r => k G' H' σ e r
  | ok d st' => rw [q] at k; exact fun v G' H' e r dv => k v G' H' σ e r dv
theorem gso_retOb {y : Str} {p : Pos} (j : Nat) (hN : X.N[j]? = some y) (hv : Vis X.env.scope y) (hd : (y == ("__debug__" : Str)) = false := by decide) (hcd : (y == ("__classdict__" : Str)) = false := by decide) : PS X (.Return (some (.Name y p)) pos) (tSO X.K ea W (soRetOb j)) := (ps_ret (pe_var hN hv hd hcd)).weak fun D σ H h => by
  obtain ⟨G0, H0, G, st, x, rl, k⟩ := h
  unfold soRetOb at k
  cases q : st[j]? with
  | none => rw [q] at k; exact k.elim
  | some sl =>
    rw [q] at k
    cases sl with
    | ob o =>
      obtain ⟨l, u, w, _⟩ := rl.own j _ q rfl
      exact ⟨.ref l, w, k (.ref l) G H σ x rl w⟩
    | _ => exact k.elim
end
def okM (d : D) (st : Store) : RM := match st[(0 : Nat)]? with
  | some (.ob o) => if o.me = true then .ok d (o.as false) else .no
  | _ => .no
def mkM2 (j : Nat) (st : Store) : RM := match st[(0 : Nat)]?, st[j]? with
  | some (.ob o), some (.ob o2) => if j ≠ 0 ∧ o.me = true ∧ o2.me = false then .mk (o.as false) o2 else .no
  | _, _ => .no
def rsM (c : PySem.Str) (st : Store) : RM := match st[(0 : Nat)]? with
  | some (.ob o) => if o.me = true then .rs c (o.as false) else .no
  | _ => .no
/-- a method of n arguments, Nn names, whose body does m -/
def mkM (n Nn : Nat) (m : MSO) : Ob → List D → RM := fun o ds => if ds.length = n then (match m (.ob (o.as true) :: (ds.map Slot.dat ++ List.replicate (Nn - (n + 1)) .un)) with
  | .nx st => okM .non st
  | .rt d st => okM d st
  | .ro j st => mkM2 j st
  | .rs c st => rsM c st
  | .no => .no) else .no
theorem rel_startO {K : Fr} {G H : Hp} {x dx t l1 l2 : Addr} {ws : List V} {ds : List D} {N : List Str} {o : Ob} (s : Ex G H) (d : Dens K G ws ds) (tb : LamX.Tabs Tb.T H) (tg : ∀ p ∈ Tb.T, G p.1 = none) (a : ObAt K G H x o dx t l1 l2) (hN : ws.length + 1 ≤ N.length) :
    Rel K ⟨x, []⟩ (hid H [x, l1, l2]) G H (start N (.ref x :: ws)) (.ob (o.as true) :: (ds.map Slot.dat ++ List.replicate (N.length - (ds.length + 1)) .un)) := by
  have r0 : Rel K ⟨x, []⟩ H G H (start N (.ref x :: ws)) (.dat (.adr x) :: (ds.map Slot.dat ++ List.replicate (N.length - (ds.length + 1)) .un)) := rel_start (ds := .adr x :: ds) s (.cons (.adr x) d) tb tg
  have p : (start N (.ref x :: ws))[0]? = some (some (.ref x)) := rfl
  have r1 := r0.take (i := 0) (fun j b z => by
    cases j with
    | zero => cases z; rfl
    | succ j =>
      rw [List.getElem?_cons_succ] at z
      rcases List.mem_append.mp (List.mem_of_getElem? z) with h | h
      · obtain ⟨q, _, rfl⟩ := List.mem_map.mp h
        rfl
      · rw [(List.mem_replicate.mp h).2]
        rfl) p (a.as false) rfl
  exact r1.remark (i := 0) (o := o.as false) rfl true (fun _ => p)
section
variable {P : Program} {w : World} {K : Fr} {mg : Str → Option Value} {base : Heap} {nm qual : Str} {params : Arguments} {body : List Stmt} {scope : Scope} {f : Addr} {fd : FuncData} {C : Str}
theorem def_okO (N ps : List Str) (k n Nn : Nat) (m : MSO) (hn : ps.length = n + 1) (hN : N.length = Nn) (hl : n + 1 ≤ Nn) (F : FunD K nm qual params body scope [] [] f fd) (S : FnScope N ps scope)
    (hb : ∀ (cdv : Value) (A : Around) (outer : List Env) (s : Shared) (H : Hp) (E : XK), Room k (A.deeper (envOfC qual scope s.heap.objs.size f cdv)) → ∀ W, Takes (cxOf (L2.CX P w) P w K mg base N qual scope f cdv A outer s H E) W →
      PassesOwn (model P w) (A.deeper (envOfC qual scope s.heap.objs.size f cdv)) (envOfC qual scope s.heap.objs.size f cdv) (cxOf (L2.CX P w) P w K mg base N qual scope f cdv A outer s H E).xe →
      ∀ x : Addr, PSs (cxOf (L2.CX P w) P w K mg base N qual scope f cdv A outer s H E) body (tSO K ⟨x, []⟩ W m)) :
    FnOk P w K mg base (L2.CX P w) (k + 1) f fd ps (spM K C n (mkM n Nn m)) := by
  subst hN
  refine F.ok S (fun vs H Q E h => ?_) fun cdv A outer s H vs Q E hr h => ?_
  · obtain ⟨x, ws, G, ds, o, dx, t, l1, l2, rfl, hw, _⟩ := h
    rw [List.length_cons, hw, hn]
  · obtain ⟨x, ws, G, ds, o, dx, t, l1, l2, rfl, hw, eC, oa, sx, tb, tg, dv, post⟩ := h
    refine ⟨_, hb cdv A outer s H E hr (fun cls d _ H => E cls d H) (takes_of rfl rfl rfl rfl) (passes_of rfl) x, ?_⟩
    have hds : ds.length = n := by rw [← dv.length]; exact hw
    refine ⟨G, hid H [x, l1, l2], G, _, ext_hid (Ext.refl sx), rel_startO (N := N) sx dv tb tg oa (by rw [hw]; exact hl), ?_⟩
    unfold mkM at post
    rw [if_pos hds] at post
    rw [hds]
    have e1 : (o.as false).as true = o.as true := rfl
    rw [e1] at post
    have okk : ∀ {d : D} {st : Store}, aftM K G H [x, l1, l2] x Q E (okM d st) → ∀ v G' H' σ', Ext G (hid H [x, l1, l2]) G' H' → Rel K ⟨x, []⟩ (hid H [x, l1, l2]) G' H' σ' st → Den K G' v d → Q v H' := fun {d st} post v G' H' σ' e r dd => by
      unfold okM at post
      cases q : st[0]? with
      | none => rw [q] at post; exact post.elim
      | some sl =>
        rw [q] at post
        cases sl with
        | ob o' =>
          simp only at post
          split at post
          · rename_i hme
            exact post v G' H' rfl e (r.end1 q hme) dd
          · exact post.elim
        | _ => exact post.elim
    cases z : m (.ob (o.as true) :: (ds.map Slot.dat ++ List.replicate (N.length - (n + 1)) .un)) with
    | nx st => rw [z] at post; exact fun G' H' σ' e r => okk post _ G' H' σ' e r .non
    | rt d st => rw [z] at post; exact fun v G' H' σ' e r dd => okk post v G' H' σ' e r dd
    | ro j st =>
      rw [z] at post
      intro v G' H' σ' e r hv
      simp only [mkM2] at post
      cases q : st[0]? with
      | none => rw [q] at post; exact post.elim
      | some sl =>
        rw [q] at post
        cases sl with
        | ob o' =>
          cases q2 : st[j]? with
          | none => rw [q2] at post; exact post.elim
          | some sl2 =>
            rw [q2] at post
            cases sl2 with
            | ob o2 =>
              simp only at post
              split at post
              · rename_i hc
                exact post v G' H' rfl hc.2.2 e (r.end2 q hc.2.1 hc.1 q2 hc.2.2 hv)
              · exact post.elim
            | _ => exact post.elim
        | _ => exact post.elim
    | rs c st =>
      rw [z] at post
      intro G' H' σ' e r
      simp only [rsM] at post
      cases q : st[0]? with
      | none => rw [q] at post; exact post.elim
      | some sl =>
        rw [q] at post
        cases sl with
        | ob o' =>
          simp only at post
          split at post
          · rename_i hme
            exact post G' H' rfl e (r.end1 q hme)
          · exact post.elim
        | _ => exact post.elim
    | no => rw [z] at post; exact post.elim
end
/-! ### statements on an object of one's own -/
def eObS (i : Nat) (C : Str) : ME := fun st => match st[i]? with
  | some (.ob o) => if o.C = C then .ok o.st else .no
  | _ => .no
def obSet (i : Nat) (C : Str) (st : Store) (g : Ob → Option Ob) : RS := match st[i]? with
  | some (.ob o) => if o.C = C then (match g o with
    | some o' => .nx (st.set i (.ob (o'.as o.me)))
    | none => .no) else .no
  | _ => .no
def mObSt (i : Nat) (C : Str) (f : ME) : MS := fun st => (f st).thn st fun d => obSet i C st fun o => match d with
  | .tup ds => some { o with st := .tup ds }
  | _ => none
def mObAppE (i : Nat) (C : Str) : MS := fun st => obSet i C st fun o => if o.ea.length < 1000 then some { o with ea := o.ea ++ [o.st] } else none
def mObAppL (i : Nat) (C : Str) : MS := fun st => obSet i C st fun o => if o.la.length < 1000 then some { o with la := o.la ++ [o.st] } else none
def mObNilL (i : Nat) (C : Str) : MS := fun st => obSet i C st fun o => some { o with la := [] }
def popOb (o : Ob) (xs : List D) (g : D → Ob) : Option Ob := match xs[xs.length - 1]? with
  | some (.tup ds) => some (g (.tup ds))
  | _ => none
def mObPopE (i : Nat) (C : Str) : MS := fun st => obSet i C st fun o => popOb o o.ea fun d => { o with st := d, ea := o.ea.dropLast }
def mObPopL (i : Nat) (C : Str) : MS := fun st => obSet i C st fun o => popOb o o.la fun d => { o with st := d, la := o.la.dropLast }
def obCp (i j : Nat) (C : Str) (st : Store) (g : Ob → Ob → Ob) : RS := match st[j]? with
  | some (.ob o2) => if o2.C = C then obSet i C st fun o => some (g o o2) else .no
  | _ => .no
def mObCpE (i j : Nat) (C : Str) : MS := fun st => obCp i j C st fun o o2 => { o with ea := o2.ea }
def mObCpL (i j : Nat) (C : Str) : MS := fun st => obCp i j C st fun o o2 => { o with la := o2.la }
theorem dens_last {K : Fr} {G : Hp} {vs : List V} {ds xs : List D} (h : Dens K G vs xs) (q : xs[xs.length - 1]? = some (.tup ds)) : ∃ t, vs[vs.length - 1]? = some (.ref t) ∧ Den K G (.ref t) (.tup ds) ∧ Dens K G vs.dropLast xs.dropLast := by
  obtain ⟨v, e1, e2⟩ := h.get q
  have hl := h.length
  cases e2 with
  | @tup t us _ hs hd =>
    refine ⟨t, by rw [hl]; exact e1, .tup hs hd, ?_⟩
    rw [List.dropLast_eq_take, List.dropLast_eq_take, hl]
    exact h.take _
section
variable {X : Cx} {fi : Fi} {W : WX} {C y z : Str} {i j : Nat} {e : Expr} {f : ME} {p p1 p2 p3 p4 p5 pos : Pos}
theorem g_obS (c : ClsK X.K C) (hN : X.N[i]? = some y) (hv : Vis X.env.scope y) (hd : (y == ("__debug__" : Str)) = false := by decide) (hcd : (y == ("__classdict__" : Str)) = false := by decide)
    (hb : attributeBase (.Name y p) "state" X.env (eval (.Name y p) X.env) = eval (.Name y p) X.env := by rfl) : PE X (.Attribute (.Name y p) "state" pos) (tE X.K fi W (eObS i C)) := (pe_fld (pe_var hN hv hd hcd) hb).weak fun σ H Q hq => by
  obtain ⟨H0, G, st, rl, k⟩ := hq
  unfold eObS at k
  cases q : st[i]? with
  | none => rw [q] at k; exact k.elim
  | some sl =>
    rw [q] at k
    cases sl with
    | ob o =>
      simp only at k
      split at k
      · rename_i hC
        subst hC
        obtain ⟨x, dx, t, l1, l2, px, oa, _⟩ := rl.obAt q
        exact ⟨.ref x, px, x, _, dx, _, .ref t, rfl, oa.hx, c.c, c.s, getS _ _ _, k _ _ (Ext.refl rl.s) _ oa.st⟩
      · exact k.elim
    | _ => exact k.elim
/-- a slot's object is asked for, and set -/
theorem obSet_spec {G0 H0 G H : Hp} {D : Ends} {σ : L2.St} {st : Store} {g : Ob → Option Ob} (x0 : Ext G0 H0 G H) (rl : Rel X.K fi H0 G H σ st) (k : aftS X.K fi W G0 H0 D (obSet i C st g)) : ∃ o o' x dx t l1 l2, st[i]? = some (.ob o) ∧ o.C = C ∧ g o = some o' ∧ σ[i]? = some (some (.ref x)) ∧ ObAt X.K G H x o dx t l1 l2 ∧
    ∀ {G' H' : Hp} {dx' t' m1 m2 : Addr}, Ext G (hid H [x, l1, l2]) G' H' → ObAt X.K G' H' x o' dx' t' m1 m2 → hid H [x, l1, l2] m1 = none → hid H [x, l1, l2] m2 = none → D.nx σ H' := by
  unfold obSet at k
  cases q : st[i]? with
  | none => rw [q] at k; exact k.elim
  | some sl =>
    rw [q] at k
    cases sl with
    | ob o =>
      simp only at k
      split at k
      · rename_i hC
        cases hg : g o with
        | none => rw [hg] at k; exact k.elim
        | some o' =>
          rw [hg] at k
          obtain ⟨x, dx, t, l1, l2, px, oa, _⟩ := rl.obAt q
          refine ⟨o, o', x, dx, t, l1, l2, rfl, hC, hg, px, oa, fun {G' H' dx' t' m1 m2} e a' n1 n2 => ?_⟩
          obtain ⟨e1, r1⟩ := rl.obSet x0 q px oa e a' n1 n2
          exact k G' H' σ e1 r1
      · exact k.elim
    | _ => exact k.elim
theorem hidx {H : Hp} {x l1 l2 : Addr} : hid H [x, l1, l2] x = none := hid_in List.mem_cons_self
theorem hid1 {H : Hp} {x l1 l2 : Addr} : hid H [x, l1, l2] l1 = none := hid_in (List.mem_cons_of_mem _ List.mem_cons_self)
theorem hid2 {H : Hp} {x l1 l2 : Addr} : hid H [x, l1, l2] l2 = none := hid_in (List.mem_cons_of_mem _ (List.mem_cons_of_mem _ List.mem_cons_self))
/-- the heap alone is written, at places that G does not know -/
theorem ext_wr {G H H' : Hp} {F : List Addr} (e : Ext G (hid H F) G H') {l : Addr} {o : HO} (h : hid H F l = none) (g : G l = none) (lo : Loose (H' l)) : Ext G (hid H F) G (upd H' l o) := e.wr h g lo
/-- y.state = e -/
theorem gs_obSt (c : ClsK X.K C) (hN : X.N[i]? = some y) (hv : Vis X.env.scope y) (he : PE X e (tE X.K fi W f)) (hs : swapsWith e (some (.Attribute (.Name y p) "state" p1)) pos.line X.env = pure false := by rfl) (hd : (y == ("__debug__" : Str)) = false := by decide) (hcd : (y == ("__classdict__" : Str)) = false := by decide) :
    PS X (.Assign [.Attribute (.Name y p) "state" p1] e pos) (tS X.K fi W (mObSt i C f)) := (ps_fld (pe_var hN hv hd hcd) he hs).weak fun D σ H h => by
  obtain ⟨G0, H0, G, st, x0, rl, k⟩ := h
  refine ⟨H0, G, st, rl, aft_mono (aftS_thn x0 rl k) fun d G1 H1 e1 k1 v dv => ?_⟩
  obtain ⟨o, o', x, dx, t, l1, l2, qi, hC, hg, px, oa, fin⟩ := obSet_spec (x0.trans e1) (rl.ext e1) k1
  subst hC
  refine ⟨.ref x, px, x, _, dx, _, rfl, oa.hx, c.c, c.s, by simp [fl3], ?_⟩
  cases d with
  | tup ds =>
    cases hg
    obtain ⟨t', rfl⟩ : ∃ t', v = .ref t' := by cases dv; exact ⟨_, rfl⟩
    rw [putS]
    obtain ⟨vs1, p1, q1⟩ := oa.e1
    obtain ⟨vs2, p2, q2⟩ := oa.e2
    exact fin (ext_wr (ext_hid (Ext.refl e1.s)) hidx oa.gx (by rw [oa.hx]; trivial)) ⟨upd_same, dv, ⟨vs1, by rw [upd_ne (Ne.symm oa.x1)]; exact p1, q1⟩, ⟨vs2, by rw [upd_ne (Ne.symm oa.x2)]; exact p2, q2⟩, oa.ne, oa.gx, oa.g1, oa.g2⟩ hid1 hid2
  | _ => cases hg
/-- y.earlier.append(y.state) -/
theorem gs_obAppE (c : ClsK X.K C) (hN : X.N[i]? = some y) (hv : Vis X.env.scope y) (hd : (y == ("__debug__" : Str)) = false := by decide) (hcd : (y == ("__classdict__" : Str)) = false := by decide)
    (hb1 : attributeBase (.Name y p) "earlier" X.env (eval (.Name y p) X.env) = eval (.Name y p) X.env := by rfl) (hb2 : attributeBase (.Name y p2) "state" X.env (eval (.Name y p2) X.env) = eval (.Name y p2) X.env := by rfl)
    (hbase : attributeBase (.Attribute (.Name y p) "earlier" p1) "append" X.env (eval (.Attribute (.Name y p) "earlier" p1) X.env) = eval (.Attribute (.Name y p) "earlier" p1) X.env := by rfl)
    (hfew : ((backTo p5 (starEach [.Attribute (.Name y p2) "state" p3] X.env)).all (fun x => !x.1) && (backToKw p5 (keywordEach [] X.env)).all (fun x => x.1.isSome) && decide ([Expr.Attribute (.Name y p2) "state" p3].length + ([] : List Keyword).length + (if ([] : List Keyword).isEmpty then 0 else 1) < 30)) = true := by rfl)
    (hline : (p4.endLine == p5.line) = true := by rfl) (h1 : starEach [.Attribute (.Name y p2) "state" p3] X.env = (false, eval (.Attribute (.Name y p2) "state" p3) X.env) :: starEach [] X.env := by rfl) (hplain : (backTo p5 (starEach [] X.env)).any (·.1) = false := by rfl)
    (hs : swapsWith (.Call (.Attribute (.Attribute (.Name y p) "earlier" p1) "append" p4) [.Attribute (.Name y p2) "state" p3] [] p5) none pos.line X.env = pure false := by rfl) :
    PS X (.Expr (.Call (.Attribute (.Attribute (.Name y p) "earlier" p1) "append" p4) [.Attribute (.Name y p2) "state" p3] [] p5) pos) (tS X.K fi W (mObAppE i C)) :=
  (ps_expr (pe_bm PySem.F.plainAttrs_list PySem.F.slot_list_append PySem.F.type_list_append mt_append (pe_fld (pe_var hN hv hd hcd) hb1) (pa_cons (pe_fld (pe_var hN hv hd hcd) hb2) pa_nil h1) hbase hfew hline h1 hplain) hs).weak fun D σ H h => by
    obtain ⟨G0, H0, G, st, x0, rl, k⟩ := h
    obtain ⟨o, o', x, dx, t, l1, l2, qi, hC, hg, px, oa, fin⟩ := obSet_spec x0 rl k
    subst hC
    split at hg
    · rename_i hlen
      cases hg
      obtain ⟨vs1, p1, q1⟩ := oa.e1
      obtain ⟨vs2, p2, q2⟩ := oa.e2
      refine ⟨.ref x, px, x, _, dx, _, .ref l1, rfl, oa.hx, c.c, c.e, getE _ _ _, .inl ⟨rfl, vs1, SqL.of p1⟩, .ref x, px, x, _, dx, _, .ref t, rfl, oa.hx, c.c, c.s, getS _ _ _, l1, vs1, .ref t, rfl, rfl, p1, szl' (by rw [q1.length]; omega), ?_⟩
      have hx2 : upd H l1 (.lst (vs1 ++ [.ref t])) x = some (.ins (He.ga X.K o.C) dx (fl3 t l1 l2)) := by rw [upd_ne oa.x1]; exact oa.hx
      exact fin (ext_wr (ext_hid (Ext.refl rl.s)) hid1 oa.g1 (by rw [p1]; trivial)) ⟨hx2, oa.st, ⟨vs1 ++ [.ref t], upd_same, q1.append (.cons oa.st .nil)⟩, ⟨vs2, by rw [upd_ne (Ne.symm oa.ne)]; exact p2, q2⟩, oa.ne, oa.gx, oa.g1, oa.g2⟩ hid1 hid2
    · cases hg
/-- y.state = y.earlier.pop() -/
theorem gs_obPopE (c : ClsK X.K C) (hN : X.N[i]? = some y) (hv : Vis X.env.scope y) (hd : (y == ("__debug__" : Str)) = false := by decide) (hcd : (y == ("__classdict__" : Str)) = false := by decide)
    (hb1 : attributeBase (.Name y p2) "earlier" X.env (eval (.Name y p2) X.env) = eval (.Name y p2) X.env := by rfl)
    (hbase : attributeBase (.Attribute (.Name y p2) "earlier" p3) "pop" X.env (eval (.Attribute (.Name y p2) "earlier" p3) X.env) = eval (.Attribute (.Name y p2) "earlier" p3) X.env := by rfl)
    (hline : (p4.endLine == p5.line) = true := by rfl)
    (hs : swapsWith (.Call (.Attribute (.Attribute (.Name y p2) "earlier" p3) "pop" p4) [] [] p5) (some (.Attribute (.Name y p) "state" p1)) pos.line X.env = pure false := by rfl) :
    PS X (.Assign [.Attribute (.Name y p) "state" p1] (.Call (.Attribute (.Attribute (.Name y p2) "earlier" p3) "pop" p4) [] [] p5) pos) (tS X.K fi W (mObPopE i C)) :=
  (ps_fld (pe_var hN hv hd hcd) (pe_bm0 PySem.F.plainAttrs_list PySem.F.slot_list_pop PySem.F.type_list_pop mt_pop (pe_fld (pe_var hN hv hd hcd) hb1) hbase hline) hs).weak fun D σ H h => by
    obtain ⟨G0, H0, G, st, x0, rl, k⟩ := h
    obtain ⟨o, o', x, dx, t, l1, l2, qi, hC, hg, px, oa, fin⟩ := obSet_spec x0 rl k
    subst hC
    unfold popOb at hg
    split at hg
    · rename_i ds hla
      cases hg
      obtain ⟨vs1, p1, q1⟩ := oa.e1
      obtain ⟨vs2, p2, q2⟩ := oa.e2
      obtain ⟨t', y1, y2, y3⟩ := dens_last q1 hla
      refine ⟨.ref x, px, x, _, dx, _, .ref l1, rfl, oa.hx, c.c, c.e, getE _ _ _, .inl ⟨rfl, vs1, SqL.of p1⟩, l1, vs1, .ref t', rfl, rfl, p1, y1, ?_⟩
      have hx2 : upd H l1 (.lst vs1.dropLast) x = some (.ins (He.ga X.K o.C) dx (fl3 t l1 l2)) := by rw [upd_ne oa.x1]; exact oa.hx
      refine ⟨.ref x, px, x, _, dx, _, rfl, hx2, c.c, c.s, by simp [fl3], ?_⟩
      rw [putS]
      exact fin (ext_wr (ext_wr (ext_hid (Ext.refl rl.s)) hid1 oa.g1 (by rw [p1]; trivial)) hidx oa.gx (by rw [hx2]; trivial)) ⟨upd_same, y2, ⟨vs1.dropLast, by rw [upd_ne (Ne.symm oa.x1), upd_same], y3⟩, ⟨vs2, by rw [upd_ne (Ne.symm oa.x2), upd_ne (Ne.symm oa.ne)]; exact p2, q2⟩, oa.ne, oa.gx, oa.g1, oa.g2⟩ hid1 hid2
    · cases hg
/-- y.earlier = list(z.earlier) -/
theorem gs_obCpE (c : ClsK X.K C) (hij : i ≠ j) (hl : X.mg "list" = none) (hN : X.N[i]? = some y) (hv : Vis X.env.scope y) (hNz : X.N[j]? = some z) (hvz : Vis X.env.scope z) (hd : (y == ("__debug__" : Str)) = false := by decide) (hcd : (y == ("__classdict__" : Str)) = false := by decide)
    (hdz : (z == ("__debug__" : Str)) = false := by decide) (hcdz : (z == ("__classdict__" : Str)) = false := by decide) (hb1 : attributeBase (.Name z p2) "earlier" X.env (eval (.Name z p2) X.env) = eval (.Name z p2) X.env := by rfl) (hg : Gl X "list" := by rfl)
    (he : starEach [.Attribute (.Name z p2) "earlier" p3] X.env = (false, eval (.Attribute (.Name z p2) "earlier" p3) X.env) :: starEach [] X.env := by rfl) (hpl : (backTo p5 (starEach [] X.env)).any (·.1) = false := by rfl)
    (hs : swapsWith (.Call (.Name "list" p4) [.Attribute (.Name z p2) "earlier" p3] [] p5) (some (.Attribute (.Name y p) "earlier" p1)) pos.line X.env = pure false := by rfl) :
    PS X (.Assign [.Attribute (.Name y p) "earlier" p1] (.Call (.Name "list" p4) [.Attribute (.Name z p2) "earlier" p3] [] p5) pos) (tS X.K fi W (mObCpE i j C)) :=
  (ps_fld (pe_var hN hv hd hcd) (pe_callTy call_list_of hg hl bo_list (pa_cons (pe_fld (pe_var hNz hvz hdz hcdz) hb1) pa_nil he) (by decide) (by decide) he hpl) hs).weak fun D σ H h => by
    obtain ⟨G0, H0, G, st, x0, rl, k⟩ := h
    unfold mObCpE obCp at k
    cases qj : st[j]? with
    | none => rw [qj] at k; exact k.elim
    | some sl =>
      rw [qj] at k
      cases sl with
      | ob oz =>
        simp only at k
        split at k
        · rename_i hCz
          obtain ⟨o, o', x, dx, t, l1, l2, qi, hC, hg, px, oa, fin⟩ := obSet_spec x0 rl k
          cases hg
          subst hC
          obtain ⟨xz, dz, tz, k1, k2, pz, oz1, _⟩ := rl.obAt qj
          have hxz := oz1.hx
          rw [hCz] at hxz
          obtain ⟨vz1, pz1, qz1⟩ := oz1.e1
          obtain ⟨vz2, pz2, qz2⟩ := oz1.e2
          obtain ⟨vs1, p1, q1⟩ := oa.e1
          obtain ⟨vs2, p2, q2⟩ := oa.e2
          refine ⟨.ref xz, pz, xz, _, dz, _, .ref k1, rfl, hxz, c.c, c.e, getE _ _ _, k1, vz1, rfl, .inl (SqL.of pz1), fun m nm => ?_⟩
          have xm : x ≠ m := ne_of_none oa.hx nm
          have m1 : l1 ≠ m := ne_of_none p1 nm
          have m2 : l2 ≠ m := ne_of_none p2 nm
          have hx2 : upd H m (.lst vz1) x = some (.ins (He.ga X.K o.C) dx (fl3 t l1 l2)) := by rw [upd_ne xm]; exact oa.hx
          refine ⟨.ref x, px, x, _, dx, _, rfl, hx2, c.c, c.e, by simp [fl3], ?_⟩
          rw [putE]
          have gm : G m = none := rl.s.back nm
          exact fin (ext_wr (ext_wr (ext_hid (Ext.refl rl.s)) (hid_none nm) gm (by rw [nm]; trivial)) hidx oa.gx (by rw [hx2]; trivial)) ⟨upd_same, oa.st, ⟨vz1, by rw [upd_ne (Ne.symm xm), upd_same], qz1⟩, ⟨vs2, by rw [upd_ne (Ne.symm oa.x2), upd_ne m2]; exact p2, q2⟩, (Ne.symm m2), oa.gx, gm, oa.g2⟩ (hid_none nm) hid2
        · exact k.elim
      | _ => exact k.elim
/-- y.later.append(y.state) -/
theorem gs_obAppL (c : ClsK X.K C) (hN : X.N[i]? = some y) (hv : Vis X.env.scope y) (hd : (y == ("__debug__" : Str)) = false := by decide) (hcd : (y == ("__classdict__" : Str)) = false := by decide)
    (hb1 : attributeBase (.Name y p) "later" X.env (eval (.Name y p) X.env) = eval (.Name y p) X.env := by rfl) (hb2 : attributeBase (.Name y p2) "state" X.env (eval (.Name y p2) X.env) = eval (.Name y p2) X.env := by rfl)
    (hbase : attributeBase (.Attribute (.Name y p) "later" p1) "append" X.env (eval (.Attribute (.Name y p) "later" p1) X.env) = eval (.Attribute (.Name y p) "later" p1) X.env := by rfl)
    (hfew : ((backTo p5 (starEach [.Attribute (.Name y p2) "state" p3] X.env)).all (fun x => !x.1) && (backToKw p5 (keywordEach [] X.env)).all (fun x => x.1.isSome) && decide ([Expr.Attribute (.Name y p2) "state" p3].length + ([] : List Keyword).length + (if ([] : List Keyword).isEmpty then 0 else 1) < 30)) = true := by rfl)
    (hline : (p4.endLine == p5.line) = true := by rfl) (h1 : starEach [.Attribute (.Name y p2) "state" p3] X.env = (false, eval (.Attribute (.Name y p2) "state" p3) X.env) :: starEach [] X.env := by rfl) (hplain : (backTo p5 (starEach [] X.env)).any (·.1) = false := by rfl)
    (hs : swapsWith (.Call (.Attribute (.Attribute (.Name y p) "later" p1) "append" p4) [.Attribute (.Name y p2) "state" p3] [] p5) none pos.line X.env = pure false := by rfl) :
    PS X (.Expr (.Call (.Attribute (.Attribute (.Name y p) "later" p1) "append" p4) [.Attribute (.Name y p2) "state" p3] [] p5) pos) (tS X.K fi W (mObAppL i C)) :=
  (ps_expr (pe_bm PySem.F.plainAttrs_list PySem.F.slot_list_append PySem.F.type_list_append mt_append (pe_fld (pe_var hN hv hd hcd) hb1) (pa_cons (pe_fld (pe_var hN hv hd hcd) hb2) pa_nil h1) hbase hfew hline h1 hplain) hs).weak fun D σ H h => by
    obtain ⟨G0, H0, G, st, x0, rl, k⟩ := h
    obtain ⟨o, o', x, dx, t, l1, l2, qi, hC, hg, px, oa, fin⟩ := obSet_spec x0 rl k
    subst hC
    split at hg
    · rename_i hlen
      cases hg
      obtain ⟨vs1, p1, q1⟩ := oa.e1
      obtain ⟨vs2, p2, q2⟩ := oa.e2
      refine ⟨.ref x, px, x, _, dx, _, .ref l2, rfl, oa.hx, c.c, c.l, getL _ _ _, .inl ⟨rfl, vs2, SqL.of p2⟩, .ref x, px, x, _, dx, _, .ref t, rfl, oa.hx, c.c, c.s, getS _ _ _, l2, vs2, .ref t, rfl, rfl, p2, szl' (by rw [q2.length]; omega), ?_⟩
      have hx2 : upd H l2 (.lst (vs2 ++ [.ref t])) x = some (.ins (He.ga X.K o.C) dx (fl3 t l1 l2)) := by rw [upd_ne oa.x2]; exact oa.hx
      exact fin (ext_wr (ext_hid (Ext.refl rl.s)) hid2 oa.g2 (by rw [p2]; trivial)) ⟨hx2, oa.st, ⟨vs1, by rw [upd_ne oa.ne]; exact p1, q1⟩, ⟨vs2 ++ [.ref t], upd_same, q2.append (.cons oa.st .nil)⟩, oa.ne, oa.gx, oa.g1, oa.g2⟩ hid1 hid2
    · cases hg
/-- y.state = y.later.pop() -/
theorem gs_obPopL (c : ClsK X.K C) (hN : X.N[i]? = some y) (hv : Vis X.env.scope y) (hd : (y == ("__debug__" : Str)) = false := by decide) (hcd : (y == ("__classdict__" : Str)) = false := by decide)
    (hb1 : attributeBase (.Name y p2) "later" X.env (eval (.Name y p2) X.env) = eval (.Name y p2) X.env := by rfl)
    (hbase : attributeBase (.Attribute (.Name y p2) "later" p3) "pop" X.env (eval (.Attribute (.Name y p2) "later" p3) X.env) = eval (.Attribute (.Name y p2) "later" p3) X.env := by rfl)
    (hline : (p4.endLine == p5.line) = true := by rfl)
    (hs : swapsWith (.Call (.Attribute (.Attribute (.Name y p2) "later" p3) "pop" p4) [] [] p5) (some (.Attribute (.Name y p) "state" p1)) pos.line X.env = pure false := by rfl) :
    PS X (.Assign [.Attribute (.Name y p) "state" p1] (.Call (.Attribute (.Attribute (.Name y p2) "later" p3) "pop" p4) [] [] p5) pos) (tS X.K fi W (mObPopL i C)) :=
  (ps_fld (pe_var hN hv hd hcd) (pe_bm0 PySem.F.plainAttrs_list PySem.F.slot_list_pop PySem.F.type_list_pop mt_pop (pe_fld (pe_var hN hv hd hcd) hb1) hbase hline) hs).weak fun D σ H h => by
    obtain ⟨G0, H0, G, st, x0, rl, k⟩ := h
    obtain ⟨o, o', x, dx, t, l1, l2, qi, hC, hg, px, oa, fin⟩ := obSet_spec x0 rl k
    subst hC
    unfold popOb at hg
    split at hg
    · rename_i ds hla
      cases hg
      obtain ⟨vs1, p1, q1⟩ := oa.e1
      obtain ⟨vs2, p2, q2⟩ := oa.e2
      obtain ⟨t', y1, y2, y3⟩ := dens_last q2 hla
      refine ⟨.ref x, px, x, _, dx, _, .ref l2, rfl, oa.hx, c.c, c.l, getL _ _ _, .inl ⟨rfl, vs2, SqL.of p2⟩, l2, vs2, .ref t', rfl, rfl, p2, y1, ?_⟩
      have hx2 : upd H l2 (.lst vs2.dropLast) x = some (.ins (He.ga X.K o.C) dx (fl3 t l1 l2)) := by rw [upd_ne oa.x2]; exact oa.hx
      refine ⟨.ref x, px, x, _, dx, _, rfl, hx2, c.c, c.s, by simp [fl3], ?_⟩
      rw [putS]
      exact fin (ext_wr (ext_wr (ext_hid (Ext.refl rl.s)) hid2 oa.g2 (by rw [p2]; trivial)) hidx oa.gx (by rw [hx2]; trivial)) ⟨upd_same, y2, ⟨vs1, by rw [upd_ne (Ne.symm oa.x1), upd_ne oa.ne]; exact p1, q1⟩, ⟨vs2.dropLast, by rw [upd_ne (Ne.symm oa.x2), upd_same], y3⟩, oa.ne, oa.gx, oa.g1, oa.g2⟩ hid1 hid2
    · cases hg
/-- y.later = list(z.later) -/
theorem gs_obCpL (c : ClsK X.K C) (hij : i ≠ j) (hl : X.mg "list" = none) (hN : X.N[i]? = some y) (hv : Vis X.env.scope y) (hNz : X.N[j]? = some z) (hvz : Vis X.env.scope z) (hd : (y == ("__debug__" : Str)) = false := by decide) (hcd : (y == ("__classdict__" : Str)) = false := by decide)
    (hdz : (z == ("__debug__" : Str)) = false := by decide) (hcdz : (z == ("__classdict__" : Str)) = false := by decide) (hb1 : attributeBase (.Name z p2) "later" X.env (eval (.Name z p2) X.env) = eval (.Name z p2) X.env := by rfl) (hg : Gl X "list" := by rfl)
    (he : starEach [.Attribute (.Name z p2) "later" p3] X.env = (false, eval (.Attribute (.Name z p2) "later" p3) X.env) :: starEach [] X.env := by rfl) (hpl : (backTo p5 (starEach [] X.env)).any (·.1) = false := by rfl)
    (hs : swapsWith (.Call (.Name "list" p4) [.Attribute (.Name z p2) "later" p3] [] p5) (some (.Attribute (.Name y p) "later" p1)) pos.line X.env = pure false := by rfl) :
    PS X (.Assign [.Attribute (.Name y p) "later" p1] (.Call (.Name "list" p4) [.Attribute (.Name z p2) "later" p3] [] p5) pos) (tS X.K fi W (mObCpL i j C)) :=
  (ps_fld (pe_var hN hv hd hcd) (pe_callTy call_list_of hg hl bo_list (pa_cons (pe_fld (pe_var hNz hvz hdz hcdz) hb1) pa_nil he) (by decide) (by decide) he hpl) hs).weak fun D σ H h => by
    obtain ⟨G0, H0, G, st, x0, rl, k⟩ := h
    unfold mObCpL obCp at k
    cases qj : st[j]? with
    | none => rw [qj] at k; exact k.elim
    | some sl =>
      rw [qj] at k
      cases sl with
      | ob oz =>
        simp only at k
        split at k
        · rename_i hCz
          obtain ⟨o, o', x, dx, t, l1, l2, qi, hC, hg, px, oa, fin⟩ := obSet_spec x0 rl k
          cases hg
          subst hC
          obtain ⟨xz, dz, tz, k1, k2, pz, oz1, _⟩ := rl.obAt qj
          have hxz := oz1.hx
          rw [hCz] at hxz
          obtain ⟨vz1, pz1, qz1⟩ := oz1.e1
          obtain ⟨vz2, pz2, qz2⟩ := oz1.e2
          obtain ⟨vs1, p1, q1⟩ := oa.e1
          obtain ⟨vs2, p2, q2⟩ := oa.e2
          refine ⟨.ref xz, pz, xz, _, dz, _, .ref k2, rfl, hxz, c.c, c.l, getL _ _ _, k2, vz2, rfl, .inl (SqL.of pz2), fun m nm => ?_⟩
          have xm : x ≠ m := ne_of_none oa.hx nm
          have m1 : l1 ≠ m := ne_of_none p1 nm
          have m2 : l2 ≠ m := ne_of_none p2 nm
          have hx2 : upd H m (.lst vz2) x = some (.ins (He.ga X.K o.C) dx (fl3 t l1 l2)) := by rw [upd_ne xm]; exact oa.hx
          refine ⟨.ref x, px, x, _, dx, _, rfl, hx2, c.c, c.l, by simp [fl3], ?_⟩
          rw [putL]
          have gm : G m = none := rl.s.back nm
          exact fin (ext_wr (ext_wr (ext_hid (Ext.refl rl.s)) (hid_none nm) gm (by rw [nm]; trivial)) hidx oa.gx (by rw [hx2]; trivial)) ⟨upd_same, oa.st, ⟨vs1, by rw [upd_ne (Ne.symm oa.x1), upd_ne m1]; exact p1, q1⟩, ⟨vz2, by rw [upd_ne (Ne.symm xm), upd_same], qz2⟩, m1, oa.gx, oa.g1, gm⟩ hid1 (hid_none nm)
        · exact k.elim
      | _ => exact k.elim
/-- y.later = [] -/
theorem gs_obNilL (c : ClsK X.K C) (hN : X.N[i]? = some y) (hv : Vis X.env.scope y) (hd : (y == ("__debug__" : Str)) = false := by decide) (hcd : (y == ("__classdict__" : Str)) = false := by decide) (hs : swapsWith (.List [] p2) (some (.Attribute (.Name y p) "later" p1)) pos.line X.env = pure false := by rfl) :
    PS X (.Assign [.Attribute (.Name y p) "later" p1] (.List [] p2) pos) (tS X.K fi W (mObNilL i C)) := (ps_fld (pe_var hN hv hd hcd) (pe_lst pa_nil) hs).weak fun D σ H h => by
  obtain ⟨G0, H0, G, st, x0, rl, k⟩ := h
  obtain ⟨o, o', x, dx, t, l1, l2, qi, hC, hg, px, oa, fin⟩ := obSet_spec x0 rl k
  subst hC
  cases hg
  obtain ⟨vs1, p1, q1⟩ := oa.e1
  refine ⟨szl (by simp), fun m nm => ?_⟩
  have xm : x ≠ m := ne_of_none oa.hx nm
  have m1 : l1 ≠ m := ne_of_none p1 nm
  have hx2 : upd H m (.lst []) x = some (.ins (He.ga X.K o.C) dx (fl3 t l1 l2)) := by rw [upd_ne xm]; exact oa.hx
  refine ⟨.ref x, px, x, _, dx, _, rfl, hx2, c.c, c.l, by simp [fl3], ?_⟩
  rw [putL]
  have gm : G m = none := rl.s.back nm
  exact fin (ext_wr (ext_wr (ext_hid (Ext.refl rl.s)) (hid_none nm) gm (by rw [nm]; trivial)) hidx oa.gx (by rw [hx2]; trivial)) ⟨upd_same, oa.st, ⟨vs1, by rw [upd_ne (Ne.symm oa.x1), upd_ne m1]; exact p1, q1⟩, ⟨[], by rw [upd_ne (Ne.symm xm), upd_same], .nil⟩, m1, oa.gx, oa.g1, gm⟩ hid1 (hid_none nm)
end
end Pg

namespace Pg
open PySem PySem.Spec PyProof.Rows L2
variable [Tb]
/-! ### new objects of one's own -/
def newOb (C : Str) (d : D) : Ob := ⟨C, .tup [d, .int 0], [], [], false⟩
theorem hid_nil {H : Hp} : hid H [] = H := funext fun a => hid_out (by simp)
/-- C(e): behind it a new object stands beside what the store holds -/
def tNewO (K : Fr) (fi : Fi) (W : WX) (C : Str) (F : List D → R D) (a : MA) : TE := fun σ H Q => ∃ G0 H0 G st vs0 ss0, Ext G0 H0 G H ∧ st.length = σ.length ∧ Rel K fi H0 G H (σ ++ vs0.map some) (st ++ ss0) ∧ match a st with
  | .ok [d] => (match F [d] with
    | .ok _ => ∀ x G' H', Ext G0 H0 G' H' → Rel K fi H0 G' H' (σ ++ (vs0 ++ [V.ref x]).map some) (st ++ (ss0 ++ [.ob (newOb C d)])) → Q (V.ref x) H'
    | .rs c => ∀ G' H', Ext G0 H0 G' H' → Rel K fi H0 G' H' σ st → W (.ref (He.ga K c)) none σ H'
    | .no => False)
  | .rs c => ∀ G' H', Ext G0 H0 G' H' → Rel K fi H0 G' H' σ st → W (.ref (He.ga K c)) none σ H'
  | _ => False
section
variable {X : Cx} {fi : Fi} {W : WX} {C x : Str} {k : Nat} {F : List D → R D} {e : Expr} {es : List Expr} {a : MA} {pos p : Pos}
theorem g_newO (df : NewK X.prog X.w X.K X.mg X.base C k F) (hr : Room (k + 1) X.A) (tk : Takes X W) (ha : PA X [e] (tA X.K fi W a)) (hg : Gl X C := by rfl) (hdb : (C == ("__debug__" : Str)) = false := by decide)
    (he : starEach [e] X.env = (false, eval e X.env) :: starEach [] X.env := by rfl) (hpl : (backTo pos (starEach [] X.env)).any (·.1) = false := by rfl) : PE X (.Call (.Name C p) [e] [] pos) (tNewO X.K fi W C F a) := by
  obtain ⟨f, fd, M, Fn, hb⟩ := df.ex
  refine ⟨fun pins s σ H Q I hq => ?_⟩
  obtain ⟨G0, H0, G, st, vs0, ss0, x0, hl, rl, q⟩ := hq
  refine wpAny_Call_Name_kw (ld_glob I hg df.mc ?_ hdb)
  refine PySem.W.callWith_K (h₀ := X.base) I.ok.mod.kin M.kp (thn (ha.run pos pins s σ H (fun vs H1 => ∃ v G1 d, vs = [v] ∧ Ext G H G1 H1 ∧ Den X.K G1 v d ∧ (match F [d] with
    | .ok _ => ∀ x G' H', Ext G0 H0 G' H' → Rel X.K fi H0 G' H' (σ ++ (vs0 ++ [V.ref x]).map some) (st ++ (ss0 ++ [.ob (newOb C d)])) → Q (V.ref x) H'
    | .rs c => ∀ G' H', Ext G0 H0 G' H' → Rel X.K fi H0 G' H' σ st → W (Value.ref (He.ga X.K c)) none σ H'
    | .no => False)) I ⟨H0, G, st, rl.left hl, ?_⟩) fun us s1 ⟨vs, H1, I1, r, v, G1, d, ev, e1, dv, a1⟩ => ⟨I1.kIn, ?_⟩) he hpl
  · cases z : a st with
    | no => rw [z] at q; exact q.elim
    | rs c => rw [z] at q; exact fun G' H' e => q G' H' (x0.trans e) ((rl.left hl).ext e)
    | ok xs =>
      rw [z] at q
      match xs, q with
      | [d], q =>
        intro G1 H1 e1 vs dvs
        obtain ⟨v, rfl, dv⟩ := one_inv dvs
        exact ⟨v, G1, d, rfl, e1, dv, q⟩
  · subst ev
    cases r with
    | @cons _ u _ _ ru rr =>
      cases rr
      refine make_at (E := WE W σ) M Fn hr hb (passAt tk σ) I1 ru fun x dx nx nd ne => ?_
      have x1 := x0.trans e1
      have rl1 := rl.ext e1
      have xd : x ≠ dx := fun z => ne z.symm
      have ex : Ex G1 (upd (upd H1 dx (.own x)) x (.ins (He.ga X.K C) dx [])) := fun b o z => by
        have y := e1.s b o z
        rw [upd_ne (ne_of_none y nx), upd_ne (ne_of_none y nd)]
        exact y
      have h2 : XH H1 (hide (upd (upd H1 dx (.own x)) x (.ins (He.ga X.K C) dx [])) x) := XH.of fun b o z => by
        rw [hide_ne (ne_of_none z nx), upd_ne (ne_of_none z nx), upd_ne (ne_of_none z nd)]
        exact z
      have gx : G1 x = none := e1.s.back nx
      refine ⟨x, dx, v, G1, d, rfl, upd_same, ex, gx, fun p hp => ?_, rl1.tg, dv, ?_⟩
      · exact tabS_upd (tabS_upd (rl1.tb p hp) (by rw [nd]; trivial)) (by rw [upd_ne xd, nx]; trivial)
      · have fre : ∀ b, Fre (hide (upd (upd H1 dx (.own x)) x (.ins (He.ga X.K C) dx [])) x) b → Fre H1 b := fun b f => by
          by_cases z : b = x
          · subst z
            exact .inl nx
          · rcases f with f | ⟨qq, f⟩
            · rw [hide_ne z, upd_ne z] at f
              by_cases y : b = dx
              · subst y
                exact .inl nd
              · rw [upd_ne y] at f
                exact .inl f
            · rw [hide_ne z, upd_ne z] at f
              by_cases y : b = dx
              · subst y
                exact .inl nd
              · rw [upd_ne y] at f
                exact .inr ⟨qq, f⟩
        have toE : ∀ {G' H' : Hp}, Ext G1 (hide (upd (upd H1 dx (.own x)) x (.ins (He.ga X.K C) dx [])) x) G' H' → Ext G1 H1 G' H' := fun e2 => ⟨e2.g, h2.trans e2.h, e2.s, fun b o y n => fre b (e2.n b o y n)⟩
        cases z : F [d] with
        | no => rw [z] at a1; exact a1
        | rs c =>
          rw [z] at a1
          exact fun G' H' e2 => a1 G' H' (x1.trans (toE e2)) ((rl1.left hl).ext (toE e2))
        | ok d0 =>
          rw [z] at a1
          intro G' H' t v' l1 l2 e2 gt dv' nl1 nl2 ll g1 g2 g3 hl1 hl2 hx
          refine ⟨rfl, ?_⟩
          have xl1 : x ≠ l1 := fun y => by rw [← y, upd_same] at nl1; cases nl1
          have xl2 : x ≠ l2 := fun y => by rw [← y, upd_same] at nl2; cases nl2
          have n1 : H1 l1 = none := by
            rw [upd_ne (Ne.symm xl1)] at nl1
            by_cases y : l1 = dx
            · rw [y, upd_same] at nl1; cases nl1
            · rw [upd_ne y] at nl1; exact nl1
          have n2 : H1 l2 = none := by
            rw [upd_ne (Ne.symm xl2)] at nl2
            by_cases y : l2 = dx
            · rw [y, upd_same] at nl2; cases nl2
            · rw [upd_ne y] at nl2; exact nl2
          have e3 := toE e2
          have oa : ObAt X.K G' H' x (newOb C d) dx t l1 l2 := ⟨hx, .tup (SqT.of gt) (.cons dv' (.cons (.int 0) .nil)), ⟨[], hl1, .nil⟩, ⟨[], hl2, .nil⟩, ll, g3, g1, g2⟩
          have r3 := rl1.ext e3
          have r1 : Rel X.K fi0 H1 G' H' [some (.ref x)] [.ob (newOb C d)] := rel_ob1 e3.s r3.tb r3.tg oa nx n1 n2 rfl
          have r4 := rl1.frame (F := []) (fun y h => by cases h) (fun _ _ _ _ _ _ h => by cases h) (fun _ _ _ h => by cases h) x1.h (by rw [hid_nil]; exact e3) (by rw [hid_nil]; exact r1) rfl
          rw [List.append_assoc, List.append_assoc] at r4
          exact a1 x G' H' (x1.trans e3) (by rw [List.map_append]; exact r4)
/-- y = C(e), an object of one's own -/
def mNewO (i : Nat) (C : Str) (F : List D → R D) (a : MA) : MS := fun st => match a st with
  | .ok [d] => (match F [d] with
    | .ok _ => if i < st.length then .nx (st.set i (.ob (newOb C d))) else .no
    | .rs c => .rs c st
    | .no => .no)
  | .rs c => .rs c st
  | _ => .no
theorem gs_newO {i : Nat} {y : Str} {py pos0 : Pos} (df : NewK X.prog X.w X.K X.mg X.base C k F) (hr : Room (k + 1) X.A) (tk : Takes X W) (ha : PA X [e] (tA X.K fi W a)) (hnd : X.N.Nodup) (hj : X.N[i]? = some y) (hz : Loc X.env.scope y) (hg : Gl X C := by rfl) (hdb : (C == ("__debug__" : Str)) = false := by decide)
    (he : starEach [e] X.env = (false, eval e X.env) :: starEach [] X.env := by rfl) (hpl : (backTo pos (starEach [] X.env)).any (·.1) = false := by rfl) (hs : swapsWith (.Call (.Name C p) [e] [] pos) (some (.Name y py)) pos0.line X.env = pure false := by rfl)
    (hf : X.fn y = true ∨ X.env.scope.names.lookup y = some .local := by first | exact .inl rfl | exact .inr rfl | assumption) :
    PS X (.Assign [.Name y py] (.Call (.Name C p) [e] [] pos) pos0) (tS X.K fi W (mNewO i C F a)) := (ps_set hnd hj hz (g_newO df hr tk ha hg hdb he hpl) hs hf).weak fun D σ H h => by
  obtain ⟨G0, H0, G, st, x0, rl, q⟩ := h
  refine ⟨G0, H0, G, st, [], [], x0, rl.len, by simpa using rl, ?_⟩
  unfold mNewO at q
  cases z : a st with
  | no => rw [z] at q; exact q
  | rs c => rw [z] at q; exact fun G' H' e r => q G' H' σ e r
  | ok xs =>
    rw [z] at q
    match xs, q with
    | [d], q =>
      simp only at q ⊢
      cases z2 : F [d] with
      | no => rw [z2] at q; exact q
      | rs c => rw [z2] at q; exact fun G' H' e r => q G' H' σ e r
      | ok d0 =>
        rw [z2] at q
        intro x G' H' e r
        simp only at q
        split at q
        · rename_i hi
          have r2 := Rel.mv (τ := []) (ss := []) (i := i) (by simpa using r) rl.len hi
          rw [List.append_nil, List.append_nil] at r2
          exact q G' H' _ e r2
        · exact q.elim
/-- in a parallel assignment -/
def qNew (C : Str) (F : List D → R D) (a : MA) (g : MQ) : MQ := fun st => match a st with
  | .ok [d] => (F [d]).bind fun _ => (g st).bind fun ss => .ok (.ob (newOb C d) :: ss)
  | .rs c => .rs c
  | _ => .no
theorem tQ_new {g : MQ} : ∀ σ H Q, tQ X.K fi W (qNew C F a g) σ H Q → tCons (tNewO X.K fi W C F a) (tQ X.K fi W g) σ H Q := fun σ H Q h => by
  obtain ⟨G0, H0, G, st, vs0, ss0, x, hl, rl, k⟩ := h
  refine ⟨G0, H0, G, st, vs0, ss0, x, hl, rl, ?_⟩
  unfold qNew at k
  cases z : a st with
  | no => rw [z] at k; exact k
  | rs c => rw [z] at k; exact k
  | ok xs =>
    rw [z] at k
    match xs, k with
    | [d], k =>
      simp only at k ⊢
      cases z2 : F [d] with
      | no => rw [z2] at k; exact k
      | rs c => rw [z2] at k; exact k
      | ok d0 =>
        rw [z2] at k
        simp only [R.bind] at k
        intro y G' H' e r
        refine ⟨G0, H0, G', st, vs0 ++ [.ref y], ss0 ++ [.ob (newOb C d)], e, hl, r, ?_⟩
        cases z3 : g st with
        | no => rw [z3] at k; exact k
        | rs c => rw [z3] at k; exact k
        | ok ss =>
          rw [z3] at k
          intro vs G2 H2 e2 hv r2
          refine k (.ref y :: vs) G2 H2 e2 (by simp [hv]) ?_
          rw [List.append_assoc, List.append_assoc] at r2
          exact r2
theorem gq_new {g : MQ} (df : NewK X.prog X.w X.K X.mg X.base C k F) (hr : Room (k + 1) X.A) (tk : Takes X W) (ha : PA X [e] (tA X.K fi W a)) (hrest : PA X es (tQ X.K fi W g)) (hg : Gl X C := by rfl) (hdb : (C == ("__debug__" : Str)) = false := by decide)
    (he : starEach [e] X.env = (false, eval e X.env) :: starEach [] X.env := by rfl) (hpl : (backTo pos (starEach [] X.env)).any (·.1) = false := by rfl)
    (hs : starEach (.Call (.Name C p) [e] [] pos :: es) X.env = (false, eval (.Call (.Name C p) [e] [] pos) X.env) :: starEach es X.env := by rfl) : PA X (.Call (.Name C p) [e] [] pos :: es) (tQ X.K fi W (qNew C F a g)) := (pa_cons (g_newO df hr tk ha hg hdb he hpl) hrest hs).weak tQ_new
end
/-! ### statements and tests with such expressions -/
def mDropO (f : MEO) : MS := fun st => match f st with
  | .ok _ st => .nx st
  | .rs c st => .rs c st
  | .no => .no
inductive RT where
  | ok (b : Bool) (st : Store)
  | rs (c : PySem.Str) (st : Store)
  | no
abbrev MTO := Store → RT
def aftT (K : Fr) (ea : Fi) (W : WX) (G0 H0 : Hp) (σ : L2.St) (Q : Bool → Hp → Prop) : RT → Prop
  | .ok b st => ∀ G H, Ext G0 H0 G H → Rel K ea H0 G H σ st → Q b H
  | .rs c st => ∀ G H, Ext G0 H0 G H → Rel K ea H0 G H σ st → W (.ref (He.ga K c)) none σ H
  | .no => False
def tTO (K : Fr) (ea : Fi) (W : WX) (f : MTO) : TT := fun σ H Q => ∃ G0 H0 G st, Ext G0 H0 G H ∧ Rel K ea H0 G H σ st ∧ aftT K ea W G0 H0 σ Q (f st)
/-- t and u, u with such an expression -/
def mAndO (t : MT) (u : MTO) : MTO := fun st => match t st with
  | .ok true => u st
  | .ok false => .ok false st
  | .rs c => .rs c st
  | .no => .no
/-- f != g -/
def mNeO (f : MEO) (g : ME) : MTO := fun st => match f st with
  | .ok d st => (match g st with
    | .ok d' => (match neD d d' with
      | some (.bl b) => .ok b st
      | _ => .no)
    | .rs c => .rs c st
    | .no => .no)
  | .rs c st => .rs c st
  | .no => .no
def mIfO (t : MTO) (a b : MS) : MS := fun st => match t st with
  | .ok k st => if k = true then a st else b st
  | .rs c st => .rs c st
  | .no => .no
section
variable {X : Cx} {fi : Fi} {W : WX} {e e2 b c : Expr} {rest : List Expr} {f : MEO} {g : ME} {t : MT} {u : MTO} {ma mb : MS} {pos : Pos}
theorem gs_dropO (he : PE X e (tEO X.K fi W f)) (hs : swapsWith e none pos.line X.env = pure false := by rfl) : PS X (.Expr e pos) (tS X.K fi W (mDropO f)) := (ps_expr he hs).weak fun D σ H h => by
  obtain ⟨G0, H0, G, st, x, rl, k⟩ := h
  unfold mDropO at k
  refine ⟨G0, H0, G, st, x, rl, ?_⟩
  cases q : f st with
  | no => rw [q] at k; exact k
  | rs c st' => rw [q] at k; exact fun G' H' e r => k G' H' σ e r
  | ok d st' => rw [q] at k; exact fun v G' H' e r _ => k G' H' σ e r
theorem gw_andO (ha : PT X c (tT X.K fi W t)) (hb : PW X (.BoolOp .And (b :: rest) pos) (tTO X.K fi W u)) : PW X (.BoolOp .And (c :: b :: rest) pos) (tTO X.K fi W (mAndO t u)) := (pw_and ha hb).weak fun σ H Q hq => by
  obtain ⟨G0, H0, G, st, x0, rl, a⟩ := hq
  unfold mAndO at a
  refine ⟨H0, G, st, rl, ?_⟩
  cases q : t st with
  | no => rw [q] at a; exact a
  | rs c => rw [q] at a; exact fun G' H' e => a G' H' (x0.trans e) (rl.ext e)
  | ok b =>
    rw [q] at a
    intro G' H' e
    cases b with
    | true => exact ⟨G0, H0, G', st, x0.trans e, rl.ext e, a⟩
    | false => exact a G' H' (x0.trans e) (rl.ext e)
theorem gw_and1O (ha : PT X c (tTO X.K fi W u)) : PW X (.BoolOp .And [c] pos) (tTO X.K fi W u) := pw_and1 ha
theorem gs_ifO {sa sb : List Stmt} (hc : PT X c (tTO X.K fi W u)) (ha : PSs X sa (tS X.K fi W ma)) (hb : PSs X sb (tS X.K fi W mb)) : PS X (.If c sa sb pos) (tS X.K fi W (mIfO u ma mb)) := (ps_if hc ha hb).weak fun D σ H h => by
  obtain ⟨G0, H0, G, st, x, rl, k⟩ := h
  unfold mIfO at k
  refine ⟨G0, H0, G, st, x, rl, ?_⟩
  cases q : u st with
  | no => rw [q] at k; exact k
  | rs c st' => rw [q] at k; exact fun G' H' e r => k G' H' σ e r
  | ok b st' =>
    rw [q] at k
    intro G' H' e r
    cases b with
    | true => exact ⟨G0, H0, G', st', e, r, k⟩
    | false => exact ⟨G0, H0, G', st', e, r, k⟩
end
end Pg

namespace Pg
open PySem PySem.Spec PyProof.Rows L2
variable [Tb]
theorem gt_neO {X : Cx} {fi : Fi} {W : WX} {a b : Expr} {f : MEO} {g : ME} {pos : Pos} (hu : X.A.units + 64 < cLine) (ha : PE X a (tEO X.K fi W f)) (hb : PE X b (tE X.K fi W g)) (hm : behindInMarks .NotEq b = false) : PT X (.Compare a [.NotEq] [b] pos) (tTO X.K fi W (mNeO f g)) :=
  (pt_cmpR (op_neD hu) ha hb hm).weak fun σ H Q hq => by
    obtain ⟨G0, H0, G, st, x0, rl, k⟩ := hq
    unfold mNeO at k
    refine ⟨G0, H0, G, st, x0, rl, ?_⟩
    cases q : f st with
    | no => rw [q] at k; exact k
    | rs c st' => rw [q] at k; exact fun G' H' e r => k G' H' e r
    | ok d st' =>
      rw [q] at k
      simp only at k
      intro v G1 H1 e1 r1 dv
      refine ⟨H0, G1, st', r1, ?_⟩
      cases q2 : g st' with
      | no => rw [q2] at k; exact k
      | rs c => rw [q2] at k; exact fun G' H' e => k G' H' (e1.trans e) (r1.ext e)
      | ok d' =>
        rw [q2] at k
        simp only at k
        intro G2 H2 e2 w dw
        cases q3 : neD d d' with
        | none => rw [q3] at k; exact k.elim
        | some z =>
          rw [q3] at k
          cases z with
          | bl z =>
            refine ok_ne G2 H2 v w d d' (.bl z) _ e2.s (dv.mono e2.g) dw q3 fun u G' H' e du => ?_
            exact ⟨z, du.bl_inv, k G' H' ((e1.trans e2).trans e) ((r1.ext e2).ext e)⟩
          | _ => exact k.elim
/-! ### a lambda that changes an object -/
def okL (d : D) (st : Store) : RM := match st[(0 : Nat)]? with
  | some (.ob o) => if o.me = false then .ok d o else .no
  | _ => .no
def rsL (c : PySem.Str) (st : Store) : RM := match st[(0 : Nat)]? with
  | some (.ob o) => if o.me = false then .rs c o else .no
  | _ => .no
/-- a lambda's text, over its object and what else it captured -/
def runL (f : MEO) (o : Ob) (ds : List D) : RM := match f (.ob (o.as false) :: ds.map Slot.dat) with
  | .ok d st => okL d st
  | .rs c st => rsL c st
  | .no => .no
structure LamBO (P : Program) (w : World) (K : Fr) (mg : Str → Option Value) (base : Heap) (k : Nat) (lc : LamCode) (f : MEO) : Prop where
  bind : ∀ (cl : List (Str × Addr)) (pm cv ctv : Value), bindArgs (PySem.W.kla_fn "<lambda>" lc.qual lc.params lc.body lc.scope cl pm cv ctv) ⟨[], []⟩ = pure []
  kind : lc.scope.kind = .function
  co : lc.scope.isCoroutine = false
  gen : lc.scope.isGenerator = false
  own : ∀ y ∈ lc.scope.names, y.2 ≠ .local ∧ y.2 ≠ .cell
  body : ∀ (cl : List (Str × Addr)) (A : Around) (outer : List Env) (s : Shared) (H : Hp) (E : XK) (fa c : Addr), Room k (A.deeper (lamE lc cl s.heap.objs.size fa c)) → ∀ W, Takes (lamC P w K mg base lc cl A outer s H E fa c) W → PE (lamC P w K mg base lc cl A outer s H E fa c) lc.body (tEO K fi0 W f)
/-- no lambdas in it -/
def Ob.nt (o : Ob) : Bool := noThk o.st && (noThks o.ea && noThks o.la)
def tThkO (K : Fr) (W : WX) (TFO : LamCode → Ob → List D → RM) (i : Nat) : TE := fun σ H Q => ∃ G lc ds o v x dx t l1 l2, σ[i]? = some (some v) ∧ Den K G v (.thk lc (.adr x :: ds)) ∧ noThks ds = true ∧ o.nt = true ∧ ObAt K G H x o dx t l1 l2 ∧ Ex G H ∧ LamX.Tabs Tb.T H ∧ (∀ p ∈ Tb.T, G p.1 = none) ∧ aftM K G H [x, l1, l2] x Q (WE W σ) (TFO lc o ds)
theorem hid_minus {H : Hp} {Cs : CMap} {F : List Addr} : hid (minusC H Cs) F = minusC (hid H F) Cs := by
  funext a
  by_cases z : a ∈ F
  · rw [hid_in z]
    unfold minusC
    cases Cs a with
    | some o => rfl
    | none => exact (hid_in z).symm
  · rw [hid_out z]
    unfold minusC
    cases Cs a with
    | some o => rfl
    | none => exact (hid_out z).symm
/-- tables, cells aside -/
theorem tab_minus' {H : Hp} {Cs : CMap} {P' : Addr} {q : Str} (t : LamX.TabS H P' q) (nt : ∀ c ps, H c = some (.tbl ps) → Cs c = none) (nc : ∀ c q, H c = some (LamX.CodeO c q) → Cs c = none) : LamX.TabS (minusC H Cs) P' q := by
  obtain ⟨ps, h1, h2, h3⟩ := t
  refine ⟨ps, by rw [minus_out (nt _ _ h1)]; exact h1, h2, fun pos cv hq => ?_⟩
  obtain ⟨c1, e1, e2⟩ := h3 pos cv hq
  exact ⟨c1, e1, by rw [minus_out (nc _ _ e2)]; exact e2⟩
section
variable {X : Cx} {fi : Fi} {W : WX} {k i : Nat} {a : Str} {p1 p2 : Pos} {TFO : LamCode → Ob → List D → RM}
open Classical in
/-- a(), a a local that holds a lambda over an object -/
theorem g_thkO (hr : Room (k + 1) X.A) (tk : Takes X W) (hT : ∀ lc o ds, TFO lc o ds ≠ .no → ∃ f : MEO, LamBO X.prog X.w X.K X.mg X.base k lc f ∧ TFO lc o ds = runL f o ds) (hN : X.N[i]? = some a) (hv : Vis X.env.scope a)
    (hd : (a == ("__debug__" : Str)) = false := by decide) (hcd : (a == ("__classdict__" : Str)) = false := by decide) : PE X (.Call (.Name a p1) [] [] p2) (tThkO X.K W TFO i) := by
  refine ⟨fun pins s0 σ H Q I0 h => ?_⟩
  obtain ⟨G, lc, ds, o, v, xo, dxo, t, l1, l2, hv1, dv, hnt, hot, oa, sGH, tbH, tgG, q⟩ := h
  cases dv with
  | @thk f c _ cl vs _ hf hc hinj hdom hcap hds =>
    refine wpAny_Call_Name_kw (thn ((pe_var (pos := p1) (i := i) hN hv hd hcd).run pins s0 σ H (fun v H1 => v = .ref f ∧ H1 = H) I0 ⟨.ref f, hv1, rfl, rfl⟩) fun u s ⟨v, H1, I, r1, ev, eH⟩ => ?_)
    subst ev eH
    obtain rfl : u = Value.ref f := r1
    by_cases hno : TFO lc o ds = .no
    · rw [hno] at q; exact q.elim
    obtain ⟨fm, B, hTF⟩ := hT lc o ds hno
    rw [hTF] at q
    obtain ⟨⟨pm, ctv, of1⟩, _, _⟩ := I.hok f _ (sGH _ _ hf)
    obtain ⟨⟨oc, cvs, ct, hoc, hdc, hvc⟩, _, _⟩ := I.hok c _ (sGH _ _ hc)
    refine PySem.W.callWith_F0 ⟨_, _, _, _, of1⟩ ?_
    -- the cells
    obtain ⟨Cs, hCs⟩ : ∃ Cs : CMap, Cs = fun b => if (∃ y, cl.lookup y = some b) then s.heap.get? b else none := ⟨_, rfl⟩
    have cellOf : ∀ y b, cl.lookup y = some b → ∃ j v o u, lc.caps[j]? = some y ∧ vs[j]? = some v ∧ G b = some (CellX b o) ∧ o.data = .cell (some u) ∧ RelV v u := fun y b e => by
      obtain ⟨j, hj⟩ := List.mem_iff_getElem?.mp (hdom y b e)
      obtain ⟨b', v, o, u, e1, e2, e3, e4, e5⟩ := hcap.2 j y hj
      rw [e] at e1
      cases e1
      exact ⟨j, v, o, u, hj, e2, e3, e4, e5⟩
    have at_ : ∀ b o, G b = some (CellX b o) → s.heap.get? b = some o := fun b o e => by
      obtain ⟨z, _, _⟩ := I.hok b _ (sGH _ _ e)
      exact z
    have inC : ∀ y b, cl.lookup y = some b → ∃ o, Cs b = some o := fun y b e => by
      obtain ⟨j, v, o, u, _, _, e3, _⟩ := cellOf y b e
      refine ⟨o, ?_⟩
      rw [hCs]
      simp only
      rw [if_pos ⟨y, e⟩]
      exact at_ b o e3
    have ofC : ∀ b o, Cs b = some o → s.heap.get? b = some o ∧ G b = some (CellX b o) ∧ ∃ u, o.data = .cell u := fun b o e => by
      rw [hCs] at e
      simp only at e
      split at e
      · rename_i hy
        obtain ⟨y, hy⟩ := hy
        obtain ⟨j, v, o', u, _, _, e3, e4, _⟩ := cellOf y b hy
        have := at_ b o' e3
        rw [e] at this
        cases this
        exact ⟨e, e3, _, e4⟩
      · cases e
    have hcH : ∀ b o, Cs b = some o → H1 b = some (CellX b o) ∧ ∃ u, o.data = .cell u := fun b o e => ⟨sGH _ _ (ofC b o e).2.1, (ofC b o e).2.2⟩
    have hcφ : ∀ b o, Cs b = some o → ∃ φ, H1 b = some (.ext φ) := fun b o e => ⟨_, (hcH b o e).1⟩
    have nfr : ∀ b ∈ frs X.stack, Cs b = none := fun b hb => by
      cases z : Cs b with
      | none => rfl
      | some o =>
        have := (hcH b o z).1
        rw [I.stkFree b hb] at this
        cases this
    have e0 := I.env0
    have plainG : ∀ b o, G b = some o → (∀ φ, o ≠ .ext φ) → minusC G Cs b = some o := fun b o e n => by
      cases z : Cs b with
      | none => rw [minus_out z]; exact e
      | some o' =>
        have := (ofC b o' z).2.1
        rw [e] at this
        cases this
        exact absurd rfl (n _)
    -- the object's places are no cells
    have loC : ∀ b u, H1 b = some u → Loose (some u) → Cs b = none := fun b u e lo => by
      cases z : Cs b with
      | none => rfl
      | some o' =>
        have := (hcH b o' z).1
        rw [e] at this
        cases this
        exact lo.elim
    obtain ⟨vs1, pe1, qe1⟩ := oa.e1
    obtain ⟨vs2, pe2, qe2⟩ := oa.e2
    have cx0 : Cs xo = none := loC _ _ oa.hx trivial
    have c10 : Cs l1 = none := loC _ _ pe1 trivial
    have c20 : Cs l2 = none := loC _ _ pe2 trivial
    have cF : ∀ b o, Cs b = some o → b ∉ [xo, l1, l2] := fun b o z h => by
      rcases List.mem_cons.mp h with rfl | h
      · rw [cx0] at z; cases z
      · rcases List.mem_cons.mp h with rfl | h
        · rw [c10] at z; cases z
        · rcases List.mem_cons.mp h with rfl | h
          · rw [c20] at z; cases z
          · cases h
    have hcF : ∀ b o, Cs b = some o → hid H1 [xo, l1, l2] b = some (CellX b o) ∧ ∃ u, o.data = .cell u := fun b o z => by
      rw [hid_out (cF b o z)]
      exact hcH b o z
    have hidIn : ∀ b u, hid H1 [xo, l1, l2] b = some u → H1 b = some u := fun b u z => by
      by_cases y : b ∈ [xo, l1, l2]
      · rw [hid_in y] at z; cases z
      · rw [hid_out y] at z; exact z
    have extGH : ∀ {G2 H2 : Hp}, Ext (minusC G Cs) (hid (minusC H1 Cs) [xo, l1, l2]) G2 H2 → (∀ c o, Cs c = some o → H2 c = none) → Ext G (hid H1 [xo, l1, l2]) (plusC G2 Cs) (plusC H2 Cs) := fun {G2 H2} e nn => by
      rw [hid_minus] at e
      refine ⟨fun b o g => ?_, ⟨fun b o g nt => ?_, fun b o g nt => ?_, fun b ps g => ?_, fun p hp t => ?_⟩, fun b o g => ?_, fun b o g n => ?_⟩
      · cases z : Cs b with
        | some o' =>
          rw [plus_in z, ← g]
          exact (ofC b o' z).2.1.symm
        | none => rw [plus_out z]; exact e.g _ _ (by rw [minus_out z]; exact g)
      · cases z : Cs b with
        | some o' =>
          rw [plus_in z, ← g]
          exact (hcF b o' z).1.symm
        | none => rw [plus_out z]; exact e.h.k _ _ (by rw [minus_out z]; exact g) nt
      · cases z : Cs b with
        | some o' =>
          rw [plus_in z, ← g]
          exact (hcF b o' z).1.symm
        | none => rw [plus_out z]; exact e.h.k2 _ _ (by rw [minus_out z]; exact g) nt
      · have z : Cs b = none := by
          cases z : Cs b with
          | none => rfl
          | some o' =>
            have := (hcF b o' z).1
            rw [g] at this
            cases this
        rw [plus_out z]
        exact e.h.q b ps (by rw [minus_out z]; exact g)
      · refine tab_plus (e.h.t p hp (tab_minus' t (fun c ps z => ?_) fun c qq z => code_out I.hok hcH (hidIn _ _ z))) nn
        cases w : Cs c with
        | none => rfl
        | some o' =>
          have := (hcF c o' w).1
          rw [z] at this
          cases this
      · cases z : Cs b with
        | some o' =>
          rw [plus_in z] at g ⊢
          exact g
        | none =>
          rw [plus_out z] at g ⊢
          exact e.s _ _ g
      · cases z : Cs b with
        | some o' =>
          have := (ofC b o' z).2.1
          rw [n] at this
          cases this
        | none =>
          rw [plus_out z] at g
          have f := e.n b o g (by rw [minus_out z]; exact n)
          unfold Fre at f ⊢
          rw [minus_out z] at f
          exact f
    -- the run
    let E' : XK := fun cls d H2 => (∀ c o, Cs c = some o → H2 c = none) → WE W σ cls d (plusC H2 Cs)
    let Q' : VK := fun v H2 => (∀ c o, Cs c = some o → H2 c = none) → Q v (plusC H2 Cs)
    have rc : codeAny (model X.prog X.w) X.A (.call (.ref f) ⟨[], []⟩) (CR (L2.CX X.prog X.w) X.stack X.prog X.w H1 s Q (WE W σ)) s := by
      refine PySem.W.kla_callFunE hr.depth of1 rfl B.co B.gen rfl ⟨c, oc, cvs, ct, rfl, hoc, hdc, hvc⟩ ?_
      rw [B.bind]
      refine wpAny_pure (wpAny_newFunctionEnv (fun y hy => (B.own y hy).2) (fun y hy => absurd hy (by simp)) (fun h₁ hns hsb => ⟨I.nolimit.fresh _ hsb, ?_⟩) B.kind)
      show codeAny _ _ (.expr lc.body (lamE lc cl s.heap.objs.size f c)) _ _
      have kp : ∀ b o, s.heap.get? b = some o → h₁.get? b = some o := fun b o e => hsb.extBut b o (Nat.ne_of_lt (Heap.lt_size e)) (Heap.get?_push_of_some _ e)
      have noA : ∀ b : Addr, b ∉ (lamC X.prog X.w X.K X.mg X.base lc cl X.A X.stack s (minusC H1 Cs) E' f c).ex := fun b z => absurd (show b ∈ ([] : List Addr) from z) (by simp)
      have mN : ∀ b, H1 b = none → minusC H1 Cs b = none := fun b e => by
        cases z : Cs b with
        | some o => exact minus_in z
        | none => rw [minus_out z]; exact e
      have J : Inv (lamC X.prog X.w X.K X.mg X.base lc cl X.A X.stack s (minusC H1 Cs) E' f c) [] (vs.map some) (minusC H1 Cs) { s with heap := h₁, toks := s.toks + ([] : List (Str × Value)).length } := by
        refine ⟨⟨e0.mod, B.kind, rfl, rfl, Nat.le_refl _, hinj, fun y hy => ?_, fun y b z _ => absurd (show false = true from z) (by decide), fun _ => hr.hd, Around.frames_deeper e0.frames, .inr ⟨rfl, rfl⟩, fun b z => absurd z (noA b), fun b o e => ⟨(e0.bs b o e).1, mN b (e0.bs b o e).2⟩, e0.bsz, fun b _ _ => noA b,
            fun b z => absurd z (noA b), e0.funs, fun b hb => mN b (e0.frf b hb)⟩,
          rfl, e0.bare, Un.kept kp, ⟨_, hns, fun j y v e1 e2 e3 => ?_⟩, fun y b e => ?_, mN _ (e0.hok.fresh (Nat.le_refl _)), fun y b e => ?_, fun q hq => absurd (show q ∈ ([] : List (Addr × Obj)) ++ [] from hq) (by simp), (hok_minus I.hok hcφ).kept kp, by rw [List.length_map]; exact hcap.1⟩
        · have hy : lc.scope.names.lookup y = some .cell ∨ lc.scope.names.lookup y = some .free := hy
          rcases hy with hy | hy
          · exact absurd rfl (B.own _ (PySem.mem_of_lookup hy)).2
          · obtain ⟨j, hj⟩ := List.mem_iff_getElem?.mp (caps_mem (PySem.mem_of_lookup hy))
            obtain ⟨b, _, _, _, e1, _⟩ := hcap.2 j y hj
            exact ⟨b, e1⟩
        · obtain ⟨b, v', o, u, c1, c2, c3, c4, c5⟩ := hcap.2 j y e1
          rw [List.getElem?_map, c2] at e2
          cases e2
          refine ⟨u, c5, .inr ⟨.inr ?_, b, c1, o, kp _ _ (at_ b o c3), c4⟩⟩
          rcases e3 with k | k | k
          · exact absurd rfl (B.own _ (PySem.mem_of_lookup k)).1
          · exact absurd rfl (B.own _ (PySem.mem_of_lookup k)).2
          · exact k
        · obtain ⟨j, v', o, u, _, _, c3, c4, _⟩ := cellOf y b e
          exact ⟨_, o, kp _ _ (at_ b o c3), c4⟩
        · obtain ⟨o, z⟩ := inC y b e
          exact minus_in z
      have tbm : LamX.Tabs Tb.T (minusC H1 Cs) := fun p hp => tab_minus (tbH p hp) I.hok hcH
      have tgm : ∀ p ∈ Tb.T, minusC G Cs p.1 = none := fun p hp => by
        cases z : Cs p.1 with
        | some o => exact minus_in z
        | none => rw [minus_out z]; exact tgG p hp
      have sm : Ex (minusC G Cs) (minusC H1 Cs) := fun b o g => by
        cases z : Cs b with
        | some o' => rw [minus_in z] at g; cases g
        | none =>
          rw [minus_out z] at g ⊢
          exact sGH _ _ g
      have dm : Dens X.K (minusC G Cs) vs (.adr xo :: ds) := hds.away plainG (by unfold noThks; rw [Bool.and_eq_true]; exact ⟨rfl, hnt⟩)
      have rlm : Rel X.K fi0 (minusC H1 Cs) (minusC G Cs) (minusC H1 Cs) (vs.map some) ((D.adr xo :: ds).map Slot.dat) := by
        have r0 := rel_start (K := X.K) (ea := fi0) (N := lc.caps) sm dm tbm tgm
        have e1 : L2.start lc.caps vs = vs.map some := by unfold L2.start; rw [hcap.1, Nat.sub_self]; simp
        have e2 : lc.caps.length - (D.adr xo :: ds).length = 0 := by rw [← dm.length, hcap.1, Nat.sub_self]
        rw [e1, e2] at r0
        simpa using r0
      obtain ⟨vs', hvs⟩ : ∃ vs', vs = V.ref xo :: vs' := by
        cases dm with
        | cons h _ => cases h; exact ⟨_, rfl⟩
      have p0 : (vs.map some)[0]? = some (some (V.ref xo)) := by rw [hvs]; rfl
      obtain ⟨hn1, hn2⟩ : noThk o.st = true ∧ (noThks o.ea && noThks o.la) = true := by
        unfold Ob.nt at hot
        rw [Bool.and_eq_true] at hot
        exact hot
      rw [Bool.and_eq_true] at hn2
      have oam : ObAt X.K (minusC G Cs) (minusC H1 Cs) xo o dxo t l1 l2 := ⟨by rw [minus_out cx0]; exact oa.hx, oa.st.away plainG hn1, ⟨vs1, by rw [minus_out c10]; exact pe1, qe1.away plainG hn2.1⟩, ⟨vs2, by rw [minus_out c20]; exact pe2, qe2.away plainG hn2.2⟩, oa.ne, by rw [minus_out cx0]; exact oa.gx, by rw [minus_out c10]; exact oa.g1, by rw [minus_out c20]; exact oa.g2⟩
      have rl2 : Rel X.K fi0 (hid (minusC H1 Cs) [xo, l1, l2]) (minusC G Cs) (minusC H1 Cs) (vs.map some) (.ob (o.as false) :: ds.map Slot.dat) := rlm.take (i := 0) (fun j b z => by
        obtain ⟨d, _, rfl⟩ := List.mem_map.mp (List.mem_of_getElem? z)
        rfl) p0 (oam.as false) rfl
      -- what the callee's end tells
      have fin : ∀ {G2 H2 : Hp} {st' : Store} {o' : Ob}, Ext (minusC G Cs) (hid (minusC H1 Cs) [xo, l1, l2]) G2 H2 → Rel X.K fi0 (hid (minusC H1 Cs) [xo, l1, l2]) G2 H2 (vs.map some) st' → st'[0]? = some (.ob o') → o'.me = false → (∀ c o, Cs c = some o → H2 c = none) → Ex G2 (plusC G2 Cs) ∧ Rel X.K fi0 (hid H1 [xo, l1, l2]) (plusC G2 Cs) (plusC H2 Cs) [some (.ref xo)] [.ob o'] := fun {G2 H2 st' o'} e r q0 hme nn => by
        have exG : Ex G2 (plusC G2 Cs) := fun b u z => by
          rw [plus_out]
          · exact z
          · cases y : Cs b with
            | none => rfl
            | some w =>
              have := e.s b u z
              rw [nn b w y] at this
              cases this
        have outH : ∀ b u, H2 b = some u → Cs b = none := fun b u z => by
          cases y : Cs b with
          | none => rfl
          | some w => rw [nn b w y] at z; cases z
        obtain ⟨x', dx', t', m1, m2, px, ob, h0x, h01, h02⟩ := r.obAt q0
        rw [p0] at px
        cases px
        obtain ⟨w1, pw1, qw1⟩ := ob.e1
        obtain ⟨w2, pw2, qw2⟩ := ob.e2
        have ob2 : ObAt X.K (plusC G2 Cs) (plusC H2 Cs) xo o' dx' t' m1 m2 := ⟨by rw [plus_out cx0]; exact ob.hx, ob.st.mono exG, ⟨w1, by rw [plus_out (outH _ _ pw1)]; exact pw1, qw1.mono exG⟩, ⟨w2, by rw [plus_out (outH _ _ pw2)]; exact pw2, qw2.mono exG⟩, ob.ne, by rw [plus_out cx0]; exact ob.gx, by rw [plus_out (outH _ _ pw1)]; exact ob.g1, by rw [plus_out (outH _ _ pw2)]; exact ob.g2⟩
        have hh : ∀ b, Cs b = none → hid (minusC H1 Cs) [xo, l1, l2] b = none → hid H1 [xo, l1, l2] b = none := fun b z y => by
          rw [hid_minus, minus_out z] at y
          exact y
        refine ⟨exG, rel_ob1 (fun b u z => ?_) (fun p hp => tab_plus (r.tb p hp) nn) (fun p hp => ?_) ob2 (hid_in List.mem_cons_self) (hh _ (outH _ _ pw1) h01) (hh _ (outH _ _ pw2) h02) hme⟩
        · cases y : Cs b with
          | some w => rw [plus_in y] at z ⊢; exact z
          | none => rw [plus_out y] at z ⊢; exact e.s _ _ z
        · obtain ⟨ps, k1, _⟩ := r.tb p hp
          rw [plus_out (outH _ _ k1)]
          exact r.tg p hp
      have hb := B.body cl X.A X.stack s (minusC H1 Cs) E' f c (hr.deeper _) (fun cls d _ H2 => E' cls d H2) (takes_of (E := E') (E₁ := fun e' s'' => L2.CX X.prog X.w X.stack (minusC H1 Cs) s E' e' s'') rfl rfl rfl rfl)
      refine PySem.W.kla_codeExpr (wpAny_mono (hb.run [] _ _ (minusC H1 Cs) Q' J ⟨minusC G Cs, hid (minusC H1 Cs) [xo, l1, l2], minusC G Cs, _, ext_hid (Ext.refl sm), rl2, ?_⟩) (fun v s' hq => ?_) fun e s' hq => ?_)
      · unfold runL at q
        cases hfr : fm (.ob (o.as false) :: ds.map Slot.dat) with
        | no => rw [hfr] at q; exact q.elim
        | rs c' st' =>
          rw [hfr] at q
          intro G2 H2 e r nn
          simp only [rsL] at q
          cases q0 : st'[(0 : Nat)]? with
          | none => rw [q0] at q; exact q.elim
          | some sl =>
            rw [q0] at q
            cases sl with
            | ob o' =>
              simp only at q
              split at q
              · rename_i hme
                exact q _ _ hme (extGH e nn) (fin e r q0 hme nn).2
              · exact q.elim
            | _ => exact q.elim
        | ok d st' =>
          rw [hfr] at q
          intro v G2 H2 e r dv nn
          simp only [okL] at q
          cases q0 : st'[(0 : Nat)]? with
          | none => rw [q0] at q; exact q.elim
          | some sl =>
            rw [q0] at q
            cases sl with
            | ob o' =>
              simp only at q
              split at q
              · rename_i hme
                exact q v _ _ hme (extGH e nn) (fin e r q0 hme nn).2 (dv.mono (fin e r q0 hme nn).1)
              · exact q.elim
            | _ => exact q.elim
      · obtain ⟨v', H2, J', rv, qq⟩ := hq
        have nn : ∀ b o, Cs b = some o → H2 b = none := fun b o z => J'.base.free b o (ofC b o z).1 (minus_in z) (by intro z; cases z)
        have st2 : ∀ b o, Cs b = some o → s'.heap.get? b = some o := fun b o z => J'.base.keep b o (ofC b o z).1 (minus_in z) (fun hb => by
          have := nfr b hb
          rw [z] at this
          cases this) (by intro z; cases z)
        exact ⟨v', plusC H2 Cs, J'.os, J'.bare, un_show J'.base hcφ, hok_plus J'.hok nn st2, rv, qq nn⟩
      · exact wpAny_mono hq (fun _ s'' z => cx_show z hcφ (fun b o y => (ofC b o y).1) nfr) fun e' s'' z => cx_show z hcφ (fun b o y => (ofC b o y).1) nfr
    have hx : PassesAt (L2.CX X.prog X.w) X σ (WE W σ) := passAt tk σ
    refine wpAny_call (codeAny_mono rc fun r s' hq => ?_)
    cases r with
    | error e => exact hx pins H1 s e s' I hq
    | ok fl =>
      cases fl with
      | ret u => exact I.after hq
      | next => exact False.elim hq
      | brk => exact False.elim hq
      | cont => exact False.elim hq
end
end Pg

namespace Pg
open PySem PySem.Spec PyProof.Rows L2
variable [Tb]
/-! ### a def that calls a lambda over an object and tells its exception -/
def resM (sub : PySem.Str → Option Bool) (su : PySem.Str → MS) : RM → RM
  | .ok d o => .ok d o
  | .rs c o => if sub c = some true then (match su c [.un, .exc] with
    | .rt d => .ok d o
    | _ => .no) else .no
  | _ => .no
/-- called with a lambda over an object: what it gives, the object behind it -/
def spRes (K : Fr) (TR : LamCode → Ob → List D → RM) : Sp := fun vs H Q E => ∃ v G lc ds o x dx t l1 l2, vs = [v] ∧ Den K G v (.thk lc (.adr x :: ds)) ∧ noThks ds = true ∧ o.nt = true ∧ ObAt K G H x o dx t l1 l2 ∧ Ex G H ∧ LamX.Tabs Tb.T H ∧ (∀ p ∈ Tb.T, G p.1 = none) ∧ aftM K G H [x, l1, l2] x Q E (TR lc o ds)
def tThkR (K : Fr) (W : WX) (TFO : LamCode → Ob → List D → RM) : TS := fun D σ H => tThkO K W TFO 0 σ H D.rt
def tTryO (K : Fr) (TFO : LamCode → Ob → List D → RM) (sub : PySem.Str → Option Bool) (su : PySem.Str → MS) : TS := fun D σ H => ∃ G lc ds o v x dx t l1 l2, σ.length = 2 ∧ σ[0]? = some (some v) ∧ Den K G v (.thk lc (.adr x :: ds)) ∧ noThks ds = true ∧ o.nt = true ∧ ObAt K G H x o dx t l1 l2 ∧ Ex G H ∧ LamX.Tabs Tb.T H ∧ (∀ p ∈ Tb.T, G p.1 = none) ∧
  ∃ E, aftM K G H [x, l1, l2] x D.rt E (resM sub su (TFO lc o ds))
theorem rel_blank {K : Fr} {fi : Fi} {G H : Hp} {σ : L2.St} (s : Ex G H) (tb : LamX.Tabs Tb.T H) (tg : ∀ p ∈ Tb.T, G p.1 = none) (hl : σ.length = 2) : Rel K fi H G H σ [.un, .un] := by
  have no : ∀ {j : Nat} {c : Slot}, [Slot.un, .un][j]? = some c → c = .un := fun {j c} q => by
    match j, q with
    | 0, q => cases q; rfl
    | 1, q => cases q; rfl
    | j + 2, q => simp at q
  exact ⟨s, hl.symm, fun j c q hb => (by rw [no q] at hb; cases hb), fun j d q => (by cases no q), fun j c q m => (by rw [no q] at m; cases m), fun j k c d l q m => (by rw [no q] at m; cases m), tb, tg, Obs.no fun j o q => by cases no q⟩
section
variable {X : Cx} {W : WX} {pos : Pos} {TFO : LamCode → Ob → List D → RM} {su : PySem.Str → MS} {sub : PySem.Str → Option Bool}
theorem gs_thkR {e : Expr} (he : PE X e (tThkO X.K W TFO 0)) : PS X (.Return (some e) pos) (tThkR X.K W TFO) := (ps_ret he).weak fun D σ H h => h
theorem gs_tryO {fi : Fi} {x n : Str} {body suite : List Stmt} {b₀ : Stmt} {np pos' : Pos} (hs : X.stack = X.env :: X.outer) (hf : X.env.frame = some X.env.locals) (hN : X.N.Nodup) (hi : X.N[1]? = some n) (hln : X.env.kindOf n = some .local)
    (hc : X.mg x = some (.ref (He.ga X.K x))) (hsub : ∀ c b, sub c = some b → PySem.W.exmOne X.K (.ref (He.ga X.K c)) (.ref (He.ga X.K x)) = some b) (tk : Takes X W)
    (hb : ∀ (W : WX) (pn : List (Addr × Obj)) (xe : Value → Shared → Prop), Takes (X.tr pn xe) W → PassesOwn (model X.prog X.w) X.A X.env xe → PSs (X.tr pn xe) body (tThkR X.K W TFO))
    (hsu : ∀ (c : PySem.Str) (a : Addr) (oe : Obj) (pn : List (Addr × Obj)), sub c = some true → Zc (.ref (He.ga X.K c)) none oe → (∃ vs, oe.data = .fields vs) → PSs (X.suite a ((a, oe) :: pn)) (b₀ :: suite) (tS X.K (fi.at a) W0 (su c)))
    (hg : Gl X x := by rfl) (hdb : (x == ("__debug__" : Str)) = false := by decide) :
    PS X (.Try body [.ExceptHandler (some (.Name x np)) (some n) (b₀ :: suite) pos'] [] [] pos) (tTryO X.K TFO sub su) := by
  refine (ps_try_as (tb := fun W => tThkR X.K W TFO) (ts := fun a cls d => fun D σ H => ∃ c, sub c = some true ∧ cls = .ref (He.ga X.K c) ∧ d = none ∧ tS X.K (fi.at a) W0 (su c) D σ H) (Wout := W) hs hf hN hi hln ⟨hg, hdb, .inl hc⟩ tk hb ?_).weak fun D σ H h => ?_
  · intro a oe cls d pn hz hv
    refine ⟨fun pins s σ H D I h => ?_⟩
    obtain ⟨c, hc, rfl, rfl, h⟩ := h
    exact (hsu c a oe pn hc hz hv).run pins s σ H D I h
  · obtain ⟨G, lc, ds, o, v, xo, dx, t, l1, l2, hl, hv, dv, hnt, hot, oa, sx, tb, tg, E, post⟩ := h
    refine ⟨G, lc, ds, o, v, xo, dx, t, l1, l2, hv, dv, hnt, hot, oa, sx, tb, tg, ?_⟩
    cases z : TFO lc o ds with
    | ok d o' => rw [z] at post; exact post
    | mk o1 o2 => rw [z] at post; exact post.elim
    | no => rw [z] at post; exact post.elim
    | rs c o' =>
      rw [z] at post
      unfold resM at post
      simp only at post
      split at post
      · rename_i hsc
        intro G' H' hme e r'
        refine ⟨true, hsub c true hsc, fun _ a _ => ⟨c, hsc, rfl, rfl, ?_⟩, fun hb => by cases hb⟩
        have rb : Rel X.K (fi.at a) H' G' H' σ [.un, .un] := rel_blank r'.s r'.tb r'.tg hl
        have r2 := rb.put 1 (some (.ref a)) .exc rfl (fun _ => rfl) (fun _ z => by cases z)
        refine ⟨G', H', G', _, Ext.refl r'.s, r2, ?_⟩
        show aftS _ _ _ _ _ _ (su c [.un, .exc])
        cases z2 : su c [.un, .exc] with
        | rt d =>
          rw [z2] at post
          exact fun v2 G3 H3 e3 dv3 => post v2 G3 H3 hme (e.trans e3) (r'.ext e3) dv3
        | _ => rw [z2] at post; exact post.elim
      · exact post.elim
end
section
variable {P : Program} {w : World} {K : Fr} {mg : Str → Option Value} {base : Heap} {nm qual p n : Str} {params : Arguments} {body : List Stmt} {scope : Scope} {f : Addr} {fd : FuncData}
theorem res_ok {TFO : LamCode → Ob → List D → RM} {su : PySem.Str → MS} {sub : PySem.Str → Option Bool} (k : Nat) (Fd : FunD K nm qual params body scope [] [] f fd) (S : FnScope [p, n] [p] scope)
    (hb : ∀ (cdv : Value) (A : Around) (outer : List Env) (s : Shared) (H : Hp) (E : XK), Room k (A.deeper (envOfC qual scope s.heap.objs.size f cdv)) → ∀ W, Takes (cxOf (L2.CX P w) P w K mg base [p, n] qual scope f cdv A outer s H E) W →
      PassesOwn (model P w) (A.deeper (envOfC qual scope s.heap.objs.size f cdv)) (envOfC qual scope s.heap.objs.size f cdv) (cxOf (L2.CX P w) P w K mg base [p, n] qual scope f cdv A outer s H E).xe →
      PSs (cxOf (L2.CX P w) P w K mg base [p, n] qual scope f cdv A outer s H E) body (tTryO K TFO sub su)) :
    FnOk P w K mg base (L2.CX P w) (k + 1) f fd [p] (spRes K fun lc o ds => resM sub su (TFO lc o ds)) := by
  refine Fd.ok S (fun vs H Q E h => ?_) fun cdv A outer s H vs Q E hr h => ⟨_, hb cdv A outer s H E hr (fun cls d _ H => E cls d H) (takes_of rfl rfl rfl rfl) (passes_of rfl), ?_⟩
  · obtain ⟨v, _, _, _, _, _, _, _, _, _, rfl, _⟩ := h
    rfl
  · obtain ⟨v, G, lc, ds, o, x, dx, t, l1, l2, rfl, dv, hnt, hot, oa, sx, tb, tg, post⟩ := h
    exact ⟨G, lc, ds, o, v, x, dx, t, l1, l2, rfl, rfl, dv, hnt, hot, oa, sx, tb, tg, E, post⟩
end
/-- such a def as a caller takes it -/
structure ResK (P : Program) (w : World) (K : Fr) (mg : Str → Option Value) (base : Heap) (x : Str) (k : Nat) (TR : LamCode → Ob → List D → RM) : Prop where
  m : mg x = some (.ref (He.ga K x))
  kp : PySem.W.keepIn K (.ref (He.ga K x)) = true
  ex : ∃ (fd : FuncData) (ps : List Str), FnOk P w K mg base (L2.CX P w) k (He.ga K x) fd ps (spRes K TR) ∧ Binds K fd ps []
theorem resK {P : Program} {w : World} {K : Fr} {mg : Str → Option Value} {base : Heap} {x : Str} {params : Arguments} {body : List Stmt} {scope : Scope} {fd : FuncData} {ps : List Str} {k : Nat} {TR : LamCode → Ob → List D → RM} (F : FunD K x x params body scope [] [] (He.ga K x) fd) (hm : mg x = some (.ref (He.ga K x)))
    (ok : FnOk P w K mg base (L2.CX P w) k (He.ga K x) fd ps (spRes K TR)) (h : ∀ (kV doc pm : Value) (an : Option Addr) (cdv ct : Value) (us : List Value), us.length = ps.length → bindArgs (PySem.W.fnOf x x params body scope .none kV doc pm an cdv ct) ⟨us, []⟩ = pure (ps.zip us)) : ResK P w K mg base x k TR :=
  ⟨hm, F.kp, fd, ps, ok, F.bindsN h⟩
open Classical in
/-- x(e): e gives a lambda over the object of slot i -/
noncomputable def eRes (i : Nat) (f : ME) (TR : LamCode → Ob → List D → RM) : MEO := fun st => match st[i]? with
  | some (.ob o) => (match f (st.set i (.dat (.adr 0))) with
    | .ok (.thk lc (_ :: ds)) => if noThks ds = true ∧ o.nt = true ∧ ∀ x : Addr, f (st.set i (.dat (.adr x))) = .ok (.thk lc (.adr x :: ds)) then setO i o st (TR lc (o.as false) ds) else .no
    | _ => .no)
  | _ => .no
theorem g_res {X : Cx} {fi : Fi} {W : WX} {x : Str} {k i : Nat} {TR : LamCode → Ob → List D → RM} {e : Expr} {f : ME} {p pos : Pos} (df : ResK X.prog X.w X.K X.mg X.base x k TR) (hr : Room k X.A) (tk : Takes X W) (ha : PE X e (tE X.K fi W f)) (hg : Gl X x := by rfl) (hdb : (x == ("__debug__" : Str)) = false := by decide)
    (he : starEach [e] X.env = (false, eval e X.env) :: starEach [] X.env := by rfl) (hpl : (backTo pos (starEach [] X.env)).any (·.1) = false := by rfl) :
    PE X (.Call (.Name x p) [e] [] pos) (tEO X.K fi W (eRes i f TR)) := by
  obtain ⟨fd, ps, Fn, hb⟩ := df.ex
  refine (pe_callSD (dvs := []) (E := WE W) Fn hr hg df.m df.kp hb .nil (fun σ => passAt tk σ) (pa_cons ha pa_nil he) hdb he hpl).weak fun σ H Q hq => ?_
  obtain ⟨G0, H0, G, st, x0, rl, q⟩ := hq
  unfold eRes at q
  cases qi : st[i]? with
  | none => rw [qi] at q; exact q.elim
  | some sl =>
    rw [qi] at q
    cases sl with
    | ob o =>
      simp only at q
      split at q
      · rename_i lc d0 ds hf
        split at q
        · rename_i hc
          obtain ⟨hnt, hot, hall⟩ := hc
          obtain ⟨xa, dx, t, l1, l2, px, oa, _⟩ := rl.obAt qi
          have r2 : Rel X.K fi H0 G H σ (st.set i (.dat (.adr xa))) := by
            have := rl.put i (some (.ref xa)) (.dat (.adr xa)) rfl (fun z => by cases z) (fun d z => by cases z; exact ⟨_, rfl, .adr xa⟩)
            rw [set_self px] at this
            exact this
          refine ⟨H0, G, st.set i (.dat (.adr xa)), r2, ?_⟩
          rw [hall xa]
          intro G1 H1 e1 v dv
          show spRes X.K TR ([v] ++ []) H1 Q (WE W σ)
          exact ⟨v, G1, lc, ds, o.as false, xa, dx, t, l1, l2, rfl, dv, hnt, hot, (oa.ext e1).as false, e1.s, (rl.ext e1).tb, (rl.ext e1).tg, setO_spec (x0.trans e1) (rl.ext e1) qi px (oa.ext e1) q⟩
        · exact q.elim
      · exact q.elim
    | _ => exact q.elim
theorem eRes_eq {i : Nat} {f : ME} {TR : LamCode → Ob → List D → RM} {st : Store} {o : Ob} {lc : LamCode} {ds : List D} (q : st[i]? = some (.ob o)) (h : ∀ x : Addr, f (st.set i (.dat (.adr x))) = .ok (.thk lc (.adr x :: ds))) (h1 : noThks ds = true) (h2 : o.nt = true) : eRes i f TR st = setO i o st (TR lc (o.as false) ds) := by
  unfold eRes
  rw [q]
  simp only [h 0]
  rw [if_pos ⟨h1, h2, h⟩]
end Pg

namespace Pg
open PySem PySem.Spec PyProof.Rows L2
/-! ### i - b, i in range(n) -/
section
variable {prog : Program} {w : World} {A : Around} {E : Value → Shared → Prop} {s : Shared} {a : Int} {t : Tok} {b : Bool}
theorem same_refl_sub : reflectedDiffers (.type "int") (.type "bool") "sub" = pure false := by
  unfold reflectedDiffers
  show (typeLookup (.type "bool") (dunderR "sub") >>= fun rb => typeLookup (.type "int") (dunderR "sub") >>= fun ra => pure (rb.isSome && rb != ra)) = pure false
  rw [typeLookup_type, typeLookup_type, builtinLookup_eq_fast]; kernel_rfl
theorem sub_int_bool' {Q : Value → Shared → Prop} (h : Q (.int (a - if b = true then (1 : Int) else 0) s.toks) { s with toks := s.toks + 1 }) : wpAny (model prog w) A (binaryOp .Sub (.int a t) (.bool b)) Q E s :=
  binaryOp_sub_gives (op := .Sub) (T := "int") (U := "bool") (by decide) (typeIs_int s a t) rfl F.fills_int_sub F.fills_bool_sub isSubtype_bool_int same_refl_sub F.slot_int_sub F.entry_int_sub (F.args_int_sub_2 _ _)
    (AutoIntG7.int___sub___int_bool_0 a t b) trivial h
end
theorem op_sub_ib {X : Cx} : OpR X (binaryOp .Sub) (fun x y H Q => ∃ i k, x = .int i ∧ y = .bl k ∧ Q (.int (i - if k = true then (1 : Int) else 0)) H) := by
  intro pins s σ H x y v u Q I rx ry h
  obtain ⟨i, k, rfl, rfl, q⟩ := h
  obtain ⟨t, rfl⟩ := rx
  cases ry
  exact sub_int_bool' ⟨.int _, H, I.tok _, ⟨_, rfl⟩, q⟩
def subBD : D → D → Option D
  | .int i, .bl k => some (.int (i - if k = true then (1 : Int) else 0))
  | _, _ => none
theorem bo_range : bootBuiltins "range" = some (.type "range") := by decide +kernel
theorem cr_range1 {X : Cx} : CallR X (.type "range") (fun vs H Q => ∃ j, vs = [V.int j] ∧ ∀ p, H p = none → Q (.ref p) (upd H p (.rng 0 j))) := by
  intro pins s σ H vs us Q I r h
  obtain ⟨j, rfl, q⟩ := h
  cases r with
  | cons rj rr =>
    cases rr
    obtain ⟨u, rfl⟩ := rj
    refine call_range_1 ⟨.ref s.heap.objs.size, upd H s.heap.objs.size (.rng 0 j), I.laid (t' := s.toks + 1 + 1) (fun b o e => Heap.get?_push_of_some _ e) (Nat.le_refl _) ?_, rfl, q _ (I.hok.fresh (Nat.le_refl _))⟩
    exact ⟨_, _, _, Heap.get?_push_size _ rfl⟩
def inRgD : D → D → Option D
  | .int i, .int n => some (.bl (decide (0 ≤ i ∧ i < n)))
  | _, _ => none
variable [Tb]
theorem ok_subB {K : Fr} : Op2 K (fun x y H Q => ∃ i k, x = .int i ∧ y = .bl k ∧ Q (.int (i - if k = true then (1 : Int) else 0)) H) subBD := by
  intro G H v w x y z Q s dx dy e k
  cases x <;> cases y <;> cases e
  exact ⟨_, _, dx.int_inv, dy.bl_inv, k _ _ _ (Ext.refl s) (.int _)⟩
section
variable {X : Cx} {fi : Fi} {W : WX} {e e2 : Expr} {f g : ME} {p pos pos2 : Pos}
theorem inRg_weak : ∀ σ H Q, tE X.K fi W (bin inRgD f g) σ H Q → tOp (fun x y H Q => ∃ i a lo hi, x = V.int i ∧ y = V.ref a ∧ H a = some (.rng lo hi) ∧ Q (.bl (decide (lo ≤ i ∧ i < hi))) H) (tE X.K fi W f) (tCB (fun vs H Q => ∃ j, vs = [V.int j] ∧ ∀ p, H p = none → Q (.ref p) (upd H p (.rng 0 j))) (tCons (tE X.K fi W g) tNil)) σ H Q := fun σ H Q hq => by
  obtain ⟨H0, G, st, rl, a⟩ := hq
  refine ⟨H0, G, st, rl, aft_mono (aft_bind a) fun x G1 H1 e1 a1 v dv => ?_⟩
  refine ⟨H0, G1, st, rl.ext e1, aft_mono (aft_bind a1) fun y G2 H2 e2 a2 w dw => ?_⟩
  obtain ⟨z, ez, k⟩ := aft_of a2
  cases x <;> cases y <;> cases ez
  rename_i i n
  rw [dv.int_inv, dw.int_inv]
  refine ⟨n, rfl, fun q hq => ⟨i, q, 0, n, rfl, rfl, upd_same, k _ _ (Ext.newH e2.s hq) _ (.bl _)⟩⟩
theorem g_inRg (hm : X.mg "range" = none) (he : PE X e (tE X.K fi W f)) (he2 : PE X e2 (tE X.K fi W g)) (hg : Gl X "range" := by rfl) (hs : starEach [e2] X.env = (false, eval e2 X.env) :: starEach [] X.env := by rfl) (hpl : (backTo pos2 (starEach [] X.env)).any (·.1) = false := by rfl)
    (hk : behindInMarks .In (.Call (.Name "range" p) [e2] [] pos2) = false := by rfl) : PE X (.Compare e [.In] [.Call (.Name "range" p) [e2] [] pos2] pos) (tE X.K fi W (bin inRgD f g)) :=
  (pe_cmpR op_in_rng he (pe_callTy cr_range1 hg hm bo_range (pa_cons he2 pa_nil hs) (by decide) (by decide) hs hpl) hk).weak inRg_weak
theorem gt_inRg (hm : X.mg "range" = none) (he : PE X e (tE X.K fi W f)) (he2 : PE X e2 (tE X.K fi W g)) (hg : Gl X "range" := by rfl) (hs : starEach [e2] X.env = (false, eval e2 X.env) :: starEach [] X.env := by rfl) (hpl : (backTo pos2 (starEach [] X.env)).any (·.1) = false := by rfl)
    (hk : behindInMarks .In (.Call (.Name "range" p) [e2] [] pos2) = false := by rfl) : PT X (.Compare e [.In] [.Call (.Name "range" p) [e2] [] pos2] pos) (tT X.K fi W (mVal (bin inRgD f g))) :=
  (pt_cmpR op_in_rng he (pe_callTy cr_range1 hg hm bo_range (pa_cons he2 pa_nil hs) (by decide) (by decide) hs hpl) hk).weak fun σ H Q hq => inRg_weak σ H _ (tT_val (f := bin inRgD f g) σ H Q hq)
end
/-! ### an own class and its own == -/
structure ObjK (K : Fr) (C : Str) : Prop where
  ha : PySem.W.findIn K (.ref (He.ga K C)) "__class__" = some (some (.builtin "object.__class__"))
  hn : PySem.W.specialIn K (.builtin "object.__class__") "__get__" = some (some (.builtin "getset_descriptor.__get__"))
  ht : PySem.W.takesIn K (.builtin "object.__class__") = some true
  hm : PySem.W.mroIn K (He.ga K C) (.type "object") = some true
  same : PySem.W.kitOne K (.ref (He.ga K C)) (.ref (He.ga K C)) = some true
  tup : PySem.W.kitOne K (.type "tuple") (.ref (He.ga K C)) = some false
  sub : PySem.W.subIn K (.type "tuple") (.ref (He.ga K C)) = some false
  ne : PySem.W.findIn K (.ref (He.ga K C)) "__ne__" = some (some (.builtin "object.__ne__"))
theorem objB_ok {K : Fr} {C : Str} (h : objB K C = true) : ObjK K C := by
  obtain ⟨h1, h⟩ := He.ba h
  obtain ⟨h2, h⟩ := He.ba h
  obtain ⟨h3, h⟩ := He.ba h
  obtain ⟨h4, h⟩ := He.ba h
  obtain ⟨h5, h⟩ := He.ba h
  obtain ⟨h6, h⟩ := He.ba h
  obtain ⟨h7, h8⟩ := He.ba h
  exact ⟨of_decide_eq_true h1, of_decide_eq_true h2, of_decide_eq_true h3, of_decide_eq_true h4, of_decide_eq_true h5, of_decide_eq_true h6, of_decide_eq_true h7, of_decide_eq_true h8⟩
/-- isinstance(e, C) -/
def isiOD (C : Str) : D → Option D
  | .obj C' _ _ => if C' = C then some (.bl true) else none
  | .tup _ => some (.bl false)
  | _ => none
section
variable {X : Cx} {fi : Fi} {W : WX} {C : Str} {e : Expr} {f : ME} {p p2 pos : Pos}
theorem g_isiO (c : Cls X.K (He.ga X.K C)) (o : ObjK X.K C) (hI : X.mg "isinstance" = none) (hC : X.mg C = some (.ref (He.ga X.K C))) (he : PE X e (tE X.K fi W f)) (hg : Gl X "isinstance" := by rfl) (hg2 : Gl X C := by rfl) (hdb : (C == ("__debug__" : Str)) = false := by decide)
    (h1 : starEach [.Name C p2] X.env = (false, eval (.Name C p2) X.env) :: starEach [] X.env := by rfl) (h2 : starEach [e, .Name C p2] X.env = (false, eval e X.env) :: starEach [.Name C p2] X.env := by rfl) (hpl : (backTo pos (starEach [.Name C p2] X.env)).any (·.1) = false := by rfl) :
    PE X (.Call (.Name "isinstance" p) [e, .Name C p2] [] pos) (tE X.K fi W (unr (isiOD C) f)) :=
  (pe_callB call_isi hg hI (by decide +kernel) (pa_cons he (pa_cons (pe_glob (v := .ref (He.ga X.K C)) hg2 hC rfl hdb) pa_nil h1) h2) (by decide) (by decide) h2 hpl).weak fun σ H Q hq => by
    obtain ⟨H0, G, st, rl, a⟩ := hq
    refine ⟨H0, G, st, rl, aft_mono (aft_bind a) fun x G1 H1 e1 a1 v dv => ?_⟩
    obtain ⟨z, ez, k⟩ := aft_of a1
    cases dv with
    | @obj y dx C' ns vs ds hp hl hd =>
      simp only [isiOD] at ez
      split at ez
      · rename_i hC'
        subst hC'
        cases ez
        exact ⟨.ref y, .ref (He.ga X.K C'), _, _, true, rfl, .own _, .base (.ins (e1.s _ _ hp) c o.ha o.hn o.ht o.hm), o.same, k _ _ (Ext.refl e1.s) _ (.bl true)⟩
      · cases ez
    | @tup y vs ds hs hd =>
      cases ez
      exact ⟨.ref y, .ref (He.ga X.K C), .type "tuple", _, false, rfl, .own _, tyX_den e1.s (.tup hs hd) rfl, o.tup, k _ _ (Ext.refl e1.s) _ (.bl false)⟩
    | _ => cases ez
end
/-- == by the class's own -/
def eEqO (C : Str) (F : List D → R D) (f g : ME) : ME := fun st => (f st).bind fun x => (g st).bind fun y => match x, y with
  | .obj C' ns ds, .obj C2 ns2 ds2 => if C' = C ∧ C2 = C then (match F [.obj C' ns ds, .obj C2 ns2 ds2] with
    | .ok (.bl b) => .ok (.bl b)
    | _ => .no) else .no
  | _, _ => .no
/-- != by the class's own ==, of a tuple -/
def eNeO (C : Str) (F : List D → R D) (f g : ME) : ME := fun st => (f st).bind fun x => (g st).bind fun y => match x, y with
  | .obj C' ns ds, .tup ds2 => if C' = C then (match F [.obj C' ns ds, .tup ds2] with
    | .ok (.bl b) => .ok (.bl (!b))
    | _ => .no) else .no
  | _, _ => .no
def rOwn (X : Cx) (C : Str) (F : List D → R D) (P : D → Prop) (ng : Bool) : R2 := fun x y H Q => ∃ (G : Hp) (a dx : Addr) (fs : List (Str × V)) (d1 d2 : D) (b : Bool), x = .ref a ∧ H a = some (.ins (He.ga X.K C) dx fs) ∧ Ex G H ∧ LamX.Tabs Tb.T H ∧ (∀ p ∈ Tb.T, G p.1 = none) ∧ Den X.K G x d1 ∧ Den X.K G y d2 ∧ P d2 ∧ F [d1, d2] = .ok (.bl b) ∧ ∀ G' H', Ext G H G' H' → Q (.bl (if ng = true then !b else b)) H'
theorem ne_slot : PySem.Slot "object" "__ne__" "object.__ne__" := .of (owner := "object") (n := "__ne__") (by rw [typeLookup_type, builtinLookup_eq_fast]; kernel_rfl) (by decide +kernel) (by decide +kernel) (by decide +kernel)
    (by first | exact .inl (by decide +kernel) | exact .inr (by decide +kernel)) (by rw [isSubtype_type]; kernel_rfl)
section
variable {prog : Program} {w : World} {A : Around} {E : Value → Shared → Prop} {s : Shared} {K : Fr} {x Ca f : Addr} {ox : Obj} {od : Option Obj} {b tb : Value}
theorem ne_K {Q : Value → Shared → Prop} (hu : A.units + 1 < cLine) (X : K.In s.heap) (I : PySem.W.InstAt s.heap x ox Ca od) (hb : PySem.W.Looks (model prog w) s.heap (typeOf b) tb) (hn : PySem.W.notFirst K Ca tb = true)
    (hs : PySem.W.findIn K (.ref Ca) "__ne__" = some (some (.builtin "object.__ne__"))) (hm : PySem.W.mroIn K Ca (.type "object") = some true) (he : PySem.W.findIn K (.ref Ca) "__eq__" = some (some (.ref f))) (hf : PySem.W.isFn K (.ref f) = true)
    (h : wpAny (model prog w) A.in1 (call (.ref f) [.ref x, b]) (fun v s' => ∃ c, v = .bool c ∧ Q (.bool (!c)) s') E s) : wpAny (model prog w) A (richCompare .NotEq (.ref x) b) Q E s := by
  have sp : PySem.W.Looks (model prog w) s.heap (specialOf (.ref x) "__ne__") (some (.builtin "object.__ne__")) := I.type.andThen (PySem.W.looks_findIn X hs)
  have iv : PySem.W.Looks (model prog w) s.heap (isInstance (.ref x) (.type "object")) true := I.type.andThen (PySem.W.looks_mroIn X hm)
  have entry : wpAny (model prog w) A.in1 (Builtin.«object.__ne__» ⟨[.ref x, b], []⟩) (fun fin s' => ∃ v, fin = .done (.ret v) ∧ v ≠ .notImplemented ∧ Q v s') E s := by
    unfold Builtin.«object.__ne__»
    repeat (first
      | with_reducible refine wpAny_cRoomFor hu ?_
      | (refine wpAny_bind (m := callSpecialIfBound? (.ref x) (Str.ofString "__eq__") [b])
          (PySem.W.ifBound_K X I he hf (wpAny_mono h (fun r s' hr => by
            obtain ⟨c, rfl, hq⟩ := hr
            have hq2 : ∃ v, Fin.done (Flow.ret (Value.bool (!c))) = .done (.ret v) ∧ v ≠ .notImplemented ∧ Q v s' := ⟨_, rfl, (fun z => nomatch z), hq⟩
            repeat (first | exact hq2 | exact wpAny_pure hq2 | exact wpAny_truthy_bool hq2 | (refine wpAny_bind (m := truthy (.bool _)) (wpAny_truthy_bool ?_)) | wp_step)) fun _ _ e => e)))
      | wp_step)
  have hcall : wpAny (model prog w) A (call (.builtin "object.__ne__") ([.ref x] ++ [b])) (fun v s' => v ≠ .notImplemented ∧ Q v s') E s := by
    refine wpAny_call (codeAny_call_builtin ne_slot.plain PySem.F.cmpEntry_ne (@PySem.W.check_slot (model prog w) _ _ s "object.__ne__" "object" "__ne__" (.ref x) [b] [] _ (by decide +kernel) (by decide +kernel) iv (PySem.F.cmpArgs_ne _ _) ?_))
    exact wpAny_mono entry (fun fin s' hv => by obtain ⟨v, rfl, q⟩ := hv; exact q) fun _ _ z => z
  have one : wpAny (model prog w) A (tryCompare (.ref x) "__ne__" b) (fun r s' => ∃ v, r = some v ∧ Q v s') E s := by
    unfold tryCompare
    refine wpAny_bind (NtL.csib sp (ne_slot.bind _) (wpAny_mono hcall (fun v s' hv => ?_) fun _ _ e => e))
    obtain ⟨h1, h2⟩ := hv
    cases v <;> first | exact absurd rfl h1 | exact wpAny_pure ⟨_, rfl, h2⟩
  unfold richCompare
  simp only [oneThing_ref]
  refine wpAny_holding (wpAny_bind (wpAny_cRoomFor (Nat.lt_of_succ_lt hu) ?_))
  refine wpAny_bind (I.type.here (wpAny_bind (hb.here ?_)))
  split
  · rename_i q
    have e : PySem.W.subIn K tb (.ref Ca) = some false := by
      rcases Bool.or_eq_true_iff.mp hn with e | e
      · rw [beq_iff_eq.mp e] at q; simp at q
      · exact beq_iff_eq.mp e
    refine wpAny_bind ((PySem.W.looks_subIn X e).here ?_)
    simp only [Bool.false_eq_true, if_false]
    refine wpAny_bind (wpAny_mono one (fun r s' z => ?_) fun _ _ e => e)
    obtain ⟨v, rfl, hq⟩ := z
    exact wpAny_pure hq
  · refine wpAny_bind (wpAny_pure ?_)
    simp only [Bool.false_eq_true, if_false]
    refine wpAny_bind (wpAny_mono one (fun r s' z => ?_) fun _ _ e => e)
    obtain ⟨v, rfl, hq⟩ := z
    exact wpAny_pure hq
end
section
variable {X : Cx} {fi : Fi} {W : WX} {C : Str} {k : Nat} {F : List D → R D} {a b : Expr} {f g : ME} {pos : Pos}
/-- the own == is called -/
theorem own_run (df : MetK X.prog X.w X.K X.mg X.base C "__eq__" k 2 F) {A : Around} (hr : Room k A) (hfr : A.frames = X.A.frames) {pins : List (Addr × Obj)} {σ : L2.St} {H : Hp} {s : Shared} (I : Inv X pins σ H s) {G : Hp} {x y : V} {u v : Value} {d1 d2 : D} {z : Bool} (rx : RelV x u) (ry : RelV y v) (sx : Ex G H) (tb : LamX.Tabs Tb.T H)
    (tg : ∀ p ∈ Tb.T, G p.1 = none) (dx : Den X.K G x d1) (dy : Den X.K G y d2) (hF : F [d1, d2] = .ok (.bl z)) : wpAny (model X.prog X.w) A (call (.ref (He.fAd X.K (C, some "__eq__"))) [u, v]) (fun r s' => r = .bool z ∧ ∃ G' H', Ext G H G' H' ∧ Inv X pins σ H' s') X.xe s := by
  obtain ⟨fd, ps, Fn, hb⟩ := df.ex
  have hsp : spOf X.K 2 F [x, y] H (fun v H' => v = .bl z ∧ ∃ G', Ext G H G' H') (fun _ _ _ => False) := ⟨G, _, rfl, sx, tb, tg, .cons dx (.cons dy .nil), by rw [hF]; exact fun v G' H' e dv => ⟨dv.bl_inv, G', e⟩⟩
  have e0 : Env0 X.prog X.w X.K X.mg X.base A X.stack s H := by
    have e := I.env0
    exact ⟨by rw [hfr]; exact e.frames, e.mod, e.bs, e.bsz, e.funs, e.frf, e.hok, e.bare⟩
  have hl := Fn.len _ _ _ _ hsp
  have r2 : Vals [x, y] [u, v] := .cons rx (.cons ry .nil)
  refine wpAny_call (codeAny_mono (Fn.run A X.stack s H ⟨[u, v], []⟩ [u, v] [x, y] _ _ hr e0 (by
    have := hb s [u, v] I.kIn (by simpa using hl)
    simpa using this) r2 hsp) fun r s' hq => ?_)
  cases r with
  | error e => exact (noCXf hq).elim
  | ok fl =>
    cases fl with
    | ret w =>
      obtain ⟨q, H', I', rq, eq, G', ex⟩ := I.after hq
      subst eq
      cases rq
      exact ⟨rfl, G', H', ex, I'⟩
    | next => exact False.elim hq
    | brk => exact False.elim hq
    | cont => exact False.elim hq
theorem looks_tup {pins : List (Addr × Obj)} {σ : L2.St} {H : Hp} {s : Shared} (I : Inv X pins σ H s) {p : Addr} {xs : List V} (h : SqT X.K H p xs) : PySem.W.Looks (model X.prog X.w) s.heap (typeOf (.ref p)) (.type "tuple") := by
  obtain ⟨its, r, e, z⟩ := I.tuple h
  obtain ⟨⟨cls, dd, data, sl⟩, ho, hc, n, hd⟩ := e
  simp only at hc
  subst hc
  exact (PySem.W.Looks.ld ho).andThen .now
theorem op_eqOwn (df : MetK X.prog X.w X.K X.mg X.base C "__eq__" k 2 F) (hr : Room k X.A) (hu : X.A.units < cLine) : OpR X (compareOp .Eq) (rOwn X C F (fun d => ∃ ns ds, d = .obj C ns ds) false) := by
  intro pins s σ H x y v u Q I rx ry h
  obtain ⟨G, p, dx, fs, d1, d2, z, rfl, hx, sx, tb, tg, e1, e2, ⟨ns, ds, rfl⟩, hF, post⟩ := h
  cases e2 with
  | @obj q dy _ _ vs2 _ hq hl2 hd2 =>
    cases rx
    cases ry
    obtain ⟨mA, J, _⟩ := ins_get I.hok hx
    obtain ⟨mB, J', _⟩ := ins_get I.hok (sx _ _ hq)
    obtain ⟨od, J, _⟩ := J.look
    obtain ⟨od', J', _⟩ := J'.look
    obtain ⟨m, hF0⟩ := I.fr
    show wpAny (model X.prog X.w) X.A (richCompare .Eq (.ref p) (.ref q)) (EP X pins σ Q) X.xe s
    refine PySem.W.cmp_K (op := .Eq) (tb := .ref (He.ga X.K C)) hu hF0 I.ok.mod.kin J J'.type (by simp [PySem.W.notFirst]) df.mt.at_ df.mt.fn ?_
    refine wpAny_mono (own_run df hr rfl I (x := .ref p) (y := .ref q) rfl rfl sx tb tg e1 (.obj hq hl2 hd2) hF) (fun r s' hq => ?_) fun _ _ z => z
    obtain ⟨rfl, G', H', ex, I'⟩ := hq
    exact ⟨.bl z, H', I', rfl, post G' H' ex⟩
theorem op_neOwn (df : MetK X.prog X.w X.K X.mg X.base C "__eq__" k 2 F) (o : ObjK X.K C) (hr : Room (k + 1) X.A) (hu : X.A.units + 1 < cLine) : OpR X (compareOp .NotEq) (rOwn X C F (fun d => ∃ ds, d = .tup ds) true) := by
  intro pins s σ H x y v u Q I rx ry h
  obtain ⟨G, p, dx, fs, d1, d2, z, rfl, hx, sx, tb, tg, e1, e2, ⟨ds, rfl⟩, hF, post⟩ := h
  cases e2 with
  | @tup q vs2 _ hs2 hd2 =>
    cases rx
    cases ry
    obtain ⟨mA, J, _⟩ := ins_get I.hok hx
    obtain ⟨od, J, _⟩ := J.look
    show wpAny (model X.prog X.w) X.A (richCompare .NotEq (.ref p) (.ref q)) (EP X pins σ Q) X.xe s
    refine ne_K (tb := .type "tuple") hu I.kIn J (looks_tup I (ex_t sx hs2)) (by simp [PySem.W.notFirst, o.sub]) o.ne o.hm df.mt.at_ df.mt.fn ?_
    refine wpAny_mono (own_run df hr.in1 rfl I (x := .ref p) (y := .ref q) rfl rfl sx tb tg e1 (.tup hs2 hd2) hF) (fun r s' hq => ?_) fun _ _ z => z
    obtain ⟨rfl, G', H', ex, I'⟩ := hq
    exact ⟨z, rfl, .bl (!z), H', I', rfl, post G' H' ex⟩
theorem g_eqO (df : MetK X.prog X.w X.K X.mg X.base C "__eq__" k 2 F) (hr : Room k X.A) (hu : X.A.units < cLine) (ha : PE X a (tE X.K fi W f)) (hb : PE X b (tE X.K fi W g)) (hm : behindInMarks .Eq b = false) : PE X (.Compare a [.Eq] [b] pos) (tE X.K fi W (eEqO C F f g)) :=
  (pe_cmpR (op_eqOwn df hr hu) ha hb hm).weak fun σ H Q hq => by
    obtain ⟨H0, G, st, rl, q⟩ := hq
    refine ⟨H0, G, st, rl, aft_mono (aft_bind q) fun x G1 H1 e1 a1 v dv => ?_⟩
    refine ⟨H0, G1, st, rl.ext e1, aft_mono (aft_bind a1) fun y G2 H2 e2 a2 w dw => ?_⟩
    have r2 := (rl.ext e1).ext e2
    cases dv with
    | @obj p dx C1 ns vs ds hp hl hd =>
      cases y with
      | obj C2 ns2 ds2 =>
        simp only at a2
        split at a2
        · rename_i hC
          obtain ⟨rfl, rfl⟩ := hC
          split at a2
          · rename_i z hF
            exact ⟨G2, p, dx, _, _, _, z, rfl, e2.s _ _ (e2.g _ _ hp), e2.s, r2.tb, r2.tg, (Den.obj hp hl hd).mono e2.g, dw, ⟨ns2, ds2, rfl⟩, hF, fun G' H' e => a2 G' H' e _ (.bl z)⟩
          · exact a2.elim
        · exact a2.elim
      | _ => exact a2.elim
    | _ => exact a2.elim
theorem g_neO (df : MetK X.prog X.w X.K X.mg X.base C "__eq__" k 2 F) (o : ObjK X.K C) (hr : Room (k + 1) X.A) (hu : X.A.units + 1 < cLine) (ha : PE X a (tE X.K fi W f)) (hb : PE X b (tE X.K fi W g)) (hm : behindInMarks .NotEq b = false) : PE X (.Compare a [.NotEq] [b] pos) (tE X.K fi W (eNeO C F f g)) :=
  (pe_cmpR (op_neOwn df o hr hu) ha hb hm).weak fun σ H Q hq => by
    obtain ⟨H0, G, st, rl, q⟩ := hq
    refine ⟨H0, G, st, rl, aft_mono (aft_bind q) fun x G1 H1 e1 a1 v dv => ?_⟩
    refine ⟨H0, G1, st, rl.ext e1, aft_mono (aft_bind a1) fun y G2 H2 e2 a2 w dw => ?_⟩
    have r2 := (rl.ext e1).ext e2
    cases dv with
    | @obj p dx C1 ns vs ds hp hl hd =>
      cases y with
      | tup ds2 =>
        simp only at a2
        split at a2
        · rename_i hC
          subst hC
          split at a2
          · rename_i z hF
            exact ⟨G2, p, dx, _, _, _, z, rfl, e2.s _ _ (e2.g _ _ hp), e2.s, r2.tb, r2.tg, (Den.obj hp hl hd).mono e2.g, dw, ⟨ds2, rfl⟩, hF, fun G' H' e => a2 G' H' e _ (.bl _)⟩
          · exact a2.elim
        · exact a2.elim
      | _ => exact a2.elim
    | _ => exact a2.elim
end
end Pg

namespace Pg
open PySem L2
/-- no tables: for what speaks of plain data only -/
instance (priority := low) tb0 : Tb := ⟨[], fun _ h => by cases h⟩
/-! ### reckoning with the readings -/
section
variable {α β : Type} {st st' : Store} {f g h : ME} {t u : MT} {a b : MS} {x y z d : D}
@[simp] theorem bind_ok (x : α) (g : α → R β) : (R.ok x).bind g = g x := rfl
@[simp] theorem bind_rs (c : Str) (g : α → R β) : (R.rs c : R α).bind g = .rs c := rfl
@[simp] theorem bind_no (g : α → R β) : (R.no : R α).bind g = .no := rfl
@[simp] theorem of_some (x : α) : R.of (some x) = .ok x := rfl
@[simp] theorem nr_ok (x : α) : (R.ok x).nr = .ok x := rfl
@[simp] theorem thn_ok (st : Store) (x : α) (g : α → RS) : (R.ok x).thn st g = g x := rfl
@[simp] theorem thn_rs (st : Store) (c : Str) (g : α → RS) : (R.rs c : R α).thn st g = .rs c st := rfl
@[simp] theorem eVar_eq (i : Nat) (st : Store) : eVar i st = match st[i]? with
  | some (.dat d) => .ok d
  | _ => .no := rfl
@[simp] theorem eC_eq (d : D) (st : Store) : eC d st = .ok d := rfl
@[simp] theorem bin_eq (op : D → D → Option D) : bin op f g st = (f st).bind fun x => (g st).bind fun y => R.of (op x y) := rfl
@[simp] theorem unr_eq (op : D → Option D) : unr op f st = (f st).bind fun x => R.of (op x) := rfl
@[simp] theorem aNil_eq : aNil st = .ok [] := rfl
@[simp] theorem aCons_eq (r : MA) : aCons f r st = (f st).bind fun x => (r st).bind fun xs => .ok (x :: xs) := rfl
@[simp] theorem bcall_eq (op : List D → Option D) (r : MA) : bcall op r st = (r st).bind fun xs => R.of (op xs) := rfl
@[simp] theorem asB_bl (b : Bool) : asB (.bl b) = some b := rfl
@[simp] theorem mVal_eq : mVal f st = (f st).bind fun x => R.of (asB x) := rfl
@[simp] theorem mAnd_eq : mAnd t u st = (t st).bind fun b => if b = true then u st else .ok false := rfl
@[simp] theorem mOr_eq : mOr t u st = (t st).bind fun b => if b = true then .ok true else u st := rfl
@[simp] theorem mNot_eq : mNot t st = (t st).bind fun b => .ok (!b) := rfl
@[simp] theorem mYes_eq : mYes st = .ok true := rfl
@[simp] theorem vAnd_eq : vAnd f g st = (f st).bind fun x => (R.of (asB x)).bind fun b => if b = true then g st else .ok (.bl false) := rfl
@[simp] theorem vOr_eq : vOr f g st = (f st).bind fun x => (R.of (asB x)).bind fun b => if b = true then .ok (.bl true) else g st := rfl
@[simp] theorem vNot_eq : vNot f st = (f st).bind fun x => (R.of (asB x)).bind fun b => .ok (.bl (!b)) := rfl
@[simp] theorem eIf_eq : eIf t f g st = (t st).bind fun b => if b = true then f st else g st := rfl
@[simp] theorem eChn_eq (o o' : D → D → Option D) : eChn o o' f g h st = (f st).bind fun x => (g st).bind fun y => (R.of (o x y)).bind fun z => (R.of (asB z)).bind fun b => if b = true then (h st).bind fun w => R.of (o' y w) else .ok (.bl false) := rfl
@[simp] theorem eCall_eq (n : Nat) (F : List D → R D) (r : MA) : eCall n F r st = (r st).bind fun ds => if ds.length = n then F ds else .no := rfl
@[simp] theorem eTup_eq (r : MA) : eTup r st = (r st).bind fun xs => if xs.length ≤ 100000 then .ok (.tup xs) else .no := rfl
@[simp] theorem eLst_eq (r : MA) : eLst r st = (r st).bind fun xs => if xs.length ≤ 100000 then .ok (.lst xs) else .no := rfl
@[simp] theorem eIsi_eq (T : String) : eIsi T f st = (f st).bind fun x => R.of (isiD T x) := rfl
@[simp] theorem oNone_eq : oNone st = .ok none := rfl
@[simp] theorem oSome_eq : oSome f st = (f st).bind fun x => R.of (asInt x) := rfl
@[simp] theorem asInt_int (i : Int) : asInt (.int i) = some (some i) := rfl
@[simp] theorem eSl_eq (l h : MO) : eSl f l h st = (f st).bind fun x => (l st).bind fun lo => (h st).bind fun hi => R.of (slD x lo hi) := rfl
@[simp] theorem iSeq_eq (sel : D → Option (List D)) : iSeq sel f st = (f st).bind fun d => R.of (sel d) := rfl
@[simp] theorem iArg_eq (sel : List D → Option (List D)) (r : MA) : iArg sel r st = (r st).bind fun d => R.of (sel d) := rfl
@[simp] theorem lstD_lst (xs : List D) : lstD (.lst xs) = some xs := rfl
@[simp] theorem tupD_tup (xs : List D) : tupD (.tup xs) = some xs := rfl
@[simp] theorem mNx_eq : mNx st = .nx st := rfl
@[simp] theorem mSeq_eq : mSeq a b st = match a st with
  | .nx st => b st
  | r => r := rfl
@[simp] theorem mRet_eq : mRet f st = (f (thaw st)).thn st fun d => .rt d := rfl
@[simp] theorem mDrop_eq : mDrop f st = (f (thaw st)).thn st fun _ => .nx st := rfl
@[simp] theorem mIf_eq : mIf t a b st = (t (thaw st)).thn st fun k => if k = true then a st else b st := rfl
@[simp] theorem mSet_eq (i : Nat) : mSet i f st = (f st).thn st fun d => .nx (st.set i (.dat d)) := rfl
@[simp] theorem mRaise_eq (c : Str) : mRaise c st = .rs c st := rfl
@[simp] theorem mFrz_eq (i : Nat) : mFrz i a st = a (frz i st) := rfl
@[simp] theorem thaw_nil : thaw [] = [] := rfl
@[simp] theorem thaw_cons (s : Slot) (st : Store) : thaw (s :: st) = thaw1 s :: thaw st := rfl
@[simp] theorem thaw1_un : thaw1 .un = .un := rfl
@[simp] theorem thaw1_dat (d : D) : thaw1 (.dat d) = .dat d := rfl
@[simp] theorem thaw1_exc : thaw1 .exc = .exc := rfl
@[simp] theorem thaw1_own (xs : List D) : thaw1 (.own xs) = .dat (.lst xs) := rfl
/-! operators on numbers -/
@[simp] theorem add_int (i j : Int) : addD (.int i) (.int j) = some (.int (i + j)) := rfl
@[simp] theorem sub_int (i j : Int) : subD (.int i) (.int j) = some (.int (i - j)) := rfl
@[simp] theorem lt_int (i j : Int) : ltD (.int i) (.int j) = some (.bl (decide (i < j))) := rfl
@[simp] theorem le_int (i j : Int) : leD (.int i) (.int j) = some (.bl (decide (i ≤ j))) := rfl
@[simp] theorem gt_int (i j : Int) : gtD (.int i) (.int j) = some (.bl (decide (j < i))) := rfl
@[simp] theorem ge_int (i j : Int) : geD (.int i) (.int j) = some (.bl (decide (j ≤ i))) := rfl
@[simp] theorem neg_int (i : Int) : negD (.int i) = some (.int (-i)) := rfl
theorem mul_r {i j : Int} (h1 : -18446744073709551616 < j) (h2 : j < 18446744073709551616) : mulD (.int i) (.int j) = some (.int (i * j)) := by
  show (if _ then _ else _) = _
  rw [if_pos (.inr ⟨by omega, by omega⟩)]
theorem mul_l {i j : Int} (h1 : -18446744073709551616 < i) (h2 : i < 18446744073709551616) : mulD (.int i) (.int j) = some (.int (i * j)) := by
  show (if _ then _ else _) = _
  rw [if_pos (.inl ⟨by omega, by omega⟩)]
theorem fdiv_p {i j : Int} (h1 : 0 < j) (h2 : j < 1267650600228229401496703205376) : fdivD (.int i) (.int j) = some (.int (i / j)) := by
  show (if _ then _ else _) = _
  rw [if_pos ⟨h1, by omega⟩]
theorem mod_p {i j : Int} (h1 : 0 < j) : modD (.int i) (.int j) = some (.int (i % j)) := by
  show (if _ then _ else _) = _
  rw [if_pos h1]
@[simp] theorem eq_int (i j : Int) : eqD (.int i) (.int j) = some (.bl (decide (i = j))) := by
  unfold eqD
  rw [if_pos ⟨rfl, rfl⟩]
  show some (D.bl (PyData.eqv (.int i) (.int j))) = _
  unfold PyData.eqv
  rw [Bool.beq_eq_decide_eq]
@[simp] theorem ne_int (i j : Int) : neD (.int i) (.int j) = some (.bl (!decide (i = j))) := by
  unfold neD
  rw [if_pos ⟨rfl, rfl⟩]
  show some (D.bl (!PyData.eqv (.int i) (.int j))) = _
  unfold PyData.eqv
  rw [Bool.beq_eq_decide_eq]
/-! lists of numbers -/
def Ls (ns : List Int) : D := .lst (ns.map D.int)
theorem okd_ints (n : Nat) (ns : List Int) : (ns.map D.int).all (okd (n + 1)) = true := by
  induction ns with
  | nil => rfl
  | cons i r ih => rw [List.map_cons, List.all_cons, ih]; rfl
theorem eqv_all (xs ys : List Int) : PyData.eqvAll (toPs (xs.map D.int)) (toPs (ys.map D.int)) = decide (xs = ys) := by
  induction xs generalizing ys with
  | nil => cases ys <;> (simp only [List.map_nil, List.map_cons, toPs, PyData.eqvAll]; simp)
  | cons i r ih =>
    cases ys with
    | nil => simp only [List.map_nil, List.map_cons, toPs, PyData.eqvAll]; simp
    | cons j q =>
      simp only [List.map_cons, toPs, PyData.eqvAll, toP, PyData.eqv, ih]
      by_cases h : i = j
      · by_cases h2 : r = q <;> simp [h, h2]
      · simp [h]
theorem eqv_Ls (xs ys : List Int) : eqv (Ls xs) (Ls ys) = decide (xs = ys) := by
  show PyData.eqv (toP (.lst _)) (toP (.lst _)) = _
  simp only [toP, PyData.eqv]
  exact eqv_all xs ys
@[simp] theorem okd_Ls (n : Nat) (xs : List Int) : okd (n + 2) (Ls xs) = true := okd_ints n xs
@[simp] theorem eq_Ls (xs ys : List Int) : eqD (Ls xs) (Ls ys) = some (.bl (decide (xs = ys))) := by
  unfold eqD
  rw [if_pos ⟨okd_Ls 4 xs, okd_Ls 4 ys⟩, eqv_Ls]
@[simp] theorem ne_Ls (xs ys : List Int) : neD (Ls xs) (Ls ys) = some (.bl (!decide (xs = ys))) := by
  unfold neD
  rw [if_pos ⟨okd_Ls 4 xs, okd_Ls 4 ys⟩, eqv_Ls]
theorem atI_int {ns : List Int} {i : Int} {m : Int} (h : atI ns i = some m) : ixD (Ls ns) (.int i) = some (.int m) := by
  show atI (ns.map D.int) i = _
  rw [atI_map, h]; rfl
end
/-- 0, 1, .. below n -/
def iota (n : Int) : List Int := (List.range n.toNat).map fun i => ((i : Nat) : Int)
theorem mem_iota {n k : Int} : k ∈ iota n ↔ 0 ≤ k ∧ k < n := by
  unfold iota
  simp only [List.mem_map, List.mem_range]
  constructor
  · rintro ⟨i, hi, rfl⟩
    omega
  · rintro ⟨h0, h1⟩
    exact ⟨k.toNat, by omega, by omega⟩
theorem iota_length (n : Int) : (iota n).length = n.toNat := by unfold iota; simp
theorem rangeI_iota (n : Int) : rangeI 0 n.toNat = (iota n).map D.int := by
  unfold rangeI iota
  rw [List.map_map]
  apply List.map_congr_left
  intro i _
  simp
theorem iota_get {n : Int} {k : Nat} (h : (k : Int) < n) : (iota n)[k]? = some (k : Int) := by
  unfold iota
  rw [List.getElem?_map, List.getElem?_range (by omega)]
  rfl
/-- a comprehension -/
theorem compGo_of {b : D → Store → Option Store} {c : MT} {e : ME} {st : Store} {p : D → Bool} {g : D → D} : ∀ {ds : List D}, (∀ d ∈ ds, ∃ st1, b d st = some st1 ∧ c st1 = .ok (p d) ∧ (p d = true → e st1 = .ok (g d))) → compGo b c e st ds = .ok ((ds.filter p).map g)
  | [], _ => rfl
  | d :: ds, h => by
    obtain ⟨st1, h1, h2, h3⟩ := h d List.mem_cons_self
    have ih := compGo_of (ds := ds) fun d hd => h d (List.mem_cons_of_mem _ hd)
    unfold compGo
    rw [h1]
    simp only [of_some, bind_ok, h2, nr_ok]
    cases q : p d with
    | true =>
      rw [if_pos rfl, h3 q]
      simp only [nr_ok, bind_ok, ih]
      rw [List.filter_cons_of_pos q, List.map_cons]
    | false =>
      rw [if_neg Bool.false_ne_true, ih, List.filter_cons_of_neg (by rw [q]; simp)]
/-- .. over numbers, giving numbers -/
theorem comp_ints {it : MA} {own : List Nat} {b : D → Store → Option Store} {c : MT} {e : ME} {st : Store} {ns : List Int} {p : Int → Bool} {g : Int → Int} (hi : it st = .ok (ns.map D.int)) (hl : ns.length ≤ 100000)
    (h : ∀ k ∈ ns, ∃ st1, b (.int k) (wipeS st own) = some st1 ∧ c st1 = .ok (p k) ∧ (p k = true → e st1 = .ok (.int (g k)))) : eComp it own b c e st = .ok (Ls ((ns.filter p).map g)) := by
  unfold eComp
  rw [hi]
  simp only [bind_ok]
  have q := compGo_of (b := b) (c := c) (e := e) (st := wipeS st own) (p := fun d => match d with | .int k => p k | _ => true) (g := fun d => match d with | .int k => .int (g k) | d => d) (ds := ns.map D.int) fun d hd => by
    obtain ⟨k, hk, rfl⟩ := List.mem_map.mp hd
    exact h k hk
  rw [q]
  simp only [bind_ok]
  have e1 : (List.map (fun d => match d with | .int k => D.int (g k) | d => d) (List.filter (fun d => match d with | .int k => p k | _ => true) (ns.map D.int))) = ((ns.filter p).map g).map D.int := by
    rw [List.filter_map, List.map_map, List.map_map]
    rfl
  rw [e1, if_pos]
  · rfl
  · rw [List.length_map, List.length_map]
    exact Nat.le_trans (List.length_filter_le _ _) hl
theorem comp_all {it : MA} {own : List Nat} {b : D → Store → Option Store} {e : ME} {st : Store} {ns : List Int} {g : Int → Int} (hi : it st = .ok (ns.map D.int)) (hl : ns.length ≤ 100000)
    (h : ∀ k ∈ ns, ∃ st1, b (.int k) (wipeS st own) = some st1 ∧ e st1 = .ok (.int (g k))) : eComp it own b mYes e st = .ok (Ls (ns.map g)) := by
  have q := comp_ints (it := it) (own := own) (b := b) (c := mYes) (e := e) (st := st) (ns := ns) (p := fun _ => true) (g := g) hi hl fun k hk => by
    obtain ⟨st1, h1, h2⟩ := h k hk
    exact ⟨st1, h1, rfl, fun _ => h2⟩
  rw [q, List.filter_eq_self.mpr (fun _ _ => rfl)]
theorem range1_ok {n : Int} (h : n ≤ 100000) (h0 : 0 ≤ n) : range1A [.int n] = some ((iota n).map D.int) := by
  show (if _ then _ else _) = _
  rw [if_pos ⟨h, by omega⟩, rangeI_iota]
/-- a loop over numbers that goes on to its end -/
theorem loop_nx {b : D → Store → Option Store} {body : MS} {I : Store → Prop} : ∀ {ds : List D} {st : Store}, I st → (∀ d ∈ ds, ∀ st, I st → ∃ st1 st2, b d st = some st1 ∧ body st1 = .nx st2 ∧ I st2) → ∃ st', mLoop b body ds st = .nx st' ∧ I st'
  | [], st, h, _ => ⟨st, rfl, h⟩
  | d :: ds, st, h, hs => by
    obtain ⟨st1, st2, h1, h2, h3⟩ := hs d List.mem_cons_self st h
    obtain ⟨st', q1, q2⟩ := loop_nx (ds := ds) h3 fun d hd => hs d (List.mem_cons_of_mem _ hd)
    refine ⟨st', ?_, q2⟩
    unfold mLoop
    rw [h1]
    simp only [h2]
    exact q1
theorem for_nx {it : MA} {b : D → Store → Option Store} {body : MS} {I : Store → Prop} {st : Store} {ds : List D} (hi : it st = .ok ds) (h0 : I st) (hs : ∀ d ∈ ds, ∀ st, I st → ∃ st1 st2, b d st = some st1 ∧ body st1 = .nx st2 ∧ I st2) : ∃ st', mFor it b body st = .nx st' ∧ I st' := by
  obtain ⟨st', q1, q2⟩ := loop_nx (b := b) (body := body) h0 hs
  refine ⟨st', ?_, q2⟩
  unfold mFor
  rw [hi]
  exact q1
theorem seq_nx {a b : MS} {st st1 : Store} (h : a st = .nx st1) : mSeq a b st = b st1 := by
  unfold mSeq
  rw [h]
theorem if_no {t : MT} {a b : MS} {st : Store} (h : t (thaw st) = .ok false) : mIf t a b st = b st := by
  unfold mIf
  rw [h]; rfl
theorem if_yes {t : MT} {a b : MS} {st : Store} (h : t (thaw st) = .ok true) : mIf t a b st = a st := by
  unfold mIf
  rw [h]; rfl
theorem set_ok {f : ME} {i : Nat} {st : Store} {d : D} (h : f st = .ok d) : mSet i f st = .nx (st.set i (.dat d)) := by
  unfold mSet
  rw [h]; rfl
theorem asg_ok {f : ME} {b : D → Store → Option Store} {st st' : Store} {d : D} (h : f st = .ok d) (h2 : b d st = some st') : mAsg b f st = .nx st' := by
  unfold mAsg
  rw [h]
  show (match b d st with | some st' => RS.nx st' | none => .no) = _
  rw [h2]
theorem drop_ok {f : ME} {st : Store} {d : D} (h : f (thaw st) = .ok d) : mDrop f st = .nx st := by
  unfold mDrop
  rw [h]; rfl
theorem drop_rs {f : ME} {st : Store} {c : Str} (h : f (thaw st) = .rs c) : mDrop f st = .rs c st := by
  unfold mDrop
  rw [h]; rfl
theorem ret_ok {f : ME} {st : Store} {d : D} (h : f (thaw st) = .ok d) : mRet f st = .rt d := by
  unfold mRet
  rw [h]; rfl
end Pg
namespace Pg
@[simp] theorem min2_int (i j : Int) : min2B [.int i, .int j] = some (.int (min i j)) := by
  show some (D.int (if j < i then j else i)) = _
  congr 2
  split <;> omega
@[simp] theorem max2_int (i j : Int) : max2B [.int i, .int j] = some (.int (max i j)) := by
  show some (D.int (if j > i then j else i)) = _
  congr 2
  split <;> omega
@[simp] theorem abs_int (i : Int) : absB [.int i] = some (.int (i.natAbs : Int)) := by
  show some (D.int (if i < 0 then -i else i)) = _
  congr 2
  split <;> omega
@[simp] theorem lenB_tup (xs : List D) : lenB [.tup xs] = some (.int xs.length) := rfl
@[simp] theorem lenB_lst (xs : List D) : lenB [.lst xs] = some (.int xs.length) := rfl
@[simp] theorem lenB_Ls (xs : List Int) : lenB [Ls xs] = some (.int xs.length) := by
  show some (D.int ((xs.map D.int).length : Nat)) = _
  rw [List.length_map]
@[simp] theorem lenB_scr (xs : List Int) : lenB [.scr xs] = some (.int xs.length) := rfl
end Pg
namespace Pg
open PySem L2
theorem eqv_scr_nil (ns : List Int) : eqv (.scr ns) (.lst []) = decide (ns = []) := by
  show PyData.eqv (toP (.scr ns)) (toP (.lst [])) = _
  cases ns <;> (simp only [toP, toPs, List.map_nil, List.map_cons, PyData.eqv, PyData.eqvAll]; simp)
@[simp] theorem ne_scr_nil (ns : List Int) : neD (.scr ns) (.lst []) = some (.bl (!decide (ns = []))) := by
  unfold neD
  rw [if_pos ⟨rfl, rfl⟩, eqv_scr_nil]
theorem ix_scr {ns : List Int} {j : Int} (h0 : 0 ≤ j) (h1 : j < ns.length) : ∃ m, ixD (.scr ns) (.int j) = some (.int m) := by
  have h : ns[j.toNat]? = some ns[j.toNat] := List.getElem?_eq_getElem (by omega)
  refine ⟨ns[j.toNat], ?_⟩
  show (atI ns j).map D.int = _
  have e : atI ns j = ns[j.toNat]? := by
    unfold atI ixN
    rw [if_pos h0, if_pos h1]
    rfl
  rw [e, h]
  rfl
@[simp] theorem pow_10 : powD (.int 10) (.int 18) = some (.int 1000000000000000000) := by
  have e : powD (.int 10) (.int 18) = if (0 : Int) ≤ 18 ∧ (18 : Int) ≤ 1000 ∧ (10 : Int).natAbs < 2 ^ 64 then some (.int ((10 : Int) ^ (18 : Int).toNat)) else none := rfl
  rw [e, if_pos (by decide)]
  rfl
end Pg
namespace Pg
section
variable {α : Type} {c : Prop} [Decidable c]
@[simp] theorem ite_ok (a b : α) : (if c then R.ok a else R.ok b) = R.ok (if c then a else b) := by split <;> rfl
@[simp] theorem ite_int (a b : Int) : (if c then D.int a else D.int b) = D.int (if c then a else b) := by split <;> rfl
@[simp] theorem ite_bl (a b : Bool) : (if c then D.bl a else D.bl b) = D.bl (if c then a else b) := by split <;> rfl
end
end Pg
namespace Pg
open PySem
@[simp] theorem eq_bl (i j : Bool) : eqD (.bl i) (.bl j) = some (.bl (decide (i = j))) := by
  unfold eqD
  rw [if_pos ⟨rfl, rfl⟩]
  show some (D.bl (PyData.eqv (.bool i) (.bool j))) = _
  unfold PyData.eqv
  rw [Bool.beq_eq_decide_eq]
@[simp] theorem ne_bl (i j : Bool) : neD (.bl i) (.bl j) = some (.bl (!decide (i = j))) := by
  unfold neD
  rw [if_pos ⟨rfl, rfl⟩]
  show some (D.bl (!PyData.eqv (.bool i) (.bool j))) = _
  unfold PyData.eqv
  rw [Bool.beq_eq_decide_eq]
@[simp] theorem eq_non_int (j : Int) : eqD .non (.int j) = some (.bl false) := rfl
@[simp] theorem eq_int_non (j : Int) : eqD (.int j) .non = some (.bl false) := rfl
@[simp] theorem eq_non : eqD .non .non = some (.bl true) := rfl
@[simp] theorem ne_non_int (j : Int) : neD .non (.int j) = some (.bl true) := rfl
@[simp] theorem ne_int_non (j : Int) : neD (.int j) .non = some (.bl true) := rfl
@[simp] theorem ne_non : neD .non .non = some (.bl false) := rfl
@[simp] theorem is_int_non' (j : Int) : isD (.int j) .non = some (.bl false) := rfl
@[simp] theorem is_non_non : isD .non .non = some (.bl true) := rfl
@[simp] theorem is_bl_bl (a b : Bool) : isD (.bl a) (.bl b) = some (.bl (decide (a = b))) := rfl
@[simp] theorem isn_int_non (j : Int) : isnD (.int j) .non = some (.bl true) := rfl
@[simp] theorem isn_non_non : isnD .non .non = some (.bl false) := rfl
@[simp] theorem isn_bl_bl (a b : Bool) : isnD (.bl a) (.bl b) = some (.bl (!decide (a = b))) := rfl
end Pg

namespace Pg
open PySem L2
/-! ### views -/
inductive Rl where
  | down
  | near
  | up
def Rl.s : Rl → Str
  | .down => "down"
  | .near => "near"
  | .up => "up"
structure Vw where
  rows : Int
  h : Int
  s : Int
  r : Rl
def Vw.d (v : Vw) : D := .tup [.int v.rows, .int v.h, .int v.s, .str v.r.s]
def Vw.rest (v : Vw) : Int := v.rows - v.h
/-- a view whose steps may be many -/
structure Vw.wok (v : Vw) : Prop where
  h1 : 1 ≤ v.h
  hr : v.h ≤ v.rows
  r99 : v.rows ≤ 99
  h30 : v.h ≤ 30
  s1 : 1 ≤ v.s
  s100 : v.s ≤ 1000
structure Vw.ok (v : Vw) : Prop where
  w : v.wok
  s60 : v.s ≤ 60
def rnd (a b : Int) : Rl → Int
  | .down => a / b
  | .near => (2 * a + b) / (2 * b)
  | .up => (a + b - 1) / b
def Vw.first (v : Vw) (k : Int) : Int := rnd (k * v.rest) v.s v.r
def Vw.firsts (v : Vw) : List Int := (iota (v.s + 1)).map v.first
/-! ### texts -/
theorem char_lt (c : Char) : c.toNat < 0x110000 := by
  have := c.valid
  unfold Char.toNat
  rcases this with h | h
  · exact Nat.lt_trans h (by decide)
  · exact h.2
@[simp] theorem strOk_lit (s : String) : PyData.strOk (Str.ofString s) = true := by
  rw [Str.ofString_eq_toList]
  unfold PyData.strOk
  simp only [Array.all_eq_true, decide_eq_true_eq]
  intro i hi
  simp only [List.getElem_toArray, List.getElem_map]
  exact char_lt _
theorem map_inj : ∀ {l m : List Char}, l.map Char.toNat = m.map Char.toNat → l = m
  | [], [], _ => rfl
  | [], _ :: _, h => by cases h
  | _ :: _, [], h => by cases h
  | a :: l, b :: m, h => by
    rw [List.map_cons, List.map_cons] at h
    injection h with h1 h2
    rw [map_inj h2, Char.toNat_inj.mp h1]
@[simp] theorem ofString_inj {s t : String} : Str.ofString s = Str.ofString t ↔ s = t := by
  constructor
  · intro h
    rw [Str.ofString_eq_toList, Str.ofString_eq_toList] at h
    injection h with h1
    have h2 := congrArg Array.toList h1
    simp only at h2
    exact String.toList_inj.mp (map_inj h2)
  · intro h
    rw [h]
@[simp] theorem eq_strs (s t : String) : eqD (.str (Str.ofString s)) (.str (Str.ofString t)) = some (.bl (decide (s = t))) := by
  unfold eqD
  rw [if_pos ⟨strOk_lit s, strOk_lit t⟩]
  show some (D.bl (PyData.eqv (toP (.str _)) (toP (.str _)))) = _
  simp only [toP, PyData.eqv]
  rw [Bool.beq_eq_decide_eq]
  simp
@[simp] theorem ne_strs (s t : String) : neD (.str (Str.ofString s)) (.str (Str.ofString t)) = some (.bl (!decide (s = t))) := by
  unfold neD
  rw [if_pos ⟨strOk_lit s, strOk_lit t⟩]
  show some (D.bl (!PyData.eqv (toP (.str _)) (toP (.str _)))) = _
  simp only [toP, PyData.eqv]
  rw [Bool.beq_eq_decide_eq]
  simp
@[simp] theorem beq_strs (s t : String) : (Str.ofString s == Str.ofString t) = decide (s = t) := by
  rw [Bool.beq_eq_decide_eq]
  simp
end Pg
namespace Pg
open PySem L2
theorem div_uniq {x b q : Int} (hb : 0 < b) (h1 : b * q ≤ x) (h2 : x < b * q + b) : x / b = q := by
  apply Int.le_antisymm
  · apply Int.le_of_lt_add_one
    apply Int.ediv_lt_of_lt_mul hb
    rw [Int.add_mul, Int.mul_comm q b]
    omega
  · apply Int.le_ediv_of_mul_le hb
    rw [Int.mul_comm]
    exact h1
theorem near_eq {a b : Int} (hb : 0 < b) : (2 * a + b) / (2 * b) = if b ≤ 2 * (a % b) then a / b + 1 else a / b := by
  have e := Int.mul_ediv_add_emod a b
  have r0 := Int.emod_nonneg a (show b ≠ 0 by omega)
  have r1 := Int.emod_lt_of_pos a hb
  split
  · apply div_uniq (by omega)
    · have : 2 * b * (a / b + 1) = 2 * (b * (a / b)) + 2 * b := by rw [Int.mul_add, Int.mul_assoc]; omega
      omega
    · have : 2 * b * (a / b + 1) = 2 * (b * (a / b)) + 2 * b := by rw [Int.mul_add, Int.mul_assoc]; omega
      omega
  · apply div_uniq (by omega)
    · have : 2 * b * (a / b) = 2 * (b * (a / b)) := by rw [Int.mul_assoc]
      omega
    · have : 2 * b * (a / b) = 2 * (b * (a / b)) := by rw [Int.mul_assoc]
      omega
theorem up_eq {a b : Int} (hb : 0 < b) : (a + b - 1) / b = if 0 < a % b then a / b + 1 else a / b := by
  have e := Int.mul_ediv_add_emod a b
  have r0 := Int.emod_nonneg a (show b ≠ 0 by omega)
  have r1 := Int.emod_lt_of_pos a hb
  split
  · apply div_uniq hb
    · have : b * (a / b + 1) = b * (a / b) + b := by rw [Int.mul_add]; omega
      omega
    · have : b * (a / b + 1) = b * (a / b) + b := by rw [Int.mul_add]; omega
      omega
  · apply div_uniq hb <;> omega
end Pg
namespace Pg
open PySem L2
theorem atI_some {α : Type} {xs : List α} {k : Int} {a : α} (h0 : 0 ≤ k) (h : xs[k.toNat]? = some a) : atI xs k = some a := by
  have e : k = (k.toNat : Int) := by omega
  rw [e]
  exact atI_nat h
theorem firsts_len (v : Vw) (h : v.wok) : v.firsts.length = (v.s + 1).toNat := by
  unfold Vw.firsts
  rw [List.length_map, iota_length]
theorem firsts_at {v : Vw} {k : Int} (h0 : 0 ≤ k) (h1 : k ≤ v.s) : atI v.firsts k = some (v.first k) := by
  apply atI_some h0
  unfold Vw.firsts
  rw [List.getElem?_map, iota_get (by omega)]
  show some (v.first (k.toNat : Int)) = _
  rw [show ((k.toNat : Nat) : Int) = k by omega]
theorem firsts_ix {v : Vw} {k : Int} (h0 : 0 ≤ k) (h1 : k ≤ v.s) : ixD (Ls v.firsts) (.int k) = some (.int (v.first k)) := atI_int (firsts_at h0 h1)
theorem add_Ls {xs ys : List Int} (h : xs.length + ys.length ≤ 100000) : addD (Ls xs) (Ls ys) = some (Ls (xs ++ ys)) := by
  show (if _ then _ else _) = _
  rw [if_pos (by simpa using h)]
  unfold Ls
  rw [List.map_append]
end Pg

namespace Pg
open PySem L2
/-- a loop over numbers that goes on to its end; what holds may speak of the numbers that were walked -/
theorem loop_acc {b : D → Store → Option Store} {body : MS} {I : List Int → Store → Prop} : ∀ {ns pre : List Int} {st : Store}, I pre st → (∀ a k c, a ++ k :: c = pre ++ ns → pre.length ≤ a.length → ∀ st, I a st → ∃ st1 st2, b (.int k) st = some st1 ∧ body st1 = .nx st2 ∧ I (a ++ [k]) st2) → ∃ st', mLoop b body (ns.map D.int) st = .nx st' ∧ I (pre ++ ns) st'
  | [], pre, st, h, _ => ⟨st, rfl, by simpa using h⟩
  | k :: ns, pre, st, h, hs => by
    obtain ⟨st1, st2, h1, h2, h3⟩ := hs pre k ns rfl (Nat.le_refl _) st h
    obtain ⟨st', q1, q2⟩ := loop_acc (ns := ns) (pre := pre ++ [k]) h3 fun a k' c e hl => by
      have : (pre ++ [k]).length = pre.length + 1 := by simp
      exact hs a k' c (by rw [e]; simp) (by omega)
    refine ⟨st', ?_, by simpa using q2⟩
    rw [List.map_cons]
    unfold mLoop
    rw [h1]
    simp only [h2]
    exact q1
theorem for_acc {it : MA} {b : D → Store → Option Store} {body : MS} {I : List Int → Store → Prop} {st : Store} {ns : List Int} (hi : it st = .ok (ns.map D.int)) (h0 : I [] st) (hs : ∀ a k c, a ++ k :: c = ns → ∀ st, I a st → ∃ st1 st2, b (.int k) st = some st1 ∧ body st1 = .nx st2 ∧ I (a ++ [k]) st2) : ∃ st', mFor it b body st = .nx st' ∧ I ns st' := by
  obtain ⟨st', q1, q2⟩ := loop_acc (b := b) (body := body) (ns := ns) (pre := []) h0 fun a k c e _ => hs a k c e
  refine ⟨st', ?_, q2⟩
  unfold mFor
  rw [hi]
  exact q1
theorem mkF_rt {n N : Nat} {m : MS} {ds : List D} {d : D} (hl : ds.length = n) (h : m (ds.map Slot.dat ++ List.replicate (N - n) .un) = .rt d) : mkF n N m ds = .ok d := by
  unfold mkF
  rw [if_pos hl, h]
theorem Ls_nil : (D.lst []) = Ls [] := rfl
@[simp] theorem eq_Ls_nil (xs : List Int) : eqD (Ls xs) (.lst []) = some (.bl (decide (xs = []))) := eq_Ls xs []
@[simp] theorem ne_Ls_nil (xs : List Int) : neD (Ls xs) (.lst []) = some (.bl (!decide (xs = []))) := ne_Ls xs []
theorem any_ints (k : Int) : ∀ xs : List Int, ((xs.map D.int).any fun y => eqF y (.int k)) = decide (k ∈ xs)
  | [] => rfl
  | x :: xs => by
    rw [List.map_cons, List.any_cons, any_ints k xs]
    show (x == k || decide (k ∈ xs)) = _
    rw [Bool.beq_eq_decide_eq]
    simp only [List.mem_cons, Bool.decide_or]
    congr 1
    rw [decide_eq_decide]
    exact eq_comm
theorem all_flat : ∀ xs : List Int, (xs.map D.int).all flatD = true
  | [] => rfl
  | x :: xs => all_flat xs
@[simp] theorem in_Ls (k : Int) (xs : List Int) : inD false (.int k) (Ls xs) = some (.bl (decide (k ∈ xs))) := by
  show inL false (.int k) (xs.map D.int) = _
  unfold inL
  rw [if_pos ⟨rfl, all_flat xs⟩, if_neg (by decide), any_ints]
@[simp] theorem nin_Ls (k : Int) (xs : List Int) : inD true (.int k) (Ls xs) = some (.bl (!decide (k ∈ xs))) := by
  show inL true (.int k) (xs.map D.int) = _
  unfold inL
  rw [if_pos ⟨rfl, all_flat xs⟩, if_pos rfl, any_ints]
/-! lists of pairs -/
def Prs (ps : List (Int × Int)) : D := .lst (ps.map fun p => D.tup [.int p.1, .int p.2])
theorem prsOf_prs : ∀ ps : List (Int × Int), prsOf (ps.map fun p => D.tup [.int p.1, .int p.2]) = some ps
  | [] => rfl
  | p :: ps => by
    show (prsOf (ps.map _)).map (fun q => (p.1, p.2) :: q) = _
    rw [prsOf_prs ps]
    rfl
theorem okd_prs (n : Nat) : ∀ ps : List (Int × Int), (ps.map fun p => D.tup [.int p.1, .int p.2]).all (okd (n + 2)) = true
  | [] => rfl
  | p :: ps => okd_prs n ps
theorem eqv_prs_nil (ps : List (Int × Int)) : eqv (Prs ps) (.lst []) = decide (ps = []) := by
  show PyData.eqv (toP (.lst _)) (toP (.lst [])) = _
  cases ps <;> (simp only [toP, toPs, List.map_nil, List.map_cons, PyData.eqv, PyData.eqvAll]; simp)
@[simp] theorem ne_prs_nil (ps : List (Int × Int)) : neD (Prs ps) (.lst []) = some (.bl (!decide (ps = []))) := by
  unfold neD
  rw [if_pos ⟨okd_prs 3 ps, rfl⟩, eqv_prs_nil]
/-- the second number of the least pair -/
def bestOf : List (Int × Int) → D
  | [] => .non
  | p :: ps => .int (minPr p ps).2
@[simp] theorem minPB_cons (p : Int × Int) (ps : List (Int × Int)) : minPB [Prs (p :: ps)] = some (.tup [.int (minPr p ps).1, .int (minPr p ps).2]) := by
  show ((prsOf _).bind _) = _
  rw [prsOf_prs]
  rfl
theorem best_ok {f : ME} {st : Store} {ps : List (Int × Int)} (h : f st = .ok (Prs ps)) : eIf (mVal (bin neD f (eLst aNil))) (bin ixD (bcall minPB (aCons f aNil)) (eC (.int 1))) (eC .non) st = .ok (bestOf ps) := by
  cases ps with
  | nil => simp [h, bestOf]
  | cons p ps =>
    simp [h, bestOf]
    rfl
theorem comp_prs {it : MA} {own : List Nat} {b : D → Store → Option Store} {e : ME} {st : Store} {ns : List Int} {g : Int → Int × Int} (hi : it st = .ok (ns.map D.int)) (hl : ns.length ≤ 100000)
    (h : ∀ k ∈ ns, ∃ st1, b (.int k) (wipeS st own) = some st1 ∧ e st1 = .ok (.tup [.int (g k).1, .int (g k).2])) : eComp it own b mYes e st = .ok (Prs (ns.map g)) := by
  unfold eComp
  rw [hi]
  simp only [bind_ok]
  have q := compGo_of (b := b) (c := mYes) (e := e) (st := wipeS st own) (p := fun _ => true) (g := fun d => match d with | .int k => .tup [.int (g k).1, .int (g k).2] | d => d) (ds := ns.map D.int) fun d hd => by
    obtain ⟨k, hk, rfl⟩ := List.mem_map.mp hd
    obtain ⟨st1, h1, h2⟩ := h k hk
    exact ⟨st1, h1, rfl, fun _ => h2⟩
  rw [q]
  simp only [bind_ok]
  rw [List.filter_eq_self.mpr (fun _ _ => rfl), List.map_map, if_pos (by simpa using hl)]
  unfold Prs
  rw [List.map_map]
  rfl
theorem iota_ix {n k : Int} {g : Int → Int} (h0 : 0 ≤ k) (h1 : k < n) : ixD (Ls ((iota n).map g)) (.int k) = some (.int (g k)) := by
  apply atI_int
  apply atI_some h0
  rw [List.getElem?_map, iota_get (by omega)]
  show some (g (k.toNat : Int)) = _
  rw [show ((k.toNat : Nat) : Int) = k by omega]
/-- an own list of numbers -/
def Os (xs : List Int) : Slot := .own (xs.map D.int)
@[simp] theorem thaw1_Os (xs : List Int) : thaw1 (Os xs) = .dat (Ls xs) := rfl
theorem app_Os {i : Nat} {f : ME} {st : Store} {xs : List Int} {k : Int} (h : st[i]? = some (Os xs)) (hf : f st = .ok (.int k)) (hl : xs.length < 100000) : mApp i f st = .nx (st.set i (Os (xs ++ [k]))) := by
  unfold mApp ifOwn appTo
  rw [hf]
  simp only [thn_ok]
  rw [h]
  simp only [Os, List.length_map]
  rw [if_pos hl, List.map_append]
  rfl
theorem ne_best (ps : List (Int × Int)) : neD (bestOf ps) (bestOf ps) = some (.bl false) := by
  cases ps <;> simp [bestOf]
theorem pre_lt {a c ns : List Int} {k : Int} (e : a ++ k :: c = ns) : k ∈ ns ∧ a.length < ns.length := by
  subst e
  simp
theorem iota_nil {n : Int} (h : n ≤ 0) : iota n = [] := by
  unfold iota
  rw [show n.toNat = 0 by omega]
  rfl
end Pg

namespace Pg
open PySem L2
theorem compGo_gen {α : Type} {q : α → D} {b : D → Store → Option Store} {c : MT} {e : ME} {st : Store} {p : α → Bool} {g : α → D} : ∀ {xs : List α}, (∀ x ∈ xs, ∃ st1, b (q x) st = some st1 ∧ c st1 = .ok (p x) ∧ (p x = true → e st1 = .ok (g x))) → compGo b c e st (xs.map q) = .ok ((xs.filter p).map g)
  | [], _ => rfl
  | d :: ds, h => by
    obtain ⟨st1, h1, h2, h3⟩ := h d List.mem_cons_self
    have ih := compGo_gen (q := q) (xs := ds) fun d hd => h d (List.mem_cons_of_mem _ hd)
    rw [List.map_cons]
    unfold compGo
    rw [h1]
    simp only [of_some, bind_ok, h2, nr_ok]
    cases z : p d with
    | true =>
      rw [if_pos rfl, h3 z]
      simp only [nr_ok, bind_ok, ih]
      rw [List.filter_cons_of_pos z, List.map_cons]
    | false =>
      rw [if_neg Bool.false_ne_true, ih, List.filter_cons_of_neg (by rw [z]; simp)]
/-- a comprehension over anything -/
theorem comp_gen {α : Type} {it : MA} {own : List Nat} {b : D → Store → Option Store} {c : MT} {e : ME} {st : Store} {xs : List α} {q : α → D} {p : α → Bool} {g : α → D} (hi : it st = .ok (xs.map q)) (hl : xs.length ≤ 100000)
    (h : ∀ x ∈ xs, ∃ st1, b (q x) (wipeS st own) = some st1 ∧ c st1 = .ok (p x) ∧ (p x = true → e st1 = .ok (g x))) : eComp it own b c e st = .ok (.lst ((xs.filter p).map g)) := by
  unfold eComp
  rw [hi]
  simp only [bind_ok]
  rw [compGo_gen h]
  simp only [bind_ok]
  rw [if_pos]
  rw [List.length_map]
  exact Nat.le_trans (List.length_filter_le _ _) hl
theorem comp_map {α : Type} {it : MA} {own : List Nat} {b : D → Store → Option Store} {e : ME} {st : Store} {xs : List α} {q : α → D} {g : α → D} (hi : it st = .ok (xs.map q)) (hl : xs.length ≤ 100000)
    (h : ∀ x ∈ xs, ∃ st1, b (q x) (wipeS st own) = some st1 ∧ e st1 = .ok (g x)) : eComp it own b mYes e st = .ok (.lst (xs.map g)) := by
  have r := comp_gen (it := it) (own := own) (b := b) (c := mYes) (e := e) (st := st) (xs := xs) (q := q) (p := fun _ => true) (g := g) hi hl fun x hx => by
    obtain ⟨st1, h1, h2⟩ := h x hx
    exact ⟨st1, h1, rfl, fun _ => h2⟩
  rw [r, List.filter_eq_self.mpr (fun _ _ => rfl)]
/-! lists that rise -/
theorem sorted_ext : ∀ {xs ys : List Int}, xs.Pairwise (· < ·) → ys.Pairwise (· < ·) → (∀ a, a ∈ xs ↔ a ∈ ys) → xs = ys
  | [], [], _, _, _ => rfl
  | [], y :: ys, _, _, h => by have := (h y).mpr List.mem_cons_self; simp at this
  | x :: xs, [], _, _, h => by have := (h x).mp List.mem_cons_self; simp at this
  | x :: xs, y :: ys, h1, h2, h => by
    have a1 := List.pairwise_cons.mp h1
    have a2 := List.pairwise_cons.mp h2
    have e : x = y := by
      have b1 := List.mem_cons.mp ((h x).mp List.mem_cons_self)
      have b2 := List.mem_cons.mp ((h y).mpr List.mem_cons_self)
      rcases b1 with b1 | b1
      · exact b1
      · rcases b2 with b2 | b2
        · exact b2.symm
        · have := a2.1 x b1
          have := a1.1 y b2
          omega
    subst e
    rw [sorted_ext a1.2 a2.2 fun a => ?_]
    constructor
    · intro ha
      rcases List.mem_cons.mp ((h a).mp (List.mem_cons_of_mem _ ha)) with b | b
      · have := a1.1 a ha
        omega
      · exact b
    · intro ha
      rcases List.mem_cons.mp ((h a).mpr (List.mem_cons_of_mem _ ha)) with b | b
      · have := a2.1 a ha
        omega
      · exact b
/-- a, a + 1, .. below b -/
def span (a b : Int) : List Int := (List.range (b - a).toNat).map fun i => a + ((i : Nat) : Int)
theorem mem_span {a b k : Int} : k ∈ span a b ↔ a ≤ k ∧ k < b := by
  unfold span
  simp only [List.mem_map, List.mem_range]
  constructor
  · rintro ⟨i, hi, rfl⟩
    omega
  · rintro ⟨h0, h1⟩
    exact ⟨(k - a).toNat, by omega, by omega⟩
theorem span_rise (a b : Int) : (span a b).Pairwise (· < ·) := by
  unfold span
  rw [List.pairwise_map]
  exact List.pairwise_lt_range.imp fun h => by omega
theorem iota_span (n : Int) : iota n = span 0 n := by
  unfold iota span
  rw [show (n - 0).toNat = n.toNat by omega]
  apply List.map_congr_left
  intro i _
  omega
theorem iota_rise (n : Int) : (iota n).Pairwise (· < ·) := by rw [iota_span]; exact span_rise 0 n
theorem span_len (a b : Int) : (span a b).length = (b - a).toNat := by unfold span; simp
theorem rangeI_span (a b : Int) : rangeI a (b - a).toNat = (span a b).map D.int := by
  unfold rangeI span
  rw [List.map_map]
  rfl
theorem rg2_span {a b : Int} (h1 : -100000 ≤ a) (h2 : a ≤ 100000) (h3 : -100000 ≤ b) (h4 : b ≤ 100000) : rg2D (.int a) (.int b) = some (Ls (span a b)) := by
  show (if _ then _ else _) = _
  rw [if_pos ⟨⟨h1, h2⟩, h3, h4⟩, rangeI_span]
  rfl
theorem rg1_iota {n : Int} (h1 : 0 ≤ n) (h2 : n ≤ 100000) : rg1D (.int n) = some (Ls (iota n)) := by
  show (if _ then _ else _) = _
  rw [if_pos ⟨h1, h2⟩, rangeI_iota]
  rfl
theorem filter_span {a b n : Int} (h0 : 0 ≤ a) (h1 : b ≤ n) : (iota n).filter (fun k => decide (a ≤ k) && decide (k < b)) = span a b := by
  apply sorted_ext ((iota_rise n).filter _) (span_rise a b)
  intro k
  simp only [List.mem_filter, mem_iota, mem_span, Bool.and_eq_true, decide_eq_true_eq]
  omega
theorem maxI_some : ∀ {ns : List Int}, ns ≠ [] → ∃ m, maxI ns = some m
  | [], h => absurd rfl h
  | [a], _ => ⟨a, rfl⟩
  | a :: b :: r, _ => by
    obtain ⟨m, h⟩ := maxI_some (ns := b :: r) (by simp)
    refine ⟨max a m, ?_⟩
    show (maxI (b :: r)).map (max a) = _
    rw [h]
    rfl
@[simp] theorem maxB_Ls (ns : List Int) : maxB [Ls ns] = (maxI ns).map D.int := by
  show ((intsOf (ns.map D.int)).bind fun ns => (maxI ns).map D.int) = _
  rw [intsOf_map]
  rfl
/-! gaps -/
namespace Vw
def at' (v : Vw) (s : Int) : Vw := ⟨v.rows, v.h, s, v.r⟩
theorem at_wok {v : Vw} (h : v.wok) {s : Int} (h1 : 1 ≤ s) (h2 : s ≤ 1000) : (v.at' s).wok := ⟨h.h1, h.hr, h.r99, h.h30, h1, h2⟩
theorem at_rest (v : Vw) (s : Int) : (v.at' s).rest = v.rest := rfl
theorem rest0 {v : Vw} (h : v.wok) : 0 ≤ v.rest ∧ v.rest ≤ 98 := by
  have ⟨h1, h2, h3, h4, h5, h6⟩ := h
  unfold Vw.rest
  omega
theorem rnd_mul {q b : Int} (hb : 0 < b) (r : Rl) : rnd (q * b) b r = q := by
  cases r
  · exact Int.mul_ediv_cancel q (by omega)
  · apply div_uniq (by omega)
    · rw [show 2 * b * q = 2 * (q * b) by rw [Int.mul_assoc, Int.mul_comm b q]]; omega
    · rw [show 2 * b * q = 2 * (q * b) by rw [Int.mul_assoc, Int.mul_comm b q]]; omega
  · apply div_uniq hb
    · rw [Int.mul_comm]; omega
    · rw [Int.mul_comm]; omega
theorem first_0 {v : Vw} (h : v.wok) : v.first 0 = 0 := by
  have := rnd_mul (q := 0) (b := v.s) (by have := h.s1; omega) v.r
  unfold Vw.first
  rw [Int.zero_mul] at *
  exact this
theorem first_s {v : Vw} (h : v.wok) : v.first v.s = v.rest := by
  have := rnd_mul (q := v.rest) (b := v.s) (by have := h.s1; omega) v.r
  unfold Vw.first
  rw [Int.mul_comm v.s]
  exact this
theorem rnd_mono {a b s : Int} (hs : 0 < s) (h : a ≤ b) (r : Rl) : rnd a s r ≤ rnd b s r := by
  cases r
  · exact Int.ediv_le_ediv hs h
  · exact Int.ediv_le_ediv (by omega) (by omega)
  · exact Int.ediv_le_ediv hs (by omega)
theorem first_mono {v : Vw} (h : v.wok) {j k : Int} (hjk : j ≤ k) : v.first j ≤ v.first k :=
  rnd_mono (by have := h.s1; omega) (Int.mul_le_mul_of_nonneg_right hjk (rest0 h).1) v.r
theorem first_bd {v : Vw} (h : v.wok) {k : Int} (h0 : 0 ≤ k) (h1 : k ≤ v.s) : 0 ≤ v.first k ∧ v.first k ≤ v.rest := by
  have a := first_mono h h0
  have b := first_mono h h1
  rw [first_0 h] at a
  rw [first_s h] at b
  exact ⟨a, b⟩
def gaps (v : Vw) : List Int := (iota v.s).map fun k => v.first (k + 1) - v.first k
def gap (v : Vw) : Int := (maxI v.gaps).getD 0
theorem gap_some {v : Vw} (h : 1 ≤ v.s) : maxI v.gaps = some v.gap := by
  obtain ⟨m, e⟩ := maxI_some (ns := v.gaps) (by
    intro e
    have := congrArg List.length e
    unfold gaps at this
    rw [List.length_map, iota_length, List.length_nil] at this
    omega)
  unfold gap
  rw [e]
  rfl
theorem gap_le {v : Vw} (h : 1 ≤ v.s) {m : Int} : v.gap ≤ m ↔ ∀ k, 0 ≤ k → k < v.s → v.first (k + 1) - v.first k ≤ m := by
  obtain ⟨a, b⟩ := maxI_max (gap_some h)
  constructor
  · intro hm k h0 h1
    have := b _ (List.mem_map.mpr ⟨k, mem_iota.mpr ⟨h0, h1⟩, rfl⟩)
    omega
  · intro hk
    obtain ⟨k, hk1, hk2⟩ := List.mem_map.mp a
    have ⟨z0, z1⟩ := mem_iota.mp hk1
    rw [← hk2]
    exact hk k z0 z1
theorem tele {f : Int → Int} {m : Int} : ∀ (n : Nat), (∀ k : Int, 0 ≤ k → k < n → f (k + 1) - f k ≤ m) → f n ≤ f 0 + n * m
  | 0, _ => by simp
  | n + 1, h => by
    have a := tele n fun k h0 h1 => h k h0 (by omega)
    have b := h n (by omega) (by omega)
    rw [show ((n + 1 : Nat) : Int) = (n : Int) + 1 from rfl, Int.add_mul, Int.one_mul]
    omega
theorem rest_le_gap {v : Vw} (h : v.wok) : v.rest ≤ v.s * v.gap := by
  have hs := h.s1
  have a := tele (f := v.first) (m := v.gap) v.s.toNat fun k h0 h1 => (gap_le hs).mp (Int.le_refl _) k h0 (by omega)
  rw [show ((v.s.toNat : Nat) : Int) = v.s by omega, first_0 h, first_s h] at a
  omega
/-- where as many steps are as rows are left, or more, no row is jumped over -/
theorem gap_few {v : Vw} (h : v.wok) (hr : v.rest ≤ v.s) : v.gap ≤ 1 := by
  have hs := h.s1
  rw [gap_le hs]
  intro k h0 h1
  have e : v.first (k + 1) ≤ v.first k + 1 := by
    unfold Vw.first
    have e1 : rnd ((k + 1) * v.rest) v.s v.r ≤ rnd (k * v.rest + 1 * v.s) v.s v.r := rnd_mono (by omega) (by rw [Int.add_mul]; omega) v.r
    have e2 : rnd (k * v.rest + 1 * v.s) v.s v.r = rnd (k * v.rest) v.s v.r + 1 := by
      cases v.r
      · show (_ : Int) / _ = _ / _ + 1
        rw [Int.add_mul_ediv_right _ _ (by omega)]
      · show (_ : Int) / _ = _ / _ + 1
        rw [show 2 * (k * v.rest + 1 * v.s) + v.s = 2 * (k * v.rest) + v.s + 1 * (2 * v.s) by omega, Int.add_mul_ediv_right _ _ (by omega)]
      · show (_ : Int) / _ = _ / _ + 1
        rw [show k * v.rest + 1 * v.s + v.s - 1 = k * v.rest + v.s - 1 + 1 * v.s by omega, Int.add_mul_ediv_right _ _ (by omega)]
    omega
  omega
theorem gap_many {v : Vw} (h : v.wok) (hr : v.s < v.rest) : 1 < v.gap := by
  have a := rest_le_gap h
  have hs := h.s1
  have c : ¬ v.gap ≤ 1 := fun hg => by
    have : v.s * v.gap ≤ v.s * 1 := Int.mul_le_mul_of_nonneg_left hg (by omega)
    omega
  omega
/-- the least number of steps from 1 on that does -/
theorem least {p : Int → Bool} {M : Int} (h1 : 1 ≤ M) (hp : p M = true) : ∃ s, 1 ≤ s ∧ s ≤ M ∧ p s = true ∧ ∀ t, 1 ≤ t → t < s → p t = false := by
  have go : ∀ (n : Nat) (M : Int), 1 ≤ M → M ≤ n → p M = true → ∃ s, 1 ≤ s ∧ s ≤ M ∧ p s = true ∧ ∀ t, 1 ≤ t → t < s → p t = false := by
    intro n
    induction n with
    | zero => intro M h1 h2 _; omega
    | succ n ih =>
      intro M h1 h2 hp
      by_cases q : ∃ t, 1 ≤ t ∧ t < M ∧ p t = true
      · obtain ⟨t, t1, t2, t3⟩ := q
        obtain ⟨s, a, b, c, d⟩ := ih t t1 (by omega) t3
        exact ⟨s, a, by omega, c, d⟩
      · refine ⟨M, h1, Int.le_refl _, hp, fun t t1 t2 => ?_⟩
        cases e : p t with
        | false => rfl
        | true => exact absurd ⟨t, t1, t2, e⟩ q
  exact go M.toNat M h1 (by omega) hp
end Vw
theorem cut_tail (xs : List D) : cutD xs (some 1) none = xs.drop 1 := by
  have e : HT.sIx xs.length 0 (some ((1 : Nat) : Int)) = min 1 xs.length := HT.sIx_nat _ _ 1
  have e' : HT.sIx xs.length 0 (some (1 : Int)) = min 1 xs.length := e
  unfold cutD
  rw [e', HT.sIx_none]
  by_cases h : 1 ≤ xs.length
  · rw [Nat.min_eq_left h]
    exact List.take_of_length_le (by simp)
  · have : xs = [] := List.length_eq_zero_iff.mp (by omega)
    subst this
    rfl
/-- numbers that follow one another, in pairs -/
theorem zip_iota {f : Int → Int} {n : Int} (h : 0 ≤ n) : zipD (((iota (n + 1)).map f).map D.int) ((((iota (n + 1)).map f).map D.int).drop 1) = (iota n).map fun k => D.tup [.int (f k), .int (f (k + 1))] := by
  apply List.ext_getElem?
  intro i
  unfold zipD
  rw [List.getElem?_zipWith, List.getElem?_drop]
  simp only [List.getElem?_map]
  by_cases hi : (i : Int) < n
  · rw [iota_get (n := n + 1) (by omega), iota_get (n := n + 1) (k := 1 + i) (by omega), iota_get hi]
    simp only [Option.map_some]
    rw [show ((1 + i : Nat) : Int) = (i : Int) + 1 by omega]
  · rw [List.getElem?_eq_none (l := iota (n + 1)) (i := 1 + i) (by rw [iota_length]; omega), List.getElem?_eq_none (l := iota n) (by rw [iota_length]; omega)]
    simp
end Pg

namespace Pg
open PySem L2
theorem app_OsF {i : Nat} {f : ME} {st : Store} {xs : List Int} {k : Int} (h : st[i]? = some (Os xs)) (hf : f (thaw st) = .ok (.int k)) (hl : xs.length < 100000) : mAppF i f st = .nx (st.set i (Os (xs ++ [k]))) := by
  unfold mAppF ifOwn appTo
  rw [hf]
  simp only [thn_ok]
  rw [h]
  simp only [Os, List.length_map]
  rw [if_pos hl, List.map_append]
  rfl
theorem last_ix (xs : List Int) (x : Int) : ixD (Ls (xs ++ [x])) (.int (-1)) = some (.int x) := by
  apply atI_int
  unfold atI ixN
  rw [if_neg (by decide)]
  have hl : (xs ++ [x]).length = xs.length + 1 := by simp
  rw [hl, if_pos (by omega)]
  rw [show (-1 + ((xs.length + 1 : Nat) : Int)).toNat = xs.length by omega]
  simp
theorem nodup_len : ∀ (n : Nat) (xs : List Int), xs.Nodup → (∀ k ∈ xs, 0 ≤ k ∧ k < n) → xs.length ≤ n
  | 0, xs, _, h => by
    cases xs with
    | nil => exact Nat.zero_le _
    | cons x r => have := h x List.mem_cons_self; omega
  | n + 1, xs, hn, h => by
    have a := nodup_len n (xs.erase (n : Int)) (hn.erase _) fun k hk => by
      have := (hn.mem_erase_iff).mp hk
      have := h k this.2
      omega
    have b : (xs.erase (n : Int)).length = if (n : Int) ∈ xs then xs.length - 1 else xs.length := List.length_erase
    split at b <;> omega
namespace Vw
def back (v : Vw) (row : Int) : Int := if v.rest = 0 then 0 else rnd (row * v.s) v.rest v.r
def ret (v : Vw) (k : Int) : Int := v.back (v.first k)
theorem rnd_0 {b : Int} (hb : 0 < b) (r : Rl) : rnd 0 b r = 0 := by
  have := rnd_mul (q := 0) hb r
  rw [Int.zero_mul] at this
  exact this
theorem back_bd {v : Vw} (h : v.wok) {row : Int} (h0 : 0 ≤ row) (h1 : row ≤ v.rest) : 0 ≤ v.back row ∧ v.back row ≤ v.s := by
  have hs := h.s1
  unfold back
  split
  · omega
  · have hr : 0 < v.rest := by omega
    have a := rnd_mono (a := 0) (b := row * v.s) hr (Int.mul_nonneg h0 (by omega)) v.r
    have b := rnd_mono (a := row * v.s) (b := v.rest * v.s) hr (Int.mul_le_mul_of_nonneg_right h1 (by omega)) v.r
    rw [rnd_0 hr] at a
    rw [Int.mul_comm v.rest v.s, rnd_mul hr] at b
    exact ⟨a, b⟩
theorem ret_bd {v : Vw} (h : v.wok) {k : Int} (h0 : 0 ≤ k) (h1 : k ≤ v.s) : 0 ≤ v.ret k ∧ v.ret k ≤ v.s := by
  have ⟨a, b⟩ := first_bd h h0 h1
  exact back_bd h a b
def steady (v : Vw) : List Int := (iota (v.s + 1)).filter fun k => decide (v.ret k = k)
/-- from x on, behind what was met -/
inductive Path (v : Vw) : List Int → Int → List Int → Prop where
  | stop {due : List Int} {x : Int} : x ∈ due → Path v due x due
  | go {due : List Int} {x : Int} {p : List Int} : x ∉ due → Path v (due ++ [x]) (v.ret x) p → Path v due x p
theorem path_some {v : Vw} (h : v.wok) : ∀ (n : Nat) (due : List Int) (x : Int), due.Nodup → (∀ k ∈ due, 0 ≤ k ∧ k ≤ v.s) → 0 ≤ x → x ≤ v.s → (v.s + 2 - due.length).toNat ≤ n → ∃ p, Path v due x p ∧ p.Nodup ∧ (∀ k ∈ p, 0 ≤ k ∧ k ≤ v.s)
  | 0, due, x, hn, hd, h0, h1, hl => by
    have := nodup_len (v.s + 1).toNat due hn fun k hk => by have := hd k hk; omega
    have := h.s1
    omega
  | n + 1, due, x, hn, hd, h0, h1, hl => by
    by_cases q : x ∈ due
    · exact ⟨due, .stop q, hn, hd⟩
    · have ⟨r0, r1⟩ := ret_bd h h0 h1
      have hs := h.s1
      have := nodup_len (v.s + 1).toNat due hn fun k hk => by have := hd k hk; omega
      obtain ⟨p, a, b⟩ := path_some h n (due ++ [x]) (v.ret x) (List.nodup_append.mpr ⟨hn, by simp, fun a ha b hb => by
        simp at hb
        subst hb
        exact fun e => q (e ▸ ha)⟩) (fun k hk => by
        rcases List.mem_append.mp hk with z | z
        · exact hd k z
        · simp at z
          omega) r0 r1 (by
            have : (due ++ [x]).length = due.length + 1 := by simp
            omega)
      exact ⟨p, .go q a, b⟩
theorem path_len {v : Vw} {due p : List Int} {x : Int} (h : Path v due x p) : due.length ≤ p.length := by
  induction h with
  | stop _ => exact Nat.le_refl _
  | go _ _ ih =>
    rw [List.length_append] at ih
    simp only [List.length_cons, List.length_nil] at ih
    omega
end Vw
end Pg

namespace Pg
open PySem L2
theorem eqv_self {d : D} (h : okd 6 d = true) : eqv d d = true := SeqAt.eqv_refl _ (okd_shape 6 d h).1
theorem eq_self' {d : D} (h : okd 6 d = true) : eqD d d = some (.bl true) := by
  unfold eqD
  rw [if_pos ⟨h, h⟩, eqv_self h]
theorem ne_self {d : D} (h : okd 6 d = true) : neD d d = some (.bl false) := by
  unfold neD
  rw [if_pos ⟨h, h⟩, eqv_self h]
  rfl
/-- a loop that ends at the first number that does -/
theorem loop_find {b : D → Store → Option Store} {body : MS} {I : Store → Prop} {p : Int → Bool} {g : Int → D} : ∀ {ns : List Int} {st : Store}, I st → (∀ k ∈ ns, ∀ st, I st → ∃ st1, b (.int k) st = some st1 ∧ (p k = true → body st1 = .rt (g k)) ∧ (p k = false → ∃ st2, body st1 = .nx st2 ∧ I st2)) →
    match ns.filter p with
    | [] => ∃ st', mLoop b body (ns.map D.int) st = .nx st' ∧ I st'
    | k :: _ => mLoop b body (ns.map D.int) st = .rt (g k)
  | [], st, h, _ => ⟨st, rfl, h⟩
  | k :: ns, st, h, hs => by
    obtain ⟨st1, h1, h2, h3⟩ := hs k List.mem_cons_self st h
    cases q : p k with
    | true =>
      rw [List.filter_cons_of_pos q]
      show mLoop b body (_ :: _) st = _
      unfold mLoop
      rw [h1]
      simp only [h2 q]
    | false =>
      rw [List.filter_cons_of_neg (by rw [q]; simp)]
      obtain ⟨st2, h4, h5⟩ := h3 q
      have e : mLoop b body ((k :: ns).map D.int) st = mLoop b body (ns.map D.int) st2 := by
        show mLoop b body (_ :: _) st = _
        conv => lhs; unfold mLoop
        rw [h1]
        simp only [h4]
      rw [e]
      exact loop_find h5 fun k hk => hs k (List.mem_cons_of_mem _ hk)
/-- the first of a list, or None -/
def headD : List Int → D
  | [] => .non
  | k :: _ => .int k
theorem okd_headD (xs : List Int) : okd 6 (headD xs) = true := by cases xs <;> rfl
theorem head_ok {f : ME} {st : Store} {xs : List Int} (h : f st = .ok (Ls xs)) : eIf (mVal (bin neD f (eLst aNil))) (bin ixD f (eC (.int 0))) (eC .non) st = .ok (headD xs) := by
  cases xs with
  | nil => simp [h, headD]
  | cons x xs =>
    have e : ixD (Ls (x :: xs)) (.int 0) = some (.int x) := atI_int (atI_some (by decide) rfl)
    simp [h, headD, e]
/-! lists of words -/
def rls : List Rl := [.down, .near, .up]
def Ws (rs : List Rl) : D := .lst (rs.map fun r => .str r.s)
@[simp] theorem okd_r (r : Rl) : okd 5 (.str r.s) = true := by cases r <;> exact strOk_lit _
theorem okd_Ws (rs : List Rl) : okd 6 (Ws rs) = true := by
  show (rs.map _).all (okd 5) = true
  rw [List.all_map]
  exact List.all_eq_true.mpr fun r _ => okd_r r
@[simp] theorem lenB_Ws (rs : List Rl) : lenB [Ws rs] = some (.int rs.length) := by
  show some (D.int ((rs.map _).length : Nat)) = _
  rw [List.length_map]
namespace Vw
def by' (v : Vw) (r : Rl) : Vw := ⟨v.rows, v.h, v.s, r⟩
theorem by_wok {v : Vw} (h : v.wok) (r : Rl) : (v.by' r).wok := ⟨h.h1, h.hr, h.r99, h.h30, h.s1, h.s100⟩
theorem by_ok {v : Vw} (h : v.ok) (r : Rl) : (v.by' r).ok := ⟨by_wok h.w r, h.s60⟩
/-- with more rows -/
def more (v : Vw) (n : Int) : Vw := ⟨v.rows + n, v.h, v.s, v.r⟩
def tall (v : Vw) (n : Int) : Vw := ⟨v.rows + n, v.h + n, v.s, v.r⟩
theorem more_wok {v : Vw} (h : v.wok) {n : Int} (h0 : 0 ≤ n) (h1 : v.rows + n ≤ 99) : (v.more n).wok := ⟨h.h1, by have := h.hr; show v.h ≤ v.rows + n; omega, h1, h.h30, h.s1, h.s100⟩
theorem more_ok {v : Vw} (h : v.ok) {n : Int} (h0 : 0 ≤ n) (h1 : v.rows + n ≤ 99) : (v.more n).ok := ⟨more_wok h.w h0 h1, h.s60⟩
theorem tall_ok {v : Vw} (h : v.ok) {n : Int} (h0 : 0 ≤ n) (h1 : v.rows + n ≤ 99) (h2 : v.h + n ≤ 30) : (v.tall n).ok := ⟨⟨by have := h.w.h1; show 1 ≤ v.h + n; omega, by have := h.w.hr; show v.h + n ≤ v.rows + n; omega, h1, h2, h.w.s1, h.w.s100⟩, h.s60⟩
def alike (v u : Vw) : Bool := decide (v.h = u.h) && decide (v.firsts = u.firsts)
def apart (v u : Vw) : List Int := (iota (v.s + 1)).filter fun k => !decide (v.h = u.h) || !decide (v.first k = u.first k)
def rules (v : Vw) : List Rl := rls.filter fun r => decide (v.firsts = (v.by' r).firsts)
def same (v u : Vw) : List Int := (iota (v.s + 1)).filter fun k => decide (v.first k = u.first k)
theorem firsts_length {v : Vw} (h : v.wok) : (v.firsts.length : Int) = v.s + 1 := by
  have := h.s1
  unfold firsts
  rw [List.length_map, iota_length]
  omega
end Vw
end Pg

namespace Pg
open PySem L2
theorem map_iota_eq {f g : Int → Int} {n : Int} : (iota n).map f = (iota n).map g ↔ ∀ k, 0 ≤ k → k < n → f k = g k := by
  constructor
  · intro h k h0 h1
    exact List.map_inj_left.mp h k (mem_iota.mpr ⟨h0, h1⟩)
  · intro h
    apply List.map_congr_left
    intro k hk
    have ⟨k0, k1⟩ := mem_iota.mp hk
    exact h k k0 k1
theorem filter_nil {p : Int → Bool} {n : Int} : (iota n).filter p = [] ↔ ∀ k, 0 ≤ k → k < n → p k = false := by
  rw [List.filter_eq_nil_iff]
  constructor
  · intro h k h0 h1
    have := h k (mem_iota.mpr ⟨h0, h1⟩)
    simpa using this
  · intro h k hk
    have ⟨k0, k1⟩ := mem_iota.mp hk
    rw [h k k0 k1]
    simp
theorem filter_all {p : Int → Bool} {n : Int} : (iota n).filter p = iota n ↔ ∀ k, 0 ≤ k → k < n → p k = true := by
  rw [List.filter_eq_self]
  constructor
  · intro h k h0 h1
    exact h k (mem_iota.mpr ⟨h0, h1⟩)
  · intro h k hk
    have ⟨k0, k1⟩ := mem_iota.mp hk
    exact h k k0 k1
theorem filter_same {p q : Int → Bool} {n : Int} (h : ∀ k, 0 ≤ k → k < n → p k = q k) : (iota n).filter p = (iota n).filter q := by
  apply List.filter_congr
  intro k hk
  have ⟨k0, k1⟩ := mem_iota.mp hk
  exact h k k0 k1
theorem filter_head {p : Int → Bool} {n k : Int} {r : List Int} (h : (iota n).filter p = k :: r) : 0 ≤ k ∧ k < n ∧ p k = true ∧ ∀ j, 0 ≤ j → j < k → p j = false := by
  have hk : k ∈ (iota n).filter p := by rw [h]; exact List.mem_cons_self
  have ⟨a, b⟩ := List.mem_filter.mp hk
  have ⟨k0, k1⟩ := mem_iota.mp a
  refine ⟨k0, k1, b, fun j j0 j1 => ?_⟩
  cases e : p j with
  | false => rfl
  | true =>
    have hj : j ∈ (iota n).filter p := List.mem_filter.mpr ⟨mem_iota.mpr ⟨j0, by omega⟩, e⟩
    have hs := (iota_rise n).filter p
    rw [h] at hj hs
    have := (List.pairwise_cons.mp hs).1
    rcases List.mem_cons.mp hj with z | z
    · omega
    · have := this j z
      omega
theorem cut_to {xs : List D} {k : Int} (h0 : 0 ≤ k) (h1 : k ≤ xs.length) : cutD xs none (some k) = xs.take k.toNat := by
  have e : HT.sIx xs.length xs.length (some ((k.toNat : Nat) : Int)) = min k.toNat xs.length := HT.sIx_nat _ _ _
  rw [show ((k.toNat : Nat) : Int) = k by omega] at e
  unfold cutD
  rw [e, HT.sIx_none, Nat.min_eq_left (by omega)]
  rfl
theorem sl_to {xs : List Int} {k : Int} (h0 : 0 ≤ k) (h1 : k ≤ xs.length) : slD (Ls xs) none (some k) = some (Ls (xs.take k.toNat)) := by
  show some (D.lst (cutD (xs.map D.int) none (some k))) = _
  rw [cut_to h0 (by simpa using h1), ← List.map_take]
  rfl
theorem take_map_iota {f g : Int → Int} {n k : Int} (h : ∀ j, 0 ≤ j → j < k → f j = g j) : ((iota n).map f).take k.toNat = ((iota n).map g).take k.toNat := by
  rw [← List.map_take, ← List.map_take]
  apply List.map_congr_left
  intro j hj
  have hs := iota_rise n
  obtain ⟨i, hi, e⟩ := List.getElem_of_mem hj
  have hi' : i < k.toNat ∧ i < n.toNat := by
    rw [List.length_take, iota_length] at hi
    omega
  rw [List.getElem_take] at e
  have e2 : (iota n)[i]? = some ((i : Nat) : Int) := iota_get (by omega)
  rw [List.getElem?_eq_getElem (by rw [iota_length]; omega)] at e2
  have e3 := Option.some.inj e2
  rw [e3] at e
  subst e
  exact h _ (by omega) (by omega)
theorem Rl.s_inj : ∀ {a b : Rl}, a.s = b.s → a = b := by
  intro a b h
  cases a <;> cases b <;> first | rfl | (exact absurd (ofString_inj.mp h) (by decide))
instance : DecidableEq Rl := fun a b => by cases a <;> cases b <;> first | exact isTrue rfl | exact isFalse (by intro h; cases h)
theorem in_Ws (neg : Bool) (r : Rl) (rs : List Rl) : inD neg (.str r.s) (Ws rs) = some (.bl (if neg then !decide (r ∈ rs) else decide (r ∈ rs))) := by
  have e : ∀ rs : List Rl, ((rs.map fun r => D.str r.s).any fun y => eqF y (.str r.s)) = decide (r ∈ rs) := by
    intro rs
    induction rs with
    | nil => rfl
    | cons x xs ih =>
      rw [List.map_cons, List.any_cons, ih]
      show (x.s == r.s || decide (r ∈ xs)) = _
      rw [Bool.beq_eq_decide_eq]
      simp only [List.mem_cons, Bool.decide_or]
      congr 1
      rw [decide_eq_decide]
      exact ⟨fun h => (Rl.s_inj h).symm, fun h => by rw [h]⟩
  have fl : ∀ rs : List Rl, (rs.map fun r => D.str r.s).all flatD = true := by
    intro rs
    induction rs with
    | nil => rfl
    | cons x xs ih => exact ih
  show inL neg (.str r.s) (rs.map fun r => D.str r.s) = _
  unfold inL
  rw [if_pos ⟨rfl, fl rs⟩, e]
namespace Vw
theorem firsts_iff {v u : Vw} (h : v.s = u.s) : v.firsts = u.firsts ↔ ∀ k, 0 ≤ k → k ≤ v.s → v.first k = u.first k := by
  unfold firsts
  rw [← h, map_iota_eq]
  constructor
  · intro z k h0 h1
    exact z k h0 (by omega)
  · intro z k h0 h1
    exact z k h0 (by omega)
theorem apart_nil {v u : Vw} (h : v.s = u.s) (hh : v.h = u.h) : v.apart u = [] ↔ v.firsts = u.firsts := by
  unfold apart
  rw [filter_nil, firsts_iff h]
  simp only [hh, decide_true, Bool.not_true, Bool.false_or, Bool.not_eq_false', decide_eq_true_eq]
  constructor
  · intro z k h0 h1
    exact z k h0 (by omega)
  · intro z k h0 h1
    exact z k h0 (by omega)
theorem apart_comm {v u : Vw} (h : v.s = u.s) : v.apart u = u.apart v := by
  unfold apart
  rw [h]
  apply filter_same
  intro k _ _
  rw [show decide (v.h = u.h) = decide (u.h = v.h) by rw [decide_eq_decide]; exact eq_comm, show decide (v.first k = u.first k) = decide (u.first k = v.first k) by rw [decide_eq_decide]; exact eq_comm]
theorem by_self (v : Vw) : v.by' v.r = v := rfl
theorem mem_rls (r : Rl) : r ∈ rls := by cases r <;> simp [rls]
theorem mem_rules {v : Vw} {r : Rl} : r ∈ v.rules ↔ v.firsts = (v.by' r).firsts := by
  unfold rules
  rw [List.mem_filter]
  simp [mem_rls r]
theorem rules_all {v : Vw} (h : v.wok) (e : v.rest % v.s = 0) : v.rules = rls := by
  unfold rules
  rw [List.filter_eq_self]
  intro r _
  rw [decide_eq_true_eq, firsts_iff (show v.s = (v.by' r).s from rfl)]
  intro k h0 h1
  have hs := h.s1
  have e2 : k * v.rest = k * (v.rest / v.s) * v.s := by
    have := Int.mul_ediv_add_emod v.rest v.s
    rw [e, Int.add_zero, Int.mul_comm] at this
    rw [Int.mul_assoc, this]
  show rnd (k * v.rest) v.s v.r = rnd (k * v.rest) v.s r
  rw [e2, rnd_mul (by omega), rnd_mul (by omega)]
theorem rules_few {v : Vw} (h : v.wok) (e : v.rest % v.s ≠ 0) : (v.rules.length : Int) < 3 := by
  have hs := h.s1
  have r0 := Int.emod_nonneg v.rest (show v.s ≠ 0 by omega)
  have no : ¬ (v.firsts = (v.by' .down).firsts ∧ v.firsts = (v.by' .up).firsts) := by
    rintro ⟨a, b⟩
    have c := (firsts_iff (v := v.by' .down) (u := v.by' .up) rfl).mp (a ▸ b) 1 (by omega) hs
    have d : (1 * v.rest) / v.s = (1 * v.rest + v.s - 1) / v.s := c
    rw [Int.one_mul, up_eq (by omega), if_pos (by omega)] at d
    omega
  unfold rules rls
  by_cases a : v.firsts = (v.by' .down).firsts
  · have b : ¬ v.firsts = (v.by' .up).firsts := fun b => no ⟨a, b⟩
    simp only [List.filter_cons, List.filter_nil, b, decide_false, Bool.false_eq_true, if_false]
    split <;> split <;> simp
  · simp only [List.filter_cons, List.filter_nil, a, decide_false, Bool.false_eq_true, if_false]
    split <;> split <;> simp
theorem shows_congr {v u : Vw} {k row : Int} (hh : v.h = u.h) (h : v.first k = u.first k) : (decide (0 ≤ row - v.first k) && decide (row - v.first k < v.h)) = (decide (0 ≤ row - u.first k) && decide (row - u.first k < u.h)) := by rw [hh, h]
theorem same_all {v u : Vw} (h : v.s = u.s) : v.same u = iota (v.s + 1) ↔ v.firsts = u.firsts := by
  unfold same
  rw [filter_all, firsts_iff h]
  simp only [decide_eq_true_eq]
  constructor
  · intro z k h0 h1
    exact z k h0 (by omega)
  · intro z k h0 h1
    exact z k h0 (by omega)
theorem mem_same {v u : Vw} {k : Int} : k ∈ v.same u ↔ (0 ≤ k ∧ k < v.s + 1) ∧ v.first k = u.first k := by
  unfold same
  rw [List.mem_filter, mem_iota]
  simp
theorem not_same {v u : Vw} (hh : v.h = u.h) : (iota (v.s + 1)).filter (fun k => !decide (k ∈ v.same u)) = v.apart u := by
  unfold apart
  apply filter_same
  intro k k0 k1
  simp only [hh, decide_true, Bool.not_true, Bool.false_or]
  congr 1
  rw [decide_eq_decide, mem_same]
  exact ⟨fun z => z.2, fun z => ⟨⟨k0, k1⟩, z⟩⟩
end Vw
end Pg

namespace Pg
open PySem L2
theorem iota_last {n : Int} {g : Int → Int} (h : 0 ≤ n) : ixD (Ls ((iota (n + 1)).map g)) (.int (-1)) = some (.int (g n)) := by
  have e : iota (n + 1) = iota n ++ [n] := by
    unfold iota
    rw [show (n + 1).toNat = n.toNat + 1 by omega, List.range_succ, List.map_append]
    simp only [List.map_cons, List.map_nil]
    rw [show ((n.toNat : Nat) : Int) = n by omega]
  rw [e, List.map_append]
  exact last_ix _ _
theorem okd_Prs (ps : List (Int × Int)) : okd 6 (Prs ps) = true := okd_prs 3 ps
namespace Vw
/-- where as many steps are as rows are left, or fewer, every step goes on -/
theorem first_go {v : Vw} (h : v.wok) (hr : v.s ≤ v.rest) (k : Int) : v.first k + 1 ≤ v.first (k + 1) := by
  have hs := h.s1
  have e1 : rnd (k * v.rest + 1 * v.s) v.s v.r ≤ rnd ((k + 1) * v.rest) v.s v.r := rnd_mono (by omega) (by rw [Int.add_mul]; omega) v.r
  have e2 : rnd (k * v.rest + 1 * v.s) v.s v.r = rnd (k * v.rest) v.s v.r + 1 := by
    cases v.r
    · show (_ : Int) / _ = _ / _ + 1
      rw [Int.add_mul_ediv_right _ _ (by omega)]
    · show (_ : Int) / _ = _ / _ + 1
      rw [show 2 * (k * v.rest + 1 * v.s) + v.s = 2 * (k * v.rest) + v.s + 1 * (2 * v.s) by omega, Int.add_mul_ediv_right _ _ (by omega)]
    · show (_ : Int) / _ = _ / _ + 1
      rw [show k * v.rest + 1 * v.s + v.s - 1 = k * v.rest + v.s - 1 + 1 * v.s by omega, Int.add_mul_ediv_right _ _ (by omega)]
  show rnd (k * v.rest) v.s v.r + 1 ≤ rnd ((k + 1) * v.rest) v.s v.r
  omega
def still (v : Vw) : List Int := (iota v.s).filter fun k => decide (v.first k = v.first (k + 1))
theorem still_nil {v : Vw} (h : v.wok) : v.still = [] ↔ v.s ≤ v.rest := by
  have hs := h.s1
  unfold still
  rw [filter_nil]
  simp only [decide_eq_false_iff_not]
  constructor
  · intro z
    have a := tele (f := fun k => - v.first k) (m := -1) v.s.toNat fun k h0 h1 => by
      have b := z k h0 (by omega)
      have c := first_mono h (show k ≤ k + 1 by omega)
      omega
    rw [show ((v.s.toNat : Nat) : Int) = v.s by omega, first_0 h, first_s h] at a
    omega
  · intro z k h0 h1
    have := first_go h z k
    omega
end Vw
end Pg

namespace Pg
open PySem L2
@[simp] theorem anyB_bls (bs : List Bool) : anyB [.lst (bs.map D.bl)] = some (.bl (bs.any id)) := by
  show (blsOf (bs.map D.bl)).map _ = _
  rw [blsOf_map]
  rfl
@[simp] theorem allB_bls (bs : List Bool) : allB [.lst (bs.map D.bl)] = some (.bl (bs.all id)) := by
  show (blsOf (bs.map D.bl)).map _ = _
  rw [blsOf_map]
  rfl
/-- a comprehension over numbers, giving truth values -/
theorem comp_bls {it : MA} {own : List Nat} {b : D → Store → Option Store} {e : ME} {st : Store} {ns : List Int} {g : Int → Bool} (hi : it st = .ok (ns.map D.int)) (hl : ns.length ≤ 100000)
    (h : ∀ k ∈ ns, ∃ st1, b (.int k) (wipeS st own) = some st1 ∧ e st1 = .ok (.bl (g k))) : eComp it own b mYes e st = .ok (.lst ((ns.map g).map D.bl)) := by
  have q := comp_map (it := it) (own := own) (b := b) (e := e) (st := st) (xs := ns) (q := D.int) (g := fun k => .bl (g k)) hi hl h
  rw [q, List.map_map]
  rfl
/-- the differences of numbers that follow one another -/
theorem gap_comp {v : Vw} (h : v.wok) {i j k : Nat} {st : Store} (hi : st[i]? = some (.dat (Ls v.firsts))) (hx : ∀ x y : Slot, (((wipeS st [j, k]).set j x).set k y)[j]? = some x ∧ (((wipeS st [j, k]).set j x).set k y)[k]? = some y) :
    eComp (iArg zipA (aCons (eVar i) (aCons (eSl (eVar i) (oSome (eC (.int 1))) oNone) aNil))) [j, k] (bTup [j, k]) mYes (bin subD (eVar k) (eVar j)) st = .ok (Ls v.gaps) := by
  have ⟨g1, g2, g3, g4, g5, g6⟩ := h
  have q := comp_map (it := iArg zipA (aCons (eVar i) (aCons (eSl (eVar i) (oSome (eC (.int 1))) oNone) aNil))) (own := [j, k]) (b := bTup [j, k]) (e := bin subD (eVar k) (eVar j)) (st := st) (xs := iota v.s) (q := fun k => D.tup [.int (v.first k), .int (v.first (k + 1))]) (g := fun k => .int (v.first (k + 1) - v.first k))
    (by
      have z := zip_iota (f := v.first) (n := v.s) (by omega)
      simp only [iArg_eq, aCons_eq, eVar_eq, aNil_eq, eSl_eq, oSome_eq, oNone_eq, eC_eq, bind_ok, hi, asInt_int, of_some]
      show (R.of (zipA [.lst _, .lst (cutD _ (some 1) none)])) = _
      rw [cut_tail]
      show R.ok (zipD _ _) = _
      rw [← z]
      rfl)
    (by rw [iota_length]; omega) (fun a ha => by
      have ⟨b, c⟩ := hx (.dat (.int (v.first a))) (.dat (.int (v.first (a + 1))))
      exact ⟨_, rfl, by simp [setAll, b, c]⟩)
  rw [q]
  congr 1
  unfold Ls Vw.gaps
  rw [List.map_map]
  rfl
namespace Vw
/-- from k = 0 on, the last that does -/
theorem last_true {p : Int → Bool} : ∀ (n : Nat), p 0 = true → ∃ k : Int, 0 ≤ k ∧ k ≤ n ∧ p k = true ∧ (k < n → p (k + 1) = false)
  | 0, h => ⟨0, by omega, by omega, h, fun z => by omega⟩
  | n + 1, h => by
    cases e : p ((n : Int) + 1) with
    | true => exact ⟨(n : Int) + 1, by omega, by omega, e, fun z => by omega⟩
    | false =>
      obtain ⟨k, a, b, c, d⟩ := last_true n h
      refine ⟨k, a, by omega, c, fun z => ?_⟩
      by_cases q : k < n
      · exact d q
      · rw [show k = n by omega]
        exact e
/-- all rows are shown just where no gap is wider than the view -/
theorem seen_all {v : Vw} (h : v.wok) : (∀ row, 0 ≤ row → row < v.rows → ∃ k, 0 ≤ k ∧ k ≤ v.s ∧ v.first k ≤ row ∧ row < v.first k + v.h) ↔ v.gap ≤ v.h := by
  have hs := h.s1
  have h1 := h.h1
  have rr : v.rest = v.rows - v.h := rfl
  rw [gap_le hs]
  constructor
  · intro z k k0 k1
    by_cases q : v.first (k + 1) - v.first k ≤ v.h
    · exact q
    · have ⟨a0, a1⟩ := first_bd h k0 (show k ≤ v.s by omega)
      have ⟨b0, b1⟩ := first_bd h (k := k + 1) (by omega) (by omega)
      obtain ⟨j, j0, j1, j2, j3⟩ := z (v.first k + v.h) (by omega) (by omega)
      by_cases w : j ≤ k
      · have := first_mono h w
        omega
      · have := first_mono h (show k + 1 ≤ j by omega)
        omega
  · intro z row r0 r1
    obtain ⟨k, k0, k1, k2, k3⟩ := last_true (p := fun k => decide (v.first k ≤ row)) v.s.toNat (by rw [first_0 h]; simpa using r0)
    rw [show ((v.s.toNat : Nat) : Int) = v.s by omega] at k1 k3
    simp only [decide_eq_true_eq, decide_eq_false_iff_not] at k2 k3
    refine ⟨k, k0, k1, k2, ?_⟩
    by_cases q : k < v.s
    · have := k3 q
      have := z k k0 q
      omega
    · have e : k = v.s := by omega
      rw [e, first_s h]
      omega
end Vw
end Pg

namespace Pg
open PySem L2
theorem nodup_sub : ∀ {xs ys : List Int}, xs.Nodup → (∀ a ∈ xs, a ∈ ys) → xs.length ≤ ys.length
  | [], _, _, _ => Nat.zero_le _
  | x :: xs, ys, hn, h => by
    have a := List.nodup_cons.mp hn
    have b := nodup_sub (xs := xs) (ys := ys.erase x) a.2 fun y hy => by
      have : y ≠ x := fun e => a.1 (e ▸ hy)
      exact (List.mem_erase_of_ne this).mpr (h y (List.mem_cons_of_mem _ hy))
    have c : x ∈ ys := h x List.mem_cons_self
    have d := List.length_erase_of_mem c
    have e := List.length_pos_of_mem c
    rw [List.length_cons]
    omega
theorem nodup_len_eq {xs ys : List Int} (h1 : xs.Nodup) (h2 : ys.Nodup) (h : ∀ a, a ∈ xs ↔ a ∈ ys) : xs.length = ys.length :=
  Nat.le_antisymm (nodup_sub h1 fun a ha => (h a).mp ha) (nodup_sub h2 fun a ha => (h a).mpr ha)
theorem rise_nodup {xs : List Int} (h : xs.Pairwise (· < ·)) : xs.Nodup := h.imp fun h => by omega
theorem met_all (val : Nat → Int) : ∀ n : Nat, (PyProof.Rows.firstMet val n).Nodup ∧ ∀ a, a ∈ PyProof.Rows.firstMet val n ↔ ∃ i, i < n ∧ val i = a
  | 0 => ⟨by rw [PyProof.Rows.firstMet_zero]; exact List.nodup_nil, fun a => by rw [PyProof.Rows.firstMet_zero]; simp⟩
  | n + 1 => by
    obtain ⟨h1, h2⟩ := met_all val n
    rw [PyProof.Rows.firstMet_succ]
    unfold PyProof.Rows.step_dedup
    by_cases q : val n ∈ PyProof.Rows.firstMet val n
    · rw [if_pos (List.any_eq_true.mpr ⟨_, q, by simp⟩)]
      refine ⟨h1, fun a => ?_⟩
      rw [h2]
      constructor
      · rintro ⟨i, hi, e⟩
        exact ⟨i, by omega, e⟩
      · rintro ⟨i, hi, e⟩
        by_cases z : i < n
        · exact ⟨i, z, e⟩
        · have : i = n := by omega
          subst this
          obtain ⟨j, hj, e2⟩ := (h2 _).mp q
          exact ⟨j, hj, by rw [e2, e]⟩
    · rw [if_neg (fun z => by
        obtain ⟨y, hy, e⟩ := List.any_eq_true.mp z
        have : y = val n := by simpa using e
        exact q (this ▸ hy))]
      refine ⟨List.nodup_append.mpr ⟨h1, by simp, fun a ha b hb => by
        simp at hb
        subst hb
        exact fun e => q (e ▸ ha)⟩, fun a => ?_⟩
      rw [List.mem_append, h2]
      constructor
      · rintro (⟨i, hi, e⟩ | z)
        · exact ⟨i, by omega, e⟩
        · simp at z
          exact ⟨n, by omega, z.symm⟩
      · rintro ⟨i, hi, e⟩
        by_cases z : i < n
        · exact .inl ⟨i, z, e⟩
        · have : i = n := by omega
          subst this
          exact .inr (by simp [e])
theorem dedup_nodup (ns : List Int) : (dedupI ns).Nodup := (met_all _ _).1
theorem mem_dedup {ns : List Int} {a : Int} : a ∈ dedupI ns ↔ a ∈ ns := by
  unfold dedupI
  rw [(met_all _ _).2]
  constructor
  · rintro ⟨i, hi, e⟩
    rw [← e]
    show ns.getD i 0 ∈ ns
    rw [List.getD_eq_getElem?_getD, List.getElem?_eq_getElem hi]
    exact List.getElem_mem hi
  · intro h
    obtain ⟨i, hi, e⟩ := List.getElem_of_mem h
    refine ⟨i, hi, ?_⟩
    show ns.getD i 0 = a
    rw [List.getD_eq_getElem?_getD, List.getElem?_eq_getElem hi]
    exact e
theorem lenset_Ls {ns : List Int} (h : ns.length ≤ 4000) : lensetD (Ls ns) = some (.int ((dedupI ns).length : Nat)) := by
  show ((intsOf (ns.map D.int)).bind fun ns => if ns.length ≤ 4000 then some (D.int ((dedupI ns).length : Nat)) else none) = _
  rw [intsOf_map]
  show (if ns.length ≤ 4000 then _ else _) = _
  rw [if_pos h]
theorem filter_split {p : Int → Bool} : ∀ xs : List Int, (xs.filter p).length + (xs.filter fun a => !p a).length = xs.length
  | [] => rfl
  | x :: xs => by
    have ih := filter_split (p := p) xs
    cases e : p x with
    | true =>
      rw [List.filter_cons_of_pos e, List.filter_cons_of_neg (by rw [e]; simp)]
      simp only [List.length_cons]
      omega
    | false =>
      rw [List.filter_cons_of_neg (by rw [e]; simp), List.filter_cons_of_pos (by rw [e]; rfl)]
      simp only [List.length_cons]
      omega
namespace Vw
theorem rest_gap1 {v : Vw} (h : v.wok) : v.gap ≤ 1 ↔ v.rest ≤ v.s := by
  constructor
  · intro z
    have := gap_many h
    have c : ¬ v.s < v.rest := fun q => by have := this q; omega
    omega
  · exact gap_few h
theorem gap_0 {v : Vw} (h : v.wok) : v.gap = 0 ↔ v.rest = 0 := by
  have hs := h.s1
  have ⟨r0, r1⟩ := rest0 h
  constructor
  · intro z
    have := rest_le_gap h
    rw [z, Int.mul_zero] at this
    omega
  · intro z
    have f0 : ∀ k, 0 ≤ k → k ≤ v.s → v.first k = 0 := fun k k0 k1 => by
      have := first_bd h k0 k1
      omega
    have a : v.gap ≤ 0 := (gap_le hs).mpr fun k k0 k1 => by
      rw [f0 k k0 (by omega), f0 (k + 1) (by omega) (by omega)]
      omega
    have b : ¬ v.gap ≤ -1 := fun q => by
      have := (gap_le hs).mp q 0 (by omega) (by omega)
      rw [f0 0 (by omega) (by omega), f0 (0 + 1) (by omega) (by omega)] at this
      omega
    omega
theorem gap_rest {v : Vw} (h : v.wok) : v.gap ≤ v.rest := (gap_le h.s1).mpr fun k k0 k1 => by
  have a := first_bd h k0 (show k ≤ v.s by omega)
  have b := first_bd h (k := k + 1) (by omega) (by omega)
  omega
/-- the rest is gone through in steps of m rows at most, where s steps of m rows are enough -/
theorem gap_of {v : Vw} (h : v.wok) {m : Int} (hm : v.rest ≤ m * v.s) : v.gap ≤ m := by
  have hs := h.s1
  rw [gap_le hs]
  intro k h0 h1
  have e1 : rnd ((k + 1) * v.rest) v.s v.r ≤ rnd (k * v.rest + m * v.s) v.s v.r := rnd_mono (by omega) (by rw [Int.add_mul]; omega) v.r
  have e2 : rnd (k * v.rest + m * v.s) v.s v.r = rnd (k * v.rest) v.s v.r + m := by
    cases v.r
    · show (_ : Int) / _ = _ / _ + m
      rw [Int.add_mul_ediv_right _ _ (by omega)]
    · show (_ : Int) / _ = _ / _ + m
      have : m * (2 * v.s) = 2 * (m * v.s) := by rw [Int.mul_left_comm]
      rw [show 2 * (k * v.rest + m * v.s) + v.s = 2 * (k * v.rest) + v.s + m * (2 * v.s) by omega, Int.add_mul_ediv_right _ _ (by omega)]
    · show (_ : Int) / _ = _ / _ + m
      rw [show k * v.rest + m * v.s + v.s - 1 = k * v.rest + v.s - 1 + m * v.s by omega, Int.add_mul_ediv_right _ _ (by omega)]
  show rnd ((k + 1) * v.rest) v.s v.r - rnd (k * v.rest) v.s v.r ≤ m
  omega
theorem gap_hi {v : Vw} (h : v.wok) : v.gap ≤ v.rest / v.s + 1 := by
  have hs := h.s1
  apply gap_of h
  have a := Int.mul_ediv_add_emod v.rest v.s
  have b := Int.emod_lt_of_pos v.rest (show 0 < v.s by omega)
  rw [Int.add_mul, Int.mul_comm (v.rest / v.s)]
  omega
theorem gap_lo {v : Vw} (h : v.wok) : v.rest / v.s ≤ v.gap := by
  have hs := h.s1
  have a := rest_le_gap h
  have b : v.rest / v.s ≤ v.s * v.gap / v.s := Int.ediv_le_ediv (by omega) a
  rw [Int.mul_ediv_cancel_left _ (by omega)] at b
  exact b
/-- row is behind what k shows, and before what follows -/
theorem hole_iff {v : Vw} (h : v.wok) {row : Int} (r0 : 0 ≤ row) (r1 : row < v.rows) : (∀ k, 0 ≤ k → k ≤ v.s → ¬ (v.first k ≤ row ∧ row < v.first k + v.h)) ↔ ∃ k, 0 ≤ k ∧ k < v.s ∧ v.first k + v.h ≤ row ∧ row < v.first (k + 1) := by
  have hs := h.s1
  have h1 := h.h1
  have rr : v.rest = v.rows - v.h := rfl
  constructor
  · intro z
    obtain ⟨k, k0, k1, k2, k3⟩ := last_true (p := fun k => decide (v.first k ≤ row)) v.s.toNat (by rw [first_0 h]; simpa using r0)
    rw [show ((v.s.toNat : Nat) : Int) = v.s by omega] at k1 k3
    simp only [decide_eq_true_eq, decide_eq_false_iff_not] at k2 k3
    have y := z k k0 k1
    by_cases q : k < v.s
    · exact ⟨k, k0, q, by omega, by have := k3 q; omega⟩
    · have e : k = v.s := by omega
      rw [e, first_s h] at y k2
      omega
  · rintro ⟨k, k0, k1, k2, k3⟩ j j0 j1 ⟨y1, y2⟩
    by_cases w : j ≤ k
    · have := first_mono h w
      omega
    · have := first_mono h (show k + 1 ≤ j by omega)
      omega
end Vw
end Pg

namespace Pg
open PySem L2
theorem sort_self {xs : List Int} (h : xs.Pairwise (· ≤ ·)) : sortI xs = xs := PySem.W.ksm_same (sortI_perm xs) (sortI_sorted xs) h
theorem sort_rev {xs : List Int} (h : xs.Pairwise (· > ·)) : sortI xs = xs.reverse := by
  refine PySem.W.ksm_same ((sortI_perm xs).trans (List.reverse_perm xs).symm) (sortI_sorted xs) ?_
  rw [List.pairwise_reverse]
  exact h.imp fun h => by omega
@[simp] theorem sortB_Ls (xs : List Int) : sortB [Ls xs] = some (Ls (sortI xs)) := by
  show (intsOf (xs.map D.int)).map _ = _
  rw [intsOf_map]
  rfl
@[simp] theorem revD_Ls (xs : List Int) : revD (Ls xs) = some (Ls xs.reverse) := by
  show some (D.lst (xs.map D.int).reverse) = _
  rw [← List.map_reverse]
  rfl
theorem eq_down (r : Rl) : eqD (.str r.s) (.str "down") = some (.bl (decide (r = .down))) := by cases r <;> simp [Rl.s]
theorem eq_near (r : Rl) : eqD (.str r.s) (.str "near") = some (.bl (decide (r = .near))) := by cases r <;> simp [Rl.s]
theorem eq_up (r : Rl) : eqD (.str r.s) (.str "up") = some (.bl (decide (r = .up))) := by cases r <;> simp [Rl.s]
theorem ne_near (r : Rl) : neD (.str r.s) (.str "near") = some (.bl (!decide (r = .near))) := by cases r <;> simp [Rl.s]
namespace Vw
theorem back_mono {v : Vw} (h : v.wok) {a b : Int} (h0 : a ≤ b) : v.back a ≤ v.back b := by
  have hs := h.s1
  have ⟨r0, r1⟩ := rest0 h
  unfold back
  split
  · exact Int.le_refl _
  · exact rnd_mono (by omega) (Int.mul_le_mul_of_nonneg_right h0 (by omega)) v.r
theorem back_0 {v : Vw} (h : v.wok) : v.back 0 = 0 := by
  have ⟨r0, r1⟩ := rest0 h
  unfold back
  split
  · rfl
  · rw [Int.zero_mul]
    exact rnd_0 (by omega) v.r
theorem back_rest {v : Vw} (h : v.wok) (hr : 0 < v.rest) : v.back v.rest = v.s := by
  unfold back
  rw [if_neg (by omega), Int.mul_comm, rnd_mul hr]
theorem ret_0 {v : Vw} (h : v.wok) : v.ret 0 = 0 := by
  unfold ret
  rw [first_0 h, back_0 h]
theorem ret_s {v : Vw} (h : v.wok) (hr : 0 < v.rest) : v.ret v.s = v.s := by
  unfold ret
  rw [first_s h, back_rest h hr]
theorem ret_no {v : Vw} (hr : v.rest = 0) (k : Int) : v.ret k = 0 := by
  unfold ret back
  rw [if_pos hr]
theorem ret_down {v : Vw} (h : v.wok) (hd : v.r = .down) {k : Int} (h0 : 0 ≤ k) : v.ret k ≤ k := by
  have hs := h.s1
  have ⟨r0, r1⟩ := rest0 h
  unfold ret back
  split
  · exact h0
  · rw [hd]
    have e : v.first k = k * v.rest / v.s := by
      unfold first
      rw [hd]
      rfl
    rw [e]
    show k * v.rest / v.s * v.s / v.rest ≤ k
    have a : k * v.rest / v.s * v.s ≤ k * v.rest := Int.ediv_mul_le _ (by omega)
    have b := Int.ediv_le_ediv (c := v.rest) (by omega) a
    rw [Int.mul_ediv_cancel _ (by omega)] at b
    exact b
theorem ret_up {v : Vw} (h : v.wok) (hd : v.r = .up) (hr : 0 < v.rest) (k : Int) : k ≤ v.ret k := by
  have hs := h.s1
  unfold ret back
  rw [if_neg (by omega), hd]
  have e : v.first k = (k * v.rest + v.s - 1) / v.s := by
    unfold first
    rw [hd]
    rfl
  rw [e]
  have a := Int.lt_ediv_add_one_mul_self (k * v.rest + v.s - 1) (show 0 < v.s by omega)
  rw [Int.add_mul, Int.one_mul] at a
  have b := rnd_mono (a := k * v.rest) (b := (k * v.rest + v.s - 1) / v.s * v.s) hr (by omega) .up
  rw [rnd_mul hr] at b
  exact b
theorem ret_near {v : Vw} (h : v.wok) (hd : v.r = .near) (hr : v.s < v.rest) (k : Int) : v.ret k = k := by
  have hs := h.s1
  unfold ret back
  rw [if_neg (by omega), hd]
  have e : v.first k = (2 * (k * v.rest) + v.s) / (2 * v.s) := by
    unfold first
    rw [hd]
    rfl
  have a := Int.mul_ediv_add_emod (2 * (k * v.rest) + v.s) (2 * v.s)
  have b := Int.emod_nonneg (2 * (k * v.rest) + v.s) (show 2 * v.s ≠ 0 by omega)
  have c := Int.emod_lt_of_pos (2 * (k * v.rest) + v.s) (show 0 < 2 * v.s by omega)
  rw [← e] at a
  have a2 : 2 * v.s * v.first k = 2 * (v.first k * v.s) := by rw [Int.mul_assoc, Int.mul_comm v.s]
  show (2 * (v.first k * v.s) + v.rest) / (2 * v.rest) = k
  have d : 2 * v.rest * k = 2 * (k * v.rest) := by rw [Int.mul_assoc, Int.mul_comm v.rest]
  exact div_uniq (by omega) (by omega) (by omega)
theorem ret_same {v : Vw} (h : v.wok) (hr : v.s = v.rest) (k : Int) : v.ret k = k := by
  have hs := h.s1
  have e : v.first k = k := by
    unfold first
    rw [hr]
    exact rnd_mul (by omega) v.r
  unfold ret back
  rw [if_neg (by omega), e, hr]
  exact rnd_mul (by omega) v.r
theorem steady_all {v : Vw} : v.steady = iota (v.s + 1) ↔ ∀ k, 0 ≤ k → k < v.s + 1 → v.ret k = k := by
  unfold steady
  rw [filter_all]
  simp only [decide_eq_true_eq]
theorem steady_len {v : Vw} (h : v.wok) : (v.steady.length : Int) = v.s + 1 ↔ v.steady = iota (v.s + 1) := by
  have hs := h.s1
  constructor
  · intro z
    have a := filter_split (p := fun k => decide (v.ret k = k)) (iota (v.s + 1))
    have b : (iota (v.s + 1)).length = (v.s + 1).toNat := iota_length _
    have c : ((iota (v.s + 1)).filter fun k => decide (v.ret k = k)).length = v.steady.length := rfl
    have d : ((iota (v.s + 1)).filter fun k => !decide (v.ret k = k)) = [] := List.length_eq_zero_iff.mp (by omega)
    rw [steady_all]
    intro k k0 k1
    have e := filter_nil.mp d k k0 k1
    simpa using e
  · intro z
    rw [z, iota_length]
    omega
theorem steady_no {v : Vw} (h : v.wok) (hr : v.rest < v.s) : ¬ v.steady = iota (v.s + 1) := by
  intro z
  rw [steady_all] at z
  have a : v.still = [] := by
    unfold still
    rw [filter_nil]
    intro k k0 k1
    rw [decide_eq_false_iff_not]
    intro e
    have b := z k k0 (by omega)
    have c := z (k + 1) (by omega) (by omega)
    unfold ret at b c
    rw [e, c] at b
    omega
  have := (still_nil h).mp a
  omega
theorem mem_steady {v : Vw} {k : Int} : k ∈ v.steady ↔ (0 ≤ k ∧ k < v.s + 1) ∧ v.ret k = k := by
  unfold steady
  rw [List.mem_filter, mem_iota, decide_eq_true_eq]
theorem path_pre {v : Vw} {due p : List Int} {x : Int} (h : Path v due x p) : ∃ q, p = due ++ q := by
  induction h with
  | stop _ => exact ⟨[], by simp⟩
  | go _ _ ih =>
    obtain ⟨q, e⟩ := ih
    exact ⟨_, by rw [e, List.append_assoc]⟩
theorem path_end {v : Vw} {due p : List Int} {x : Int} (h : Path v due x p) : ∀ (pre : List Int) (y : Int), due = pre ++ [y] → x = v.ret y → ∃ q z, p = q ++ [z] ∧ v.ret z ∈ p := by
  induction h with
  | stop hx =>
    intro pre y e1 e2
    exact ⟨pre, y, e1, by rw [← e2]; exact hx⟩
  | @go due x p hx _ ih =>
    intro pre y e1 e2
    exact ih due x rfl rfl
theorem path_desc {v : Vw} {due p : List Int} {x : Int} (h : Path v due x p) (hr : ∀ k, 0 ≤ k → v.ret k ≤ k) (hw : v.wok) : ∀ (pre : List Int) (y : Int), due = pre ++ [y] → x = v.ret y → (∀ k ∈ due, 0 ≤ k ∧ k ≤ v.s) → due.Pairwise (· > ·) → p.Pairwise (· > ·) := by
  induction h with
  | stop hx => exact fun _ _ _ _ _ h => h
  | @go due x p hx _ ih =>
    intro pre y e1 e2 hd hp
    have ⟨y0, y1⟩ := hd y (by rw [e1]; simp)
    have ⟨z0, z1⟩ := ret_bd hw y0 y1
    have xy : x < y := by
      have := hr y y0
      have : x ≠ y := fun e => hx (by rw [e, e1]; simp)
      omega
    refine ih due x rfl rfl (fun k hk => ?_) (List.pairwise_append.mpr ⟨hp, by simp, fun a ha b hb => ?_⟩)
    · rcases List.mem_append.mp hk with z | z
      · exact hd k z
      · simp at z
        omega
    · simp at hb
      subst hb
      rw [e1] at ha hp
      rcases List.mem_append.mp ha with z | z
      · have := (List.pairwise_append.mp hp).2.2 a z y (by simp)
        omega
      · simp at z
        omega
theorem path_asc {v : Vw} {due p : List Int} {x : Int} (h : Path v due x p) (hr : ∀ k, 0 ≤ k → k ≤ v.ret k) (hw : v.wok) : ∀ (pre : List Int) (y : Int), due = pre ++ [y] → x = v.ret y → (∀ k ∈ due, 0 ≤ k ∧ k ≤ v.s) → due.Pairwise (· < ·) → p.Pairwise (· < ·) := by
  induction h with
  | stop hx => exact fun _ _ _ _ _ h => h
  | @go due x p hx _ ih =>
    intro pre y e1 e2 hd hp
    have ⟨y0, y1⟩ := hd y (by rw [e1]; simp)
    have ⟨z0, z1⟩ := ret_bd hw y0 y1
    have xy : y < x := by
      have := hr y y0
      have : x ≠ y := fun e => hx (by rw [e, e1]; simp)
      omega
    refine ih due x rfl rfl (fun k hk => ?_) (List.pairwise_append.mpr ⟨hp, by simp, fun a ha b hb => ?_⟩)
    · rcases List.mem_append.mp hk with z | z
      · exact hd k z
      · simp at z
        omega
    · simp at hb
      subst hb
      rw [e1] at ha hp
      rcases List.mem_append.mp ha with z | z
      · have := (List.pairwise_append.mp hp).2.2 a z y (by simp)
        omega
      · simp at z
        omega
end Vw
end Pg

namespace Pg
open PySem L2
theorem sum_append (xs ys : List Int) : (xs ++ ys).sum = xs.sum + ys.sum := by
  induction xs with
  | nil => simp
  | cons x xs ih => simp only [List.cons_append, List.sum_cons, ih]; omega
theorem sum_add (f g : Int → Int) : ∀ xs : List Int, (xs.map fun a => f a + g a).sum = (xs.map f).sum + (xs.map g).sum
  | [] => rfl
  | x :: xs => by
    simp only [List.map_cons, List.sum_cons, sum_add f g xs]
    omega
theorem sum_ind (p : Int → Bool) : ∀ xs : List Int, (xs.map fun a => if p a = true then (1 : Int) else 0).sum = ((xs.filter p).length : Int)
  | [] => rfl
  | x :: xs => by
    simp only [List.map_cons, List.sum_cons, sum_ind p xs]
    cases e : p x with
    | true =>
      rw [List.filter_cons_of_pos e, List.length_cons]
      simp
      omega
    | false =>
      rw [List.filter_cons_of_neg (by rw [e]; simp)]
      simp
/-- counted by rows, counted by steps -/
theorem double (q : Int → Int → Bool) (rows : List Int) : ∀ ks : List Int, (rows.map fun r => ((ks.filter fun k => q k r).length : Int)).sum = (ks.map fun k => ((rows.filter fun r => q k r).length : Int)).sum
  | [] => by
    simp only [List.filter_nil, List.length_nil, List.map_nil, List.sum_nil]
    induction rows with
    | nil => rfl
    | cons r rs ih => simpa using ih
  | k :: ks => by
    rw [List.map_cons, List.sum_cons, ← double q rows ks, ← sum_ind, ← sum_add]
    congr 1
    apply List.map_congr_left
    intro r _
    cases e : q k r with
    | true =>
      rw [List.filter_cons_of_pos (p := fun k => q k r) e, List.length_cons]
      simp
      omega
    | false =>
      rw [List.filter_cons_of_neg (p := fun k => q k r) (by rw [e]; simp)]
      simp
theorem sum_const (c : Int) : ∀ xs : List Int, (xs.map fun _ => c).sum = c * xs.length
  | [] => by simp
  | x :: xs => by
    rw [List.map_cons, List.sum_cons, sum_const c xs, List.length_cons]
    rw [show ((xs.length + 1 : Nat) : Int) = (xs.length : Int) + 1 by omega, Int.mul_add, Int.mul_one]
    omega
@[simp] theorem sumB_Ls (ns : List Int) : sumB [Ls ns] = some (.int ns.sum) := by
  show (intsOf (ns.map D.int)).map _ = _
  rw [intsOf_map]
  rfl
/-- what holds between two that do -/
theorem filter_conv {p : Int → Bool} {n : Int} (hc : ∀ a b c, 0 ≤ a → a ≤ c → c ≤ b → b < n → p a = true → p b = true → p c = true) {k : Int} {r : List Int} (h : (iota n).filter p = k :: r) : (iota n).filter p = span k (k + ((iota n).filter p).length) := by
  have hk := filter_head h
  obtain ⟨z, hz⟩ : ∃ z, z ∈ (iota n).filter p ∧ ∀ j ∈ (iota n).filter p, j ≤ z := by
    obtain ⟨m, e⟩ := maxI_some (ns := (iota n).filter p) (by rw [h]; simp)
    exact ⟨m, maxI_max e⟩
  have e : (iota n).filter p = span k (z + 1) := by
    refine sorted_ext ((iota_rise n).filter _) (span_rise _ _) fun j => ?_
    rw [mem_span]
    constructor
    · intro hj
      have a := hz.2 j hj
      have ⟨b, c⟩ := List.mem_filter.mp hj
      have ⟨j0, j1⟩ := mem_iota.mp b
      have : ¬ j < k := fun q => by
        have := hk.2.2.2 j j0 q
        rw [this] at c
        cases c
      omega
    · rintro ⟨a, b⟩
      have ⟨c, d⟩ := List.mem_filter.mp hz.1
      have ⟨z0, z1⟩ := mem_iota.mp c
      exact List.mem_filter.mpr ⟨mem_iota.mpr ⟨by omega, by omega⟩, hc k z j hk.1 a (by omega) z1 hk.2.2.1 d⟩
  have l : ((iota n).filter p).length = (z + 1 - k).toNat := by rw [e, span_len]
  have kz : k ≤ z := hz.2 k (by rw [h]; exact List.mem_cons_self)
  have : k + (((iota n).filter p).length : Int) = z + 1 := by omega
  rw [this]
  exact e
theorem minPr_mem : ∀ (xs : List (Int × Int)) (x : Int × Int), minPr x xs ∈ x :: xs
  | [], x => List.mem_cons_self
  | y :: xs, x => by
    have e : minPr x (y :: xs) = minPr (if prLt y x = true then y else x) xs := rfl
    rw [e]
    have := minPr_mem xs (if prLt y x = true then y else x)
    rcases List.mem_cons.mp this with z | z
    · rw [z]
      split
      · exact List.mem_cons_of_mem _ List.mem_cons_self
      · exact List.mem_cons_self
    · exact List.mem_cons_of_mem _ (List.mem_cons_of_mem _ z)
theorem rev_iota : ∀ n : Nat, (iota n).reverse = (iota n).map fun k => (n : Int) - 1 - k := by
  intro n
  apply List.ext_getElem?
  intro i
  rw [List.getElem?_map]
  by_cases hi : i < n
  · rw [List.getElem?_reverse (by rw [iota_length]; omega), iota_length, iota_get (by omega), iota_get (by omega)]
    simp only [Option.map_some]
    congr 1
    omega
  · rw [List.getElem?_eq_none (by rw [List.length_reverse, iota_length]; omega), List.getElem?_eq_none (by rw [iota_length]; omega)]
    rfl
namespace Vw
/-- the rule the other way round -/
def flip : Rl → Rl
  | .down => .up
  | .up => .down
  | .near => .near
theorem div_neg {a s : Int} (hs : 0 < s) : (-a) / s = -((a + s - 1) / s) := by
  have e := Int.mul_ediv_add_emod (a + s - 1) s
  have r0 := Int.emod_nonneg (a + s - 1) (show s ≠ 0 by omega)
  have r1 := Int.emod_lt_of_pos (a + s - 1) hs
  apply div_uniq hs
  · rw [Int.mul_neg]; omega
  · rw [Int.mul_neg]; omega
theorem turn_first {v : Vw} (h : v.wok) (hn : v.r ≠ .near) (k : Int) : (v.by' (flip v.r)).first k = v.rest - v.first (v.s - k) := by
  have hs := h.s1
  have e : (v.s - k) * v.rest = -(k * v.rest) + v.rest * v.s := by rw [Int.sub_mul, Int.mul_comm v.s]; omega
  show rnd (k * v.rest) v.s (flip v.r) = v.rest - rnd ((v.s - k) * v.rest) v.s v.r
  rw [e]
  cases hr : v.r with
  | down =>
    show (k * v.rest + v.s - 1) / v.s = v.rest - (-(k * v.rest) + v.rest * v.s) / v.s
    rw [Int.add_mul_ediv_right _ _ (by omega), div_neg (by omega)]
    omega
  | near => exact absurd hr hn
  | up =>
    show k * v.rest / v.s = v.rest - (-(k * v.rest) + v.rest * v.s + v.s - 1) / v.s
    have d := div_neg (a := -(k * v.rest)) (s := v.s) (by omega)
    rw [Int.neg_neg] at d
    rw [show -(k * v.rest) + v.rest * v.s + v.s - 1 = -(k * v.rest) + v.s - 1 + v.rest * v.s by omega, Int.add_mul_ediv_right _ _ (by omega), d]
    omega
/-- the three rules, in order -/
theorem rules_order {a b : Int} (hb : 0 < b) : rnd a b .down ≤ rnd a b .near ∧ rnd a b .near ≤ rnd a b .up ∧ rnd a b .up ≤ rnd a b .down + 1 := by
  show a / b ≤ (2 * a + b) / (2 * b) ∧ (2 * a + b) / (2 * b) ≤ (a + b - 1) / b ∧ (a + b - 1) / b ≤ a / b + 1
  rw [near_eq hb, up_eq hb]
  split <;> split <;> omega
end Vw
end Pg

namespace Pg
open PySem PySem.Spec PyProof.Rows L2
variable [Tb]
theorem setR_size {w : World} {h : Heap} {a : Addr} {ns : List Int} {n : Nat} (R : SetR w h a (fun j => decide (j ∈ ns)) n) : n = (dedupI ns).length := by
  obtain ⟨o, es, ep, t, _, _, _, _, nd, hm, _, _, hn, _⟩ := R
  have a := nodup_len_eq nd (dedup_nodup ns) fun k => by
    rw [← hm k, mem_dedup]
    simp
  rw [List.length_map, Array.length_toList] at a
  omega
def tSortSet (K : Fr) (ta : TE) : TE := fun σ H Q => ta σ H fun x H1 => ∃ (l : Addr) (ns : List Int), x = .ref l ∧ SqL K H1 l (ns.map V.int) ∧ ns.length ≤ 4000 ∧ (dedupI ns).length < 64 ∧
  ∀ p, H1 p = none → Q (.ref p) (upd H1 p (.lst ((sortI (dedupI ns)).map V.int)))
theorem pe_sortSet {X : Cx} {a : Expr} {ta : TE} {p p2 q pos : Pos} (hg : Gl X "sorted") (hm : X.mg "sorted" = none) (hg2 : Gl X "set") (hm2 : X.mg "set" = none) (ha : PE X a ta) (hc : X.calm = true)
    (na : starEach [a] X.env = (false, eval a X.env) :: starEach [] X.env) : PE X (.Call (.Name "sorted" p) [.Call (.Name "set" p2) [a] [] q] [] pos) (tSortSet X.K ta) := by
  refine ⟨fun pins s σ H Q I h => ?_⟩
  refine Call_ (ld_blt I hg hm boot_sorted ?_)
  refine PyProof.Rows.callWith_builtin1 (PyProof.Rows.args_cons ?_ rfl) rfl rfl
  refine Call_ (ld_blt I hg2 hm2 boot_set ?_)
  refine PyProof.Rows.callWith_type1 (PyProof.Rows.args_cons (thn (ha.run pins s σ H _ I h) fun v s1 ⟨x, H1, I1, r1, q1⟩ => PyProof.Rows.args_nil ?_) na) na rfl
  obtain ⟨l, ns, rfl, hq, hl, h64, q1⟩ := q1
  cases r1
  obtain ⟨its, r, pl, hz⟩ := I1.list hq
  refine set_of_list ns (I1.ok.hd hc) pl.isList (by simpa using RZ.intsAre_vals r) (by unfold scanBound; omega) fun h' tk c sr hc2 kp => ?_
  refine PyProof.Rows.args_nil ?_
  have e := setR_size sr
  have I2 : Inv X pins σ H1 { s1 with heap := h', toks := tk } := I1.kept kp
  refine sorted_set sr (I2.ok.hd hc) (by omega) fun s' p out c2 ms hk hgn hos hp hout hi hpw hmem hlen => ?_
  have es : ms = sortI (dedupI ns) := by
    have rise : (sortI (dedupI ns)).Pairwise (· < ·) := lt_of_le_nodup _ (sortI_sorted _) ((sortI_perm _).nodup_iff.mpr (dedup_nodup ns))
    refine sorted_ext hpw rise fun k => ?_
    rw [hmem, (sortI_perm _).mem_iff, mem_dedup]
    simp
  subst es
  have hn : H1 p = none := I2.hok.fresh hp
  have hlen2 : ((sortI (dedupI ns)).map V.int).length ≤ sizeLine := by rw [List.length_map, sizeLine_eq]; omega
  have J : Inv X pins σ (upd H1 p (.lst ((sortI (dedupI ns)).map V.int))) { ({ s1 with heap := h', toks := tk } : Shared) with heap := s'.heap, gens := s'.gens, drawn := s'.drawn, toks := s'.toks } :=
    Inv.call (s := { s1 with heap := h', toks := tk }) I2 (ch := []) (Un.laid hk hp hn) (I2.hok.laid hk hp ⟨hlen2, out.toList, c2, vals_of_ints hi, hout⟩) (by rw [hgn]; exact I2.bare) (fun _ z => nomatch z)
  have e2 : s' = { s1 with heap := s'.heap, gens := s'.gens, drawn := s'.drawn, toks := s'.toks } := by
    cases s'
    cases s1
    cases hos
    rfl
  rw [e2]
  exact ⟨.ref p, _, J, rfl, q1 p hn⟩
theorem g_sortset {X : Cx} {ea : Fi} {W : WX} {a : Expr} {f : ME} {p p2 q pos : Pos} (hc : X.calm = true) (hm : X.mg "sorted" = none) (hm2 : X.mg "set" = none) (ha : PE X a (tE X.K ea W f)) (hg : Gl X "sorted" := by rfl) (hg2 : Gl X "set" := by rfl)
    (na : starEach [a] X.env = (false, eval a X.env) :: starEach [] X.env := by rfl) : PE X (.Call (.Name "sorted" p) [.Call (.Name "set" p2) [a] [] q] [] pos) (tE X.K ea W (unr sortsetD f)) :=
  (pe_sortSet hg hm hg2 hm2 ha hc na).weak fun σ H Q hq => by
    obtain ⟨H0, G, st, rl, a⟩ := hq
    refine ⟨H0, G, st, rl, aft_mono (aft_bind a) fun x G1 H1 e1 a1 v dv => ?_⟩
    obtain ⟨z, ez, k⟩ := aft_of a1
    cases dv with
    | @lst l vs xs hl hd =>
      have ez' : ((intsOf xs).bind fun ns => if (sortI (dedupI ns)).length < 64 ∧ ns.length ≤ 4000 then some (D.lst ((sortI (dedupI ns)).map D.int)) else none) = some z := ez
      obtain ⟨ns, h1, h2⟩ := Option.bind_eq_some_iff.mp ez'
      rw [intsOf_inv h1] at hd
      rw [hd.ints_inv] at hl
      split at h2
      · rename_i h4
        cases h2
        have h64 : (dedupI ns).length < 64 := by rw [← (sortI_perm _).length_eq]; exact h4.1
        refine ⟨l, ns, rfl, SqL.of (e1.s _ _ hl), h4.2, h64, fun p hp => ?_⟩
        have ex := Ext.new (G := G1) (H := H1) (p := p) (o := .lst ((sortI (dedupI ns)).map V.int)) e1.s hp
        exact k _ _ ex _ (.lst upd_same (dens_ints _))
      · cases h2
    | _ => cases ez
end Pg

namespace Pg
open PySem L2
/-! ### pages: what is reached in how many turns -/
theorem dgetI_mem {kvs : List (Int × Int)} {k v : Int} (h : dgetI kvs k = some v) : (k, v) ∈ kvs := by
  induction kvs with
  | nil => cases h
  | cons p r ih =>
    unfold dgetI at h
    split at h
    · rename_i e
      cases h
      exact List.mem_cons.mpr (.inl (by rw [← e]))
    · exact List.mem_cons_of_mem _ (ih h)
theorem dgetI_of {kvs : List (Int × Int)} (nd : (kvs.map (·.1)).Nodup) {k v : Int} (h : (k, v) ∈ kvs) : dgetI kvs k = some v := by
  induction kvs with
  | nil => cases h
  | cons p r ih =>
    rw [List.map_cons, List.nodup_cons] at nd
    unfold dgetI
    rcases List.mem_cons.mp h with e | e
    · rw [← e]
      simp
    · have : p.1 ≠ k := fun z => nd.1 (List.mem_map.mpr ⟨_, e, z.symm⟩)
      rw [if_neg this]
      exact ih nd.2 e
theorem dgetI_isSome {kvs : List (Int × Int)} {k : Int} : (dgetI kvs k).isSome = decide (k ∈ kvs.map (·.1)) := by
  induction kvs with
  | nil => rfl
  | cons p r ih =>
    unfold dgetI
    rw [List.map_cons]
    by_cases e : p.1 = k
    · rw [if_pos e]
      simp [e]
    · rw [if_neg e, ih]
      have : ¬ k = p.1 := fun z => e z.symm
      simp only [List.mem_cons, this, false_or]
def add1 (m : Int) (kvs : List (Int × Int)) (x : Int) : List (Int × Int) := if (dgetI kvs x).isSome = true then kvs else kvs ++ [(x, m)]
theorem mem_add1 {m : Int} {kvs : List (Int × Int)} {x : Int} {p : Int × Int} : p ∈ add1 m kvs x ↔ p ∈ kvs ∨ (p = (x, m) ∧ x ∉ kvs.map (·.1)) := by
  unfold add1
  rw [dgetI_isSome]
  by_cases h : x ∈ kvs.map (·.1)
  · rw [if_pos (by simpa using h)]
    exact ⟨.inl, fun z => z.elim id fun z => absurd h z.2⟩
  · rw [if_neg (by simpa using h), List.mem_append, List.mem_singleton]
    exact ⟨fun z => z.imp id fun z => ⟨z, h⟩, fun z => z.imp id fun z => z.1⟩
theorem add1_key {m : Int} {kvs : List (Int × Int)} {x : Int} : x ∈ (add1 m kvs x).map (·.1) := by
  by_cases h : x ∈ kvs.map (·.1)
  · obtain ⟨p, a, b⟩ := List.mem_map.mp h
    exact List.mem_map.mpr ⟨p, mem_add1.mpr (.inl a), b⟩
  · exact List.mem_map.mpr ⟨(x, m), mem_add1.mpr (.inr ⟨rfl, h⟩), rfl⟩
theorem add1_nd {m : Int} {kvs : List (Int × Int)} {x : Int} (h : (kvs.map (·.1)).Nodup) : ((add1 m kvs x).map (·.1)).Nodup := by
  unfold add1
  rw [dgetI_isSome]
  split
  · exact h
  · rename_i q
    have q : x ∉ kvs.map (·.1) := by simpa using q
    rw [List.map_append, List.nodup_append]
    refine ⟨h, by simp, fun a ha b hb e => ?_⟩
    simp at hb
    subst hb
    subst e
    exact q ha
/-- putting what is there, or anew -/
theorem put_add {kvs : List (Int × Int)} (nd : (kvs.map (·.1)).Nodup) (x m : Int) : putI kvs x ((dgetI kvs x).getD m) = add1 m kvs x := by
  have e0 : (kvs.any fun p => decide (p.1 = x)) = decide (x ∈ kvs.map (·.1)) := by
    rw [Bool.eq_iff_iff]
    simp only [List.any_eq_true, decide_eq_true_eq, List.mem_map]
  unfold putI add1
  rw [e0, dgetI_isSome]
  by_cases h : x ∈ kvs.map (·.1)
  · rw [if_pos (by simpa using h), if_pos (by simpa using h)]
    obtain ⟨p, hp, rfl⟩ := List.mem_map.mp h
    rw [dgetI_of nd (k := p.1) (v := p.2) hp]
    have : ∀ q ∈ kvs, (if q.1 = p.1 then (q.1, (some p.2).getD m) else q) = q := fun q hq => by
      split
      · rename_i e
        have a := dgetI_of nd (k := p.1) (v := p.2) hp
        have b := dgetI_of nd (k := q.1) (v := q.2) hq
        rw [e, a] at b
        exact Prod.ext rfl (Option.some.inj b)
      · rfl
    rw [List.map_congr_left this, List.map_id']
  · rw [if_neg (by simpa using h), if_neg (by simpa using h)]
    have : dgetI kvs x = none := by
      cases q : dgetI kvs x with
      | none => rfl
      | some v =>
        have := dgetI_isSome (kvs := kvs) (k := x)
        rw [q] at this
        simp at this
        exact absurd this (by simpa using h)
    rw [this]
    rfl
/-- what d turns lead to -/
inductive Reach (L s a : Int) : Nat → Int → Prop where
  | zero : Reach L s a 0 a
  | up {d : Nat} {x : Int} : Reach L s a d x → Reach L s a (d + 1) (min (x + s) L)
  | dn {d : Nat} {x : Int} : Reach L s a d x → Reach L s a (d + 1) (max (x - s) 0)
def nbs (L s x : Int) : List Int := [min (x + s) L, max (x - s) 0]
theorem Reach.nb {L s a : Int} {d : Nat} {x y : Int} (h : Reach L s a d x) (hy : y ∈ nbs L s x) : Reach L s a (d + 1) y := by
  unfold nbs at hy
  simp only [List.mem_cons, List.not_mem_nil, or_false] at hy
  rcases hy with rfl | rfl
  · exact h.up
  · exact h.dn
theorem Reach.inv {L s a : Int} {d : Nat} {y : Int} (h : Reach L s a (d + 1) y) : ∃ x, Reach L s a d x ∧ y ∈ nbs L s x := by
  cases h with
  | up h => exact ⟨_, h, by simp [nbs]⟩
  | dn h => exact ⟨_, h, by simp [nbs]⟩
theorem Reach.bd {L s a : Int} (ha : 0 ≤ a) (ha2 : a ≤ L) (hs : 0 ≤ s) {d : Nat} {x : Int} (h : Reach L s a d x) : 0 ≤ x ∧ x ≤ L := by
  induction h with
  | zero => exact ⟨ha, ha2⟩
  | up _ ih => omega
  | dn _ ih => omega
def rowsAt (kvs : List (Int × Int)) (m : Int) : List Int := (kvs.filter fun p => decide (p.2 = m)).map (·.1)
theorem mem_rowsAt {kvs : List (Int × Int)} {m x : Int} : x ∈ rowsAt kvs m ↔ (x, m) ∈ kvs := by
  unfold rowsAt
  simp only [List.mem_map, List.mem_filter, decide_eq_true_eq]
  constructor
  · rintro ⟨p, ⟨h1, h2⟩, rfl⟩
    rw [← h2]
    exact h1
  · intro h
    exact ⟨_, ⟨h, rfl⟩, rfl⟩
/-- all is found that m turns lead to -/
structure Bfs (L s a : Int) (kvs : List (Int × Int)) (m : Nat) : Prop where
  nd : (kvs.map (·.1)).Nodup
  bd : ∀ p ∈ kvs, 0 ≤ p.1 ∧ p.1 ≤ L
  vs : ∀ p ∈ kvs, ∃ d : Nat, p.2 = d ∧ d ≤ m ∧ Reach L s a d p.1
  all : ∀ (d : Nat) (x : Int), d ≤ m → Reach L s a d x → ∃ d' : Nat, d' ≤ d ∧ (x, (d' : Int)) ∈ kvs
theorem Bfs.start {L s a : Int} (ha : 0 ≤ a) (ha2 : a ≤ L) : Bfs L s a [(a, 0)] 0 where
  nd := by simp
  bd := fun p hp => by simp at hp; subst hp; exact ⟨ha, ha2⟩
  vs := fun p hp => by simp at hp; subst hp; exact ⟨0, rfl, Nat.le_refl _, .zero⟩
  all := fun d x hd h => by
    have : d = 0 := by omega
    subst this
    cases h
    exact ⟨0, Nat.le_refl _, by simp⟩
theorem Bfs.len {L s a : Int} {kvs : List (Int × Int)} {m : Nat} (h : Bfs L s a kvs m) (hL : 0 ≤ L) : kvs.length ≤ L.toNat + 1 := by
  have := nodup_len (L.toNat + 1) (kvs.map (·.1)) h.nd fun k hk => by
    obtain ⟨p, hp, rfl⟩ := List.mem_map.mp hk
    have := h.bd p hp
    omega
  simpa using this
/-- one row's neighbours -/
def row1 (L s m : Int) (kvs : List (Int × Int)) (x : Int) : List (Int × Int) := add1 m (add1 m kvs (min (x + s) L)) (max (x - s) 0)
def lev (L s m : Int) (kvs : List (Int × Int)) (rows : List Int) : List (Int × Int) := rows.foldl (row1 L s m) kvs
/-- within a round -/
structure Mid (L s a : Int) (k0 kvs : List (Int × Int)) (m : Nat) : Prop where
  nd : (kvs.map (·.1)).Nodup
  bd : ∀ p ∈ kvs, 0 ≤ p.1 ∧ p.1 ≤ L
  vs : ∀ p ∈ kvs, ∃ d : Nat, p.2 = d ∧ d ≤ m + 1 ∧ Reach L s a d p.1
  sub : ∀ p ∈ k0, p ∈ kvs
theorem Mid.add {L s a : Int} {k0 kvs : List (Int × Int)} {m : Nat} (h : Mid L s a k0 kvs m) (ha : 0 ≤ a) (ha2 : a ≤ L) (hs : 0 ≤ s) {x y : Int} (hx : Reach L s a m x) (hy : y ∈ nbs L s x) : Mid L s a k0 (add1 ((m : Int) + 1) kvs y) m where
  nd := add1_nd h.nd
  bd := fun p hp => by
    rcases mem_add1.mp hp with z | ⟨z, _⟩
    · exact h.bd p z
    · subst z
      exact (hx.nb hy).bd ha ha2 hs
  vs := fun p hp => by
    rcases mem_add1.mp hp with z | ⟨z, _⟩
    · exact h.vs p z
    · subst z
      exact ⟨m + 1, rfl, Nat.le_refl _, hx.nb hy⟩
  sub := fun p hp => mem_add1.mpr (.inl (h.sub p hp))
theorem add1_sub {m : Int} {kvs : List (Int × Int)} {x : Int} {k : Int} (h : k ∈ kvs.map (·.1)) : k ∈ (add1 m kvs x).map (·.1) := by
  obtain ⟨p, a, b⟩ := List.mem_map.mp h
  exact List.mem_map.mpr ⟨p, mem_add1.mpr (.inl a), b⟩
theorem row1_sub {L s m : Int} {kvs : List (Int × Int)} {x : Int} {k : Int} (h : k ∈ kvs.map (·.1)) : k ∈ (row1 L s m kvs x).map (·.1) := add1_sub (add1_sub h)
theorem lev_sub {L s m : Int} : ∀ {rows : List Int} {kvs : List (Int × Int)} {k : Int}, k ∈ kvs.map (·.1) → k ∈ (lev L s m kvs rows).map (·.1)
  | [], _, _, h => h
  | x :: r, kvs, k, h => lev_sub (rows := r) (row1_sub h)
theorem Mid.row {L s a : Int} {k0 kvs : List (Int × Int)} {m : Nat} (h : Mid L s a k0 kvs m) (ha : 0 ≤ a) (ha2 : a ≤ L) (hs : 0 ≤ s) {x : Int} (hx : Reach L s a m x) : Mid L s a k0 (row1 L s ((m : Int) + 1) kvs x) m :=
  (h.add ha ha2 hs hx (y := min (x + s) L) (by simp [nbs])).add ha ha2 hs hx (y := max (x - s) 0) (by simp [nbs])
theorem Mid.lev {L s a : Int} {k0 : List (Int × Int)} {m : Nat} (ha : 0 ≤ a) (ha2 : a ≤ L) (hs : 0 ≤ s) : ∀ {rows : List Int} {kvs : List (Int × Int)}, Mid L s a k0 kvs m → (∀ x ∈ rows, Reach L s a m x) → Mid L s a k0 (lev L s ((m : Int) + 1) kvs rows) m ∧ ∀ x ∈ rows, ∀ y ∈ nbs L s x, y ∈ (lev L s ((m : Int) + 1) kvs rows).map (·.1)
  | [], kvs, h, _ => ⟨h, fun x hx => by simp at hx⟩
  | x :: r, kvs, h, hr => by
    obtain ⟨a1, a2⟩ := Mid.lev ha ha2 hs (rows := r) (h.row ha ha2 hs (hr x List.mem_cons_self)) fun y hy => hr y (List.mem_cons_of_mem _ hy)
    refine ⟨a1, fun z hz y hy => ?_⟩
    rcases List.mem_cons.mp hz with rfl | hz
    · refine lev_sub (rows := r) (kvs := row1 L s ((m : Int) + 1) kvs z) ?_
      unfold nbs at hy
      simp only [List.mem_cons, List.not_mem_nil, or_false] at hy
      rcases hy with rfl | rfl
      · exact add1_sub add1_key
      · exact add1_key
    · exact a2 z hz y hy
theorem Bfs.rows {L s a : Int} {kvs : List (Int × Int)} {m : Nat} (h : Bfs L s a kvs m) : ∀ x ∈ rowsAt kvs m, Reach L s a m x := fun x hx => by
  obtain ⟨d, e, _, q⟩ := h.vs _ (mem_rowsAt.mp hx)
  have : d = m := by simp at e; omega
  rw [← this]
  exact q
theorem Bfs.next {L s a : Int} {kvs : List (Int × Int)} {m : Nat} (h : Bfs L s a kvs m) (ha : 0 ≤ a) (ha2 : a ≤ L) (hs : 0 ≤ s) : Bfs L s a (lev L s ((m : Int) + 1) kvs (rowsAt kvs m)) (m + 1) := by
  have mid : Mid L s a kvs kvs m := ⟨h.nd, h.bd, fun p hp => by
    obtain ⟨d, a, b, c⟩ := h.vs p hp
    exact ⟨d, a, by omega, c⟩, fun _ h => h⟩
  obtain ⟨a1, a2⟩ := Mid.lev ha ha2 hs mid h.rows
  refine ⟨a1.nd, a1.bd, a1.vs, fun d x hd hx => ?_⟩
  by_cases e : d ≤ m
  · obtain ⟨d', q1, q2⟩ := h.all d x e hx
    exact ⟨d', q1, a1.sub _ q2⟩
  · have e : d = m + 1 := by omega
    subst e
    obtain ⟨y, hy, hxy⟩ := hx.inv
    obtain ⟨d', q1, q2⟩ := h.all m y (Nat.le_refl _) hy
    by_cases e : d' < m
    · obtain ⟨d2, e2, _, r2⟩ := h.vs _ q2
      have : d2 = d' := by simp at e2; omega
      subst this
      obtain ⟨d3, w1, w2⟩ := h.all (d2 + 1) x (by omega) (r2.nb hxy)
      exact ⟨d3, by omega, a1.sub _ w2⟩
    · have : d' = m := by omega
      subst this
      have := a2 y (mem_rowsAt.mpr q2) x hxy
      obtain ⟨p, hp, e⟩ := List.mem_map.mp this
      obtain ⟨d3, w1, w2, _⟩ := a1.vs p hp
      refine ⟨d3, w2, ?_⟩
      rw [← w1, ← e]
      exact hp
/-- all is found -/
structure Far (L s a : Int) (kvs : List (Int × Int)) : Prop where
  nd : (kvs.map (·.1)).Nodup
  bd : ∀ p ∈ kvs, 0 ≤ p.1 ∧ p.1 ≤ L
  vs : ∀ p ∈ kvs, ∃ d : Nat, p.2 = d ∧ Reach L s a d p.1
  all : ∀ (d : Nat) (x : Int), Reach L s a d x → ∃ d' : Nat, d' ≤ d ∧ (x, (d' : Int)) ∈ kvs
  len : kvs.length ≤ L.toNat + 1
theorem Bfs.far {L s a : Int} {kvs : List (Int × Int)} {m : Nat} (h : Bfs L s a kvs m) (hL : 0 ≤ L) (e : rowsAt kvs m = []) : Far L s a kvs := by
  refine ⟨h.nd, h.bd, fun p hp => ?_, fun d => ?_, h.len hL⟩
  · obtain ⟨d, a, b, c⟩ := h.vs p hp
    exact ⟨d, a, c⟩
  · induction d with
    | zero => exact fun x hx => h.all 0 x (Nat.zero_le _) hx
    | succ d ih =>
      intro x hx
      obtain ⟨y, hy, hxy⟩ := hx.inv
      obtain ⟨d', q1, q2⟩ := ih y hy
      obtain ⟨d2, e2, b2, r2⟩ := h.vs _ q2
      have : d2 = d' := by simp at e2; omega
      subst this
      have : d2 ≠ m := fun z => by
        subst z
        have := mem_rowsAt.mpr q2
        rw [e] at this
        simp at this
      obtain ⟨d3, w1, w2⟩ := h.all (d2 + 1) x (by omega) (r2.nb hxy)
      exact ⟨d3, by omega, w2⟩
/-- new rows stand behind -/
theorem lev_more {L s m : Int} : ∀ {rows : List Int} {kvs : List (Int × Int)}, (lev L s m kvs rows).length = kvs.length ∨ kvs.length < (lev L s m kvs rows).length
  | [], kvs => .inl rfl
  | x :: r, kvs => by
    have a : ∀ (kvs : List (Int × Int)) (y : Int), kvs.length ≤ (add1 m kvs y).length := fun kvs y => by
      unfold add1
      split
      · exact Nat.le_refl _
      · simp
    have b := a kvs (min (x + s) L)
    have c := a (add1 m kvs (min (x + s) L)) (max (x - s) 0)
    have d := lev_more (L := L) (s := s) (m := m) (rows := r) (kvs := row1 L s m kvs x)
    have e : lev L s m kvs (x :: r) = lev L s m (row1 L s m kvs x) r := rfl
    have f : (row1 L s m kvs x).length = (add1 m (add1 m kvs (min (x + s) L)) (max (x - s) 0)).length := rfl
    rw [e]
    omega
end Pg

namespace Pg
open PySem L2
/-! ### pages: the rounds -/
def extE (k0 : List (Int × Int)) (m : Int) (e : List Int) : List (Int × Int) := k0 ++ e.map fun x => (x, m)
def addE (k0 : List (Int × Int)) (m : Int) (e : List Int) (x : Int) : List Int := if (dgetI (extE k0 m e) x).isSome = true then e else e ++ [x]
theorem add_extE (k0 : List (Int × Int)) (m : Int) (e : List Int) (x : Int) : add1 m (extE k0 m e) x = extE k0 m (addE k0 m e x) := by
  unfold add1 addE
  split
  · rfl
  · unfold extE
    rw [List.map_append, List.append_assoc]
    rfl
def rowE (L s : Int) (k0 : List (Int × Int)) (m : Int) (e : List Int) (x : Int) : List Int := addE k0 m (addE k0 m e (min (x + s) L)) (max (x - s) 0)
theorem row_extE (L s : Int) (k0 : List (Int × Int)) (m : Int) (e : List Int) (x : Int) : row1 L s m (extE k0 m e) x = extE k0 m (rowE L s k0 m e x) := by
  unfold row1 rowE
  rw [add_extE, add_extE]
theorem lev_extE (L s : Int) (k0 : List (Int × Int)) (m : Int) : ∀ (rows : List Int) (e : List Int), lev L s m (extE k0 m e) rows = extE k0 m (rows.foldl (rowE L s k0 m) e)
  | [], e => rfl
  | x :: r, e => by
    show lev L s m (row1 L s m (extE k0 m e) x) r = _
    rw [row_extE, lev_extE L s k0 m r]
    rfl
def moreE (L s : Int) (k0 : List (Int × Int)) (m : Int) (rows : List Int) : List Int := rows.foldl (rowE L s k0 m) []
theorem lev_more' (L s : Int) (k0 : List (Int × Int)) (m : Int) (rows : List Int) : lev L s m k0 rows = extE k0 m (moreE L s k0 m rows) := by
  have := lev_extE L s k0 m rows []
  have e : extE k0 m [] = k0 := by simp [extE]
  rw [e] at this
  exact this
theorem addE_len (k0 : List (Int × Int)) (m : Int) (e : List Int) (x : Int) : (addE k0 m e x).length ≤ e.length + 1 := by
  unfold addE
  split
  · omega
  · simp
theorem rowE_len (L s : Int) (k0 : List (Int × Int)) (m : Int) (e : List Int) (x : Int) : (rowE L s k0 m e x).length ≤ e.length + 2 := by
  have a := addE_len k0 m e (min (x + s) L)
  have b := addE_len k0 m (addE k0 m e (min (x + s) L)) (max (x - s) 0)
  have c : (rowE L s k0 m e x).length = (addE k0 m (addE k0 m e (min (x + s) L)) (max (x - s) 0)).length := rfl
  omega
theorem fold_len (L s : Int) (k0 : List (Int × Int)) (m : Int) : ∀ (rows : List Int) (e : List Int), (rows.foldl (rowE L s k0 m) e).length ≤ e.length + 2 * rows.length
  | [], e => by simp
  | x :: r, e => by
    have a := fold_len L s k0 m r (rowE L s k0 m e x)
    have b := rowE_len L s k0 m e x
    rw [List.foldl_cons, List.length_cons]
    omega
theorem rowsAt_ext {k0 : List (Int × Int)} {m : Int} (e : List Int) (h : ∀ p ∈ k0, p.2 ≠ m) : rowsAt (extE k0 m e) m = e := by
  unfold rowsAt extE
  rw [List.filter_append, List.filter_eq_nil_iff.mpr (fun p hp => by simpa using h p hp), List.nil_append, List.filter_eq_self.mpr (fun p hp => by
    obtain ⟨x, _, rfl⟩ := List.mem_map.mp hp
    simp)]
  rw [List.map_map]
  exact List.map_id' e
theorem Bfs.none {L s a : Int} {kvs : List (Int × Int)} {m : Nat} (h : Bfs L s a kvs m) : ∀ p ∈ kvs, p.2 ≠ (m : Int) + 1 := fun p hp e => by
  obtain ⟨d, a, b, _⟩ := h.vs p hp
  omega
def bfsR (L s : Int) : Nat → List (Int × Int) → Int → List (Int × Int)
  | 0, kvs, _ => kvs
  | n + 1, kvs, m => if rowsAt kvs m = [] then kvs else bfsR L s n (lev L s (m + 1) kvs (rowsAt kvs m)) (m + 1)
/-- rounds enough -/
def Enough (L : Int) (kvs : List (Int × Int)) (m : Int) (n : Nat) : Prop := (rowsAt kvs m = [] ∧ 1 ≤ n) ∨ L.toNat + 1 - kvs.length + 2 ≤ n
theorem Bfs.enough {L s a : Int} {kvs : List (Int × Int)} {m n : Nat} (h : Bfs L s a kvs m) (ha : 0 ≤ a) (ha2 : a ≤ L) (hs : 0 ≤ s) (hr : rowsAt kvs m ≠ []) (e : Enough L kvs m (n + 1)) : Enough L (lev L s ((m : Int) + 1) kvs (rowsAt kvs m)) ((m : Int) + 1) n := by
  rcases e with ⟨z, _⟩ | e
  · exact absurd z hr
  · have hn := (h.next ha ha2 hs).len (by omega)
    have hk := h.len (by omega)
    rw [lev_more'] at hn ⊢
    cases q : moreE L s kvs ((m : Int) + 1) (rowsAt kvs m) with
    | nil => exact .inl ⟨by rw [rowsAt_ext _ h.none], by omega⟩
    | cons x r =>
      right
      rw [q] at hn
      have : (extE kvs ((m : Int) + 1) (x :: r)).length = kvs.length + (r.length + 1) := by simp [extE]
      omega
theorem bfs_far {L s a : Int} (ha : 0 ≤ a) (ha2 : a ≤ L) (hs : 0 ≤ s) : ∀ (n : Nat) {kvs : List (Int × Int)} {m : Nat}, Bfs L s a kvs m → Enough L kvs m n → Far L s a (bfsR L s n kvs m)
  | 0, kvs, m, h, e => by
    rcases e with ⟨_, z⟩ | z <;> omega
  | n + 1, kvs, m, h, e => by
    unfold bfsR
    by_cases q : rowsAt kvs (m : Int) = []
    · rw [if_pos q]
      exact h.far (by omega) q
    · rw [if_neg q]
      exact bfs_far ha ha2 hs n (h.next ha ha2 hs) (h.enough ha ha2 hs q e)
def bfs (L s a : Int) : List (Int × Int) := bfsR L s 100 [(a, 0)] 0
theorem enough0 {L a : Int} (h : L ≤ 98) : Enough L [(a, 0)] 0 100 := .inr (by simp; omega)
theorem far_bfs {L s a : Int} (ha : 0 ≤ a) (ha2 : a ≤ L) (hs : 0 ≤ s) (hL : L ≤ 98) : Far L s a (bfs L s a) := bfs_far ha ha2 hs 100 (Bfs.start ha ha2) (enough0 hL)
/-- the least number of turns -/
theorem Far.get {L s a : Int} {kvs : List (Int × Int)} (h : Far L s a kvs) {x : Int} {d : Nat} (r : Reach L s a d x) (least : ∀ d', Reach L s a d' x → d ≤ d') : dgetI kvs x = some (d : Int) := by
  obtain ⟨d', q1, q2⟩ := h.all d x r
  obtain ⟨d2, e2, r2⟩ := h.vs _ q2
  have e2 : (d' : Int) = d2 := e2
  have := least d2 r2
  have : d' = d := by omega
  rw [← this]
  exact dgetI_of h.nd q2
theorem Far.get_inv {L s a : Int} {kvs : List (Int × Int)} (h : Far L s a kvs) {x v : Int} (e : dgetI kvs x = some v) : ∃ d : Nat, v = d ∧ Reach L s a d x ∧ ∀ d', Reach L s a d' x → d ≤ d' := by
  obtain ⟨d, e1, r⟩ := h.vs _ (dgetI_mem e)
  refine ⟨d, e1, r, fun d' r' => ?_⟩
  obtain ⟨d3, q1, q2⟩ := h.all d' x r'
  have := dgetI_of h.nd q2
  rw [e] at this
  have : v = d3 := Option.some.inj this
  have e1 : v = d := e1
  omega
theorem Far.get_none {L s a : Int} {kvs : List (Int × Int)} (h : Far L s a kvs) {x : Int} : dgetI kvs x = none ↔ ∀ d, ¬ Reach L s a d x := by
  constructor
  · intro e d r
    obtain ⟨d', _, q2⟩ := h.all d x r
    rw [dgetI_of h.nd q2] at e
    cases e
  · intro e
    cases q : dgetI kvs x with
    | none => rfl
    | some v =>
      obtain ⟨d, _, r, _⟩ := h.get_inv q
      exact absurd r (e d)
theorem Far.key {L s a : Int} {kvs : List (Int × Int)} (h : Far L s a kvs) {x : Int} : x ∈ kvs.map (·.1) ↔ ∃ d, Reach L s a d x := by
  constructor
  · intro hx
    obtain ⟨p, hp, rfl⟩ := List.mem_map.mp hx
    obtain ⟨d, _, r⟩ := h.vs p hp
    exact ⟨d, r⟩
  · rintro ⟨d, r⟩
    obtain ⟨d', _, q⟩ := h.all d x r
    exact List.mem_map.mpr ⟨_, q, rfl⟩
/-! the readings -/
@[simp] theorem thaw1_owd (kvs : List (Int × Int)) : thaw1 (.owd kvs) = .dat (.dic false kvs) := rfl
@[simp] theorem din_dic (b : Bool) (k : Int) (kvs : List (Int × Int)) : dinD true (.int k) (.dic b kvs) = some (.bl (!(dgetI kvs k).isSome)) := rfl
@[simp] theorem din_dic' (b : Bool) (k : Int) (kvs : List (Int × Int)) : dinD false (.int k) (.dic b kvs) = some (.bl (dgetI kvs k).isSome) := rfl
@[simp] theorem eGet1_eq (f g : ME) (st : Store) : eGet1 f g st = (f st).bind fun x => onDic x fun kvs => (g st).bind fun y => getD1 kvs y := rfl
@[simp] theorem eGet2_eq (f g h : ME) (st : Store) : eGet2 f g h st = (f st).bind fun x => onDic x fun kvs => (g st).bind fun y => (h st).bind fun z => getD2 kvs y z := rfl
@[simp] theorem onDic_dic (b : Bool) (kvs : List (Int × Int)) (g : List (Int × Int) → R D) : onDic (.dic b kvs) g = g kvs := rfl
/-- None, or the number -/
def optD : Option Int → D
  | some v => .int v
  | none => .non
@[simp] theorem getD1_int (kvs : List (Int × Int)) (k : Int) : getD1 kvs (.int k) = .ok (optD (dgetI kvs k)) := by
  unfold getD1 optD
  cases q : dgetI kvs k <;> simp only [q]
@[simp] theorem getD2_int (kvs : List (Int × Int)) (k d : Int) : getD2 kvs (.int k) (.int d) = .ok (.int ((dgetI kvs k).getD d)) := rfl
theorem ne_opt (o : Option Int) : neD (optD o) (optD o) = some (.bl false) := by cases o <;> simp [optD]
theorem put_ok {i : Nat} {fk fv : ME} {st : Store} {kvs : List (Int × Int)} {k v : Int} (h : st[i]? = some (.owd kvs)) (hv : fv (thaw st) = .ok (.int v)) (hk : fk (thaw st) = .ok (.int k)) (hl : kvs.length < 100000) : mPut i fk fv st = .nx (st.set i (.owd (putI kvs k v))) := by
  unfold mPut ifOwd putTo
  rw [h, hv, hk]
  simp only [thn_ok, h]
  rw [if_pos hl]
theorem put_new {kvs : List (Int × Int)} {x : Int} (m : Int) (h : (dgetI kvs x).isSome = false) : putI kvs x m = kvs ++ [(x, m)] := by
  rw [dgetI_isSome] at h
  have h : x ∉ kvs.map (·.1) := by simpa using h
  unfold putI
  rw [if_neg]
  intro z
  obtain ⟨p, hp, e⟩ := List.any_eq_true.mp z
  exact h (List.mem_map.mpr ⟨p, hp, of_decide_eq_true e⟩)
theorem sort_dic (b : Bool) (kvs : List (Int × Int)) (h : kvs.length < 64) : sortDB [.dic b kvs] = some (Ls (sortI (kvs.map (·.1)))) := by
  show (if _ then _ else _) = _
  rw [if_pos h]
  rfl
end Pg

namespace Pg
open PySem L2
/-! ### pages: how many turns -/
theorem cdiv_le {a s n : Int} (hs : 0 < s) : (a + s - 1) / s ≤ n ↔ a ≤ n * s := by
  rw [← Int.lt_add_one_iff, Int.ediv_lt_iff_lt_mul hs, Int.add_mul]
  omega
theorem cdiv_nn {a s : Int} (hs : 0 < s) (ha : 0 ≤ a) : 0 ≤ (a + s - 1) / s := Int.ediv_nonneg (by omega) (by omega)
theorem succ_mul (d : Nat) (s : Int) : ((d + 1 : Nat) : Int) * s = d * s + s := by
  rw [show ((d + 1 : Nat) : Int) = (d : Int) + 1 from rfl, Int.add_mul, Int.one_mul]
theorem Reach.up_le {L s a : Int} (hs : 0 ≤ s) (ha : 0 ≤ a) (ha2 : a ≤ L) {d : Nat} {x : Int} (h : Reach L s a d x) : x ≤ a + d * s ∧ a - d * s ≤ x := by
  induction h with
  | zero => simp
  | @up d x h ih =>
    have := succ_mul d s
    have := Int.mul_nonneg (show (0 : Int) ≤ d by omega) hs
    omega
  | @dn d x h ih =>
    have := succ_mul d s
    have := Int.mul_nonneg (show (0 : Int) ≤ d by omega) hs
    omega
theorem Reach.ups {L s a : Int} (hs : 0 ≤ s) (ha2 : a ≤ L) : ∀ n : Nat, Reach L s a n (min (a + n * s) L)
  | 0 => by
    have e : min (a + ((0 : Nat) : Int) * s) L = a := by simp; omega
    rw [e]
    exact .zero
  | n + 1 => by
    have e : min (a + ((n + 1 : Nat) : Int) * s) L = min (min (a + n * s) L + s) L := by
      have := succ_mul n s
      omega
    rw [e]
    exact (Reach.ups hs ha2 n).up
theorem Reach.downs {L s a : Int} (hs : 0 ≤ s) {d : Nat} {x : Int} (h : Reach L s a d x) (hx : 0 ≤ x) : ∀ n : Nat, Reach L s a (d + n) (max (x - n * s) 0)
  | 0 => by
    have e : max (x - ((0 : Nat) : Int) * s) 0 = x := by simp; omega
    rw [e]
    exact h
  | n + 1 => by
    have e : max (x - ((n + 1 : Nat) : Int) * s) 0 = max (max (x - n * s) 0 - s) 0 := by
      have := succ_mul n s
      omega
    rw [e]
    exact (Reach.downs hs h hx n).dn
theorem Reach.form {L s : Int} (hs : 1 ≤ s) (hL : 0 ≤ L) {d : Nat} {x : Int} (h : Reach L s 0 d x) : (∃ i : Nat, i ≤ d ∧ x = i * s ∧ x ≤ L) ∨ ∃ j : Nat, j ≤ d ∧ x = L - j * s ∧ 0 ≤ x ∧ L ≤ d * s - j * s := by
  induction h with
  | zero => exact .inl ⟨0, Nat.le_refl _, by simp, hL⟩
  | @up d x h ih =>
    have sd := succ_mul d s
    have sd' : ((d : Int) + 1) * s = d * s + s := sd
    rcases ih with ⟨i, h1, h2, h3⟩ | ⟨j, h1, h2, h3, h4⟩
    · have si := succ_mul i s
      by_cases q : x + s ≤ L
      · exact .inl ⟨i + 1, by omega, by omega, by omega⟩
      · have : (i : Int) * s ≤ d * s := Int.mul_le_mul_of_nonneg_right (by omega) (by omega)
        exact .inr ⟨0, by omega, by simp; omega, by omega, by simp; omega⟩
    · match j with
      | 0 => exact .inr ⟨0, by omega, by simp at h2 ⊢; omega, by omega, by simp at h4 ⊢; omega⟩
      | j + 1 =>
        have sj := succ_mul j s
        exact .inr ⟨j, by omega, by have := Int.mul_nonneg (show (0 : Int) ≤ j by omega) (show 0 ≤ s by omega); omega, by omega, by omega⟩
  | @dn d x h ih =>
    have sd := succ_mul d s
    rcases ih with ⟨i, h1, h2, h3⟩ | ⟨j, h1, h2, h3, h4⟩
    · match i with
      | 0 => exact .inl ⟨0, by omega, by simp at h2 ⊢; omega, by omega⟩
      | i + 1 =>
        have si := succ_mul i s
        have := Int.mul_nonneg (show (0 : Int) ≤ i by omega) (show 0 ≤ s by omega)
        exact .inl ⟨i, by omega, by omega, by omega⟩
    · have sj := succ_mul j s
      by_cases q : s ≤ x
      · exact .inr ⟨j + 1, by omega, by omega, by omega, by omega⟩
      · exact .inl ⟨0, by omega, by simp; omega, by omega⟩
theorem mod_iff {x s : Int} (hs : 0 < s) (hx : 0 ≤ x) : x % s = 0 ↔ ∃ i : Nat, x = i * s := by
  constructor
  · intro h
    have e := Int.mul_ediv_add_emod x s
    have := Int.ediv_nonneg hx (show 0 ≤ s by omega)
    refine ⟨(x / s).toNat, ?_⟩
    rw [show ((x / s).toNat : Int) = x / s by omega, Int.mul_comm]
    omega
  · rintro ⟨i, rfl⟩
    exact Int.mul_emod_left _ _
theorem mul_lt {i j : Nat} {s : Int} (hs : 0 < s) (h : (i : Int) * s ≤ j * s) : i ≤ j := by
  have := Int.le_of_mul_le_mul_right h hs
  omega
section
variable {L s : Int}
/-- the rows that are reached from 0 -/
theorem reach0 (hs : 1 ≤ s) (hL : 0 ≤ L) {x : Int} : (∃ d, Reach L s 0 d x) ↔ (0 ≤ x ∧ x ≤ L) ∧ (x % s = 0 ∨ (L - x) % s = 0) := by
  constructor
  · rintro ⟨d, h⟩
    have b := h.bd (by omega) hL (by omega)
    refine ⟨b, ?_⟩
    rcases h.form hs hL with ⟨i, _, e, _⟩ | ⟨j, _, e, _, _⟩
    · exact .inl ((mod_iff (by omega) b.1).mpr ⟨i, e⟩)
    · exact .inr ((mod_iff (by omega) (by omega)).mpr ⟨j, by omega⟩)
  · rintro ⟨⟨h0, h1⟩, h | h⟩
    · obtain ⟨i, e⟩ := (mod_iff (by omega) h0).mp h
      have := Reach.ups (L := L) (s := s) (a := 0) (by omega) hL i
      rw [show min (0 + (i : Int) * s) L = x by omega] at this
      exact ⟨i, this⟩
    · obtain ⟨j, e⟩ := (mod_iff (by omega) (show 0 ≤ L - x by omega)).mp h
      have a := Reach.ups (L := L) (s := s) (a := 0) (by omega) hL L.toNat
      have : L * 1 ≤ L * s := Int.mul_le_mul_of_nonneg_left hs hL
      rw [show ((L.toNat : Nat) : Int) = L by omega, show min (0 + L * s) L = L by omega] at a
      have b := a.downs (by omega) hL j
      rw [show max (L - (j : Int) * s) 0 = x by omega] at b
      exact ⟨_, b⟩
theorem far_get {a : Int} (ha : 0 ≤ a) (ha2 : a ≤ L) (hs : 0 ≤ s) (hL : L ≤ 98) {x n : Int} (hn : 0 ≤ n) (r : Reach L s a n.toNat x) (least : ∀ d', Reach L s a d' x → n ≤ d') : dgetI (bfs L s a) x = some n := by
  have := (far_bfs ha ha2 hs hL).get r fun d' h => by have := least d' h; omega
  rw [this, show ((n.toNat : Nat) : Int) = n by omega]
theorem get_mult (hs : 1 ≤ s) (hL : 0 ≤ L) (hL2 : L ≤ 98) {x : Int} (h0 : 0 ≤ x) (h1 : x ≤ L) (h : x % s = 0) : dgetI (bfs L s 0) x = some (x / s) := by
  obtain ⟨i, e⟩ := (mod_iff (by omega) h0).mp h
  have eq : x / s = i := by rw [e]; exact Int.mul_ediv_cancel _ (by omega)
  rw [eq]
  refine far_get (by omega) hL (by omega) hL2 (by omega) ?_ fun d' h' => ?_
  · have := Reach.ups (L := L) (s := s) (a := 0) (by omega) hL i
    rw [show min (0 + (i : Int) * s) L = x by omega] at this
    rw [show ((i : Nat) : Int).toNat = i by omega]
    exact this
  · have := (h'.up_le (by omega) (by omega) hL).1
    have := mul_lt (show 0 < s by omega) (show (i : Int) * s ≤ d' * s by omega)
    omega
theorem get_other (hs : 1 ≤ s) (hL : 0 ≤ L) (hL2 : L ≤ 98) {x : Int} (h0 : 0 ≤ x) (h1 : x ≤ L) (h : x % s ≠ 0) (h2 : (L - x) % s = 0) : dgetI (bfs L s 0) x = some ((L + s - 1) / s + (L - x) / s) := by
  obtain ⟨j, e⟩ := (mod_iff (by omega) (show 0 ≤ L - x by omega)).mp h2
  have eq : (L - x) / s = j := by rw [e]; exact Int.mul_ediv_cancel _ (by omega)
  rw [eq]
  have c0 := cdiv_nn (a := L) (show 0 < s by omega) hL
  obtain ⟨c, hc⟩ : ∃ c : Nat, (c : Int) = (L + s - 1) / s := ⟨((L + s - 1) / s).toNat, by omega⟩
  have cl := (cdiv_le (a := L) (n := c) (show 0 < s by omega)).mp (by omega)
  refine far_get (by omega) hL (by omega) hL2 (by omega) ?_ fun d' h' => ?_
  · have a := Reach.ups (L := L) (s := s) (a := 0) (by omega) hL c
    rw [show min (0 + (c : Int) * s) L = L by omega] at a
    have b := a.downs (by omega) hL j
    rw [show max (L - (j : Int) * s) 0 = x by omega] at b
    rw [← hc, show ((c : Int) + (j : Int)).toNat = c + j by omega]
    exact b
  · rcases h'.form hs hL with ⟨i, _, e', _⟩ | ⟨j', hj, e', _, e4⟩
    · exact absurd ((mod_iff (by omega) h0).mpr ⟨i, e'⟩) h
    · have : j' = j := by
        have a := mul_lt (i := j') (j := j) (show 0 < s by omega) (by omega)
        have b := mul_lt (i := j) (j := j') (show 0 < s by omega) (by omega)
        omega
      subst this
      have := (cdiv_le (a := L) (s := s) (n := (d' : Int) - j') (by omega)).mpr (by rw [Int.sub_mul]; exact e4)
      omega
theorem get_none (hs : 1 ≤ s) (hL : 0 ≤ L) (hL2 : L ≤ 98) {x : Int} (h : ¬ (x % s = 0 ∨ (L - x) % s = 0)) : dgetI (bfs L s 0) x = none := by
  rw [(far_bfs (by omega) hL (by omega) hL2).get_none]
  exact fun d r => h ((reach0 hs hL).mp ⟨d, r⟩).2
theorem get_zero {a : Int} (hs : 1 ≤ s) (ha : 0 ≤ a) (ha2 : a ≤ L) (hL : L ≤ 98) : dgetI (bfs L s a) 0 = some ((a + s - 1) / s) := by
  have c0 := cdiv_nn (a := a) (show 0 < s by omega) ha
  obtain ⟨c, hc⟩ : ∃ c : Nat, (c : Int) = (a + s - 1) / s := ⟨((a + s - 1) / s).toNat, by omega⟩
  have cl := (cdiv_le (a := a) (n := c) (show 0 < s by omega)).mp (by omega)
  refine far_get ha ha2 (by omega) hL c0 ?_ fun d' h' => ?_
  · have b := (Reach.zero (L := L) (s := s) (a := a)).downs (by omega) ha c
    rw [show max (a - (c : Int) * s) 0 = 0 by omega, Nat.zero_add] at b
    rw [← hc, show ((c : Nat) : Int).toNat = c by omega]
    exact b
  · have := (h'.up_le (by omega) ha ha2).2
    exact (cdiv_le (by omega)).mpr (by omega)
theorem get_end {a : Int} (hs : 1 ≤ s) (ha : 0 ≤ a) (ha2 : a ≤ L) (hL : L ≤ 98) : dgetI (bfs L s a) L = some ((L - a + s - 1) / s) := by
  have c0 := cdiv_nn (a := L - a) (show 0 < s by omega) (by omega)
  obtain ⟨c, hc⟩ : ∃ c : Nat, (c : Int) = (L - a + s - 1) / s := ⟨((L - a + s - 1) / s).toNat, by omega⟩
  have cl := (cdiv_le (a := L - a) (n := c) (show 0 < s by omega)).mp (by omega)
  refine far_get ha ha2 (by omega) hL c0 ?_ fun d' h' => ?_
  · have b := Reach.ups (L := L) (s := s) (a := a) (by omega) ha2 c
    rw [show min (a + (c : Int) * s) L = L by omega] at b
    rw [← hc, show ((c : Nat) : Int).toNat = c by omega]
    exact b
  · have := (h'.up_le (by omega) ha ha2).1
    exact (cdiv_le (by omega)).mpr (by omega)
theorem get_self {a : Int} (hs : 1 ≤ s) (ha : 0 ≤ a) (ha2 : a ≤ L) (hL : L ≤ 98) : dgetI (bfs L s a) a = some 0 :=
  far_get ha ha2 (by omega) hL (by omega) .zero fun d' _ => by omega
/-- turns forward -/
theorem get_fwd {a t : Int} (hs : 1 ≤ s) (ha : 0 ≤ a) (ha2 : a ≤ L) (hL : L ≤ 98) (ht : 0 ≤ t) : ∃ m, dgetI (bfs L s a) (min (a + t * s) L) = some m ∧ 0 ≤ m ∧ m ≤ t ∧ (m = t ↔ (a + (t - 1) * s < L ∨ t = 0)) := by
  obtain ⟨n, rfl⟩ : ∃ n : Nat, t = n := ⟨t.toNat, by omega⟩
  have F := far_bfs ha ha2 (show 0 ≤ s by omega) hL
  have r := Reach.ups (L := L) (s := s) (a := a) (by omega) ha2 n
  cases q : dgetI (bfs L s a) (min (a + (n : Int) * s) L) with
  | none => exact absurd r (F.get_none.mp q n)
  | some m =>
    obtain ⟨d, e, r1, l1⟩ := F.get_inv q
    have dn := l1 n r
    refine ⟨m, rfl, by omega, by omega, ?_⟩
    rw [e]
    have b1 := (r1.up_le (by omega) ha ha2).1
    constructor
    · intro h
      by_cases z : n = 0
      · exact .inr (by omega)
      · left
        obtain ⟨k, rfl⟩ : ∃ k, n = k + 1 := ⟨n - 1, by omega⟩
        have sk := succ_mul k s
        have ek : ((k + 1 : Nat) : Int) - 1 = k := by omega
        rw [ek]
        refine Int.not_le.mp fun hle => ?_
        have r2 := Reach.ups (L := L) (s := s) (a := a) (by omega) ha2 k
        rw [show min (a + (k : Int) * s) L = min (a + ((k + 1 : Nat) : Int) * s) L by omega] at r2
        have := l1 k r2
        omega
    · rintro (h | h)
      · match n with
        | 0 => omega
        | k + 1 =>
          have sk := succ_mul k s
          have ek : ((k + 1 : Nat) : Int) - 1 = k := by omega
          rw [ek] at h
          have : k + 1 ≤ d := by
            refine Nat.not_lt.mp fun hd => ?_
            have := Int.mul_le_mul_of_nonneg_right (show (d : Int) ≤ k by omega) (show 0 ≤ s by omega)
            omega
          omega
      · omega
theorem keys_sorted (hs : 1 ≤ s) (hL : 0 ≤ L) (hL2 : L ≤ 98) : sortI ((bfs L s 0).map (·.1)) = (iota (L + 1)).filter fun x => decide (x % s = 0) || decide ((L - x) % s = 0) := by
  have F := far_bfs (L := L) (s := s) (a := 0) (by omega) hL (by omega) hL2
  apply sorted_ext
  · have h1 := sortI_sorted ((bfs L s 0).map (·.1))
    have h2 : (sortI ((bfs L s 0).map (·.1))).Nodup := (sortI_perm _).nodup_iff.mpr F.nd
    exact (h1.and h2).imp fun h => by omega
  · exact (iota_rise _).filter _
  · intro x
    rw [(sortI_perm _).mem_iff, F.key, reach0 hs hL, List.mem_filter, mem_iota]
    simp only [Bool.or_eq_true, decide_eq_true_eq]
    constructor
    · rintro ⟨⟨a, b⟩, c⟩
      exact ⟨⟨a, by omega⟩, c⟩
    · rintro ⟨⟨a, b⟩, c⟩
      exact ⟨⟨a, by omega⟩, c⟩
theorem rg3_mem {b c x : Int} (hc : 1 ≤ c) : x ∈ rg3L 0 b c ↔ 0 ≤ x ∧ x < b ∧ x % c = 0 := by
  unfold rg3L
  simp only [List.mem_map, List.mem_range]
  have key : ∀ i : Nat, i < rg3n 0 b c ↔ (i : Int) * c < b := fun i => by
    unfold rg3n
    have nn := Int.mul_nonneg (show (0 : Int) ≤ i by omega) (show 0 ≤ c by omega)
    split
    · have hd := Int.ediv_nonneg (show 0 ≤ b - 0 - 1 by omega) (show 0 ≤ c by omega)
      have e1 : (i < ((b - 0 - 1) / c + 1).toNat) ↔ (i : Int) ≤ (b - 0 - 1) / c := by omega
      rw [e1, Int.le_ediv_iff_mul_le (by omega)]
      omega
    · constructor
      · intro h; omega
      · intro h; omega
  constructor
  · rintro ⟨i, hi, rfl⟩
    have := (key i).mp hi
    have nn := Int.mul_nonneg (show (0 : Int) ≤ i by omega) (show 0 ≤ c by omega)
    refine ⟨by omega, by omega, ?_⟩
    rw [Int.zero_add]
    exact Int.mul_emod_left _ _
  · rintro ⟨h0, h1, h2⟩
    obtain ⟨i, rfl⟩ := (mod_iff (by omega) h0).mp h2
    exact ⟨i, (key i).mpr h1, by omega⟩
theorem rg3_rise {b c : Int} (hc : 1 ≤ c) : (rg3L 0 b c).Pairwise (· < ·) := by
  unfold rg3L
  rw [List.pairwise_map]
  refine List.pairwise_lt_range.imp fun {i j} h => ?_
  have := Int.mul_lt_mul_of_pos_right (show (i : Int) < j by omega) (show 0 < c by omega)
  omega
end
end Pg

namespace Pg
open PySem L2
/-! ### lists of numbers and Nones -/
def Od : Option Int → D
  | none => .non
  | some i => .int i
def Lo (xs : List (Option Int)) : D := .lst (xs.map Od)
theorem Lo_some (xs : List Int) : Lo (xs.map some) = Ls xs := by
  unfold Lo Ls
  rw [List.map_map]
  rfl
theorem cut_from {xs : List D} {a : Int} (h0 : 0 ≤ a) : cutD xs (some a) none = xs.drop a.toNat := by
  have e : HT.sIx xs.length 0 (some ((a.toNat : Nat) : Int)) = min a.toNat xs.length := HT.sIx_nat _ _ _
  rw [show ((a.toNat : Nat) : Int) = a by omega] at e
  unfold cutD
  rw [e, HT.sIx_none]
  by_cases h : a.toNat ≤ xs.length
  · rw [Nat.min_eq_left h, List.take_of_length_le (by rw [List.length_drop]; omega)]
  · rw [Nat.min_eq_right (by omega), List.drop_eq_nil_of_le (Nat.le_refl _), List.drop_eq_nil_of_le (by omega), List.take_nil]
theorem cut_upto {xs : List D} {b : Int} (h0 : 0 ≤ b) : cutD xs none (some b) = xs.take b.toNat := by
  have e : HT.sIx xs.length xs.length (some ((b.toNat : Nat) : Int)) = min b.toNat xs.length := HT.sIx_nat _ _ _
  rw [show ((b.toNat : Nat) : Int) = b by omega] at e
  unfold cutD
  rw [e, HT.sIx_none, List.drop_zero, Nat.sub_zero]
  by_cases h : b.toNat ≤ xs.length
  · rw [Nat.min_eq_left h]
  · rw [Nat.min_eq_right (by omega), List.take_of_length_le (Nat.le_refl _), List.take_of_length_le (by omega)]
theorem cut_mid {xs : List D} {a b : Int} (h0 : 0 ≤ a) (h1 : a ≤ b) : cutD xs (some a) (some b) = (xs.drop a.toNat).take (b - a).toNat := by
  have e : HT.sIx xs.length 0 (some ((a.toNat : Nat) : Int)) = min a.toNat xs.length := HT.sIx_nat _ _ _
  have e2 : HT.sIx xs.length xs.length (some ((b.toNat : Nat) : Int)) = min b.toNat xs.length := HT.sIx_nat _ _ _
  rw [show ((a.toNat : Nat) : Int) = a by omega] at e
  rw [show ((b.toNat : Nat) : Int) = b by omega] at e2
  unfold cutD
  rw [e, e2]
  by_cases h : a.toNat ≤ xs.length
  · rw [Nat.min_eq_left h]
    by_cases h2 : b.toNat ≤ xs.length
    · rw [Nat.min_eq_left h2, show b.toNat - a.toNat = (b - a).toNat by omega]
    · rw [Nat.min_eq_right (by omega), List.take_of_length_le (by rw [List.length_drop]; omega), List.take_of_length_le (by rw [List.length_drop]; omega)]
  · rw [Nat.min_eq_right (show xs.length ≤ a.toNat by omega), List.drop_eq_nil_of_le (Nat.le_refl _), List.drop_eq_nil_of_le (by omega), List.take_nil, List.take_nil]
theorem slLs_from {xs : List Int} {a : Int} (h0 : 0 ≤ a) : slD (Ls xs) (some a) none = some (Ls (xs.drop a.toNat)) := by
  show some (D.lst (cutD _ _ _)) = _
  rw [cut_from h0, ← List.map_drop]
  rfl
theorem slLs_upto {xs : List Int} {a : Int} (h0 : 0 ≤ a) : slD (Ls xs) none (some a) = some (Ls (xs.take a.toNat)) := by
  show some (D.lst (cutD _ _ _)) = _
  rw [cut_upto h0, ← List.map_take]
  rfl
theorem slLs_mid {xs : List Int} {a b : Int} (h0 : 0 ≤ a) (h1 : a ≤ b) : slD (Ls xs) (some a) (some b) = some (Ls ((xs.drop a.toNat).take (b - a).toNat)) := by
  show some (D.lst (cutD _ _ _)) = _
  rw [cut_mid h0 h1, ← List.map_drop, ← List.map_take]
  rfl
theorem slLo_mid {xs : List (Option Int)} {a b : Int} (h0 : 0 ≤ a) (h1 : a ≤ b) : slD (Lo xs) (some a) (some b) = some (Lo ((xs.drop a.toNat).take (b - a).toNat)) := by
  show some (D.lst (cutD _ _ _)) = _
  rw [cut_mid h0 h1, ← List.map_drop, ← List.map_take]
  rfl
theorem slLo_from {xs : List (Option Int)} {a : Int} (h0 : 0 ≤ a) : slD (Lo xs) (some a) none = some (Lo (xs.drop a.toNat)) := by
  show some (D.lst (cutD _ _ _)) = _
  rw [cut_from h0, ← List.map_drop]
  rfl
theorem slLo_upto {xs : List (Option Int)} {a : Int} (h0 : 0 ≤ a) : slD (Lo xs) none (some a) = some (Lo (xs.take a.toNat)) := by
  show some (D.lst (cutD _ _ _)) = _
  rw [cut_upto h0, ← List.map_take]
  rfl
theorem Lo_flat : ∀ xs : List (Option Int), (xs.map Od).all flatD = true
  | [] => rfl
  | none :: xs => Lo_flat xs
  | some i :: xs => Lo_flat xs
theorem Lo_any (k : Int) : ∀ xs : List (Option Int), ((xs.map Od).any fun y => eqF y (.int k)) = decide (some k ∈ xs)
  | [] => rfl
  | none :: xs => by
    rw [List.map_cons, List.any_cons, Lo_any k xs]
    show (false || decide (some k ∈ xs)) = _
    simp
  | some i :: xs => by
    rw [List.map_cons, List.any_cons, Lo_any k xs]
    show (i == k || decide (some k ∈ xs)) = _
    rw [Bool.beq_eq_decide_eq, ← Bool.decide_or, decide_eq_decide, List.mem_cons, Option.some.injEq, eq_comm (a := i)]
@[simp] theorem in_Lo (k : Int) (xs : List (Option Int)) : inD false (.int k) (Lo xs) = some (.bl (decide (some k ∈ xs))) := by
  show inL false (.int k) (xs.map Od) = _
  unfold inL
  rw [if_pos ⟨rfl, Lo_flat xs⟩, if_neg (by decide), Lo_any]
theorem len_Lo (xs : List (Option Int)) : lenB [Lo xs] = some (.int (xs.length : Int)) := by
  show some (D.int (((xs.map Od).length : Nat) : Int)) = _
  rw [List.length_map]
theorem addLo {xs ys : List (Option Int)} (h : xs.length + ys.length ≤ 100000) : addD (Lo xs) (Lo ys) = some (Lo (xs ++ ys)) := by
  show (if (xs.map Od).length + (ys.map Od).length ≤ 100000 then _ else _) = _
  rw [List.length_map, List.length_map, if_pos h, ← List.map_append]
  rfl
theorem nones {c : Int} (h0 : 0 ≤ c) (h1 : c ≤ 100000) : mulD (.lst [.non]) (.int c) = some (Lo (List.replicate c.toNat none)) := by
  show (if _ then some (D.lst (List.replicate c.toNat [D.non]).flatten) else _) = _
  rw [if_pos ⟨h1, h0, by simp only [List.length_cons, List.length_nil]; omega⟩]
  unfold Lo
  rw [List.map_replicate]
  congr 2
  induction c.toNat with
  | zero => rfl
  | succ n ih => rw [List.replicate_succ, List.replicate_succ, List.flatten_cons, ih]; rfl
/-! ### the least of a list, where it lies first -/
theorem minI_some : ∀ {ns : List Int}, ns ≠ [] → ∃ m, minI ns = some m
  | [], h => absurd rfl h
  | [a], _ => ⟨a, rfl⟩
  | a :: b :: r, _ => by
    obtain ⟨m, h⟩ := minI_some (ns := b :: r) (by simp)
    exact ⟨min a m, by show (minI (b :: r)).map _ = _; rw [h]; rfl⟩
theorem minI_lo : ∀ {ns : List Int} {m : Int}, minI ns = some m → m ∈ ns ∧ ∀ k ∈ ns, m ≤ k
  | [], _, h => by cases h
  | [a], m, h => by cases h; simp
  | a :: b :: r, m, h => by
    obtain ⟨m', h1, rfl⟩ := Option.map_eq_some_iff.mp (show (minI (b :: r)).map _ = some m from h)
    obtain ⟨h2, h3⟩ := minI_lo h1
    refine ⟨?_, fun k hk => ?_⟩
    · by_cases z : a ≤ m'
      · rw [show min a m' = a by omega]
        exact List.mem_cons_self
      · rw [show min a m' = m' by omega]
        exact List.mem_cons_of_mem _ h2
    · rcases List.mem_cons.mp hk with rfl | hk
      · omega
      · have := h3 k hk
        omega
@[simp] theorem minB_Ls (ns : List Int) : minB [Ls ns] = (minI ns).map D.int := by
  show ((intsOf (ns.map D.int)).bind fun ns => (minI ns).map D.int) = _
  rw [intsOf_map]
  rfl
theorem minPr_least : ∀ (xs : List (Int × Int)) (x : Int × Int), ∀ q ∈ x :: xs, ¬ prLt q (minPr x xs) = true
  | [], x, q, h => by
    rcases List.mem_cons.mp h with rfl | h
    · show ¬ prLt q q = true
      unfold prLt
      rw [decide_eq_true_eq]
      omega
    · cases h
  | y :: xs, x, q, h => by
    have e : minPr x (y :: xs) = minPr (if prLt y x = true then y else x) xs := rfl
    rw [e]
    have ih := minPr_least xs (if prLt y x = true then y else x)
    have hd := ih _ List.mem_cons_self
    rcases List.mem_cons.mp h with rfl | h
    · by_cases z : prLt y q = true
      · rw [if_pos z] at hd ⊢
        unfold prLt at z hd ⊢
        rw [decide_eq_true_eq] at z hd ⊢
        omega
      · rw [if_neg z] at hd ⊢
        exact hd
    · rcases List.mem_cons.mp h with rfl | h
      · by_cases z : prLt q x = true
        · rw [if_pos z] at hd ⊢
          exact hd
        · rw [if_neg z] at hd ⊢
          unfold prLt at z hd ⊢
          rw [decide_eq_true_eq] at z hd ⊢
          omega
      · exact ih q (List.mem_cons_of_mem _ h)
theorem idxF_first {k : Int} : ∀ {ns : List Int} {j : Nat}, ns[j]? = some k → (∀ i, i < j → ns[i]? ≠ some k) → idxF (.int k) (ns.map D.int) = some j
  | [], j, h, _ => by cases h
  | n :: ns, 0, h, _ => by
    cases h
    unfold idxF
    rw [List.map_cons]
    simp [eqF]
  | n :: ns, j + 1, h, hn => by
    have h0 : n ≠ k := fun e => hn 0 (by omega) (by rw [← e]; rfl)
    have ih := idxF_first (ns := ns) (j := j) h fun i hi => hn (i + 1) (by omega)
    rw [List.map_cons]
    unfold idxF
    have : eqF (.int n) (.int k) = false := by
      show (n == k) = false
      simp [h0]
    rw [this, if_neg Bool.false_ne_true, ih]
    rfl
/-- the pairs (f k, k), k from 0 to n: the least of them says the first k whose f k is least -/
theorem least_pair {n : Int} {f : Int → Int} (hn : 0 ≤ n) : ∃ (p : Int × Int) (ps : List (Int × Int)) (m j : Int), ((iota (n + 1)).map fun k => (f k, k)) = p :: ps ∧ minPr p ps = (m, j) ∧ minI ((iota (n + 1)).map f) = some m ∧ indexD (((iota (n + 1)).map f).map D.int) (.int m) = some (.int j) := by
  have ne : iota (n + 1) ≠ [] := fun e => by
    have := congrArg List.length e
    rw [iota_length, List.length_nil] at this
    omega
  obtain ⟨m, hm⟩ := minI_some (ns := (iota (n + 1)).map f) (by simpa using ne)
  obtain ⟨h1, h2⟩ := minI_lo hm
  cases q : (iota (n + 1)).map fun k => (f k, k) with
  | nil => exact absurd (List.map_eq_nil_iff.mp q) ne
  | cons p ps =>
    have hmem := minPr_mem ps p
    have hl := minPr_least ps p
    rw [← q] at hmem hl
    obtain ⟨j, hj, e⟩ := List.mem_map.mp hmem
    have ⟨j0, j1⟩ := mem_iota.mp hj
    obtain ⟨i, hi, ei⟩ := List.mem_map.mp h1
    have lo : m ≤ f j := h2 _ (List.mem_map.mpr ⟨j, hj, rfl⟩)
    have li := hl _ (List.mem_map.mpr ⟨i, hi, rfl⟩)
    rw [← e] at li
    unfold prLt at li
    rw [decide_eq_true_eq] at li
    have hmj : m = f j := by
      simp only at li
      omega
    refine ⟨p, ps, m, j, rfl, by rw [← e, hmj], hm, ?_⟩
    unfold indexD
    have fl : (((iota (n + 1)).map f).map D.int).all flatD = true := all_flat _
    rw [if_pos ⟨rfl, fl⟩, idxF_first (j := j.toNat)]
    · show some (D.int ((j.toNat : Nat) : Int)) = _
      rw [show ((j.toNat : Nat) : Int) = j by omega]
    · rw [List.getElem?_map, iota_get (by omega)]
      show some (f (j.toNat : Int)) = _
      rw [show ((j.toNat : Nat) : Int) = j by omega, hmj]
    · intro a ha z
      rw [List.getElem?_map, iota_get (by omega)] at z
      have z : f (a : Int) = m := Option.some.inj z
      have := hl _ (List.mem_map.mpr ⟨(a : Int), mem_iota.mpr ⟨by omega, by omega⟩, rfl⟩)
      rw [← e] at this
      unfold prLt at this
      rw [decide_eq_true_eq] at this
      simp only at this
      omega
theorem enum_iota {n : Int} {f : Int → Int} : enumA [Ls ((iota n).map f)] = some ((iota n).map fun k => D.tup [.int k, .int (f k)]) := by
  show some (enumD 0 (((iota n).map f).map D.int)) = _
  congr 1
  apply List.ext_getElem?
  intro i
  rw [enumD_get, List.getElem?_map, List.getElem?_map, List.getElem?_map]
  by_cases hi : (i : Int) < n
  · rw [iota_get hi]
    simp
  · have : (iota n)[i]? = none := List.getElem?_eq_none (by rw [iota_length]; omega)
    rw [this]
    rfl
theorem range2_ok {a b : Int} (h1 : -100000 ≤ a) (h2 : a ≤ 100000) (h3 : -100000 ≤ b) (h4 : b ≤ 100000) : range2A [.int a, .int b] = some ((span a b).map D.int) := by
  simp only [range2A]
  rw [if_pos ⟨⟨h1, h2⟩, h3, h4⟩, rangeI_span]
end Pg

namespace Pg
open PySem L2 TL
/-! ### texts, reckoned -/
/-- the number's text -/
def nS (i : Int) : PySem.Str := toString i
theorem strB_eq {i : Int} (h0 : 0 ≤ i) (h1 : i ≤ 1000) : strB [.int i] = some (.str (nS i)) := by
  have := Nat.log2_le_self i.natAbs
  show (if i.natAbs.log2 < 1920 then _ else _) = _
  rw [if_pos (by omega)]
  rfl
theorem tl_nS {i : Int} (h0 : 0 ≤ i) : tl (nS i) = numL i.toNat := by
  have e : i = ((i.toNat : Nat) : Int) := by omega
  have := tl_num i.toNat
  rw [← e] at this
  exact this
theorem nS_len {i : Int} (h0 : 0 ≤ i) (h1 : i ≤ 99) : 1 ≤ (nS i).length ∧ (nS i).length ≤ 2 := by
  rw [len_tl, tl_nS h0]
  have a := numL_len (n := i.toNat) (k := 2) (by decide) (by omega)
  have b := List.length_pos_iff.mpr (numL_ne i.toNat)
  omega
theorem strOk_tl {x : PySem.Str} : PyData.strOk x = true ↔ ∀ c ∈ tl x, c < 0x110000 := by
  unfold PyData.strOk
  rw [Array.all_eq_true_iff_forall_mem]
  simp only [decide_eq_true_eq]
  constructor
  · intro h c hc
    exact h c (Array.mem_toList_iff.mp hc)
  · intro h c hc
    exact h c (Array.mem_toList_iff.mpr hc)
theorem strOk_app {x y : PySem.Str} (h1 : PyData.strOk x = true) (h2 : PyData.strOk y = true) : PyData.strOk (x ++ y) = true := by
  rw [strOk_tl] at *
  intro c hc
  rw [tl_append, List.mem_append] at hc
  rcases hc with hc | hc
  · exact h1 c hc
  · exact h2 c hc
theorem ne_str_self {x : PySem.Str} (h : PyData.strOk x = true) : neD (.str x) (.str x) = some (.bl false) := by
  unfold neD
  rw [if_pos ⟨h, h⟩]
  show some (D.bl (!PyData.eqv (toP (.str _)) (toP (.str _)))) = _
  simp only [toP, PyData.eqv]
  simp
theorem eq_str_self {x : PySem.Str} (h : PyData.strOk x = true) : eqD (.str x) (.str x) = some (.bl true) := by
  unfold eqD
  rw [if_pos ⟨h, h⟩]
  show some (D.bl (PyData.eqv (toP (.str _)) (toP (.str _)))) = _
  simp only [toP, PyData.eqv]
  simp
theorem add_str {x y : PySem.Str} (h : x.length + y.length ≤ 100000) : addD (.str x) (.str y) = some (.str (x ++ y)) := by
  show (if _ then _ else _) = _
  rw [if_pos h]
theorem len_app (x y : PySem.Str) : (x ++ y).length = x.length + y.length := by
  rw [len_tl, len_tl, len_tl, tl_append, List.length_append]
/-- what stands in a view's text -/
def Vw.num (v : Vw) : PySem.Str := PySem.Txt.join "/" [nS v.rows, nS v.h, nS v.s]
def Vw.fmt (v : Vw) : PySem.Str := (v.num ++ " ") ++ v.r.s
theorem num_tl (v : Vw) : tl v.num = tl (nS v.rows) ++ ([47] ++ (tl (nS v.h) ++ ([47] ++ tl (nS v.s)))) := by
  unfold Vw.num
  rw [join_eq, tl_join]
  rfl
theorem fmt_tl (v : Vw) : tl v.fmt = tl v.num ++ ([32] ++ tl v.r.s) := by
  unfold Vw.fmt
  rw [tl_append, tl_append, List.append_assoc]
  rfl
theorem fmt_eq (v : Vw) : ((((((nS v.rows ++ "/") ++ nS v.h) ++ "/") ++ nS v.s) ++ " ") ++ v.r.s : PySem.Str) = v.fmt := by
  apply ext_tl
  rw [fmt_tl, num_tl]
  simp only [tl_append, List.append_assoc]
  rfl
theorem digit_ok {c : Nat} {i : Int} (h0 : 0 ≤ i) (h : c ∈ tl (nS i)) : 48 ≤ c ∧ c ≤ 57 := by
  rw [tl_nS h0] at h
  exact numL_digits _ c h
theorem rule_tl (r : Rl) : ∀ c ∈ tl r.s, 97 ≤ c ∧ c ≤ 122 := by
  cases r <;> decide +kernel
theorem num_split {v : Vw} (h : v.wok) : PySem.Txt.split v.num "/" = [nS v.rows, nS v.h, nS v.s] := by
  have h1 := h.h1
  have h2 := h.hr
  have h3 := h.s1
  refine split_join (s := 47) (S := []) (by decide +kernel) (by decide +kernel) (by simp) fun p hp => ?_
  simp only [List.mem_cons, List.not_mem_nil, or_false] at hp
  rcases hp with rfl | rfl | rfl <;> intro z <;> have := digit_ok (by omega) z <;> omega
theorem fmt_split {v : Vw} (h : v.wok) : PySem.Txt.split v.fmt " " = [v.num, v.r.s] := by
  have h1 := h.h1
  have h2 := h.hr
  have h3 := h.s1
  have e : v.fmt = PySem.Txt.join " " [v.num, v.r.s] := by
    apply ext_tl
    rw [fmt_tl, join_eq, tl_join]
    rfl
  rw [e]
  refine split_join (s := 32) (S := []) (by decide +kernel) (by decide +kernel) (by simp) fun p hp => ?_
  simp only [List.mem_cons, List.not_mem_nil, or_false] at hp
  rcases hp with rfl | rfl
  · rw [num_tl]
    simp only [List.mem_append, List.mem_singleton]
    rintro (z | z | z | z | z)
    · have := digit_ok (by omega) z
      omega
    · cases z
    · have := digit_ok (by omega) z
      omega
    · cases z
    · have := digit_ok (by omega) z
      omega
  · intro z
    have := rule_tl v.r 32 z
    omega
theorem fmt_ok {v : Vw} (h : v.wok) : PyData.strOk v.fmt = true := by
  have h1 := h.h1
  have h2 := h.hr
  have h3 := h.s1
  rw [strOk_tl]
  intro c hc
  rw [fmt_tl, num_tl] at hc
  simp only [List.mem_append, List.mem_singleton] at hc
  rcases hc with (z | z | z | z | z) | z | z
  · have := digit_ok (by omega) z
    omega
  · omega
  · have := digit_ok (by omega) z
    omega
  · omega
  · have := digit_ok (by omega) z
    omega
  · omega
  · have := rule_tl v.r c z
    omega
theorem num_len {v : Vw} (h : v.wok) (h60 : v.s ≤ 99) : v.num.length ≤ 8 := by
  have h1 := h.h1
  have h2 := h.hr
  have h3 := h.s1
  have a := nS_len (i := v.rows) (by omega) h.r99
  have b := nS_len (i := v.h) (by omega) (by have := h.r99; omega)
  have c := nS_len (i := v.s) (by omega) h60
  rw [len_tl] at a b c
  rw [len_tl, num_tl]
  simp only [List.length_append, List.length_cons, List.length_nil]
  omega
theorem rule_len (r : Rl) : r.s.length ≤ 4 := by
  cases r <;> decide +kernel
theorem fmt_len {v : Vw} (h : v.wok) (h60 : v.s ≤ 99) : v.fmt.length ≤ 13 := by
  have a := num_len h h60
  have b := rule_len v.r
  rw [len_tl] at a b
  rw [len_tl, fmt_tl]
  simp only [List.length_append, List.length_cons, List.length_nil]
  omega
theorem join_num {v : Vw} (h : v.wok) (h60 : v.s ≤ 99) : joinD (.str "/") (.lst [.str (nS v.rows), .str (nS v.h), .str (nS v.s)]) = some (.str v.num) := by
  have h1 := h.h1
  have h2 := h.hr
  have h3 := h.s1
  have a := nS_len (i := v.rows) (by omega) h.r99
  have b := nS_len (i := v.h) (by omega) (by have := h.r99; omega)
  have c := nS_len (i := v.s) (by omega) h60
  have e : (("/" : PySem.Str)).length = 1 := by decide +kernel
  show (if ([nS v.rows, nS v.h, nS v.s].map (·.length)).sum + [nS v.rows, nS v.h, nS v.s].length * (("/" : PySem.Str)).length ≤ 100000 then some (D.str (PySem.Txt.join "/" [nS v.rows, nS v.h, nS v.s])) else none) = _
  rw [if_pos]
  · rfl
  · rw [e]
    simp only [List.map_cons, List.map_nil, List.sum_cons, List.sum_nil, List.length_cons, List.length_nil]
    omega
/-! pictures -/
def picL (c a l : Int) : List Nat := (iota c).map fun k => if a ≤ k ∧ k < a + l then 35 else 46
def pic (c a l : Int) : PySem.Str := ⟨(picL c a l).toArray⟩
theorem joinL_nil : ∀ ps : List (List Nat), joinL [] ps = ps.flatten
  | [] => rfl
  | [p] => by simp [joinL]
  | p :: q :: r => by
    rw [joinL, joinL_nil (q :: r)]
    rfl
theorem rep_tl {x : PySem.Str} {c : Nat} (hx : tl x = [c]) {n : Int} (h0 : 0 ≤ n) : tl (repS x n) = List.replicate n.toNat c := by
  have hl : x.length = 1 := by rw [len_tl, hx]; rfl
  unfold repS
  by_cases c1 : n < 1
  · rw [if_pos c1, show n.toNat = 0 by omega]
    rfl
  · rw [if_neg c1]
    by_cases c2 : n = 1
    · subst c2
      simp
      exact hx
    · have : ¬ ((n == 1 || x.length == 0) = true) := by simp [c2, hl]
      rw [if_neg this]
      have go : ∀ (m : Nat) (b : Array Nat), ((List.replicate m x.cps).foldl (· ++ ·) b).toList = b.toList ++ List.replicate m c := by
        intro m
        induction m with
        | zero => intro b; simp
        | succ m ih =>
          intro b
          rw [List.replicate_succ, List.foldl_cons, ih, Array.toList_append]
          have hx : x.cps.toList = [c] := hx
          rw [hx, List.append_assoc]
          rfl
      exact (go n.toNat #[]).trans (by simp)
theorem rep_len {x : PySem.Str} {c : Nat} (hx : tl x = [c]) {n : Int} (h0 : 0 ≤ n) : (repS x n).length = n.toNat := by
  rw [len_tl, rep_tl hx h0, List.length_replicate]
theorem pic_eq {c a l : Int} (a0 : 0 ≤ a) (l0 : 0 ≤ l) (h : a + l ≤ c) : ((repS "." a ++ repS "#" l) ++ repS "." (c - a - l) : PySem.Str) = pic c a l := by
  apply ext_tl
  rw [tl_append, tl_append, rep_tl (x := ".") (c := 46) (by decide +kernel) a0, rep_tl (x := "#") (c := 35) (by decide +kernel) l0, rep_tl (x := ".") (c := 46) (by decide +kernel) (by omega)]
  show _ = picL c a l
  unfold picL
  apply List.ext_getElem?
  intro i
  rw [List.getElem?_map]
  by_cases hc : (i : Int) < c
  · rw [iota_get hc]
    show _ = some (if a ≤ (i : Int) ∧ (i : Int) < a + l then 35 else 46)
    by_cases h1 : (i : Int) < a
    · rw [List.append_assoc, List.getElem?_append_left (by rw [List.length_replicate]; omega), List.getElem?_replicate, if_pos (by omega), if_neg (by omega)]
    · by_cases h2 : (i : Int) < a + l
      · rw [List.getElem?_append_left (by rw [List.length_append, List.length_replicate, List.length_replicate]; omega), List.getElem?_append_right (by rw [List.length_replicate]; omega), List.getElem?_replicate, List.length_replicate, if_pos (by omega), if_pos ⟨by omega, h2⟩]
      · rw [List.getElem?_append_right (by rw [List.length_append, List.length_replicate, List.length_replicate]; omega), List.getElem?_replicate, List.length_append, List.length_replicate, List.length_replicate, if_pos (by omega), if_neg (by omega)]
  · rw [List.getElem?_eq_none (by rw [List.length_append, List.length_append, List.length_replicate, List.length_replicate, List.length_replicate]; omega), List.getElem?_eq_none (l := iota c) (by rw [iota_length]; omega)]
    rfl
theorem pic_join (c a l : Int) : PySem.Txt.join "" ((iota c).map fun k => if a ≤ k ∧ k < a + l then ("#" : PySem.Str) else ".") = pic c a l := by
  apply ext_tl
  rw [join_eq, tl_join]
  have e : tl ("" : PySem.Str) = [] := by decide +kernel
  rw [e, joinL_nil, List.map_map]
  show _ = picL c a l
  unfold picL
  have e2 : (tl ∘ fun k : Int => if a ≤ k ∧ k < a + l then ("#" : PySem.Str) else ".") = fun k => [if a ≤ k ∧ k < a + l then 35 else 46] := by
    funext k
    show tl (if a ≤ k ∧ k < a + l then ("#" : PySem.Str) else ".") = _
    split <;> decide +kernel
  rw [e2]
  induction iota c with
  | nil => rfl
  | cons k r ih => rw [List.map_cons, List.flatten_cons, ih]; rfl
theorem pic_ok (c a l : Int) : PyData.strOk (pic c a l) = true := by
  rw [strOk_tl]
  intro z hz
  have hz : z ∈ picL c a l := hz
  obtain ⟨k, _, rfl⟩ := List.mem_map.mp hz
  show (if _ then 35 else 46) < 0x110000
  split <;> omega
theorem strsOf_map : ∀ xs : List PySem.Str, strsOf (xs.map D.str) = some xs
  | [] => rfl
  | x :: xs => by
    show (strsOf (xs.map D.str)).map (fun q => x :: q) = _
    rw [strsOf_map xs]
    rfl
theorem join_signs {xs : List PySem.Str} (h : ∀ x ∈ xs, x.length = 1) (hl : xs.length ≤ 1000) : joinD (.str "") (.lst (xs.map D.str)) = some (.str (PySem.Txt.join "" xs)) := by
  show ((strsOf (xs.map D.str)).bind fun ys => if (ys.map (·.length)).sum + ys.length * (("" : PySem.Str)).length ≤ 100000 then some (D.str (PySem.Txt.join "" ys)) else none) = _
  rw [strsOf_map]
  have e : (("" : PySem.Str)).length = 0 := by decide +kernel
  have e2 : ∀ ys : List PySem.Str, (∀ x ∈ ys, x.length = 1) → (ys.map (·.length)).sum = ys.length := by
    intro ys
    induction ys with
    | nil => intro _; rfl
    | cons y ys ih =>
      intro hy
      rw [List.map_cons, List.sum_cons, ih fun x hx => hy x (List.mem_cons_of_mem _ hx), hy y List.mem_cons_self, List.length_cons]
      omega
  show (if (xs.map (·.length)).sum + xs.length * (("" : PySem.Str)).length ≤ 100000 then some (D.str (PySem.Txt.join "" xs)) else none) = _
  rw [e, e2 xs h, if_pos (by omega)]
end Pg

namespace Law
open PySem PySem.Spec PyProof.Rows L2 Pg
/-! ### the text -/
def lam_0 : LamCode := lamAt 0 [0, 1] "_law_calls" (eSub (sVal (nthS (sBody (top 51)) 0)) 0)
def lam_1 : LamCode := lamAt 1 [0, 1, 2] "_law_calls" (eSub (sVal (nthS (sBody (top 51)) 1)) 0)
def lam_2 : LamCode := lamAt 2 [0, 1] "_law_calls" (eSub (sVal (nthS (sBody (top 51)) 2)) 0)
def lam_3 : LamCode := lamAt 3 [0, 1, 2] "_law_calls" (eSub (sVal (nthS (sBody (top 51)) 3)) 0)
def lam_4 : LamCode := lamAt 4 [0] "_law_calls" (eSub (sVal (nthS (sBody (top 51)) 4)) 0)
def lam_5 : LamCode := lamAt 5 [0] "_law_calls" (eSub (sVal (nthS (sBody (top 51)) 5)) 0)
noncomputable section
def m_is_int : MS := (mRet (vAnd (eIsi "int" (eVar 0)) (vAnd (vNot (eIsi "bool" (eVar 0))) (eChn leD leD (eVar 1) (eVar 0) (eVar 2)))))
def F_is_int : List D → R D := mkF 3 3 m_is_int
def m_is_view : MS := (mSeq (mIf (mOr (mNot (mVal (eIsi "tuple" (eVar 0)))) (mVal (bin neD (bcall lenB (aCons (eVar 0) aNil)) (eC (.int 4))))) (mRet (eC (.bl false))) mNx)
    (mSeq (mAsg (bTup [1, 2, 3, 4]) (eVar 0))
    (mSeq (mIf (mOr (mNot (mVal (eCall 3 F_is_int (aCons (eVar 1) (aCons (eC (.int 1)) (aCons (eC (.int 99)) aNil)))))) (mNot (mVal (eCall 3 F_is_int (aCons (eVar 2) (aCons (eC (.int 1)) (aCons (bcall min2B (aCons (eVar 1) (aCons (eC (.int 30)) aNil))) aNil))))))) (mRet (eC (.bl false))) mNx)
    (mSeq (mIf (mNot (mVal (eCall 3 F_is_int (aCons (eVar 3) (aCons (eC (.int 1)) (aCons (eC (.int 60)) aNil)))))) (mRet (eC (.bl false))) mNx)
    (mRet (vAnd (eIsi "str" (eVar 4)) (bin (inD false) (eVar 4) (eC (.tup ((["down", "near", "up"] : List PySem.Str).map D.str))))))))))
def F_is_view : List D → R D := mkF 1 5 m_is_view
def m_check_view : MS := (mIf (mNot (mVal (eCall 1 F_is_view (aCons (eVar 0) aNil)))) (mRaise "InvalidView") mNx)
def F_check_view : List D → R D := mkF 1 1 m_check_view
def m_check_step : MS := (mSeq (mDrop (eCall 1 F_check_view (aCons (eVar 0) aNil)))
    (mIf (mNot (mVal (eCall 3 F_is_int (aCons (eVar 1) (aCons (eC (.int 0)) (aCons (bin ixD (eVar 0) (eC (.int 2))) aNil)))))) (mRaise "InvalidStep") mNx))
def F_check_step : List D → R D := mkF 2 2 m_check_step
def m_check_row : MS := (mIf (mNot (mVal (eCall 3 F_is_int (aCons (eVar 0) (aCons (eC (.int 0)) (aCons (eVar 1) aNil)))))) (mRaise "InvalidRow") mNx)
def F_check_row : List D → R D := mkF 2 2 m_check_row
def m_rest_of : MS := (mRet (bin subD (bin ixD (eVar 0) (eC (.int 0))) (bin ixD (eVar 0) (eC (.int 1)))))
def F_rest_of : List D → R D := mkF 1 1 m_rest_of
def m_rounded : MS := (mSeq (mIf (mVal (bin eqD (eVar 2) (eC (.str "down")))) (mRet (bin fdivD (eVar 0) (eVar 1))) mNx)
    (mRet (eIf (mVal (bin eqD (eVar 2) (eC (.str "up")))) (bin fdivD (bin subD (bin addD (eVar 0) (eVar 1)) (eC (.int 1))) (eVar 1)) (bin fdivD (bin addD (bin mulD (eC (.int 2)) (eVar 0)) (eVar 1)) (bin mulD (eC (.int 2)) (eVar 1))))))
def F_rounded : List D → R D := mkF 3 3 m_rounded
def m_find_first : MS := (mRet (eCall 3 F_rounded (aCons (bin mulD (eVar 1) (eCall 1 F_rest_of (aCons (eVar 0) aNil))) (aCons (bin ixD (eVar 0) (eC (.int 2))) (aCons (bin ixD (eVar 0) (eC (.int 3))) aNil)))))
def F_find_first : List D → R D := mkF 2 2 m_find_first
def m_find_changed : MS := (mSeq (mAsg (bTup [2, 3, 4]) (eVar 1))
    (mSeq (mSet 5 (eIf (mVal (bin eqD (eVar 2) (eC (.str "insert")))) (bin addD (bin ixD (eVar 0) (eC (.int 0))) (eVar 4)) (bin subD (bin ixD (eVar 0) (eC (.int 0))) (eVar 4))))
    (mRet (bin addD (eTup (aCons (eVar 5) aNil)) (eSl (eVar 0) (oSome (eC (.int 1))) oNone)))))
def F_find_changed : List D → R D := mkF 2 6 m_find_changed
def m_has_change : MS := (mSeq (mIf (mOr (mNot (mVal (eIsi "tuple" (eVar 1)))) (mOr (mVal (bin neD (bcall lenB (aCons (eVar 1) aNil)) (eC (.int 3)))) (mNot (mVal (eIsi "str" (bin ixD (eVar 1) (eC (.int 0)))))))) (mRet (eC (.bl false))) mNx)
    (mSeq (mAsg (bTup [2, 3, 4]) (eVar 1))
    (mSeq (mIf (mOr (mVal (bin (inD true) (eVar 2) (eTup (aCons (eC (.str "insert")) (aCons (eC (.str "remove")) aNil))))) (mNot (mVal (eCall 3 F_is_int (aCons (eVar 4) (aCons (eC (.int 1)) (aCons (eC (.int 30)) aNil))))))) (mRet (eC (.bl false))) mNx)
    (mSeq (mIf (mNot (mVal (eCall 3 F_is_int (aCons (eVar 3) (aCons (eC (.int 0)) (aCons (eIf (mVal (bin eqD (eVar 2) (eC (.str "insert")))) (bin ixD (eVar 0) (eC (.int 0))) (bin subD (bin ixD (eVar 0) (eC (.int 0))) (eVar 4))) aNil)))))) (mRet (eC (.bl false))) mNx)
    (mRet (eCall 1 F_is_view (aCons (eCall 2 F_find_changed (aCons (eVar 0) (aCons (eVar 1) aNil))) aNil)))))))
def F_has_change : List D → R D := mkF 2 5 m_has_change
def m_check_change : MS := (mIf (mNot (mVal (eCall 2 F_has_change (aCons (eVar 0) (aCons (eVar 1) aNil))))) (mRaise "InvalidChange") mNx)
def F_check_change : List D → R D := mkF 2 2 m_check_change
def m_find_kept : MS := (mSeq (mAsg (bTup [3, 4, 5]) (eVar 2))
    (mSeq (mIf (mVal (bin eqD (eVar 3) (eC (.str "insert")))) (mSet 6 (eIf (mVal (bin leD (eVar 4) (eVar 1))) (bin addD (eVar 1) (eVar 5)) (eVar 1))) (mSet 6 (bin subD (eVar 1) (bcall max2B (aCons (eC (.int 0)) (aCons (bcall min2B (aCons (eVar 5) (aCons (bin subD (eVar 1) (eVar 4)) aNil))) aNil))))))
    (mRet (bcall min2B (aCons (eVar 6) (aCons (eCall 1 F_rest_of (aCons (eCall 2 F_find_changed (aCons (eVar 0) (aCons (eVar 2) aNil))) aNil)) aNil))))))
def F_find_kept : List D → R D := mkF 3 7 m_find_kept
def m_check_size : MS := (mIf (mNot (mVal (eCall 3 F_is_int (aCons (eVar 1) (aCons (eC (.int 1)) (aCons (bin ixD (eVar 0) (eC (.int 1))) aNil)))))) (mRaise "InvalidSize") mNx)
def F_check_size : List D → R D := mkF 2 2 m_check_size
def m_bounded : MS := (mRet (bcall max2B (aCons (eC (.int 0)) (aCons (bcall min2B (aCons (eVar 1) (aCons (eCall 1 F_rest_of (aCons (eVar 0) aNil)) aNil))) aNil))))
def F_bounded : List D → R D := mkF 2 2 m_bounded
def m_ScrolledView_view : MS := (mRet (bin ixD (eAttr "ScrolledView" "state" (eVar 0)) (eC (.int 0))))
def F_ScrolledView_view : List D → R D := mkF 1 1 m_ScrolledView_view
def m_ScrolledView_first : MS := (mRet (bin ixD (eAttr "ScrolledView" "state" (eVar 0)) (eC (.int 1))))
def F_ScrolledView_first : List D → R D := mkF 1 1 m_ScrolledView_first
def m_ScrolledView_seen : MS := (mSeq (mAsg (bTup [1, 2]) (eAttr "ScrolledView" "state" (eVar 0)))
    (mRet (bin rg2D (eVar 2) (bin addD (eVar 2) (bin ixD (eVar 1) (eC (.int 1)))))))
def F_ScrolledView_seen : List D → R D := mkF 1 3 m_ScrolledView_seen
def m_ScrolledView_move : MSO := (soSeq (liftO (mObAppE 0 "ScrolledView"))
    (soSeq (liftO (mObNilL 0 "ScrolledView"))
    (soSeq (liftO (mObSt 0 "ScrolledView" (eTup (aCons (eVar 1) (aCons (eVar 2) aNil)))))
    (soRet (eVar 2)))))
def M_ScrolledView_move : Ob → List D → RM := mkM 2 3 m_ScrolledView_move
def m_ScrolledView_go : MSO := (soSeq (liftO (mSet 2 (bin ixD (eObS 0 "ScrolledView") (eC (.int 0)))))
    (soSeq (liftO (mDrop (eCall 2 F_check_step (aCons (eVar 2) (aCons (eVar 1) aNil)))))
    (soRetO (eMO 0 "ScrolledView" 2 M_ScrolledView_move (aCons (eVar 2) (aCons (eCall 2 F_find_first (aCons (eVar 2) (aCons (eVar 1) aNil))) aNil))))))
def M_ScrolledView_go : Ob → List D → RM := mkM 1 3 m_ScrolledView_go
def m_ScrolledView_turn : MSO := (soSeq (liftO (mAsg (bTup [3, 4]) (eObS 0 "ScrolledView")))
    (soSeq (liftO (mDrop (eCall 2 F_check_size (aCons (eVar 3) (aCons (eVar 1) aNil)))))
    (soSeq (liftO (mIf (mNot (mVal (eCall 3 F_is_int (aCons (eVar 2) (aCons (bin subD (eC (.int 0)) (eC (.int 99))) (aCons (eC (.int 99)) aNil)))))) (mRaise "InvalidNumber") mNx))
    (soRetO (eMO 0 "ScrolledView" 2 M_ScrolledView_move (aCons (eVar 3) (aCons (eCall 2 F_bounded (aCons (eVar 3) (aCons (bin addD (eVar 4) (bin mulD (eVar 1) (eVar 2))) aNil))) aNil)))))))
def M_ScrolledView_turn : Ob → List D → RM := mkM 2 5 m_ScrolledView_turn
def m_ScrolledView_show : MSO := (soSeq (liftO (mAsg (bTup [2, 3]) (eObS 0 "ScrolledView")))
    (soSeq (liftO (mDrop (eCall 2 F_check_row (aCons (eVar 1) (aCons (bin subD (bin ixD (eVar 2) (eC (.int 0))) (eC (.int 1))) aNil)))))
    (soRetO (eMO 0 "ScrolledView" 2 M_ScrolledView_move (aCons (eVar 2) (aCons (eCall 2 F_bounded (aCons (eVar 2) (aCons (bcall max2B (aCons (bin addD (bin subD (eVar 1) (bin ixD (eVar 2) (eC (.int 1)))) (eC (.int 1))) (aCons (bcall min2B (aCons (eVar 1) (aCons (eVar 3) aNil))) aNil))) aNil))) aNil))))))
def M_ScrolledView_show : Ob → List D → RM := mkM 1 4 m_ScrolledView_show
def m_ScrolledView_change : MSO := (soSeq (liftO (mAsg (bTup [2, 3]) (eObS 0 "ScrolledView")))
    (soSeq (liftO (mDrop (eCall 2 F_check_change (aCons (eVar 2) (aCons (eVar 1) aNil)))))
    (soRetO (eMO 0 "ScrolledView" 2 M_ScrolledView_move (aCons (eCall 2 F_find_changed (aCons (eVar 2) (aCons (eVar 1) aNil))) (aCons (eCall 3 F_find_kept (aCons (eVar 2) (aCons (eVar 3) (aCons (eVar 1) aNil)))) aNil))))))
def M_ScrolledView_change : Ob → List D → RM := mkM 1 4 m_ScrolledView_change
def m_ScrolledView_undo : MSO := (soSeq (liftO (mIf (mVal (bin eqD (eAttr "ScrolledView" "earlier" (eVar 0)) (eLst aNil))) (mRaise "NothingToUndo") mNx))
    (soSeq (liftO (mObAppL 0 "ScrolledView"))
    (liftO (mObPopE 0 "ScrolledView"))))
def M_ScrolledView_undo : Ob → List D → RM := mkM 0 1 m_ScrolledView_undo
def m_ScrolledView_redo : MSO := (soSeq (liftO (mIf (mVal (bin eqD (eAttr "ScrolledView" "later" (eVar 0)) (eLst aNil))) (mRaise "NothingToUndo") mNx))
    (soSeq (liftO (mObAppE 0 "ScrolledView"))
    (liftO (mObPopL 0 "ScrolledView"))))
def M_ScrolledView_redo : Ob → List D → RM := mkM 0 1 m_ScrolledView_redo
def m_ScrolledView_copy : MSO := (soSeq (liftO (mNewO 1 "ScrolledView" F_check_view (aCons (bin ixD (eObS 0 "ScrolledView") (eC (.int 0))) aNil)))
    (soSeq (liftO (mObSt 1 "ScrolledView" (eObS 0 "ScrolledView")))
    (soSeq (liftO (mObCpE 1 0 "ScrolledView"))
    (soSeq (liftO (mObCpL 1 0 "ScrolledView"))
    (soRetOb 1)))))
def M_ScrolledView_copy : Ob → List D → RM := mkM 0 2 m_ScrolledView_copy
def m_ScrolledView___eq__ : MS := (mRet (vAnd (unr (isiOD "ScrolledView") (eVar 1)) (bin eqD (eAttr "ScrolledView" "state" (eVar 0)) (eAttr "ScrolledView" "state" (eVar 1)))))
def F_ScrolledView___eq__ : List D → R D := mkF 2 2 m_ScrolledView___eq__
def m_ScrolledView___len__ : MS := (mRet (bcall lenB (aCons (unr rg1D (bin ixD (bin ixD (eAttr "ScrolledView" "state" (eVar 0)) (eC (.int 0))) (eC (.int 0)))) aNil)))
def F_ScrolledView___len__ : List D → R D := mkF 1 1 m_ScrolledView___len__
def m__law_round : MS := (mSeq (mSet 3 (bin fdivD (eVar 0) (eVar 1)))
    (mSeq (mSet 4 (bin subD (eVar 0) (bin mulD (eVar 3) (eVar 1))))
    (mSeq (mIf (mVal (bin eqD (eVar 2) (eC (.str "up")))) (mRet (bin addD (eVar 3) (eIf (mVal (bin gtD (eVar 4) (eC (.int 0)))) (eC (.int 1)) (eC (.int 0))))) mNx)
    (mRet (bin addD (eVar 3) (eIf (mAnd (mVal (bin eqD (eVar 2) (eC (.str "near")))) (mVal (bin geD (bin addD (eVar 4) (eVar 4)) (eVar 1)))) (eC (.int 1)) (eC (.int 0))))))))
def F__law_round : List D → R D := mkF 3 5 m__law_round
def m__law_firsts : MS := (mSeq (mAsg (bTup [1, 2, 3, 4]) (eVar 0))
    (mRet (eComp (iArg range1A (aCons (bin addD (eVar 3) (eC (.int 1))) aNil)) [5] (bName 5) mYes (eCall 3 F__law_round (aCons (bin mulD (eVar 5) (bin subD (eVar 1) (eVar 2))) (aCons (eVar 3) (aCons (eVar 4) aNil)))))))
def F__law_firsts : List D → R D := mkF 1 6 m__law_firsts
def m__law_pick : MS := (mSeq (mSet 3 (eIf (mVal (bin neD (eVar 0) (eLst aNil))) (bin ixD (eVar 0) (bin modD (eVar 1) (bcall lenB (aCons (eVar 0) aNil)))) (eC (.int 0))))
    (mSeq (mPar [4, 5] (qVal (bin fdivD (eVar 3) (bin powD (eC (.int 10)) (eC (.int 18)))) (qVal (bin fdivD (eVar 1) (bcall max2B (aCons (bcall lenB (aCons (eVar 0) aNil)) (aCons (eC (.int 1)) aNil)))) qNil)))
    (mSeq (mWhile (mAnd (mVal (bin gtD (eVar 4) (eC (.int 0)))) (mVal (bin gtD (eVar 5) (eC (.int 0)))))
    (mPar [4, 5] (qVal (bin fdivD (eVar 4) (eC (.int 840))) (qVal (bin subD (eVar 5) (eC (.int 1))) qNil))) 1000)
    (mSeq (mIf (mVal (bin gtD (eVar 4) (eC (.int 0)))) (mRet (bin modD (bin modD (eVar 4) (eC (.int 840))) (eVar 2))) mNx)
    (mSeq (mSet 6 (bin modD (bin mulD (bin addD (bin mulD (eVar 3) (eC (.int 31))) (bin mulD (eC (.int 6151)) (bin addD (eVar 1) (eC (.int 1))))) (eC (.int 40692))) (eC (.int 2147483399))))
    (mRet (bin modD (bin modD (bin addD (bin mulD (eVar 6) (eVar 6)) (bin fdivD (eVar 6) (eC (.int 31)))) (eC (.int 2147483629))) (eVar 2))))))))
def F__law_pick : List D → R D := mkF 3 7 m__law_pick
def m__law_some : MS := (mSeq (mSet 2 (bin addD (eC (.int 1)) (eCall 3 F__law_pick (aCons (eVar 0) (aCons (eVar 1) (aCons (eC (.int 8)) aNil))))))
    (mSeq (mSet 3 (bcall min2B (aCons (eC (.int 99)) (aCons (bin addD (bin addD (eVar 2) (bin ixD (eTup (aCons (eC (.int 0)) (aCons (eC (.int 1)) (aCons (eC (.int 5)) (aCons (eC (.int 12)) (aCons (eC (.int 20)) (aCons (eC (.int 40)) aNil))))))) (eCall 3 F__law_pick (aCons (eVar 0) (aCons (bin addD (eVar 1) (eC (.int 1))) (aCons (eC (.int 6)) aNil)))))) (eCall 3 F__law_pick (aCons (eVar 0) (aCons (bin addD (eVar 1) (eC (.int 2))) (aCons (eC (.int 9)) aNil))))) aNil))))
    (mSeq (mSet 4 (bin ixD (eTup (aCons (eC (.int 1)) (aCons (eC (.int 2)) (aCons (eC (.int 3)) (aCons (eC (.int 4)) (aCons (eC (.int 5)) (aCons (eC (.int 7)) (aCons (eC (.int 10)) (aCons (eC (.int 12)) (aCons (eC (.int 25)) (aCons (eC (.int 60)) aNil))))))))))) (eCall 3 F__law_pick (aCons (eVar 0) (aCons (bin addD (eVar 1) (eC (.int 3))) (aCons (eC (.int 10)) aNil))))))
    (mRet (eTup (aCons (eVar 3) (aCons (eVar 2) (aCons (eVar 4) (aCons (bin ixD (eTup (aCons (eC (.str "down")) (aCons (eC (.str "near")) (aCons (eC (.str "up")) aNil)))) (eCall 3 F__law_pick (aCons (eVar 0) (aCons (bin addD (eVar 1) (eC (.int 4))) (aCons (eC (.int 3)) aNil))))) aNil)))))))))
def F__law_some : List D → R D := mkF 2 5 m__law_some
def m0__law_class (c : PySem.Str) : MS := (mSeq (mOwn 1 (aCons (eIsE 0 (isa_InvalidView c)) (aCons (eIsE 0 (isa_InvalidStep c)) aNil)))
    (mSeq (mExt 1 (eLst (aCons (eIsE 0 (isa_InvalidRow c)) (aCons (eIsE 0 (isa_DifferentSteps c)) aNil))))
    (mSeq (mExt 1 (eLst (aCons (eIsE 0 (isa_InvalidNumber c)) (aCons (eIsE 0 (isa_InvalidSize c)) aNil))))
    (mSeq (mExt 1 (eLst (aCons (eIsE 0 (isa_InvalidCells c)) (aCons (eIsE 0 (isa_InvalidCell c)) aNil))))
    (mSeq (mExt 1 (eLst (aCons (eIsE 0 (isa_InvalidChange c)) (aCons (eIsE 0 (isa_NothingToUndo c)) aNil))))
    (mSeq (mExt 1 (eLst (aCons (eIsE 0 (isa_ParseError c)) aNil)))
    (mSeq (mIf (mOr (mVal (bin neD (eCnt (eVar 1) (eC (.bl true))) (eC (.int 1)))) (mNot (mVal (eIsE 0 true)))) (mRet (eC (.str "wrong"))) mNx)
    (mSeq (mOwn 2 (aCons (eC (.str "InvalidView")) (aCons (eC (.str "InvalidStep")) (aCons (eC (.str "InvalidRow")) (aCons (eC (.str "DifferentSteps")) (aCons (eC (.str "InvalidNumber")) aNil))))))
    (mSeq (mExt 2 (eLst (aCons (eC (.str "InvalidSize")) (aCons (eC (.str "InvalidCells")) (aCons (eC (.str "InvalidCell")) (aCons (eC (.str "InvalidChange")) aNil))))))
    (mSeq (mExt 2 (eLst (aCons (eC (.str "NothingToUndo")) (aCons (eC (.str "ParseError")) aNil))))
    (mRet (bin ixD (eVar 2) (eIndex (eVar 1) (eC (.bl true)))))))))))))))
def m__law_class (c : PySem.Str) : MS := onlyM (decide (exm_ScrollError c = some true)) (m0__law_class c)
def F__law_class : PySem.Str → R D := mkH 3 m__law_class
def LF_0 : MEO := (eMO 0 "ScrolledView" 1 M_ScrolledView_go (aCons (eVar 1) aNil))
def LF_1 : MEO := (eMO 0 "ScrolledView" 2 M_ScrolledView_turn (aCons (eVar 1) (aCons (eVar 2) aNil)))
def LF_2 : MEO := (eMO 0 "ScrolledView" 1 M_ScrolledView_show (aCons (eVar 1) aNil))
def LF_3 : MEO := (eMO 0 "ScrolledView" 1 M_ScrolledView_change (aCons (eTup (aCons (eC (.str "insert")) (aCons (eVar 1) (aCons (bin addD (eC (.int 1)) (bin modD (eVar 2) (eC (.int 4)))) aNil)))) aNil))
def LF_4 : MEO := (eMO 0 "ScrolledView" 0 M_ScrolledView_undo aNil)
def LF_5 : MEO := (eMO 0 "ScrolledView" 0 M_ScrolledView_redo aNil)
open Classical in
def TFO (lc : LamCode) (o : Ob) (ds : List D) : RM := if lc = lam_0 then runL LF_0 o ds else if lc = lam_1 then runL LF_1 o ds else if lc = lam_2 then runL LF_2 o ds else if lc = lam_3 then runL LF_3 o ds else if lc = lam_4 then runL LF_4 o ds else if lc = lam_5 then runL LF_5 o ds else .no
theorem TFO_0 (o : Ob) (ds : List D) : TFO lam_0 o ds = runL LF_0 o ds := by
  unfold TFO
  rw [if_pos rfl]
theorem TFO_1 (o : Ob) (ds : List D) : TFO lam_1 o ds = runL LF_1 o ds := by
  unfold TFO
  rw [if_neg (show ¬ (lam_1 = lam_0) from fun e => absurd (show (1 : Nat) = 0 from congrArg LamCode.id e) (by decide)), if_pos rfl]
theorem TFO_2 (o : Ob) (ds : List D) : TFO lam_2 o ds = runL LF_2 o ds := by
  unfold TFO
  rw [if_neg (show ¬ (lam_2 = lam_0) from fun e => absurd (show (2 : Nat) = 0 from congrArg LamCode.id e) (by decide)), if_neg (show ¬ (lam_2 = lam_1) from fun e => absurd (show (2 : Nat) = 1 from congrArg LamCode.id e) (by decide)), if_pos rfl]
theorem TFO_3 (o : Ob) (ds : List D) : TFO lam_3 o ds = runL LF_3 o ds := by
  unfold TFO
  rw [if_neg (show ¬ (lam_3 = lam_0) from fun e => absurd (show (3 : Nat) = 0 from congrArg LamCode.id e) (by decide)), if_neg (show ¬ (lam_3 = lam_1) from fun e => absurd (show (3 : Nat) = 1 from congrArg LamCode.id e) (by decide)), if_neg (show ¬ (lam_3 = lam_2) from fun e => absurd (show (3 : Nat) = 2 from congrArg LamCode.id e) (by decide)), if_pos rfl]
theorem TFO_4 (o : Ob) (ds : List D) : TFO lam_4 o ds = runL LF_4 o ds := by
  unfold TFO
  rw [if_neg (show ¬ (lam_4 = lam_0) from fun e => absurd (show (4 : Nat) = 0 from congrArg LamCode.id e) (by decide)), if_neg (show ¬ (lam_4 = lam_1) from fun e => absurd (show (4 : Nat) = 1 from congrArg LamCode.id e) (by decide)), if_neg (show ¬ (lam_4 = lam_2) from fun e => absurd (show (4 : Nat) = 2 from congrArg LamCode.id e) (by decide)), if_neg (show ¬ (lam_4 = lam_3) from fun e => absurd (show (4 : Nat) = 3 from congrArg LamCode.id e) (by decide)), if_pos rfl]
theorem TFO_5 (o : Ob) (ds : List D) : TFO lam_5 o ds = runL LF_5 o ds := by
  unfold TFO
  rw [if_neg (show ¬ (lam_5 = lam_0) from fun e => absurd (show (5 : Nat) = 0 from congrArg LamCode.id e) (by decide)), if_neg (show ¬ (lam_5 = lam_1) from fun e => absurd (show (5 : Nat) = 1 from congrArg LamCode.id e) (by decide)), if_neg (show ¬ (lam_5 = lam_2) from fun e => absurd (show (5 : Nat) = 2 from congrArg LamCode.id e) (by decide)), if_neg (show ¬ (lam_5 = lam_3) from fun e => absurd (show (5 : Nat) = 3 from congrArg LamCode.id e) (by decide)), if_neg (show ¬ (lam_5 = lam_4) from fun e => absurd (show (5 : Nat) = 4 from congrArg LamCode.id e) (by decide)), if_pos rfl]
def su__law_result (c : PySem.Str) : MS := (mRet (eTup (aCons (eC (.str "error")) (aCons (eHot F__law_class c 1) aNil))))
def TR__law_result (lc : LamCode) (o : Ob) (ds : List D) : RM := resM exm_ScrollError su__law_result (TFO lc o ds)
def m__law_next : MS := (mSeq (mAsg (bTup [4, 5]) (eVar 0))
    (mSeq (mAsg (bTup [6, 7, 8, 9]) (eVar 4))
    (mSeq (mSet 10 (bin subD (eVar 6) (eVar 7)))
    (mSeq (mIf (mVal (bin eqD (eVar 1) (eC (.int 0)))) (mRet (eIf (mAnd (mVal (bin leD (eC (.int 0)) (eVar 2))) (mVal (bin leD (eVar 2) (eVar 8)))) (eTup (aCons (eC .non) (aCons (eTup (aCons (eVar 4) (aCons (bin ixD (eCall 1 F__law_firsts (aCons (eVar 4) aNil)) (eVar 2)) aNil))) aNil))) (eTup (aCons (eC (.str "InvalidStep")) (aCons (eC .non) aNil))))) mNx)
    (mSeq (mIf (mVal (bin eqD (eVar 1) (eC (.int 1)))) (mSeq (mIf (mOr (mVal (bin ltD (eVar 2) (eC (.int 1)))) (mVal (bin gtD (eVar 2) (eVar 7)))) (mRet (eTup (aCons (eC (.str "InvalidSize")) (aCons (eC .non) aNil)))) mNx)
    (mRet (eTup (aCons (eC .non) (aCons (eTup (aCons (eVar 4) (aCons (bcall max2B (aCons (eC (.int 0)) (aCons (bcall min2B (aCons (eVar 10) (aCons (bin addD (eVar 5) (bin mulD (eVar 2) (eVar 3))) aNil))) aNil))) aNil))) aNil))))) mNx)
    (mSeq (mIf (mVal (bin eqD (eVar 1) (eC (.int 2)))) (mSeq (mIf (mOr (mVal (bin ltD (eVar 2) (eC (.int 0)))) (mVal (bin geD (eVar 2) (eVar 6)))) (mRet (eTup (aCons (eC (.str "InvalidRow")) (aCons (eC .non) aNil)))) mNx)
    (mSeq (mSet 11 (eComp (iArg range1A (aCons (bin addD (eVar 10) (eC (.int 1))) aNil)) [13] (bName 13) (mAnd (mVal (bin leD (eVar 13) (eVar 2))) (mVal (bin ltD (eVar 2) (bin addD (eVar 13) (eVar 7))))) (eVar 13)))
    (mRet (eTup (aCons (eC .non) (aCons (eTup (aCons (eVar 4) (aCons (bin ixD (bcall minPB (aCons (eComp (iSeq lstD (eVar 11)) [13] (bName 13) mYes (eTup (aCons (bcall absB (aCons (bin subD (eVar 13) (eVar 5)) aNil)) (aCons (eVar 13) aNil)))) aNil)) (eC (.int 1))) aNil))) aNil)))))) mNx)
    (mSeq (mSet 12 (bin addD (eC (.int 1)) (bin modD (eVar 3) (eC (.int 4)))))
    (mSeq (mIf (mOr (mVal (bin ltD (eVar 2) (eC (.int 0)))) (mOr (mVal (bin gtD (eVar 2) (eVar 6))) (mVal (bin gtD (bin addD (eVar 6) (eVar 12)) (eC (.int 99)))))) (mRet (eTup (aCons (eC (.str "InvalidChange")) (aCons (eC .non) aNil)))) mNx)
    (mRet (eTup (aCons (eC .non) (aCons (eTup (aCons (eTup (aCons (bin addD (eVar 6) (eVar 12)) (aCons (eVar 7) (aCons (eVar 8) (aCons (eVar 9) aNil))))) (aCons (eIf (mVal (bin leD (eVar 2) (eVar 5))) (bin addD (eVar 5) (eVar 12)) (eVar 5)) aNil))) aNil))))))))))))
def F__law_next : List D → R D := mkF 4 14 m__law_next
def ks__law_calls__law_calls_here : List LamCode := [lam_0, lam_1, lam_2, lam_3, lam_4, lam_5]
def m0__law_calls : MS := (mSeqR (mLams 3 lam_0)
    (mSeqR (mAppL 3 lam_1)
    (mSeqR (mAppL 3 lam_2)
    (mSeqR (mAppL 3 lam_3)
    (mSeqR (mAppL 3 lam_4)
    (mSeqR (mAppL 3 lam_5)
    (mRetL 3 ks__law_calls__law_calls_here)))))))
def m__law_calls : MS := rtOnly m0__law_calls
def F__law_calls : List D → R D := mkF 3 4 m__law_calls
def S_law_1 : MS := (mSet 1 (eCall 2 F__law_some (aCons (eVar 0) (aCons (eC (.int 0)) aNil))))
def S_law_2 : MS := (mPar [2, 3, 4] (qNew "ScrolledView" F_check_view (aCons (eVar 1) aNil) (qVal (eLst (aCons (eTup (aCons (eVar 1) (aCons (eC (.int 0)) aNil))) aNil)) (qVal (eC (.int 0)) qNil))))
def S_law_3_1 : MS := (mSet 6 (bin ixD (eTup (aCons (eC (.int 0)) (aCons (eC (.int 0)) (aCons (eC (.int 1)) (aCons (eC (.int 1)) (aCons (eC (.int 2)) (aCons (eC (.int 2)) (aCons (eC (.int 3)) (aCons (eC (.int 4)) (aCons (eC (.int 5)) (aCons (eC (.int 4)) (aCons (eC (.int 6)) aNil)))))))))))) (eCall 3 F__law_pick (aCons (eVar 0) (aCons (bin addD (eC (.int 10)) (bin mulD (eC (.int 6)) (eVar 5))) (aCons (eC (.int 11)) aNil))))))
def S_law_3_2 : MS := (mSet 7 (bin ixD (eTup (aCons (bin addD (bin ixD (eVar 1) (eC (.int 2))) (eC (.int 2))) (aCons (bin addD (bin ixD (eVar 1) (eC (.int 1))) (eC (.int 2))) (aCons (bin addD (bin ixD (bin ixD (bin ixD (eVar 3) (eVar 4)) (eC (.int 0))) (eC (.int 0))) (eC (.int 2))) (aCons (bin addD (bin ixD (bin ixD (bin ixD (eVar 3) (eVar 4)) (eC (.int 0))) (eC (.int 0))) (eC (.int 2))) aNil))))) (bcall min2B (aCons (eVar 6) (aCons (eC (.int 3)) aNil)))))
def S_law_3_3 : MS := (mSet 8 (bin subBD (eCall 3 F__law_pick (aCons (eVar 0) (aCons (bin addD (eC (.int 11)) (bin mulD (eC (.int 6)) (eVar 5))) (aCons (eVar 7) aNil)))) (bin eqD (eCall 3 F__law_pick (aCons (eVar 0) (aCons (bin addD (eC (.int 12)) (bin mulD (eC (.int 6)) (eVar 5))) (aCons (eC (.int 7)) aNil)))) (eC (.int 0)))))
def S_law_3_4 : MS := (mSet 9 (bin subD (eCall 3 F__law_pick (aCons (eVar 0) (aCons (bin addD (eC (.int 13)) (bin mulD (eC (.int 6)) (eVar 5))) (aCons (eC (.int 9)) aNil)))) (eC (.int 4))))
def S_law_3_5 : MS := (mSet 10 (eC .non))
def S_law_3_6_1 : MS := (mAsg (bTup [11, 12]) (eCall 4 F__law_next (aCons (bin ixD (eVar 3) (eVar 4)) (aCons (eVar 6) (aCons (eVar 8) (aCons (eVar 9) aNil))))))
def S_law_3_6_2_1 : MS := (mPar [3, 4] (qVal (bin addD (eSl (eVar 3) oNone (oSome (bin addD (eVar 4) (eC (.int 1))))) (eLst (aCons (eVar 12) aNil))) (qVal (bin addD (eVar 4) (eC (.int 1))) qNil)))
def S_law_3_6_2 : MS := (mIf (mVal (bin isnD (eVar 12) (eC .non))) S_law_3_6_2_1 mNx)
def S_law_3_6_3 : MS := (mSet 10 (eIf (mVal (bin isnD (eVar 12) (eC .non))) (bin ixD (eVar 12) (eC (.int 1))) (eTup (aCons (eC (.str "error")) (aCons (eVar 11) aNil)))))
def S_law_3_6_e_1_1 : MS := (mSet 13 (eIf (mVal (bin eqD (eVar 6) (eC (.int 4)))) (bin subD (eVar 4) (eC (.int 1))) (bin addD (eVar 4) (eC (.int 1)))))
def S_law_3_6_e_1_2 : MS := (mSet 10 (eIf (mVal (bin inRgD (eVar 13) (bcall lenB (aCons (eVar 3) aNil)))) (eC .non) (eTup (aCons (eC (.str "error")) (aCons (eC (.str "NothingToUndo")) aNil)))))
def S_law_3_6_e_1_3 : MS := (mSet 4 (eIf (mVal (bin inRgD (eVar 13) (bcall lenB (aCons (eVar 3) aNil)))) (eVar 13) (eVar 4)))
def S_law_3_6_e_1_e_1 : MS := (mCopy 2 14 "ScrolledView" M_ScrolledView_copy)
def S_law_3_6_e_1_e_2 : MS := (mDropO (eMO 14 "ScrolledView" 1 M_ScrolledView_go (aCons (eC (.int 0)) aNil)))
def S_law_3_6_e_1_e_3 : MS := (mCopy 2 2 "ScrolledView" M_ScrolledView_copy)
def S_law_3_6_e_1 : MS := (mIf (mVal (bin ltD (eVar 6) (eC (.int 6)))) (mSeq S_law_3_6_e_1_1
    (mSeq S_law_3_6_e_1_2
    S_law_3_6_e_1_3)) (mSeq S_law_3_6_e_1_e_1
    (mSeq S_law_3_6_e_1_e_2
    S_law_3_6_e_1_e_3)))
def S_law_3_6 : MS := (mIf (mVal (bin ltD (eVar 6) (eC (.int 4)))) (mSeq S_law_3_6_1
    (mSeq S_law_3_6_2
    S_law_3_6_3)) S_law_3_6_e_1)
def S_law_3_7_1 : MS := (mRet (eC (.bl false)))
def S_law_3_7 : MS := (mIfO (mAndO (mVal (bin ltD (eVar 6) (eC (.int 6)))) (mNeO (eRes 2 (bin ixD (eCall 3 F__law_calls (aCons (eVar 2) (aCons (eVar 8) (aCons (eVar 9) aNil)))) (eVar 6)) TR__law_result) (eVar 10))) S_law_3_7_1 mNx)
def S_law_3_8 : MS := (mAsg (bTup [15, 16]) (bin ixD (eVar 3) (eVar 4)))
def S_law_3_9_1 : MS := (mRet (eC (.bl false)))
def S_law_3_9 : MS := (mIf (mOr (mVal (bin neD (eMeth "ScrolledView" "view" 1 F_ScrolledView_view (eVar 2) aNil) (eVar 15))) (mOr (mVal (bin neD (eMeth "ScrolledView" "first" 1 F_ScrolledView_first (eVar 2) aNil) (eVar 16))) (mVal (bin neD (eLenO "ScrolledView" F_ScrolledView___len__ (eVar 2)) (bin ixD (eVar 15) (eC (.int 0))))))) S_law_3_9_1 mNx)
def S_law_3_10_1 : MS := (mRet (eC (.bl false)))
def S_law_3_10 : MS := (mIf (mVal (bin neD (eMeth "ScrolledView" "seen" 1 F_ScrolledView_seen (eVar 2) aNil) (bin rg2D (eVar 16) (bin addD (eVar 16) (bin ixD (eVar 15) (eC (.int 1))))))) S_law_3_10_1 mNx)
def S_law_3 : MS := (mFor (iArg range1A (aCons (eC (.int 14)) aNil)) (bName 5)
    (mSeq S_law_3_1
    (mSeq S_law_3_2
    (mSeq S_law_3_3
    (mSeq S_law_3_4
    (mSeq S_law_3_5
    (mSeq S_law_3_6
    (mSeq S_law_3_7
    (mSeq S_law_3_8
    (mSeq S_law_3_9
    S_law_3_10))))))))))
def S_law_4 : MS := (mSet 17 (eMake "ScrolledView" F_check_view (aCons (bin ixD (bin ixD (eVar 3) (eVar 4)) (eC (.int 0))) aNil)))
def S_law_5 : MS := (mRet (vAnd (bin eqD (eEqO "ScrolledView" F_ScrolledView___eq__ (eVar 17) (eVar 2)) (bin eqD (bin ixD (bin ixD (eVar 3) (eVar 4)) (eC (.int 1))) (eC (.int 0)))) (eNeO "ScrolledView" F_ScrolledView___eq__ (eVar 2) (bin ixD (eVar 3) (eVar 4)))))
def m_law : MS := (mSeq S_law_1
    (mSeq S_law_2
    (mSeq S_law_3
    (mSeq S_law_4
    S_law_5))))
def F_law : List D → R D := mkF 1 18 m_law
end
theorem sc_is_int : FnScope ["value", "least", "most"] ["value", "least", "most"] (defScope s_is_int) := ⟨rfl, rfl, rfl, by decide +kernel, rfl, by decide +kernel, by decide +kernel⟩
theorem sc_is_view : FnScope ["candidate", "rows", "height", "steps", "rule"] ["candidate"] (defScope s_is_view) := ⟨rfl, rfl, rfl, by decide +kernel, rfl, by decide +kernel, by decide +kernel⟩
theorem sc_check_view : FnScope ["value"] ["value"] (defScope s_check_view) := ⟨rfl, rfl, rfl, by decide +kernel, rfl, by decide +kernel, by decide +kernel⟩
theorem sc_check_step : FnScope ["view", "value"] ["view", "value"] (defScope s_check_step) := ⟨rfl, rfl, rfl, by decide +kernel, rfl, by decide +kernel, by decide +kernel⟩
theorem sc_check_row : FnScope ["value", "most"] ["value", "most"] (defScope s_check_row) := ⟨rfl, rfl, rfl, by decide +kernel, rfl, by decide +kernel, by decide +kernel⟩
theorem sc_rest_of : FnScope ["view"] ["view"] (defScope s_rest_of) := ⟨rfl, rfl, rfl, by decide +kernel, rfl, by decide +kernel, by decide +kernel⟩
theorem sc_rounded : FnScope ["above", "below", "rule"] ["above", "below", "rule"] (defScope s_rounded) := ⟨rfl, rfl, rfl, by decide +kernel, rfl, by decide +kernel, by decide +kernel⟩
theorem sc_find_first : FnScope ["view", "step"] ["view", "step"] (defScope s_find_first) := ⟨rfl, rfl, rfl, by decide +kernel, rfl, by decide +kernel, by decide +kernel⟩
theorem sc_find_changed : FnScope ["view", "change", "word", "place", "count", "rows"] ["view", "change"] (defScope s_find_changed) := ⟨rfl, rfl, rfl, by decide +kernel, rfl, by decide +kernel, by decide +kernel⟩
theorem sc_has_change : FnScope ["view", "candidate", "word", "place", "count"] ["view", "candidate"] (defScope s_has_change) := ⟨rfl, rfl, rfl, by decide +kernel, rfl, by decide +kernel, by decide +kernel⟩
theorem sc_check_change : FnScope ["view", "change"] ["view", "change"] (defScope s_check_change) := ⟨rfl, rfl, rfl, by decide +kernel, rfl, by decide +kernel, by decide +kernel⟩
theorem sc_find_kept : FnScope ["view", "row", "change", "word", "place", "count", "found"] ["view", "row", "change"] (defScope s_find_kept) := ⟨rfl, rfl, rfl, by decide +kernel, rfl, by decide +kernel, by decide +kernel⟩
theorem sc_check_size : FnScope ["view", "value"] ["view", "value"] (defScope s_check_size) := ⟨rfl, rfl, rfl, by decide +kernel, rfl, by decide +kernel, by decide +kernel⟩
theorem sc_bounded : FnScope ["view", "row"] ["view", "row"] (defScope s_bounded) := ⟨rfl, rfl, rfl, by decide +kernel, rfl, by decide +kernel, by decide +kernel⟩
theorem sc_ScrolledView_view : FnScope ["self"] ["self"] (defScope s_ScrolledView_view) := ⟨rfl, rfl, rfl, by decide +kernel, rfl, by decide +kernel, by decide +kernel⟩
theorem sc_ScrolledView_first : FnScope ["self"] ["self"] (defScope s_ScrolledView_first) := ⟨rfl, rfl, rfl, by decide +kernel, rfl, by decide +kernel, by decide +kernel⟩
theorem sc_ScrolledView_seen : FnScope ["self", "known", "row"] ["self"] (defScope s_ScrolledView_seen) := ⟨rfl, rfl, rfl, by decide +kernel, rfl, by decide +kernel, by decide +kernel⟩
theorem sc_ScrolledView_move : FnScope ["self", "known", "row"] ["self", "known", "row"] (defScope s_ScrolledView_move) := ⟨rfl, rfl, rfl, by decide +kernel, rfl, by decide +kernel, by decide +kernel⟩
theorem sc_ScrolledView_go : FnScope ["self", "step", "known"] ["self", "step"] (defScope s_ScrolledView_go) := ⟨rfl, rfl, rfl, by decide +kernel, rfl, by decide +kernel, by decide +kernel⟩
theorem sc_ScrolledView_turn : FnScope ["self", "size", "turns", "known", "row"] ["self", "size", "turns"] (defScope s_ScrolledView_turn) := ⟨rfl, rfl, rfl, by decide +kernel, rfl, by decide +kernel, by decide +kernel⟩
theorem sc_ScrolledView_show : FnScope ["self", "row", "known", "current"] ["self", "row"] (defScope s_ScrolledView_show) := ⟨rfl, rfl, rfl, by decide +kernel, rfl, by decide +kernel, by decide +kernel⟩
theorem sc_ScrolledView_change : FnScope ["self", "some", "known", "row"] ["self", "some"] (defScope s_ScrolledView_change) := ⟨rfl, rfl, rfl, by decide +kernel, rfl, by decide +kernel, by decide +kernel⟩
theorem sc_ScrolledView_undo : FnScope ["self"] ["self"] (defScope s_ScrolledView_undo) := ⟨rfl, rfl, rfl, by decide +kernel, rfl, by decide +kernel, by decide +kernel⟩
theorem sc_ScrolledView_redo : FnScope ["self"] ["self"] (defScope s_ScrolledView_redo) := ⟨rfl, rfl, rfl, by decide +kernel, rfl, by decide +kernel, by decide +kernel⟩
theorem sc_ScrolledView_copy : FnScope ["self", "other"] ["self"] (defScope s_ScrolledView_copy) := ⟨rfl, rfl, rfl, by decide +kernel, rfl, by decide +kernel, by decide +kernel⟩
theorem sc_ScrolledView___eq__ : FnScope ["self", "other"] ["self", "other"] (defScope s_ScrolledView___eq__) := ⟨rfl, rfl, rfl, by decide +kernel, rfl, by decide +kernel, by decide +kernel⟩
theorem sc_ScrolledView___len__ : FnScope ["self"] ["self"] (defScope s_ScrolledView___len__) := ⟨rfl, rfl, rfl, by decide +kernel, rfl, by decide +kernel, by decide +kernel⟩
theorem sc__law_round : FnScope ["_law_above", "_law_below", "_law_rule", "_law_low", "_law_left"] ["_law_above", "_law_below", "_law_rule"] (defScope s__law_round) := ⟨rfl, rfl, rfl, by decide +kernel, rfl, by decide +kernel, by decide +kernel⟩
theorem sc__law_firsts : FnScope ["_law_some_here", "_law_rows", "_law_high", "_law_many", "_law_rule", "_law_step"] ["_law_some_here"] (defScope s__law_firsts) := ⟨rfl, rfl, rfl, by decide +kernel, rfl, by decide +kernel, by decide +kernel⟩
theorem sc__law_pick : FnScope ["_law_script", "_law_k", "_law_many", "_law_cell", "_law_left", "_law_again", "_law_drawn"] ["_law_script", "_law_k", "_law_many"] (defScope s__law_pick) := ⟨rfl, rfl, rfl, by decide +kernel, rfl, by decide +kernel, by decide +kernel⟩
theorem sc__law_some : FnScope ["_law_script", "_law_at", "_law_high", "_law_rows", "_law_many"] ["_law_script", "_law_at"] (defScope s__law_some) := ⟨rfl, rfl, rfl, by decide +kernel, rfl, by decide +kernel, by decide +kernel⟩
theorem sc__law_class : FnScope ["_law_error", "_law_kinds", "_law_names"] ["_law_error"] (defScope s__law_class) := ⟨rfl, rfl, rfl, by decide +kernel, rfl, by decide +kernel, by decide +kernel⟩
theorem sc__law_result : FnScope ["_law_call", "_law_error"] ["_law_call"] (defScope s__law_result) := ⟨rfl, rfl, rfl, by decide +kernel, rfl, by decide +kernel, by decide +kernel⟩
theorem sc__law_next : FnScope ["_law_state", "_law_kind", "_law_one", "_law_two", "_law_some_here", "_law_row", "_law_rows", "_law_high", "_law_many", "_law_rule", "_law_most", "_law_good", "_law_count", "_law_first"] ["_law_state", "_law_kind", "_law_one", "_law_two"] (defScope s__law_next) := ⟨rfl, rfl, rfl, by decide +kernel, rfl, by decide +kernel, by decide +kernel⟩
theorem sc__law_calls : FnScope ["_law_moving", "_law_one", "_law_two", "_law_calls_here"] ["_law_moving", "_law_one", "_law_two"] (defScope s__law_calls) := ⟨rfl, rfl, rfl, by decide +kernel, rfl, by decide +kernel, by decide +kernel⟩
theorem sc_law : FnScope ["_law_script", "_law_some_here", "_law_moving", "_law_states", "_law_at", "_law_i", "_law_kind", "_law_top", "_law_one", "_law_two", "_law_due", "_law_word", "_law_state", "_law_to", "_law_other", "_law_known", "_law_row", "_law_twin"] ["_law_script"] (defScope s_law) := ⟨rfl, rfl, rfl, by decide +kernel, rfl, by decide +kernel, by decide +kernel⟩
theorem sc_ScrolledView : FnScope ["self", "view"] ["self", "view"] (defScope s_ScrolledView) := ⟨rfl, rfl, rfl, by decide +kernel, rfl, by decide +kernel, by decide +kernel⟩
variable [Tb]
theorem mk_0 {P : Program} {w : World} {K : Fr} {mg : Str → Option Value} {base : Heap} {f : Addr} {cdv : Value} {A : Around} {outer : List Env} {s : Shared} {H : Hp} {E : XK} (t : Tells base mg "_law_calls" cdv) : Mk (cxOf (L2.CX P w) P w K mg base ["_law_moving", "_law_one", "_law_two", "_law_calls_here"] "_law_calls" (defScope s__law_calls) f cdv A outer s H E) (fiM s.heap.objs.size (defScope s__law_calls)) lam_0 := mk_by t rfl ⟨rfl, rfl⟩ (show LamX.lamSB (defScope s__law_calls) lam_0.scope = true by decide +kernel) rfl
theorem capv_0 {P : Program} {w : World} {K : Fr} {mg : Str → Option Value} {base : Heap} {f : Addr} {cdv : Value} {A : Around} {outer : List Env} {s : Shared} {H : Hp} {E : XK} : CapV (cxOf (L2.CX P w) P w K mg base ["_law_moving", "_law_one", "_law_two", "_law_calls_here"] "_law_calls" (defScope s__law_calls) f cdv A outer s H E) lam_0 := ⟨LamX.lamS_by (show LamX.lamSB (defScope s__law_calls) lam_0.scope = true by decide +kernel), rfl⟩
theorem mk_1 {P : Program} {w : World} {K : Fr} {mg : Str → Option Value} {base : Heap} {f : Addr} {cdv : Value} {A : Around} {outer : List Env} {s : Shared} {H : Hp} {E : XK} (t : Tells base mg "_law_calls" cdv) : Mk (cxOf (L2.CX P w) P w K mg base ["_law_moving", "_law_one", "_law_two", "_law_calls_here"] "_law_calls" (defScope s__law_calls) f cdv A outer s H E) (fiM s.heap.objs.size (defScope s__law_calls)) lam_1 := mk_by t rfl ⟨rfl, rfl⟩ (show LamX.lamSB (defScope s__law_calls) lam_1.scope = true by decide +kernel) rfl
theorem capv_1 {P : Program} {w : World} {K : Fr} {mg : Str → Option Value} {base : Heap} {f : Addr} {cdv : Value} {A : Around} {outer : List Env} {s : Shared} {H : Hp} {E : XK} : CapV (cxOf (L2.CX P w) P w K mg base ["_law_moving", "_law_one", "_law_two", "_law_calls_here"] "_law_calls" (defScope s__law_calls) f cdv A outer s H E) lam_1 := ⟨LamX.lamS_by (show LamX.lamSB (defScope s__law_calls) lam_1.scope = true by decide +kernel), rfl⟩
theorem mk_2 {P : Program} {w : World} {K : Fr} {mg : Str → Option Value} {base : Heap} {f : Addr} {cdv : Value} {A : Around} {outer : List Env} {s : Shared} {H : Hp} {E : XK} (t : Tells base mg "_law_calls" cdv) : Mk (cxOf (L2.CX P w) P w K mg base ["_law_moving", "_law_one", "_law_two", "_law_calls_here"] "_law_calls" (defScope s__law_calls) f cdv A outer s H E) (fiM s.heap.objs.size (defScope s__law_calls)) lam_2 := mk_by t rfl ⟨rfl, rfl⟩ (show LamX.lamSB (defScope s__law_calls) lam_2.scope = true by decide +kernel) rfl
theorem capv_2 {P : Program} {w : World} {K : Fr} {mg : Str → Option Value} {base : Heap} {f : Addr} {cdv : Value} {A : Around} {outer : List Env} {s : Shared} {H : Hp} {E : XK} : CapV (cxOf (L2.CX P w) P w K mg base ["_law_moving", "_law_one", "_law_two", "_law_calls_here"] "_law_calls" (defScope s__law_calls) f cdv A outer s H E) lam_2 := ⟨LamX.lamS_by (show LamX.lamSB (defScope s__law_calls) lam_2.scope = true by decide +kernel), rfl⟩
theorem mk_3 {P : Program} {w : World} {K : Fr} {mg : Str → Option Value} {base : Heap} {f : Addr} {cdv : Value} {A : Around} {outer : List Env} {s : Shared} {H : Hp} {E : XK} (t : Tells base mg "_law_calls" cdv) : Mk (cxOf (L2.CX P w) P w K mg base ["_law_moving", "_law_one", "_law_two", "_law_calls_here"] "_law_calls" (defScope s__law_calls) f cdv A outer s H E) (fiM s.heap.objs.size (defScope s__law_calls)) lam_3 := mk_by t rfl ⟨rfl, rfl⟩ (show LamX.lamSB (defScope s__law_calls) lam_3.scope = true by decide +kernel) rfl
theorem capv_3 {P : Program} {w : World} {K : Fr} {mg : Str → Option Value} {base : Heap} {f : Addr} {cdv : Value} {A : Around} {outer : List Env} {s : Shared} {H : Hp} {E : XK} : CapV (cxOf (L2.CX P w) P w K mg base ["_law_moving", "_law_one", "_law_two", "_law_calls_here"] "_law_calls" (defScope s__law_calls) f cdv A outer s H E) lam_3 := ⟨LamX.lamS_by (show LamX.lamSB (defScope s__law_calls) lam_3.scope = true by decide +kernel), rfl⟩
theorem mk_4 {P : Program} {w : World} {K : Fr} {mg : Str → Option Value} {base : Heap} {f : Addr} {cdv : Value} {A : Around} {outer : List Env} {s : Shared} {H : Hp} {E : XK} (t : Tells base mg "_law_calls" cdv) : Mk (cxOf (L2.CX P w) P w K mg base ["_law_moving", "_law_one", "_law_two", "_law_calls_here"] "_law_calls" (defScope s__law_calls) f cdv A outer s H E) (fiM s.heap.objs.size (defScope s__law_calls)) lam_4 := mk_by t rfl ⟨rfl, rfl⟩ (show LamX.lamSB (defScope s__law_calls) lam_4.scope = true by decide +kernel) rfl
theorem capv_4 {P : Program} {w : World} {K : Fr} {mg : Str → Option Value} {base : Heap} {f : Addr} {cdv : Value} {A : Around} {outer : List Env} {s : Shared} {H : Hp} {E : XK} : CapV (cxOf (L2.CX P w) P w K mg base ["_law_moving", "_law_one", "_law_two", "_law_calls_here"] "_law_calls" (defScope s__law_calls) f cdv A outer s H E) lam_4 := ⟨LamX.lamS_by (show LamX.lamSB (defScope s__law_calls) lam_4.scope = true by decide +kernel), rfl⟩
theorem mk_5 {P : Program} {w : World} {K : Fr} {mg : Str → Option Value} {base : Heap} {f : Addr} {cdv : Value} {A : Around} {outer : List Env} {s : Shared} {H : Hp} {E : XK} (t : Tells base mg "_law_calls" cdv) : Mk (cxOf (L2.CX P w) P w K mg base ["_law_moving", "_law_one", "_law_two", "_law_calls_here"] "_law_calls" (defScope s__law_calls) f cdv A outer s H E) (fiM s.heap.objs.size (defScope s__law_calls)) lam_5 := mk_by t rfl ⟨rfl, rfl⟩ (show LamX.lamSB (defScope s__law_calls) lam_5.scope = true by decide +kernel) rfl
theorem capv_5 {P : Program} {w : World} {K : Fr} {mg : Str → Option Value} {base : Heap} {f : Addr} {cdv : Value} {A : Around} {outer : List Env} {s : Shared} {H : Hp} {E : XK} : CapV (cxOf (L2.CX P w) P w K mg base ["_law_moving", "_law_one", "_law_two", "_law_calls_here"] "_law_calls" (defScope s__law_calls) f cdv A outer s H E) lam_5 := ⟨LamX.lamS_by (show LamX.lamSB (defScope s__law_calls) lam_5.scope = true by decide +kernel), rfl⟩
theorem kv__law_calls__law_calls_here {P : Program} {w : World} {K : Fr} {mg : Str → Option Value} {base : Heap} {f : Addr} {cdv : Value} {A : Around} {outer : List Env} {s : Shared} {H : Hp} {E : XK} : ∀ lc ∈ ks__law_calls__law_calls_here, CapV (cxOf (L2.CX P w) P w K mg base ["_law_moving", "_law_one", "_law_two", "_law_calls_here"] "_law_calls" (defScope s__law_calls) f cdv A outer s H E) lc := (List.forall_mem_cons.mpr ⟨capv_0, (List.forall_mem_cons.mpr ⟨capv_1, (List.forall_mem_cons.mpr ⟨capv_2, (List.forall_mem_cons.mpr ⟨capv_3, (List.forall_mem_cons.mpr ⟨capv_4, (List.forall_mem_cons.mpr ⟨capv_5, (fun _ z => nomatch z)⟩)⟩)⟩)⟩)⟩)⟩)
/-- what is known of the module's names -/
structure Tx (P : Program) (w : World) (K : Fr) (mg : Str → Option Value) (base : Heap) : Prop where
  bi : BiK mg
  i_MAX_ROWS : ∃ t, mg "MAX_ROWS" = some (.int 99 t)
  i_MAX_HEIGHT : ∃ t, mg "MAX_HEIGHT" = some (.int 30 t)
  i_MAX_STEPS : ∃ t, mg "MAX_STEPS" = some (.int 60 t)
  i_MAX_COUNT : ∃ t, mg "MAX_COUNT" = some (.int 30 t)
  i_MAX_TURNS : ∃ t, mg "MAX_TURNS" = some (.int 99 t)
  s_DOWN : ∃ t, mg "DOWN" = some (.str "down" t)
  s_NEAR : ∃ t, mg "NEAR" = some (.str "near" t)
  s_UP : ∃ t, mg "UP" = some (.str "up" t)
  s_INSERT : ∃ t, mg "INSERT" = some (.str "insert" t)
  s_REMOVE : ∃ t, mg "REMOVE" = some (.str "remove" t)
  t_RULES : TupK K mg "RULES" ["down", "near", "up"]
  x_ScrollError : ExcK K mg "ScrollError"
  x_InvalidView : ExcK K mg "InvalidView"
  x_InvalidStep : ExcK K mg "InvalidStep"
  x_InvalidRow : ExcK K mg "InvalidRow"
  x_DifferentSteps : ExcK K mg "DifferentSteps"
  x_InvalidNumber : ExcK K mg "InvalidNumber"
  x_InvalidSize : ExcK K mg "InvalidSize"
  x_InvalidCells : ExcK K mg "InvalidCells"
  x_InvalidCell : ExcK K mg "InvalidCell"
  x_InvalidChange : ExcK K mg "InvalidChange"
  x_NothingToUndo : ExcK K mg "NothingToUndo"
  x_ParseError : ExcK K mg "ParseError"
  xc : ∀ c, exm_ScrollError c = some true → ExcC K (He.ga K c)
  mx_ScrollError : ∀ c b, exm_ScrollError c = some b → PySem.W.exmOne K (.ref (He.ga K c)) (.ref (He.ga K "ScrollError")) = some b
  mi_DifferentSteps : ∀ c, exm_ScrollError c = some true → PySem.W.kitOne K (.ref (He.ga K c)) (.ref (He.ga K "DifferentSteps")) = some (isa_DifferentSteps c)
  mi_InvalidCell : ∀ c, exm_ScrollError c = some true → PySem.W.kitOne K (.ref (He.ga K c)) (.ref (He.ga K "InvalidCell")) = some (isa_InvalidCell c)
  mi_InvalidCells : ∀ c, exm_ScrollError c = some true → PySem.W.kitOne K (.ref (He.ga K c)) (.ref (He.ga K "InvalidCells")) = some (isa_InvalidCells c)
  mi_InvalidChange : ∀ c, exm_ScrollError c = some true → PySem.W.kitOne K (.ref (He.ga K c)) (.ref (He.ga K "InvalidChange")) = some (isa_InvalidChange c)
  mi_InvalidNumber : ∀ c, exm_ScrollError c = some true → PySem.W.kitOne K (.ref (He.ga K c)) (.ref (He.ga K "InvalidNumber")) = some (isa_InvalidNumber c)
  mi_InvalidRow : ∀ c, exm_ScrollError c = some true → PySem.W.kitOne K (.ref (He.ga K c)) (.ref (He.ga K "InvalidRow")) = some (isa_InvalidRow c)
  mi_InvalidSize : ∀ c, exm_ScrollError c = some true → PySem.W.kitOne K (.ref (He.ga K c)) (.ref (He.ga K "InvalidSize")) = some (isa_InvalidSize c)
  mi_InvalidStep : ∀ c, exm_ScrollError c = some true → PySem.W.kitOne K (.ref (He.ga K c)) (.ref (He.ga K "InvalidStep")) = some (isa_InvalidStep c)
  mi_InvalidView : ∀ c, exm_ScrollError c = some true → PySem.W.kitOne K (.ref (He.ga K c)) (.ref (He.ga K "InvalidView")) = some (isa_InvalidView c)
  mi_NothingToUndo : ∀ c, exm_ScrollError c = some true → PySem.W.kitOne K (.ref (He.ga K c)) (.ref (He.ga K "NothingToUndo")) = some (isa_NothingToUndo c)
  mi_ParseError : ∀ c, exm_ScrollError c = some true → PySem.W.kitOne K (.ref (He.ga K c)) (.ref (He.ga K "ParseError")) = some (isa_ParseError c)
  cl_ScrolledView : Cls K (He.ga K "ScrolledView")
  na_state : NoAttr K (He.ga K "ScrolledView") "state"
  na_earlier : NoAttr K (He.ga K "ScrolledView") "earlier"
  na_later : NoAttr K (He.ga K "ScrolledView") "later"
  oo_ScrolledView : ObjK K "ScrolledView"
  mc_ScrolledView : mg "ScrolledView" = some (.ref (He.ga K "ScrolledView"))
  vE : mg "ValueError" = none
  mv : ∀ c, exm_ScrollError c = some true → PySem.W.kitOne K (.ref (He.ga K c)) (.type "ValueError") = some true
theorem nst_change : ("change" : PySem.Str) ∉ stN := by decide +kernel
theorem nst_copy : ("copy" : PySem.Str) ∉ stN := by decide +kernel
theorem nst_go : ("go" : PySem.Str) ∉ stN := by decide +kernel
theorem nst_move : ("move" : PySem.Str) ∉ stN := by decide +kernel
theorem nst_redo : ("redo" : PySem.Str) ∉ stN := by decide +kernel
theorem nst_show : ("show" : PySem.Str) ∉ stN := by decide +kernel
theorem nst_turn : ("turn" : PySem.Str) ∉ stN := by decide +kernel
theorem nst_undo : ("undo" : PySem.Str) ∉ stN := by decide +kernel
abbrev FnP (K : Fr) (x : Str) (st : Stmt) (fd : FuncData) : Prop := FunD K x x (defArgs st) (defBody st) (defScope st) [] [] (He.ga K x) fd
structure T_is_int (P : Program) (w : World) (K : Fr) (mg : Str → Option Value) (base : Heap) : Prop extends Tx P w K mg base where
set_option maxHeartbeats 4000000 in
theorem ok_is_int {P : Program} {w : World} {K : Fr} {mg : Str → Option Value} {base : Heap} {fd : FuncData} (T : T_is_int P w K mg base) (Fd : FnP K "is_int" s_is_int fd) : FnOk P w K mg base (L2.CX P w) 1 (He.ga K "is_int") fd ["value", "least", "most"] (spOf K 3 F_is_int) :=
  show FnOk P w K mg base (L2.CX P w) (0 + 1) (He.ga K "is_int") fd ["value", "least", "most"] (spOf K 3 (mkF 3 3 m_is_int)) from def_ok ["value", "least", "most"] ["value", "least", "most"] 0 3 3 m_is_int rfl rfl Fd sc_is_int fun cdv A outer s H E hr W tk hp =>
  (gs_one (gs_ret (g_and (g_isi kit_int bo_int T.bi.b_isinstance T.bi.b_int (g_var 0 rfl (Or.inl rfl))) (g_and (g_not (g_isi kit_bool bo_bool T.bi.b_isinstance T.bi.b_bool (g_var 0 rfl (Or.inl rfl)))) (g_one (g_chn op_le ok_le op_le ok_le (g_var 1 rfl (Or.inl rfl)) (g_var 0 rfl (Or.inl rfl)) (g_var 2 rfl (Or.inl rfl))))))))
structure T_is_view (P : Program) (w : World) (K : Fr) (mg : Str → Option Value) (base : Heap) : Prop extends Tx P w K mg base where
  d_is_int : DefK P w K mg base "is_int" 1 3 F_is_int
set_option maxHeartbeats 4000000 in
theorem ok_is_view {P : Program} {w : World} {K : Fr} {mg : Str → Option Value} {base : Heap} {fd : FuncData} (T : T_is_view P w K mg base) (Fd : FnP K "is_view" s_is_view fd) : FnOk P w K mg base (L2.CX P w) 2 (He.ga K "is_view") fd ["candidate"] (spOf K 1 F_is_view) :=
  show FnOk P w K mg base (L2.CX P w) (1 + 1) (He.ga K "is_view") fd ["candidate"] (spOf K 1 (mkF 1 5 m_is_view)) from def_ok ["candidate", "rows", "height", "steps", "rule"] ["candidate"] 1 1 5 m_is_view rfl rfl Fd sc_is_view fun cdv A outer s H E hr W tk hp =>
  (gs_cons (gs_if (PW.pt (gw_or (gt_not (gt_val (g_isi kit_tuple bo_tuple T.bi.b_isinstance T.bi.b_tuple (g_var 0 rfl (Or.inl rfl))))) (gw_or1 (gt_cmp (op_neD hr.units) ok_ne (g_callB call_len_seq ok_len T.bi.b_len bo_len (ga_cons (g_var 0 rfl (Or.inl rfl)) ga_nil)) g_int (nomark _))))) (gs_one (gs_ret g_bl)) gs_nil)
    (gs_cons (gs_asg (g_var 0 rfl (Or.inl rfl)) (pg_tup rfl (gpgs_cons (pg_name (i := 1) sc_is_view.nd rfl (Or.inl rfl)) (gpgs_cons (pg_name (i := 2) sc_is_view.nd rfl (Or.inl rfl)) (gpgs_cons (pg_name (i := 3) sc_is_view.nd rfl (Or.inl rfl)) (gpgs_cons (pg_name (i := 4) sc_is_view.nd rfl (Or.inl rfl)) gpgs_nil))))) (gok_tup (is := [1, 2, 3, 4]) rfl))
    (gs_cons (gs_if (PW.pt (gw_or (gt_not (gt_val (g_call T.d_is_int (hr.mono (by decide)) tk (ga_cons (g_var 1 rfl (Or.inl rfl)) (ga_cons g_int (ga_cons (g_glI T.i_MAX_ROWS) ga_nil)))))) (gw_or1 (gt_not (gt_val (g_call T.d_is_int (hr.mono (by decide)) tk (ga_cons (g_var 2 rfl (Or.inl rfl)) (ga_cons g_int (ga_cons (g_callB (call_min2 rfl) ok_min2 T.bi.b_min bo_min (ga_cons (g_var 1 rfl (Or.inl rfl)) (ga_cons (g_glI T.i_MAX_HEIGHT) ga_nil))) ga_nil))))))))) (gs_one (gs_ret g_bl)) gs_nil)
    (gs_cons (gs_if (gt_not (gt_val (g_call T.d_is_int (hr.mono (by decide)) tk (ga_cons (g_var 3 rfl (Or.inl rfl)) (ga_cons g_int (ga_cons (g_glI T.i_MAX_STEPS) ga_nil)))))) (gs_one (gs_ret g_bl)) gs_nil)
    (gs_one (gs_ret (g_and (g_isi kit_str bo_str T.bi.b_isinstance T.bi.b_str (g_var 4 rfl (Or.inl rfl))) (g_one (g_cmp op_in_seq ok_in (g_var 4 rfl (Or.inl rfl)) (g_glT T.t_RULES) rfl)))))))))
structure T_check_view (P : Program) (w : World) (K : Fr) (mg : Str → Option Value) (base : Heap) : Prop extends Tx P w K mg base where
  d_is_view : DefK P w K mg base "is_view" 2 1 F_is_view
set_option maxHeartbeats 4000000 in
theorem ok_check_view {P : Program} {w : World} {K : Fr} {mg : Str → Option Value} {base : Heap} {fd : FuncData} (T : T_check_view P w K mg base) (Fd : FnP K "check_view" s_check_view fd) : FnOk P w K mg base (L2.CX P w) 3 (He.ga K "check_view") fd ["value"] (spOf K 1 F_check_view) :=
  show FnOk P w K mg base (L2.CX P w) (2 + 1) (He.ga K "check_view") fd ["value"] (spOf K 1 (mkF 1 1 m_check_view)) from def_ok ["value"] ["value"] 2 1 1 m_check_view rfl rfl Fd sc_check_view fun cdv A outer s H E hr W tk hp =>
  (gs_one (gs_if (gt_not (gt_val (g_call T.d_is_view (hr.mono (by decide)) tk (ga_cons (g_var 0 rfl (Or.inl rfl)) ga_nil)))) (gs_one (gs_raise T.x_InvalidView rfl tk)) gs_nil))
structure T_check_step (P : Program) (w : World) (K : Fr) (mg : Str → Option Value) (base : Heap) : Prop extends Tx P w K mg base where
  d_is_int : DefK P w K mg base "is_int" 1 3 F_is_int
  d_check_view : DefK P w K mg base "check_view" 3 1 F_check_view
set_option maxHeartbeats 4000000 in
theorem ok_check_step {P : Program} {w : World} {K : Fr} {mg : Str → Option Value} {base : Heap} {fd : FuncData} (T : T_check_step P w K mg base) (Fd : FnP K "check_step" s_check_step fd) : FnOk P w K mg base (L2.CX P w) 4 (He.ga K "check_step") fd ["view", "value"] (spOf K 2 F_check_step) :=
  show FnOk P w K mg base (L2.CX P w) (3 + 1) (He.ga K "check_step") fd ["view", "value"] (spOf K 2 (mkF 2 2 m_check_step)) from def_ok ["view", "value"] ["view", "value"] 3 2 2 m_check_step rfl rfl Fd sc_check_step fun cdv A outer s H E hr W tk hp =>
  (gs_cons (gs_drop (g_call T.d_check_view (hr.mono (by decide)) tk (ga_cons (g_var 0 rfl (Or.inl rfl)) ga_nil)))
    (gs_one (gs_if (gt_not (gt_val (g_call T.d_is_int (hr.mono (by decide)) tk (ga_cons (g_var 1 rfl (Or.inl rfl)) (ga_cons g_int (ga_cons (g_ix ix_D ok_ix (g_var 0 rfl (Or.inl rfl)) g_int (fun _ _ => rfl)) ga_nil)))))) (gs_one (gs_raise T.x_InvalidStep rfl tk)) gs_nil)))
structure T_check_row (P : Program) (w : World) (K : Fr) (mg : Str → Option Value) (base : Heap) : Prop extends Tx P w K mg base where
  d_is_int : DefK P w K mg base "is_int" 1 3 F_is_int
set_option maxHeartbeats 4000000 in
theorem ok_check_row {P : Program} {w : World} {K : Fr} {mg : Str → Option Value} {base : Heap} {fd : FuncData} (T : T_check_row P w K mg base) (Fd : FnP K "check_row" s_check_row fd) : FnOk P w K mg base (L2.CX P w) 2 (He.ga K "check_row") fd ["value", "most"] (spOf K 2 F_check_row) :=
  show FnOk P w K mg base (L2.CX P w) (1 + 1) (He.ga K "check_row") fd ["value", "most"] (spOf K 2 (mkF 2 2 m_check_row)) from def_ok ["value", "most"] ["value", "most"] 1 2 2 m_check_row rfl rfl Fd sc_check_row fun cdv A outer s H E hr W tk hp =>
  (gs_one (gs_if (gt_not (gt_val (g_call T.d_is_int (hr.mono (by decide)) tk (ga_cons (g_var 0 rfl (Or.inl rfl)) (ga_cons g_int (ga_cons (g_var 1 rfl (Or.inl rfl)) ga_nil)))))) (gs_one (gs_raise T.x_InvalidRow rfl tk)) gs_nil))
structure T_rest_of (P : Program) (w : World) (K : Fr) (mg : Str → Option Value) (base : Heap) : Prop extends Tx P w K mg base where
set_option maxHeartbeats 4000000 in
theorem ok_rest_of {P : Program} {w : World} {K : Fr} {mg : Str → Option Value} {base : Heap} {fd : FuncData} (T : T_rest_of P w K mg base) (Fd : FnP K "rest_of" s_rest_of fd) : FnOk P w K mg base (L2.CX P w) 1 (He.ga K "rest_of") fd ["view"] (spOf K 1 F_rest_of) :=
  show FnOk P w K mg base (L2.CX P w) (0 + 1) (He.ga K "rest_of") fd ["view"] (spOf K 1 (mkF 1 1 m_rest_of)) from def_ok ["view"] ["view"] 0 1 1 m_rest_of rfl rfl Fd sc_rest_of fun cdv A outer s H E hr W tk hp =>
  (gs_one (gs_ret (g_bin op_sub ok_sub (g_ix ix_D ok_ix (g_var 0 rfl (Or.inl rfl)) g_int (fun _ _ => rfl)) (g_ix ix_D ok_ix (g_var 0 rfl (Or.inl rfl)) g_int (fun _ _ => rfl)))))
structure T_rounded (P : Program) (w : World) (K : Fr) (mg : Str → Option Value) (base : Heap) : Prop extends Tx P w K mg base where
set_option maxHeartbeats 4000000 in
theorem ok_rounded {P : Program} {w : World} {K : Fr} {mg : Str → Option Value} {base : Heap} {fd : FuncData} (T : T_rounded P w K mg base) (Fd : FnP K "rounded" s_rounded fd) : FnOk P w K mg base (L2.CX P w) 1 (He.ga K "rounded") fd ["above", "below", "rule"] (spOf K 3 F_rounded) :=
  show FnOk P w K mg base (L2.CX P w) (0 + 1) (He.ga K "rounded") fd ["above", "below", "rule"] (spOf K 3 (mkF 3 3 m_rounded)) from def_ok ["above", "below", "rule"] ["above", "below", "rule"] 0 3 3 m_rounded rfl rfl Fd sc_rounded fun cdv A outer s H E hr W tk hp =>
  (gs_cons (gs_if (gt_cmp (op_eqD hr.units) ok_eq (g_var 2 rfl (Or.inl rfl)) (g_glS T.s_DOWN) (nomark _)) (gs_one (gs_ret (g_bin op_fdivW ok_fdiv (g_var 0 rfl (Or.inl rfl)) (g_var 1 rfl (Or.inl rfl))))) gs_nil)
    (gs_one (gs_ret (g_if (gt_cmp (op_eqD hr.units) ok_eq (g_var 2 rfl (Or.inl rfl)) (g_glS T.s_UP) (nomark _)) (g_bin op_fdivW ok_fdiv (g_bin op_sub ok_sub (g_bin op_addD ok_add (g_var 0 rfl (Or.inl rfl)) (g_var 1 rfl (Or.inl rfl))) g_int) (g_var 1 rfl (Or.inl rfl))) (g_bin op_fdivW ok_fdiv (g_bin op_addD ok_add (g_bin op_mulD ok_mul g_int (g_var 0 rfl (Or.inl rfl))) (g_var 1 rfl (Or.inl rfl))) (g_bin op_mulD ok_mul g_int (g_var 1 rfl (Or.inl rfl))))))))
structure T_find_first (P : Program) (w : World) (K : Fr) (mg : Str → Option Value) (base : Heap) : Prop extends Tx P w K mg base where
  d_rest_of : DefK P w K mg base "rest_of" 1 1 F_rest_of
  d_rounded : DefK P w K mg base "rounded" 1 3 F_rounded
set_option maxHeartbeats 4000000 in
theorem ok_find_first {P : Program} {w : World} {K : Fr} {mg : Str → Option Value} {base : Heap} {fd : FuncData} (T : T_find_first P w K mg base) (Fd : FnP K "find_first" s_find_first fd) : FnOk P w K mg base (L2.CX P w) 2 (He.ga K "find_first") fd ["view", "step"] (spOf K 2 F_find_first) :=
  show FnOk P w K mg base (L2.CX P w) (1 + 1) (He.ga K "find_first") fd ["view", "step"] (spOf K 2 (mkF 2 2 m_find_first)) from def_ok ["view", "step"] ["view", "step"] 1 2 2 m_find_first rfl rfl Fd sc_find_first fun cdv A outer s H E hr W tk hp =>
  (gs_one (gs_ret (g_call T.d_rounded (hr.mono (by decide)) tk (ga_cons (g_bin op_mulD ok_mul (g_var 1 rfl (Or.inl rfl)) (g_call T.d_rest_of (hr.mono (by decide)) tk (ga_cons (g_var 0 rfl (Or.inl rfl)) ga_nil))) (ga_cons (g_ix ix_D ok_ix (g_var 0 rfl (Or.inl rfl)) g_int (fun _ _ => rfl)) (ga_cons (g_ix ix_D ok_ix (g_var 0 rfl (Or.inl rfl)) g_int (fun _ _ => rfl)) ga_nil))))))
structure T_find_changed (P : Program) (w : World) (K : Fr) (mg : Str → Option Value) (base : Heap) : Prop extends Tx P w K mg base where
set_option maxHeartbeats 4000000 in
theorem ok_find_changed {P : Program} {w : World} {K : Fr} {mg : Str → Option Value} {base : Heap} {fd : FuncData} (T : T_find_changed P w K mg base) (Fd : FnP K "find_changed" s_find_changed fd) : FnOk P w K mg base (L2.CX P w) 1 (He.ga K "find_changed") fd ["view", "change"] (spOf K 2 F_find_changed) :=
  show FnOk P w K mg base (L2.CX P w) (0 + 1) (He.ga K "find_changed") fd ["view", "change"] (spOf K 2 (mkF 2 6 m_find_changed)) from def_ok ["view", "change", "word", "place", "count", "rows"] ["view", "change"] 0 2 6 m_find_changed rfl rfl Fd sc_find_changed fun cdv A outer s H E hr W tk hp =>
  (gs_cons (gs_asg (g_var 1 rfl (Or.inl rfl)) (pg_tup rfl (gpgs_cons (pg_name (i := 2) sc_find_changed.nd rfl (Or.inl rfl)) (gpgs_cons (pg_name (i := 3) sc_find_changed.nd rfl (Or.inl rfl)) (gpgs_cons (pg_name (i := 4) sc_find_changed.nd rfl (Or.inl rfl)) gpgs_nil)))) (gok_tup (is := [2, 3, 4]) rfl))
    (gs_cons (gs_set (i := 5) sc_find_changed.nd rfl (Or.inl rfl) (g_if (gt_cmp (op_eqD hr.units) ok_eq (g_var 2 rfl (Or.inl rfl)) (g_glS T.s_INSERT) (nomark _)) (g_bin op_addD ok_add (g_ix ix_D ok_ix (g_var 0 rfl (Or.inl rfl)) g_int (fun _ _ => rfl)) (g_var 4 rfl (Or.inl rfl))) (g_bin op_sub ok_sub (g_ix ix_D ok_ix (g_var 0 rfl (Or.inl rfl)) g_int (fun _ _ => rfl)) (g_var 4 rfl (Or.inl rfl)))))
    (gs_one (gs_ret (g_bin op_addD ok_add (g_tup (ga_cons (g_var 5 rfl (Or.inl rfl)) ga_nil)) (g_sl (g_var 0 rfl (Or.inl rfl)) (go_some g_int) go_none))))))
structure T_has_change (P : Program) (w : World) (K : Fr) (mg : Str → Option Value) (base : Heap) : Prop extends Tx P w K mg base where
  d_is_int : DefK P w K mg base "is_int" 1 3 F_is_int
  d_is_view : DefK P w K mg base "is_view" 2 1 F_is_view
  d_find_changed : DefK P w K mg base "find_changed" 1 2 F_find_changed
set_option maxHeartbeats 4000000 in
theorem ok_has_change {P : Program} {w : World} {K : Fr} {mg : Str → Option Value} {base : Heap} {fd : FuncData} (T : T_has_change P w K mg base) (Fd : FnP K "has_change" s_has_change fd) : FnOk P w K mg base (L2.CX P w) 3 (He.ga K "has_change") fd ["view", "candidate"] (spOf K 2 F_has_change) :=
  show FnOk P w K mg base (L2.CX P w) (2 + 1) (He.ga K "has_change") fd ["view", "candidate"] (spOf K 2 (mkF 2 5 m_has_change)) from def_ok ["view", "candidate", "word", "place", "count"] ["view", "candidate"] 2 2 5 m_has_change rfl rfl Fd sc_has_change fun cdv A outer s H E hr W tk hp =>
  (gs_cons (gs_if (PW.pt (gw_or (gt_not (gt_val (g_isi kit_tuple bo_tuple T.bi.b_isinstance T.bi.b_tuple (g_var 1 rfl (Or.inl rfl))))) (gw_or (gt_cmp (op_neD hr.units) ok_ne (g_callB call_len_seq ok_len T.bi.b_len bo_len (ga_cons (g_var 1 rfl (Or.inl rfl)) ga_nil)) g_int (nomark _)) (gw_or1 (gt_not (gt_val (g_isi kit_str bo_str T.bi.b_isinstance T.bi.b_str (g_ix ix_D ok_ix (g_var 1 rfl (Or.inl rfl)) g_int (fun _ _ => rfl))))))))) (gs_one (gs_ret g_bl)) gs_nil)
    (gs_cons (gs_asg (g_var 1 rfl (Or.inl rfl)) (pg_tup rfl (gpgs_cons (pg_name (i := 2) sc_has_change.nd rfl (Or.inl rfl)) (gpgs_cons (pg_name (i := 3) sc_has_change.nd rfl (Or.inl rfl)) (gpgs_cons (pg_name (i := 4) sc_has_change.nd rfl (Or.inl rfl)) gpgs_nil)))) (gok_tup (is := [2, 3, 4]) rfl))
    (gs_cons (gs_if (PW.pt (gw_or (gt_cmp op_notIn_seq ok_in (g_var 2 rfl (Or.inl rfl)) (g_tup (ga_cons (g_glS T.s_INSERT) (ga_cons (g_glS T.s_REMOVE) ga_nil))) rfl) (gw_or1 (gt_not (gt_val (g_call T.d_is_int (hr.mono (by decide)) tk (ga_cons (g_var 4 rfl (Or.inl rfl)) (ga_cons g_int (ga_cons (g_glI T.i_MAX_COUNT) ga_nil))))))))) (gs_one (gs_ret g_bl)) gs_nil)
    (gs_cons (gs_if (gt_not (gt_val (g_call T.d_is_int (hr.mono (by decide)) tk (ga_cons (g_var 3 rfl (Or.inl rfl)) (ga_cons g_int (ga_cons (g_if (gt_cmp (op_eqD hr.units) ok_eq (g_var 2 rfl (Or.inl rfl)) (g_glS T.s_INSERT) (nomark _)) (g_ix ix_D ok_ix (g_var 0 rfl (Or.inl rfl)) g_int (fun _ _ => rfl)) (g_bin op_sub ok_sub (g_ix ix_D ok_ix (g_var 0 rfl (Or.inl rfl)) g_int (fun _ _ => rfl)) (g_var 4 rfl (Or.inl rfl)))) ga_nil)))))) (gs_one (gs_ret g_bl)) gs_nil)
    (gs_one (gs_ret (g_call T.d_is_view (hr.mono (by decide)) tk (ga_cons (g_call T.d_find_changed (hr.mono (by decide)) tk (ga_cons (g_var 0 rfl (Or.inl rfl)) (ga_cons (g_var 1 rfl (Or.inl rfl)) ga_nil))) ga_nil))))))))
structure T_check_change (P : Program) (w : World) (K : Fr) (mg : Str → Option Value) (base : Heap) : Prop extends Tx P w K mg base where
  d_has_change : DefK P w K mg base "has_change" 3 2 F_has_change
set_option maxHeartbeats 4000000 in
theorem ok_check_change {P : Program} {w : World} {K : Fr} {mg : Str → Option Value} {base : Heap} {fd : FuncData} (T : T_check_change P w K mg base) (Fd : FnP K "check_change" s_check_change fd) : FnOk P w K mg base (L2.CX P w) 4 (He.ga K "check_change") fd ["view", "change"] (spOf K 2 F_check_change) :=
  show FnOk P w K mg base (L2.CX P w) (3 + 1) (He.ga K "check_change") fd ["view", "change"] (spOf K 2 (mkF 2 2 m_check_change)) from def_ok ["view", "change"] ["view", "change"] 3 2 2 m_check_change rfl rfl Fd sc_check_change fun cdv A outer s H E hr W tk hp =>
  (gs_one (gs_if (gt_not (gt_val (g_call T.d_has_change (hr.mono (by decide)) tk (ga_cons (g_var 0 rfl (Or.inl rfl)) (ga_cons (g_var 1 rfl (Or.inl rfl)) ga_nil))))) (gs_one (gs_raise T.x_InvalidChange rfl tk)) gs_nil))
structure T_find_kept (P : Program) (w : World) (K : Fr) (mg : Str → Option Value) (base : Heap) : Prop extends Tx P w K mg base where
  d_rest_of : DefK P w K mg base "rest_of" 1 1 F_rest_of
  d_find_changed : DefK P w K mg base "find_changed" 1 2 F_find_changed
set_option maxHeartbeats 4000000 in
theorem ok_find_kept {P : Program} {w : World} {K : Fr} {mg : Str → Option Value} {base : Heap} {fd : FuncData} (T : T_find_kept P w K mg base) (Fd : FnP K "find_kept" s_find_kept fd) : FnOk P w K mg base (L2.CX P w) 2 (He.ga K "find_kept") fd ["view", "row", "change"] (spOf K 3 F_find_kept) :=
  show FnOk P w K mg base (L2.CX P w) (1 + 1) (He.ga K "find_kept") fd ["view", "row", "change"] (spOf K 3 (mkF 3 7 m_find_kept)) from def_ok ["view", "row", "change", "word", "place", "count", "found"] ["view", "row", "change"] 1 3 7 m_find_kept rfl rfl Fd sc_find_kept fun cdv A outer s H E hr W tk hp =>
  (gs_cons (gs_asg (g_var 2 rfl (Or.inl rfl)) (pg_tup rfl (gpgs_cons (pg_name (i := 3) sc_find_kept.nd rfl (Or.inl rfl)) (gpgs_cons (pg_name (i := 4) sc_find_kept.nd rfl (Or.inl rfl)) (gpgs_cons (pg_name (i := 5) sc_find_kept.nd rfl (Or.inl rfl)) gpgs_nil)))) (gok_tup (is := [3, 4, 5]) rfl))
    (gs_cons (gs_if (gt_cmp (op_eqD hr.units) ok_eq (g_var 3 rfl (Or.inl rfl)) (g_glS T.s_INSERT) (nomark _)) (gs_one (gs_set (i := 6) sc_find_kept.nd rfl (Or.inl rfl) (g_if (gt_cmp op_le ok_le (g_var 4 rfl (Or.inl rfl)) (g_var 1 rfl (Or.inl rfl)) (nomark _)) (g_bin op_addD ok_add (g_var 1 rfl (Or.inl rfl)) (g_var 5 rfl (Or.inl rfl))) (g_var 1 rfl (Or.inl rfl))))) (gs_one (gs_set (i := 6) sc_find_kept.nd rfl (Or.inl rfl) (g_bin op_sub ok_sub (g_var 1 rfl (Or.inl rfl)) (g_callB (call_max2 rfl) ok_max2 T.bi.b_max bo_max (ga_cons g_int (ga_cons (g_callB (call_min2 rfl) ok_min2 T.bi.b_min bo_min (ga_cons (g_var 5 rfl (Or.inl rfl)) (ga_cons (g_bin op_sub ok_sub (g_var 1 rfl (Or.inl rfl)) (g_var 4 rfl (Or.inl rfl))) ga_nil))) ga_nil)))))))
    (gs_one (gs_ret (g_callB (call_min2 rfl) ok_min2 T.bi.b_min bo_min (ga_cons (g_var 6 rfl (Or.inl rfl)) (ga_cons (g_call T.d_rest_of (hr.mono (by decide)) tk (ga_cons (g_call T.d_find_changed (hr.mono (by decide)) tk (ga_cons (g_var 0 rfl (Or.inl rfl)) (ga_cons (g_var 2 rfl (Or.inl rfl)) ga_nil))) ga_nil)) ga_nil)))))))
structure T_check_size (P : Program) (w : World) (K : Fr) (mg : Str → Option Value) (base : Heap) : Prop extends Tx P w K mg base where
  d_is_int : DefK P w K mg base "is_int" 1 3 F_is_int
set_option maxHeartbeats 4000000 in
theorem ok_check_size {P : Program} {w : World} {K : Fr} {mg : Str → Option Value} {base : Heap} {fd : FuncData} (T : T_check_size P w K mg base) (Fd : FnP K "check_size" s_check_size fd) : FnOk P w K mg base (L2.CX P w) 2 (He.ga K "check_size") fd ["view", "value"] (spOf K 2 F_check_size) :=
  show FnOk P w K mg base (L2.CX P w) (1 + 1) (He.ga K "check_size") fd ["view", "value"] (spOf K 2 (mkF 2 2 m_check_size)) from def_ok ["view", "value"] ["view", "value"] 1 2 2 m_check_size rfl rfl Fd sc_check_size fun cdv A outer s H E hr W tk hp =>
  (gs_one (gs_if (gt_not (gt_val (g_call T.d_is_int (hr.mono (by decide)) tk (ga_cons (g_var 1 rfl (Or.inl rfl)) (ga_cons g_int (ga_cons (g_ix ix_D ok_ix (g_var 0 rfl (Or.inl rfl)) g_int (fun _ _ => rfl)) ga_nil)))))) (gs_one (gs_raise T.x_InvalidSize rfl tk)) gs_nil))
structure T_bounded (P : Program) (w : World) (K : Fr) (mg : Str → Option Value) (base : Heap) : Prop extends Tx P w K mg base where
  d_rest_of : DefK P w K mg base "rest_of" 1 1 F_rest_of
set_option maxHeartbeats 4000000 in
theorem ok_bounded {P : Program} {w : World} {K : Fr} {mg : Str → Option Value} {base : Heap} {fd : FuncData} (T : T_bounded P w K mg base) (Fd : FnP K "bounded" s_bounded fd) : FnOk P w K mg base (L2.CX P w) 2 (He.ga K "bounded") fd ["view", "row"] (spOf K 2 F_bounded) :=
  show FnOk P w K mg base (L2.CX P w) (1 + 1) (He.ga K "bounded") fd ["view", "row"] (spOf K 2 (mkF 2 2 m_bounded)) from def_ok ["view", "row"] ["view", "row"] 1 2 2 m_bounded rfl rfl Fd sc_bounded fun cdv A outer s H E hr W tk hp =>
  (gs_one (gs_ret (g_callB (call_max2 rfl) ok_max2 T.bi.b_max bo_max (ga_cons g_int (ga_cons (g_callB (call_min2 rfl) ok_min2 T.bi.b_min bo_min (ga_cons (g_var 1 rfl (Or.inl rfl)) (ga_cons (g_call T.d_rest_of (hr.mono (by decide)) tk (ga_cons (g_var 0 rfl (Or.inl rfl)) ga_nil)) ga_nil))) ga_nil)))))
structure T_ScrolledView (P : Program) (w : World) (K : Fr) (mg : Str → Option Value) (base : Heap) : Prop extends Tx P w K mg base where
  d_check_view : DefK P w K mg base "check_view" 3 1 F_check_view
set_option maxHeartbeats 4000000 in
theorem ok_ScrolledView {P : Program} {w : World} {K : Fr} {mg : Str → Option Value} {base : Heap} {fd : FuncData} (T : T_ScrolledView P w K mg base) (Fd : FunD K "__init__" "ScrolledView.__init__" (defArgs s_ScrolledView) (defBody s_ScrolledView) (defScope s_ScrolledView) [] [] (He.fAd K ("ScrolledView", some "__init__")) fd) : FnOk P w K mg base (L2.CX P w) 4 (He.fAd K ("ScrolledView", some "__init__")) fd ["self", "view"] (spNew K "ScrolledView" F_check_view) :=
  init_ok T.cl_ScrolledView T.na_state T.na_earlier T.na_later Fd sc_ScrolledView fun cdv A outer s H E hr W tk => (pss_cons (gs_drop (g_call T.d_check_view (hr.mono (by decide)) tk (ga_cons (g_var 1 rfl (Or.inl rfl)) ga_nil))) (pss_cons (ps_fld (pe_var (i := 0) rfl (Or.inl rfl)) (pe_tup (pa_cons (pe_var (i := 1) rfl (Or.inl rfl)) (pa_cons pe_int pa_nil rfl) rfl)) rfl) (pss_cons (ps_fld (pe_var (i := 0) rfl (Or.inl rfl)) (pe_lst pa_nil) rfl) (pss_one (ps_fld (pe_var (i := 0) rfl (Or.inl rfl)) (pe_lst pa_nil) rfl)))))
structure T_ScrolledView_view (P : Program) (w : World) (K : Fr) (mg : Str → Option Value) (base : Heap) : Prop extends Tx P w K mg base where
set_option maxHeartbeats 4000000 in
theorem ok_ScrolledView_view {P : Program} {w : World} {K : Fr} {mg : Str → Option Value} {base : Heap} {fd : FuncData} (T : T_ScrolledView_view P w K mg base) (Fd : FunD K "view" "ScrolledView.view" (defArgs s_ScrolledView_view) (defBody s_ScrolledView_view) (defScope s_ScrolledView_view) [] [] (He.fAd K ("ScrolledView", some "view")) fd) : FnOk P w K mg base (L2.CX P w) 1 (He.fAd K ("ScrolledView", some "view")) fd ["self"] (spOf K 1 F_ScrolledView_view) :=
  show FnOk P w K mg base (L2.CX P w) (0 + 1) (He.fAd K ("ScrolledView", some "view")) fd ["self"] (spOf K 1 (mkF 1 1 m_ScrolledView_view)) from def_ok ["self"] ["self"] 0 1 1 m_ScrolledView_view rfl rfl Fd sc_ScrolledView_view fun cdv A outer s H E hr W tk hp =>
  (gs_one (gs_ret (g_ix ix_D ok_ix (g_attr T.cl_ScrolledView T.na_state (g_var 0 rfl (Or.inl rfl))) g_int (fun _ _ => rfl))))
structure T_ScrolledView_first (P : Program) (w : World) (K : Fr) (mg : Str → Option Value) (base : Heap) : Prop extends Tx P w K mg base where
set_option maxHeartbeats 4000000 in
theorem ok_ScrolledView_first {P : Program} {w : World} {K : Fr} {mg : Str → Option Value} {base : Heap} {fd : FuncData} (T : T_ScrolledView_first P w K mg base) (Fd : FunD K "first" "ScrolledView.first" (defArgs s_ScrolledView_first) (defBody s_ScrolledView_first) (defScope s_ScrolledView_first) [] [] (He.fAd K ("ScrolledView", some "first")) fd) : FnOk P w K mg base (L2.CX P w) 1 (He.fAd K ("ScrolledView", some "first")) fd ["self"] (spOf K 1 F_ScrolledView_first) :=
  show FnOk P w K mg base (L2.CX P w) (0 + 1) (He.fAd K ("ScrolledView", some "first")) fd ["self"] (spOf K 1 (mkF 1 1 m_ScrolledView_first)) from def_ok ["self"] ["self"] 0 1 1 m_ScrolledView_first rfl rfl Fd sc_ScrolledView_first fun cdv A outer s H E hr W tk hp =>
  (gs_one (gs_ret (g_ix ix_D ok_ix (g_attr T.cl_ScrolledView T.na_state (g_var 0 rfl (Or.inl rfl))) g_int (fun _ _ => rfl))))
structure T_ScrolledView_seen (P : Program) (w : World) (K : Fr) (mg : Str → Option Value) (base : Heap) : Prop extends Tx P w K mg base where
set_option maxHeartbeats 4000000 in
theorem ok_ScrolledView_seen {P : Program} {w : World} {K : Fr} {mg : Str → Option Value} {base : Heap} {fd : FuncData} (T : T_ScrolledView_seen P w K mg base) (Fd : FunD K "seen" "ScrolledView.seen" (defArgs s_ScrolledView_seen) (defBody s_ScrolledView_seen) (defScope s_ScrolledView_seen) [] [] (He.fAd K ("ScrolledView", some "seen")) fd) : FnOk P w K mg base (L2.CX P w) 1 (He.fAd K ("ScrolledView", some "seen")) fd ["self"] (spOf K 1 F_ScrolledView_seen) :=
  show FnOk P w K mg base (L2.CX P w) (0 + 1) (He.fAd K ("ScrolledView", some "seen")) fd ["self"] (spOf K 1 (mkF 1 3 m_ScrolledView_seen)) from def_ok ["self", "known", "row"] ["self"] 0 1 3 m_ScrolledView_seen rfl rfl Fd sc_ScrolledView_seen fun cdv A outer s H E hr W tk hp =>
  (gs_cons (gs_asg (g_attr T.cl_ScrolledView T.na_state (g_var 0 rfl (Or.inl rfl))) (pg_tup rfl (gpgs_cons (pg_name (i := 1) sc_ScrolledView_seen.nd rfl (Or.inl rfl)) (gpgs_cons (pg_name (i := 2) sc_ScrolledView_seen.nd rfl (Or.inl rfl)) gpgs_nil))) (gok_tup (is := [1, 2]) rfl))
    (gs_one (gs_ret (g_lrg2 rfl T.bi.b_list T.bi.b_range (g_var 2 rfl (Or.inl rfl)) (g_bin op_addD ok_add (g_var 2 rfl (Or.inl rfl)) (g_ix ix_D ok_ix (g_var 1 rfl (Or.inl rfl)) g_int (fun _ _ => rfl)))))))
structure T_ScrolledView_move (P : Program) (w : World) (K : Fr) (mg : Str → Option Value) (base : Heap) : Prop extends Tx P w K mg base where
set_option maxHeartbeats 4000000 in
theorem ok_ScrolledView_move {P : Program} {w : World} {K : Fr} {mg : Str → Option Value} {base : Heap} {fd : FuncData} (T : T_ScrolledView_move P w K mg base) (Fd : FunD K "move" "ScrolledView.move" (defArgs s_ScrolledView_move) (defBody s_ScrolledView_move) (defScope s_ScrolledView_move) [] [] (He.fAd K ("ScrolledView", some "move")) fd) : FnOk P w K mg base (L2.CX P w) 1 (He.fAd K ("ScrolledView", some "move")) fd ["self", "known", "row"] (spM K "ScrolledView" 2 M_ScrolledView_move) :=
  show FnOk P w K mg base (L2.CX P w) (0 + 1) (He.fAd K ("ScrolledView", some "move")) fd ["self", "known", "row"] (spM K "ScrolledView" 2 (mkM 2 3 m_ScrolledView_move)) from def_okO ["self", "known", "row"] ["self", "known", "row"] 0 2 3 m_ScrolledView_move rfl rfl (by decide) Fd sc_ScrolledView_move fun cdv A outer s H E hr W tk hp x =>
  (gso_cons (gso_pure (gs_obAppE (i := 0) ⟨T.cl_ScrolledView, T.na_state, T.na_earlier, T.na_later⟩ rfl (Or.inl rfl)))
    (gso_cons (gso_pure (gs_obNilL (i := 0) ⟨T.cl_ScrolledView, T.na_state, T.na_earlier, T.na_later⟩ rfl (Or.inl rfl)))
    (gso_cons (gso_pure (gs_obSt (i := 0) ⟨T.cl_ScrolledView, T.na_state, T.na_earlier, T.na_later⟩ rfl (Or.inl rfl) (g_tup (ga_cons (g_var 1 rfl (Or.inl rfl)) (ga_cons (g_var 2 rfl (Or.inl rfl)) ga_nil)))))
    (gso_one (gso_ret (g_var 2 rfl (Or.inl rfl)))))))
structure T_ScrolledView_go (P : Program) (w : World) (K : Fr) (mg : Str → Option Value) (base : Heap) : Prop extends Tx P w K mg base where
  d_check_step : DefK P w K mg base "check_step" 4 2 F_check_step
  d_find_first : DefK P w K mg base "find_first" 2 2 F_find_first
  d_ScrolledView_move : MetO P w K mg base "ScrolledView" "move" 1 2 M_ScrolledView_move
set_option maxHeartbeats 4000000 in
theorem ok_ScrolledView_go {P : Program} {w : World} {K : Fr} {mg : Str → Option Value} {base : Heap} {fd : FuncData} (T : T_ScrolledView_go P w K mg base) (Fd : FunD K "go" "ScrolledView.go" (defArgs s_ScrolledView_go) (defBody s_ScrolledView_go) (defScope s_ScrolledView_go) [] [] (He.fAd K ("ScrolledView", some "go")) fd) : FnOk P w K mg base (L2.CX P w) 5 (He.fAd K ("ScrolledView", some "go")) fd ["self", "step"] (spM K "ScrolledView" 1 M_ScrolledView_go) :=
  show FnOk P w K mg base (L2.CX P w) (4 + 1) (He.fAd K ("ScrolledView", some "go")) fd ["self", "step"] (spM K "ScrolledView" 1 (mkM 1 3 m_ScrolledView_go)) from def_okO ["self", "step", "known"] ["self", "step"] 4 1 3 m_ScrolledView_go rfl rfl (by decide) Fd sc_ScrolledView_go fun cdv A outer s H E hr W tk hp x =>
  (gso_cons (gso_pure (gs_set (i := 2) sc_ScrolledView_go.nd rfl (Or.inl rfl) (g_ix ix_D ok_ix (g_obS (i := 0) ⟨T.cl_ScrolledView, T.na_state, T.na_earlier, T.na_later⟩ rfl (Or.inl rfl)) g_int (fun _ _ => rfl))))
    (gso_cons (gso_pure (gs_drop (g_call T.d_check_step (hr.mono (by decide)) tk (ga_cons (g_var 2 rfl (Or.inl rfl)) (ga_cons (g_var 1 rfl (Or.inl rfl)) ga_nil)))))
    (gso_one (gso_retO (g_methO (i := 0) T.d_ScrolledView_move nst_move (hr.mono (by decide)) tk rfl (Or.inl rfl) (ga_cons (g_var 2 rfl (Or.inl rfl)) (ga_cons (g_call T.d_find_first (hr.mono (by decide)) tk (ga_cons (g_var 2 rfl (Or.inl rfl)) (ga_cons (g_var 1 rfl (Or.inl rfl)) ga_nil))) ga_nil)))))))
structure T_ScrolledView_turn (P : Program) (w : World) (K : Fr) (mg : Str → Option Value) (base : Heap) : Prop extends Tx P w K mg base where
  d_is_int : DefK P w K mg base "is_int" 1 3 F_is_int
  d_check_size : DefK P w K mg base "check_size" 2 2 F_check_size
  d_bounded : DefK P w K mg base "bounded" 2 2 F_bounded
  d_ScrolledView_move : MetO P w K mg base "ScrolledView" "move" 1 2 M_ScrolledView_move
set_option maxHeartbeats 4000000 in
theorem ok_ScrolledView_turn {P : Program} {w : World} {K : Fr} {mg : Str → Option Value} {base : Heap} {fd : FuncData} (T : T_ScrolledView_turn P w K mg base) (Fd : FunD K "turn" "ScrolledView.turn" (defArgs s_ScrolledView_turn) (defBody s_ScrolledView_turn) (defScope s_ScrolledView_turn) [] [] (He.fAd K ("ScrolledView", some "turn")) fd) : FnOk P w K mg base (L2.CX P w) 3 (He.fAd K ("ScrolledView", some "turn")) fd ["self", "size", "turns"] (spM K "ScrolledView" 2 M_ScrolledView_turn) :=
  show FnOk P w K mg base (L2.CX P w) (2 + 1) (He.fAd K ("ScrolledView", some "turn")) fd ["self", "size", "turns"] (spM K "ScrolledView" 2 (mkM 2 5 m_ScrolledView_turn)) from def_okO ["self", "size", "turns", "known", "row"] ["self", "size", "turns"] 2 2 5 m_ScrolledView_turn rfl rfl (by decide) Fd sc_ScrolledView_turn fun cdv A outer s H E hr W tk hp x =>
  (gso_cons (gso_pure (gs_asg (g_obS (i := 0) ⟨T.cl_ScrolledView, T.na_state, T.na_earlier, T.na_later⟩ rfl (Or.inl rfl)) (pg_tup rfl (gpgs_cons (pg_name (i := 3) sc_ScrolledView_turn.nd rfl (Or.inl rfl)) (gpgs_cons (pg_name (i := 4) sc_ScrolledView_turn.nd rfl (Or.inl rfl)) gpgs_nil))) (gok_tup (is := [3, 4]) rfl)))
    (gso_cons (gso_pure (gs_drop (g_call T.d_check_size (hr.mono (by decide)) tk (ga_cons (g_var 3 rfl (Or.inl rfl)) (ga_cons (g_var 1 rfl (Or.inl rfl)) ga_nil)))))
    (gso_cons (gso_pure (gs_if (gt_not (gt_val (g_call T.d_is_int (hr.mono (by decide)) tk (ga_cons (g_var 2 rfl (Or.inl rfl)) (ga_cons (g_bin op_sub ok_sub g_int (g_glI T.i_MAX_TURNS)) (ga_cons (g_glI T.i_MAX_TURNS) ga_nil)))))) (gs_one (gs_raise T.x_InvalidNumber rfl tk)) gs_nil))
    (gso_one (gso_retO (g_methO (i := 0) T.d_ScrolledView_move nst_move (hr.mono (by decide)) tk rfl (Or.inl rfl) (ga_cons (g_var 3 rfl (Or.inl rfl)) (ga_cons (g_call T.d_bounded (hr.mono (by decide)) tk (ga_cons (g_var 3 rfl (Or.inl rfl)) (ga_cons (g_bin op_addD ok_add (g_var 4 rfl (Or.inl rfl)) (g_bin op_mulD ok_mul (g_var 1 rfl (Or.inl rfl)) (g_var 2 rfl (Or.inl rfl)))) ga_nil))) ga_nil))))))))
structure T_ScrolledView_show (P : Program) (w : World) (K : Fr) (mg : Str → Option Value) (base : Heap) : Prop extends Tx P w K mg base where
  d_check_row : DefK P w K mg base "check_row" 2 2 F_check_row
  d_bounded : DefK P w K mg base "bounded" 2 2 F_bounded
  d_ScrolledView_move : MetO P w K mg base "ScrolledView" "move" 1 2 M_ScrolledView_move
set_option maxHeartbeats 4000000 in
theorem ok_ScrolledView_show {P : Program} {w : World} {K : Fr} {mg : Str → Option Value} {base : Heap} {fd : FuncData} (T : T_ScrolledView_show P w K mg base) (Fd : FunD K "show" "ScrolledView.show" (defArgs s_ScrolledView_show) (defBody s_ScrolledView_show) (defScope s_ScrolledView_show) [] [] (He.fAd K ("ScrolledView", some "show")) fd) : FnOk P w K mg base (L2.CX P w) 3 (He.fAd K ("ScrolledView", some "show")) fd ["self", "row"] (spM K "ScrolledView" 1 M_ScrolledView_show) :=
  show FnOk P w K mg base (L2.CX P w) (2 + 1) (He.fAd K ("ScrolledView", some "show")) fd ["self", "row"] (spM K "ScrolledView" 1 (mkM 1 4 m_ScrolledView_show)) from def_okO ["self", "row", "known", "current"] ["self", "row"] 2 1 4 m_ScrolledView_show rfl rfl (by decide) Fd sc_ScrolledView_show fun cdv A outer s H E hr W tk hp x =>
  (gso_cons (gso_pure (gs_asg (g_obS (i := 0) ⟨T.cl_ScrolledView, T.na_state, T.na_earlier, T.na_later⟩ rfl (Or.inl rfl)) (pg_tup rfl (gpgs_cons (pg_name (i := 2) sc_ScrolledView_show.nd rfl (Or.inl rfl)) (gpgs_cons (pg_name (i := 3) sc_ScrolledView_show.nd rfl (Or.inl rfl)) gpgs_nil))) (gok_tup (is := [2, 3]) rfl)))
    (gso_cons (gso_pure (gs_drop (g_call T.d_check_row (hr.mono (by decide)) tk (ga_cons (g_var 1 rfl (Or.inl rfl)) (ga_cons (g_bin op_sub ok_sub (g_ix ix_D ok_ix (g_var 2 rfl (Or.inl rfl)) g_int (fun _ _ => rfl)) g_int) ga_nil)))))
    (gso_one (gso_retO (g_methO (i := 0) T.d_ScrolledView_move nst_move (hr.mono (by decide)) tk rfl (Or.inl rfl) (ga_cons (g_var 2 rfl (Or.inl rfl)) (ga_cons (g_call T.d_bounded (hr.mono (by decide)) tk (ga_cons (g_var 2 rfl (Or.inl rfl)) (ga_cons (g_callB (call_max2 rfl) ok_max2 T.bi.b_max bo_max (ga_cons (g_bin op_addD ok_add (g_bin op_sub ok_sub (g_var 1 rfl (Or.inl rfl)) (g_ix ix_D ok_ix (g_var 2 rfl (Or.inl rfl)) g_int (fun _ _ => rfl))) g_int) (ga_cons (g_callB (call_min2 rfl) ok_min2 T.bi.b_min bo_min (ga_cons (g_var 1 rfl (Or.inl rfl)) (ga_cons (g_var 3 rfl (Or.inl rfl)) ga_nil))) ga_nil))) ga_nil))) ga_nil)))))))
structure T_ScrolledView_change (P : Program) (w : World) (K : Fr) (mg : Str → Option Value) (base : Heap) : Prop extends Tx P w K mg base where
  d_find_changed : DefK P w K mg base "find_changed" 1 2 F_find_changed
  d_check_change : DefK P w K mg base "check_change" 4 2 F_check_change
  d_find_kept : DefK P w K mg base "find_kept" 2 3 F_find_kept
  d_ScrolledView_move : MetO P w K mg base "ScrolledView" "move" 1 2 M_ScrolledView_move
set_option maxHeartbeats 4000000 in
theorem ok_ScrolledView_change {P : Program} {w : World} {K : Fr} {mg : Str → Option Value} {base : Heap} {fd : FuncData} (T : T_ScrolledView_change P w K mg base) (Fd : FunD K "change" "ScrolledView.change" (defArgs s_ScrolledView_change) (defBody s_ScrolledView_change) (defScope s_ScrolledView_change) [] [] (He.fAd K ("ScrolledView", some "change")) fd) : FnOk P w K mg base (L2.CX P w) 5 (He.fAd K ("ScrolledView", some "change")) fd ["self", "some"] (spM K "ScrolledView" 1 M_ScrolledView_change) :=
  show FnOk P w K mg base (L2.CX P w) (4 + 1) (He.fAd K ("ScrolledView", some "change")) fd ["self", "some"] (spM K "ScrolledView" 1 (mkM 1 4 m_ScrolledView_change)) from def_okO ["self", "some", "known", "row"] ["self", "some"] 4 1 4 m_ScrolledView_change rfl rfl (by decide) Fd sc_ScrolledView_change fun cdv A outer s H E hr W tk hp x =>
  (gso_cons (gso_pure (gs_asg (g_obS (i := 0) ⟨T.cl_ScrolledView, T.na_state, T.na_earlier, T.na_later⟩ rfl (Or.inl rfl)) (pg_tup rfl (gpgs_cons (pg_name (i := 2) sc_ScrolledView_change.nd rfl (Or.inl rfl)) (gpgs_cons (pg_name (i := 3) sc_ScrolledView_change.nd rfl (Or.inl rfl)) gpgs_nil))) (gok_tup (is := [2, 3]) rfl)))
    (gso_cons (gso_pure (gs_drop (g_call T.d_check_change (hr.mono (by decide)) tk (ga_cons (g_var 2 rfl (Or.inl rfl)) (ga_cons (g_var 1 rfl (Or.inl rfl)) ga_nil)))))
    (gso_one (gso_retO (g_methO (i := 0) T.d_ScrolledView_move nst_move (hr.mono (by decide)) tk rfl (Or.inl rfl) (ga_cons (g_call T.d_find_changed (hr.mono (by decide)) tk (ga_cons (g_var 2 rfl (Or.inl rfl)) (ga_cons (g_var 1 rfl (Or.inl rfl)) ga_nil))) (ga_cons (g_call T.d_find_kept (hr.mono (by decide)) tk (ga_cons (g_var 2 rfl (Or.inl rfl)) (ga_cons (g_var 3 rfl (Or.inl rfl)) (ga_cons (g_var 1 rfl (Or.inl rfl)) ga_nil)))) ga_nil)))))))
structure T_ScrolledView_undo (P : Program) (w : World) (K : Fr) (mg : Str → Option Value) (base : Heap) : Prop extends Tx P w K mg base where
set_option maxHeartbeats 4000000 in
theorem ok_ScrolledView_undo {P : Program} {w : World} {K : Fr} {mg : Str → Option Value} {base : Heap} {fd : FuncData} (T : T_ScrolledView_undo P w K mg base) (Fd : FunD K "undo" "ScrolledView.undo" (defArgs s_ScrolledView_undo) (defBody s_ScrolledView_undo) (defScope s_ScrolledView_undo) [] [] (He.fAd K ("ScrolledView", some "undo")) fd) : FnOk P w K mg base (L2.CX P w) 1 (He.fAd K ("ScrolledView", some "undo")) fd ["self"] (spM K "ScrolledView" 0 M_ScrolledView_undo) :=
  show FnOk P w K mg base (L2.CX P w) (0 + 1) (He.fAd K ("ScrolledView", some "undo")) fd ["self"] (spM K "ScrolledView" 0 (mkM 0 1 m_ScrolledView_undo)) from def_okO ["self"] ["self"] 0 0 1 m_ScrolledView_undo rfl rfl (by decide) Fd sc_ScrolledView_undo fun cdv A outer s H E hr W tk hp x =>
  (gso_cons (gso_pure (gs_if (gt_cmp (op_eqD hr.units) ok_eq (g_attr T.cl_ScrolledView T.na_earlier (g_var 0 rfl (Or.inl rfl))) (g_lst ga_nil) (nomark _)) (gs_one (gs_raise T.x_NothingToUndo rfl tk)) gs_nil))
    (gso_cons (gso_pure (gs_obAppL (i := 0) ⟨T.cl_ScrolledView, T.na_state, T.na_earlier, T.na_later⟩ rfl (Or.inl rfl)))
    (gso_one (gso_pure (gs_obPopE (i := 0) ⟨T.cl_ScrolledView, T.na_state, T.na_earlier, T.na_later⟩ rfl (Or.inl rfl))))))
structure T_ScrolledView_redo (P : Program) (w : World) (K : Fr) (mg : Str → Option Value) (base : Heap) : Prop extends Tx P w K mg base where
set_option maxHeartbeats 4000000 in
theorem ok_ScrolledView_redo {P : Program} {w : World} {K : Fr} {mg : Str → Option Value} {base : Heap} {fd : FuncData} (T : T_ScrolledView_redo P w K mg base) (Fd : FunD K "redo" "ScrolledView.redo" (defArgs s_ScrolledView_redo) (defBody s_ScrolledView_redo) (defScope s_ScrolledView_redo) [] [] (He.fAd K ("ScrolledView", some "redo")) fd) : FnOk P w K mg base (L2.CX P w) 1 (He.fAd K ("ScrolledView", some "redo")) fd ["self"] (spM K "ScrolledView" 0 M_ScrolledView_redo) :=
  show FnOk P w K mg base (L2.CX P w) (0 + 1) (He.fAd K ("ScrolledView", some "redo")) fd ["self"] (spM K "ScrolledView" 0 (mkM 0 1 m_ScrolledView_redo)) from def_okO ["self"] ["self"] 0 0 1 m_ScrolledView_redo rfl rfl (by decide) Fd sc_ScrolledView_redo fun cdv A outer s H E hr W tk hp x =>
  (gso_cons (gso_pure (gs_if (gt_cmp (op_eqD hr.units) ok_eq (g_attr T.cl_ScrolledView T.na_later (g_var 0 rfl (Or.inl rfl))) (g_lst ga_nil) (nomark _)) (gs_one (gs_raise T.x_NothingToUndo rfl tk)) gs_nil))
    (gso_cons (gso_pure (gs_obAppE (i := 0) ⟨T.cl_ScrolledView, T.na_state, T.na_earlier, T.na_later⟩ rfl (Or.inl rfl)))
    (gso_one (gso_pure (gs_obPopL (i := 0) ⟨T.cl_ScrolledView, T.na_state, T.na_earlier, T.na_later⟩ rfl (Or.inl rfl))))))
structure T_ScrolledView_copy (P : Program) (w : World) (K : Fr) (mg : Str → Option Value) (base : Heap) : Prop extends Tx P w K mg base where
  new_ScrolledView : NewK P w K mg base "ScrolledView" 4 F_check_view
set_option maxHeartbeats 4000000 in
theorem ok_ScrolledView_copy {P : Program} {w : World} {K : Fr} {mg : Str → Option Value} {base : Heap} {fd : FuncData} (T : T_ScrolledView_copy P w K mg base) (Fd : FunD K "copy" "ScrolledView.copy" (defArgs s_ScrolledView_copy) (defBody s_ScrolledView_copy) (defScope s_ScrolledView_copy) [] [] (He.fAd K ("ScrolledView", some "copy")) fd) : FnOk P w K mg base (L2.CX P w) 6 (He.fAd K ("ScrolledView", some "copy")) fd ["self"] (spM K "ScrolledView" 0 M_ScrolledView_copy) :=
  show FnOk P w K mg base (L2.CX P w) (5 + 1) (He.fAd K ("ScrolledView", some "copy")) fd ["self"] (spM K "ScrolledView" 0 (mkM 0 2 m_ScrolledView_copy)) from def_okO ["self", "other"] ["self"] 5 0 2 m_ScrolledView_copy rfl rfl (by decide) Fd sc_ScrolledView_copy fun cdv A outer s H E hr W tk hp x =>
  (gso_cons (gso_pure (gs_newO (i := 1) T.new_ScrolledView (hr.mono (by decide)) tk (ga_cons (g_ix ix_D ok_ix (g_obS (i := 0) ⟨T.cl_ScrolledView, T.na_state, T.na_earlier, T.na_later⟩ rfl (Or.inl rfl)) g_int (fun _ _ => rfl)) ga_nil) sc_ScrolledView_copy.nd rfl (Or.inl rfl)))
    (gso_cons (gso_pure (gs_obSt (i := 1) ⟨T.cl_ScrolledView, T.na_state, T.na_earlier, T.na_later⟩ rfl (Or.inl rfl) (g_obS (i := 0) ⟨T.cl_ScrolledView, T.na_state, T.na_earlier, T.na_later⟩ rfl (Or.inl rfl))))
    (gso_cons (gso_pure (gs_obCpE (i := 1) (j := 0) ⟨T.cl_ScrolledView, T.na_state, T.na_earlier, T.na_later⟩ (by decide) T.bi.b_list rfl (Or.inl rfl) rfl (Or.inl rfl)))
    (gso_cons (gso_pure (gs_obCpL (i := 1) (j := 0) ⟨T.cl_ScrolledView, T.na_state, T.na_earlier, T.na_later⟩ (by decide) T.bi.b_list rfl (Or.inl rfl) rfl (Or.inl rfl)))
    (gso_one (gso_retOb 1 rfl (Or.inl rfl)))))))
structure T_ScrolledView___eq__ (P : Program) (w : World) (K : Fr) (mg : Str → Option Value) (base : Heap) : Prop extends Tx P w K mg base where
set_option maxHeartbeats 4000000 in
theorem ok_ScrolledView___eq__ {P : Program} {w : World} {K : Fr} {mg : Str → Option Value} {base : Heap} {fd : FuncData} (T : T_ScrolledView___eq__ P w K mg base) (Fd : FunD K "__eq__" "ScrolledView.__eq__" (defArgs s_ScrolledView___eq__) (defBody s_ScrolledView___eq__) (defScope s_ScrolledView___eq__) [] [] (He.fAd K ("ScrolledView", some "__eq__")) fd) : FnOk P w K mg base (L2.CX P w) 6 (He.fAd K ("ScrolledView", some "__eq__")) fd ["self", "other"] (spOf K 2 F_ScrolledView___eq__) :=
  show FnOk P w K mg base (L2.CX P w) (5 + 1) (He.fAd K ("ScrolledView", some "__eq__")) fd ["self", "other"] (spOf K 2 (mkF 2 2 m_ScrolledView___eq__)) from def_ok ["self", "other"] ["self", "other"] 5 2 2 m_ScrolledView___eq__ rfl rfl Fd sc_ScrolledView___eq__ fun cdv A outer s H E hr W tk hp =>
  (gs_one (gs_ret (g_and (g_isiO T.cl_ScrolledView T.oo_ScrolledView T.bi.b_isinstance T.mc_ScrolledView (g_var 1 rfl (Or.inl rfl))) (g_one (g_cmp (op_eqD hr.units) ok_eq (g_attr T.cl_ScrolledView T.na_state (g_var 0 rfl (Or.inl rfl))) (g_attr T.cl_ScrolledView T.na_state (g_var 1 rfl (Or.inl rfl))) (nomark _))))))
structure T_ScrolledView___len__ (P : Program) (w : World) (K : Fr) (mg : Str → Option Value) (base : Heap) : Prop extends Tx P w K mg base where
set_option maxHeartbeats 4000000 in
theorem ok_ScrolledView___len__ {P : Program} {w : World} {K : Fr} {mg : Str → Option Value} {base : Heap} {fd : FuncData} (T : T_ScrolledView___len__ P w K mg base) (Fd : FunD K "__len__" "ScrolledView.__len__" (defArgs s_ScrolledView___len__) (defBody s_ScrolledView___len__) (defScope s_ScrolledView___len__) [] [] (He.fAd K ("ScrolledView", some "__len__")) fd) : FnOk P w K mg base (L2.CX P w) 1 (He.fAd K ("ScrolledView", some "__len__")) fd ["self"] (spOf K 1 F_ScrolledView___len__) :=
  show FnOk P w K mg base (L2.CX P w) (0 + 1) (He.fAd K ("ScrolledView", some "__len__")) fd ["self"] (spOf K 1 (mkF 1 1 m_ScrolledView___len__)) from def_ok ["self"] ["self"] 0 1 1 m_ScrolledView___len__ rfl rfl Fd sc_ScrolledView___len__ fun cdv A outer s H E hr W tk hp =>
  (gs_one (gs_ret (g_callB call_len_seq ok_len T.bi.b_len bo_len (ga_cons (g_lrg1 rfl T.bi.b_list T.bi.b_range (g_ix ix_D ok_ix (g_ix ix_D ok_ix (g_attr T.cl_ScrolledView T.na_state (g_var 0 rfl (Or.inl rfl))) g_int (fun _ _ => rfl)) g_int (fun _ _ => rfl))) ga_nil))))
structure T__law_round (P : Program) (w : World) (K : Fr) (mg : Str → Option Value) (base : Heap) : Prop extends Tx P w K mg base where
set_option maxHeartbeats 4000000 in
theorem ok__law_round {P : Program} {w : World} {K : Fr} {mg : Str → Option Value} {base : Heap} {fd : FuncData} (T : T__law_round P w K mg base) (Fd : FnP K "_law_round" s__law_round fd) : FnOk P w K mg base (L2.CX P w) 1 (He.ga K "_law_round") fd ["_law_above", "_law_below", "_law_rule"] (spOf K 3 F__law_round) :=
  show FnOk P w K mg base (L2.CX P w) (0 + 1) (He.ga K "_law_round") fd ["_law_above", "_law_below", "_law_rule"] (spOf K 3 (mkF 3 5 m__law_round)) from def_ok ["_law_above", "_law_below", "_law_rule", "_law_low", "_law_left"] ["_law_above", "_law_below", "_law_rule"] 0 3 5 m__law_round rfl rfl Fd sc__law_round fun cdv A outer s H E hr W tk hp =>
  (gs_cons (gs_set (i := 3) sc__law_round.nd rfl (Or.inl rfl) (g_bin op_fdivW ok_fdiv (g_var 0 rfl (Or.inl rfl)) (g_var 1 rfl (Or.inl rfl))))
    (gs_cons (gs_set (i := 4) sc__law_round.nd rfl (Or.inl rfl) (g_bin op_sub ok_sub (g_var 0 rfl (Or.inl rfl)) (g_bin op_mulD ok_mul (g_var 3 rfl (Or.inl rfl)) (g_var 1 rfl (Or.inl rfl)))))
    (gs_cons (gs_if (gt_cmp (op_eqD hr.units) ok_eq (g_var 2 rfl (Or.inl rfl)) g_str (nomark _)) (gs_one (gs_ret (g_bin op_addD ok_add (g_var 3 rfl (Or.inl rfl)) (g_if (gt_cmp op_gt ok_gt (g_var 4 rfl (Or.inl rfl)) g_int (nomark _)) g_int g_int)))) gs_nil)
    (gs_one (gs_ret (g_bin op_addD ok_add (g_var 3 rfl (Or.inl rfl)) (g_if (PW.pt (gw_and (gt_cmp (op_eqD hr.units) ok_eq (g_var 2 rfl (Or.inl rfl)) g_str (nomark _)) (gw_and1 (gt_cmp op_ge ok_ge (g_bin op_addD ok_add (g_var 4 rfl (Or.inl rfl)) (g_var 4 rfl (Or.inl rfl))) (g_var 1 rfl (Or.inl rfl)) (nomark _))))) g_int g_int)))))))
structure T__law_firsts (P : Program) (w : World) (K : Fr) (mg : Str → Option Value) (base : Heap) : Prop extends Tx P w K mg base where
  d__law_round : DefK P w K mg base "_law_round" 1 3 F__law_round
set_option maxHeartbeats 4000000 in
theorem ok__law_firsts {P : Program} {w : World} {K : Fr} {mg : Str → Option Value} {base : Heap} {fd : FuncData} (T : T__law_firsts P w K mg base) (Fd : FnP K "_law_firsts" s__law_firsts fd) : FnOk P w K mg base (L2.CX P w) 2 (He.ga K "_law_firsts") fd ["_law_some_here"] (spOf K 1 F__law_firsts) :=
  show FnOk P w K mg base (L2.CX P w) (1 + 1) (He.ga K "_law_firsts") fd ["_law_some_here"] (spOf K 1 (mkF 1 6 m__law_firsts)) from def_ok ["_law_some_here", "_law_rows", "_law_high", "_law_many", "_law_rule", "_law_step"] ["_law_some_here"] 1 1 6 m__law_firsts rfl rfl Fd sc__law_firsts fun cdv A outer s H E hr W tk hp =>
  (gs_cons (gs_asg (g_var 0 rfl (Or.inl rfl)) (pg_tup rfl (gpgs_cons (pg_name (i := 1) sc__law_firsts.nd rfl (Or.inr rfl)) (gpgs_cons (pg_name (i := 2) sc__law_firsts.nd rfl (Or.inr rfl)) (gpgs_cons (pg_name (i := 3) sc__law_firsts.nd rfl (Or.inr rfl)) (gpgs_cons (pg_name (i := 4) sc__law_firsts.nd rfl (Or.inr rfl)) gpgs_nil))))) (gok_tup (is := [1, 2, 3, 4]) rfl))
    (gs_one (gs_ret (g_comp (own := [("_law_step", 5)]) (ow := [5]) rfl rfl sc__law_firsts.nd (gi_range1 T.bi.b_range (ga_cons (g_bin op_addD ok_add (g_var 3 rfl (Or.inr (Or.inl rfl))) g_int) ga_nil)) (blkOk_by (N := ["_law_some_here", "_law_rows", "_law_high", "_law_many", "_law_rule", "_law_step"]) (sc := defScope s__law_firsts) (own := [("_law_step", 5)]) (by decide +kernel)) (gok_name 5) (fun _ _ _ _ _ => (pg_name (i := 5) sc__law_firsts.nd rfl (Or.inl rfl))) (fun _ _ _ _ _ => gp_nil) (fun _ _ _ _ _ => (g_call T.d__law_round (hr.mono (by decide)) takes0 (ga_cons (g_bin op_mulD ok_mul (g_var 5 rfl (Or.inl rfl)) (g_bin op_sub ok_sub (g_var 1 rfl (Or.inr (Or.inl rfl))) (g_var 2 rfl (Or.inr (Or.inl rfl))))) (ga_cons (g_var 3 rfl (Or.inr (Or.inl rfl))) (ga_cons (g_var 4 rfl (Or.inr (Or.inl rfl))) ga_nil)))))))))
structure T__law_pick (P : Program) (w : World) (K : Fr) (mg : Str → Option Value) (base : Heap) : Prop extends Tx P w K mg base where
set_option maxHeartbeats 4000000 in
theorem ok__law_pick {P : Program} {w : World} {K : Fr} {mg : Str → Option Value} {base : Heap} {fd : FuncData} (T : T__law_pick P w K mg base) (Fd : FnP K "_law_pick" s__law_pick fd) : FnOk P w K mg base (L2.CX P w) 1 (He.ga K "_law_pick") fd ["_law_script", "_law_k", "_law_many"] (spOf K 3 F__law_pick) :=
  show FnOk P w K mg base (L2.CX P w) (0 + 1) (He.ga K "_law_pick") fd ["_law_script", "_law_k", "_law_many"] (spOf K 3 (mkF 3 7 m__law_pick)) from def_ok ["_law_script", "_law_k", "_law_many", "_law_cell", "_law_left", "_law_again", "_law_drawn"] ["_law_script", "_law_k", "_law_many"] 0 3 7 m__law_pick rfl rfl Fd sc__law_pick fun cdv A outer s H E hr W tk hp =>
  (gs_cons (gs_set (i := 3) sc__law_pick.nd rfl (Or.inl rfl) (g_if (gt_cmp (op_neD hr.units) ok_ne (g_var 0 rfl (Or.inl rfl)) (g_lst ga_nil) (nomark _)) (g_ix ix_D ok_ix (g_var 0 rfl (Or.inl rfl)) (g_bin op_mod ok_mod (g_var 1 rfl (Or.inl rfl)) (g_callB call_len_seq ok_len T.bi.b_len bo_len (ga_cons (g_var 0 rfl (Or.inl rfl)) ga_nil))) (fun _ _ => rfl)) g_int))
    (gs_cons (gs_par2 (i := 4) (j := 5) rfl sc__law_pick.nd rfl rfl (by decide) rfl rfl (gq_val (g_bin op_fdivW ok_fdiv (g_var 3 rfl (Or.inl rfl)) (g_bin op_pow ok_pow g_int g_int)) (gq_val (g_bin op_fdivW ok_fdiv (g_var 1 rfl (Or.inl rfl)) (g_callB (call_max2 rfl) ok_max2 T.bi.b_max bo_max (ga_cons (g_callB call_len_seq ok_len T.bi.b_len bo_len (ga_cons (g_var 0 rfl (Or.inl rfl)) ga_nil)) (ga_cons g_int ga_nil)))) gq_nil)))
    (gs_cons (gs_while 1000 hp (PW.pt (gw_and (gt_cmp op_gt ok_gt (g_var 4 rfl (Or.inl rfl)) g_int (nomark _)) (gw_and1 (gt_cmp op_gt ok_gt (g_var 5 rfl (Or.inl rfl)) g_int (nomark _)))))
    (gs_one (gs_par2 (i := 4) (j := 5) rfl sc__law_pick.nd rfl rfl (by decide) rfl rfl (gq_val (g_bin op_fdivW ok_fdiv (g_var 4 rfl (Or.inl rfl)) g_int) (gq_val (g_bin op_sub ok_sub (g_var 5 rfl (Or.inl rfl)) g_int) gq_nil)))))
    (gs_cons (gs_if (gt_cmp op_gt ok_gt (g_var 4 rfl (Or.inl rfl)) g_int (nomark _)) (gs_one (gs_ret (g_bin op_mod ok_mod (g_bin op_mod ok_mod (g_var 4 rfl (Or.inl rfl)) g_int) (g_var 2 rfl (Or.inl rfl))))) gs_nil)
    (gs_cons (gs_set (i := 6) sc__law_pick.nd rfl (Or.inl rfl) (g_bin op_mod ok_mod (g_bin op_mulD ok_mul (g_bin op_addD ok_add (g_bin op_mulD ok_mul (g_var 3 rfl (Or.inl rfl)) g_int) (g_bin op_mulD ok_mul g_int (g_bin op_addD ok_add (g_var 1 rfl (Or.inl rfl)) g_int))) g_int) g_int))
    (gs_one (gs_ret (g_bin op_mod ok_mod (g_bin op_mod ok_mod (g_bin op_addD ok_add (g_bin op_mulD ok_mul (g_var 6 rfl (Or.inl rfl)) (g_var 6 rfl (Or.inl rfl))) (g_bin op_fdivW ok_fdiv (g_var 6 rfl (Or.inl rfl)) g_int)) g_int) (g_var 2 rfl (Or.inl rfl))))))))))
structure T__law_some (P : Program) (w : World) (K : Fr) (mg : Str → Option Value) (base : Heap) : Prop extends Tx P w K mg base where
  d__law_pick : DefK P w K mg base "_law_pick" 1 3 F__law_pick
set_option maxHeartbeats 4000000 in
theorem ok__law_some {P : Program} {w : World} {K : Fr} {mg : Str → Option Value} {base : Heap} {fd : FuncData} (T : T__law_some P w K mg base) (Fd : FnP K "_law_some" s__law_some fd) : FnOk P w K mg base (L2.CX P w) 2 (He.ga K "_law_some") fd ["_law_script", "_law_at"] (spOf K 2 F__law_some) :=
  show FnOk P w K mg base (L2.CX P w) (1 + 1) (He.ga K "_law_some") fd ["_law_script", "_law_at"] (spOf K 2 (mkF 2 5 m__law_some)) from def_ok ["_law_script", "_law_at", "_law_high", "_law_rows", "_law_many"] ["_law_script", "_law_at"] 1 2 5 m__law_some rfl rfl Fd sc__law_some fun cdv A outer s H E hr W tk hp =>
  (gs_cons (gs_set (i := 2) sc__law_some.nd rfl (Or.inl rfl) (g_bin op_addD ok_add g_int (g_call T.d__law_pick (hr.mono (by decide)) tk (ga_cons (g_var 0 rfl (Or.inl rfl)) (ga_cons (g_var 1 rfl (Or.inl rfl)) (ga_cons g_int ga_nil))))))
    (gs_cons (gs_set (i := 3) sc__law_some.nd rfl (Or.inl rfl) (g_callB (call_min2 rfl) ok_min2 T.bi.b_min bo_min (ga_cons g_int (ga_cons (g_bin op_addD ok_add (g_bin op_addD ok_add (g_var 2 rfl (Or.inl rfl)) (g_ix ix_D ok_ix (g_tup (ga_cons g_int (ga_cons g_int (ga_cons g_int (ga_cons g_int (ga_cons g_int (ga_cons g_int ga_nil))))))) (g_call T.d__law_pick (hr.mono (by decide)) tk (ga_cons (g_var 0 rfl (Or.inl rfl)) (ga_cons (g_bin op_addD ok_add (g_var 1 rfl (Or.inl rfl)) g_int) (ga_cons g_int ga_nil)))) (fun _ _ => rfl))) (g_call T.d__law_pick (hr.mono (by decide)) tk (ga_cons (g_var 0 rfl (Or.inl rfl)) (ga_cons (g_bin op_addD ok_add (g_var 1 rfl (Or.inl rfl)) g_int) (ga_cons g_int ga_nil))))) ga_nil))))
    (gs_cons (gs_set (i := 4) sc__law_some.nd rfl (Or.inl rfl) (g_ix ix_D ok_ix (g_tup (ga_cons g_int (ga_cons g_int (ga_cons g_int (ga_cons g_int (ga_cons g_int (ga_cons g_int (ga_cons g_int (ga_cons g_int (ga_cons g_int (ga_cons g_int ga_nil))))))))))) (g_call T.d__law_pick (hr.mono (by decide)) tk (ga_cons (g_var 0 rfl (Or.inl rfl)) (ga_cons (g_bin op_addD ok_add (g_var 1 rfl (Or.inl rfl)) g_int) (ga_cons g_int ga_nil)))) (fun _ _ => rfl)))
    (gs_one (gs_ret (g_tup (ga_cons (g_var 3 rfl (Or.inl rfl)) (ga_cons (g_var 2 rfl (Or.inl rfl)) (ga_cons (g_var 4 rfl (Or.inl rfl)) (ga_cons (g_ix ix_D ok_ix (g_tup (ga_cons g_str (ga_cons g_str (ga_cons g_str ga_nil)))) (g_call T.d__law_pick (hr.mono (by decide)) tk (ga_cons (g_var 0 rfl (Or.inl rfl)) (ga_cons (g_bin op_addD ok_add (g_var 1 rfl (Or.inl rfl)) g_int) (ga_cons g_int ga_nil)))) (fun _ _ => rfl)) ga_nil))))))))))
structure T__law_class (P : Program) (w : World) (K : Fr) (mg : Str → Option Value) (base : Heap) : Prop extends Tx P w K mg base where
set_option maxHeartbeats 4000000 in
theorem ok__law_class {P : Program} {w : World} {K : Fr} {mg : Str → Option Value} {base : Heap} {fd : FuncData} (T : T__law_class P w K mg base) (hm : mg "_law_class" = some (.ref (He.ga K "_law_class"))) (Fd : FnP K "_law_class" s__law_class fd) : HotK P w K mg base "_law_class" 1 F__law_class :=
  show HotK P w K mg base "_law_class" (0 + 1) (mkH (2 + 1) m__law_class) from hot_ok ["_law_error", "_law_kinds", "_law_names"] 0 2 m__law_class rfl Fd hm sc__law_class (fun _ _ _ _ _ _ us hl => match us, hl with | [_], _ => rfl) fun c cdv A outer s H a oe hr hz hf hne => only_of (p := fun M => PSs _ _ (tS K ⟨a, []⟩ W0 M)) (m := m0__law_class) (b := fun c => decide (exm_ScrollError c = some true)) hne fun hcl0 => have hcl := of_decide_eq_true hcl0
  (gs_cons (gs_own (i := 1) sc__law_class.nd rfl (Or.inl rfl) (ga_cons (g_isH (i := 0) rfl (List.Mem.head _) (T.xc c hcl) hz hf (T.mi_InvalidView c hcl) T.bi.b_isinstance T.x_InvalidView.m rfl (Or.inl rfl)) (ga_cons (g_isH (i := 0) rfl (List.Mem.head _) (T.xc c hcl) hz hf (T.mi_InvalidStep c hcl) T.bi.b_isinstance T.x_InvalidStep.m rfl (Or.inl rfl)) ga_nil)))
    (gs_cons (gs_ext (i := 1) rfl (Or.inl rfl) (g_lst (ga_cons (g_isH (i := 0) rfl (List.Mem.head _) (T.xc c hcl) hz hf (T.mi_InvalidRow c hcl) T.bi.b_isinstance T.x_InvalidRow.m rfl (Or.inl rfl)) (ga_cons (g_isH (i := 0) rfl (List.Mem.head _) (T.xc c hcl) hz hf (T.mi_DifferentSteps c hcl) T.bi.b_isinstance T.x_DifferentSteps.m rfl (Or.inl rfl)) ga_nil))))
    (gs_cons (gs_ext (i := 1) rfl (Or.inl rfl) (g_lst (ga_cons (g_isH (i := 0) rfl (List.Mem.head _) (T.xc c hcl) hz hf (T.mi_InvalidNumber c hcl) T.bi.b_isinstance T.x_InvalidNumber.m rfl (Or.inl rfl)) (ga_cons (g_isH (i := 0) rfl (List.Mem.head _) (T.xc c hcl) hz hf (T.mi_InvalidSize c hcl) T.bi.b_isinstance T.x_InvalidSize.m rfl (Or.inl rfl)) ga_nil))))
    (gs_cons (gs_ext (i := 1) rfl (Or.inl rfl) (g_lst (ga_cons (g_isH (i := 0) rfl (List.Mem.head _) (T.xc c hcl) hz hf (T.mi_InvalidCells c hcl) T.bi.b_isinstance T.x_InvalidCells.m rfl (Or.inl rfl)) (ga_cons (g_isH (i := 0) rfl (List.Mem.head _) (T.xc c hcl) hz hf (T.mi_InvalidCell c hcl) T.bi.b_isinstance T.x_InvalidCell.m rfl (Or.inl rfl)) ga_nil))))
    (gs_cons (gs_ext (i := 1) rfl (Or.inl rfl) (g_lst (ga_cons (g_isH (i := 0) rfl (List.Mem.head _) (T.xc c hcl) hz hf (T.mi_InvalidChange c hcl) T.bi.b_isinstance T.x_InvalidChange.m rfl (Or.inl rfl)) (ga_cons (g_isH (i := 0) rfl (List.Mem.head _) (T.xc c hcl) hz hf (T.mi_NothingToUndo c hcl) T.bi.b_isinstance T.x_NothingToUndo.m rfl (Or.inl rfl)) ga_nil))))
    (gs_cons (gs_ext (i := 1) rfl (Or.inl rfl) (g_lst (ga_cons (g_isH (i := 0) rfl (List.Mem.head _) (T.xc c hcl) hz hf (T.mi_ParseError c hcl) T.bi.b_isinstance T.x_ParseError.m rfl (Or.inl rfl)) ga_nil)))
    (gs_cons (gs_if (PW.pt (gw_or (gt_cmp (op_neD (hotU hr)) ok_ne (g_cnt (g_var 1 rfl (Or.inl rfl)) g_bl) g_int (nomark _)) (gw_or1 (gt_not (gt_val (g_isHB (i := 0) rfl (List.Mem.head _) (T.xc c hcl) hz hf (T.mv c hcl) T.bi.b_isinstance T.vE bo_VE rfl (Or.inl rfl))))))) (gs_one (gs_ret g_str)) gs_nil)
    (gs_cons (gs_own (i := 2) sc__law_class.nd rfl (Or.inl rfl) (ga_cons g_str (ga_cons g_str (ga_cons g_str (ga_cons g_str (ga_cons g_str ga_nil))))))
    (gs_cons (gs_ext (i := 2) rfl (Or.inl rfl) (g_lst (ga_cons g_str (ga_cons g_str (ga_cons g_str (ga_cons g_str ga_nil))))))
    (gs_cons (gs_ext (i := 2) rfl (Or.inl rfl) (g_lst (ga_cons g_str (ga_cons g_str ga_nil))))
    (gs_one (gs_ret (g_ix ix_D ok_ix (g_var 2 rfl (Or.inl rfl)) (g_index (g_var 1 rfl (Or.inl rfl)) g_bl) (fun _ _ => rfl))))))))))))))
structure T__law_result (P : Program) (w : World) (K : Fr) (mg : Str → Option Value) (base : Heap) : Prop extends Tx P w K mg base where
  d_ScrolledView_go : MetO P w K mg base "ScrolledView" "go" 5 1 M_ScrolledView_go
  d_ScrolledView_turn : MetO P w K mg base "ScrolledView" "turn" 3 2 M_ScrolledView_turn
  d_ScrolledView_show : MetO P w K mg base "ScrolledView" "show" 3 1 M_ScrolledView_show
  d_ScrolledView_change : MetO P w K mg base "ScrolledView" "change" 5 1 M_ScrolledView_change
  d_ScrolledView_undo : MetO P w K mg base "ScrolledView" "undo" 1 0 M_ScrolledView_undo
  d_ScrolledView_redo : MetO P w K mg base "ScrolledView" "redo" 1 0 M_ScrolledView_redo
  d__law_class : HotK P w K mg base "_law_class" 1 F__law_class
theorem lb_0 {P : Program} {w : World} {K : Fr} {mg : Str → Option Value} {base : Heap} (T : T__law_result P w K mg base) : LamBO P w K mg base 5 lam_0 LF_0 := ⟨fun _ _ _ _ => rfl, rfl, rfl, rfl, by decide +kernel, fun cl A outer s H E fa c hr W tk => (g_methO (i := 0) T.d_ScrolledView_go nst_go (hr.mono (by decide)) tk rfl (Or.inr (Or.inr rfl)) (ga_cons (g_var 1 rfl (Or.inr (Or.inr rfl))) ga_nil))⟩
theorem lb_1 {P : Program} {w : World} {K : Fr} {mg : Str → Option Value} {base : Heap} (T : T__law_result P w K mg base) : LamBO P w K mg base 5 lam_1 LF_1 := ⟨fun _ _ _ _ => rfl, rfl, rfl, rfl, by decide +kernel, fun cl A outer s H E fa c hr W tk => (g_methO (i := 0) T.d_ScrolledView_turn nst_turn (hr.mono (by decide)) tk rfl (Or.inr (Or.inr rfl)) (ga_cons (g_var 1 rfl (Or.inr (Or.inr rfl))) (ga_cons (g_var 2 rfl (Or.inr (Or.inr rfl))) ga_nil)))⟩
theorem lb_2 {P : Program} {w : World} {K : Fr} {mg : Str → Option Value} {base : Heap} (T : T__law_result P w K mg base) : LamBO P w K mg base 5 lam_2 LF_2 := ⟨fun _ _ _ _ => rfl, rfl, rfl, rfl, by decide +kernel, fun cl A outer s H E fa c hr W tk => (g_methO (i := 0) T.d_ScrolledView_show nst_show (hr.mono (by decide)) tk rfl (Or.inr (Or.inr rfl)) (ga_cons (g_var 1 rfl (Or.inr (Or.inr rfl))) ga_nil))⟩
theorem lb_3 {P : Program} {w : World} {K : Fr} {mg : Str → Option Value} {base : Heap} (T : T__law_result P w K mg base) : LamBO P w K mg base 5 lam_3 LF_3 := ⟨fun _ _ _ _ => rfl, rfl, rfl, rfl, by decide +kernel, fun cl A outer s H E fa c hr W tk => (g_methO (i := 0) T.d_ScrolledView_change nst_change (hr.mono (by decide)) tk rfl (Or.inr (Or.inr rfl)) (ga_cons (g_tup (ga_cons g_str (ga_cons (g_var 1 rfl (Or.inr (Or.inr rfl))) (ga_cons (g_bin op_addD ok_add g_int (g_bin op_mod ok_mod (g_var 2 rfl (Or.inr (Or.inr rfl))) g_int)) ga_nil)))) ga_nil))⟩
theorem lb_4 {P : Program} {w : World} {K : Fr} {mg : Str → Option Value} {base : Heap} (T : T__law_result P w K mg base) : LamBO P w K mg base 5 lam_4 LF_4 := ⟨fun _ _ _ _ => rfl, rfl, rfl, rfl, by decide +kernel, fun cl A outer s H E fa c hr W tk => (g_methO0 (i := 0) T.d_ScrolledView_undo nst_undo (hr.mono (by decide)) tk rfl (Or.inr (Or.inr rfl)))⟩
theorem lb_5 {P : Program} {w : World} {K : Fr} {mg : Str → Option Value} {base : Heap} (T : T__law_result P w K mg base) : LamBO P w K mg base 5 lam_5 LF_5 := ⟨fun _ _ _ _ => rfl, rfl, rfl, rfl, by decide +kernel, fun cl A outer s H E fa c hr W tk => (g_methO0 (i := 0) T.d_ScrolledView_redo nst_redo (hr.mono (by decide)) tk rfl (Or.inr (Or.inr rfl)))⟩
theorem TFO_ok {P : Program} {w : World} {K : Fr} {mg : Str → Option Value} {base : Heap} (T : T__law_result P w K mg base) : ∀ lc o ds, TFO lc o ds ≠ .no → ∃ f : MEO, LamBO P w K mg base 5 lc f ∧ TFO lc o ds = runL f o ds := by
  intro lc o ds h
  unfold TFO at h ⊢
  by_cases e0 : lc = lam_0
  · subst e0
    exact ⟨LF_0, lb_0 T, if_pos rfl⟩
  rw [if_neg e0] at h ⊢
  by_cases e1 : lc = lam_1
  · subst e1
    exact ⟨LF_1, lb_1 T, if_pos rfl⟩
  rw [if_neg e1] at h ⊢
  by_cases e2 : lc = lam_2
  · subst e2
    exact ⟨LF_2, lb_2 T, if_pos rfl⟩
  rw [if_neg e2] at h ⊢
  by_cases e3 : lc = lam_3
  · subst e3
    exact ⟨LF_3, lb_3 T, if_pos rfl⟩
  rw [if_neg e3] at h ⊢
  by_cases e4 : lc = lam_4
  · subst e4
    exact ⟨LF_4, lb_4 T, if_pos rfl⟩
  rw [if_neg e4] at h ⊢
  by_cases e5 : lc = lam_5
  · subst e5
    exact ⟨LF_5, lb_5 T, if_pos rfl⟩
  rw [if_neg e5] at h ⊢
  exact absurd rfl h
set_option maxHeartbeats 4000000 in
theorem ok__law_result {P : Program} {w : World} {K : Fr} {mg : Str → Option Value} {base : Heap} {fd : FuncData} (T : T__law_result P w K mg base) (Fd : FnP K "_law_result" s__law_result fd) : FnOk P w K mg base (L2.CX P w) 7 (He.ga K "_law_result") fd ["_law_call"] (spRes K TR__law_result) :=
  show FnOk P w K mg base (L2.CX P w) (6 + 1) (He.ga K "_law_result") fd ["_law_call"] (spRes K fun lc o ds => resM exm_ScrollError su__law_result (TFO lc o ds)) from res_ok 6 Fd sc__law_result fun cdv A outer s H E hr W tk hp =>
  (pss_one (gs_tryO (fi := fi0) (su := su__law_result) (sub := exm_ScrollError) rfl rfl sc__law_result.nd rfl rfl T.x_ScrollError.m T.mx_ScrollError tk (fun W1 pn1 xe1 tk1 hp1 => pss_one (gs_thkR (g_thkO (k := 5) (hr.mono (by decide)) tk1 (TFO_ok T) rfl (Or.inl rfl))))
    (fun c a oe pn hcl hz hv => (gs_one (gs_ret (g_tup (ga_cons g_str (ga_cons (g_hot (i := 1) T.d__law_class (hr.mono (by decide)) hz hv rfl (Or.inl rfl)) ga_nil))))))))
structure T__law_next (P : Program) (w : World) (K : Fr) (mg : Str → Option Value) (base : Heap) : Prop extends Tx P w K mg base where
  d__law_firsts : DefK P w K mg base "_law_firsts" 2 1 F__law_firsts
set_option maxHeartbeats 4000000 in
theorem ok__law_next {P : Program} {w : World} {K : Fr} {mg : Str → Option Value} {base : Heap} {fd : FuncData} (T : T__law_next P w K mg base) (Fd : FnP K "_law_next" s__law_next fd) : FnOk P w K mg base (L2.CX P w) 3 (He.ga K "_law_next") fd ["_law_state", "_law_kind", "_law_one", "_law_two"] (spOf K 4 F__law_next) :=
  show FnOk P w K mg base (L2.CX P w) (2 + 1) (He.ga K "_law_next") fd ["_law_state", "_law_kind", "_law_one", "_law_two"] (spOf K 4 (mkF 4 14 m__law_next)) from def_ok ["_law_state", "_law_kind", "_law_one", "_law_two", "_law_some_here", "_law_row", "_law_rows", "_law_high", "_law_many", "_law_rule", "_law_most", "_law_good", "_law_count", "_law_first"] ["_law_state", "_law_kind", "_law_one", "_law_two"] 2 4 14 m__law_next rfl rfl Fd sc__law_next fun cdv A outer s H E hr W tk hp =>
  (gs_cons (gs_asg (g_var 0 rfl (Or.inl rfl)) (pg_tup rfl (gpgs_cons (pg_name (i := 4) sc__law_next.nd rfl (Or.inl rfl)) (gpgs_cons (pg_name (i := 5) sc__law_next.nd rfl (Or.inr rfl)) gpgs_nil))) (gok_tup (is := [4, 5]) rfl))
    (gs_cons (gs_asg (g_var 4 rfl (Or.inl rfl)) (pg_tup rfl (gpgs_cons (pg_name (i := 6) sc__law_next.nd rfl (Or.inl rfl)) (gpgs_cons (pg_name (i := 7) sc__law_next.nd rfl (Or.inr rfl)) (gpgs_cons (pg_name (i := 8) sc__law_next.nd rfl (Or.inl rfl)) (gpgs_cons (pg_name (i := 9) sc__law_next.nd rfl (Or.inl rfl)) gpgs_nil))))) (gok_tup (is := [6, 7, 8, 9]) rfl))
    (gs_cons (gs_set (i := 10) sc__law_next.nd rfl (Or.inl rfl) (g_bin op_sub ok_sub (g_var 6 rfl (Or.inl rfl)) (g_var 7 rfl (Or.inr (Or.inl rfl)))))
    (gs_cons (gs_if (gt_cmp (op_eqD hr.units) ok_eq (g_var 1 rfl (Or.inl rfl)) g_int (nomark _)) (gs_one (gs_ret (g_if (PW.pt (gw_and (gt_cmp op_le ok_le g_int (g_var 2 rfl (Or.inr (Or.inl rfl))) (nomark _)) (gw_and1 (gt_cmp op_le ok_le (g_var 2 rfl (Or.inr (Or.inl rfl))) (g_var 8 rfl (Or.inl rfl)) (nomark _))))) (g_tup (ga_cons g_non (ga_cons (g_tup (ga_cons (g_var 4 rfl (Or.inl rfl)) (ga_cons (g_ix ix_D ok_ix (g_call T.d__law_firsts (hr.mono (by decide)) tk (ga_cons (g_var 4 rfl (Or.inl rfl)) ga_nil)) (g_var 2 rfl (Or.inr (Or.inl rfl))) (fun _ _ => rfl)) ga_nil))) ga_nil))) (g_tup (ga_cons g_str (ga_cons g_non ga_nil)))))) gs_nil)
    (gs_cons (gs_if (gt_cmp (op_eqD hr.units) ok_eq (g_var 1 rfl (Or.inl rfl)) g_int (nomark _)) (gs_cons (gs_if (PW.pt (gw_or (gt_cmp op_lt ok_lt (g_var 2 rfl (Or.inr (Or.inl rfl))) g_int (nomark _)) (gw_or1 (gt_cmp op_gt ok_gt (g_var 2 rfl (Or.inr (Or.inl rfl))) (g_var 7 rfl (Or.inr (Or.inl rfl))) (nomark _))))) (gs_one (gs_ret (g_tup (ga_cons g_str (ga_cons g_non ga_nil))))) gs_nil)
    (gs_one (gs_ret (g_tup (ga_cons g_non (ga_cons (g_tup (ga_cons (g_var 4 rfl (Or.inl rfl)) (ga_cons (g_callB (call_max2 rfl) ok_max2 T.bi.b_max bo_max (ga_cons g_int (ga_cons (g_callB (call_min2 rfl) ok_min2 T.bi.b_min bo_min (ga_cons (g_var 10 rfl (Or.inl rfl)) (ga_cons (g_bin op_addD ok_add (g_var 5 rfl (Or.inr (Or.inl rfl))) (g_bin op_mulD ok_mul (g_var 2 rfl (Or.inr (Or.inl rfl))) (g_var 3 rfl (Or.inl rfl)))) ga_nil))) ga_nil))) ga_nil))) ga_nil)))))) gs_nil)
    (gs_cons (gs_if (gt_cmp (op_eqD hr.units) ok_eq (g_var 1 rfl (Or.inl rfl)) g_int (nomark _)) (gs_cons (gs_if (PW.pt (gw_or (gt_cmp op_lt ok_lt (g_var 2 rfl (Or.inr (Or.inl rfl))) g_int (nomark _)) (gw_or1 (gt_cmp op_ge ok_ge (g_var 2 rfl (Or.inr (Or.inl rfl))) (g_var 6 rfl (Or.inl rfl)) (nomark _))))) (gs_one (gs_ret (g_tup (ga_cons g_str (ga_cons g_non ga_nil))))) gs_nil)
    (gs_cons (gs_setLc (i := 11) (own := [("_law_first", 13)]) (ow := [13]) rfl rfl sc__law_next.nd rfl rfl (sw_true rfl rfl rfl (by decide +kernel)) (gi_range1 T.bi.b_range (ga_cons (g_bin op_addD ok_add (g_var 10 rfl (Or.inl rfl)) g_int) ga_nil)) (blkOk_by (N := ["_law_state", "_law_kind", "_law_one", "_law_two", "_law_some_here", "_law_row", "_law_rows", "_law_high", "_law_many", "_law_rule", "_law_most", "_law_good", "_law_count", "_law_first"]) (sc := defScope s__law_next) (own := [("_law_first", 13)]) (by decide +kernel)) (gok_name 13) (fun _ _ _ _ _ => (pg_name (i := 13) sc__law_next.nd rfl (Or.inl rfl))) (fun _ _ _ _ _ => (gp_one (PW.pt (gw_and (gt_cmp op_le ok_le (g_var 13 rfl (Or.inl rfl)) (g_var 2 rfl (Or.inr (Or.inl rfl))) (nomark _)) (gw_and1 (gt_cmp op_lt ok_lt (g_var 2 rfl (Or.inr (Or.inl rfl))) (g_bin op_addD ok_add (g_var 13 rfl (Or.inl rfl)) (g_var 7 rfl (Or.inr (Or.inl rfl)))) (nomark _))))))) (fun _ _ _ _ _ => (g_var 13 rfl (Or.inl rfl))))
    (gs_one (gs_ret (g_tup (ga_cons g_non (ga_cons (g_tup (ga_cons (g_var 4 rfl (Or.inl rfl)) (ga_cons (g_ix ix_D ok_ix (g_callB (cr_minP rfl hr.units) ok_minP T.bi.b_min bo_min (ga_cons (g_comp (own := [("_law_first", 13)]) (ow := [13]) rfl rfl sc__law_next.nd (gi_list (g_var 11 rfl (Or.inl rfl))) (blkOk_by (N := ["_law_state", "_law_kind", "_law_one", "_law_two", "_law_some_here", "_law_row", "_law_rows", "_law_high", "_law_many", "_law_rule", "_law_most", "_law_good", "_law_count", "_law_first"]) (sc := defScope s__law_next) (own := [("_law_first", 13)]) (by decide +kernel)) (gok_name 13) (fun _ _ _ _ _ => (pg_name (i := 13) sc__law_next.nd rfl (Or.inl rfl))) (fun _ _ _ _ _ => gp_nil) (fun _ _ _ _ _ => (g_tup (ga_cons (g_callB call_abs ok_abs T.bi.b_abs bo_abs (ga_cons (g_bin op_sub ok_sub (g_var 13 rfl (Or.inl rfl)) (g_var 5 rfl (Or.inr (Or.inl rfl)))) ga_nil)) (ga_cons (g_var 13 rfl (Or.inl rfl)) ga_nil))))) ga_nil)) g_int (fun _ _ => rfl)) ga_nil))) ga_nil))))))) gs_nil)
    (gs_cons (gs_set (i := 12) sc__law_next.nd rfl (Or.inl rfl) (g_bin op_addD ok_add g_int (g_bin op_mod ok_mod (g_var 3 rfl (Or.inl rfl)) g_int)))
    (gs_cons (gs_if (PW.pt (gw_or (gt_cmp op_lt ok_lt (g_var 2 rfl (Or.inr (Or.inl rfl))) g_int (nomark _)) (gw_or (gt_cmp op_gt ok_gt (g_var 2 rfl (Or.inr (Or.inl rfl))) (g_var 6 rfl (Or.inl rfl)) (nomark _)) (gw_or1 (gt_cmp op_gt ok_gt (g_bin op_addD ok_add (g_var 6 rfl (Or.inl rfl)) (g_var 12 rfl (Or.inl rfl))) g_int (nomark _)))))) (gs_one (gs_ret (g_tup (ga_cons g_str (ga_cons g_non ga_nil))))) gs_nil)
    (gs_one (gs_ret (g_tup (ga_cons g_non (ga_cons (g_tup (ga_cons (g_tup (ga_cons (g_bin op_addD ok_add (g_var 6 rfl (Or.inl rfl)) (g_var 12 rfl (Or.inl rfl))) (ga_cons (g_var 7 rfl (Or.inr (Or.inl rfl))) (ga_cons (g_var 8 rfl (Or.inl rfl)) (ga_cons (g_var 9 rfl (Or.inl rfl)) ga_nil))))) (ga_cons (g_if (gt_cmp op_le ok_le (g_var 2 rfl (Or.inr (Or.inl rfl))) (g_var 5 rfl (Or.inr (Or.inl rfl))) (nomark _)) (g_bin op_addD ok_add (g_var 5 rfl (Or.inr (Or.inl rfl))) (g_var 12 rfl (Or.inl rfl))) (g_var 5 rfl (Or.inr (Or.inl rfl)))) ga_nil))) ga_nil)))))))))))))
structure T__law_calls (P : Program) (w : World) (K : Fr) (mg : Str → Option Value) (base : Heap) : Prop extends Tx P w K mg base where
set_option maxHeartbeats 4000000 in
theorem ok__law_calls {P : Program} {w : World} {K : Fr} {mg : Str → Option Value} {base : Heap} {fd : FuncData} (T : T__law_calls P w K mg base) (ht : Tells base mg "_law_calls" fd.code) (Fd : FnP K "_law_calls" s__law_calls fd) : FnOk P w K mg base (L2.CX P w) 6 (He.ga K "_law_calls") fd ["_law_moving", "_law_one", "_law_two"] (spOf K 3 F__law_calls) :=
  show FnOk P w K mg base (L2.CX P w) (5 + 1) (He.ga K "_law_calls") fd ["_law_moving", "_law_one", "_law_two"] (spOf K 3 (mkF 3 4 (rtOnly m0__law_calls))) from def_okR ["_law_moving", "_law_one", "_law_two", "_law_calls_here"] ["_law_moving", "_law_one", "_law_two"] 5 3 4 m0__law_calls rfl rfl Fd sc__law_calls ht fun cdv A outer s H E ht hr W tk hp =>
  (gr_cons (W := W) (gs_lams (lc := lam_0) (i := 3) (mk_0 ht) sc__law_calls.nd rfl (Or.inl rfl))
    (gr_cons (W := W) (gs_appL (lc := lam_1) (i := 3) (mk_1 ht) rfl (Or.inl rfl))
    (gr_cons (W := W) (gs_appL (lc := lam_2) (i := 3) (mk_2 ht) rfl (Or.inl rfl))
    (gr_cons (W := W) (gs_appL (lc := lam_3) (i := 3) (mk_3 ht) rfl (Or.inl rfl))
    (gr_cons (W := W) (gs_appL (lc := lam_4) (i := 3) (mk_4 ht) rfl (Or.inl rfl))
    (gr_cons (W := W) (gs_appL (lc := lam_5) (i := 3) (mk_5 ht) rfl (Or.inl rfl))
    (gr_retL (i := 3) (fun _ => rfl) rfl rfl rfl kv__law_calls__law_calls_here rfl (Or.inl rfl))))))))
structure T_law (P : Program) (w : World) (K : Fr) (mg : Str → Option Value) (base : Heap) : Prop extends Tx P w K mg base where
  new_ScrolledView : NewK P w K mg base "ScrolledView" 4 F_check_view
  d_ScrolledView_view : MetK P w K mg base "ScrolledView" "view" 1 1 F_ScrolledView_view
  d_ScrolledView_first : MetK P w K mg base "ScrolledView" "first" 1 1 F_ScrolledView_first
  d_ScrolledView_seen : MetK P w K mg base "ScrolledView" "seen" 1 1 F_ScrolledView_seen
  d_ScrolledView_go : MetO P w K mg base "ScrolledView" "go" 5 1 M_ScrolledView_go
  d_ScrolledView_copy : MetO P w K mg base "ScrolledView" "copy" 6 0 M_ScrolledView_copy
  d_ScrolledView___eq__ : MetK P w K mg base "ScrolledView" "__eq__" 6 2 F_ScrolledView___eq__
  d_ScrolledView___len__ : MetK P w K mg base "ScrolledView" "__len__" 1 1 F_ScrolledView___len__
  d__law_pick : DefK P w K mg base "_law_pick" 1 3 F__law_pick
  d__law_some : DefK P w K mg base "_law_some" 2 2 F__law_some
  d__law_result : ResK P w K mg base "_law_result" 7 TR__law_result
  d__law_next : DefK P w K mg base "_law_next" 3 4 F__law_next
  d__law_calls : DefK P w K mg base "_law_calls" 6 3 F__law_calls
set_option maxHeartbeats 4000000 in
theorem ok_law {P : Program} {w : World} {K : Fr} {mg : Str → Option Value} {base : Heap} {fd : FuncData} (T : T_law P w K mg base) (Fd : FnP K "law" s_law fd) : FnOk P w K mg base (L2.CX P w) 8 (He.ga K "law") fd ["_law_script"] (spOf K 1 F_law) :=
  show FnOk P w K mg base (L2.CX P w) (7 + 1) (He.ga K "law") fd ["_law_script"] (spOf K 1 (mkF 1 18 m_law)) from def_ok ["_law_script", "_law_some_here", "_law_moving", "_law_states", "_law_at", "_law_i", "_law_kind", "_law_top", "_law_one", "_law_two", "_law_due", "_law_word", "_law_state", "_law_to", "_law_other", "_law_known", "_law_row", "_law_twin"] ["_law_script"] 7 1 18 m_law rfl rfl Fd sc_law fun cdv A outer s H E hr W tk hp =>
  (gs_cons (gs_set (i := 1) sc_law.nd rfl (Or.inl rfl) (g_call T.d__law_some (hr.mono (by decide)) tk (ga_cons (g_var 0 rfl (Or.inl rfl)) (ga_cons g_int ga_nil))))
    (gs_cons (gs_par3 (i := 2) (j := 3) (l := 4) rfl sc_law.nd rfl rfl rfl (by decide) (by decide) (by decide) rfl rfl rfl (gq_new T.new_ScrolledView (hr.mono (by decide)) tk (ga_cons (g_var 1 rfl (Or.inl rfl)) ga_nil) (gq_val (g_lst (ga_cons (g_tup (ga_cons (g_var 1 rfl (Or.inl rfl)) (ga_cons g_int ga_nil))) ga_nil)) (gq_val g_int gq_nil))))
    (gs_cons (gs_for hp rfl (gi_range1 T.bi.b_range (ga_cons g_int ga_nil)) (pg_name (i := 5) sc_law.nd rfl (Or.inl rfl)) (gok_name 5)
    (gs_cons (gs_set (i := 6) sc_law.nd rfl (Or.inl rfl) (g_ix ix_D ok_ix (g_tup (ga_cons g_int (ga_cons g_int (ga_cons g_int (ga_cons g_int (ga_cons g_int (ga_cons g_int (ga_cons g_int (ga_cons g_int (ga_cons g_int (ga_cons g_int (ga_cons g_int ga_nil)))))))))))) (g_call T.d__law_pick (hr.mono (by decide)) tk (ga_cons (g_var 0 rfl (Or.inl rfl)) (ga_cons (g_bin op_addD ok_add g_int (g_bin op_mulD ok_mul g_int (g_var 5 rfl (Or.inl rfl)))) (ga_cons g_int ga_nil)))) (fun _ _ => rfl)))
    (gs_cons (gs_set (i := 7) sc_law.nd rfl (Or.inl rfl) (g_ix ix_D ok_ix (g_tup (ga_cons (g_bin op_addD ok_add (g_ix ix_D ok_ix (g_var 1 rfl (Or.inl rfl)) g_int (fun _ _ => rfl)) g_int) (ga_cons (g_bin op_addD ok_add (g_ix ix_D ok_ix (g_var 1 rfl (Or.inl rfl)) g_int (fun _ _ => rfl)) g_int) (ga_cons (g_bin op_addD ok_add (g_ix ix_D ok_ix (g_ix ix_D ok_ix (g_ix ix_D ok_ix (g_var 3 rfl (Or.inl rfl)) (g_var 4 rfl (Or.inl rfl)) (fun _ _ => rfl)) g_int (fun _ _ => rfl)) g_int (fun _ _ => rfl)) g_int) (ga_cons (g_bin op_addD ok_add (g_ix ix_D ok_ix (g_ix ix_D ok_ix (g_ix ix_D ok_ix (g_var 3 rfl (Or.inl rfl)) (g_var 4 rfl (Or.inl rfl)) (fun _ _ => rfl)) g_int (fun _ _ => rfl)) g_int (fun _ _ => rfl)) g_int) ga_nil))))) (g_callB (call_min2 rfl) ok_min2 T.bi.b_min bo_min (ga_cons (g_var 6 rfl (Or.inl rfl)) (ga_cons g_int ga_nil))) (fun _ _ => rfl)))
    (gs_cons (gs_set (i := 8) sc_law.nd rfl (Or.inl rfl) (g_bin op_sub_ib ok_subB (g_call T.d__law_pick (hr.mono (by decide)) tk (ga_cons (g_var 0 rfl (Or.inl rfl)) (ga_cons (g_bin op_addD ok_add g_int (g_bin op_mulD ok_mul g_int (g_var 5 rfl (Or.inl rfl)))) (ga_cons (g_var 7 rfl (Or.inl rfl)) ga_nil)))) (g_cmp (op_eqD hr.units) ok_eq (g_call T.d__law_pick (hr.mono (by decide)) tk (ga_cons (g_var 0 rfl (Or.inl rfl)) (ga_cons (g_bin op_addD ok_add g_int (g_bin op_mulD ok_mul g_int (g_var 5 rfl (Or.inl rfl)))) (ga_cons g_int ga_nil)))) g_int (nomark _))))
    (gs_cons (gs_set (i := 9) sc_law.nd rfl (Or.inl rfl) (g_bin op_sub ok_sub (g_call T.d__law_pick (hr.mono (by decide)) tk (ga_cons (g_var 0 rfl (Or.inl rfl)) (ga_cons (g_bin op_addD ok_add g_int (g_bin op_mulD ok_mul g_int (g_var 5 rfl (Or.inl rfl)))) (ga_cons g_int ga_nil)))) g_int))
    (gs_cons (gs_set (i := 10) sc_law.nd rfl (Or.inl rfl) g_non)
    (gs_cons (gs_if (gt_cmp op_lt ok_lt (g_var 6 rfl (Or.inl rfl)) g_int (nomark _)) (gs_cons (gs_asg (g_call T.d__law_next (hr.mono (by decide)) tk (ga_cons (g_ix ix_D ok_ix (g_var 3 rfl (Or.inl rfl)) (g_var 4 rfl (Or.inl rfl)) (fun _ _ => rfl)) (ga_cons (g_var 6 rfl (Or.inl rfl)) (ga_cons (g_var 8 rfl (Or.inl rfl)) (ga_cons (g_var 9 rfl (Or.inl rfl)) ga_nil))))) (pg_tup rfl (gpgs_cons (pg_name (i := 11) sc_law.nd rfl (Or.inl rfl)) (gpgs_cons (pg_name (i := 12) sc_law.nd rfl (Or.inl rfl)) gpgs_nil))) (gok_tup (is := [11, 12]) rfl))
    (gs_cons (gs_if (gt_cmp op_isnD ok_isn (g_var 12 rfl (Or.inl rfl)) g_non (nomark _)) (gs_one (gs_par2 (i := 3) (j := 4) rfl sc_law.nd rfl rfl (by decide) rfl rfl (gq_val (g_bin op_addD ok_add (g_sl (g_var 3 rfl (Or.inl rfl)) go_none (go_some (g_bin op_addD ok_add (g_var 4 rfl (Or.inl rfl)) g_int))) (g_lst (ga_cons (g_var 12 rfl (Or.inl rfl)) ga_nil))) (gq_val (g_bin op_addD ok_add (g_var 4 rfl (Or.inl rfl)) g_int) gq_nil)))) gs_nil)
    (gs_one (gs_set (i := 10) sc_law.nd rfl (Or.inl rfl) (g_if (gt_cmp op_isnD ok_isn (g_var 12 rfl (Or.inl rfl)) g_non (nomark _)) (g_ix ix_D ok_ix (g_var 12 rfl (Or.inl rfl)) g_int (fun _ _ => rfl)) (g_tup (ga_cons g_str (ga_cons (g_var 11 rfl (Or.inl rfl)) ga_nil)))))))) (gs_one (gs_if (gt_cmp op_lt ok_lt (g_var 6 rfl (Or.inl rfl)) g_int (nomark _)) (gs_cons (gs_set (i := 13) sc_law.nd rfl (Or.inl rfl) (g_if (gt_cmp (op_eqD hr.units) ok_eq (g_var 6 rfl (Or.inl rfl)) g_int (nomark _)) (g_bin op_sub ok_sub (g_var 4 rfl (Or.inl rfl)) g_int) (g_bin op_addD ok_add (g_var 4 rfl (Or.inl rfl)) g_int)))
    (gs_cons (gs_set (i := 10) sc_law.nd rfl (Or.inl rfl) (g_if (gt_inRg T.bi.b_range (g_var 13 rfl (Or.inl rfl)) (g_callB call_len_seq ok_len T.bi.b_len bo_len (ga_cons (g_var 3 rfl (Or.inl rfl)) ga_nil))) g_non (g_tup (ga_cons g_str (ga_cons g_str ga_nil)))))
    (gs_one (gs_set (i := 4) sc_law.nd rfl (Or.inl rfl) (g_if (gt_inRg T.bi.b_range (g_var 13 rfl (Or.inl rfl)) (g_callB call_len_seq ok_len T.bi.b_len bo_len (ga_cons (g_var 3 rfl (Or.inl rfl)) ga_nil))) (g_var 13 rfl (Or.inl rfl)) (g_var 4 rfl (Or.inl rfl))))))) (gs_cons (gs_copy (i := 2) (j := 14) T.d_ScrolledView_copy nst_copy (hr.mono (by decide)) tk rfl (Or.inl rfl) sc_law.nd rfl (Or.inl rfl))
    (gs_cons (gs_dropO (g_methO (i := 14) T.d_ScrolledView_go nst_go (hr.mono (by decide)) tk rfl (Or.inl rfl) (ga_cons g_int ga_nil)))
    (gs_one (gs_copy (i := 2) (j := 2) T.d_ScrolledView_copy nst_copy (hr.mono (by decide)) tk rfl (Or.inl rfl) sc_law.nd rfl (Or.inl rfl))))))))
    (gs_cons (gs_ifO (PW.pt (gw_andO (gt_cmp op_lt ok_lt (g_var 6 rfl (Or.inl rfl)) g_int (nomark _)) (gw_and1O (gt_neO hr.units (g_res (i := 2) T.d__law_result (hr.mono (by decide)) tk (g_ix ix_D ok_ix (g_call T.d__law_calls (hr.mono (by decide)) tk (ga_cons (g_var 2 rfl (Or.inl rfl)) (ga_cons (g_var 8 rfl (Or.inl rfl)) (ga_cons (g_var 9 rfl (Or.inl rfl)) ga_nil)))) (g_var 6 rfl (Or.inl rfl)) (fun _ _ => rfl))) (g_var 10 rfl (Or.inl rfl)) (nomark _))))) (gs_one (gs_ret g_bl)) gs_nil)
    (gs_cons (gs_asg (g_ix ix_D ok_ix (g_var 3 rfl (Or.inl rfl)) (g_var 4 rfl (Or.inl rfl)) (fun _ _ => rfl)) (pg_tup rfl (gpgs_cons (pg_name (i := 15) sc_law.nd rfl (Or.inl rfl)) (gpgs_cons (pg_name (i := 16) sc_law.nd rfl (Or.inl rfl)) gpgs_nil))) (gok_tup (is := [15, 16]) rfl))
    (gs_cons (gs_if (PW.pt (gw_or (gt_cmp (op_neD hr.units) ok_ne (g_meth0 T.d_ScrolledView_view (hr.mono (by decide)) tk (g_var 2 rfl (Or.inl rfl))) (g_var 15 rfl (Or.inl rfl)) (nomark _)) (gw_or (gt_cmp (op_neD hr.units) ok_ne (g_meth0 T.d_ScrolledView_first (hr.mono (by decide)) tk (g_var 2 rfl (Or.inl rfl))) (g_var 16 rfl (Or.inl rfl)) (nomark _)) (gw_or1 (gt_cmp (op_neD hr.units) ok_ne (g_lenO T.d_ScrolledView___len__ (hr.mono (by decide)) T.bi.b_len (g_var 2 rfl (Or.inl rfl))) (g_ix ix_D ok_ix (g_var 15 rfl (Or.inl rfl)) g_int (fun _ _ => rfl)) (nomark _)))))) (gs_one (gs_ret g_bl)) gs_nil)
    (gs_one (gs_if (gt_cmp (op_neD hr.units) ok_ne (g_meth0 T.d_ScrolledView_seen (hr.mono (by decide)) tk (g_var 2 rfl (Or.inl rfl))) (g_lrg2 rfl T.bi.b_list T.bi.b_range (g_var 16 rfl (Or.inl rfl)) (g_bin op_addD ok_add (g_var 16 rfl (Or.inl rfl)) (g_ix ix_D ok_ix (g_var 15 rfl (Or.inl rfl)) g_int (fun _ _ => rfl)))) (nomark _)) (gs_one (gs_ret g_bl)) gs_nil))))))))))))
    (gs_cons (gs_set (i := 17) sc_law.nd rfl (Or.inl rfl) (g_make T.new_ScrolledView (hr.mono (by decide)) tk (ga_cons (g_ix ix_D ok_ix (g_ix ix_D ok_ix (g_var 3 rfl (Or.inl rfl)) (g_var 4 rfl (Or.inl rfl)) (fun _ _ => rfl)) g_int (fun _ _ => rfl)) ga_nil)))
    (gs_one (gs_ret (g_and (g_cmp (op_eqD hr.units) ok_eq (g_eqO T.d_ScrolledView___eq__ (hr.mono (by decide)) (Nat.lt_of_le_of_lt (Nat.le_add_right _ 64) hr.units) (g_var 17 rfl (Or.inl rfl)) (g_var 2 rfl (Or.inl rfl)) (nomark _)) (g_cmp (op_eqD hr.units) ok_eq (g_ix ix_D ok_ix (g_ix ix_D ok_ix (g_var 3 rfl (Or.inl rfl)) (g_var 4 rfl (Or.inl rfl)) (fun _ _ => rfl)) g_int (fun _ _ => rfl)) g_int (nomark _)) (nomark _)) (g_one (g_neO T.d_ScrolledView___eq__ T.oo_ScrolledView (hr.mono (by decide)) (Nat.lt_of_le_of_lt (Nat.add_le_add_left (by decide) _) hr.units) (g_var 2 rfl (Or.inl rfl)) (g_ix ix_D ok_ix (g_var 3 rfl (Or.inl rfl)) (g_var 4 rfl (Or.inl rfl)) (fun _ _ => rfl)) (nomark _))))))))))
end Law
namespace Law
open PySem L2 Pg TL
/-! ### views.py, reckoned -/
theorem is_int_int (i a b : Int) : F_is_int [.int i, .int a, .int b] = .ok (.bl (decide (a ≤ i) && decide (i ≤ b))) := by
  simp [F_is_int, mkF, m_is_int, isiD, tyN]
/-- a value that is no int -/
def noInt : D → Bool
  | .non => true
  | .bl _ => true
  | .str _ => true
  | .tup _ => true
  | .lst _ => true
  | _ => false
theorem is_int_no (d : D) (a b : Int) (h : noInt d = true) : F_is_int [d, .int a, .int b] = .ok (.bl false) := by
  cases d <;> first | (simp [F_is_int, mkF, m_is_int, isiD, tyN]; done) | cases h
theorem in_rules (r : Rl) : inD false (.str r.s) (.tup [.str "down", .str "near", .str "up"]) = some (.bl true) := by
  cases r <;> simp [inD, inL, flatD, eqF, Rl.s]
theorem is_view_ok {v : Vw} (h : v.ok) : F_is_view [v.d] = .ok (.bl true) := by
  have ⟨⟨h1, h2, h3, h4, h5, h6⟩, h7⟩ := h
  have e1 : 1 ≤ v.rows := by omega
  have e2 : ¬ min v.rows 30 < v.h := by omega
  simp [F_is_view, mkF, m_is_view, isiD, tyN, Vw.d, mAsg, bTup, setAll, is_int_int, in_rules, h1, h2, h3, h4, h5, h7, e1, e2]
theorem check_view_ok {v : Vw} (h : v.ok) : F_check_view [v.d] = .ok .non := by
  simp [F_check_view, mkF, m_check_view, is_view_ok h]
theorem check_view_bad {d : D} (h : F_is_view [d] = .ok (.bl false)) : F_check_view [d] = .rs "InvalidView" := by
  simp [F_check_view, mkF, m_check_view, h]
theorem ix0 (v : Vw) : ixD v.d (.int 0) = some (.int v.rows) := rfl
theorem ix1 (v : Vw) : ixD v.d (.int 1) = some (.int v.h) := rfl
theorem ix2 (v : Vw) : ixD v.d (.int 2) = some (.int v.s) := rfl
theorem ix3 (v : Vw) : ixD v.d (.int 3) = some (.str v.r.s) := rfl
theorem check_step_ok {v : Vw} {k : Int} (h : v.ok) (h0 : 0 ≤ k) (h1 : k ≤ v.s) : F_check_step [v.d, .int k] = .ok .non := by
  simp [F_check_step, mkF, m_check_step, check_view_ok h, ix2, is_int_int, h0, h1]
theorem check_row_ok {k m : Int} (h0 : 0 ≤ k) (h1 : k ≤ m) : F_check_row [.int k, .int m] = .ok .non := by
  simp [F_check_row, mkF, m_check_row, is_int_int, h0, h1]
theorem rest_of_eq (v : Vw) : F_rest_of [v.d] = .ok (.int v.rest) := rfl
theorem rounded_eq {a b : Int} (r : Rl) (hb : 0 < b) (hb2 : b ≤ 1000000) (ha : -1000000000 ≤ a) (ha2 : a ≤ 1000000000) : F_rounded [.int a, .int b, .str r.s] = .ok (.int (rnd a b r)) := by
  cases r <;> simp [F_rounded, mkF, m_rounded, Rl.s, rnd, mul_l (i := 2), fdiv_p hb (show b < 1267650600228229401496703205376 by omega), fdiv_p (show 0 < 2 * b by omega) (show 2 * b < 1267650600228229401496703205376 by omega)]
theorem rest_bd {v : Vw} (h : v.wok) : 0 ≤ v.rest ∧ v.rest ≤ 98 := by
  have ⟨h1, h2, h3, h4, h5, h6⟩ := h
  unfold Vw.rest
  omega
theorem mul_bd {k m : Int} {a b : Int} (h0 : 0 ≤ k) (h1 : k ≤ a) (h2 : 0 ≤ m) (h3 : m ≤ b) : 0 ≤ k * m ∧ k * m ≤ a * b :=
  ⟨Int.mul_nonneg h0 h2, Int.mul_le_mul h1 h3 h2 (by omega)⟩
theorem find_first_eq {v : Vw} {k : Int} (h : v.wok) (h0 : 0 ≤ k) (h1 : k ≤ 1000) : F_find_first [v.d, .int k] = .ok (.int (v.first k)) := by
  have ⟨r0, r1⟩ := rest_bd h
  have ⟨m0, m1⟩ := mul_bd h0 h1 r0 r1
  have ⟨g1, g2, g3, g4, g5, g6⟩ := h
  simp [F_find_first, mkF, m_find_first, rest_of_eq, ix2, ix3, mul_l (show -18446744073709551616 < k by omega) (show k < 18446744073709551616 by omega), rounded_eq v.r (show 0 < v.s by omega) (show v.s ≤ 1000000 by omega) (show -1000000000 ≤ k * v.rest by omega) (show k * v.rest ≤ 1000000000 by omega), Vw.first]
def _root_.Pg.Vw.shows (v : Vw) (k row : Int) : Bool := decide (0 ≤ row - v.first k) && decide (row - v.first k < v.h)
theorem is_int_non (a b : Int) : F_is_int [.non, .int a, .int b] = .ok (.bl false) := is_int_no _ _ _ rfl
theorem is_int_bl (x : Bool) (a b : Int) : F_is_int [.bl x, .int a, .int b] = .ok (.bl false) := is_int_no _ _ _ rfl
theorem is_int_str (x : PySem.Str) (a b : Int) : F_is_int [.str x, .int a, .int b] = .ok (.bl false) := is_int_no _ _ _ rfl
theorem ne_vd (v : Vw) : neD v.d v.d = some (.bl false) := by
  obtain ⟨a, b, c, r⟩ := v
  cases r <;> simp [neD, Vw.d, okd, eqv, toP, toPs, PyData.eqv, PyData.eqvAll, Rl.s] <;> decide +kernel
/-! ### keeping.py, reckoned -/
theorem is_view_rows {v : Vw} (h : v.ok) (n : Int) : F_is_view [(⟨n, v.h, v.s, v.r⟩ : Vw).d] = .ok (.bl (decide (v.h ≤ n) && decide (n ≤ 99))) := by
  have ⟨⟨h1, h2, h3, h4, h5, h6⟩, h7⟩ := h
  by_cases a : 1 ≤ n
  · by_cases b : n ≤ 99
    · by_cases c : v.h ≤ n
      · have e2 : ¬ min n 30 < v.h := by omega
        simp [F_is_view, mkF, m_is_view, isiD, tyN, Vw.d, mAsg, bTup, setAll, is_int_int, in_rules, h1, h4, h5, h7, a, b, c, e2]
      · have e2 : min n 30 < v.h := by omega
        simp [F_is_view, mkF, m_is_view, isiD, tyN, Vw.d, mAsg, bTup, setAll, is_int_int, in_rules, h1, h4, h5, h7, a, b, c, e2]
    · simp [F_is_view, mkF, m_is_view, isiD, tyN, Vw.d, mAsg, bTup, setAll, is_int_int, in_rules, a, b]
  · have c : ¬ v.h ≤ n := by omega
    simp [F_is_view, mkF, m_is_view, isiD, tyN, Vw.d, mAsg, bTup, setAll, is_int_int, in_rules, a, c]
def wd (ins : Bool) : PySem.Str := if ins = true then "insert" else "remove"
/-- a change -/
def chg (ins : Bool) (a c : Int) : D := .tup [.str (wd ins), .int a, .int c]
def _root_.Pg.Vw.chg (v : Vw) (ins : Bool) (c : Int) : Vw := ⟨if ins = true then v.rows + c else v.rows - c, v.h, v.s, v.r⟩
def may (v : Vw) (ins : Bool) (a c : Int) : Bool := if ins = true then decide (a ≤ v.rows) && decide (v.rows + c ≤ 99) else decide (a ≤ v.rows - c) && decide (v.h ≤ v.rows - c)
theorem wd_eq (ins : Bool) : eqD (.str (wd ins)) (.str "insert") = some (.bl ins) := by
  cases ins <;> simp [wd]
theorem wd_eqR (ins : Bool) : eqD (.str (wd ins)) (.str "remove") = some (.bl (!ins)) := by
  cases ins <;> simp [wd]
theorem tail_d (v : Vw) : slD v.d (some 1) none = some (.tup [.int v.h, .int v.s, .str v.r.s]) := rfl
theorem find_changed_eq (v : Vw) (ins : Bool) (a c : Int) : F_find_changed [v.d, chg ins a c] = .ok (v.chg ins c).d := by
  have e (n : Int) : addD (.tup [.int n]) (.tup [.int v.h, .int v.s, .str v.r.s]) = some (⟨n, v.h, v.s, v.r⟩ : Vw).d := rfl
  cases ins
  · simp [F_find_changed, mkF, m_find_changed, chg, mAsg, bTup, setAll, wd, ix0, tail_d, e, Vw.chg]
  · simp [F_find_changed, mkF, m_find_changed, chg, mAsg, bTup, setAll, wd, ix0, tail_d, e, Vw.chg]
theorem has_change_eq {v : Vw} (h : v.ok) (ins : Bool) {a c : Int} (a0 : 0 ≤ a) (c0 : 1 ≤ c) (c1 : c ≤ 30) : F_has_change [v.d, chg ins a c] = .ok (.bl (may v ins a c)) := by
  have hv := h.w.hr
  have h1 := h.w.h1
  have hx : ixD (chg ins a c) (.int 0) = some (.str (wd ins)) := rfl
  have hin : inD true (.str (wd ins)) (.tup [.str "insert", .str "remove"]) = some (.bl false) := by
    cases ins <;> simp [inD, inL, flatD, eqF, wd]
  have q := find_changed_eq v ins a c
  have hvw : F_is_view [(v.chg ins c).d] = .ok (.bl (decide (v.h ≤ (v.chg ins c).rows) && decide ((v.chg ins c).rows ≤ 99))) := is_view_rows h _
  have hl : lenB [chg ins a c] = some (.int 3) := rfl
  have hi : isiD "tuple" (chg ins a c) = some (.bl true) := rfl
  have hs : isiD "str" (.str (wd ins)) = some (.bl true) := rfl
  have hb : bTup [2, 3, 4] (chg ins a c) [.dat v.d, .dat (chg ins a c), .un, .un, .un] = some [.dat v.d, .dat (chg ins a c), .dat (.str (wd ins)), .dat (.int a), .dat (.int c)] := rfl
  have k := h.w.r99
  cases ins
  · by_cases g : a ≤ v.rows - c
    · have w : (v.chg false c).rows = v.rows - c := rfl
      rw [w] at hvw
      have g2 : v.rows - c ≤ 99 := by omega
      simp [F_has_change, mkF, m_has_change, hi, hl, hx, hs, mAsg, hb, hin, is_int_int, c0, c1, wd_eq, ix0, a0, q, hvw, may, g, g2]
    · simp [F_has_change, mkF, m_has_change, hi, hl, hx, hs, mAsg, hb, hin, is_int_int, c0, c1, wd_eq, ix0, a0, q, hvw, may, g]
  · by_cases g : a ≤ v.rows
    · have w : (v.chg true c).rows = v.rows + c := rfl
      rw [w] at hvw
      have g2 : v.h ≤ v.rows + c := by omega
      simp [F_has_change, mkF, m_has_change, hi, hl, hx, hs, mAsg, hb, hin, is_int_int, c0, c1, wd_eq, ix0, a0, q, hvw, may, g, g2]
    · simp [F_has_change, mkF, m_has_change, hi, hl, hx, hs, mAsg, hb, hin, is_int_int, c0, c1, wd_eq, ix0, a0, q, hvw, may, g]
theorem check_change_ok {v : Vw} (h : v.ok) {ins : Bool} {a c : Int} (a0 : 0 ≤ a) (c0 : 1 ≤ c) (c1 : c ≤ 30) (m : may v ins a c = true) : F_check_change [v.d, chg ins a c] = .ok .non := by
  simp [F_check_change, mkF, m_check_change, has_change_eq h ins a0 c0 c1, m]
theorem check_change_no {v : Vw} {d : D} (m : F_has_change [v.d, d] = .ok (.bl false)) : F_check_change [v.d, d] = .rs "InvalidChange" := by
  simp [F_check_change, mkF, m_check_change, m]
def kept (v : Vw) (row : Int) (ins : Bool) (a c : Int) : Int := min (if ins = true then (if a ≤ row then row + c else row) else row - max 0 (min c (row - a))) ((v.chg ins c).rows - v.h)
theorem find_kept_eq (v : Vw) (row : Int) (ins : Bool) (a c : Int) : F_find_kept [v.d, .int row, chg ins a c] = .ok (.int (kept v row ins a c)) := by
  have hb : bTup [3, 4, 5] (chg ins a c) [.dat v.d, .dat (.int row), .dat (chg ins a c), .un, .un, .un, .un] = some [.dat v.d, .dat (.int row), .dat (chg ins a c), .dat (.str (wd ins)), .dat (.int a), .dat (.int c), .un] := rfl
  have q := find_changed_eq v ins a c
  cases ins
  · simp [F_find_kept, mkF, m_find_kept, mAsg, hb, wd_eq, q, rest_of_eq, kept, Vw.rest]
    rfl
  · by_cases g : a ≤ row
    · simp [F_find_kept, mkF, m_find_kept, mAsg, hb, wd_eq, q, rest_of_eq, kept, Vw.rest, g]
      rfl
    · simp [F_find_kept, mkF, m_find_kept, mAsg, hb, wd_eq, q, rest_of_eq, kept, Vw.rest, g]
      rfl
/-- the old rows, as they lie after the change -/
def oldL (n : Int) : List (Option Int) := (iota n).map some
theorem oldL_len (n : Int) : (oldL n).length = n.toNat := by
  unfold oldL
  rw [List.length_map, iota_length]
theorem rg1_old {n : Int} (h0 : 0 ≤ n) (h1 : n ≤ 100000) : rg1D (.int n) = some (Lo (oldL n)) := by
  unfold oldL
  rw [rg1_iota h0 h1, Lo_some]
def aftL (n : Int) (ins : Bool) (a c : Int) : List (Option Int) := if ins = true then (oldL n).take a.toNat ++ List.replicate c.toNat none ++ (oldL n).drop a.toNat else (oldL n).take a.toNat ++ (oldL n).drop (a + c).toNat
theorem aft_rm {n a c : Int} (h0 : 0 ≤ n) (h1 : n ≤ 99) : addD (Lo ((oldL n).take a.toNat)) (Lo ((oldL n).drop (a + c).toNat)) = some (Lo (aftL n false a c)) := by
  have hl := oldL_len n
  exact addLo (by rw [List.length_take, List.length_drop]; omega)
theorem aft_in1 {n a c : Int} (h0 : 0 ≤ n) (h1 : n ≤ 99) (c1 : c ≤ 30) : addD (Lo ((oldL n).take a.toNat)) (Lo (List.replicate c.toNat none)) = some (Lo ((oldL n).take a.toNat ++ List.replicate c.toNat none)) := by
  have hl := oldL_len n
  exact addLo (by rw [List.length_take, List.length_replicate]; omega)
theorem aft_in2 {n a c : Int} (h0 : 0 ≤ n) (h1 : n ≤ 99) (c1 : c ≤ 30) : addD (Lo ((oldL n).take a.toNat ++ List.replicate c.toNat none)) (Lo ((oldL n).drop a.toNat)) = some (Lo (aftL n true a c)) := by
  have hl := oldL_len n
  exact addLo (by rw [List.length_append, List.length_take, List.length_replicate, List.length_drop]; omega)
/-- the old rows that are still seen -/
def stillL (v : Vw) (row : Int) (ins : Bool) (a c : Int) : List Int := (span row (row + v.h)).filter fun k => decide (some k ∈ ((aftL v.rows ins a c).drop (kept v row ins a c).toNat).take v.h.toNat)
theorem kept_bd {v : Vw} (h : v.ok) {row : Int} (r0 : 0 ≤ row) (r1 : row ≤ v.rest) {ins : Bool} {a c : Int} (a0 : 0 ≤ a) (c0 : 1 ≤ c) (m : may v ins a c = true) : 0 ≤ kept v row ins a c ∧ kept v row ins a c ≤ (v.chg ins c).rows - v.h := by
  have h1 := h.w.h1
  have h2 := h.w.hr
  unfold kept
  have rr : v.rest = v.rows - v.h := rfl
  cases ins
  · have : v.h ≤ v.rows - c := by
      unfold may at m
      simp only [Bool.false_eq_true, if_false, Bool.and_eq_true, decide_eq_true_eq] at m
      exact m.2
    have w : (v.chg false c).rows = v.rows - c := rfl
    rw [w, if_neg Bool.false_ne_true]
    omega
  · have w : (v.chg true c).rows = v.rows + c := rfl
    rw [w, if_pos rfl]
    split <;> omega
/-! ### pages.py, reckoned -/
theorem bounded_eq (v : Vw) (x : Int) : F_bounded [v.d, .int x] = .ok (.int (max 0 (min x v.rest))) := by
  simp [F_bounded, mkF, m_bounded, rest_of_eq]
theorem check_size_ok {v : Vw} {k : Int} (h0 : 1 ≤ k) (h1 : k ≤ v.h) : F_check_size [v.d, .int k] = .ok .non := by
  simp [F_check_size, mkF, m_check_size, ix1, is_int_int, h0, h1]
/-! ### the draws -/
def kW (n : Nat) : MS := mWhile (mAnd (mVal (bin gtD (eVar 4) (eC (.int 0)))) (mVal (bin gtD (eVar 5) (eC (.int 0)))))
    (mPar [4, 5] (qVal (bin fdivD (eVar 4) (eC (.int 840))) (qVal (bin subD (eVar 5) (eC (.int 1))) qNil))) n
theorem kW_ok (a b c d e : Slot) : ∀ (n : Nat) (left again : Int), 0 ≤ again → again < n → ∃ l' a', kW n [a, b, c, d, .dat (.int left), .dat (.int again), e] = .nx [a, b, c, d, .dat (.int l'), .dat (.int a'), e]
  | 0, left, again, h0, h => by omega
  | n + 1, left, again, h0, h => by
    unfold kW mWhile
    by_cases h1 : 0 < left
    · by_cases h2 : 0 < again
      · obtain ⟨l', a', q⟩ := kW_ok a b c d e n (left / 840) (again - 1) (by omega) (by omega)
        refine ⟨l', a', ?_⟩
        simp [h1, h2, fdiv_p, mPar, qVal, qNil, setS]
        exact q
      · exact ⟨left, again, by simp [h1, h2]⟩
    · exact ⟨left, again, by simp [h1]⟩
theorem pick_ok {ns : List Int} (hns : ns.length ≤ 63) {k many : Int} (hk : 0 ≤ k) (hk2 : k ≤ 900) (hm : 0 < many) : ∃ r, F__law_pick [.scr ns, .int k, .int many] = .ok (.int r) ∧ 0 ≤ r ∧ r < many := by
  have fin : ∀ x : Int, 0 ≤ x % many ∧ x % many < many := fun x => ⟨Int.emod_nonneg _ (by omega), Int.emod_lt_of_pos _ hm⟩
  suffices ∃ r, m__law_pick [.dat (.scr ns), .dat (.int k), .dat (.int many), .un, .un, .un, .un] = .rt (.int r) ∧ 0 ≤ r ∧ r < many by
    obtain ⟨r, h1, h2⟩ := this
    exact ⟨r, mkF_rt rfl h1, h2⟩
  unfold m__law_pick
  obtain ⟨cell, hc⟩ : ∃ cell, (mSet 3 (eIf (mVal (bin neD (eVar 0) (eLst aNil))) (bin ixD (eVar 0) (bin modD (eVar 1) (bcall lenB (aCons (eVar 0) aNil)))) (eC (.int 0)))) [.dat (.scr ns), .dat (.int k), .dat (.int many), .un, .un, .un, .un] = .nx [.dat (.scr ns), .dat (.int k), .dat (.int many), .dat (.int cell), .un, .un, .un] := by
    by_cases hn : ns = []
    · exact ⟨0, by simp [hn]⟩
    · have hl : 0 < (ns.length : Int) := by
        have := List.length_pos_iff.mpr hn
        omega
      obtain ⟨cell, hc⟩ := ix_scr (ns := ns) (j := k % ns.length) (Int.emod_nonneg _ (by omega)) (Int.emod_lt_of_pos _ hl)
      exact ⟨cell, by simp [hn, mod_p hl, hc]⟩
  rw [seq_nx hc]
  have hd : 0 < max (ns.length : Int) 1 := by omega
  have hd2 : max (ns.length : Int) 1 < 1267650600228229401496703205376 := by omega
  rw [seq_nx (st1 := [.dat (.scr ns), .dat (.int k), .dat (.int many), .dat (.int cell), .dat (.int (cell / 1000000000000000000)), .dat (.int (k / max (ns.length : Int) 1)), .un]) (by simp [mPar, qVal, qNil, setS, fdiv_p, fdiv_p hd hd2])]
  have q0 : 0 ≤ k / max (ns.length : Int) 1 := Int.ediv_nonneg hk (by omega)
  have q1 : k / max (ns.length : Int) 1 ≤ k := Int.ediv_le_self _ hk
  obtain ⟨l', a', hW⟩ := kW_ok (.dat (.scr ns)) (.dat (.int k)) (.dat (.int many)) (.dat (.int cell)) .un 1000 (cell / 1000000000000000000) (k / max (ns.length : Int) 1) q0 (by omega)
  unfold kW at hW
  rw [seq_nx hW]
  by_cases h1 : 0 < l'
  · refine ⟨l' % 840 % many, ?_, fin _⟩
    simp [h1, mod_p, hm]
  · obtain ⟨x, hx⟩ : ∃ x, x = (cell * 31 + 6151 * (k + 1)) * 40692 % 2147483399 := ⟨_, rfl⟩
    have hx1 : 0 ≤ x ∧ x < 2147483399 := by rw [hx]; exact ⟨Int.emod_nonneg _ (by omega), Int.emod_lt_of_pos _ (by omega)⟩
    refine ⟨(x * x + x / 31) % 2147483629 % many, ?_, fin _⟩
    rw [seq_nx (st1 := [.dat (.scr ns), .dat (.int k), .dat (.int many), .dat (.int cell), .dat (.int l'), .dat (.int a'), .un]) (by simp [h1])]
    rw [seq_nx (st1 := [.dat (.scr ns), .dat (.int k), .dat (.int many), .dat (.int cell), .dat (.int l'), .dat (.int a'), .dat (.int x)]) (by simp [mul_r (j := 31), mul_r (j := 40692), mul_l (i := 6151), mod_p, hx])]
    simp [mul_l (show -18446744073709551616 < x by omega) (show x < 18446744073709551616 by omega), mod_p, hm, fdiv_p]
theorem some_ok {ns : List Int} (hns : ns.length ≤ 63) {k : Int} (hk : 0 ≤ k) (hk2 : k ≤ 890) : ∃ v : Vw, F__law_some [.scr ns, .int k] = .ok v.d ∧ v.ok ∧ v.h ≤ 8 ∧ v.rows ≤ v.h + 48 := by
  obtain ⟨a, a1, a2, a3⟩ := pick_ok hns hk (by omega) (show (0 : Int) < 8 by omega)
  obtain ⟨b, b1, b2, b3⟩ := pick_ok hns (show 0 ≤ k + 1 by omega) (by omega) (show (0 : Int) < 6 by omega)
  obtain ⟨c, c1, c2, c3⟩ := pick_ok hns (show 0 ≤ k + 2 by omega) (by omega) (show (0 : Int) < 9 by omega)
  obtain ⟨d, d1, d2, d3⟩ := pick_ok hns (show 0 ≤ k + 3 by omega) (by omega) (show (0 : Int) < 10 by omega)
  obtain ⟨e, e1, e2, e3⟩ := pick_ok hns (show 0 ≤ k + 4 by omega) (by omega) (show (0 : Int) < 3 by omega)
  obtain ⟨x, x1, x2, x3⟩ : ∃ x, ixD (.tup [.int 0, .int 1, .int 5, .int 12, .int 20, .int 40]) (.int b) = some (.int x) ∧ 0 ≤ x ∧ x ≤ 40 := by
    have : b = 0 ∨ b = 1 ∨ b = 2 ∨ b = 3 ∨ b = 4 ∨ b = 5 := by omega
    rcases this with rfl | rfl | rfl | rfl | rfl | rfl <;> exact ⟨_, rfl, by decide, by decide⟩
  obtain ⟨y, y1, y2, y3⟩ : ∃ y, ixD (.tup [.int 1, .int 2, .int 3, .int 4, .int 5, .int 7, .int 10, .int 12, .int 25, .int 60]) (.int d) = some (.int y) ∧ 1 ≤ y ∧ y ≤ 60 := by
    have : d = 0 ∨ d = 1 ∨ d = 2 ∨ d = 3 ∨ d = 4 ∨ d = 5 ∨ d = 6 ∨ d = 7 ∨ d = 8 ∨ d = 9 := by omega
    rcases this with rfl | rfl | rfl | rfl | rfl | rfl | rfl | rfl | rfl | rfl <;> exact ⟨_, rfl, by decide, by decide⟩
  obtain ⟨r, hr⟩ : ∃ r : Rl, ixD (.tup [.str "down", .str "near", .str "up"]) (.int e) = some (.str r.s) := by
    have : e = 0 ∨ e = 1 ∨ e = 2 := by omega
    rcases this with rfl | rfl | rfl
    · exact ⟨.down, rfl⟩
    · exact ⟨.near, rfl⟩
    · exact ⟨.up, rfl⟩
  refine ⟨⟨min 99 (1 + a + x + c), 1 + a, y, r⟩, ?_, ⟨⟨?_, ?_, ?_, ?_, ?_, ?_⟩, ?_⟩, ?_, ?_⟩
  · refine mkF_rt rfl ?_
    show m__law_some [.dat (.scr ns), .dat (.int k), .un, .un, .un] = _
    unfold m__law_some
    rw [seq_nx (st1 := [.dat (.scr ns), .dat (.int k), .dat (.int (1 + a)), .un, .un]) (by simp [a1]), seq_nx (st1 := [.dat (.scr ns), .dat (.int k), .dat (.int (1 + a)), .dat (.int (min 99 (1 + a + x + c))), .un]) (by simp [b1, c1, x1]),
      seq_nx (st1 := [.dat (.scr ns), .dat (.int k), .dat (.int (1 + a)), .dat (.int (min 99 (1 + a + x + c))), .dat (.int y)]) (by simp [d1, y1])]
    simp [e1, hr, Vw.d]
  all_goals (simp only; omega)
theorem law_round_eq {a b : Int} (r : Rl) (hb : 0 < b) (hb2 : b ≤ 1000000) : F__law_round [.int a, .int b, .str r.s] = .ok (.int (rnd a b r)) := by
  have e := Int.mul_ediv_add_emod a b
  have em : a / b * b = b * (a / b) := Int.mul_comm _ _
  have e2 : a - a / b * b = a % b := by omega
  cases r
  · simp [F__law_round, mkF, m__law_round, Rl.s, rnd, fdiv_p hb (show b < 1267650600228229401496703205376 by omega), mul_r (show -18446744073709551616 < b by omega) (show b < 18446744073709551616 by omega)]
  · have e3 : a % b + a % b = 2 * (a % b) := by omega
    simp [F__law_round, mkF, m__law_round, Rl.s, rnd, fdiv_p hb (show b < 1267650600228229401496703205376 by omega), mul_r (show -18446744073709551616 < b by omega) (show b < 18446744073709551616 by omega), near_eq hb, e2, e3]
    split <;> simp
  · simp [F__law_round, mkF, m__law_round, Rl.s, rnd, fdiv_p hb (show b < 1267650600228229401496703205376 by omega), mul_r (show -18446744073709551616 < b by omega) (show b < 18446744073709551616 by omega), up_eq hb, e2]
    split <;> simp
/-! ### calls that fail as they should -/
theorem class_ok {c : PySem.Str} (h : c ∈ excs) : F__law_class c = .ok (.str c) := by
  unfold excs at h
  simp only [List.mem_cons, List.not_mem_nil, or_false] at h
  rcases h with rfl | rfl | rfl | rfl | rfl | rfl | rfl | rfl | rfl | rfl | rfl <;>
    simp [F__law_class, mkH, m__law_class, m0__law_class, onlyM, exm_ScrollError, excs, mOwn, mExt, extTo, ifOwn, eIsE, eCnt, cntD, blsOf, eIndex, indexD, idxF, eqF, flatD, isa_InvalidView, isa_InvalidStep, isa_InvalidRow, isa_DifferentSteps, isa_InvalidNumber, isa_InvalidSize, isa_InvalidCells, isa_InvalidCell, isa_InvalidChange, isa_NothingToUndo, isa_ParseError] <;> rfl
theorem blsOf_trues : ∀ n : Nat, blsOf (List.replicate n (D.bl true)) = some (List.replicate n true)
  | 0 => rfl
  | n + 1 => by
    show (blsOf (List.replicate n (D.bl true))).map (fun q => true :: q) = _
    rw [blsOf_trues n]
    rfl
theorem all_trues : ∀ n : Nat, (List.replicate n true).all id = true
  | 0 => rfl
  | n + 1 => all_trues n
theorem strOk_excs {c : PySem.Str} (h : c ∈ excs) : PyData.strOk c = true := by
  unfold excs at h
  simp only [List.mem_cons, List.not_mem_nil, or_false] at h
  rcases h with rfl | rfl | rfl | rfl | rfl | rfl | rfl | rfl | rfl | rfl | rfl <;> decide +kernel
/-! ### an object's methods, reckoned -/
@[simp] theorem thaw1_ob (o : Ob) : thaw1 (.ob o) = .dat (.obj o.C stN [o.st, .lst o.ea, .lst o.la]) := rfl
@[simp] theorem soSeq_nx {a b : MSO} {st st1 : Store} (h : a st = .nx st1) : soSeq a b st = b st1 := by unfold soSeq; rw [h]
theorem lift_nx {m : MS} {st st1 : Store} (h : m st = .nx st1) : liftO m st = .nx st1 := by unfold liftO; rw [h]
theorem lift_rs {m : MS} {st st1 : Store} {c : PySem.Str} (h : m st = .rs c st1) : liftO m st = .rs c st1 := by unfold liftO; rw [h]
theorem so_nx {m : MS} {b : MSO} {st st1 : Store} (h : m st = .nx st1) : soSeq (liftO m) b st = b st1 := soSeq_nx (lift_nx h)
theorem so_rs {m : MS} {b : MSO} {st st1 : Store} {c : PySem.Str} (h : m st = .rs c st1) : soSeq (liftO m) b st = .rs c st1 := by unfold soSeq; rw [lift_rs h]
def fin : RSO → RM
  | .nx st => okM .non st
  | .rt d st => okM d st
  | .ro j st => mkM2 j st
  | .rs c st => rsM c st
  | .no => .no
theorem mkM_of {n Nn : Nat} {m : MSO} {o : Ob} {ds : List D} (hl : ds.length = n) : mkM n Nn m o ds = fin (m (.ob (o.as true) :: (ds.map Slot.dat ++ List.replicate (Nn - (n + 1)) .un))) := by
  unfold mkM
  rw [if_pos hl]
  cases m (.ob (o.as true) :: (ds.map Slot.dat ++ List.replicate (Nn - (n + 1)) .un)) <;> rfl
abbrev obs (st : D) (ea la : List D) (b : Bool) : Ob := ⟨"ScrolledView", st, ea, la, b⟩
theorem move_eq {st : D} {ea la : List D} {b : Bool} (hl : ea.length < 1000) (k r : D) : M_ScrolledView_move (obs st ea la b) [k, r] = .ok r (obs (.tup [k, r]) (ea ++ [st]) [] false) := by
  simp [M_ScrolledView_move, mkM, m_ScrolledView_move, soSeq, liftO, mObAppE, obSet, Ob.as, hl, mObNilL, mObSt, soRet, okM]
theorem mv_eq {st : Store} {o : Ob} {a : MA} {k r : D} (h : st[(0 : Nat)]? = some (.ob o)) (hC : o.C = "ScrolledView") (hl : o.ea.length < 1000) (ha : a st = .ok [k, r]) : eMO 0 "ScrolledView" 2 M_ScrolledView_move a st = .ok r (st.set 0 (.ob (obs (.tup [k, r]) (o.ea ++ [o.st]) [] o.me))) := by
  obtain ⟨C, s, ea, la, me⟩ := o
  have hC : C = "ScrolledView" := hC
  subst hC
  unfold eMO
  rw [h]
  simp only [if_pos, ha]
  show setO 0 _ st (M_ScrolledView_move (obs s ea la false) [k, r]) = _
  rw [move_eq hl]
  rfl
theorem ixp0 (a b : D) : ixD (.tup [a, b]) (.int 0) = some a := rfl
theorem ixp1 (a b : D) : ixD (.tup [a, b]) (.int 1) = some b := rfl
theorem check_step_no {v : Vw} {k : Int} (h : v.ok) (hk : ¬ (0 ≤ k ∧ k ≤ v.s)) : F_check_step [v.d, .int k] = .rs "InvalidStep" := by
  by_cases h0 : 0 ≤ k
  · have h1 : ¬ k ≤ v.s := fun z => hk ⟨h0, z⟩
    simp [F_check_step, mkF, m_check_step, check_view_ok h, ix2, is_int_int, h0, h1]
  · simp [F_check_step, mkF, m_check_step, check_view_ok h, ix2, is_int_int, h0]
theorem check_size_no {v : Vw} {k : Int} (hk : ¬ (1 ≤ k ∧ k ≤ v.h)) : F_check_size [v.d, .int k] = .rs "InvalidSize" := by
  by_cases h0 : 1 ≤ k
  · have h1 : ¬ k ≤ v.h := fun z => hk ⟨h0, z⟩
    simp [F_check_size, mkF, m_check_size, ix1, is_int_int, h0, h1]
  · simp [F_check_size, mkF, m_check_size, ix1, is_int_int, h0]
theorem check_row_no {k m : Int} (hk : ¬ (0 ≤ k ∧ k ≤ m)) : F_check_row [.int k, .int m] = .rs "InvalidRow" := by
  by_cases h0 : 0 ≤ k
  · have h1 : ¬ k ≤ m := fun z => hk ⟨h0, z⟩
    simp [F_check_row, mkF, m_check_row, is_int_int, h0, h1]
  · simp [F_check_row, mkF, m_check_row, is_int_int, h0]
abbrev sD (v : Vw) (row : Int) : D := .tup [v.d, .int row]
theorem go_ok {v : Vw} (h : v.ok) {row k : Int} {ea la : List D} {b : Bool} (hl : ea.length < 1000) (h0 : 0 ≤ k) (h1 : k ≤ v.s) : M_ScrolledView_go (obs (sD v row) ea la b) [.int k] = .ok (.int (v.first k)) (obs (sD v (v.first k)) (ea ++ [sD v row]) [] false) := by
  have hs := h.s60
  unfold M_ScrolledView_go
  refine (mkM_of (by rfl)).trans ?_
  show fin (m_ScrolledView_go [.ob (obs (sD v row) ea la true), .dat (.int k), .un]) = _
  unfold m_ScrolledView_go
  rw [so_nx (st1 := [.ob (obs (sD v row) ea la true), .dat (.int k), .dat v.d]) (by simp [eObS, ixp0]), so_nx (st1 := [.ob (obs (sD v row) ea la true), .dat (.int k), .dat v.d]) (by simp [check_step_ok h h0 h1])]
  unfold soRetO
  rw [mv_eq (o := obs (sD v row) ea la true) (k := v.d) (r := .int (v.first k)) rfl rfl hl (by simp [find_first_eq h.w h0 (show k ≤ 1000 by omega)])]
  rfl
theorem go_no {v : Vw} (h : v.ok) {row k : Int} {ea la : List D} {b : Bool} (hk : ¬ (0 ≤ k ∧ k ≤ v.s)) : M_ScrolledView_go (obs (sD v row) ea la b) [.int k] = .rs "InvalidStep" (obs (sD v row) ea la false) := by
  unfold M_ScrolledView_go
  refine (mkM_of (by rfl)).trans ?_
  show fin (m_ScrolledView_go [.ob (obs (sD v row) ea la true), .dat (.int k), .un]) = _
  unfold m_ScrolledView_go
  rw [so_nx (st1 := [.ob (obs (sD v row) ea la true), .dat (.int k), .dat v.d]) (by simp [eObS, ixp0]), so_rs (c := "InvalidStep") (st1 := [.ob (obs (sD v row) ea la true), .dat (.int k), .dat v.d]) (by simp [check_step_no h hk])]
  rfl
theorem turn_ok {v : Vw} {row k n : Int} {ea la : List D} {b : Bool} (hl : ea.length < 1000) (h0 : 1 ≤ k) (h1 : k ≤ v.h) (hh : v.h ≤ 1000) (n0 : -99 ≤ n) (n1 : n ≤ 99) : M_ScrolledView_turn (obs (sD v row) ea la b) [.int k, .int n] = .ok (.int (max 0 (min (row + k * n) v.rest))) (obs (sD v (max 0 (min (row + k * n) v.rest))) (ea ++ [sD v row]) [] false) := by
  unfold M_ScrolledView_turn
  refine (mkM_of (by rfl)).trans ?_
  show fin (m_ScrolledView_turn [.ob (obs (sD v row) ea la true), .dat (.int k), .dat (.int n), .un, .un]) = _
  unfold m_ScrolledView_turn
  rw [so_nx (st1 := [.ob (obs (sD v row) ea la true), .dat (.int k), .dat (.int n), .dat v.d, .dat (.int row)]) (by simp [eObS, mAsg, bTup, setAll]), so_nx (st1 := [.ob (obs (sD v row) ea la true), .dat (.int k), .dat (.int n), .dat v.d, .dat (.int row)]) (by simp [check_size_ok h0 h1]),
    so_nx (st1 := [.ob (obs (sD v row) ea la true), .dat (.int k), .dat (.int n), .dat v.d, .dat (.int row)]) (by simp [is_int_int, n0, n1])]
  unfold soRetO
  rw [mv_eq (o := obs (sD v row) ea la true) (k := v.d) (r := .int (max 0 (min (row + k * n) v.rest))) rfl rfl hl (by simp [bounded_eq, mul_l (show -18446744073709551616 < k by omega) (show k < 18446744073709551616 by omega)])]
  rfl
theorem turn_no {v : Vw} {row k n : Int} {ea la : List D} {b : Bool} (hk : ¬ (1 ≤ k ∧ k ≤ v.h)) : M_ScrolledView_turn (obs (sD v row) ea la b) [.int k, .int n] = .rs "InvalidSize" (obs (sD v row) ea la false) := by
  unfold M_ScrolledView_turn
  refine (mkM_of (by rfl)).trans ?_
  show fin (m_ScrolledView_turn [.ob (obs (sD v row) ea la true), .dat (.int k), .dat (.int n), .un, .un]) = _
  unfold m_ScrolledView_turn
  rw [so_nx (st1 := [.ob (obs (sD v row) ea la true), .dat (.int k), .dat (.int n), .dat v.d, .dat (.int row)]) (by simp [eObS, mAsg, bTup, setAll]), so_rs (c := "InvalidSize") (st1 := [.ob (obs (sD v row) ea la true), .dat (.int k), .dat (.int n), .dat v.d, .dat (.int row)]) (by simp [check_size_no hk])]
  rfl
def near (v : Vw) (k row : Int) : Int := max 0 (min (max (k - v.h + 1) (min k row)) v.rest)
theorem show_ok {v : Vw} {row k : Int} {ea la : List D} {b : Bool} (hl : ea.length < 1000) (h0 : 0 ≤ k) (h1 : k ≤ v.rows - 1) : M_ScrolledView_show (obs (sD v row) ea la b) [.int k] = .ok (.int (near v k row)) (obs (sD v (near v k row)) (ea ++ [sD v row]) [] false) := by
  unfold M_ScrolledView_show
  refine (mkM_of (by rfl)).trans ?_
  show fin (m_ScrolledView_show [.ob (obs (sD v row) ea la true), .dat (.int k), .un, .un]) = _
  unfold m_ScrolledView_show
  rw [so_nx (st1 := [.ob (obs (sD v row) ea la true), .dat (.int k), .dat v.d, .dat (.int row)]) (by simp [eObS, mAsg, bTup, setAll]), so_nx (st1 := [.ob (obs (sD v row) ea la true), .dat (.int k), .dat v.d, .dat (.int row)]) (by simp [ix0, check_row_ok h0 h1])]
  unfold soRetO
  rw [mv_eq (o := obs (sD v row) ea la true) (k := v.d) (r := .int (near v k row)) rfl rfl hl (by simp [ix1, bounded_eq, near])]
  rfl
theorem show_no {v : Vw} {row k : Int} {ea la : List D} {b : Bool} (hk : ¬ (0 ≤ k ∧ k ≤ v.rows - 1)) : M_ScrolledView_show (obs (sD v row) ea la b) [.int k] = .rs "InvalidRow" (obs (sD v row) ea la false) := by
  unfold M_ScrolledView_show
  refine (mkM_of (by rfl)).trans ?_
  show fin (m_ScrolledView_show [.ob (obs (sD v row) ea la true), .dat (.int k), .un, .un]) = _
  unfold m_ScrolledView_show
  rw [so_nx (st1 := [.ob (obs (sD v row) ea la true), .dat (.int k), .dat v.d, .dat (.int row)]) (by simp [eObS, mAsg, bTup, setAll]), so_rs (c := "InvalidRow") (st1 := [.ob (obs (sD v row) ea la true), .dat (.int k), .dat v.d, .dat (.int row)]) (by simp [ix0, check_row_no hk])]
  rfl
theorem has_change_no {v : Vw} (h : v.ok) {a c : Int} (c0 : 1 ≤ c) (c1 : c ≤ 30) (hn : ¬ (0 ≤ a ∧ a ≤ v.rows ∧ v.rows + c ≤ 99)) : F_has_change [v.d, chg true a c] = .ok (.bl false) := by
  by_cases a0 : 0 ≤ a
  · rw [has_change_eq h true a0 c0 c1]
    have : may v true a c = false := by
      unfold may
      rw [if_pos rfl]
      simp only [Bool.and_eq_false_iff, decide_eq_false_iff_not]
      omega
    rw [this]
  · have hx : ixD (chg true a c) (.int 0) = some (.str "insert") := rfl
    have hin : inD true (.str "insert") (.tup [.str "insert", .str "remove"]) = some (.bl false) := by
      simp [inD, inL, flatD, eqF]
    have hl : lenB [chg true a c] = some (.int 3) := rfl
    have hi : isiD "tuple" (chg true a c) = some (.bl true) := rfl
    have hs : isiD "str" (.str "insert") = some (.bl true) := rfl
    have hb : bTup [2, 3, 4] (chg true a c) [.dat v.d, .dat (chg true a c), .un, .un, .un] = some [.dat v.d, .dat (chg true a c), .dat (.str "insert"), .dat (.int a), .dat (.int c)] := rfl
    simp [F_has_change, mkF, m_has_change, hi, hl, hx, hs, mAsg, hb, hin, is_int_int, c0, c1, ix0, a0]
theorem change_ok {v : Vw} (h : v.ok) {row a c : Int} {ea la : List D} {b : Bool} (hl : ea.length < 1000) (a0 : 0 ≤ a) (c0 : 1 ≤ c) (c1 : c ≤ 30) (m : may v true a c = true) : M_ScrolledView_change (obs (sD v row) ea la b) [chg true a c] = .ok (.int (kept v row true a c)) (obs (sD (v.chg true c) (kept v row true a c)) (ea ++ [sD v row]) [] false) := by
  unfold M_ScrolledView_change
  refine (mkM_of (by rfl)).trans ?_
  show fin (m_ScrolledView_change [.ob (obs (sD v row) ea la true), .dat (chg true a c), .un, .un]) = _
  unfold m_ScrolledView_change
  rw [so_nx (st1 := [.ob (obs (sD v row) ea la true), .dat (chg true a c), .dat v.d, .dat (.int row)]) (by simp [eObS, mAsg, bTup, setAll]), so_nx (st1 := [.ob (obs (sD v row) ea la true), .dat (chg true a c), .dat v.d, .dat (.int row)]) (by simp [check_change_ok h a0 c0 c1 m])]
  unfold soRetO
  rw [mv_eq (o := obs (sD v row) ea la true) (k := (v.chg true c).d) (r := .int (kept v row true a c)) rfl rfl hl (by simp [find_changed_eq, find_kept_eq])]
  rfl
theorem change_no {v : Vw} (h : v.ok) {row a c : Int} {ea la : List D} {b : Bool} (c0 : 1 ≤ c) (c1 : c ≤ 30) (hn : ¬ (0 ≤ a ∧ a ≤ v.rows ∧ v.rows + c ≤ 99)) : M_ScrolledView_change (obs (sD v row) ea la b) [chg true a c] = .rs "InvalidChange" (obs (sD v row) ea la false) := by
  unfold M_ScrolledView_change
  refine (mkM_of (by rfl)).trans ?_
  show fin (m_ScrolledView_change [.ob (obs (sD v row) ea la true), .dat (chg true a c), .un, .un]) = _
  unfold m_ScrolledView_change
  rw [so_nx (st1 := [.ob (obs (sD v row) ea la true), .dat (chg true a c), .dat v.d, .dat (.int row)]) (by simp [eObS, mAsg, bTup, setAll]), so_rs (c := "InvalidChange") (st1 := [.ob (obs (sD v row) ea la true), .dat (chg true a c), .dat v.d, .dat (.int row)]) (by simp [check_change_no (has_change_no h c0 c1 hn)])]
  rfl
/-- lists of states -/
theorem okd_sD (v : Vw) (row : Int) : okd 4 (sD v row) = true := by
  obtain ⟨a, b, c, r⟩ := v
  cases r <;> simp [sD, Vw.d, okd, Rl.s]
theorem eq_nil {xs : List D} (h : xs.all (okd 5) = true) : eqD (.lst xs) (.lst []) = some (.bl (decide (xs = []))) := by
  have e1 : okd 6 (.lst xs) = true := h
  have e2 : okd 6 (.lst []) = true := rfl
  unfold eqD
  rw [if_pos ⟨e1, e2⟩]
  cases xs with
  | nil => rfl
  | cons x r => rfl
theorem eq_nn : eqD (.lst []) (.lst []) = some (.bl true) := rfl
theorem undo_no {st : D} {la : List D} {b : Bool} : M_ScrolledView_undo (obs st [] la b) [] = .rs "NothingToUndo" (obs st [] la false) := by
  unfold M_ScrolledView_undo
  refine (mkM_of (by rfl)).trans ?_
  show fin (m_ScrolledView_undo [.ob (obs st [] la true)]) = _
  unfold m_ScrolledView_undo
  rw [so_rs (c := "NothingToUndo") (st1 := [.ob (obs st [] la true)]) (by simp [eAttr, lookD, stN, eq_nn])]
  rfl
theorem redo_no {st : D} {ea : List D} {b : Bool} : M_ScrolledView_redo (obs st ea [] b) [] = .rs "NothingToUndo" (obs st ea [] false) := by
  unfold M_ScrolledView_redo
  refine (mkM_of (by rfl)).trans ?_
  show fin (m_ScrolledView_redo [.ob (obs st ea [] true)]) = _
  unfold m_ScrolledView_redo
  rw [so_rs (c := "NothingToUndo") (st1 := [.ob (obs st ea [] true)]) (by simp [eAttr, lookD, stN, eq_nn])]
  rfl
theorem undo_ok {st : D} {ea la : List D} {b : Bool} {ds : List D} (hk : (ea ++ [D.tup ds]).all (okd 5) = true) (hl : la.length < 1000) : M_ScrolledView_undo (obs st (ea ++ [.tup ds]) la b) [] = .ok .non (obs (.tup ds) ea (la ++ [st]) false) := by
  have hne : ea ++ [D.tup ds] ≠ [] := by simp
  have hpop : popOb (obs st (ea ++ [.tup ds]) (la ++ [st]) true) (ea ++ [.tup ds]) (fun d => { obs st (ea ++ [.tup ds]) (la ++ [st]) true with st := d, ea := (ea ++ [D.tup ds]).dropLast }) = some (obs (.tup ds) ea (la ++ [st]) true) := by
    unfold popOb
    have : (ea ++ [D.tup ds])[(ea ++ [D.tup ds]).length - 1]? = some (.tup ds) := by simp
    rw [this]
    simp
  unfold M_ScrolledView_undo
  refine (mkM_of (by rfl)).trans ?_
  show fin (m_ScrolledView_undo [.ob (obs st (ea ++ [.tup ds]) la true)]) = _
  unfold m_ScrolledView_undo
  rw [so_nx (st1 := [.ob (obs st (ea ++ [.tup ds]) la true)]) (by simp [eAttr, lookD, stN, eq_nil hk, hne]), so_nx (st1 := [.ob (obs st (ea ++ [.tup ds]) (la ++ [st]) true)]) (by simp [mObAppL, obSet, hl, Ob.as]), lift_nx (st1 := [.ob (obs (.tup ds) ea (la ++ [st]) true)]) (by
    unfold mObPopE obSet
    simp only [List.getElem?_cons_zero, if_pos]
    rw [hpop]
    rfl)]
  rfl
theorem redo_ok {st : D} {ea la : List D} {b : Bool} {ds : List D} (hk : (la ++ [D.tup ds]).all (okd 5) = true) (hl : ea.length < 1000) : M_ScrolledView_redo (obs st ea (la ++ [.tup ds]) b) [] = .ok .non (obs (.tup ds) (ea ++ [st]) la false) := by
  have hne : la ++ [D.tup ds] ≠ [] := by simp
  have hpop : popOb (obs st (ea ++ [st]) (la ++ [.tup ds]) true) (la ++ [.tup ds]) (fun d => { obs st (ea ++ [st]) (la ++ [.tup ds]) true with st := d, la := (la ++ [D.tup ds]).dropLast }) = some (obs (.tup ds) (ea ++ [st]) la true) := by
    unfold popOb
    have : (la ++ [D.tup ds])[(la ++ [D.tup ds]).length - 1]? = some (.tup ds) := by simp
    rw [this]
    simp
  unfold M_ScrolledView_redo
  refine (mkM_of (by rfl)).trans ?_
  show fin (m_ScrolledView_redo [.ob (obs st ea (la ++ [.tup ds]) true)]) = _
  unfold m_ScrolledView_redo
  rw [so_nx (st1 := [.ob (obs st ea (la ++ [.tup ds]) true)]) (by simp [eAttr, lookD, stN, eq_nil hk, hne]), so_nx (st1 := [.ob (obs st (ea ++ [st]) (la ++ [.tup ds]) true)]) (by simp [mObAppE, obSet, hl, Ob.as]), lift_nx (st1 := [.ob (obs (.tup ds) (ea ++ [st]) la true)]) (by
    unfold mObPopL obSet
    simp only [List.getElem?_cons_zero, if_pos]
    rw [hpop]
    rfl)]
  rfl
theorem copy_ok {v : Vw} (h : v.ok) {row : Int} {ea la : List D} {b : Bool} : M_ScrolledView_copy (obs (sD v row) ea la b) [] = .mk (obs (sD v row) ea la false) (obs (sD v row) ea la false) := by
  unfold M_ScrolledView_copy
  refine (mkM_of (by rfl)).trans ?_
  show fin (m_ScrolledView_copy [.ob (obs (sD v row) ea la true), .un]) = _
  unfold m_ScrolledView_copy
  rw [so_nx (st1 := [.ob (obs (sD v row) ea la true), .ob (obs (.tup [v.d, .int 0]) [] [] false)]) (by simp [mNewO, eObS, ixp0, check_view_ok h, newOb]), so_nx (st1 := [.ob (obs (sD v row) ea la true), .ob (obs (sD v row) [] [] false)]) (by simp [mObSt, eObS, obSet, Ob.as]),
    so_nx (st1 := [.ob (obs (sD v row) ea la true), .ob (obs (sD v row) ea [] false)]) (by simp [mObCpE, obCp, obSet, Ob.as]), so_nx (st1 := [.ob (obs (sD v row) ea la true), .ob (obs (sD v row) ea la false)]) (by simp [mObCpL, obCp, obSet, Ob.as])]
  simp [soRetOb, fin, mkM2, Ob.as]
/-! ### the lambdas -/
theorem ix_0 : lam_0.ix = [0, 1] := rfl
theorem ix_1 : lam_1.ix = [0, 1, 2] := rfl
theorem ix_2 : lam_2.ix = [0, 1] := rfl
theorem ix_3 : lam_3.ix = [0, 1, 2] := rfl
theorem ix_4 : lam_4.ix = [0] := rfl
theorem ix_5 : lam_5.ix = [0] := rfl
def calls (x : Addr) (a b : Int) : List D := [.thk lam_0 [.adr x, .int a], .thk lam_1 [.adr x, .int a, .int b], .thk lam_2 [.adr x, .int a], .thk lam_3 [.adr x, .int a, .int b], .thk lam_4 [.adr x], .thk lam_5 [.adr x]]
theorem retL_ok {i : Nat} {st : Store} {ks : List LamCode} {ts : List D} (hi : st[i]? = some (.lams ks)) (ht : thksOf st ks = some ts) : mRetL i ks st = .rt (.lst ts) := by
  unfold mRetL
  rw [hi]
  simp [ht]
theorem calls_eq (x : Addr) (a b : Int) : F__law_calls [.adr x, .int a, .int b] = .ok (.lst (calls x a b)) := by
  refine mkF_rt rfl ?_
  show rtOnly m0__law_calls [.dat (.adr x), .dat (.int a), .dat (.int b), .un] = _
  have e1 : m0__law_calls [.dat (.adr x), .dat (.int a), .dat (.int b), .un] = mRetL 3 ks__law_calls__law_calls_here [.dat (.adr x), .dat (.int a), .dat (.int b), .lams ks__law_calls__law_calls_here] := rfl
  have e2 : thksOf [.dat (.adr x), .dat (.int a), .dat (.int b), .lams ks__law_calls__law_calls_here] ks__law_calls__law_calls_here = some (calls x a b) := by
    simp only [ks__law_calls__law_calls_here, thksOf, capIx, ix_0, ix_1, ix_2, ix_3, ix_4, ix_5]
    rfl
  unfold rtOnly
  rw [e1, retL_ok rfl e2]
/-- what a kind's call does -/
noncomputable def TRk (kind a b : Int) (o : Ob) : RM := if kind = 0 then TR__law_result lam_0 o [.int a] else if kind = 1 then TR__law_result lam_1 o [.int a, .int b] else if kind = 2 then TR__law_result lam_2 o [.int a] else if kind = 3 then TR__law_result lam_3 o [.int a, .int b] else if kind = 4 then TR__law_result lam_4 o [] else TR__law_result lam_5 o []
theorem eRes_k {st : Store} {o : Ob} {kind a b : Int} (h2 : st[(2 : Nat)]? = some (.ob o)) (h8 : st[(8 : Nat)]? = some (.dat (.int a))) (h9 : st[(9 : Nat)]? = some (.dat (.int b))) (h6 : st[(6 : Nat)]? = some (.dat (.int kind))) (k0 : 0 ≤ kind) (k1 : kind ≤ 5) (hn : o.nt = true) :
    eRes 2 (bin ixD (eCall 3 F__law_calls (aCons (eVar 2) (aCons (eVar 8) (aCons (eVar 9) aNil)))) (eVar 6)) TR__law_result st = setO 2 o st (TRk kind a b (o.as false)) := by
  have il : 2 < st.length := (List.getElem?_eq_some_iff.mp h2).1
  have go : ∀ x : Addr, bin ixD (eCall 3 F__law_calls (aCons (eVar 2) (aCons (eVar 8) (aCons (eVar 9) aNil)))) (eVar 6) (st.set 2 (.dat (.adr x))) = R.of (ixD (.lst (calls x a b)) (.int kind)) := fun x => by
    have e2 : (st.set 2 (.dat (.adr x)))[(2 : Nat)]? = some (.dat (.adr x)) := List.getElem?_set_self il
    have e8 : (st.set 2 (.dat (.adr x)))[(8 : Nat)]? = some (.dat (.int a)) := by rw [List.getElem?_set_ne (by decide)]; exact h8
    have e9 : (st.set 2 (.dat (.adr x)))[(9 : Nat)]? = some (.dat (.int b)) := by rw [List.getElem?_set_ne (by decide)]; exact h9
    have e6 : (st.set 2 (.dat (.adr x)))[(6 : Nat)]? = some (.dat (.int kind)) := by rw [List.getElem?_set_ne (by decide)]; exact h6
    simp [e2, e8, e9, e6, calls_eq]
  have ck : kind = 0 ∨ kind = 1 ∨ kind = 2 ∨ kind = 3 ∨ kind = 4 ∨ kind = 5 := by omega
  rcases ck with rfl | rfl | rfl | rfl | rfl | rfl
  · exact eRes_eq (lc := lam_0) (ds := [.int a]) h2 (fun x => go x) rfl hn
  · exact eRes_eq (lc := lam_1) (ds := [.int a, .int b]) h2 (fun x => go x) rfl hn
  · exact eRes_eq (lc := lam_2) (ds := [.int a]) h2 (fun x => go x) rfl hn
  · exact eRes_eq (lc := lam_3) (ds := [.int a, .int b]) h2 (fun x => go x) rfl hn
  · exact eRes_eq (lc := lam_4) (ds := []) h2 (fun x => go x) rfl hn
  · exact eRes_eq (lc := lam_5) (ds := []) h2 (fun x => go x) rfl hn
theorem res_ok' {d : D} {o : Ob} : resM exm_ScrollError su__law_result (.ok d o) = .ok d o := rfl
theorem res_rs' {c : PySem.Str} {o : Ob} (h : c ∈ excs) : resM exm_ScrollError su__law_result (.rs c o) = .ok (.tup [.str "error", .str c]) o := by
  simp [resM, exm_ScrollError, h, su__law_result, eHot, class_ok h, flatR, flatD]
theorem runL_ok {f : MEO} {o o' : Ob} {ds : List D} {d : D} (h : f (.ob (o.as false) :: ds.map Slot.dat) = .ok d (.ob (o'.as false) :: ds.map Slot.dat)) : runL f o ds = .ok d (o'.as false) := by
  unfold runL
  rw [h]
  rfl
theorem runL_rs {f : MEO} {o o' : Ob} {ds : List D} {c : PySem.Str} (h : f (.ob (o.as false) :: ds.map Slot.dat) = .rs c (.ob (o'.as false) :: ds.map Slot.dat)) : runL f o ds = .rs c (o'.as false) := by
  unfold runL
  rw [h]
  rfl
theorem inX (c : PySem.Str) (h : c = "InvalidStep" ∨ c = "InvalidRow" ∨ c = "InvalidSize" ∨ c = "InvalidChange" ∨ c = "NothingToUndo") : c ∈ excs := by
  rcases h with rfl | rfl | rfl | rfl | rfl <;> simp [excs]
theorem eMO_eq {n : Nat} {M : Ob → List D → RM} {a : MA} {st : D} {ea la ds : List D} {r : List Slot} (ha : a (.ob (obs st ea la false) :: r) = .ok ds) (hl : ds.length = n) : eMO 0 "ScrolledView" n M a (.ob (obs st ea la false) :: r) = setO 0 (obs st ea la false) (.ob (obs st ea la false) :: r) (M (obs st ea la false) ds) := by
  unfold eMO
  simp only [List.getElem?_cons_zero, if_pos, ha, hl]
  rfl
section
variable {v : Vw} {row a b : Int} {ea la : List D}
theorem t0_ok (h : v.ok) (hl : ea.length < 1000) (h0 : 0 ≤ a) (h1 : a ≤ v.s) : TRk 0 a b (obs (sD v row) ea la false) = .ok (.int (v.first a)) (obs (sD v (v.first a)) (ea ++ [sD v row]) [] false) := by
  show resM _ _ (TFO lam_0 _ _) = _
  rw [TFO_0, runL_ok (o' := obs (sD v (v.first a)) (ea ++ [sD v row]) [] false) (d := .int (v.first a))]
  · rfl
  · show eMO 0 "ScrolledView" 1 M_ScrolledView_go (aCons (eVar 1) aNil) (.ob (obs (sD v row) ea la false) :: [.dat (.int a)]) = _
    rw [eMO_eq (ds := [.int a]) (by rfl) (by rfl), go_ok h hl h0 h1]
    rfl
theorem t0_no (h : v.ok) (hk : ¬ (0 ≤ a ∧ a ≤ v.s)) : TRk 0 a b (obs (sD v row) ea la false) = .ok (.tup [.str "error", .str "InvalidStep"]) (obs (sD v row) ea la false) := by
  show resM _ _ (TFO lam_0 _ _) = _
  rw [TFO_0, runL_rs (o' := obs (sD v row) ea la false) (c := "InvalidStep")]
  · exact res_rs' (inX _ (by simp))
  · show eMO 0 "ScrolledView" 1 M_ScrolledView_go (aCons (eVar 1) aNil) (.ob (obs (sD v row) ea la false) :: [.dat (.int a)]) = _
    rw [eMO_eq (ds := [.int a]) (by rfl) (by rfl), go_no h hk]
    rfl
theorem t1_ok (h : v.ok) (hl : ea.length < 1000) (h0 : 1 ≤ a) (h1 : a ≤ v.h) (n0 : -99 ≤ b) (n1 : b ≤ 99) : TRk 1 a b (obs (sD v row) ea la false) = .ok (.int (max 0 (min (row + a * b) v.rest))) (obs (sD v (max 0 (min (row + a * b) v.rest))) (ea ++ [sD v row]) [] false) := by
  have hh := h.w.h30
  show resM _ _ (TFO lam_1 _ _) = _
  rw [TFO_1, runL_ok (o' := obs (sD v (max 0 (min (row + a * b) v.rest))) (ea ++ [sD v row]) [] false) (d := .int (max 0 (min (row + a * b) v.rest)))]
  · rfl
  · show eMO 0 "ScrolledView" 2 M_ScrolledView_turn (aCons (eVar 1) (aCons (eVar 2) aNil)) (.ob (obs (sD v row) ea la false) :: [.dat (.int a), .dat (.int b)]) = _
    rw [eMO_eq (ds := [.int a, .int b]) (by rfl) (by rfl), turn_ok hl h0 h1 (by omega) n0 n1]
    rfl
theorem t1_no (hk : ¬ (1 ≤ a ∧ a ≤ v.h)) : TRk 1 a b (obs (sD v row) ea la false) = .ok (.tup [.str "error", .str "InvalidSize"]) (obs (sD v row) ea la false) := by
  show resM _ _ (TFO lam_1 _ _) = _
  rw [TFO_1, runL_rs (o' := obs (sD v row) ea la false) (c := "InvalidSize")]
  · exact res_rs' (inX _ (by simp))
  · show eMO 0 "ScrolledView" 2 M_ScrolledView_turn (aCons (eVar 1) (aCons (eVar 2) aNil)) (.ob (obs (sD v row) ea la false) :: [.dat (.int a), .dat (.int b)]) = _
    rw [eMO_eq (ds := [.int a, .int b]) (by rfl) (by rfl), turn_no hk]
    rfl
theorem t2_ok (hl : ea.length < 1000) (h0 : 0 ≤ a) (h1 : a ≤ v.rows - 1) : TRk 2 a b (obs (sD v row) ea la false) = .ok (.int (near v a row)) (obs (sD v (near v a row)) (ea ++ [sD v row]) [] false) := by
  show resM _ _ (TFO lam_2 _ _) = _
  rw [TFO_2, runL_ok (o' := obs (sD v (near v a row)) (ea ++ [sD v row]) [] false) (d := .int (near v a row))]
  · rfl
  · show eMO 0 "ScrolledView" 1 M_ScrolledView_show (aCons (eVar 1) aNil) (.ob (obs (sD v row) ea la false) :: [.dat (.int a)]) = _
    rw [eMO_eq (ds := [.int a]) (by rfl) (by rfl), show_ok hl h0 h1]
    rfl
theorem t2_no (hk : ¬ (0 ≤ a ∧ a ≤ v.rows - 1)) : TRk 2 a b (obs (sD v row) ea la false) = .ok (.tup [.str "error", .str "InvalidRow"]) (obs (sD v row) ea la false) := by
  show resM _ _ (TFO lam_2 _ _) = _
  rw [TFO_2, runL_rs (o' := obs (sD v row) ea la false) (c := "InvalidRow")]
  · exact res_rs' (inX _ (by simp))
  · show eMO 0 "ScrolledView" 1 M_ScrolledView_show (aCons (eVar 1) aNil) (.ob (obs (sD v row) ea la false) :: [.dat (.int a)]) = _
    rw [eMO_eq (ds := [.int a]) (by rfl) (by rfl), show_no hk]
    rfl
theorem args3 (o : Ob) : aCons (eTup (aCons (eC (.str "insert")) (aCons (eVar 1) (aCons (bin addD (eC (.int 1)) (bin modD (eVar 2) (eC (.int 4)))) aNil)))) aNil [.ob o, .dat (.int a), .dat (.int b)] = .ok [chg true a (1 + b % 4)] := by
  simp [mod_p, chg, wd]
theorem t3_ok (h : v.ok) (hl : ea.length < 1000) (a0 : 0 ≤ a) (m : may v true a (1 + b % 4) = true) : TRk 3 a b (obs (sD v row) ea la false) = .ok (.int (kept v row true a (1 + b % 4))) (obs (sD (v.chg true (1 + b % 4)) (kept v row true a (1 + b % 4))) (ea ++ [sD v row]) [] false) := by
  show resM _ _ (TFO lam_3 _ _) = _
  rw [TFO_3, runL_ok (o' := obs (sD (v.chg true (1 + b % 4)) (kept v row true a (1 + b % 4))) (ea ++ [sD v row]) [] false) (d := .int (kept v row true a (1 + b % 4)))]
  · rfl
  · show eMO 0 "ScrolledView" 1 M_ScrolledView_change (aCons (eTup (aCons (eC (.str "insert")) (aCons (eVar 1) (aCons (bin addD (eC (.int 1)) (bin modD (eVar 2) (eC (.int 4)))) aNil)))) aNil) (.ob (obs (sD v row) ea la false) :: [.dat (.int a), .dat (.int b)]) = _
    rw [eMO_eq (ds := [chg true a (1 + b % 4)]) (args3 _) (by rfl), change_ok h hl a0 (by omega) (by omega) m]
    rfl
theorem t3_no (h : v.ok) (hn : ¬ (0 ≤ a ∧ a ≤ v.rows ∧ v.rows + (1 + b % 4) ≤ 99)) : TRk 3 a b (obs (sD v row) ea la false) = .ok (.tup [.str "error", .str "InvalidChange"]) (obs (sD v row) ea la false) := by
  show resM _ _ (TFO lam_3 _ _) = _
  rw [TFO_3, runL_rs (o' := obs (sD v row) ea la false) (c := "InvalidChange")]
  · exact res_rs' (inX _ (by simp))
  · show eMO 0 "ScrolledView" 1 M_ScrolledView_change (aCons (eTup (aCons (eC (.str "insert")) (aCons (eVar 1) (aCons (bin addD (eC (.int 1)) (bin modD (eVar 2) (eC (.int 4)))) aNil)))) aNil) (.ob (obs (sD v row) ea la false) :: [.dat (.int a), .dat (.int b)]) = _
    rw [eMO_eq (ds := [chg true a (1 + b % 4)]) (args3 _) (by rfl), change_no h (by omega) (by omega) hn]
    rfl
theorem t4_no {st : D} : TRk 4 a b (obs st [] la false) = .ok (.tup [.str "error", .str "NothingToUndo"]) (obs st [] la false) := by
  show resM _ _ (TFO lam_4 _ _) = _
  rw [TFO_4, runL_rs (o' := obs st [] la false) (c := "NothingToUndo")]
  · exact res_rs' (inX _ (by simp))
  · show eMO 0 "ScrolledView" 0 M_ScrolledView_undo aNil (.ob (obs st [] la false) :: []) = _
    rw [eMO_eq (ds := []) (by rfl) (by rfl), undo_no]
    rfl
theorem t4_ok {st : D} {ds : List D} (hk : (ea ++ [D.tup ds]).all (okd 5) = true) (hl : la.length < 1000) : TRk 4 a b (obs st (ea ++ [D.tup ds]) la false) = .ok .non (obs (.tup ds) ea (la ++ [st]) false) := by
  show resM _ _ (TFO lam_4 _ _) = _
  rw [TFO_4, runL_ok (o' := obs (.tup ds) ea (la ++ [st]) false) (d := .non)]
  · rfl
  · show eMO 0 "ScrolledView" 0 M_ScrolledView_undo aNil (.ob (obs st (ea ++ [D.tup ds]) la false) :: []) = _
    rw [eMO_eq (ds := []) (by rfl) (by rfl), undo_ok hk hl]
    rfl
theorem t5_no {st : D} : TRk 5 a b (obs st ea [] false) = .ok (.tup [.str "error", .str "NothingToUndo"]) (obs st ea [] false) := by
  show resM _ _ (TFO lam_5 _ _) = _
  rw [TFO_5, runL_rs (o' := obs st ea [] false) (c := "NothingToUndo")]
  · exact res_rs' (inX _ (by simp))
  · show eMO 0 "ScrolledView" 0 M_ScrolledView_redo aNil (.ob (obs st ea [] false) :: []) = _
    rw [eMO_eq (ds := []) (by rfl) (by rfl), redo_no]
    rfl
theorem t5_ok {st : D} {ds : List D} (hk : (la ++ [D.tup ds]).all (okd 5) = true) (hl : ea.length < 1000) : TRk 5 a b (obs st ea (la ++ [D.tup ds]) false) = .ok .non (obs (.tup ds) (ea ++ [st]) la false) := by
  show resM _ _ (TFO lam_5 _ _) = _
  rw [TFO_5, runL_ok (o' := obs (.tup ds) (ea ++ [st]) la false) (d := .non)]
  · rfl
  · show eMO 0 "ScrolledView" 0 M_ScrolledView_redo aNil (.ob (obs st ea (la ++ [D.tup ds]) false) :: []) = _
    rw [eMO_eq (ds := []) (by rfl) (by rfl), redo_ok hk hl]
    rfl
end
/-! ### what is due -/
theorem seq_rt' {a b : MS} {st : Store} {d : D} (h : a st = .rt d) : mSeq a b st = .rt d := by unfold mSeq; rw [h]
theorem law_firsts_eq {v : Vw} (h : v.wok) : F__law_firsts [v.d] = .ok (Ls v.firsts) := by
  have ⟨g1, g2, g3, g4, g5, g6⟩ := h
  have ⟨r0, r1⟩ := rest_bd h
  have q := comp_all (it := iArg range1A (aCons (bin addD (eVar 3) (eC (.int 1))) aNil)) (own := [5]) (b := bName 5) (e := eCall 3 F__law_round (aCons (bin mulD (eVar 5) (bin subD (eVar 1) (eVar 2))) (aCons (eVar 3) (aCons (eVar 4) aNil)))) (st := [.dat v.d, .dat (.int v.rows), .dat (.int v.h), .dat (.int v.s), .dat (.str v.r.s), .un]) (ns := iota (v.s + 1)) (g := v.first)
    (by simp [range1_ok (show v.s + 1 ≤ 100000 by omega) (show 0 ≤ v.s + 1 by omega)]) (by rw [iota_length]; omega) (fun k hk => by
      have ⟨k0, k1⟩ := mem_iota.mp hk
      have hw : wipeS [.dat v.d, .dat (.int v.rows), .dat (.int v.h), .dat (.int v.s), .dat (.str v.r.s), .un] [5] = [.dat v.d, .dat (.int v.rows), .dat (.int v.h), .dat (.int v.s), .dat (.str v.r.s), .un] := rfl
      have hr : v.rows - v.h = v.rest := rfl
      exact ⟨_, rfl, by simp [hw, mul_l (show -18446744073709551616 < k by omega) (show k < 18446744073709551616 by omega), hr, law_round_eq v.r (show 0 < v.s by omega) (show v.s ≤ 1000000 by omega), Vw.first]⟩)
  refine mkF_rt rfl ?_
  show m__law_firsts [.dat v.d, .un, .un, .un, .un, .un] = _
  unfold m__law_firsts
  rw [seq_nx (st1 := [.dat v.d, .dat (.int v.rows), .dat (.int v.h), .dat (.int v.s), .dat (.str v.r.s), .un]) (by rfl)]
  refine ret_ok ?_
  exact q
abbrev nS0 (v : Vw) (row kind a b : Int) : Store := [.dat (sD v row), .dat (.int kind), .dat (.int a), .dat (.int b), .dat v.d, .dat (.int row), .dat (.int v.rows), .dat (.int v.h), .dat (.int v.s), .dat (.str v.r.s), .dat (.int v.rest), .un, .un, .un]
theorem next_of {v : Vw} {row kind a b : Int} {d : D} (h : (mSeq (mIf (mVal (bin eqD (eVar 1) (eC (.int 0)))) (mRet (eIf (mAnd (mVal (bin leD (eC (.int 0)) (eVar 2))) (mVal (bin leD (eVar 2) (eVar 8)))) (eTup (aCons (eC .non) (aCons (eTup (aCons (eVar 4) (aCons (bin ixD (eCall 1 F__law_firsts (aCons (eVar 4) aNil)) (eVar 2)) aNil))) aNil))) (eTup (aCons (eC (.str "InvalidStep")) (aCons (eC .non) aNil))))) mNx)
    (mSeq (mIf (mVal (bin eqD (eVar 1) (eC (.int 1)))) (mSeq (mIf (mOr (mVal (bin ltD (eVar 2) (eC (.int 1)))) (mVal (bin gtD (eVar 2) (eVar 7)))) (mRet (eTup (aCons (eC (.str "InvalidSize")) (aCons (eC .non) aNil)))) mNx)
    (mRet (eTup (aCons (eC .non) (aCons (eTup (aCons (eVar 4) (aCons (bcall max2B (aCons (eC (.int 0)) (aCons (bcall min2B (aCons (eVar 10) (aCons (bin addD (eVar 5) (bin mulD (eVar 2) (eVar 3))) aNil))) aNil))) aNil))) aNil))))) mNx)
    (mSeq (mIf (mVal (bin eqD (eVar 1) (eC (.int 2)))) (mSeq (mIf (mOr (mVal (bin ltD (eVar 2) (eC (.int 0)))) (mVal (bin geD (eVar 2) (eVar 6)))) (mRet (eTup (aCons (eC (.str "InvalidRow")) (aCons (eC .non) aNil)))) mNx)
    (mSeq (mSet 11 (eComp (iArg range1A (aCons (bin addD (eVar 10) (eC (.int 1))) aNil)) [13] (bName 13) (mAnd (mVal (bin leD (eVar 13) (eVar 2))) (mVal (bin ltD (eVar 2) (bin addD (eVar 13) (eVar 7))))) (eVar 13)))
    (mRet (eTup (aCons (eC .non) (aCons (eTup (aCons (eVar 4) (aCons (bin ixD (bcall minPB (aCons (eComp (iSeq lstD (eVar 11)) [13] (bName 13) mYes (eTup (aCons (bcall absB (aCons (bin subD (eVar 13) (eVar 5)) aNil)) (aCons (eVar 13) aNil)))) aNil)) (eC (.int 1))) aNil))) aNil)))))) mNx)
    (mSeq (mSet 12 (bin addD (eC (.int 1)) (bin modD (eVar 3) (eC (.int 4)))))
    (mSeq (mIf (mOr (mVal (bin ltD (eVar 2) (eC (.int 0)))) (mOr (mVal (bin gtD (eVar 2) (eVar 6))) (mVal (bin gtD (bin addD (eVar 6) (eVar 12)) (eC (.int 99)))))) (mRet (eTup (aCons (eC (.str "InvalidChange")) (aCons (eC .non) aNil)))) mNx)
    (mRet (eTup (aCons (eC .non) (aCons (eTup (aCons (eTup (aCons (bin addD (eVar 6) (eVar 12)) (aCons (eVar 7) (aCons (eVar 8) (aCons (eVar 9) aNil))))) (aCons (eIf (mVal (bin leD (eVar 2) (eVar 5))) (bin addD (eVar 5) (eVar 12)) (eVar 5)) aNil))) aNil))))))))) (nS0 v row kind a b) = .rt d) : F__law_next [sD v row, .int kind, .int a, .int b] = .ok d := by
  refine mkF_rt rfl ?_
  show m__law_next [.dat (sD v row), .dat (.int kind), .dat (.int a), .dat (.int b), .un, .un, .un, .un, .un, .un, .un, .un, .un, .un] = _
  unfold m__law_next
  rw [seq_nx (st1 := [.dat (sD v row), .dat (.int kind), .dat (.int a), .dat (.int b), .dat v.d, .dat (.int row), .un, .un, .un, .un, .un, .un, .un, .un]) (by rfl),
    seq_nx (st1 := [.dat (sD v row), .dat (.int kind), .dat (.int a), .dat (.int b), .dat v.d, .dat (.int row), .dat (.int v.rows), .dat (.int v.h), .dat (.int v.s), .dat (.str v.r.s), .un, .un, .un, .un]) (by rfl),
    seq_nx (st1 := nS0 v row kind a b) (by rfl)]
  exact h
theorem n0_ok {v : Vw} (h : v.ok) {row a b : Int} (h0 : 0 ≤ a) (h1 : a ≤ v.s) : F__law_next [sD v row, .int 0, .int a, .int b] = .ok (.tup [.non, sD v (v.first a)]) := by
  refine next_of ?_
  simp [law_firsts_eq h.w, h0, h1, firsts_ix h0 h1]
theorem n0_no {v : Vw} {row a b : Int} (hk : ¬ (0 ≤ a ∧ a ≤ v.s)) : F__law_next [sD v row, .int 0, .int a, .int b] = .ok (.tup [.str "InvalidStep", .non]) := by
  refine next_of ?_
  by_cases h0 : 0 ≤ a
  · have h1 : ¬ a ≤ v.s := fun z => hk ⟨h0, z⟩
    simp [h0, h1]
  · simp [h0]
theorem n1_ok {v : Vw} {row a b : Int} (h0 : 1 ≤ a) (h1 : a ≤ v.h) (hh : v.h ≤ 1000) : F__law_next [sD v row, .int 1, .int a, .int b] = .ok (.tup [.non, sD v (max 0 (min (row + a * b) v.rest))]) := by
  refine next_of ?_
  have e1 : ¬ a < 1 := by omega
  have e2 : ¬ v.h < a := by omega
  have e3 : min v.rest (row + a * b) = min (row + a * b) v.rest := Int.min_comm ..
  simp [e1, e2, e3, mul_l (show -18446744073709551616 < a by omega) (show a < 18446744073709551616 by omega)]
theorem n1_no {v : Vw} {row a b : Int} (hk : ¬ (1 ≤ a ∧ a ≤ v.h)) : F__law_next [sD v row, .int 1, .int a, .int b] = .ok (.tup [.str "InvalidSize", .non]) := by
  refine next_of ?_
  by_cases h0 : a < 1
  · simp [h0]
  · have h1 : v.h < a := by omega
    simp [h0, h1]
theorem near_in {v : Vw} (h : v.wok) {row a : Int} (r0 : 0 ≤ row) (r1 : row ≤ v.rest) (h0 : 0 ≤ a) (h1 : a < v.rows) : (0 ≤ near v a row ∧ near v a row < v.rest + 1) ∧ near v a row ≤ a ∧ a < near v a row + v.h := by
  have ⟨g1, g2, g3, g4, g5, g6⟩ := h
  have hr : v.rest = v.rows - v.h := rfl
  unfold near
  omega
theorem near_least {v : Vw} {row a f : Int} (h0 : 0 ≤ f) (h1 : f < v.rest + 1) (h2 : f ≤ a) (h3 : a < f + v.h) (r0 : 0 ≤ row) (r1 : row ≤ v.rest) (hn : ¬ (((near v a row - row).natAbs : Int) < ((f - row).natAbs : Int) ∨ (((near v a row - row).natAbs : Int) = ((f - row).natAbs : Int) ∧ near v a row < f))) : f = near v a row := by
  unfold near at *
  omega
theorem n2_ok {v : Vw} (h : v.ok) {row a b : Int} (r0 : 0 ≤ row) (r1 : row ≤ v.rest) (h0 : 0 ≤ a) (h1 : a ≤ v.rows - 1) : F__law_next [sD v row, .int 2, .int a, .int b] = .ok (.tup [.non, sD v (near v a row)]) := by
  have ⟨q0, q1⟩ := rest_bd h.w
  have nin := near_in h.w r0 r1 h0 (by omega)
  obtain ⟨fs, hfs⟩ : ∃ fs, fs = (iota (v.rest + 1)).filter fun f => decide (f ≤ a) && decide (a < f + v.h) := ⟨_, rfl⟩
  have mem : ∀ f, f ∈ fs ↔ (0 ≤ f ∧ f < v.rest + 1) ∧ f ≤ a ∧ a < f + v.h := fun f => by
    rw [hfs, List.mem_filter, mem_iota, Bool.and_eq_true, decide_eq_true_eq, decide_eq_true_eq]
  have hl : fs.length ≤ 100000 := by
    have := List.length_filter_le (fun f => decide (f ≤ a) && decide (a < f + v.h)) (iota (v.rest + 1))
    rw [iota_length, ← hfs] at this
    omega
  have c1 := comp_ints (it := iArg range1A (aCons (bin addD (eVar 10) (eC (.int 1))) aNil)) (own := [13]) (b := bName 13) (c := mAnd (mVal (bin leD (eVar 13) (eVar 2))) (mVal (bin ltD (eVar 2) (bin addD (eVar 13) (eVar 7))))) (e := eVar 13) (st := nS0 v row 2 a b) (ns := iota (v.rest + 1)) (p := fun f => decide (f ≤ a) && decide (a < f + v.h)) (g := fun f => f)
    (by simp [range1_ok (show v.rest + 1 ≤ 100000 by omega) (show 0 ≤ v.rest + 1 by omega)]) (by rw [iota_length]; omega) (fun k hk => ⟨_, rfl, by
      by_cases z : k ≤ a
      · simp [wipeS, z]
      · simp [wipeS, z], fun _ => by simp [wipeS]⟩)
  rw [List.map_id', ← hfs] at c1
  have c2 := comp_prs (it := iSeq lstD (eVar 11)) (own := [13]) (b := bName 13) (e := eTup (aCons (bcall absB (aCons (bin subD (eVar 13) (eVar 5)) aNil)) (aCons (eVar 13) aNil))) (st := [.dat (sD v row), .dat (.int 2), .dat (.int a), .dat (.int b), .dat v.d, .dat (.int row), .dat (.int v.rows), .dat (.int v.h), .dat (.int v.s), .dat (.str v.r.s), .dat (.int v.rest), .dat (Ls fs), .un, .un]) (ns := fs) (g := fun f => (((f - row).natAbs : Int), f))
    (by simp [Ls]) hl (fun k hk => ⟨_, rfl, by simp [wipeS]⟩)
  obtain ⟨p, ps, hp⟩ : ∃ p ps, fs.map (fun f => (((f - row).natAbs : Int), f)) = p :: ps := by
    cases hq : fs with
    | nil =>
      have := (mem (near v a row)).mpr nin
      rw [hq] at this
      cases this
    | cons f r => exact ⟨_, _, rfl⟩
  have hm := minPr_mem ps p
  have hle := minPr_least ps p (((near v a row - row).natAbs : Int), near v a row) (by
    rw [← hp]
    exact List.mem_map.mpr ⟨_, (mem _).mpr nin, rfl⟩)
  rw [← hp] at hm
  obtain ⟨f, hf, ef⟩ := List.mem_map.mp hm
  rw [← ef] at hle
  unfold prLt at hle
  rw [decide_eq_true_eq] at hle
  obtain ⟨⟨f0, f1⟩, f2, f3⟩ := (mem f).mp hf
  have e2 : f = near v a row := near_least f0 f1 f2 f3 r0 r1 hle
  rw [hp] at c2
  have c3 := minPB_cons p ps
  rw [← ef, e2] at c3
  have e1 : ¬ a < 0 := by omega
  have e3 : ¬ v.rows ≤ a := by omega
  refine next_of ?_
  rw [seq_nx (st1 := nS0 v row 2 a b) (by simp), seq_nx (st1 := nS0 v row 2 a b) (by simp)]
  have i1 : mIf (mVal (bin eqD (eVar 1) (eC (.int 2)))) (mSeq (mIf (mOr (mVal (bin ltD (eVar 2) (eC (.int 0)))) (mVal (bin geD (eVar 2) (eVar 6)))) (mRet (eTup (aCons (eC (.str "InvalidRow")) (aCons (eC .non) aNil)))) mNx)
    (mSeq (mSet 11 (eComp (iArg range1A (aCons (bin addD (eVar 10) (eC (.int 1))) aNil)) [13] (bName 13) (mAnd (mVal (bin leD (eVar 13) (eVar 2))) (mVal (bin ltD (eVar 2) (bin addD (eVar 13) (eVar 7))))) (eVar 13)))
    (mRet (eTup (aCons (eC .non) (aCons (eTup (aCons (eVar 4) (aCons (bin ixD (bcall minPB (aCons (eComp (iSeq lstD (eVar 11)) [13] (bName 13) mYes (eTup (aCons (bcall absB (aCons (bin subD (eVar 13) (eVar 5)) aNil)) (aCons (eVar 13) aNil)))) aNil)) (eC (.int 1))) aNil))) aNil)))))) mNx (nS0 v row 2 a b) = .rt (.tup [.non, sD v (near v a row)]) := by
    rw [if_yes (by simp), seq_nx (st1 := nS0 v row 2 a b) (by simp [e1, e3]), seq_nx (st1 := [.dat (sD v row), .dat (.int 2), .dat (.int a), .dat (.int b), .dat v.d, .dat (.int row), .dat (.int v.rows), .dat (.int v.h), .dat (.int v.s), .dat (.str v.r.s), .dat (.int v.rest), .dat (Ls fs), .un, .un]) (set_ok c1)]
    refine ret_ok ?_
    have th : thaw [.dat (sD v row), .dat (.int 2), .dat (.int a), .dat (.int b), .dat v.d, .dat (.int row), .dat (.int v.rows), .dat (.int v.h), .dat (.int v.s), .dat (.str v.r.s), .dat (.int v.rest), .dat (Ls fs), .un, .un] = [.dat (sD v row), .dat (.int 2), .dat (.int a), .dat (.int b), .dat v.d, .dat (.int row), .dat (.int v.rows), .dat (.int v.h), .dat (.int v.s), .dat (.str v.r.s), .dat (.int v.rest), .dat (Ls fs), .un, .un] := rfl
    rw [th]
    have c4 : bcall minPB (aCons (eComp (iSeq lstD (eVar 11)) [13] (bName 13) mYes (eTup (aCons (bcall absB (aCons (bin subD (eVar 13) (eVar 5)) aNil)) (aCons (eVar 13) aNil)))) aNil) [.dat (sD v row), .dat (.int 2), .dat (.int a), .dat (.int b), .dat v.d, .dat (.int row), .dat (.int v.rows), .dat (.int v.h), .dat (.int v.s), .dat (.str v.r.s), .dat (.int v.rest), .dat (Ls fs), .un, .un] = .ok (.tup [.int ((near v a row - row).natAbs : Int), .int (near v a row)]) := by
      rw [bcall_eq, aCons_eq, c2]
      simp [c3]
    simp only [eTup_eq, aCons_eq, bin_eq, c4]
    simp [ixp1]
  exact seq_rt' i1
theorem n2_no {v : Vw} {row a b : Int} (hk : ¬ (0 ≤ a ∧ a ≤ v.rows - 1)) : F__law_next [sD v row, .int 2, .int a, .int b] = .ok (.tup [.str "InvalidRow", .non]) := by
  refine next_of ?_
  by_cases h0 : a < 0
  · simp [h0]
  · have h1 : v.rows ≤ a := by omega
    simp [h0, h1]
theorem n3_ok {v : Vw} {row a b : Int} (h0 : 0 ≤ a) (h1 : a ≤ v.rows) (h2 : v.rows + (1 + b % 4) ≤ 99) : F__law_next [sD v row, .int 3, .int a, .int b] = .ok (.tup [.non, sD (v.chg true (1 + b % 4)) (if a ≤ row then row + (1 + b % 4) else row)]) := by
  refine next_of ?_
  have e1 : ¬ a < 0 := by omega
  have e2 : ¬ v.rows < a := by omega
  have e3 : ¬ 99 < v.rows + (1 + b % 4) := by omega
  simp [e1, e2, e3, mod_p]
  rfl
theorem n3_no {v : Vw} {row a b : Int} (hn : ¬ (0 ≤ a ∧ a ≤ v.rows ∧ v.rows + (1 + b % 4) ≤ 99)) : F__law_next [sD v row, .int 3, .int a, .int b] = .ok (.tup [.str "InvalidChange", .non]) := by
  refine next_of ?_
  by_cases h0 : a < 0
  · simp [h0, mod_p]
  · by_cases h1 : v.rows < a
    · simp [h0, h1, mod_p]
    · have e3 : 99 < v.rows + (1 + b % 4) := by omega
      simp [h0, h1, e3, mod_p]
/-! ### the law -/
abbrev sd (p : Vw × Int) : D := sD p.1 p.2
structure Gd (p : Vw × Int) : Prop where
  ok : p.1.ok
  r0 : 0 ≤ p.2
  r1 : p.2 ≤ p.1.rest
/-- the states before, now, behind -/
def Zd (L : List (Vw × Int)) (c : Vw × Int) (R : List (Vw × Int)) : D := .lst ((L ++ c :: R).map sd)
def Zo (L : List (Vw × Int)) (c : Vw × Int) (R : List (Vw × Int)) : Ob := obs (sd c) (L.map sd) (R.reverse.map sd) false
def B (ns : List Int) (v0 : Vw) (o : Ob) (sts : D) (at' : Int) (x5 x6 x7 x8 x9 x10 x11 x12 x13 x14 x15 x16 x17 : Slot) : Store := [.dat (.scr ns), .dat v0.d, .ob o, .dat sts, .dat (.int at'), x5, x6, x7, x8, x9, x10, x11, x12, x13, x14, x15, x16, x17]
theorem zix (L : List (Vw × Int)) (c : Vw × Int) (R : List (Vw × Int)) : ixD (Zd L c R) (.int (L.length : Int)) = some (sd c) := by
  show atI ((L ++ c :: R).map sd) (L.length : Int) = some (sd c)
  refine atI_some (by omega) ?_
  rw [List.getElem?_map, Int.toNat_natCast, List.getElem?_append_right (Nat.le_refl _), Nat.sub_self]
  rfl
theorem nt_sd (p : Vw × Int) : noThk (sd p) = true := rfl
theorem nts_map : ∀ xs : List (Vw × Int), noThks (xs.map sd) = true
  | [] => rfl
  | p :: xs => by
    show (noThk (sd p) && noThks (xs.map sd)) = true
    rw [nt_sd, nts_map xs]
    rfl
theorem nt_Z (L : List (Vw × Int)) (c : Vw × Int) (R : List (Vw × Int)) : (Zo L c R).nt = true := by
  show (noThk (sd c) && (noThks (L.map sd) && noThks (R.reverse.map sd))) = true
  rw [nt_sd, nts_map, nts_map]
  rfl
theorem okd5 (v : Vw) (row : Int) : okd 5 (sD v row) = true := by
  obtain ⟨a, b, c, r⟩ := v
  cases r <;> simp [sD, Vw.d, okd, Rl.s]
theorem okd_map (xs : List (Vw × Int)) : (xs.map sd).all (okd 5) = true := by
  rw [List.all_eq_true]
  intro d hd
  obtain ⟨p, _, rfl⟩ := List.mem_map.mp hd
  exact okd5 p.1 p.2
theorem s37_ok {st : Store} {o o' : Ob} {kind a b : Int} {d : D} (h2 : st[(2 : Nat)]? = some (.ob o)) (h8 : st[(8 : Nat)]? = some (.dat (.int a))) (h9 : st[(9 : Nat)]? = some (.dat (.int b))) (h6 : st[(6 : Nat)]? = some (.dat (.int kind))) (k0 : 0 ≤ kind) (k1 : kind ≤ 5) (hn : o.nt = true)
    (h10 : st[(10 : Nat)]? = some (.dat d)) (hd : okd 6 d = true) (hT : TRk kind a b (o.as false) = .ok d o') : S_law_3_7 st = .nx (st.set 2 (.ob (o'.as o.me))) := by
  have e1 : mVal (bin ltD (eVar 6) (eC (.int 6))) st = .ok true := by simp [h6, show kind < 6 by omega]
  have e2 := eRes_k h2 h8 h9 h6 k0 k1 hn
  rw [hT] at e2
  have e3 : eVar 10 (st.set 2 (.ob (o'.as o.me))) = .ok d := by
    rw [eVar_eq, List.getElem?_set_ne (by decide), h10]
  unfold S_law_3_7 mIfO mAndO mNeO
  simp only [e1, e2, setO, e3, ne_self hd]
  rfl
theorem s37_no {st : Store} (h6 : st[(6 : Nat)]? = some (.dat (.int 6))) : S_law_3_7 st = .nx st := by
  have e1 : mVal (bin ltD (eVar 6) (eC (.int 6))) st = .ok false := by simp [h6]
  unfold S_law_3_7 mIfO mAndO
  simp only [e1]
  rfl
section
variable {ns : List Int} {v0 : Vw} {L R : List (Vw × Int)} {c : Vw × Int} {x5 x11 x12 x13 x14 x15 x16 x17 : Slot} {kind top one two : Int}
/-- what is behind the statements on the states and on the object -/
def After (ns : List Int) (v0 : Vw) (n : Nat) (m : MS) (st : Store) : Prop := ∃ (L : List (Vw × Int)) (c : Vw × Int) (R : List (Vw × Int)) (x5 x6 x7 x8 x9 x10 x11 x12 x13 x14 x15 x16 x17 : Slot), (∀ p ∈ L ++ c :: R, Gd p) ∧ (L ++ c :: R).length ≤ n ∧ m st = .nx (B ns v0 (Zo L c R) (Zd L c R) L.length x5 x6 x7 x8 x9 x10 x11 x12 x13 x14 x15 x16 x17)
theorem isn_tup (ds : List D) : isnD (.tup ds) .non = some (.bl true) := rfl
theorem more_eq (hl : (L ++ c :: R).length ≤ 1000) (p : Vw × Int) : (slD (Zd L c R) none (some ((L.length : Int) + 1))) = some (.lst (L.map sd ++ [sd c])) ∧ addD (.lst (L.map sd ++ [sd c])) (.lst [sd p]) = some (Zd (L ++ [c]) p []) := by
  have em : (L ++ [c]).map sd = L.map sd ++ [sd c] := by rw [List.map_append]; rfl
  refine ⟨?_, ?_⟩
  · show some (D.lst (cutD ((L ++ c :: R).map sd) none (some ((L.length : Int) + 1)))) = _
    rw [cut_upto (by omega), ← List.map_take, show ((L.length : Int) + 1).toNat = L.length + 1 by omega]
    have : (L ++ c :: R).take (L.length + 1) = L ++ [c] := by
      rw [List.take_append, List.take_of_length_le (by omega), show L.length + 1 - L.length = 1 by omega]
      rfl
    rw [this, em]
  · have h : (L.map sd ++ [sd c]).length + [sd p].length ≤ 100000 := by
      simp at hl ⊢
      omega
    show (if (L.map sd ++ [sd c]).length + [sd p].length ≤ 100000 then some (D.lst ((L.map sd ++ [sd c]) ++ [sd p])) else none) = _
    rw [if_pos h]
    unfold Zd
    simp
/-- a call that succeeds -/
theorem mid_yes (g : ∀ p ∈ L ++ c :: R, Gd p) (hl : (L ++ c :: R).length ≤ 20) (k0 : 0 ≤ kind) (k1 : kind ≤ 3) {p : Vw × Int} (gp : Gd p) (hn : F__law_next [sd c, .int kind, .int one, .int two] = .ok (.tup [.non, sd p]))
    (ht : TRk kind one two (obs (sd c) (L.map sd) (R.reverse.map sd) false) = .ok (.int p.2) (obs (sd p) (L.map sd ++ [sd c]) [] false)) :
    After ns v0 ((L ++ c :: R).length + 1) (mSeq S_law_3_6 S_law_3_7) (B ns v0 (Zo L c R) (Zd L c R) L.length x5 (.dat (.int kind)) (.dat (.int top)) (.dat (.int one)) (.dat (.int two)) (.dat .non) x11 x12 x13 x14 x15 x16 x17) := by
  obtain ⟨m1, m2⟩ := more_eq (L := L) (c := c) (R := R) (by omega) p
  refine ⟨L ++ [c], p, [], x5, .dat (.int kind), .dat (.int top), .dat (.int one), .dat (.int two), .dat (.int p.2), .dat .non, .dat (sd p), x13, x14, x15, x16, x17, fun q hq => ?_, by simp, ?_⟩
  · rcases List.mem_append.mp hq with h | h
    · refine g q ?_
      rcases List.mem_append.mp h with h | h
      · exact List.mem_append_left _ h
      · rw [List.mem_singleton.mp h]
        exact List.mem_append_right _ List.mem_cons_self
    · rw [List.mem_singleton.mp h]
      exact gp
  · rw [seq_nx (st1 := B ns v0 (Zo L c R) (Zd (L ++ [c]) p []) ((L.length : Int) + 1) x5 (.dat (.int kind)) (.dat (.int top)) (.dat (.int one)) (.dat (.int two)) (.dat (.int p.2)) (.dat .non) (.dat (sd p)) x13 x14 x15 x16 x17) ?_]
    · rw [s37_ok (o := Zo L c R) (kind := kind) (a := one) (b := two) (d := .int p.2) (o' := obs (sd p) (L.map sd ++ [sd c]) [] false) rfl rfl rfl rfl k0 (by omega) (nt_Z L c R) rfl rfl ht]
      have e1 : Zo (L ++ [c]) p [] = obs (sd p) (L.map sd ++ [sd c]) [] false := by
        unfold Zo
        rw [List.map_append]
        rfl
      rw [e1]
      have e2 : (((L ++ [c]).length : Nat) : Int) = (L.length : Int) + 1 := by simp
      rw [e2]
      rfl
    · unfold S_law_3_6
      rw [if_yes (by simp [B, show kind < 4 by omega])]
      rw [seq_nx (st1 := B ns v0 (Zo L c R) (Zd L c R) L.length x5 (.dat (.int kind)) (.dat (.int top)) (.dat (.int one)) (.dat (.int two)) (.dat .non) (.dat .non) (.dat (sd p)) x13 x14 x15 x16 x17) (by
        unfold S_law_3_6_1
        exact asg_ok (d := .tup [.non, sd p]) (by simp [B, zix, hn]) rfl)]
      rw [seq_nx (st1 := B ns v0 (Zo L c R) (Zd (L ++ [c]) p []) ((L.length : Int) + 1) x5 (.dat (.int kind)) (.dat (.int top)) (.dat (.int one)) (.dat (.int two)) (.dat .non) (.dat .non) (.dat (sd p)) x13 x14 x15 x16 x17) (by
        unfold S_law_3_6_2
        rw [if_yes (by simp [B, isn_tup])]
        unfold S_law_3_6_2_1
        simp [B, mPar, qVal, qNil, setS, m1, m2])]
      unfold S_law_3_6_3
      refine (set_ok (d := .int p.2) (by simp [B, isn_tup, ixp1])).trans ?_
      rfl
/-- a call that fails -/
theorem mid_no (g : ∀ p ∈ L ++ c :: R, Gd p) (k0 : 0 ≤ kind) (k1 : kind ≤ 3) {w : PySem.Str} (hw : w ∈ excs) (hn : F__law_next [sd c, .int kind, .int one, .int two] = .ok (.tup [.str w, .non]))
    (ht : TRk kind one two (obs (sd c) (L.map sd) (R.reverse.map sd) false) = .ok (.tup [.str "error", .str w]) (obs (sd c) (L.map sd) (R.reverse.map sd) false)) :
    After ns v0 ((L ++ c :: R).length + 1) (mSeq S_law_3_6 S_law_3_7) (B ns v0 (Zo L c R) (Zd L c R) L.length x5 (.dat (.int kind)) (.dat (.int top)) (.dat (.int one)) (.dat (.int two)) (.dat .non) x11 x12 x13 x14 x15 x16 x17) := by
  refine ⟨L, c, R, x5, .dat (.int kind), .dat (.int top), .dat (.int one), .dat (.int two), .dat (.tup [.str "error", .str w]), .dat (.str w), .dat .non, x13, x14, x15, x16, x17, g, by omega, ?_⟩
  rw [seq_nx (st1 := B ns v0 (Zo L c R) (Zd L c R) L.length x5 (.dat (.int kind)) (.dat (.int top)) (.dat (.int one)) (.dat (.int two)) (.dat (.tup [.str "error", .str w])) (.dat (.str w)) (.dat .non) x13 x14 x15 x16 x17) ?_]
  · rw [s37_ok (o := Zo L c R) (kind := kind) (a := one) (b := two) (d := .tup [.str "error", .str w]) (o' := obs (sd c) (L.map sd) (R.reverse.map sd) false) rfl rfl rfl rfl k0 (by omega) (nt_Z L c R) rfl (by simp [okd, strOk_excs hw]) ht]
    rfl
  · unfold S_law_3_6
    rw [if_yes (by simp [B, show kind < 4 by omega])]
    rw [seq_nx (st1 := B ns v0 (Zo L c R) (Zd L c R) L.length x5 (.dat (.int kind)) (.dat (.int top)) (.dat (.int one)) (.dat (.int two)) (.dat .non) (.dat (.str w)) (.dat .non) x13 x14 x15 x16 x17) (by
      unfold S_law_3_6_1
      exact asg_ok (d := .tup [.str w, .non]) (by simp [B, zix, hn]) rfl)]
    rw [seq_nx (st1 := B ns v0 (Zo L c R) (Zd L c R) L.length x5 (.dat (.int kind)) (.dat (.int top)) (.dat (.int one)) (.dat (.int two)) (.dat .non) (.dat (.str w)) (.dat .non) x13 x14 x15 x16 x17) (by
      unfold S_law_3_6_2
      rw [if_no (by simp [B])]
      rfl)]
    unfold S_law_3_6_3
    refine (set_ok (d := .tup [.str "error", .str w]) (by simp [B])).trans ?_
    rfl
theorem len_Z : lenB [Zd L c R] = some (.int ((L ++ c :: R).length : Nat)) := by
  unfold Zd
  rw [lenB_lst, List.length_map]
/-- undo and redo -/
theorem mid_back (kk : kind = 4 ∨ kind = 5) {n : Nat} {at' : Int} {L' R' : List (Vw × Int)} {c' : Vw × Int} (g : ∀ p ∈ L' ++ c' :: R', Gd p) (hl : (L' ++ c' :: R').length ≤ n) (hz : Zd L' c' R' = Zd L c R) (ha : at' = if kind = 4 then (L.length : Int) - 1 else (L.length : Int) + 1) {d : D} (hd : okd 6 d = true) {b : Bool}
    (hb : decide (0 ≤ at' ∧ at' < ((L ++ c :: R).length : Nat)) = b) (hd2 : d = if b = true then .non else .tup [.str "error", .str "NothingToUndo"]) (hL : (L'.length : Int) = if b = true then at' else (L.length : Int)) (ht : TRk kind one two (Zo L c R) = .ok d (Zo L' c' R')) :
    After ns v0 n (mSeq S_law_3_6 S_law_3_7) (B ns v0 (Zo L c R) (Zd L c R) L.length x5 (.dat (.int kind)) (.dat (.int top)) (.dat (.int one)) (.dat (.int two)) (.dat .non) x11 x12 x13 x14 x15 x16 x17) := by
  have h4 : ¬ kind < 4 := by omega
  have h6 : kind < 6 := by omega
  have rg : inRgD (.int at') (.int ((L ++ c :: R).length : Nat)) = some (.bl b) := by rw [← hb]; rfl
  refine ⟨L', c', R', x5, .dat (.int kind), .dat (.int top), .dat (.int one), .dat (.int two), .dat d, x11, x12, .dat (.int at'), x14, x15, x16, x17, g, hl, ?_⟩
  rw [seq_nx (st1 := B ns v0 (Zo L c R) (Zd L c R) L'.length x5 (.dat (.int kind)) (.dat (.int top)) (.dat (.int one)) (.dat (.int two)) (.dat d) x11 x12 (.dat (.int at')) x14 x15 x16 x17) ?_]
  · rw [s37_ok (o := Zo L c R) (kind := kind) (a := one) (b := two) (d := d) (o' := Zo L' c' R') rfl rfl rfl rfl (by omega) (by omega) (nt_Z L c R) rfl hd ht, hz]
    rfl
  · unfold S_law_3_6
    rw [if_no (by simp [B, h4])]
    unfold S_law_3_6_e_1
    rw [if_yes (by simp [B, h6])]
    rw [seq_nx (st1 := B ns v0 (Zo L c R) (Zd L c R) L.length x5 (.dat (.int kind)) (.dat (.int top)) (.dat (.int one)) (.dat (.int two)) (.dat .non) x11 x12 (.dat (.int at')) x14 x15 x16 x17) (by
      unfold S_law_3_6_e_1_1
      refine (set_ok (d := .int at') ?_).trans rfl
      rcases kk with rfl | rfl
      · simp [B, ha]
      · simp [B, ha])]
    rw [seq_nx (st1 := B ns v0 (Zo L c R) (Zd L c R) L.length x5 (.dat (.int kind)) (.dat (.int top)) (.dat (.int one)) (.dat (.int two)) (.dat d) x11 x12 (.dat (.int at')) x14 x15 x16 x17) (by
      unfold S_law_3_6_e_1_2
      refine (set_ok (d := d) ?_).trans rfl
      cases b
      · simp [B, len_Z, rg, hd2, -List.length_append]
      · simp [B, len_Z, rg, hd2, -List.length_append])]
    unfold S_law_3_6_e_1_3
    refine (set_ok (d := .int L'.length) ?_).trans rfl
    cases b
    · simp [B, len_Z, rg, hL, -List.length_append]
    · simp [B, len_Z, rg, hL, -List.length_append]
/-- copies -/
theorem mid_copy (g : ∀ p ∈ L ++ c :: R, Gd p) (hl : (L ++ c :: R).length ≤ 20) : After ns v0 ((L ++ c :: R).length + 1) (mSeq S_law_3_6 S_law_3_7) (B ns v0 (Zo L c R) (Zd L c R) L.length x5 (.dat (.int 6)) (.dat (.int top)) (.dat (.int one)) (.dat (.int two)) (.dat .non) x11 x12 x13 x14 x15 x16 x17) := by
  have gc := g c (List.mem_append_right _ List.mem_cons_self)
  have hc : M_ScrolledView_copy (Zo L c R) [] = .mk (Zo L c R) (Zo L c R) := copy_ok gc.ok
  have hL : (L.map sd).length < 1000 := by
    simp at hl ⊢
    omega
  have s1 := gc.ok.w.s1
  obtain ⟨o3, hg⟩ : ∃ o3, M_ScrolledView_go (Zo L c R) [.int 0] = .ok (.int (c.1.first 0)) o3 := ⟨_, go_ok gc.ok hL (Int.le_refl 0) (by omega)⟩
  refine ⟨L, c, R, x5, .dat (.int 6), .dat (.int top), .dat (.int one), .dat (.int two), .dat .non, x11, x12, x13, .ob (o3.as false), x15, x16, x17, g, by omega, ?_⟩
  rw [seq_nx (st1 := B ns v0 (Zo L c R) (Zd L c R) L.length x5 (.dat (.int 6)) (.dat (.int top)) (.dat (.int one)) (.dat (.int two)) (.dat .non) x11 x12 x13 (.ob (o3.as false)) x15 x16 x17) ?_]
  · exact s37_no rfl
  · unfold S_law_3_6
    rw [if_no (by simp [B])]
    unfold S_law_3_6_e_1
    rw [if_no (by simp [B])]
    have cp : ∀ (j : Nat) (y : Slot), j < 18 → mCopy 2 j "ScrolledView" M_ScrolledView_copy (B ns v0 (Zo L c R) (Zd L c R) L.length x5 (.dat (.int 6)) (.dat (.int top)) (.dat (.int one)) (.dat (.int two)) (.dat .non) x11 x12 x13 y x15 x16 x17) = .nx ((B ns v0 (Zo L c R) (Zd L c R) L.length x5 (.dat (.int 6)) (.dat (.int top)) (.dat (.int one)) (.dat (.int two)) (.dat .non) x11 x12 x13 y x15 x16 x17).set j (.ob (Zo L c R))) := fun j y hj => by
      unfold mCopy
      have e : (B ns v0 (Zo L c R) (Zd L c R) L.length x5 (.dat (.int 6)) (.dat (.int top)) (.dat (.int one)) (.dat (.int two)) (.dat .non) x11 x12 x13 y x15 x16 x17)[(2 : Nat)]? = some (.ob (Zo L c R)) := rfl
      rw [e]
      have e2 : (Zo L c R).as false = Zo L c R := rfl
      simp only [e2, hc]
      rw [if_pos ⟨rfl, hj⟩]
      rfl
    rw [seq_nx (st1 := B ns v0 (Zo L c R) (Zd L c R) L.length x5 (.dat (.int 6)) (.dat (.int top)) (.dat (.int one)) (.dat (.int two)) (.dat .non) x11 x12 x13 (.ob (Zo L c R)) x15 x16 x17) (by
      unfold S_law_3_6_e_1_e_1
      exact cp 14 x14 (by decide))]
    rw [seq_nx (st1 := B ns v0 (Zo L c R) (Zd L c R) L.length x5 (.dat (.int 6)) (.dat (.int top)) (.dat (.int one)) (.dat (.int two)) (.dat .non) x11 x12 x13 (.ob (o3.as false)) x15 x16 x17) (by
      unfold S_law_3_6_e_1_e_2 mDropO
      have e : eMO 14 "ScrolledView" 1 M_ScrolledView_go (aCons (eC (.int 0)) aNil) (B ns v0 (Zo L c R) (Zd L c R) L.length x5 (.dat (.int 6)) (.dat (.int top)) (.dat (.int one)) (.dat (.int two)) (.dat .non) x11 x12 x13 (.ob (Zo L c R)) x15 x16 x17) = .ok (.int (c.1.first 0)) (B ns v0 (Zo L c R) (Zd L c R) L.length x5 (.dat (.int 6)) (.dat (.int top)) (.dat (.int one)) (.dat (.int two)) (.dat .non) x11 x12 x13 (.ob (o3.as false)) x15 x16 x17) := by
        unfold eMO
        have e : (B ns v0 (Zo L c R) (Zd L c R) L.length x5 (.dat (.int 6)) (.dat (.int top)) (.dat (.int one)) (.dat (.int two)) (.dat .non) x11 x12 x13 (.ob (Zo L c R)) x15 x16 x17)[(14 : Nat)]? = some (.ob (Zo L c R)) := rfl
        rw [e]
        have e2 : (Zo L c R).as false = Zo L c R := rfl
        have e3 : (Zo L c R).C = "ScrolledView" := rfl
        simp only [e2, e3, if_pos, aCons_eq, eC_eq, bind_ok, aNil_eq, List.length_cons, List.length_nil, hg]
        rfl
      rw [e])]
    unfold S_law_3_6_e_1_e_3
    exact cp 2 _ (by decide)
end
/-! ### one turn -/
section
variable {ns : List Int} {v0 : Vw} {L R : List (Vw × Int)} {c : Vw × Int} {x5 x11 x12 x13 x14 x15 x16 x17 : Slot} {kind top one two : Int}
theorem Zo_undo {L : List (Vw × Int)} {q c : Vw × Int} {R : List (Vw × Int)} : Zo (L ++ [q]) c R = obs (sd c) (L.map sd ++ [sd q]) (R.reverse.map sd) false ∧ Zo L q (c :: R) = obs (sd q) (L.map sd) (R.reverse.map sd ++ [sd c]) false := by
  unfold Zo
  rw [List.map_append, List.reverse_cons, List.map_append]
  exact ⟨rfl, rfl⟩
theorem Zo_redo {L : List (Vw × Int)} {q c : Vw × Int} {R : List (Vw × Int)} : Zo L c (q :: R) = obs (sd c) (L.map sd) (R.reverse.map sd ++ [sd q]) false ∧ Zo (L ++ [c]) q R = obs (sd q) (L.map sd ++ [sd c]) (R.reverse.map sd) false := by
  unfold Zo
  rw [List.map_append, List.reverse_cons, List.map_append]
  exact ⟨rfl, rfl⟩
theorem Zd_move {L : List (Vw × Int)} {q c : Vw × Int} {R : List (Vw × Int)} : Zd L q (c :: R) = Zd (L ++ [q]) c R := by
  unfold Zd
  rw [List.append_assoc]
  rfl
theorem mid_ok (g : ∀ p ∈ L ++ c :: R, Gd p) (hl : (L ++ c :: R).length ≤ 20) (k0 : 0 ≤ kind) (k1 : kind ≤ 6) (n0 : -99 ≤ two) (n1 : two ≤ 99) :
    After ns v0 ((L ++ c :: R).length + 1) (mSeq S_law_3_6 S_law_3_7) (B ns v0 (Zo L c R) (Zd L c R) L.length x5 (.dat (.int kind)) (.dat (.int top)) (.dat (.int one)) (.dat (.int two)) (.dat .non) x11 x12 x13 x14 x15 x16 x17) := by
  have gc := g c (List.mem_append_right _ List.mem_cons_self)
  obtain ⟨v, row⟩ := c
  have vo : v.ok := gc.ok
  have r0 : 0 ≤ row := gc.r0
  have r1 : row ≤ v.rest := gc.r1
  have hL : (L.map sd).length < 1000 := by
    simp at hl ⊢
    omega
  have hR : (R.reverse.map sd).length < 1000 := by
    simp at hl ⊢
    omega
  have rr : v.rest = v.rows - v.h := rfl
  have ck : kind = 0 ∨ kind = 1 ∨ kind = 2 ∨ kind = 3 ∨ kind = 4 ∨ kind = 5 ∨ kind = 6 := by omega
  rcases ck with rfl | rfl | rfl | rfl | rfl | rfl | rfl
  · by_cases h : 0 ≤ one ∧ one ≤ v.s
    · have b := Vw.first_bd vo.w h.1 h.2
      exact mid_yes g hl k0 (by omega) (p := (v, v.first one)) ⟨vo, b.1, b.2⟩ (n0_ok vo h.1 h.2) (t0_ok vo hL h.1 h.2)
    · exact mid_no g k0 (by omega) (w := "InvalidStep") (inX _ (by simp)) (n0_no h) (t0_no vo h)
  · by_cases h : 1 ≤ one ∧ one ≤ v.h
    · have q := rest_bd vo.w
      have h30 := vo.w.h30
      refine mid_yes g hl k0 (by omega) (p := (v, max 0 (min (row + one * two) v.rest))) ⟨vo, ?_, ?_⟩ (n1_ok h.1 h.2 (show v.h ≤ 1000 by omega)) (t1_ok vo hL h.1 h.2 n0 n1)
      · show 0 ≤ max 0 (min (row + one * two) v.rest)
        omega
      · show max 0 (min (row + one * two) v.rest) ≤ v.rest
        omega
    · exact mid_no g k0 (by omega) (w := "InvalidSize") (inX _ (by simp)) (n1_no h) (t1_no h)
  · by_cases h : 0 ≤ one ∧ one ≤ v.rows - 1
    · have q := near_in vo.w r0 r1 h.1 (show one < v.rows by omega)
      exact mid_yes g hl k0 (by omega) (p := (v, near v one row)) ⟨vo, q.1.1, by show near v one row ≤ v.rest; omega⟩ (n2_ok vo r0 r1 h.1 h.2) (t2_ok hL h.1 h.2)
    · exact mid_no g k0 (by omega) (w := "InvalidRow") (inX _ (by simp)) (n2_no h) (t2_no h)
  · by_cases h : 0 ≤ one ∧ one ≤ v.rows ∧ v.rows + (1 + two % 4) ≤ 99
    · have m : may v true one (1 + two % 4) = true := by
        unfold may
        rw [if_pos rfl, Bool.and_eq_true, decide_eq_true_eq, decide_eq_true_eq]
        exact ⟨h.2.1, h.2.2⟩
      have kb := kept_bd vo r0 r1 (ins := true) h.1 (c := 1 + two % 4) (by omega) m
      have w : (v.chg true (1 + two % 4)).rows = v.rows + (1 + two % 4) := rfl
      have ek : kept v row true one (1 + two % 4) = if one ≤ row then row + (1 + two % 4) else row := by
        unfold kept
        rw [if_pos rfl, w]
        split <;> omega
      have g1 := vo.w.h1
      have g2 := vo.w.hr
      have nok : (v.chg true (1 + two % 4)).ok := ⟨⟨g1, by rw [w]; show v.h ≤ _; omega, by rw [w]; exact h.2.2, vo.w.h30, vo.w.s1, vo.w.s100⟩, vo.s60⟩
      have nx := n3_ok (row := row) h.1 h.2.1 h.2.2
      rw [← ek] at nx
      exact mid_yes g hl k0 (by omega) (p := (v.chg true (1 + two % 4), kept v row true one (1 + two % 4))) ⟨nok, kb.1, kb.2⟩ nx (t3_ok vo hL h.1 m)
    · exact mid_no g k0 (by omega) (w := "InvalidChange") (inX _ (by simp)) (n3_no h) (t3_no vo h)
  · rcases List.eq_nil_or_concat L with rfl | ⟨L', q, rfl⟩
    · refine mid_back (.inl rfl) (L' := []) (c' := (v, row)) (R' := R) (at' := -1) (d := .tup [.str "error", .str "NothingToUndo"]) (b := false) g (by simp at hl ⊢) rfl rfl (by simp [okd]) (by simp) (by simp) (by simp) ?_
      exact t4_no
    · rw [List.concat_eq_append] at *
      have e := Zo_undo (L := L') (q := q) (c := (v, row)) (R := R)
      refine mid_back (.inl rfl) (L' := L') (c' := q) (R' := (v, row) :: R) (at' := L'.length) (d := .non) (b := true) (fun p hp => g p (by simpa using hp)) (by simp) Zd_move (by simp) rfl (by simp; omega) (by simp) (by simp) ?_
      rw [e.1, e.2]
      exact t4_ok (ds := [q.1.d, .int q.2]) (by
        have := okd_map (L' ++ [q])
        rw [List.map_append] at this
        exact this) hR
  · cases R with
    | nil =>
      refine mid_back (.inr rfl) (L' := L) (c' := (v, row)) (R' := []) (at' := L.length + 1) (d := .tup [.str "error", .str "NothingToUndo"]) (b := false) g (by simp) rfl (by simp) (by simp [okd]) (by simp) (by simp) (by simp) ?_
      exact t5_no
    | cons q R =>
      have e := Zo_redo (L := L) (q := q) (c := (v, row)) (R := R)
      refine mid_back (.inr rfl) (L' := L ++ [(v, row)]) (c' := q) (R' := R) (at' := L.length + 1) (d := .non) (b := true) (fun p hp => g p (by simpa using hp)) (by simp) Zd_move.symm (by simp) rfl (by simp; omega) (by simp) (by simp) ?_
      rw [e.1, e.2]
      exact t5_ok (ds := [q.1.d, .int q.2]) (by
        have := okd_map (R.reverse ++ [q])
        rw [List.map_append] at this
        exact this) hL
  · exact mid_copy g hl
end
theorem meth_eq {f : ME} {st : Store} {m : PySem.Str} {F : List D → R D} {ds : List D} (h : f st = .ok (.obj "ScrolledView" stN ds)) (hm : m ∉ stN) : eMeth "ScrolledView" m 1 F f aNil st = F [.obj "ScrolledView" stN ds] := by
  unfold eMeth
  rw [h]
  show (if ("ScrolledView" : PySem.Str) = "ScrolledView" ∧ m ∉ stN then (aNil st).bind fun xs => if xs.length + 1 = 1 then F (.obj "ScrolledView" stN ds :: xs) else .no else .no) = _
  rw [if_pos ⟨rfl, hm⟩]
  rfl
theorem lenO_eq {f : ME} {st : Store} {F : List D → R D} {ds : List D} {n : Int} (h : f st = .ok (.obj "ScrolledView" stN ds)) (hF : F [.obj "ScrolledView" stN ds] = .ok (.int n)) (h0 : 0 ≤ n) (h1 : n ≤ 100000) : eLenO "ScrolledView" F f st = .ok (.int n) := by
  unfold eLenO
  rw [h]
  show (if ("ScrolledView" : PySem.Str) = "ScrolledView" then (match F [.obj "ScrolledView" stN ds] with
    | .ok (.int n) => if 0 ≤ n ∧ n ≤ 100000 then R.ok (D.int n) else .no
    | _ => .no) else .no) = _
  rw [if_pos rfl, hF]
  exact if_pos ⟨h0, h1⟩
theorem look_st (a b c : D) : lookD stN [a, b, c] "state" = some a := by
  simp [stN, lookD]
theorem o_view_eq {v : Vw} {row : Int} {e l : D} : F_ScrolledView_view [.obj "ScrolledView" stN [sD v row, e, l]] = .ok v.d := by
  simp [F_ScrolledView_view, mkF, m_ScrolledView_view, eAttr, look_st, ixp0]
theorem o_first_eq {v : Vw} {row : Int} {e l : D} : F_ScrolledView_first [.obj "ScrolledView" stN [sD v row, e, l]] = .ok (.int row) := by
  simp [F_ScrolledView_first, mkF, m_ScrolledView_first, eAttr, look_st, ixp1]
theorem o_seen_eq {v : Vw} (h : v.ok) {row : Int} (r0 : 0 ≤ row) (r1 : row ≤ v.rest) {e l : D} : F_ScrolledView_seen [.obj "ScrolledView" stN [sD v row, e, l]] = .ok (Ls (span row (row + v.h))) := by
  have q := rest_bd h.w
  have h1 := h.w.h1
  have h2 := h.w.h30
  simp [F_ScrolledView_seen, mkF, m_ScrolledView_seen, eAttr, look_st, mAsg, bTup, setAll, ix1, rg2_span (show -100000 ≤ row by omega) (show row ≤ 100000 by omega) (show -100000 ≤ row + v.h by omega) (show row + v.h ≤ 100000 by omega)]
theorem o_len_eq {v : Vw} (h : v.ok) {row : Int} {e l : D} : F_ScrolledView___len__ [.obj "ScrolledView" stN [sD v row, e, l]] = .ok (.int v.rows) := by
  have h1 := h.w.h1
  have h2 := h.w.hr
  have h3 := h.w.r99
  simp [F_ScrolledView___len__, mkF, m_ScrolledView___len__, eAttr, look_st, ixp0, ix0, rg1_iota (show 0 ≤ v.rows by omega) (show v.rows ≤ 100000 by omega), iota_length]
  omega
section
variable {ns : List Int} {v0 : Vw} {L R : List (Vw × Int)} {c : Vw × Int} {x5 x11 x12 x13 x14 x15 x16 x17 : Slot}
/-- the statements that look at the object -/
theorem tail_ok {x6 x7 x8 x9 x10 : Slot} (gc : Gd c) : mSeq S_law_3_8 (mSeq S_law_3_9 S_law_3_10) (B ns v0 (Zo L c R) (Zd L c R) L.length x5 x6 x7 x8 x9 x10 x11 x12 x13 x14 x15 x16 x17) = .nx (B ns v0 (Zo L c R) (Zd L c R) L.length x5 x6 x7 x8 x9 x10 x11 x12 x13 x14 (.dat c.1.d) (.dat (.int c.2)) x17) := by
  obtain ⟨v, row⟩ := c
  have vo : v.ok := gc.ok
  have r0 : 0 ≤ row := gc.r0
  have r1 : row ≤ v.rest := gc.r1
  have q := rest_bd vo.w
  have h1 := vo.w.h1
  have h2 := vo.w.h30
  have h3 := vo.w.hr
  have h4 := vo.w.r99
  rw [seq_nx (st1 := B ns v0 (Zo L (v, row) R) (Zd L (v, row) R) L.length x5 x6 x7 x8 x9 x10 x11 x12 x13 x14 (.dat v.d) (.dat (.int row)) x17) (by
    unfold S_law_3_8
    exact asg_ok (d := sD v row) (by simp [B, zix]) rfl)]
  have ev : eVar 2 (thaw (B ns v0 (Zo L (v, row) R) (Zd L (v, row) R) L.length x5 x6 x7 x8 x9 x10 x11 x12 x13 x14 (.dat v.d) (.dat (.int row)) x17)) = .ok (.obj "ScrolledView" stN [sD v row, .lst (L.map sd), .lst (R.reverse.map sd)]) := rfl
  have e15 : eVar 15 (thaw (B ns v0 (Zo L (v, row) R) (Zd L (v, row) R) L.length x5 x6 x7 x8 x9 x10 x11 x12 x13 x14 (.dat v.d) (.dat (.int row)) x17)) = .ok v.d := rfl
  have e16 : eVar 16 (thaw (B ns v0 (Zo L (v, row) R) (Zd L (v, row) R) L.length x5 x6 x7 x8 x9 x10 x11 x12 x13 x14 (.dat v.d) (.dat (.int row)) x17)) = .ok (.int row) := rfl
  rw [seq_nx (st1 := B ns v0 (Zo L (v, row) R) (Zd L (v, row) R) L.length x5 x6 x7 x8 x9 x10 x11 x12 x13 x14 (.dat v.d) (.dat (.int row)) x17) (by
    unfold S_law_3_9
    rw [if_no]
    · rfl
    · simp only [mOr_eq, mVal_eq, bin_eq, meth_eq ev (show ("view" : PySem.Str) ∉ stN by decide +kernel), meth_eq ev (show ("first" : PySem.Str) ∉ stN by decide +kernel), lenO_eq ev (o_len_eq vo) (show 0 ≤ v.rows by omega) (by omega), o_view_eq, o_first_eq, e15, e16, bind_ok, ne_vd, ne_int, of_some, asB_bl, ix0, eC_eq]
      simp)]
  unfold S_law_3_10
  rw [if_no]
  · rfl
  · simp only [mVal_eq, bin_eq, meth_eq ev (show ("seen" : PySem.Str) ∉ stN by decide +kernel), o_seen_eq vo r0 r1, e15, e16, bind_ok, of_some, eC_eq, ix1, add_int, rg2_span (show -100000 ≤ row by omega) (show row ≤ 100000 by omega) (show -100000 ≤ row + v.h by omega) (show row + v.h ≤ 100000 by omega), ne_Ls, asB_bl]
    simp
end
/-! ### the end -/
theorem eq_sd {v : Vw} {row : Int} : eqD (.tup [v.d, .int 0]) (.tup [v.d, .int row]) = some (.bl (decide (0 = row))) := by
  have e1 : okd 6 (.tup [v.d, .int 0]) = true := by
    obtain ⟨a, b, c, r⟩ := v
    cases r <;> simp [Vw.d, okd, Rl.s]
  have e2 : okd 6 (.tup [v.d, .int row]) = true := by
    obtain ⟨a, b, c, r⟩ := v
    cases r <;> simp [Vw.d, okd, Rl.s]
  have e3 : eqv v.d v.d = true := by
    have h : okd 6 v.d = true := by
      obtain ⟨a, b, c, r⟩ := v
      cases r <;> simp [Vw.d, okd, Rl.s]
    exact eqv_self h
  unfold eqD
  rw [if_pos ⟨e1, e2⟩]
  have e4 : eqv (.tup [v.d, .int 0]) (.tup [v.d, .int row]) = (PyData.eqv (toP v.d) (toP v.d) && decide ((0 : Int) = row)) := by
    have e5 : toP (.tup [v.d, .int 0]) = .tuple [toP v.d, .int 0] := by simp [toP, toPs]
    have e6 : toP (.tup [v.d, .int row]) = .tuple [toP v.d, .int row] := by simp [toP, toPs]
    unfold eqv
    rw [e5, e6]
    simp [PyData.eqv, PyData.eqvAll, Bool.beq_eq_decide_eq]
  rw [e4, show PyData.eqv (toP v.d) (toP v.d) = true from e3, Bool.true_and]
theorem o_eq_ob {v : Vw} {row : Int} {e l e2 l2 : D} : F_ScrolledView___eq__ [.obj "ScrolledView" stN [.tup [v.d, .int 0], e, l], .obj "ScrolledView" stN [sD v row, e2, l2]] = .ok (.bl (decide (0 = row))) := by
  have q := eq_sd (v := v) (row := row)
  simp [F_ScrolledView___eq__, mkF, m_ScrolledView___eq__, isiOD, eAttr, look_st, q]
theorem o_eq_tup {ds ts : List D} : F_ScrolledView___eq__ [.obj "ScrolledView" stN ds, .tup ts] = .ok (.bl false) := by
  simp [F_ScrolledView___eq__, mkF, m_ScrolledView___eq__, isiOD]
theorem eqO_eq {f g : ME} {st : Store} {F : List D → R D} {ds es : List D} {b : Bool} (h : f st = .ok (.obj "ScrolledView" stN ds)) (h2 : g st = .ok (.obj "ScrolledView" stN es)) (hF : F [.obj "ScrolledView" stN ds, .obj "ScrolledView" stN es] = .ok (.bl b)) : eEqO "ScrolledView" F f g st = .ok (.bl b) := by
  unfold eEqO
  simp [h, h2, hF]
theorem neO_eq {f g : ME} {st : Store} {F : List D → R D} {ds es : List D} {b : Bool} (h : f st = .ok (.obj "ScrolledView" stN ds)) (h2 : g st = .ok (.tup es)) (hF : F [.obj "ScrolledView" stN ds, .tup es] = .ok (.bl b)) : eNeO "ScrolledView" F f g st = .ok (.bl (!b)) := by
  unfold eNeO
  simp [h, h2, hF]
theorem turn {ns : List Int} (hns : ns.length ≤ 63) {v0 : Vw} (h0 : v0.ok) {L R : List (Vw × Int)} {c : Vw × Int} {i : Int} (i0 : 0 ≤ i) (i1 : i < 14) (g : ∀ p ∈ L ++ c :: R, Gd p) (hl : (L ++ c :: R).length ≤ 20) {x6 x7 x8 x9 x10 x11 x12 x13 x14 x15 x16 x17 : Slot} :
    After ns v0 ((L ++ c :: R).length + 1) (mSeq S_law_3_1 (mSeq S_law_3_2 (mSeq S_law_3_3 (mSeq S_law_3_4 (mSeq S_law_3_5 (mSeq S_law_3_6 (mSeq S_law_3_7 (mSeq S_law_3_8 (mSeq S_law_3_9 S_law_3_10)))))))))
      (B ns v0 (Zo L c R) (Zd L c R) L.length (.dat (.int i)) x6 x7 x8 x9 x10 x11 x12 x13 x14 x15 x16 x17) := by
  have gc := g c (List.mem_append_right _ List.mem_cons_self)
  obtain ⟨a, a1, a2, a3⟩ := pick_ok hns (k := 10 + 6 * i) (by omega) (by omega) (show (0 : Int) < 11 by omega)
  obtain ⟨kind, k1, k2, k3⟩ : ∃ k : Int, ixD (.tup [.int 0, .int 0, .int 1, .int 1, .int 2, .int 2, .int 3, .int 4, .int 5, .int 4, .int 6]) (.int a) = some (.int k) ∧ 0 ≤ k ∧ k ≤ 6 := by
    have : a = 0 ∨ a = 1 ∨ a = 2 ∨ a = 3 ∨ a = 4 ∨ a = 5 ∨ a = 6 ∨ a = 7 ∨ a = 8 ∨ a = 9 ∨ a = 10 := by omega
    rcases this with rfl | rfl | rfl | rfl | rfl | rfl | rfl | rfl | rfl | rfl | rfl <;> exact ⟨_, rfl, by decide, by decide⟩
  have s1 := h0.w.s1
  have g1 := h0.w.h1
  have c1 := gc.ok.w.h1
  have c2 := gc.ok.w.hr
  obtain ⟨top, t1, t2⟩ : ∃ t : Int, ixD (.tup [.int (v0.s + 2), .int (v0.h + 2), .int (c.1.rows + 2), .int (c.1.rows + 2)]) (.int (min kind 3)) = some (.int t) ∧ 0 < t := by
    have : min kind 3 = 0 ∨ min kind 3 = 1 ∨ min kind 3 = 2 ∨ min kind 3 = 3 := by omega
    rcases this with h | h | h | h <;> rw [h] <;> exact ⟨_, rfl, by omega⟩
  obtain ⟨b, b1, b2, b3⟩ := pick_ok hns (k := 11 + 6 * i) (by omega) (by omega) t2
  obtain ⟨d, d1, d2, d3⟩ := pick_ok hns (k := 12 + 6 * i) (by omega) (by omega) (show (0 : Int) < 7 by omega)
  obtain ⟨e, e1, e2, e3⟩ := pick_ok hns (k := 13 + 6 * i) (by omega) (by omega) (show (0 : Int) < 9 by omega)
  obtain ⟨one, ho⟩ : ∃ one : Int, subBD (.int b) (.bl (decide (d = 0))) = some (.int one) := ⟨_, rfl⟩
  have hm : -18446744073709551616 < (6 : Int) ∧ (6 : Int) < 18446744073709551616 := by omega
  obtain ⟨L', c', R', y5, y6, y7, y8, y9, y10, y11, y12, y13, y14, y15, y16, y17, g', l', q⟩ := mid_ok (ns := ns) (v0 := v0) (x5 := .dat (.int i)) (x11 := x11) (x12 := x12) (x13 := x13) (x14 := x14) (x15 := x15) (x16 := x16) (x17 := x17) (kind := kind) (top := top) (one := one) (two := e - 4) g hl k2 k3 (by omega) (by omega)
  have gc' := g' c' (List.mem_append_right _ List.mem_cons_self)
  refine ⟨L', c', R', y5, y6, y7, y8, y9, y10, y11, y12, y13, y14, .dat c'.1.d, .dat (.int c'.2), y17, g', l', ?_⟩
  rw [seq_nx (st1 := B ns v0 (Zo L c R) (Zd L c R) L.length (.dat (.int i)) (.dat (.int kind)) x7 x8 x9 x10 x11 x12 x13 x14 x15 x16 x17) (by
    unfold S_law_3_1
    exact (set_ok (d := .int kind) (by simp [B, mul_l, a1, k1])).trans rfl)]
  rw [seq_nx (st1 := B ns v0 (Zo L c R) (Zd L c R) L.length (.dat (.int i)) (.dat (.int kind)) (.dat (.int top)) x8 x9 x10 x11 x12 x13 x14 x15 x16 x17) (by
    unfold S_law_3_2
    exact (set_ok (d := .int top) (by simp [B, ix1, ix2, zix, ixp0, ix0, t1])).trans rfl)]
  rw [seq_nx (st1 := B ns v0 (Zo L c R) (Zd L c R) L.length (.dat (.int i)) (.dat (.int kind)) (.dat (.int top)) (.dat (.int one)) x9 x10 x11 x12 x13 x14 x15 x16 x17) (by
    unfold S_law_3_3
    exact (set_ok (d := .int one) (by simp [B, mul_l, b1, d1, ho])).trans rfl)]
  rw [seq_nx (st1 := B ns v0 (Zo L c R) (Zd L c R) L.length (.dat (.int i)) (.dat (.int kind)) (.dat (.int top)) (.dat (.int one)) (.dat (.int (e - 4))) x10 x11 x12 x13 x14 x15 x16 x17) (by
    unfold S_law_3_4
    exact (set_ok (d := .int (e - 4)) (by simp [B, mul_l, e1])).trans rfl)]
  rw [seq_nx (st1 := B ns v0 (Zo L c R) (Zd L c R) L.length (.dat (.int i)) (.dat (.int kind)) (.dat (.int top)) (.dat (.int one)) (.dat (.int (e - 4))) (.dat .non) x11 x12 x13 x14 x15 x16 x17) (by
    unfold S_law_3_5
    exact (set_ok (d := .non) (by simp)).trans rfl)]
  have as : ∀ (m : MS) (st : Store), mSeq S_law_3_6 (mSeq S_law_3_7 m) st = mSeq (mSeq S_law_3_6 S_law_3_7) m st := fun m st => by
    unfold mSeq
    cases S_law_3_6 st <;> rfl
  rw [as, seq_nx q]
  exact tail_ok gc'
theorem law_true : ∀ ns : List Int, ns.length ≤ 63 → F_law [.scr ns] = .ok (.bl true) := fun ns hns => by
  refine mkF_rt rfl ?_
  show m_law [.dat (.scr ns), .un, .un, .un, .un, .un, .un, .un, .un, .un, .un, .un, .un, .un, .un, .un, .un, .un] = .rt (.bl true)
  unfold m_law
  obtain ⟨v0, q0, h0, _, _⟩ := some_ok hns (k := 0) (by omega) (by omega)
  have w1 := h0.w.h1
  have w2 := h0.w.hr
  have rb := rest_bd h0.w
  rw [seq_nx (st1 := [.dat (.scr ns), .dat v0.d, .un, .un, .un, .un, .un, .un, .un, .un, .un, .un, .un, .un, .un, .un, .un, .un]) (by
    unfold S_law_1
    exact (set_ok (d := v0.d) (by simp [q0])).trans rfl)]
  rw [seq_nx (st1 := B ns v0 (Zo [] (v0, 0) []) (Zd [] (v0, 0) []) 0 .un .un .un .un .un .un .un .un .un .un .un .un .un) (by
    unfold S_law_2
    simp [mPar, qNew, qVal, qNil, setS, check_view_ok h0]
    rfl)]
  obtain ⟨st', f1, L, c, R, x5, x6, x7, x8, x9, x10, x11, x12, x13, x14, x15, x16, x17, g, _, rfl⟩ : ∃ st', S_law_3 (B ns v0 (Zo [] (v0, 0) []) (Zd [] (v0, 0) []) 0 .un .un .un .un .un .un .un .un .un .un .un .un .un) = .nx st' ∧ ∃ (L : List (Vw × Int)) (c : Vw × Int) (R : List (Vw × Int)) (x5 x6 x7 x8 x9 x10 x11 x12 x13 x14 x15 x16 x17 : Slot), (∀ p ∈ L ++ c :: R, Gd p) ∧ (L ++ c :: R).length ≤ (iota 14).length + 1 ∧ st' = B ns v0 (Zo L c R) (Zd L c R) L.length x5 x6 x7 x8 x9 x10 x11 x12 x13 x14 x15 x16 x17 := by
    unfold S_law_3
    refine for_acc (I := fun pre st => ∃ (L : List (Vw × Int)) (c : Vw × Int) (R : List (Vw × Int)) (x5 x6 x7 x8 x9 x10 x11 x12 x13 x14 x15 x16 x17 : Slot), (∀ p ∈ L ++ c :: R, Gd p) ∧ (L ++ c :: R).length ≤ pre.length + 1 ∧ st = B ns v0 (Zo L c R) (Zd L c R) L.length x5 x6 x7 x8 x9 x10 x11 x12 x13 x14 x15 x16 x17) (ns := iota 14)
      (by simp [range1_ok (show (14 : Int) ≤ 100000 by omega) (show (0 : Int) ≤ 14 by omega)]) ⟨[], (v0, 0), [], _, _, _, _, _, _, _, _, _, _, _, _, _, fun p hp => by
        rw [List.mem_singleton.mp hp]
        exact ⟨h0, Int.le_refl 0, rb.1⟩, by simp, rfl⟩ fun pre k post e st hst => ?_
    obtain ⟨L, c, R, x5, x6, x7, x8, x9, x10, x11, x12, x13, x14, x15, x16, x17, g, hl, rfl⟩ := hst
    have ⟨m1, m2⟩ := pre_lt e
    have ⟨i0, i1⟩ := mem_iota.mp m1
    have il : (iota 14).length = 14 := by rw [iota_length]; rfl
    obtain ⟨L', c', R', y5, y6, y7, y8, y9, y10, y11, y12, y13, y14, y15, y16, y17, g', l', q⟩ := turn hns h0 i0 i1 g (by omega) (x6 := x6) (x7 := x7) (x8 := x8) (x9 := x9) (x10 := x10) (x11 := x11) (x12 := x12) (x13 := x13) (x14 := x14) (x15 := x15) (x16 := x16) (x17 := x17)
    refine ⟨_, _, rfl, q, L', c', R', y5, y6, y7, y8, y9, y10, y11, y12, y13, y14, y15, y16, y17, g', ?_, rfl⟩
    rw [show (pre ++ [k]).length = pre.length + 1 by simp]
    omega
  rw [seq_nx f1]
  have gc := g c (List.mem_append_right _ List.mem_cons_self)
  obtain ⟨v, row⟩ := c
  rw [seq_nx (st1 := B ns v0 (Zo L (v, row) R) (Zd L (v, row) R) L.length x5 x6 x7 x8 x9 x10 x11 x12 x13 x14 x15 x16 (.dat (.obj "ScrolledView" stN [.tup [v.d, .int 0], .lst [], .lst []]))) (by
    unfold S_law_4
    refine (set_ok (d := .obj "ScrolledView" stN [.tup [v.d, .int 0], .lst [], .lst []]) ?_).trans rfl
    have cv : F_check_view [v.d] = .ok .non := check_view_ok gc.ok
    simp [B, eMake, zix, ixp0, cv])]
  unfold S_law_5
  refine ret_ok ?_
  have ev : eVar 2 (thaw (B ns v0 (Zo L (v, row) R) (Zd L (v, row) R) L.length x5 x6 x7 x8 x9 x10 x11 x12 x13 x14 x15 x16 (.dat (.obj "ScrolledView" stN [.tup [v.d, .int 0], .lst [], .lst []])))) = .ok (.obj "ScrolledView" stN [sD v row, .lst (L.map sd), .lst (R.reverse.map sd)]) := rfl
  have e17 : eVar 17 (thaw (B ns v0 (Zo L (v, row) R) (Zd L (v, row) R) L.length x5 x6 x7 x8 x9 x10 x11 x12 x13 x14 x15 x16 (.dat (.obj "ScrolledView" stN [.tup [v.d, .int 0], .lst [], .lst []])))) = .ok (.obj "ScrolledView" stN [.tup [v.d, .int 0], .lst [], .lst []]) := rfl
  have e34 : bin ixD (eVar 3) (eVar 4) (thaw (B ns v0 (Zo L (v, row) R) (Zd L (v, row) R) L.length x5 x6 x7 x8 x9 x10 x11 x12 x13 x14 x15 x16 (.dat (.obj "ScrolledView" stN [.tup [v.d, .int 0], .lst [], .lst []])))) = .ok (sD v row) := by
    simp [B, zix]
  have a1 := eqO_eq (F := F_ScrolledView___eq__) e17 ev o_eq_ob
  have a2 := neO_eq (F := F_ScrolledView___eq__) ev e34 o_eq_tup
  rw [vAnd_eq, bin_eq, a1, bin_eq, bin_eq, e34, a2]
  have e5 : decide ((0 : Int) = row) = decide (row = 0) := by
    by_cases h : row = 0
    · subst h; rfl
    · have : ¬ (0 : Int) = row := fun z => h z.symm
      simp [h, this]
  simp [ixp1, e5]
end Law
namespace Law
open PySem PySem.Spec PyProof.Rows L2 Pg
section
variable {P : Program} {w : World} {K : Fr} {h : Heap} {mg : Str → Option Value} {base : Heap}
theorem tx (X : K.In h) (G : h.Ns mainGlobals mg) (c : He.SaysX fa fn [] tf ex w h K) : Tx P w K mg base := by
  obtain ⟨_, hce0⟩ := He.ba c.more
  obtain ⟨hob, hce⟩ := He.ba hce0
  obtain ⟨ht, hc⟩ := He.ba hce
  have cd := c.t.d
  have hcl := List.all_eq_true.mp hc
  have inE : ∀ z, (∃ b, exm_ScrollError z = some b) → z ∈ excs := fun z ⟨b, q⟩ => by
    unfold exm_ScrollError at q
    split at q
    · assumption
    · cases q
  exact {
    bi := ⟨He.free_ok X G (cd.fact 0 rfl), He.free_ok X G (cd.fact 1 rfl), He.free_ok X G (cd.fact 2 rfl), He.free_ok X G (cd.fact 3 rfl), He.free_ok X G (cd.fact 4 rfl), He.free_ok X G (cd.fact 5 rfl), He.free_ok X G (cd.fact 6 rfl), He.free_ok X G (cd.fact 7 rfl), He.free_ok X G (cd.fact 8 rfl), He.free_ok X G (cd.fact 9 rfl), He.free_ok X G (cd.fact 10 rfl), He.free_ok X G (cd.fact 11 rfl), He.free_ok X G (cd.fact 12 rfl), He.free_ok X G (cd.fact 13 rfl), He.free_ok X G (cd.fact 14 rfl), He.free_ok X G (cd.fact 15 rfl), He.free_ok X G (cd.fact 16 rfl), He.free_ok X G (cd.fact 17 rfl)⟩
    i_MAX_ROWS := He.int_ok X G (cd.fact 19 rfl)
    i_MAX_HEIGHT := He.int_ok X G (cd.fact 20 rfl)
    i_MAX_STEPS := He.int_ok X G (cd.fact 21 rfl)
    i_MAX_COUNT := He.int_ok X G (cd.fact 22 rfl)
    i_MAX_TURNS := He.int_ok X G (cd.fact 23 rfl)
    s_DOWN := He.str_ok X G (cd.fact 24 rfl)
    s_NEAR := He.str_ok X G (cd.fact 25 rfl)
    s_UP := He.str_ok X G (cd.fact 26 rfl)
    s_INSERT := He.str_ok X G (cd.fact 27 rfl)
    s_REMOVE := He.str_ok X G (cd.fact 28 rfl)
    t_RULES := ⟨He.glo_ok X G (cd.fact 29 rfl), fun H => He.tupB_ok ht H⟩
    cl_ScrolledView := He.cls_ok (cd.fact 55 rfl)
    na_state := He.noat_ok (cd.fact 57 rfl)
    na_earlier := He.noat_ok (cd.fact 58 rfl)
    na_later := He.noat_ok (cd.fact 59 rfl)
    oo_ScrolledView := objB_ok hob
    mc_ScrolledView := He.glo_ok X G (cd.fact 54 rfl)
    x_ScrollError := ⟨He.glo_ok X G (cd.fact 30 rfl), (He.exc_ok (cd.fact 31 rfl)).1, (He.exc_ok (cd.fact 31 rfl)).2.1, (He.exc_ok (cd.fact 31 rfl)).2.2.1, (He.exc_ok (cd.fact 31 rfl)).2.2.2⟩
    x_InvalidView := ⟨He.glo_ok X G (cd.fact 32 rfl), (He.exc_ok (cd.fact 33 rfl)).1, (He.exc_ok (cd.fact 33 rfl)).2.1, (He.exc_ok (cd.fact 33 rfl)).2.2.1, (He.exc_ok (cd.fact 33 rfl)).2.2.2⟩
    x_InvalidStep := ⟨He.glo_ok X G (cd.fact 34 rfl), (He.exc_ok (cd.fact 35 rfl)).1, (He.exc_ok (cd.fact 35 rfl)).2.1, (He.exc_ok (cd.fact 35 rfl)).2.2.1, (He.exc_ok (cd.fact 35 rfl)).2.2.2⟩
    x_InvalidRow := ⟨He.glo_ok X G (cd.fact 36 rfl), (He.exc_ok (cd.fact 37 rfl)).1, (He.exc_ok (cd.fact 37 rfl)).2.1, (He.exc_ok (cd.fact 37 rfl)).2.2.1, (He.exc_ok (cd.fact 37 rfl)).2.2.2⟩
    x_DifferentSteps := ⟨He.glo_ok X G (cd.fact 38 rfl), (He.exc_ok (cd.fact 39 rfl)).1, (He.exc_ok (cd.fact 39 rfl)).2.1, (He.exc_ok (cd.fact 39 rfl)).2.2.1, (He.exc_ok (cd.fact 39 rfl)).2.2.2⟩
    x_InvalidNumber := ⟨He.glo_ok X G (cd.fact 40 rfl), (He.exc_ok (cd.fact 41 rfl)).1, (He.exc_ok (cd.fact 41 rfl)).2.1, (He.exc_ok (cd.fact 41 rfl)).2.2.1, (He.exc_ok (cd.fact 41 rfl)).2.2.2⟩
    x_InvalidSize := ⟨He.glo_ok X G (cd.fact 42 rfl), (He.exc_ok (cd.fact 43 rfl)).1, (He.exc_ok (cd.fact 43 rfl)).2.1, (He.exc_ok (cd.fact 43 rfl)).2.2.1, (He.exc_ok (cd.fact 43 rfl)).2.2.2⟩
    x_InvalidCells := ⟨He.glo_ok X G (cd.fact 44 rfl), (He.exc_ok (cd.fact 45 rfl)).1, (He.exc_ok (cd.fact 45 rfl)).2.1, (He.exc_ok (cd.fact 45 rfl)).2.2.1, (He.exc_ok (cd.fact 45 rfl)).2.2.2⟩
    x_InvalidCell := ⟨He.glo_ok X G (cd.fact 46 rfl), (He.exc_ok (cd.fact 47 rfl)).1, (He.exc_ok (cd.fact 47 rfl)).2.1, (He.exc_ok (cd.fact 47 rfl)).2.2.1, (He.exc_ok (cd.fact 47 rfl)).2.2.2⟩
    x_InvalidChange := ⟨He.glo_ok X G (cd.fact 48 rfl), (He.exc_ok (cd.fact 49 rfl)).1, (He.exc_ok (cd.fact 49 rfl)).2.1, (He.exc_ok (cd.fact 49 rfl)).2.2.1, (He.exc_ok (cd.fact 49 rfl)).2.2.2⟩
    x_NothingToUndo := ⟨He.glo_ok X G (cd.fact 50 rfl), (He.exc_ok (cd.fact 51 rfl)).1, (He.exc_ok (cd.fact 51 rfl)).2.1, (He.exc_ok (cd.fact 51 rfl)).2.2.1, (He.exc_ok (cd.fact 51 rfl)).2.2.2⟩
    x_ParseError := ⟨He.glo_ok X G (cd.fact 52 rfl), (He.exc_ok (cd.fact 53 rfl)).1, (He.exc_ok (cd.fact 53 rfl)).2.1, (He.exc_ok (cd.fact 53 rfl)).2.2.1, (He.exc_ok (cd.fact 53 rfl)).2.2.2⟩
    xc := fun z q => excCB_ok ((He.ba (He.ba (He.ba (He.ba (He.ba (He.ba (He.ba (He.ba (He.ba (He.ba (He.ba (He.ba (He.ba (hcl z (inE z ⟨_, q⟩))).1).1).1).1).1).1).1).1).1).1).1).1).1)
    mx_ScrollError := fun z b q => by
      have e : b = true := by
        unfold exm_ScrollError at q
        split at q <;> cases q
        rfl
      subst e
      exact exmB_ok ((He.ba (He.ba (He.ba (He.ba (He.ba (He.ba (He.ba (He.ba (He.ba (He.ba (He.ba (He.ba (He.ba (hcl z (inE z ⟨_, q⟩))).1).1).1).1).1).1).1).1).1).1).1).1).2)
    mi_DifferentSteps := fun z q => isaB_ok ((He.ba (He.ba (He.ba (He.ba (He.ba (He.ba (He.ba (He.ba (He.ba (He.ba (He.ba (He.ba (hcl z (inE z ⟨_, q⟩))).1).1).1).1).1).1).1).1).1).1).1).2)
    mi_InvalidCell := fun z q => isaB_ok ((He.ba (He.ba (He.ba (He.ba (He.ba (He.ba (He.ba (He.ba (He.ba (He.ba (He.ba (hcl z (inE z ⟨_, q⟩))).1).1).1).1).1).1).1).1).1).1).2)
    mi_InvalidCells := fun z q => isaB_ok ((He.ba (He.ba (He.ba (He.ba (He.ba (He.ba (He.ba (He.ba (He.ba (He.ba (hcl z (inE z ⟨_, q⟩))).1).1).1).1).1).1).1).1).1).2)
    mi_InvalidChange := fun z q => isaB_ok ((He.ba (He.ba (He.ba (He.ba (He.ba (He.ba (He.ba (He.ba (He.ba (hcl z (inE z ⟨_, q⟩))).1).1).1).1).1).1).1).1).2)
    mi_InvalidNumber := fun z q => isaB_ok ((He.ba (He.ba (He.ba (He.ba (He.ba (He.ba (He.ba (He.ba (hcl z (inE z ⟨_, q⟩))).1).1).1).1).1).1).1).2)
    mi_InvalidRow := fun z q => isaB_ok ((He.ba (He.ba (He.ba (He.ba (He.ba (He.ba (He.ba (hcl z (inE z ⟨_, q⟩))).1).1).1).1).1).1).2)
    mi_InvalidSize := fun z q => isaB_ok ((He.ba (He.ba (He.ba (He.ba (He.ba (He.ba (hcl z (inE z ⟨_, q⟩))).1).1).1).1).1).2)
    mi_InvalidStep := fun z q => isaB_ok ((He.ba (He.ba (He.ba (He.ba (He.ba (hcl z (inE z ⟨_, q⟩))).1).1).1).1).2)
    mi_InvalidView := fun z q => isaB_ok ((He.ba (He.ba (He.ba (He.ba (hcl z (inE z ⟨_, q⟩))).1).1).1).2)
    mi_NothingToUndo := fun z q => isaB_ok ((He.ba (He.ba (He.ba (hcl z (inE z ⟨_, q⟩))).1).1).2)
    mi_ParseError := fun z q => isaB_ok ((He.ba (He.ba (hcl z (inE z ⟨_, q⟩))).1).2)
    mv := fun z q => isaVB_ok ((He.ba (hcl z (inE z ⟨_, q⟩))).2)
    vE := He.free_ok X G (cd.fact 18 rfl)
  }
variable [Tb]
theorem facts (X : K.In h) (G : h.Ns mainGlobals mg) (c : He.SaysX fa fn [] tf ex w h K) (hm : ∀ p ∈ tf, ((He.cT K p).2, lamQ p.1) ∈ Tb.T) : ∃ fd : FuncData, (∀ (s : Shared) (v : Value), BindsTo s fd ⟨[v], []⟩ [("_law_script", v)]) ∧ ∀ base : Heap, (∀ p ∈ tf, LamX.TabB base mg (He.cT K p).1 (He.cT K p).2) → FnOk P w K mg base (L2.CX P w) 8 (He.ga K "law") fd ["_law_script"] (spOf K 1 F_law) := by
  have cd := c.t.d
  obtain ⟨fd_is_int, D_is_int⟩ := cd.def_ 0 (d := d_is_int) rfl
  obtain ⟨fd_is_view, D_is_view⟩ := cd.def_ 1 (d := d_is_view) rfl
  obtain ⟨fd_check_view, D_check_view⟩ := cd.def_ 2 (d := d_check_view) rfl
  obtain ⟨fd_check_step, D_check_step⟩ := cd.def_ 3 (d := d_check_step) rfl
  obtain ⟨fd_check_row, D_check_row⟩ := cd.def_ 4 (d := d_check_row) rfl
  obtain ⟨fd_rest_of, D_rest_of⟩ := cd.def_ 5 (d := d_rest_of) rfl
  obtain ⟨fd_rounded, D_rounded⟩ := cd.def_ 6 (d := d_rounded) rfl
  obtain ⟨fd_find_first, D_find_first⟩ := cd.def_ 7 (d := d_find_first) rfl
  obtain ⟨fd_find_changed, D_find_changed⟩ := cd.def_ 8 (d := d_find_changed) rfl
  obtain ⟨fd_has_change, D_has_change⟩ := cd.def_ 9 (d := d_has_change) rfl
  obtain ⟨fd_check_change, D_check_change⟩ := cd.def_ 10 (d := d_check_change) rfl
  obtain ⟨fd_find_kept, D_find_kept⟩ := cd.def_ 11 (d := d_find_kept) rfl
  obtain ⟨fd_check_size, D_check_size⟩ := cd.def_ 12 (d := d_check_size) rfl
  obtain ⟨fd_bounded, D_bounded⟩ := cd.def_ 13 (d := d_bounded) rfl
  obtain ⟨fd_ScrolledView, D_ScrolledView⟩ := cd.def_ 14 (d := d_ScrolledView) rfl
  obtain ⟨fd_ScrolledView_view, D_ScrolledView_view⟩ := cd.def_ 15 (d := d_ScrolledView_view) rfl
  obtain ⟨fd_ScrolledView_first, D_ScrolledView_first⟩ := cd.def_ 16 (d := d_ScrolledView_first) rfl
  obtain ⟨fd_ScrolledView_seen, D_ScrolledView_seen⟩ := cd.def_ 17 (d := d_ScrolledView_seen) rfl
  obtain ⟨fd_ScrolledView_move, D_ScrolledView_move⟩ := cd.def_ 18 (d := d_ScrolledView_move) rfl
  obtain ⟨fd_ScrolledView_go, D_ScrolledView_go⟩ := cd.def_ 19 (d := d_ScrolledView_go) rfl
  obtain ⟨fd_ScrolledView_turn, D_ScrolledView_turn⟩ := cd.def_ 20 (d := d_ScrolledView_turn) rfl
  obtain ⟨fd_ScrolledView_show, D_ScrolledView_show⟩ := cd.def_ 21 (d := d_ScrolledView_show) rfl
  obtain ⟨fd_ScrolledView_change, D_ScrolledView_change⟩ := cd.def_ 22 (d := d_ScrolledView_change) rfl
  obtain ⟨fd_ScrolledView_undo, D_ScrolledView_undo⟩ := cd.def_ 23 (d := d_ScrolledView_undo) rfl
  obtain ⟨fd_ScrolledView_redo, D_ScrolledView_redo⟩ := cd.def_ 24 (d := d_ScrolledView_redo) rfl
  obtain ⟨fd_ScrolledView_copy, D_ScrolledView_copy⟩ := cd.def_ 25 (d := d_ScrolledView_copy) rfl
  obtain ⟨fd_ScrolledView___eq__, D_ScrolledView___eq__⟩ := cd.def_ 26 (d := d_ScrolledView___eq__) rfl
  obtain ⟨fd_ScrolledView___len__, D_ScrolledView___len__⟩ := cd.def_ 27 (d := d_ScrolledView___len__) rfl
  obtain ⟨fd__law_round, D__law_round⟩ := cd.def_ 28 (d := d__law_round) rfl
  obtain ⟨fd__law_firsts, D__law_firsts⟩ := cd.def_ 29 (d := d__law_firsts) rfl
  obtain ⟨fd__law_pick, D__law_pick⟩ := cd.def_ 30 (d := d__law_pick) rfl
  obtain ⟨fd__law_some, D__law_some⟩ := cd.def_ 31 (d := d__law_some) rfl
  obtain ⟨fd__law_class, D__law_class⟩ := cd.def_ 32 (d := d__law_class) rfl
  obtain ⟨fd__law_result, D__law_result⟩ := cd.def_ 33 (d := d__law_result) rfl
  obtain ⟨fd__law_next, D__law_next⟩ := cd.def_ 34 (d := d__law_next) rfl
  obtain ⟨fd__law_calls, D__law_calls⟩ := cd.def_ 35 (d := d__law_calls) rfl
  obtain ⟨fd_law, D_law⟩ := cd.def_ 36 (d := d_law) rfl
  refine ⟨fd_law, fun s v => FunD.bindsA (ps := ["_law_script"]) D_law (fun _ _ _ _ _ _ us hl => match us, hl with | [_], _ => rfl) s [v] rfl, fun base hTB => ?_⟩
  have T : Tx P w K mg base := tx X G c
  have o_is_int := ok_is_int (P := P) (w := w) (base := base) { T with } D_is_int
  have k_is_int := defK (n := 3) D_is_int (He.glo_ok X G (cd.fact 73 rfl)) rfl o_is_int (fun _ _ _ _ _ _ us hl => match us, hl with | [_, _, _], _ => rfl)
  have o_is_view := ok_is_view (P := P) (w := w) (base := base) { T with d_is_int := k_is_int } D_is_view
  have k_is_view := defK (n := 1) D_is_view (He.glo_ok X G (cd.fact 74 rfl)) rfl o_is_view (fun _ _ _ _ _ _ us hl => match us, hl with | [_], _ => rfl)
  have o_check_view := ok_check_view (P := P) (w := w) (base := base) { T with d_is_view := k_is_view } D_check_view
  have k_check_view := defK (n := 1) D_check_view (He.glo_ok X G (cd.fact 75 rfl)) rfl o_check_view (fun _ _ _ _ _ _ us hl => match us, hl with | [_], _ => rfl)
  have o_check_step := ok_check_step (P := P) (w := w) (base := base) { T with d_is_int := k_is_int, d_check_view := k_check_view } D_check_step
  have k_check_step := defK (n := 2) D_check_step (He.glo_ok X G (cd.fact 76 rfl)) rfl o_check_step (fun _ _ _ _ _ _ us hl => match us, hl with | [_, _], _ => rfl)
  have o_check_row := ok_check_row (P := P) (w := w) (base := base) { T with d_is_int := k_is_int } D_check_row
  have k_check_row := defK (n := 2) D_check_row (He.glo_ok X G (cd.fact 77 rfl)) rfl o_check_row (fun _ _ _ _ _ _ us hl => match us, hl with | [_, _], _ => rfl)
  have o_rest_of := ok_rest_of (P := P) (w := w) (base := base) { T with } D_rest_of
  have k_rest_of := defK (n := 1) D_rest_of (He.glo_ok X G (cd.fact 78 rfl)) rfl o_rest_of (fun _ _ _ _ _ _ us hl => match us, hl with | [_], _ => rfl)
  have o_rounded := ok_rounded (P := P) (w := w) (base := base) { T with } D_rounded
  have k_rounded := defK (n := 3) D_rounded (He.glo_ok X G (cd.fact 79 rfl)) rfl o_rounded (fun _ _ _ _ _ _ us hl => match us, hl with | [_, _, _], _ => rfl)
  have o_find_first := ok_find_first (P := P) (w := w) (base := base) { T with d_rest_of := k_rest_of, d_rounded := k_rounded } D_find_first
  have k_find_first := defK (n := 2) D_find_first (He.glo_ok X G (cd.fact 80 rfl)) rfl o_find_first (fun _ _ _ _ _ _ us hl => match us, hl with | [_, _], _ => rfl)
  have o_find_changed := ok_find_changed (P := P) (w := w) (base := base) { T with } D_find_changed
  have k_find_changed := defK (n := 2) D_find_changed (He.glo_ok X G (cd.fact 81 rfl)) rfl o_find_changed (fun _ _ _ _ _ _ us hl => match us, hl with | [_, _], _ => rfl)
  have o_has_change := ok_has_change (P := P) (w := w) (base := base) { T with d_is_int := k_is_int, d_is_view := k_is_view, d_find_changed := k_find_changed } D_has_change
  have k_has_change := defK (n := 2) D_has_change (He.glo_ok X G (cd.fact 82 rfl)) rfl o_has_change (fun _ _ _ _ _ _ us hl => match us, hl with | [_, _], _ => rfl)
  have o_check_change := ok_check_change (P := P) (w := w) (base := base) { T with d_has_change := k_has_change } D_check_change
  have k_check_change := defK (n := 2) D_check_change (He.glo_ok X G (cd.fact 83 rfl)) rfl o_check_change (fun _ _ _ _ _ _ us hl => match us, hl with | [_, _], _ => rfl)
  have o_find_kept := ok_find_kept (P := P) (w := w) (base := base) { T with d_rest_of := k_rest_of, d_find_changed := k_find_changed } D_find_kept
  have k_find_kept := defK (n := 3) D_find_kept (He.glo_ok X G (cd.fact 84 rfl)) rfl o_find_kept (fun _ _ _ _ _ _ us hl => match us, hl with | [_, _, _], _ => rfl)
  have o_check_size := ok_check_size (P := P) (w := w) (base := base) { T with d_is_int := k_is_int } D_check_size
  have k_check_size := defK (n := 2) D_check_size (He.glo_ok X G (cd.fact 85 rfl)) rfl o_check_size (fun _ _ _ _ _ _ us hl => match us, hl with | [_, _], _ => rfl)
  have o_bounded := ok_bounded (P := P) (w := w) (base := base) { T with d_rest_of := k_rest_of } D_bounded
  have k_bounded := defK (n := 2) D_bounded (He.glo_ok X G (cd.fact 86 rfl)) rfl o_bounded (fun _ _ _ _ _ _ us hl => match us, hl with | [_, _], _ => rfl)
  have new_ScrolledView : NewK P w K mg base "ScrolledView" 4 F_check_view := ⟨He.glo_ok X G (cd.fact 54 rfl), _, fd_ScrolledView, He.mkr_ok (cd.fact 56 rfl), ok_ScrolledView { T with d_check_view := k_check_view } D_ScrolledView, D_ScrolledView.bindsN (ps := ["self", "view"]) (fun _ _ _ _ _ _ us hl => match us, hl with | [_, _], _ => rfl)⟩
  have o_ScrolledView_view := ok_ScrolledView_view (P := P) (w := w) (base := base) { T with } D_ScrolledView_view
  have k_ScrolledView_view : MetK P w K mg base "ScrolledView" "view" 1 1 F_ScrolledView_view := ⟨He.cls_ok (cd.fact 55 rfl), He.meth_ok (cd.fact 60 rfl), fd_ScrolledView_view, ["self"], o_ScrolledView_view, D_ScrolledView_view.bindsN (ps := ["self"]) (fun _ _ _ _ _ _ us hl => match us, hl with | [_], _ => rfl)⟩
  have o_ScrolledView_first := ok_ScrolledView_first (P := P) (w := w) (base := base) { T with } D_ScrolledView_first
  have k_ScrolledView_first : MetK P w K mg base "ScrolledView" "first" 1 1 F_ScrolledView_first := ⟨He.cls_ok (cd.fact 55 rfl), He.meth_ok (cd.fact 61 rfl), fd_ScrolledView_first, ["self"], o_ScrolledView_first, D_ScrolledView_first.bindsN (ps := ["self"]) (fun _ _ _ _ _ _ us hl => match us, hl with | [_], _ => rfl)⟩
  have o_ScrolledView_seen := ok_ScrolledView_seen (P := P) (w := w) (base := base) { T with } D_ScrolledView_seen
  have k_ScrolledView_seen : MetK P w K mg base "ScrolledView" "seen" 1 1 F_ScrolledView_seen := ⟨He.cls_ok (cd.fact 55 rfl), He.meth_ok (cd.fact 62 rfl), fd_ScrolledView_seen, ["self"], o_ScrolledView_seen, D_ScrolledView_seen.bindsN (ps := ["self"]) (fun _ _ _ _ _ _ us hl => match us, hl with | [_], _ => rfl)⟩
  have o_ScrolledView_move := ok_ScrolledView_move (P := P) (w := w) (base := base) { T with } D_ScrolledView_move
  have k_ScrolledView_move : MetO P w K mg base "ScrolledView" "move" 1 2 M_ScrolledView_move := ⟨He.cls_ok (cd.fact 55 rfl), He.meth_ok (cd.fact 63 rfl), fd_ScrolledView_move, ["self", "known", "row"], o_ScrolledView_move, D_ScrolledView_move.bindsN (ps := ["self", "known", "row"]) (fun _ _ _ _ _ _ us hl => match us, hl with | [_, _, _], _ => rfl)⟩
  have o_ScrolledView_go := ok_ScrolledView_go (P := P) (w := w) (base := base) { T with d_check_step := k_check_step, d_find_first := k_find_first, d_ScrolledView_move := k_ScrolledView_move } D_ScrolledView_go
  have k_ScrolledView_go : MetO P w K mg base "ScrolledView" "go" 5 1 M_ScrolledView_go := ⟨He.cls_ok (cd.fact 55 rfl), He.meth_ok (cd.fact 64 rfl), fd_ScrolledView_go, ["self", "step"], o_ScrolledView_go, D_ScrolledView_go.bindsN (ps := ["self", "step"]) (fun _ _ _ _ _ _ us hl => match us, hl with | [_, _], _ => rfl)⟩
  have o_ScrolledView_turn := ok_ScrolledView_turn (P := P) (w := w) (base := base) { T with d_is_int := k_is_int, d_check_size := k_check_size, d_bounded := k_bounded, d_ScrolledView_move := k_ScrolledView_move } D_ScrolledView_turn
  have k_ScrolledView_turn : MetO P w K mg base "ScrolledView" "turn" 3 2 M_ScrolledView_turn := ⟨He.cls_ok (cd.fact 55 rfl), He.meth_ok (cd.fact 65 rfl), fd_ScrolledView_turn, ["self", "size", "turns"], o_ScrolledView_turn, D_ScrolledView_turn.bindsN (ps := ["self", "size", "turns"]) (fun _ _ _ _ _ _ us hl => match us, hl with | [_, _, _], _ => rfl)⟩
  have o_ScrolledView_show := ok_ScrolledView_show (P := P) (w := w) (base := base) { T with d_check_row := k_check_row, d_bounded := k_bounded, d_ScrolledView_move := k_ScrolledView_move } D_ScrolledView_show
  have k_ScrolledView_show : MetO P w K mg base "ScrolledView" "show" 3 1 M_ScrolledView_show := ⟨He.cls_ok (cd.fact 55 rfl), He.meth_ok (cd.fact 66 rfl), fd_ScrolledView_show, ["self", "row"], o_ScrolledView_show, D_ScrolledView_show.bindsN (ps := ["self", "row"]) (fun _ _ _ _ _ _ us hl => match us, hl with | [_, _], _ => rfl)⟩
  have o_ScrolledView_change := ok_ScrolledView_change (P := P) (w := w) (base := base) { T with d_find_changed := k_find_changed, d_check_change := k_check_change, d_find_kept := k_find_kept, d_ScrolledView_move := k_ScrolledView_move } D_ScrolledView_change
  have k_ScrolledView_change : MetO P w K mg base "ScrolledView" "change" 5 1 M_ScrolledView_change := ⟨He.cls_ok (cd.fact 55 rfl), He.meth_ok (cd.fact 67 rfl), fd_ScrolledView_change, ["self", "some"], o_ScrolledView_change, D_ScrolledView_change.bindsN (ps := ["self", "some"]) (fun _ _ _ _ _ _ us hl => match us, hl with | [_, _], _ => rfl)⟩
  have o_ScrolledView_undo := ok_ScrolledView_undo (P := P) (w := w) (base := base) { T with } D_ScrolledView_undo
  have k_ScrolledView_undo : MetO P w K mg base "ScrolledView" "undo" 1 0 M_ScrolledView_undo := ⟨He.cls_ok (cd.fact 55 rfl), He.meth_ok (cd.fact 68 rfl), fd_ScrolledView_undo, ["self"], o_ScrolledView_undo, D_ScrolledView_undo.bindsN (ps := ["self"]) (fun _ _ _ _ _ _ us hl => match us, hl with | [_], _ => rfl)⟩
  have o_ScrolledView_redo := ok_ScrolledView_redo (P := P) (w := w) (base := base) { T with } D_ScrolledView_redo
  have k_ScrolledView_redo : MetO P w K mg base "ScrolledView" "redo" 1 0 M_ScrolledView_redo := ⟨He.cls_ok (cd.fact 55 rfl), He.meth_ok (cd.fact 69 rfl), fd_ScrolledView_redo, ["self"], o_ScrolledView_redo, D_ScrolledView_redo.bindsN (ps := ["self"]) (fun _ _ _ _ _ _ us hl => match us, hl with | [_], _ => rfl)⟩
  have o_ScrolledView_copy := ok_ScrolledView_copy (P := P) (w := w) (base := base) { T with new_ScrolledView := new_ScrolledView } D_ScrolledView_copy
  have k_ScrolledView_copy : MetO P w K mg base "ScrolledView" "copy" 6 0 M_ScrolledView_copy := ⟨He.cls_ok (cd.fact 55 rfl), He.meth_ok (cd.fact 70 rfl), fd_ScrolledView_copy, ["self"], o_ScrolledView_copy, D_ScrolledView_copy.bindsN (ps := ["self"]) (fun _ _ _ _ _ _ us hl => match us, hl with | [_], _ => rfl)⟩
  have o_ScrolledView___eq__ := ok_ScrolledView___eq__ (P := P) (w := w) (base := base) { T with } D_ScrolledView___eq__
  have k_ScrolledView___eq__ : MetK P w K mg base "ScrolledView" "__eq__" 6 2 F_ScrolledView___eq__ := ⟨He.cls_ok (cd.fact 55 rfl), He.meth_ok (cd.fact 71 rfl), fd_ScrolledView___eq__, ["self", "other"], o_ScrolledView___eq__, D_ScrolledView___eq__.bindsN (ps := ["self", "other"]) (fun _ _ _ _ _ _ us hl => match us, hl with | [_, _], _ => rfl)⟩
  have o_ScrolledView___len__ := ok_ScrolledView___len__ (P := P) (w := w) (base := base) { T with } D_ScrolledView___len__
  have k_ScrolledView___len__ : MetK P w K mg base "ScrolledView" "__len__" 1 1 F_ScrolledView___len__ := ⟨He.cls_ok (cd.fact 55 rfl), He.meth_ok (cd.fact 72 rfl), fd_ScrolledView___len__, ["self"], o_ScrolledView___len__, D_ScrolledView___len__.bindsN (ps := ["self"]) (fun _ _ _ _ _ _ us hl => match us, hl with | [_], _ => rfl)⟩
  have o__law_round := ok__law_round (P := P) (w := w) (base := base) { T with } D__law_round
  have k__law_round := defK (n := 3) D__law_round (He.glo_ok X G (cd.fact 87 rfl)) rfl o__law_round (fun _ _ _ _ _ _ us hl => match us, hl with | [_, _, _], _ => rfl)
  have o__law_firsts := ok__law_firsts (P := P) (w := w) (base := base) { T with d__law_round := k__law_round } D__law_firsts
  have k__law_firsts := defK (n := 1) D__law_firsts (He.glo_ok X G (cd.fact 88 rfl)) rfl o__law_firsts (fun _ _ _ _ _ _ us hl => match us, hl with | [_], _ => rfl)
  have o__law_pick := ok__law_pick (P := P) (w := w) (base := base) { T with } D__law_pick
  have k__law_pick := defK (n := 3) D__law_pick (He.glo_ok X G (cd.fact 89 rfl)) rfl o__law_pick (fun _ _ _ _ _ _ us hl => match us, hl with | [_, _, _], _ => rfl)
  have o__law_some := ok__law_some (P := P) (w := w) (base := base) { T with d__law_pick := k__law_pick } D__law_some
  have k__law_some := defK (n := 2) D__law_some (He.glo_ok X G (cd.fact 90 rfl)) rfl o__law_some (fun _ _ _ _ _ _ us hl => match us, hl with | [_, _], _ => rfl)
  have k__law_class := ok__law_class (P := P) (w := w) (base := base) { T with } (He.glo_ok X G (cd.fact 91 rfl)) D__law_class
  have o__law_result := ok__law_result (P := P) (w := w) (base := base) { T with d_ScrolledView_go := k_ScrolledView_go, d_ScrolledView_turn := k_ScrolledView_turn, d_ScrolledView_show := k_ScrolledView_show, d_ScrolledView_change := k_ScrolledView_change, d_ScrolledView_undo := k_ScrolledView_undo, d_ScrolledView_redo := k_ScrolledView_redo, d__law_class := k__law_class } D__law_result
  have k__law_result := resK (x := "_law_result") D__law_result (He.glo_ok X G (cd.fact 92 rfl)) o__law_result (fun _ _ _ _ _ _ us hl => match us, hl with | [_], _ => rfl)
  have o__law_next := ok__law_next (P := P) (w := w) (base := base) { T with d__law_firsts := k__law_firsts } D__law_next
  have k__law_next := defK (n := 4) D__law_next (He.glo_ok X G (cd.fact 93 rfl)) rfl o__law_next (fun _ _ _ _ _ _ us hl => match us, hl with | [_, _, _, _], _ => rfl)
  have o__law_calls := ok__law_calls (P := P) (w := w) (base := base) { T with } (tellsD D__law_calls (hTB _ (show (("_law_calls", none) : He.Defn) ∈ tf by simp [tf])) (hm _ (show (("_law_calls", none) : He.Defn) ∈ tf by simp [tf]))) D__law_calls
  have k__law_calls := defK (n := 3) D__law_calls (He.glo_ok X G (cd.fact 94 rfl)) rfl o__law_calls (fun _ _ _ _ _ _ us hl => match us, hl with | [_, _, _], _ => rfl)
  have o_law := ok_law (P := P) (w := w) (base := base) { T with new_ScrolledView := new_ScrolledView, d_ScrolledView_view := k_ScrolledView_view, d_ScrolledView_first := k_ScrolledView_first, d_ScrolledView_seen := k_ScrolledView_seen, d_ScrolledView_go := k_ScrolledView_go, d_ScrolledView_copy := k_ScrolledView_copy, d_ScrolledView___eq__ := k_ScrolledView___eq__, d_ScrolledView___len__ := k_ScrolledView___len__, d__law_pick := k__law_pick, d__law_some := k__law_some, d__law_result := k__law_result, d__law_next := k__law_next, d__law_calls := k__law_calls } D_law
  exact o_law
end
end Law
open PySem PySem.W PySem.Calls PyProof.Rows
set_option maxRecDepth 100000 in
set_option maxHeartbeats 8000000 in
theorem PySem.Challenge.cw_scrolledlists_k60_moving_holds : PySem.Challenge.rw_scrolledlists_k60_moving.Holds := by
  w_on; o_law
  refine HandSHeadRun.head_any (r := OpenLaw.row PySem.Challenge.rw_scrolledlists_k60_moving) (q := view (OpenLaw.row PySem.Challenge.rw_scrolledlists_k60_moving).prog [52]) (H := Law.hk) (ob := Law.ob) (M := 20000) (loose := Law.loose) (d := HandSHeadRun.topDef (OpenLaw.row PySem.Challenge.rw_scrolledlists_k60_moving).prog 52) (kwd := []) Law.ob_eq
    (by kernel_rfl) (fun s => by kernel_rfl) Law.run (by kernel_rfl) (by kernel_rfl) (by kernel_rfl) (by rfl) (by first | assumption | decide +kernel) (by decide +kernel) ⟨rfl, rfl, rfl, rfl, rfl, by decide +kernel⟩ ?hw ?hc
  case hw => w_witness2
  case hc =>
    refine LamX.walk_ofTsE (CX := fun w => L2.CX (PySem.Challenge.rw_scrolledlists_k60_moving).prog w) (l := PySem.Challenge.rw_scrolledlists_k60_moving) (n := 63) (k := 8) (x := "_law_script") rfl (by decide) (by kernel_rfl) ⟨rfl, by decide, by decide⟩ ?F fun w => Pg.noCX
    intro w mg fa h Y G hmg0
    obtain ⟨K, KX, c⟩ := Y
    have e : (HandSHeadRun.topDef (OpenLaw.row PySem.Challenge.rw_scrolledlists_k60_moving).prog 52).name = ("law" : PySem.Str) := by kernel_rfl
    rw [e, He.glo_ok KX G (c.t.d.fact 95 (f := .glo "law") rfl)] at hmg0
    cases hmg0
    exact ⟨K, KX, Pg.law_endX KX c.hd c.out c.empty (He.ba c.more).1 (by decide) Law.law_true fun t hm => Law.facts (P := (PySem.Challenge.rw_scrolledlists_k60_moving).prog) (w := w) KX G c hm⟩
#print axioms PySem.Challenge.cw_scrolledlists_k60_moving_holds
