import PyProof.Rows.All
import Wide.All
import OpenK.AllK
import Wide.FinOn
import HandS.ForExc
import HandS.Head0
import HandS.Head1
import HandS.Head2
import HandS.HeadEnd
import HandS.Property
import HandS.HeadHook3
import HandS.ForMost
import HandS.Flow
import HandS.Style
import HandS.MakeKwOnly
import HandS.IsInst
import HandS.More
import HandS.Codes
import HandS.TupAny
import HandS.Comp
import HandS.Iter
import HandS.Walk
import HandS.Defaults
import HandS.FStrTup
import PySem.Challenge.RW_selfprint_k42_whole_runs_little_by_littl
set_option Elab.async false
set_option linter.all false
set_option maxRecDepth 100000
set_option maxHeartbeats 4000000
/-! KA -/
/-! the text by places: printed by genA.py -/
namespace K42
open PySem L2
def topS (i : Nat) : Stmt := PySem.Challenge.pw_selfprint_k42_whole_runs_little_by_littl.main.body.getD i (.Pass ⟨0, 0, 0, 0⟩)
abbrev s_is_integer : Stmt := topS 12
abbrev s_is_count : Stmt := topS 13
abbrev s_is_list : Stmt := topS 14
abbrev s_want_many : Stmt := topS 15
abbrev s_want_at_most : Stmt := topS 16
abbrev s_is_leaf : Stmt := topS 26
abbrev s_is_branch : Stmt := topS 29
abbrev s_is_kind : Stmt := topS 30
abbrev s_data_kind : Stmt := topS 31
abbrev s_is_node : Stmt := topS 40
abbrev s_are_tree : Stmt := topS 41
abbrev s_is_term : Stmt := topS 42
abbrev s_ends_of : Stmt := topS 43
abbrev s_children_of : Stmt := topS 44
abbrev s_row_of : Stmt := topS 47
abbrev s_kind_in : Stmt := topS 48
abbrev s_kind_of_leaf : Stmt := topS 49
abbrev s_kind_of_part : Stmt := topS 50
abbrev s_kind_of_call : Stmt := topS 51
abbrev s_kind_of_turns : Stmt := topS 52
abbrev s_kind_of_few : Stmt := topS 53
abbrev s_kind_by : Stmt := topS 54
abbrev s_bound_kind : Stmt := topS 55
abbrev s_Frame_init : Stmt := inClass (topS 56) 0
abbrev s_next_row : Stmt := topS 57
abbrev s_finished : Stmt := topS 58
abbrev s_kinds_of : Stmt := topS 59
abbrev s_fitting_kinds : Stmt := topS 60
abbrev s_is_program : Stmt := topS 61
abbrev s_want_program : Stmt := topS 62
abbrev s_told_worth : Stmt := topS 65
abbrev s_worth_out : Stmt := topS 68
abbrev s_Engine_init : Stmt := inClass (topS 69) 0
abbrev s_Engine_begin : Stmt := inClass (topS 69) 2
abbrev s_Engine_see : Stmt := inClass (topS 69) 3
abbrev s_Engine_called : Stmt := inClass (topS 69) 4
abbrev s_Engine_turned : Stmt := inClass (topS 69) 5
abbrev s_Engine_opened : Stmt := inClass (topS 69) 6
abbrev s_Engine_parted : Stmt := inClass (topS 69) 7
abbrev s_Engine_done : Stmt := inClass (topS 69) 8
abbrev s_Engine_all_done : Stmt := inClass (topS 69) 9
abbrev s_Engine_worth_in : Stmt := inClass (topS 69) 10
abbrev s_begins : Stmt := topS 70
abbrev s_value_of : Stmt := topS 71
abbrev s_call_row : Stmt := topS 72
abbrev s_call_count : Stmt := topS 73
abbrev s_Run_init : Stmt := inClass (topS 75) 0
abbrev s_Run_calls : Stmt := inClass (topS 75) 1
abbrev s_Run_is_done : Stmt := inClass (topS 75) 2
abbrev s_Run_go : Stmt := inClass (topS 75) 3
abbrev s_Run_gone : Stmt := inClass (topS 75) 4
abbrev s_Run_value : Stmt := inClass (topS 75) 5
abbrev s_law_pot : Stmt := topS 77
abbrev s_law_draw : Stmt := topS 78
abbrev s_law_pick : Stmt := topS 79
abbrev s_law_tree : Stmt := topS 80
abbrev s_law_run : Stmt := topS 81
abbrev s_law_called : Stmt := topS 82
abbrev s_law_worth : Stmt := topS 83
abbrev s_law_kinds : Stmt := topS 84
abbrev s_law_data : Stmt := topS 85
abbrev s_law_leaf : Stmt := topS 86
abbrev s_law_term : Stmt := topS 87
abbrev s_law_grown : Stmt := topS 88
abbrev s_law_program : Stmt := topS 89
abbrev s_law_run_right : Stmt := topS 90
abbrev s_law_right : Stmt := topS 91
abbrev s_law : Stmt := topS 92
theorem sc_is_integer : FnScope ["value"] ["value"] (defScope s_is_integer) := ⟨rfl, rfl, rfl, by decide +kernel, rfl, by decide +kernel, by decide +kernel⟩
theorem sc_is_count : FnScope ["value"] ["value"] (defScope s_is_count) := ⟨rfl, rfl, rfl, by decide +kernel, rfl, by decide +kernel, by decide +kernel⟩
theorem sc_is_list : FnScope ["value"] ["value"] (defScope s_is_list) := ⟨rfl, rfl, rfl, by decide +kernel, rfl, by decide +kernel, by decide +kernel⟩
theorem sc_want_many : FnScope ["value", "most", "least"] ["value", "most", "least"] (defScope s_want_many) := ⟨rfl, rfl, rfl, by decide +kernel, rfl, by decide +kernel, by decide +kernel⟩
theorem sc_want_at_most : FnScope ["what", "limit", "number"] ["what", "limit", "number"] (defScope s_want_at_most) := ⟨rfl, rfl, rfl, by decide +kernel, rfl, by decide +kernel, by decide +kernel⟩
theorem sc_is_leaf : FnScope ["value"] ["value"] (defScope s_is_leaf) := ⟨rfl, rfl, rfl, by decide +kernel, rfl, by decide +kernel, by decide +kernel⟩
theorem sc_is_branch : FnScope ["value"] ["value"] (defScope s_is_branch) := ⟨rfl, rfl, rfl, by decide +kernel, rfl, by decide +kernel, by decide +kernel⟩
theorem sc_is_kind : FnScope ["value", "left", "signs", "one", "deep"] ["value"] (defScope s_is_kind) := ⟨rfl, rfl, rfl, by decide +kernel, rfl, by decide +kernel, by decide +kernel⟩
theorem sc_data_kind : FnScope ["kind"] ["kind"] (defScope s_data_kind) := ⟨rfl, rfl, rfl, by decide +kernel, rfl, by decide +kernel, by decide +kernel⟩
theorem sc_is_node : FnScope ["value"] ["value"] (defScope s_is_node) := ⟨rfl, rfl, rfl, by decide +kernel, rfl, by decide +kernel, by decide +kernel⟩
theorem sc_are_tree : FnScope ["nodes", "wanted", "node"] ["nodes"] (defScope s_are_tree) := ⟨rfl, rfl, rfl, by decide +kernel, rfl, by decide +kernel, by decide +kernel⟩
theorem sc_is_term : FnScope ["value", "node"] ["value"] (defScope s_is_term) := ⟨rfl, rfl, rfl, by decide +kernel, rfl, by decide +kernel, by decide +kernel⟩
theorem sc_ends_of : FnScope ["nodes", "found", "behind", "node", "position", "end", "child"] ["nodes"] (defScope s_ends_of) := ⟨rfl, rfl, rfl, by decide +kernel, rfl, by decide +kernel, by decide +kernel⟩
theorem sc_children_of : FnScope ["nodes", "ends", "found", "position", "node", "here", "spots", "child"] ["nodes"] (defScope s_children_of) := ⟨rfl, rfl, rfl, by decide +kernel, rfl, by decide +kernel, by decide +kernel⟩
theorem sc_row_of : FnScope ["names", "found", "kind"] ["names"] (defScope s_row_of) := ⟨rfl, rfl, rfl, by decide +kernel, rfl, by decide +kernel, by decide +kernel⟩
theorem sc_kind_in : FnScope ["row", "out", "left", "turn"] ["row", "out"] (defScope s_kind_in) := ⟨rfl, rfl, rfl, by decide +kernel, rfl, by decide +kernel, by decide +kernel⟩
theorem sc_kind_of_leaf : FnScope ["node", "row"] ["node", "row"] (defScope s_kind_of_leaf) := ⟨rfl, rfl, rfl, by decide +kernel, rfl, by decide +kernel, by decide +kernel⟩
theorem sc_kind_of_part : FnScope ["word", "one"] ["word", "one"] (defScope s_kind_of_part) := ⟨rfl, rfl, rfl, by decide +kernel, rfl, by decide +kernel, by decide +kernel⟩
theorem sc_kind_of_call : FnScope ["one", "other"] ["one", "other"] (defScope s_kind_of_call) := ⟨rfl, rfl, rfl, by decide +kernel, rfl, by decide +kernel, by decide +kernel⟩
theorem sc_kind_of_turns : FnScope ["kind", "some"] ["kind", "some"] (defScope s_kind_of_turns) := ⟨rfl, rfl, rfl, by decide +kernel, rfl, by decide +kernel, by decide +kernel⟩
theorem sc_kind_of_few : FnScope ["node", "some", "word"] ["node", "some"] (defScope s_kind_of_few) := ⟨rfl, rfl, rfl, by decide +kernel, rfl, by decide +kernel, by decide +kernel⟩
theorem sc_kind_by : FnScope ["node", "some", "made", "word", "found"] ["node", "some"] (defScope s_kind_by) := ⟨rfl, rfl, rfl, by decide +kernel, rfl, by decide +kernel, by decide +kernel⟩
theorem sc_bound_kind : FnScope ["node", "some", "word"] ["node", "some"] (defScope s_bound_kind) := ⟨rfl, rfl, rfl, by decide +kernel, rfl, by decide +kernel, by decide +kernel⟩
theorem sc_Frame_init : FnScope ["self", "position", "row"] ["self", "position", "row"] (defScope s_Frame_init) := ⟨rfl, rfl, rfl, by decide +kernel, rfl, by decide +kernel, by decide +kernel⟩
theorem sc_next_row : FnScope ["nodes", "frame", "node", "kind"] ["nodes", "frame"] (defScope s_next_row) := ⟨rfl, rfl, rfl, by decide +kernel, rfl, by decide +kernel, by decide +kernel⟩
theorem sc_finished : FnScope ["nodes", "frames", "kinds", "frame", "node", "kind"] ["nodes", "frames", "kinds"] (defScope s_finished) := ⟨rfl, rfl, rfl, by decide +kernel, rfl, by decide +kernel, by decide +kernel⟩
theorem sc_kinds_of : FnScope ["names", "nodes", "kinds", "frames", "top", "node", "position", "row", "kind"] ["names", "nodes"] (defScope s_kinds_of) := ⟨rfl, rfl, rfl, by decide +kernel, rfl, by decide +kernel, by decide +kernel⟩
theorem sc_fitting_kinds : FnScope ["names", "nodes"] ["names", "nodes"] (defScope s_fitting_kinds) := ⟨rfl, rfl, rfl, by decide +kernel, rfl, by decide +kernel, by decide +kernel⟩
theorem sc_is_program : FnScope ["value"] ["value"] (defScope s_is_program) := ⟨rfl, rfl, rfl, by decide +kernel, rfl, by decide +kernel, by decide +kernel⟩
theorem sc_want_program : FnScope ["value"] ["value"] (defScope s_want_program) := ⟨rfl, rfl, rfl, by decide +kernel, rfl, by decide +kernel, by decide +kernel⟩
theorem sc_told_worth : FnScope ["worth", "part"] ["worth"] (defScope s_told_worth) := ⟨rfl, rfl, rfl, by decide +kernel, rfl, by decide +kernel, by decide +kernel⟩
theorem sc_worth_out : FnScope ["row", "many", "found", "turn"] ["row", "many"] (defScope s_worth_out) := ⟨rfl, rfl, rfl, by decide +kernel, rfl, by decide +kernel, by decide +kernel⟩
theorem sc_Engine_init : FnScope ["self", "term", "limit"] ["self", "term", "limit"] (defScope s_Engine_init) := ⟨rfl, rfl, rfl, by decide +kernel, rfl, by decide +kernel, by decide +kernel⟩
theorem sc_Engine_begin : FnScope ["self", "position"] ["self", "position"] (defScope s_Engine_begin) := ⟨rfl, rfl, rfl, by decide +kernel, rfl, by decide +kernel, by decide +kernel⟩
theorem sc_Engine_see : FnScope ["self", "position", "row", "orders", "worths", "node", "children", "word", "child"] ["self", "position", "row", "orders", "worths"] (defScope s_Engine_see) := ⟨rfl, rfl, rfl, by decide +kernel, rfl, by decide +kernel, by decide +kernel⟩
theorem sc_Engine_called : FnScope ["self", "orders", "worths", "other", "worth", "kind", "level", "trail"] ["self", "orders", "worths"] (defScope s_Engine_called) := ⟨rfl, rfl, rfl, by decide +kernel, rfl, by decide +kernel, by decide +kernel⟩
theorem sc_Engine_turned : FnScope ["self", "position", "row", "left", "orders", "worths"] ["self", "position", "row", "left", "orders", "worths"] (defScope s_Engine_turned) := ⟨rfl, rfl, rfl, by decide +kernel, rfl, by decide +kernel, by decide +kernel⟩
theorem sc_Engine_opened : FnScope ["self", "word", "position", "row", "orders", "worths", "worth", "children"] ["self", "word", "position", "row", "orders", "worths"] (defScope s_Engine_opened) := ⟨rfl, rfl, rfl, by decide +kernel, rfl, by decide +kernel, by decide +kernel⟩
theorem sc_Engine_parted : FnScope ["self", "word", "worths", "last"] ["self", "word", "worths"] (defScope s_Engine_parted) := ⟨rfl, rfl, rfl, by decide +kernel, rfl, by decide +kernel, by decide +kernel⟩
theorem sc_Engine_done : FnScope ["self", "order", "orders", "worths", "word", "start", "many"] ["self", "order", "orders", "worths"] (defScope s_Engine_done) := ⟨rfl, rfl, rfl, by decide +kernel, rfl, by decide +kernel, by decide +kernel⟩
theorem sc_Engine_all_done : FnScope ["self", "orders", "worths"] ["self", "orders", "worths"] (defScope s_Engine_all_done) := ⟨rfl, rfl, rfl, by decide +kernel, rfl, by decide +kernel, by decide +kernel⟩
theorem sc_Engine_worth_in : FnScope ["self", "row"] ["self", "row"] (defScope s_Engine_worth_in) := ⟨rfl, rfl, rfl, by decide +kernel, rfl, by decide +kernel, by decide +kernel⟩
theorem sc_begins : FnScope ["order", "worths"] ["order", "worths"] (defScope s_begins) := ⟨rfl, rfl, rfl, by decide +kernel, rfl, by decide +kernel, by decide +kernel⟩
theorem sc_value_of : FnScope ["program", "nodes"] ["program"] (defScope s_value_of) := ⟨rfl, rfl, rfl, by decide +kernel, rfl, by decide +kernel, by decide +kernel⟩
theorem sc_call_row : FnScope ["program", "engine"] ["program"] (defScope s_call_row) := ⟨rfl, rfl, rfl, by decide +kernel, rfl, by decide +kernel, by decide +kernel⟩
theorem sc_call_count : FnScope ["program"] ["program"] (defScope s_call_count) := ⟨rfl, rfl, rfl, by decide +kernel, rfl, by decide +kernel, by decide +kernel⟩
theorem sc_Run_init : FnScope ["self", "program", "nodes"] ["self", "program"] (defScope s_Run_init) := ⟨rfl, rfl, rfl, by decide +kernel, rfl, by decide +kernel, by decide +kernel⟩
theorem sc_Run_calls : FnScope ["self"] ["self"] (defScope s_Run_calls) := ⟨rfl, rfl, rfl, by decide +kernel, rfl, by decide +kernel, by decide +kernel⟩
theorem sc_Run_is_done : FnScope ["self"] ["self"] (defScope s_Run_is_done) := ⟨rfl, rfl, rfl, by decide +kernel, rfl, by decide +kernel, by decide +kernel⟩
theorem sc_Run_go : FnScope ["self", "many", "held"] ["self", "many"] (defScope s_Run_go) := ⟨rfl, rfl, rfl, by decide +kernel, rfl, by decide +kernel, by decide +kernel⟩
theorem sc_Run_gone : FnScope ["self", "most", "orders", "worths"] ["self", "most"] (defScope s_Run_gone) := ⟨rfl, rfl, rfl, by decide +kernel, rfl, by decide +kernel, by decide +kernel⟩
theorem sc_Run_value : FnScope ["self"] ["self"] (defScope s_Run_value) := ⟨rfl, rfl, rfl, by decide +kernel, rfl, by decide +kernel, by decide +kernel⟩
theorem sc_law_pot : FnScope ["_law_script", "_law_k", "_law_cell"] ["_law_script", "_law_k"] (defScope s_law_pot) := ⟨rfl, rfl, rfl, by decide +kernel, rfl, by decide +kernel, by decide +kernel⟩
theorem sc_law_draw : FnScope ["_law_pot_here", "_law_many", "_law_digit"] ["_law_pot_here", "_law_many"] (defScope s_law_draw) := ⟨rfl, rfl, rfl, by decide +kernel, rfl, by decide +kernel, by decide +kernel⟩
theorem sc_law_pick : FnScope ["_law_pot_here", "_law_some"] ["_law_pot_here", "_law_some"] (defScope s_law_pick) := ⟨rfl, rfl, rfl, by decide +kernel, rfl, by decide +kernel, by decide +kernel⟩
theorem sc_law_tree : FnScope ["_law_term_here", "_law_at", "_law_node", "_law_many", "_law_kids", "_law_end", "_law_turn", "_law_kid"] ["_law_term_here", "_law_at"] (defScope s_law_tree) := ⟨rfl, rfl, rfl, by decide +kernel, rfl, by decide +kernel, by decide +kernel⟩
theorem sc_law_run : FnScope ["_law_tree_here", "_law_row", "_law_calls", "_law_node", "_law_at", "_law_kids", "_law_head", "_law_first", "_law_worth_here", "_law_turn", "_law_second"] ["_law_tree_here", "_law_row", "_law_calls"] (defScope s_law_run) := ⟨rfl, rfl, rfl, by decide +kernel, rfl, by decide +kernel, by decide +kernel⟩
theorem sc_law_called : FnScope ["_law_made", "_law_given", "_law_calls", "_law_node", "_law_at", "_law_kids"] ["_law_made", "_law_given", "_law_calls"] (defScope s_law_called) := ⟨rfl, rfl, rfl, by decide +kernel, rfl, by decide +kernel, by decide +kernel⟩
theorem sc_law_worth : FnScope ["_law_program_here", "_law_calls", "_law_worth_here"] ["_law_program_here"] (defScope s_law_worth) := ⟨rfl, rfl, rfl, by decide +kernel, rfl, by decide +kernel, by decide +kernel⟩
theorem sc_law_kinds : FnScope ["_law_number", "_law_step", "_law_two"] [] (defScope s_law_kinds) := ⟨rfl, rfl, rfl, by decide +kernel, rfl, by decide +kernel, by decide +kernel⟩
theorem sc_law_data : FnScope ["_law_pot_here", "_law_number", "_law_two", "_law_side"] ["_law_pot_here"] (defScope s_law_data) := ⟨rfl, rfl, rfl, by decide +kernel, rfl, by decide +kernel, by decide +kernel⟩
theorem sc_law_leaf : FnScope ["_law_pot_here", "_law_kind", "_law_names", "_law_some", "_law_at", "_law_one"] ["_law_pot_here", "_law_kind", "_law_names"] (defScope s_law_leaf) := ⟨rfl, rfl, rfl, by decide +kernel, rfl, by decide +kernel, by decide +kernel⟩
theorem sc_law_term : FnScope ["_law_pot_here", "_law_kind", "_law_names", "_law_deep", "_law_way", "_law_other", "_law_side", "_law_arms", "_law_step", "_law_many", "_law_some", "_law_at", "_law_one"] ["_law_pot_here", "_law_kind", "_law_names", "_law_deep"] (defScope s_law_term) := ⟨rfl, rfl, rfl, by decide +kernel, rfl, by decide +kernel, by decide +kernel⟩
theorem sc_law_grown : FnScope ["_law_pot_here", "_law_kind", "_law_names", "_law_deep"] ["_law_pot_here", "_law_kind", "_law_names", "_law_deep"] (defScope s_law_grown) := ⟨rfl, rfl, rfl, by decide +kernel, rfl, by decide +kernel, by decide +kernel⟩
theorem sc_law_program : FnScope ["_law_pot_here", "_law_kind", "_law_deep", "_law_found"] ["_law_pot_here", "_law_kind", "_law_deep"] (defScope s_law_program) := ⟨rfl, rfl, rfl, by decide +kernel, rfl, by decide +kernel, by decide +kernel⟩
theorem sc_law_run_right : FnScope ["_law_pot_here", "_law_program_here", "_law_worth_here", "_law_calls", "_law_run_here", "_law_begun", "_law_turn", "_law_many", "_law_told", "_law_given", "_law_other"] ["_law_pot_here", "_law_program_here"] (defScope s_law_run_right) := ⟨rfl, rfl, rfl, by decide +kernel, rfl, by decide +kernel, by decide +kernel⟩
theorem sc_law_right : FnScope ["_law_pot_here", "_law_turn", "_law_kind", "_law_program_here", "_law_shown", "_law_run_here"] ["_law_pot_here"] (defScope s_law_right) := ⟨rfl, rfl, rfl, by decide +kernel, rfl, by decide +kernel, by decide +kernel⟩
theorem sc_law : FnScope ["_law_script"] ["_law_script"] (defScope s_law) := ⟨rfl, rfl, rfl, by decide +kernel, rfl, by decide +kernel, by decide +kernel⟩
end K42

/-! KH -/
/-! the head: what the top leaves, read by a Hook of our own (getters of properties, tuples within a table) -/
namespace K42
open PySem PySem.Spec PyProof.Rows L2 He
/-! ### places -/
abbrev Loc : Type := PySem.W.Frag → Addr
def atG (x : Str) : Loc := fun K => ga K x
def atM (C m : Str) : Loc := fun K => ma K (ga K C) m
def prP (C f : Str) : Loc := fun K => ma K (ga K C) f
def prG (C f : Str) : Loc := fun K => match PySem.W.recIn K (prP C f K) "property" with
  | some (.ref g :: _) => g
  | _ => 0
def bnA (x : Str) : Loc := fun K => match PySem.W.nsIn K (ga K "BINDS") x with
  | some (some (.ref a)) => a
  | _ => 0
/-! ### a def at a place -/
structure Dp where
  loc : Loc
  nm : Str
  ql : Str
  st : Stmt
  df : List Dv := []
def fnX (K : PySem.W.Frag) (a : Addr) : FnW := match K.lookup a with
  | some ⟨_, _, .func q, _⟩ => some (q.name, q.qualname, q.params, q.body, q.scope, q.globals, q.closure, q.builtins)
  | _ => none
def Dp.want (d : Dp) : FnW := some (d.nm, d.ql, defArgs d.st, .stmts (defBody d.st), defScope d.st, mainGlobals, [], builtinsNs)
def Dp.fine (d : Dp) (K : PySem.W.Frag) : Bool := PySem.W.keepIn K (.ref (d.loc K)) && (match K.lookup (d.loc K) with
  | some ⟨_, _, .func q, _⟩ => PySem.W.codeIn K q.code d.ql && dflB K q.defaults (d.df.map (Dv.v K))
  | _ => false)
theorem Dp.fun_ {K : PySem.W.Frag} {d : Dp} (e : fnX K (d.loc K) = d.want) (c : d.fine K = true) :
    ∃ fd, FunD K d.nm d.ql (defArgs d.st) (defBody d.st) (defScope d.st) (d.df.map (Dv.v K)) [] (d.loc K) fd := by
  obtain ⟨kp, c2⟩ := ba c
  unfold fnX at e
  cases hq : K.lookup (d.loc K) with
  | none =>
    rw [hq] at c2
    exact nomatch c2
  | some ob =>
    obtain ⟨o1, o2, o3, o4⟩ := ob
    rw [hq] at c2 e
    cases o3 with
    | func z =>
      obtain ⟨z1, z2, z3, z4, z5, z6, z7, z8, z9, z10, z11, z12, z13, z14, z15⟩ := z
      have e2 : (some (z1, z2, z3, z4, z5, z6, z7, z15) : FnW) = some (d.nm, d.ql, defArgs d.st, .stmts (defBody d.st), defScope d.st, mainGlobals, [], builtinsNs) := e
      simp only [Option.some.injEq, Prod.mk.injEq] at e2
      obtain ⟨y1, y2, y3, y4, y5, y6, y7, y8⟩ := e2
      subst y1 y2 y3 y4 y5 y6 y7 y8
      have c3 : (PySem.W.codeIn K z13 d.ql && dflB K z8 (d.df.map (Dv.v K))) = true := c2
      obtain ⟨k1, k2⟩ := ba c3
      exact ⟨_, ⟨o1, o2, z8, z9, z10, z11, z12, z13, z14, o4, rfl, hq, k1, dflB_ok k2, .inl rfl⟩, kp⟩
    | _ => cases c2
/-! ### tuples of the top -/
def tpB (K : PySem.W.Frag) (a : Addr) (vs : List V) : Bool := match K.lookup a with
  | some ⟨.type c, _, .seq its _, _⟩ => decide (c = "tuple") && (decide (its.size ≤ 1000) && relAll vs its.toList)
  | _ => false
theorem tpB_ok {K : PySem.W.Frag} {a : Addr} {vs : List V} (h : tpB K a vs = true) (H : Hp) : SqT K H a vs := by
  unfold tpB at h
  cases hq : K.lookup a with
  | none =>
    rw [hq] at h
    exact nomatch h
  | some ob =>
    obtain ⟨o1, o2, o3, o4⟩ := ob
    rw [hq] at h
    cases o1 with
    | type c =>
      cases o3 with
      | seq its n =>
        obtain ⟨h1, h2⟩ := ba h
        obtain ⟨h3, h4⟩ := ba h2
        exact .inr ⟨_, its, n, hq, congrArg Value.type (of_decide_eq_true h1), rfl, Nat.le_trans (of_decide_eq_true h3) (by decide), relAll_ok h4⟩
      | _ => exact nomatch h
    | _ => cases o3 <;> exact nomatch h
/-! ### properties -/
def prB (K : PySem.W.Frag) (C f : Str) : Bool := eqO (PySem.W.findIn K (.ref (ga K C)) f) (some (some (.ref (prP C f K)))) &&
  (eqO (PySem.W.specialIn K (.ref (prP C f K)) "__get__") (some (some (.builtin "property.__get__"))) && (decide (PySem.W.takesIn K (.ref (prP C f K)) = some true) &&
  (match PySem.W.recIn K (prP C f K) "property" with
  | some (.ref _ :: _) => true
  | _ => false)))
theorem prB_ok {K : PySem.W.Frag} {C f : Str} (h : prB K C f = true) : PropOf K (ga K C) f (prP C f K) (prG C f K) := by
  obtain ⟨h1, h⟩ := ba h
  obtain ⟨h2, h⟩ := ba h
  obtain ⟨h3, h4⟩ := ba h
  refine ⟨eqO_ok h1, eqO_ok h2, of_decide_eq_true h3, ?_⟩
  unfold prG
  cases hq : PySem.W.recIn K (prP C f K) "property" with
  | none =>
    rw [hq] at h4
    exact nomatch h4
  | some l =>
    rw [hq] at h4
    cases l with
    | nil => exact nomatch h4
    | cons v r =>
      cases v with
      | ref g => exact ⟨r, rfl⟩
      | _ => exact nomatch h4
/-! ### the defs -/
def d_is_integer : Dp := ⟨atG "is_integer", "is_integer", "is_integer", s_is_integer, []⟩
def d_is_count : Dp := ⟨atG "is_count", "is_count", "is_count", s_is_count, []⟩
def d_is_list : Dp := ⟨atG "is_list", "is_list", "is_list", s_is_list, []⟩
def d_want_many : Dp := ⟨atG "want_many", "want_many", "want_many", s_want_many, [.non, .int 0]⟩
def d_want_at_most : Dp := ⟨atG "want_at_most", "want_at_most", "want_at_most", s_want_at_most, []⟩
def d_is_leaf : Dp := ⟨atG "is_leaf", "is_leaf", "is_leaf", s_is_leaf, []⟩
def d_is_branch : Dp := ⟨atG "is_branch", "is_branch", "is_branch", s_is_branch, []⟩
def d_is_kind : Dp := ⟨atG "is_kind", "is_kind", "is_kind", s_is_kind, []⟩
def d_data_kind : Dp := ⟨atG "data_kind", "data_kind", "data_kind", s_data_kind, []⟩
def d_is_node : Dp := ⟨atG "is_node", "is_node", "is_node", s_is_node, []⟩
def d_are_tree : Dp := ⟨atG "are_tree", "are_tree", "are_tree", s_are_tree, []⟩
def d_is_term : Dp := ⟨atG "is_term", "is_term", "is_term", s_is_term, []⟩
def d_ends_of : Dp := ⟨atG "ends_of", "ends_of", "ends_of", s_ends_of, []⟩
def d_children_of : Dp := ⟨atG "children_of", "children_of", "children_of", s_children_of, []⟩
def d_row_of : Dp := ⟨atG "row_of", "row_of", "row_of", s_row_of, []⟩
def d_kind_in : Dp := ⟨atG "kind_in", "kind_in", "kind_in", s_kind_in, []⟩
def d_kind_of_leaf : Dp := ⟨atG "kind_of_leaf", "kind_of_leaf", "kind_of_leaf", s_kind_of_leaf, []⟩
def d_kind_of_part : Dp := ⟨atG "kind_of_part", "kind_of_part", "kind_of_part", s_kind_of_part, []⟩
def d_kind_of_call : Dp := ⟨atG "kind_of_call", "kind_of_call", "kind_of_call", s_kind_of_call, []⟩
def d_kind_of_turns : Dp := ⟨atG "kind_of_turns", "kind_of_turns", "kind_of_turns", s_kind_of_turns, []⟩
def d_kind_of_few : Dp := ⟨atG "kind_of_few", "kind_of_few", "kind_of_few", s_kind_of_few, []⟩
def d_kind_by : Dp := ⟨atG "kind_by", "kind_by", "kind_by", s_kind_by, []⟩
def d_bound_kind : Dp := ⟨atG "bound_kind", "bound_kind", "bound_kind", s_bound_kind, []⟩
def d_Frame_init : Dp := ⟨atM "Frame" "__init__", "__init__", "Frame.__init__", s_Frame_init, []⟩
def d_next_row : Dp := ⟨atG "next_row", "next_row", "next_row", s_next_row, []⟩
def d_finished : Dp := ⟨atG "finished", "finished", "finished", s_finished, []⟩
def d_kinds_of : Dp := ⟨atG "kinds_of", "kinds_of", "kinds_of", s_kinds_of, []⟩
def d_fitting_kinds : Dp := ⟨atG "fitting_kinds", "fitting_kinds", "fitting_kinds", s_fitting_kinds, []⟩
def d_is_program : Dp := ⟨atG "is_program", "is_program", "is_program", s_is_program, []⟩
def d_want_program : Dp := ⟨atG "want_program", "want_program", "want_program", s_want_program, []⟩
def d_told_worth : Dp := ⟨atG "told_worth", "told_worth", "told_worth", s_told_worth, []⟩
def d_worth_out : Dp := ⟨atG "worth_out", "worth_out", "worth_out", s_worth_out, []⟩
def d_Engine_init : Dp := ⟨atM "Engine" "__init__", "__init__", "Engine.__init__", s_Engine_init, []⟩
def d_Engine_begin : Dp := ⟨atM "Engine" "begin", "begin", "Engine.begin", s_Engine_begin, []⟩
def d_Engine_see : Dp := ⟨atM "Engine" "see", "see", "Engine.see", s_Engine_see, []⟩
def d_Engine_called : Dp := ⟨atM "Engine" "called", "called", "Engine.called", s_Engine_called, []⟩
def d_Engine_turned : Dp := ⟨atM "Engine" "turned", "turned", "Engine.turned", s_Engine_turned, []⟩
def d_Engine_opened : Dp := ⟨atM "Engine" "opened", "opened", "Engine.opened", s_Engine_opened, []⟩
def d_Engine_parted : Dp := ⟨atM "Engine" "parted", "parted", "Engine.parted", s_Engine_parted, []⟩
def d_Engine_done : Dp := ⟨atM "Engine" "done", "done", "Engine.done", s_Engine_done, []⟩
def d_Engine_all_done : Dp := ⟨atM "Engine" "all_done", "all_done", "Engine.all_done", s_Engine_all_done, []⟩
def d_Engine_worth_in : Dp := ⟨atM "Engine" "worth_in", "worth_in", "Engine.worth_in", s_Engine_worth_in, []⟩
def d_begins : Dp := ⟨atG "begins", "begins", "begins", s_begins, []⟩
def d_value_of : Dp := ⟨atG "value_of", "value_of", "value_of", s_value_of, []⟩
def d_call_row : Dp := ⟨atG "call_row", "call_row", "call_row", s_call_row, []⟩
def d_call_count : Dp := ⟨atG "call_count", "call_count", "call_count", s_call_count, []⟩
def d_Run_init : Dp := ⟨atM "Run" "__init__", "__init__", "Run.__init__", s_Run_init, []⟩
def d_Run_calls : Dp := ⟨prG "Run" "calls", "calls", "Run.calls", s_Run_calls, []⟩
def d_Run_is_done : Dp := ⟨prG "Run" "is_done", "is_done", "Run.is_done", s_Run_is_done, []⟩
def d_Run_go : Dp := ⟨atM "Run" "go", "go", "Run.go", s_Run_go, []⟩
def d_Run_gone : Dp := ⟨atM "Run" "gone", "gone", "Run.gone", s_Run_gone, []⟩
def d_Run_value : Dp := ⟨atM "Run" "value", "value", "Run.value", s_Run_value, []⟩
def d_law_pot : Dp := ⟨atG "_law_pot", "_law_pot", "_law_pot", s_law_pot, []⟩
def d_law_draw : Dp := ⟨atG "_law_draw", "_law_draw", "_law_draw", s_law_draw, []⟩
def d_law_pick : Dp := ⟨atG "_law_pick", "_law_pick", "_law_pick", s_law_pick, []⟩
def d_law_tree : Dp := ⟨atG "_law_tree", "_law_tree", "_law_tree", s_law_tree, []⟩
def d_law_run : Dp := ⟨atG "_law_run", "_law_run", "_law_run", s_law_run, []⟩
def d_law_called : Dp := ⟨atG "_law_called", "_law_called", "_law_called", s_law_called, []⟩
def d_law_worth : Dp := ⟨atG "_law_worth", "_law_worth", "_law_worth", s_law_worth, []⟩
def d_law_kinds : Dp := ⟨atG "_law_kinds", "_law_kinds", "_law_kinds", s_law_kinds, []⟩
def d_law_data : Dp := ⟨atG "_law_data", "_law_data", "_law_data", s_law_data, []⟩
def d_law_leaf : Dp := ⟨atG "_law_leaf", "_law_leaf", "_law_leaf", s_law_leaf, []⟩
def d_law_term : Dp := ⟨atG "_law_term", "_law_term", "_law_term", s_law_term, []⟩
def d_law_grown : Dp := ⟨atG "_law_grown", "_law_grown", "_law_grown", s_law_grown, []⟩
def d_law_program : Dp := ⟨atG "_law_program", "_law_program", "_law_program", s_law_program, []⟩
def d_law_run_right : Dp := ⟨atG "_law_run_right", "_law_run_right", "_law_run_right", s_law_run_right, []⟩
def d_law_right : Dp := ⟨atG "_law_right", "_law_right", "_law_right", s_law_right, []⟩
def d_law : Dp := ⟨atG "law", "law", "law", s_law, []⟩
def fnL : List Dp := [d_is_integer, d_is_count, d_is_list, d_want_many, d_want_at_most, d_is_leaf, d_is_branch, d_is_kind, d_data_kind, d_is_node, d_are_tree, d_is_term, d_ends_of, d_children_of, d_row_of, d_kind_in, d_kind_of_leaf, d_kind_of_part, d_kind_of_call, d_kind_of_turns, d_kind_of_few, d_kind_by, d_bound_kind, d_Frame_init, d_next_row, d_finished, d_kinds_of, d_fitting_kinds, d_is_program, d_want_program, d_told_worth, d_worth_out, d_Engine_init, d_Engine_begin, d_Engine_see, d_Engine_called, d_Engine_turned, d_Engine_opened, d_Engine_parted, d_Engine_done, d_Engine_all_done, d_Engine_worth_in, d_begins, d_value_of, d_call_row, d_call_count, d_Run_init, d_Run_calls, d_Run_is_done, d_Run_go, d_Run_gone, d_Run_value, d_law_pot, d_law_draw, d_law_pick, d_law_tree, d_law_run, d_law_called, d_law_worth, d_law_kinds, d_law_data, d_law_leaf, d_law_term, d_law_grown, d_law_program, d_law_run_right, d_law_right, d_law]
def seen0 : List Str := ["is_integer", "is_count", "is_list", "want_many", "want_at_most", "is_leaf", "is_branch", "is_kind", "data_kind", "is_node", "are_tree", "is_term", "ends_of", "children_of", "row_of", "kind_in", "kind_of_leaf", "kind_of_part", "kind_of_call", "kind_of_turns", "kind_of_few", "kind_by", "bound_kind", "next_row", "finished", "kinds_of", "fitting_kinds", "is_program", "want_program", "told_worth"]
def seen1 : List Str := ["worth_out", "begins", "value_of", "call_row", "call_count", "_law_pot", "_law_draw", "_law_pick", "_law_tree", "_law_run", "_law_called", "_law_worth", "_law_kinds", "_law_data", "_law_leaf", "_law_term", "_law_grown", "_law_program", "_law_run_right", "_law_right", "law", "Frame", "Engine", "Run", "BINDS", "WITH_KIND", "NUMBER"]
def seenL : List Str := seen0 ++ seen1
def faL : List Fa := [.glo "is_integer",
  .glo "is_count",
  .glo "is_list",
  .glo "want_many",
  .glo "want_at_most",
  .glo "is_leaf",
  .glo "is_branch",
  .glo "is_kind",
  .glo "data_kind",
  .glo "is_node",
  .glo "are_tree",
  .glo "is_term",
  .glo "ends_of",
  .glo "children_of",
  .glo "row_of",
  .glo "kind_in",
  .glo "kind_of_leaf",
  .glo "kind_of_part",
  .glo "kind_of_call",
  .glo "kind_of_turns",
  .glo "kind_of_few",
  .glo "kind_by",
  .glo "bound_kind",
  .glo "next_row",
  .glo "finished",
  .glo "kinds_of",
  .glo "fitting_kinds",
  .glo "is_program",
  .glo "want_program",
  .glo "told_worth",
  .glo "worth_out",
  .glo "begins",
  .glo "value_of",
  .glo "call_row",
  .glo "call_count",
  .glo "_law_pot",
  .glo "_law_draw",
  .glo "_law_pick",
  .glo "_law_tree",
  .glo "_law_run",
  .glo "_law_called",
  .glo "_law_worth",
  .glo "_law_kinds",
  .glo "_law_data",
  .glo "_law_leaf",
  .glo "_law_term",
  .glo "_law_grown",
  .glo "_law_program",
  .glo "_law_run_right",
  .glo "_law_right",
  .glo "law",
  .glo "Frame",
  .glo "Engine",
  .glo "Run",
  .glo "NoKind",
  .glo "TooMany",
  .glo "BINDS",
  .glo "WITH_KIND",
  .glo "NUMBER",
  .glo "InvalidMany",
  .glo "InvalidProgram",
  .glo "NotData",
  .glo "NotDone",
  .free "isinstance",
  .free "int",
  .free "bool",
  .free "str",
  .free "list",
  .free "tuple",
  .free "len",
  .free "all",
  .free "range",
  .free "enumerate",
  .free "min",
  .free "max",
  .free "abs",
  .free "divmod",
  .free "repr",
  .int "MOST_SIGNS" 60,
  .int "MOST_DEEP" 12,
  .int "MOST_NODES" 300,
  .int "MOST_OUT" 299,
  .int "MOST_TOLD" 1000000,
  .int "MOST_CALLS" 2000,
  .str "TELLING" "count",
  .str "PAIR" "pair",
  .str "SUM" "sum",
  .str "FUN" "fun",
  .str "NAME" "name",
  .str "TOLD" "told",
  .cls "Frame",
  .mkr "Frame",
  .noat "Frame" "own_position",
  .noat "Frame" "own_row",
  .noat "Frame" "own_some",
  .cls "Engine",
  .mkr "Engine",
  .noat "Engine" "own_nodes",
  .noat "Engine" "own_children",
  .noat "Engine" "own_limit",
  .noat "Engine" "own_calls",
  .cls "Run",
  .mkr "Run",
  .noat "Run" "own_kind",
  .noat "Run" "own_engine",
  .noat "Run" "own_orders",
  .noat "Run" "own_worths",
  .meth "Engine" "begin",
  .meth "Engine" "see",
  .meth "Engine" "called",
  .meth "Engine" "turned",
  .meth "Engine" "opened",
  .meth "Engine" "parted",
  .meth "Engine" "done",
  .meth "Engine" "all_done",
  .meth "Engine" "worth_in",
  .meth "Run" "go",
  .meth "Run" "gone",
  .meth "Run" "value"]
def bnL : List (Str × List V) := [("name", []), ("told", []), ("fun", [.int 1]), ("call", [.int 0, .int 0]), ("both", [.int 0, .int 0]), ("first", [.int 0]), ("second", [.int 0]), ("left", [.int 0]), ("right", [.int 0]), ("which", [.int 0, .int 1, .int 1]), ("next", [.int 0]), ("turns", [.int 0, .int 1, .int 0]), ("let", [.int 0, .int 1])]
def bnK : List Str := ["name", "told", "fun", "call", "both", "first", "second", "left", "right", "which", "next", "turns", "let"]
def exL (K : PySem.W.Frag) : Bool := (bnL.all fun q => eqO (PySem.W.nsIn K (ga K "BINDS") q.1) (some (some (.ref (bnA q.1 K)))) && tpB K (bnA q.1 K) q.2) &&
  (tpB K (ga K "WITH_KIND") [.str "fun", .str "left", .str "right", .str "turns"] && (tpB K (ga K "NUMBER") [.str "count"] && (prB K "Run" "calls" && prB K "Run" "is_done")))
/-! ### the Hook -/
abbrev AlK : Type := Bool × List FnW × Option (List (Option (Str × Int)))
def obsK (K : PySem.W.Frag) : AlK := ((faL.all fun f => f.ok K) && ((fnL.all fun d => d.fine K) && exL K), fnL.map fun d => fnX K (d.loc K), dicW K (ga K "BINDS"))
def valK (w : World) : AlK := (true, fnL.map Dp.want, some (keysIn w.params bnK))
def SaysK (w : World) (K : PySem.W.Frag) : Prop := obsK K = valK w
/-! what is looked at: the module's names, what they name, five steps down; no class's chain -/
def rf3 (o : Obj) : List Addr := match o.data with
  | .dict es _ => es.toList.flatMap fun e => refV e.val
  | .func q => refV q.code ++ refV q.defaults
  | .cls cd => [cd.ns]
  | .fields vs => vs.toList.flatMap refV
  | _ => []
def dn3 (g : Addr → Option Obj) (as : List Addr) : List Addr := as.flatMap fun a => match g a with
  | some o => rf3 o
  | none => []
def upS (g : Addr → Option Obj) (as : List Addr) : Nat → List Addr
  | 0 => as
  | n + 1 => as ++ upS g (dn3 g as) n
def asK (g : Addr → Option Obj) : List Addr := mainGlobals :: upS g (seenL.map (ga (frG g [mainGlobals]))) 4
def obsKG (g : Addr → Option Obj) : AlK := obsK (frG g (asK g))
def hkK : PySem.W.Hook where
  α := AlK
  obs := fun s => obsKG s.heap.get?
  val := fun w => valK w
  says := fun w h => ∃ K : PySem.W.Frag, K.In h ∧ SaysK w K
  of := fun _ _ e => ⟨_, frG_in, e⟩
  keeps := fun _ _ _ ⟨K, hK, c⟩ k => ⟨K, PySem.W.Frag.In.keeps hK k, c⟩
def obT (s : PySem.W.SharedT) : AlK := obsKG (HandSHeadRun.getT s)
theorem obT_eq (s : PySem.W.SharedT) : obT s = hkK.obs s.abs := by
  have e : HandSHeadRun.getT s = s.abs.heap.get? := funext (HandSHeadRun.getT_eq s)
  show obsKG (HandSHeadRun.getT s) = obsKG s.abs.heap.get?
  rw [e]
abbrev rowK : PySem.W.OpenRow := PySem.W.OpenLaw.row PySem.Challenge.rw_selfprint_k42_whole_runs_little_by_littl
def ls0 : List Str := ["_wall", "TermError", "StateError", "LimitError", "InvalidProgram", "InvalidMany", "NoKind", "NotData", "NotDone", "TooMany", "is_integer", "is_count", "is_list", "want_many", "want_at_most", "LETTER", "TELLING", "PAIR", "SUM", "FUN", "MOST_LETTER", "MOST_SIGNS", "MOST_DEEP", "is_leaf", "is_letter_word", "is_letter", "is_branch", "is_kind", "data_kind", "NAME"]
def ls1 : List Str := ["TOLD", "MOST_NODES", "MOST_OUT", "MOST_TOLD", "BINDS", "WITH_KIND", "is_node", "are_tree", "is_term", "ends_of", "children_of", "NUMBER", "row_of", "kind_in", "kind_of_leaf", "kind_of_part", "kind_of_call", "kind_of_turns", "kind_of_few", "kind_by", "bound_kind", "Frame", "next_row", "finished", "kinds_of", "fitting_kinds", "is_program", "want_program", "reflected", "told_worth"]
def ls2 : List Str := ["MOST_CALLS", "worth_out", "Engine", "begins", "value_of", "call_row", "call_count", "Run", "_law_pot", "_law_draw", "_law_pick", "_law_tree", "_law_run", "_law_called", "_law_worth", "_law_kinds", "_law_data", "_law_leaf", "_law_term", "_law_grown", "_law_program", "_law_run_right", "_law_right"]
def lsA : List Str := ls0 ++ ls1 ++ ls2
theorem runKf (w : World) : HandSHeadRun.RunEq rowK (PySem.W.view rowK.prog [92]) hkK obT 6000 lsA (w.withFollow "special-get-raises" false) := by
  intro os
  kernel_rfl
theorem runKt (w : World) : HandSHeadRun.RunEq rowK (PySem.W.view rowK.prog [92]) hkK obT 6000 lsA (w.withFollow "special-get-raises" true) := by
  intro os
  kernel_rfl
theorem runK (w : World) : HandSHeadRun.RunEq rowK (PySem.W.view rowK.prog [92]) hkK obT 6000 lsA w :=
  PySem.W.byRow2 "special-get-raises" (P := fun w => HandSHeadRun.RunEq rowK (PySem.W.view rowK.prog [92]) hkK obT 6000 lsA w) runKf runKt w
end K42

/-! KB -/
/-! the facts of the top by names; a def's keeping of its promise, at a place -/
namespace K42
open PySem PySem.Spec PyProof.Rows L2 He
abbrev FnAt (K : PySem.W.Frag) (d : Dp) : Prop := ∃ fd, FunD K d.nm d.ql (defArgs d.st) (defBody d.st) (defScope d.st) (d.df.map (Dv.v K)) [] (d.loc K) fd
structure Tx (w : World) (K : PySem.W.Frag) (mg : Str → Option Value) : Prop where
  g_is_integer : mg "is_integer" = some (.ref (ga K "is_integer"))
  g_is_count : mg "is_count" = some (.ref (ga K "is_count"))
  g_is_list : mg "is_list" = some (.ref (ga K "is_list"))
  g_want_many : mg "want_many" = some (.ref (ga K "want_many"))
  g_want_at_most : mg "want_at_most" = some (.ref (ga K "want_at_most"))
  g_is_leaf : mg "is_leaf" = some (.ref (ga K "is_leaf"))
  g_is_branch : mg "is_branch" = some (.ref (ga K "is_branch"))
  g_is_kind : mg "is_kind" = some (.ref (ga K "is_kind"))
  g_data_kind : mg "data_kind" = some (.ref (ga K "data_kind"))
  g_is_node : mg "is_node" = some (.ref (ga K "is_node"))
  g_are_tree : mg "are_tree" = some (.ref (ga K "are_tree"))
  g_is_term : mg "is_term" = some (.ref (ga K "is_term"))
  g_ends_of : mg "ends_of" = some (.ref (ga K "ends_of"))
  g_children_of : mg "children_of" = some (.ref (ga K "children_of"))
  g_row_of : mg "row_of" = some (.ref (ga K "row_of"))
  g_kind_in : mg "kind_in" = some (.ref (ga K "kind_in"))
  g_kind_of_leaf : mg "kind_of_leaf" = some (.ref (ga K "kind_of_leaf"))
  g_kind_of_part : mg "kind_of_part" = some (.ref (ga K "kind_of_part"))
  g_kind_of_call : mg "kind_of_call" = some (.ref (ga K "kind_of_call"))
  g_kind_of_turns : mg "kind_of_turns" = some (.ref (ga K "kind_of_turns"))
  g_kind_of_few : mg "kind_of_few" = some (.ref (ga K "kind_of_few"))
  g_kind_by : mg "kind_by" = some (.ref (ga K "kind_by"))
  g_bound_kind : mg "bound_kind" = some (.ref (ga K "bound_kind"))
  g_next_row : mg "next_row" = some (.ref (ga K "next_row"))
  g_finished : mg "finished" = some (.ref (ga K "finished"))
  g_kinds_of : mg "kinds_of" = some (.ref (ga K "kinds_of"))
  g_fitting_kinds : mg "fitting_kinds" = some (.ref (ga K "fitting_kinds"))
  g_is_program : mg "is_program" = some (.ref (ga K "is_program"))
  g_want_program : mg "want_program" = some (.ref (ga K "want_program"))
  g_told_worth : mg "told_worth" = some (.ref (ga K "told_worth"))
  g_worth_out : mg "worth_out" = some (.ref (ga K "worth_out"))
  g_begins : mg "begins" = some (.ref (ga K "begins"))
  g_value_of : mg "value_of" = some (.ref (ga K "value_of"))
  g_call_row : mg "call_row" = some (.ref (ga K "call_row"))
  g_call_count : mg "call_count" = some (.ref (ga K "call_count"))
  g_law_pot : mg "_law_pot" = some (.ref (ga K "_law_pot"))
  g_law_draw : mg "_law_draw" = some (.ref (ga K "_law_draw"))
  g_law_pick : mg "_law_pick" = some (.ref (ga K "_law_pick"))
  g_law_tree : mg "_law_tree" = some (.ref (ga K "_law_tree"))
  g_law_run : mg "_law_run" = some (.ref (ga K "_law_run"))
  g_law_called : mg "_law_called" = some (.ref (ga K "_law_called"))
  g_law_worth : mg "_law_worth" = some (.ref (ga K "_law_worth"))
  g_law_kinds : mg "_law_kinds" = some (.ref (ga K "_law_kinds"))
  g_law_data : mg "_law_data" = some (.ref (ga K "_law_data"))
  g_law_leaf : mg "_law_leaf" = some (.ref (ga K "_law_leaf"))
  g_law_term : mg "_law_term" = some (.ref (ga K "_law_term"))
  g_law_grown : mg "_law_grown" = some (.ref (ga K "_law_grown"))
  g_law_program : mg "_law_program" = some (.ref (ga K "_law_program"))
  g_law_run_right : mg "_law_run_right" = some (.ref (ga K "_law_run_right"))
  g_law_right : mg "_law_right" = some (.ref (ga K "_law_right"))
  g_law : mg "law" = some (.ref (ga K "law"))
  g_Frame : mg "Frame" = some (.ref (ga K "Frame"))
  g_Engine : mg "Engine" = some (.ref (ga K "Engine"))
  g_Run : mg "Run" = some (.ref (ga K "Run"))
  g_NoKind : mg "NoKind" = some (.ref (ga K "NoKind"))
  g_TooMany : mg "TooMany" = some (.ref (ga K "TooMany"))
  g_BINDS : mg "BINDS" = some (.ref (ga K "BINDS"))
  g_WITH_KIND : mg "WITH_KIND" = some (.ref (ga K "WITH_KIND"))
  g_NUMBER : mg "NUMBER" = some (.ref (ga K "NUMBER"))
  g_InvalidMany : mg "InvalidMany" = some (.ref (ga K "InvalidMany"))
  g_InvalidProgram : mg "InvalidProgram" = some (.ref (ga K "InvalidProgram"))
  g_NotData : mg "NotData" = some (.ref (ga K "NotData"))
  g_NotDone : mg "NotDone" = some (.ref (ga K "NotDone"))
  n_isinstance : mg "isinstance" = none
  n_int : mg "int" = none
  n_bool : mg "bool" = none
  n_str : mg "str" = none
  n_list : mg "list" = none
  n_tuple : mg "tuple" = none
  n_len : mg "len" = none
  n_all : mg "all" = none
  n_range : mg "range" = none
  n_enumerate : mg "enumerate" = none
  n_min : mg "min" = none
  n_max : mg "max" = none
  n_abs : mg "abs" = none
  n_divmod : mg "divmod" = none
  n_repr : mg "repr" = none
  i_MOST_SIGNS : ∃ t, mg "MOST_SIGNS" = some (.int 60 t)
  i_MOST_DEEP : ∃ t, mg "MOST_DEEP" = some (.int 12 t)
  i_MOST_NODES : ∃ t, mg "MOST_NODES" = some (.int 300 t)
  i_MOST_OUT : ∃ t, mg "MOST_OUT" = some (.int 299 t)
  i_MOST_TOLD : ∃ t, mg "MOST_TOLD" = some (.int 1000000 t)
  i_MOST_CALLS : ∃ t, mg "MOST_CALLS" = some (.int 2000 t)
  z_TELLING : ∃ t, mg "TELLING" = some (.str "count" t)
  z_PAIR : ∃ t, mg "PAIR" = some (.str "pair" t)
  z_SUM : ∃ t, mg "SUM" = some (.str "sum" t)
  z_FUN : ∃ t, mg "FUN" = some (.str "fun" t)
  z_NAME : ∃ t, mg "NAME" = some (.str "name" t)
  z_TOLD : ∃ t, mg "TOLD" = some (.str "told" t)
  c_Frame : Cls K (ga K "Frame")
  mk_Frame : Mk K (ga K "Frame") (ma K (ga K "Frame") "__init__")
  na_Frame_own_position : NoAttr K (ga K "Frame") "own_position"
  na_Frame_own_row : NoAttr K (ga K "Frame") "own_row"
  na_Frame_own_some : NoAttr K (ga K "Frame") "own_some"
  c_Engine : Cls K (ga K "Engine")
  mk_Engine : Mk K (ga K "Engine") (ma K (ga K "Engine") "__init__")
  na_Engine_own_nodes : NoAttr K (ga K "Engine") "own_nodes"
  na_Engine_own_children : NoAttr K (ga K "Engine") "own_children"
  na_Engine_own_limit : NoAttr K (ga K "Engine") "own_limit"
  na_Engine_own_calls : NoAttr K (ga K "Engine") "own_calls"
  c_Run : Cls K (ga K "Run")
  mk_Run : Mk K (ga K "Run") (ma K (ga K "Run") "__init__")
  na_Run_own_kind : NoAttr K (ga K "Run") "own_kind"
  na_Run_own_engine : NoAttr K (ga K "Run") "own_engine"
  na_Run_own_orders : NoAttr K (ga K "Run") "own_orders"
  na_Run_own_worths : NoAttr K (ga K "Run") "own_worths"
  m_Engine_begin : Meth K (ga K "Engine") "begin" (ma K (ga K "Engine") "begin")
  m_Engine_see : Meth K (ga K "Engine") "see" (ma K (ga K "Engine") "see")
  m_Engine_called : Meth K (ga K "Engine") "called" (ma K (ga K "Engine") "called")
  m_Engine_turned : Meth K (ga K "Engine") "turned" (ma K (ga K "Engine") "turned")
  m_Engine_opened : Meth K (ga K "Engine") "opened" (ma K (ga K "Engine") "opened")
  m_Engine_parted : Meth K (ga K "Engine") "parted" (ma K (ga K "Engine") "parted")
  m_Engine_done : Meth K (ga K "Engine") "done" (ma K (ga K "Engine") "done")
  m_Engine_all_done : Meth K (ga K "Engine") "all_done" (ma K (ga K "Engine") "all_done")
  m_Engine_worth_in : Meth K (ga K "Engine") "worth_in" (ma K (ga K "Engine") "worth_in")
  m_Run_go : Meth K (ga K "Run") "go" (ma K (ga K "Run") "go")
  m_Run_gone : Meth K (ga K "Run") "gone" (ma K (ga K "Run") "gone")
  m_Run_value : Meth K (ga K "Run") "value" (ma K (ga K "Run") "value")
  f_is_integer : FnAt K d_is_integer
  f_is_count : FnAt K d_is_count
  f_is_list : FnAt K d_is_list
  f_want_many : FnAt K d_want_many
  f_want_at_most : FnAt K d_want_at_most
  f_is_leaf : FnAt K d_is_leaf
  f_is_branch : FnAt K d_is_branch
  f_is_kind : FnAt K d_is_kind
  f_data_kind : FnAt K d_data_kind
  f_is_node : FnAt K d_is_node
  f_are_tree : FnAt K d_are_tree
  f_is_term : FnAt K d_is_term
  f_ends_of : FnAt K d_ends_of
  f_children_of : FnAt K d_children_of
  f_row_of : FnAt K d_row_of
  f_kind_in : FnAt K d_kind_in
  f_kind_of_leaf : FnAt K d_kind_of_leaf
  f_kind_of_part : FnAt K d_kind_of_part
  f_kind_of_call : FnAt K d_kind_of_call
  f_kind_of_turns : FnAt K d_kind_of_turns
  f_kind_of_few : FnAt K d_kind_of_few
  f_kind_by : FnAt K d_kind_by
  f_bound_kind : FnAt K d_bound_kind
  f_Frame_init : FnAt K d_Frame_init
  f_next_row : FnAt K d_next_row
  f_finished : FnAt K d_finished
  f_kinds_of : FnAt K d_kinds_of
  f_fitting_kinds : FnAt K d_fitting_kinds
  f_is_program : FnAt K d_is_program
  f_want_program : FnAt K d_want_program
  f_told_worth : FnAt K d_told_worth
  f_worth_out : FnAt K d_worth_out
  f_Engine_init : FnAt K d_Engine_init
  f_Engine_begin : FnAt K d_Engine_begin
  f_Engine_see : FnAt K d_Engine_see
  f_Engine_called : FnAt K d_Engine_called
  f_Engine_turned : FnAt K d_Engine_turned
  f_Engine_opened : FnAt K d_Engine_opened
  f_Engine_parted : FnAt K d_Engine_parted
  f_Engine_done : FnAt K d_Engine_done
  f_Engine_all_done : FnAt K d_Engine_all_done
  f_Engine_worth_in : FnAt K d_Engine_worth_in
  f_begins : FnAt K d_begins
  f_value_of : FnAt K d_value_of
  f_call_row : FnAt K d_call_row
  f_call_count : FnAt K d_call_count
  f_Run_init : FnAt K d_Run_init
  f_Run_calls : FnAt K d_Run_calls
  f_Run_is_done : FnAt K d_Run_is_done
  f_Run_go : FnAt K d_Run_go
  f_Run_gone : FnAt K d_Run_gone
  f_Run_value : FnAt K d_Run_value
  f_law_pot : FnAt K d_law_pot
  f_law_draw : FnAt K d_law_draw
  f_law_pick : FnAt K d_law_pick
  f_law_tree : FnAt K d_law_tree
  f_law_run : FnAt K d_law_run
  f_law_called : FnAt K d_law_called
  f_law_worth : FnAt K d_law_worth
  f_law_kinds : FnAt K d_law_kinds
  f_law_data : FnAt K d_law_data
  f_law_leaf : FnAt K d_law_leaf
  f_law_term : FnAt K d_law_term
  f_law_grown : FnAt K d_law_grown
  f_law_program : FnAt K d_law_program
  f_law_run_right : FnAt K d_law_run_right
  f_law_right : FnAt K d_law_right
  f_law : FnAt K d_law
  bnd : ∃ es n, KDict K w (ga K "BINDS") es n
  bnv : ∀ q ∈ bnL, PySem.W.nsIn K (ga K "BINDS") q.1 = some (some (.ref (bnA q.1 K))) ∧ ∀ H, SqT K H (bnA q.1 K) q.2
  wkd : ∀ H, SqT K H (ga K "WITH_KIND") [.str "fun", .str "left", .str "right", .str "turns"]
  nmb : ∀ H, SqT K H (ga K "NUMBER") [.str "count"]
  p_calls : PropOf K (ga K "Run") "calls" (prP "Run" "calls" K) (prG "Run" "calls" K)
  p_is_done : PropOf K (ga K "Run") "is_done" (prP "Run" "is_done" K) (prG "Run" "is_done" K)
structure Sy (w : World) (K : PySem.W.Frag) : Prop where
  fact : ∀ (i : Nat) {f : Fa}, faL[i]? = some f → f.ok K = true
  fun_ : ∀ (i : Nat) {d : Dp}, fnL[i]? = some d → FnAt K d
  ex : exL K = true
  tab : ∃ es n, KDict K w (ga K "BINDS") es n
theorem sy_of {w : World} {K : PySem.W.Frag} (c : SaysK w K) : Sy w K := by
  have c1 : ((faL.all fun f => f.ok K) && ((fnL.all fun d => d.fine K) && exL K)) = true := congrArg (fun z : AlK => z.1) c
  have c2 : fnL.map (fun d => fnX K (d.loc K)) = fnL.map Dp.want := congrArg (fun z : AlK => z.2.1) c
  have c3 : dicW K (ga K "BINDS") = some (keysIn w.params bnK) := congrArg (fun z : AlK => z.2.2) c
  obtain ⟨h1, h⟩ := ba c1
  obtain ⟨h2, h3⟩ := ba h
  refine ⟨fun i f e => List.all_eq_true.mp h1 f (List.mem_of_getElem? e), fun i d e => ?_, h3, dicW_ok c3⟩
  have e2 : (fnL.map fun d => fnX K (d.loc K))[i]? = (fnL.map Dp.want)[i]? := by rw [c2]
  rw [List.getElem?_map, List.getElem?_map, e] at e2
  exact Dp.fun_ (Option.some.inj e2) (List.all_eq_true.mp h2 d (List.mem_of_getElem? e))
theorem tx_of {w : World} {K : PySem.W.Frag} {mg : Str → Option Value} {h0 : Heap} (X : K.In h0) (G : h0.Ns mainGlobals mg) (h : Sy w K) : Tx w K mg := by
  obtain ⟨e1, h4⟩ := ba h.ex
  obtain ⟨e2, h5⟩ := ba h4
  obtain ⟨e3, h6⟩ := ba h5
  obtain ⟨e4, e5⟩ := ba h6
  exact {
    g_is_integer := glo_ok X G (h.fact 0 (f := .glo "is_integer") rfl)
    g_is_count := glo_ok X G (h.fact 1 (f := .glo "is_count") rfl)
    g_is_list := glo_ok X G (h.fact 2 (f := .glo "is_list") rfl)
    g_want_many := glo_ok X G (h.fact 3 (f := .glo "want_many") rfl)
    g_want_at_most := glo_ok X G (h.fact 4 (f := .glo "want_at_most") rfl)
    g_is_leaf := glo_ok X G (h.fact 5 (f := .glo "is_leaf") rfl)
    g_is_branch := glo_ok X G (h.fact 6 (f := .glo "is_branch") rfl)
    g_is_kind := glo_ok X G (h.fact 7 (f := .glo "is_kind") rfl)
    g_data_kind := glo_ok X G (h.fact 8 (f := .glo "data_kind") rfl)
    g_is_node := glo_ok X G (h.fact 9 (f := .glo "is_node") rfl)
    g_are_tree := glo_ok X G (h.fact 10 (f := .glo "are_tree") rfl)
    g_is_term := glo_ok X G (h.fact 11 (f := .glo "is_term") rfl)
    g_ends_of := glo_ok X G (h.fact 12 (f := .glo "ends_of") rfl)
    g_children_of := glo_ok X G (h.fact 13 (f := .glo "children_of") rfl)
    g_row_of := glo_ok X G (h.fact 14 (f := .glo "row_of") rfl)
    g_kind_in := glo_ok X G (h.fact 15 (f := .glo "kind_in") rfl)
    g_kind_of_leaf := glo_ok X G (h.fact 16 (f := .glo "kind_of_leaf") rfl)
    g_kind_of_part := glo_ok X G (h.fact 17 (f := .glo "kind_of_part") rfl)
    g_kind_of_call := glo_ok X G (h.fact 18 (f := .glo "kind_of_call") rfl)
    g_kind_of_turns := glo_ok X G (h.fact 19 (f := .glo "kind_of_turns") rfl)
    g_kind_of_few := glo_ok X G (h.fact 20 (f := .glo "kind_of_few") rfl)
    g_kind_by := glo_ok X G (h.fact 21 (f := .glo "kind_by") rfl)
    g_bound_kind := glo_ok X G (h.fact 22 (f := .glo "bound_kind") rfl)
    g_next_row := glo_ok X G (h.fact 23 (f := .glo "next_row") rfl)
    g_finished := glo_ok X G (h.fact 24 (f := .glo "finished") rfl)
    g_kinds_of := glo_ok X G (h.fact 25 (f := .glo "kinds_of") rfl)
    g_fitting_kinds := glo_ok X G (h.fact 26 (f := .glo "fitting_kinds") rfl)
    g_is_program := glo_ok X G (h.fact 27 (f := .glo "is_program") rfl)
    g_want_program := glo_ok X G (h.fact 28 (f := .glo "want_program") rfl)
    g_told_worth := glo_ok X G (h.fact 29 (f := .glo "told_worth") rfl)
    g_worth_out := glo_ok X G (h.fact 30 (f := .glo "worth_out") rfl)
    g_begins := glo_ok X G (h.fact 31 (f := .glo "begins") rfl)
    g_value_of := glo_ok X G (h.fact 32 (f := .glo "value_of") rfl)
    g_call_row := glo_ok X G (h.fact 33 (f := .glo "call_row") rfl)
    g_call_count := glo_ok X G (h.fact 34 (f := .glo "call_count") rfl)
    g_law_pot := glo_ok X G (h.fact 35 (f := .glo "_law_pot") rfl)
    g_law_draw := glo_ok X G (h.fact 36 (f := .glo "_law_draw") rfl)
    g_law_pick := glo_ok X G (h.fact 37 (f := .glo "_law_pick") rfl)
    g_law_tree := glo_ok X G (h.fact 38 (f := .glo "_law_tree") rfl)
    g_law_run := glo_ok X G (h.fact 39 (f := .glo "_law_run") rfl)
    g_law_called := glo_ok X G (h.fact 40 (f := .glo "_law_called") rfl)
    g_law_worth := glo_ok X G (h.fact 41 (f := .glo "_law_worth") rfl)
    g_law_kinds := glo_ok X G (h.fact 42 (f := .glo "_law_kinds") rfl)
    g_law_data := glo_ok X G (h.fact 43 (f := .glo "_law_data") rfl)
    g_law_leaf := glo_ok X G (h.fact 44 (f := .glo "_law_leaf") rfl)
    g_law_term := glo_ok X G (h.fact 45 (f := .glo "_law_term") rfl)
    g_law_grown := glo_ok X G (h.fact 46 (f := .glo "_law_grown") rfl)
    g_law_program := glo_ok X G (h.fact 47 (f := .glo "_law_program") rfl)
    g_law_run_right := glo_ok X G (h.fact 48 (f := .glo "_law_run_right") rfl)
    g_law_right := glo_ok X G (h.fact 49 (f := .glo "_law_right") rfl)
    g_law := glo_ok X G (h.fact 50 (f := .glo "law") rfl)
    g_Frame := glo_ok X G (h.fact 51 (f := .glo "Frame") rfl)
    g_Engine := glo_ok X G (h.fact 52 (f := .glo "Engine") rfl)
    g_Run := glo_ok X G (h.fact 53 (f := .glo "Run") rfl)
    g_NoKind := glo_ok X G (h.fact 54 (f := .glo "NoKind") rfl)
    g_TooMany := glo_ok X G (h.fact 55 (f := .glo "TooMany") rfl)
    g_BINDS := glo_ok X G (h.fact 56 (f := .glo "BINDS") rfl)
    g_WITH_KIND := glo_ok X G (h.fact 57 (f := .glo "WITH_KIND") rfl)
    g_NUMBER := glo_ok X G (h.fact 58 (f := .glo "NUMBER") rfl)
    g_InvalidMany := glo_ok X G (h.fact 59 (f := .glo "InvalidMany") rfl)
    g_InvalidProgram := glo_ok X G (h.fact 60 (f := .glo "InvalidProgram") rfl)
    g_NotData := glo_ok X G (h.fact 61 (f := .glo "NotData") rfl)
    g_NotDone := glo_ok X G (h.fact 62 (f := .glo "NotDone") rfl)
    n_isinstance := free_ok X G (h.fact 63 (f := .free "isinstance") rfl)
    n_int := free_ok X G (h.fact 64 (f := .free "int") rfl)
    n_bool := free_ok X G (h.fact 65 (f := .free "bool") rfl)
    n_str := free_ok X G (h.fact 66 (f := .free "str") rfl)
    n_list := free_ok X G (h.fact 67 (f := .free "list") rfl)
    n_tuple := free_ok X G (h.fact 68 (f := .free "tuple") rfl)
    n_len := free_ok X G (h.fact 69 (f := .free "len") rfl)
    n_all := free_ok X G (h.fact 70 (f := .free "all") rfl)
    n_range := free_ok X G (h.fact 71 (f := .free "range") rfl)
    n_enumerate := free_ok X G (h.fact 72 (f := .free "enumerate") rfl)
    n_min := free_ok X G (h.fact 73 (f := .free "min") rfl)
    n_max := free_ok X G (h.fact 74 (f := .free "max") rfl)
    n_abs := free_ok X G (h.fact 75 (f := .free "abs") rfl)
    n_divmod := free_ok X G (h.fact 76 (f := .free "divmod") rfl)
    n_repr := free_ok X G (h.fact 77 (f := .free "repr") rfl)
    i_MOST_SIGNS := int_ok X G (h.fact 78 (f := .int "MOST_SIGNS" 60) rfl)
    i_MOST_DEEP := int_ok X G (h.fact 79 (f := .int "MOST_DEEP" 12) rfl)
    i_MOST_NODES := int_ok X G (h.fact 80 (f := .int "MOST_NODES" 300) rfl)
    i_MOST_OUT := int_ok X G (h.fact 81 (f := .int "MOST_OUT" 299) rfl)
    i_MOST_TOLD := int_ok X G (h.fact 82 (f := .int "MOST_TOLD" 1000000) rfl)
    i_MOST_CALLS := int_ok X G (h.fact 83 (f := .int "MOST_CALLS" 2000) rfl)
    z_TELLING := str_ok X G (h.fact 84 (f := .str "TELLING" "count") rfl)
    z_PAIR := str_ok X G (h.fact 85 (f := .str "PAIR" "pair") rfl)
    z_SUM := str_ok X G (h.fact 86 (f := .str "SUM" "sum") rfl)
    z_FUN := str_ok X G (h.fact 87 (f := .str "FUN" "fun") rfl)
    z_NAME := str_ok X G (h.fact 88 (f := .str "NAME" "name") rfl)
    z_TOLD := str_ok X G (h.fact 89 (f := .str "TOLD" "told") rfl)
    c_Frame := cls_ok (h.fact 90 (f := .cls "Frame") rfl)
    mk_Frame := mkr_ok (h.fact 91 (f := .mkr "Frame") rfl)
    na_Frame_own_position := noat_ok (h.fact 92 (f := .noat "Frame" "own_position") rfl)
    na_Frame_own_row := noat_ok (h.fact 93 (f := .noat "Frame" "own_row") rfl)
    na_Frame_own_some := noat_ok (h.fact 94 (f := .noat "Frame" "own_some") rfl)
    c_Engine := cls_ok (h.fact 95 (f := .cls "Engine") rfl)
    mk_Engine := mkr_ok (h.fact 96 (f := .mkr "Engine") rfl)
    na_Engine_own_nodes := noat_ok (h.fact 97 (f := .noat "Engine" "own_nodes") rfl)
    na_Engine_own_children := noat_ok (h.fact 98 (f := .noat "Engine" "own_children") rfl)
    na_Engine_own_limit := noat_ok (h.fact 99 (f := .noat "Engine" "own_limit") rfl)
    na_Engine_own_calls := noat_ok (h.fact 100 (f := .noat "Engine" "own_calls") rfl)
    c_Run := cls_ok (h.fact 101 (f := .cls "Run") rfl)
    mk_Run := mkr_ok (h.fact 102 (f := .mkr "Run") rfl)
    na_Run_own_kind := noat_ok (h.fact 103 (f := .noat "Run" "own_kind") rfl)
    na_Run_own_engine := noat_ok (h.fact 104 (f := .noat "Run" "own_engine") rfl)
    na_Run_own_orders := noat_ok (h.fact 105 (f := .noat "Run" "own_orders") rfl)
    na_Run_own_worths := noat_ok (h.fact 106 (f := .noat "Run" "own_worths") rfl)
    m_Engine_begin := meth_ok (h.fact 107 (f := .meth "Engine" "begin") rfl)
    m_Engine_see := meth_ok (h.fact 108 (f := .meth "Engine" "see") rfl)
    m_Engine_called := meth_ok (h.fact 109 (f := .meth "Engine" "called") rfl)
    m_Engine_turned := meth_ok (h.fact 110 (f := .meth "Engine" "turned") rfl)
    m_Engine_opened := meth_ok (h.fact 111 (f := .meth "Engine" "opened") rfl)
    m_Engine_parted := meth_ok (h.fact 112 (f := .meth "Engine" "parted") rfl)
    m_Engine_done := meth_ok (h.fact 113 (f := .meth "Engine" "done") rfl)
    m_Engine_all_done := meth_ok (h.fact 114 (f := .meth "Engine" "all_done") rfl)
    m_Engine_worth_in := meth_ok (h.fact 115 (f := .meth "Engine" "worth_in") rfl)
    m_Run_go := meth_ok (h.fact 116 (f := .meth "Run" "go") rfl)
    m_Run_gone := meth_ok (h.fact 117 (f := .meth "Run" "gone") rfl)
    m_Run_value := meth_ok (h.fact 118 (f := .meth "Run" "value") rfl)
    f_is_integer := h.fun_ 0 rfl
    f_is_count := h.fun_ 1 rfl
    f_is_list := h.fun_ 2 rfl
    f_want_many := h.fun_ 3 rfl
    f_want_at_most := h.fun_ 4 rfl
    f_is_leaf := h.fun_ 5 rfl
    f_is_branch := h.fun_ 6 rfl
    f_is_kind := h.fun_ 7 rfl
    f_data_kind := h.fun_ 8 rfl
    f_is_node := h.fun_ 9 rfl
    f_are_tree := h.fun_ 10 rfl
    f_is_term := h.fun_ 11 rfl
    f_ends_of := h.fun_ 12 rfl
    f_children_of := h.fun_ 13 rfl
    f_row_of := h.fun_ 14 rfl
    f_kind_in := h.fun_ 15 rfl
    f_kind_of_leaf := h.fun_ 16 rfl
    f_kind_of_part := h.fun_ 17 rfl
    f_kind_of_call := h.fun_ 18 rfl
    f_kind_of_turns := h.fun_ 19 rfl
    f_kind_of_few := h.fun_ 20 rfl
    f_kind_by := h.fun_ 21 rfl
    f_bound_kind := h.fun_ 22 rfl
    f_Frame_init := h.fun_ 23 rfl
    f_next_row := h.fun_ 24 rfl
    f_finished := h.fun_ 25 rfl
    f_kinds_of := h.fun_ 26 rfl
    f_fitting_kinds := h.fun_ 27 rfl
    f_is_program := h.fun_ 28 rfl
    f_want_program := h.fun_ 29 rfl
    f_told_worth := h.fun_ 30 rfl
    f_worth_out := h.fun_ 31 rfl
    f_Engine_init := h.fun_ 32 rfl
    f_Engine_begin := h.fun_ 33 rfl
    f_Engine_see := h.fun_ 34 rfl
    f_Engine_called := h.fun_ 35 rfl
    f_Engine_turned := h.fun_ 36 rfl
    f_Engine_opened := h.fun_ 37 rfl
    f_Engine_parted := h.fun_ 38 rfl
    f_Engine_done := h.fun_ 39 rfl
    f_Engine_all_done := h.fun_ 40 rfl
    f_Engine_worth_in := h.fun_ 41 rfl
    f_begins := h.fun_ 42 rfl
    f_value_of := h.fun_ 43 rfl
    f_call_row := h.fun_ 44 rfl
    f_call_count := h.fun_ 45 rfl
    f_Run_init := h.fun_ 46 rfl
    f_Run_calls := h.fun_ 47 rfl
    f_Run_is_done := h.fun_ 48 rfl
    f_Run_go := h.fun_ 49 rfl
    f_Run_gone := h.fun_ 50 rfl
    f_Run_value := h.fun_ 51 rfl
    f_law_pot := h.fun_ 52 rfl
    f_law_draw := h.fun_ 53 rfl
    f_law_pick := h.fun_ 54 rfl
    f_law_tree := h.fun_ 55 rfl
    f_law_run := h.fun_ 56 rfl
    f_law_called := h.fun_ 57 rfl
    f_law_worth := h.fun_ 58 rfl
    f_law_kinds := h.fun_ 59 rfl
    f_law_data := h.fun_ 60 rfl
    f_law_leaf := h.fun_ 61 rfl
    f_law_term := h.fun_ 62 rfl
    f_law_grown := h.fun_ 63 rfl
    f_law_program := h.fun_ 64 rfl
    f_law_run_right := h.fun_ 65 rfl
    f_law_right := h.fun_ 66 rfl
    f_law := h.fun_ 67 rfl
    bnd := h.tab
    bnv := fun q hq => by
      obtain ⟨a1, a2⟩ := ba (List.all_eq_true.mp e1 q hq)
      exact ⟨eqO_ok a1, fun H => tpB_ok a2 H⟩
    wkd := fun H => tpB_ok e2 H
    nmb := fun H => tpB_ok e3 H
    p_calls := prB_ok e4
    p_is_done := prB_ok e5 }
/-! ### keeping a promise -/
def OkF (P : Program) (w : World) (K : PySem.W.Frag) (mg : Str → Option Value) (base : Heap) (k : Nat) (a : Addr) (ps : List Str) (sp : Sp) : Prop :=
  ∃ fd, PySem.W.keepIn K (.ref a) = true ∧ Binds K fd ps [] ∧ FnOk P w K mg base CX0 k a fd ps sp
theorem OkF.mono {P : Program} {w : World} {K : PySem.W.Frag} {mg : Str → Option Value} {base : Heap} {j k : Nat} {a : Addr} {ps : List Str} {sp : Sp} (h : OkF P w K mg base j a ps sp) (l : j ≤ k) : OkF P w K mg base k a ps sp := by
  obtain ⟨fd, h1, h2, h3⟩ := h
  exact ⟨fd, h1, h2, h3.mono l⟩
/-- a def's binding, asked once for all functions -/
def BindW (st : Stmt) (nm ql : Str) (ps : List Str) : Prop := ∀ (kV doc pm : Value) (an : Option Addr) (cdv ct : Value) (us : List Value), us.length = ps.length → bindArgs (PySem.W.fnOf nm ql (defArgs st) (defBody st) (defScope st) .none kV doc pm an cdv ct) ⟨us, []⟩ = pure (ps.zip us)
section
variable {P : Program} {w : World} {K : PySem.W.Frag} {mg : Str → Option Value} {base : Heap}
/-- a def keeps its promise, by its body's term and that term's reading; d has no defaults -/
theorem okF {d : Dp} {N ps : List Str} {k : Nat} {sp : Sp} (F : FnAt K d) (hd : d.df = [] := by rfl) (S : FnScope N ps (defScope d.st)) (hb : BindW d.st d.nm d.ql ps) (len : ∀ vs H Q E, sp vs H Q E → vs.length = ps.length)
    (body : ∀ (cdv : Value) (A : Around) (outer : List Env) (s : Shared) (H : Hp) (vs : List V) (Q : VK) (E : XK), Room k (A.deeper (envOfC d.ql (defScope d.st) s.heap.objs.size (d.loc K) cdv)) → sp vs H Q E →
      ∃ t, PSs (cxOf CX0 P w K mg base N d.ql (defScope d.st) (d.loc K) cdv A outer s H E).nox (defBody d.st) t ∧ t { nx := fun _ H' => Q .non H', rt := Q } (start N vs) H) : OkF P w K mg base (k + 1) (d.loc K) ps sp := by
  obtain ⟨fd, F⟩ := F
  rw [hd] at F
  refine ⟨fd, F.kp, FunD.bindsN (ps := ps) F hb, F.ok S len fun cdv A outer s H vs Q E hr hs => ?_⟩
  obtain ⟨t, h1, h2⟩ := body cdv A outer s H vs Q E hr hs
  exact ⟨t, PSs.nox h1, h2⟩
end
section
variable {X : Cx} {k : Nat} {a C : Addr} {ps : List Str} {sp : Sp} {x m : Str} {p pos apos : Pos} {e o : Expr} {es : List Expr} {ta : TE} {t : TA}
/-- f(e, ..) -/
theorem pe_f (F : OkF X.prog X.w X.K X.mg X.base k a ps sp) (hm : X.mg x = some (.ref a)) (hr : Room k X.A) (ha : PA X (e :: es) t) (hg : Gl X x := by rfl) (hdb : (x == ("__debug__" : Str)) = false := by decide)
    (he : starEach (e :: es) X.env = (false, eval e X.env) :: starEach es X.env := by rfl) (hpl : (backTo pos (starEach es X.env)).any (·.1) = false := by rfl) : PE X (.Call (.Name x p) (e :: es) [] pos) (tCall sp [] E0 t) := by
  obtain ⟨fd, h1, h2, h3⟩ := F
  exact pe_call h3 hr hg hm h1 h2 .nil pass0 ha hdb he hpl
/-- f() -/
theorem pe_f0 (F : OkF X.prog X.w X.K X.mg X.base k a ps sp) (hm : X.mg x = some (.ref a)) (hr : Room k X.A) (hg : Gl X x := by rfl) (hdb : (x == ("__debug__" : Str)) = false := by decide) : PE X (.Call (.Name x p) [] [] pos) (tCall sp [] E0 tNil) := by
  obtain ⟨fd, h1, h2, h3⟩ := F
  exact pe_call0 h3 hr hg hm h1 h2 .nil pass0 hdb
/-- o.m(e, ..) -/
theorem pe_o {pl : Sem Bool} (ho : PE X o ta) (c : Cls X.K C) (hm : Meth X.K C m a) (F : OkF X.prog X.w X.K X.mg X.base k a ps sp) (hr : Room k X.A) (ha : PA X (e :: es) t)
    (hst : starEach (e :: es) X.env = (false, eval e X.env) :: starEach es X.env := by rfl) (hpl : (backTo pos (starEach es X.env)).any (·.1) = false := by rfl)
    (ht : eval (.Call (.Attribute o m apos) (e :: es) [] pos) X.env = (do
      let ov ← eval o X.env
      standAt apos.atName
      let (f, first) ← holding [ov] (getMethod ov m pl)
      callWith pos f first (backTo pos (starEach (e :: es) X.env)) (backToKw pos (keywordEach [] X.env))) := by rfl) :
    PE X (.Call (.Attribute o m apos) (e :: es) [] pos) (tMeth C m sp [] E0 ta t) := by
  obtain ⟨fd, h1, h2, h3⟩ := F
  exact pe_meth ho c hm h3 hr h2 .nil pass0 ha hst hpl ht
/-- o.m() -/
theorem pe_o0 {pl : Sem Bool} (ho : PE X o ta) (c : Cls X.K C) (hm : Meth X.K C m a) (F : OkF X.prog X.w X.K X.mg X.base k a ps sp) (hr : Room k X.A)
    (ht : eval (.Call (.Attribute o m apos) [] [] pos) X.env = (do
      let ov ← eval o X.env
      standAt apos.atName
      let (f, first) ← holding [ov] (getMethod ov m pl)
      callWith pos f first (backTo pos (starEach [] X.env)) (backToKw pos (keywordEach [] X.env))) := by rfl) :
    PE X (.Call (.Attribute o m apos) [] [] pos) (tMeth C m sp [] E0 ta tNil) := by
  obtain ⟨fd, h1, h2, h3⟩ := F
  exact pe_meth0 ho c hm h3 hr h2 .nil pass0 ht
/-- C(e, ..) -/
theorem pe_n (M : Mk X.K C a) (F : OkF X.prog X.w X.K X.mg X.base k a ps sp) (hm : X.mg x = some (.ref C)) (hr : Room (k + 1) X.A) (ha : PA X (e :: es) t) (hg : Gl X x := by rfl) (hdb : (x == ("__debug__" : Str)) = false := by decide)
    (he : starEach (e :: es) X.env = (false, eval e X.env) :: starEach es X.env := by rfl) (hpl : (backTo pos (starEach es X.env)).any (·.1) = false := by rfl) : PE X (.Call (.Name x p) (e :: es) [] pos) (tMake C sp [] E0 t) := by
  obtain ⟨fd, h1, h2, h3⟩ := F
  exact pe_make M h3 hr hg hm h2 .nil pass0 ha hdb he hpl
end
theorem b_is_integer : BindW s_is_integer "is_integer" "is_integer" ["value"] := fun _ _ _ _ _ _ us hl => match us, hl with | [_], _ => rfl
theorem b_is_count : BindW s_is_count "is_count" "is_count" ["value"] := fun _ _ _ _ _ _ us hl => match us, hl with | [_], _ => rfl
theorem b_is_list : BindW s_is_list "is_list" "is_list" ["value"] := fun _ _ _ _ _ _ us hl => match us, hl with | [_], _ => rfl
theorem b_want_at_most : BindW s_want_at_most "want_at_most" "want_at_most" ["what", "limit", "number"] := fun _ _ _ _ _ _ us hl => match us, hl with | [_, _, _], _ => rfl
theorem b_is_leaf : BindW s_is_leaf "is_leaf" "is_leaf" ["value"] := fun _ _ _ _ _ _ us hl => match us, hl with | [_], _ => rfl
theorem b_is_branch : BindW s_is_branch "is_branch" "is_branch" ["value"] := fun _ _ _ _ _ _ us hl => match us, hl with | [_], _ => rfl
theorem b_is_kind : BindW s_is_kind "is_kind" "is_kind" ["value"] := fun _ _ _ _ _ _ us hl => match us, hl with | [_], _ => rfl
theorem b_data_kind : BindW s_data_kind "data_kind" "data_kind" ["kind"] := fun _ _ _ _ _ _ us hl => match us, hl with | [_], _ => rfl
theorem b_is_node : BindW s_is_node "is_node" "is_node" ["value"] := fun _ _ _ _ _ _ us hl => match us, hl with | [_], _ => rfl
theorem b_are_tree : BindW s_are_tree "are_tree" "are_tree" ["nodes"] := fun _ _ _ _ _ _ us hl => match us, hl with | [_], _ => rfl
theorem b_is_term : BindW s_is_term "is_term" "is_term" ["value"] := fun _ _ _ _ _ _ us hl => match us, hl with | [_], _ => rfl
theorem b_ends_of : BindW s_ends_of "ends_of" "ends_of" ["nodes"] := fun _ _ _ _ _ _ us hl => match us, hl with | [_], _ => rfl
theorem b_children_of : BindW s_children_of "children_of" "children_of" ["nodes"] := fun _ _ _ _ _ _ us hl => match us, hl with | [_], _ => rfl
theorem b_row_of : BindW s_row_of "row_of" "row_of" ["names"] := fun _ _ _ _ _ _ us hl => match us, hl with | [_], _ => rfl
theorem b_kind_in : BindW s_kind_in "kind_in" "kind_in" ["row", "out"] := fun _ _ _ _ _ _ us hl => match us, hl with | [_, _], _ => rfl
theorem b_kind_of_leaf : BindW s_kind_of_leaf "kind_of_leaf" "kind_of_leaf" ["node", "row"] := fun _ _ _ _ _ _ us hl => match us, hl with | [_, _], _ => rfl
theorem b_kind_of_part : BindW s_kind_of_part "kind_of_part" "kind_of_part" ["word", "one"] := fun _ _ _ _ _ _ us hl => match us, hl with | [_, _], _ => rfl
theorem b_kind_of_call : BindW s_kind_of_call "kind_of_call" "kind_of_call" ["one", "other"] := fun _ _ _ _ _ _ us hl => match us, hl with | [_, _], _ => rfl
theorem b_kind_of_turns : BindW s_kind_of_turns "kind_of_turns" "kind_of_turns" ["kind", "some"] := fun _ _ _ _ _ _ us hl => match us, hl with | [_, _], _ => rfl
theorem b_kind_of_few : BindW s_kind_of_few "kind_of_few" "kind_of_few" ["node", "some"] := fun _ _ _ _ _ _ us hl => match us, hl with | [_, _], _ => rfl
theorem b_kind_by : BindW s_kind_by "kind_by" "kind_by" ["node", "some"] := fun _ _ _ _ _ _ us hl => match us, hl with | [_, _], _ => rfl
theorem b_bound_kind : BindW s_bound_kind "bound_kind" "bound_kind" ["node", "some"] := fun _ _ _ _ _ _ us hl => match us, hl with | [_, _], _ => rfl
theorem b_Frame_init : BindW s_Frame_init "__init__" "Frame.__init__" ["self", "position", "row"] := fun _ _ _ _ _ _ us hl => match us, hl with | [_, _, _], _ => rfl
theorem b_next_row : BindW s_next_row "next_row" "next_row" ["nodes", "frame"] := fun _ _ _ _ _ _ us hl => match us, hl with | [_, _], _ => rfl
theorem b_finished : BindW s_finished "finished" "finished" ["nodes", "frames", "kinds"] := fun _ _ _ _ _ _ us hl => match us, hl with | [_, _, _], _ => rfl
theorem b_kinds_of : BindW s_kinds_of "kinds_of" "kinds_of" ["names", "nodes"] := fun _ _ _ _ _ _ us hl => match us, hl with | [_, _], _ => rfl
theorem b_fitting_kinds : BindW s_fitting_kinds "fitting_kinds" "fitting_kinds" ["names", "nodes"] := fun _ _ _ _ _ _ us hl => match us, hl with | [_, _], _ => rfl
theorem b_is_program : BindW s_is_program "is_program" "is_program" ["value"] := fun _ _ _ _ _ _ us hl => match us, hl with | [_], _ => rfl
theorem b_want_program : BindW s_want_program "want_program" "want_program" ["value"] := fun _ _ _ _ _ _ us hl => match us, hl with | [_], _ => rfl
theorem b_told_worth : BindW s_told_worth "told_worth" "told_worth" ["worth"] := fun _ _ _ _ _ _ us hl => match us, hl with | [_], _ => rfl
theorem b_worth_out : BindW s_worth_out "worth_out" "worth_out" ["row", "many"] := fun _ _ _ _ _ _ us hl => match us, hl with | [_, _], _ => rfl
theorem b_Engine_init : BindW s_Engine_init "__init__" "Engine.__init__" ["self", "term", "limit"] := fun _ _ _ _ _ _ us hl => match us, hl with | [_, _, _], _ => rfl
theorem b_Engine_begin : BindW s_Engine_begin "begin" "Engine.begin" ["self", "position"] := fun _ _ _ _ _ _ us hl => match us, hl with | [_, _], _ => rfl
theorem b_Engine_see : BindW s_Engine_see "see" "Engine.see" ["self", "position", "row", "orders", "worths"] := fun _ _ _ _ _ _ us hl => match us, hl with | [_, _, _, _, _], _ => rfl
theorem b_Engine_called : BindW s_Engine_called "called" "Engine.called" ["self", "orders", "worths"] := fun _ _ _ _ _ _ us hl => match us, hl with | [_, _, _], _ => rfl
theorem b_Engine_turned : BindW s_Engine_turned "turned" "Engine.turned" ["self", "position", "row", "left", "orders", "worths"] := fun _ _ _ _ _ _ us hl => match us, hl with | [_, _, _, _, _, _], _ => rfl
theorem b_Engine_opened : BindW s_Engine_opened "opened" "Engine.opened" ["self", "word", "position", "row", "orders", "worths"] := fun _ _ _ _ _ _ us hl => match us, hl with | [_, _, _, _, _, _], _ => rfl
theorem b_Engine_parted : BindW s_Engine_parted "parted" "Engine.parted" ["self", "word", "worths"] := fun _ _ _ _ _ _ us hl => match us, hl with | [_, _, _], _ => rfl
theorem b_Engine_done : BindW s_Engine_done "done" "Engine.done" ["self", "order", "orders", "worths"] := fun _ _ _ _ _ _ us hl => match us, hl with | [_, _, _, _], _ => rfl
theorem b_Engine_all_done : BindW s_Engine_all_done "all_done" "Engine.all_done" ["self", "orders", "worths"] := fun _ _ _ _ _ _ us hl => match us, hl with | [_, _, _], _ => rfl
theorem b_Engine_worth_in : BindW s_Engine_worth_in "worth_in" "Engine.worth_in" ["self", "row"] := fun _ _ _ _ _ _ us hl => match us, hl with | [_, _], _ => rfl
theorem b_begins : BindW s_begins "begins" "begins" ["order", "worths"] := fun _ _ _ _ _ _ us hl => match us, hl with | [_, _], _ => rfl
theorem b_value_of : BindW s_value_of "value_of" "value_of" ["program"] := fun _ _ _ _ _ _ us hl => match us, hl with | [_], _ => rfl
theorem b_call_row : BindW s_call_row "call_row" "call_row" ["program"] := fun _ _ _ _ _ _ us hl => match us, hl with | [_], _ => rfl
theorem b_call_count : BindW s_call_count "call_count" "call_count" ["program"] := fun _ _ _ _ _ _ us hl => match us, hl with | [_], _ => rfl
theorem b_Run_init : BindW s_Run_init "__init__" "Run.__init__" ["self", "program"] := fun _ _ _ _ _ _ us hl => match us, hl with | [_, _], _ => rfl
theorem b_Run_calls : BindW s_Run_calls "calls" "Run.calls" ["self"] := fun _ _ _ _ _ _ us hl => match us, hl with | [_], _ => rfl
theorem b_Run_is_done : BindW s_Run_is_done "is_done" "Run.is_done" ["self"] := fun _ _ _ _ _ _ us hl => match us, hl with | [_], _ => rfl
theorem b_Run_go : BindW s_Run_go "go" "Run.go" ["self", "many"] := fun _ _ _ _ _ _ us hl => match us, hl with | [_, _], _ => rfl
theorem b_Run_gone : BindW s_Run_gone "gone" "Run.gone" ["self", "most"] := fun _ _ _ _ _ _ us hl => match us, hl with | [_, _], _ => rfl
theorem b_Run_value : BindW s_Run_value "value" "Run.value" ["self"] := fun _ _ _ _ _ _ us hl => match us, hl with | [_], _ => rfl
theorem b_law_pot : BindW s_law_pot "_law_pot" "_law_pot" ["_law_script", "_law_k"] := fun _ _ _ _ _ _ us hl => match us, hl with | [_, _], _ => rfl
theorem b_law_draw : BindW s_law_draw "_law_draw" "_law_draw" ["_law_pot_here", "_law_many"] := fun _ _ _ _ _ _ us hl => match us, hl with | [_, _], _ => rfl
theorem b_law_pick : BindW s_law_pick "_law_pick" "_law_pick" ["_law_pot_here", "_law_some"] := fun _ _ _ _ _ _ us hl => match us, hl with | [_, _], _ => rfl
theorem b_law_tree : BindW s_law_tree "_law_tree" "_law_tree" ["_law_term_here", "_law_at"] := fun _ _ _ _ _ _ us hl => match us, hl with | [_, _], _ => rfl
theorem b_law_run : BindW s_law_run "_law_run" "_law_run" ["_law_tree_here", "_law_row", "_law_calls"] := fun _ _ _ _ _ _ us hl => match us, hl with | [_, _, _], _ => rfl
theorem b_law_called : BindW s_law_called "_law_called" "_law_called" ["_law_made", "_law_given", "_law_calls"] := fun _ _ _ _ _ _ us hl => match us, hl with | [_, _, _], _ => rfl
theorem b_law_worth : BindW s_law_worth "_law_worth" "_law_worth" ["_law_program_here"] := fun _ _ _ _ _ _ us hl => match us, hl with | [_], _ => rfl
theorem b_law_kinds : BindW s_law_kinds "_law_kinds" "_law_kinds" [] := fun _ _ _ _ _ _ us hl => match us, hl with | [], _ => rfl
theorem b_law_data : BindW s_law_data "_law_data" "_law_data" ["_law_pot_here"] := fun _ _ _ _ _ _ us hl => match us, hl with | [_], _ => rfl
theorem b_law_leaf : BindW s_law_leaf "_law_leaf" "_law_leaf" ["_law_pot_here", "_law_kind", "_law_names"] := fun _ _ _ _ _ _ us hl => match us, hl with | [_, _, _], _ => rfl
theorem b_law_term : BindW s_law_term "_law_term" "_law_term" ["_law_pot_here", "_law_kind", "_law_names", "_law_deep"] := fun _ _ _ _ _ _ us hl => match us, hl with | [_, _, _, _], _ => rfl
theorem b_law_grown : BindW s_law_grown "_law_grown" "_law_grown" ["_law_pot_here", "_law_kind", "_law_names", "_law_deep"] := fun _ _ _ _ _ _ us hl => match us, hl with | [_, _, _, _], _ => rfl
theorem b_law_program : BindW s_law_program "_law_program" "_law_program" ["_law_pot_here", "_law_kind", "_law_deep"] := fun _ _ _ _ _ _ us hl => match us, hl with | [_, _, _], _ => rfl
theorem b_law_run_right : BindW s_law_run_right "_law_run_right" "_law_run_right" ["_law_pot_here", "_law_program_here"] := fun _ _ _ _ _ _ us hl => match us, hl with | [_, _], _ => rfl
theorem b_law_right : BindW s_law_right "_law_right" "_law_right" ["_law_pot_here"] := fun _ _ _ _ _ _ us hl => match us, hl with | [_], _ => rfl
theorem b_law : BindW s_law "law" "law" ["_law_script"] := fun _ _ _ _ _ _ us hl => match us, hl with | [_], _ => rfl
end K42

/-! KP -/
/-! the plain law: kinds, nodes, terms, worths, what a term runs to -/
namespace K42

inductive Kt where
  | pair | sum | fn
  deriving DecidableEq
inductive Kd where
  | cnt
  | two (t : Kt) (a b : Kd)
  deriving DecidableEq
/-- how many signs, how deep -/
def Kd.sz : Kd → Nat
  | .cnt => 1
  | .two _ a b => 1 + a.sz + b.sz
def Kd.dp : Kd → Nat
  | .cnt => 1
  | .two _ a b => 1 + max a.dp b.dp
def Kd.fine (k : Kd) : Prop := k.sz ≤ 60 ∧ k.dp ≤ 12
def Kd.data : Kd → Bool
  | .cnt => true
  | .two .fn _ _ => false
  | .two _ a b => a.data && b.data
theorem Kd.sz_pos : ∀ k : Kd, 1 ≤ k.sz
  | .cnt => Nat.le_refl _
  | .two _ a b => by unfold Kd.sz; omega
theorem Kd.dp_pos : ∀ k : Kd, 1 ≤ k.dp
  | .cnt => Nat.le_refl _
  | .two _ a b => by unfold Kd.dp; omega

/-- words with a kind; words alone -/
inductive Nk where
  | fn | left | right | turns
  deriving DecidableEq
inductive Nw where
  | call | both | first | second | which | next | lt
  deriving DecidableEq
inductive Nd where
  | name (i : Nat)
  | told (i : Nat)
  | knd (t : Nk) (k : Kd)
  | wd (t : Nw)
  deriving DecidableEq
/-- how many binders more around each child -/
def Nd.bn : Nd → List Nat
  | .name _ => []
  | .told _ => []
  | .knd .fn _ => [1]
  | .knd .left _ => [0]
  | .knd .right _ => [0]
  | .knd .turns _ => [0, 1, 0]
  | .wd .call => [0, 0]
  | .wd .both => [0, 0]
  | .wd .first => [0]
  | .wd .second => [0]
  | .wd .which => [0, 1, 1]
  | .wd .next => [0]
  | .wd .lt => [0, 1]
/-- what a node tells alone -/
def Nd.fine : Nd → Prop
  | .name i => i ≤ 299
  | .told i => i ≤ 1000000
  | .knd _ k => k.fine
  | .wd _ => True

/-- terms by their nodes' children -/
inductive Tm where
  | n0 (a : Nd)
  | n1 (a : Nd) (x : Tm)
  | n2 (a : Nd) (x y : Tm)
  | n3 (a : Nd) (x y z : Tm)
def Tm.nodes : Tm → List Nd
  | .n0 a => [a]
  | .n1 a x => a :: x.nodes
  | .n2 a x y => a :: (x.nodes ++ y.nodes)
  | .n3 a x y z => a :: (x.nodes ++ (y.nodes ++ z.nodes))
def Tm.size : Tm → Nat
  | .n0 _ => 1
  | .n1 _ x => 1 + x.size
  | .n2 _ x y => 1 + x.size + y.size
  | .n3 _ x y z => 1 + x.size + y.size + z.size
theorem Tm.len : ∀ t : Tm, t.nodes.length = t.size
  | .n0 a => rfl
  | .n1 a x => by simp only [Tm.nodes, Tm.size, List.length_cons, x.len]; omega
  | .n2 a x y => by simp only [Tm.nodes, Tm.size, List.length_cons, List.length_append, x.len, y.len]; omega
  | .n3 a x y z => by simp only [Tm.nodes, Tm.size, List.length_cons, List.length_append, x.len, y.len, z.len]; omega
theorem Tm.size_pos : ∀ t : Tm, 1 ≤ t.size
  | .n0 _ => Nat.le_refl _
  | .n1 _ x => by unfold Tm.size; omega
  | .n2 _ x y => by unfold Tm.size; omega
  | .n3 _ x y z => by unfold Tm.size; omega
/-- each node has as many children as its word wants, and tells what may be told -/
def Tm.ok : Tm → Prop
  | .n0 a => a.bn.length = 0 ∧ a.fine
  | .n1 a x => a.bn.length = 1 ∧ a.fine ∧ x.ok
  | .n2 a x y => a.bn.length = 2 ∧ a.fine ∧ x.ok ∧ y.ok
  | .n3 a x y z => a.bn.length = 3 ∧ a.fine ∧ x.ok ∧ y.ok ∧ z.ok

/-- how many trees are wanted yet -/
def wd1 : Nat → List Nd → Option Nat
  | w, [] => some w
  | 0, _ :: _ => none
  | w + 1, n :: r => wd1 (w + n.bn.length) r
theorem wd1_tree : ∀ (t : Tm) (w : Nat) (r : List Nd), t.ok → wd1 (w + 1) (t.nodes ++ r) = wd1 w r
  | .n0 a, w, r, h => by
    have h1 : a.bn.length = 0 := h.1
    show wd1 (w + a.bn.length) r = _
    rw [h1]; rfl
  | .n1 a x, w, r, h => by
    obtain ⟨h1, _, h2⟩ := h
    show wd1 (w + a.bn.length) (x.nodes ++ r) = _
    rw [h1]; exact wd1_tree x w r h2
  | .n2 a x y, w, r, h => by
    obtain ⟨h1, _, h2, h3⟩ := h
    show wd1 (w + a.bn.length) ((x.nodes ++ y.nodes) ++ r) = _
    rw [h1, List.append_assoc, show w + 2 = (w + 1) + 1 from rfl, wd1_tree x (w + 1) _ h2, wd1_tree y w r h3]
  | .n3 a x y z, w, r, h => by
    obtain ⟨h1, _, h2, h3, h4⟩ := h
    show wd1 (w + a.bn.length) ((x.nodes ++ (y.nodes ++ z.nodes)) ++ r) = _
    rw [h1, List.append_assoc, List.append_assoc, show w + 3 = (w + 2) + 1 from rfl, wd1_tree x (w + 2) _ h2, show w + 2 = (w + 1) + 1 from rfl, wd1_tree y (w + 1) _ h3, wd1_tree z w r h4]
theorem Tm.okNodes : ∀ t : Tm, t.ok → ∀ n ∈ t.nodes, n.fine
  | .n0 a, h, n, hn => by
    have e : n = a := List.mem_singleton.mp hn
    rw [e]; exact h.2
  | .n1 a x, h, n, hn => by
    rcases List.mem_cons.mp hn with e | hn
    · rw [e]; exact h.2.1
    · exact x.okNodes h.2.2 n hn
  | .n2 a x y, h, n, hn => by
    rcases List.mem_cons.mp hn with e | hn
    · rw [e]; exact h.2.1
    · rcases List.mem_append.mp hn with hn | hn
      · exact x.okNodes h.2.2.1 n hn
      · exact y.okNodes h.2.2.2 n hn
  | .n3 a x y z, h, n, hn => by
    rcases List.mem_cons.mp hn with e | hn
    · rw [e]; exact h.2.1
    · rcases List.mem_append.mp hn with hn | hn
      · exact x.okNodes h.2.2.1 n hn
      · rcases List.mem_append.mp hn with hn | hn
        · exact y.okNodes h.2.2.2.1 n hn
        · exact z.okNodes h.2.2.2.2 n hn

/-- worths; made: where the fun stands, its kind, its body, the row -/
inductive W where
  | int (n : Nat)
  | both (a b : W)
  | left (a : W)
  | right (a : W)
  | made (p : Nat) (k : Kd) (b : Tm) (r : List W)

/-- what an order that begins no call makes of one worth -/
def un1 : Nd → W → Option W
  | .wd .next, .int k => some (.int (min (k + 1) 1000000))
  | .wd .first, .both a _ => some a
  | .wd .second, .both _ b => some b
  | .knd .left _, w => some (.left w)
  | .knd .right _, w => some (.right w)
  | _, _ => none

/-- so many steps -/
def iter (f : W → Option (W × List Nat)) (p : Nat) : Nat → W → Option (W × List Nat)
  | 0, w => some (w, [])
  | k + 1, w => match f w with
    | some (w1, c1) => (match iter f p k w1 with
      | some (w2, c2) => some (w2, p :: (c1 ++ c2))
      | none => none)
    | none => none

/-- the worth of a term at a place in a row, and the calls, with no more than so many runs one in another -/
def ev : Nat → List W → Nat → Tm → Option (W × List Nat)
  | 0, _, _, _ => none
  | _ + 1, r, _, .n0 (.name i) => (match r[i]? with
    | some w => some (w, [])
    | none => none)
  | _ + 1, _, _, .n0 (.told k) => some (.int k, [])
  | _ + 1, _, _, .n0 _ => none
  | _ + 1, r, p, .n1 (.knd .fn k) b => some (.made p k b r, [])
  | n + 1, r, p, .n1 a x => (match ev n r (p + 1) x with
    | some (w, c) => (match un1 a w with
      | some v => some (v, c)
      | none => none)
    | none => none)
  | n + 1, r, p, .n2 (.wd .both) x y => (match ev n r (p + 1) x with
    | some (a, c1) => (match ev n r (p + 1 + x.size) y with
      | some (b, c2) => some (.both a b, c1 ++ c2)
      | none => none)
    | none => none)
  | n + 1, r, p, .n2 (.wd .lt) x y => (match ev n r (p + 1) x with
    | some (a, c1) => (match ev n (a :: r) (p + 1 + x.size) y with
      | some (b, c2) => some (b, c1 ++ p :: c2)
      | none => none)
    | none => none)
  | n + 2, r, p, .n2 (.wd .call) x y => (match ev (n + 1) r (p + 1) x with
    | some (.made q _ b r1, c1) => (match ev (n + 1) r (p + 1 + x.size) y with
      | some (a, c2) => (match ev n (a :: r1) (q + 1) b with
        | some (w, c3) => some (w, c1 ++ (c2 ++ q :: c3))
        | none => none)
      | none => none)
    | _ => none)
  | _ + 1, _, _, .n2 _ _ _ => none
  | n + 1, r, p, .n3 (.wd .which) x y z => (match ev n r (p + 1) x with
    | some (.left a, c1) => (match ev n (a :: r) (p + 1 + x.size) y with
      | some (b, c2) => some (b, c1 ++ p :: c2)
      | none => none)
    | some (.right a, c1) => (match ev n (a :: r) (p + 1 + x.size + y.size) z with
      | some (b, c2) => some (b, c1 ++ p :: c2)
      | none => none)
    | _ => none)
  | n + 1, r, p, .n3 (.knd .turns _) x y z => (match ev n r (p + 1) x with
    | some (.int k, c1) => (match ev n r (p + 1 + x.size + y.size) z with
      | some (a, c2) => (match iter (fun w => ev n (w :: r) (p + 1 + x.size) y) p k a with
        | some (b, c3) => some (b, c1 ++ (c2 ++ c3))
        | none => none)
      | none => none)
    | _ => none)
  | _ + 1, _, _, .n3 _ _ _ _ => none

/-! ### subterms by places -/
def Tm.node : Tm → Nd
  | .n0 a => a
  | .n1 a _ => a
  | .n2 a _ _ => a
  | .n3 a _ _ _ => a
def Tm.kids : Tm → List Tm
  | .n0 _ => []
  | .n1 _ x => [x]
  | .n2 _ x y => [x, y]
  | .n3 _ x y z => [x, y, z]
def fl : List Tm → List Nd
  | [] => []
  | t :: r => t.nodes ++ fl r
def szl : List Tm → Nat
  | [] => 0
  | t :: r => t.size + szl r
theorem fl_app : ∀ F G : List Tm, fl (F ++ G) = fl F ++ fl G
  | [], G => rfl
  | t :: r, G => by show t.nodes ++ fl (r ++ G) = (t.nodes ++ fl r) ++ fl G; rw [fl_app r G, List.append_assoc]
theorem Tm.nodes_eq : ∀ t : Tm, t.nodes = t.node :: fl t.kids
  | .n0 a => rfl
  | .n1 a x => by show a :: x.nodes = a :: (x.nodes ++ []); rw [List.append_nil]
  | .n2 a x y => by show a :: (x.nodes ++ y.nodes) = a :: (x.nodes ++ (y.nodes ++ [])); rw [List.append_nil]
  | .n3 a x y z => by show a :: (x.nodes ++ (y.nodes ++ z.nodes)) = a :: (x.nodes ++ (y.nodes ++ (z.nodes ++ []))); rw [List.append_nil]
theorem Tm.size_eq : ∀ t : Tm, t.size = 1 + szl t.kids
  | .n0 a => rfl
  | .n1 a x => by show 1 + x.size = 1 + (x.size + 0); omega
  | .n2 a x y => by show 1 + x.size + y.size = 1 + (x.size + (y.size + 0)); omega
  | .n3 a x y z => by show 1 + x.size + y.size + z.size = 1 + (x.size + (y.size + (z.size + 0))); omega
theorem Tm.ok_kids : ∀ t : Tm, t.ok → t.node.bn.length = t.kids.length ∧ t.node.fine ∧ ∀ k ∈ t.kids, k.ok
  | .n0 a, h => ⟨h.1, h.2, fun k hk => by cases hk⟩
  | .n1 a x, h => ⟨h.1, h.2.1, fun k hk => by
      rcases List.mem_cons.mp hk with e | hk
      · rw [e]; exact h.2.2
      · cases hk⟩
  | .n2 a x y, h => ⟨h.1, h.2.1, fun k hk => by
      rcases List.mem_cons.mp hk with e | hk
      · rw [e]; exact h.2.2.1
      · rcases List.mem_cons.mp hk with e | hk
        · rw [e]; exact h.2.2.2
        · cases hk⟩
  | .n3 a x y z, h => ⟨h.1, h.2.1, fun k hk => by
      rcases List.mem_cons.mp hk with e | hk
      · rw [e]; exact h.2.2.1
      · rcases List.mem_cons.mp hk with e | hk
        · rw [e]; exact h.2.2.2.1
        · rcases List.mem_cons.mp hk with e | hk
          · rw [e]; exact h.2.2.2.2
          · cases hk⟩
theorem szl_app : ∀ F G : List Tm, szl (F ++ G) = szl F + szl G
  | [], G => by show szl G = 0 + szl G; omega
  | t :: r, G => by show t.size + szl (r ++ G) = t.size + szl r + szl G; rw [szl_app r G]; omega
theorem fl_len : ∀ F : List Tm, (fl F).length = szl F
  | [] => rfl
  | t :: r => by show (t.nodes ++ fl r).length = t.size + szl r; rw [List.length_append, t.len, fl_len r]
/-- what stands from a place on: whole terms, one behind another -/
def fa : Nat → List Tm → List Tm
  | 0, F => F
  | _ + 1, [] => []
  | p + 1, t :: r => fa p (t.kids ++ r)
theorem fa_add : ∀ (a b : Nat) (F : List Tm), fa (a + b) F = fa b (fa a F)
  | 0, b, F => by rw [Nat.zero_add]; rfl
  | a + 1, 0, [] => rfl
  | a + 1, b + 1, [] => rfl
  | a + 1, b, t :: r => by
    rw [show a + 1 + b = (a + b) + 1 by omega]
    exact fa_add a b (t.kids ++ r)
theorem fl_fa : ∀ (p : Nat) (F : List Tm), fl (fa p F) = (fl F).drop p
  | 0, F => rfl
  | p + 1, [] => rfl
  | p + 1, t :: r => by
    show fl (fa p (t.kids ++ r)) = (t.nodes ++ fl r).drop (p + 1)
    rw [fl_fa p, fl_app, t.nodes_eq]
    rfl
theorem fa_step {p : Nat} {F : List Tm} {t : Tm} {r : List Tm} (h : fa p F = t :: r) : fa (p + 1) F = t.kids ++ r := by
  rw [fa_add p 1 F, h]; rfl
mutual
theorem fa_skip : ∀ (t : Tm) (r : List Tm), fa t.size (t :: r) = r
  | .n0 a, r => rfl
  | .n1 a x, r => by
    show fa (1 + x.size) (Tm.n1 a x :: r) = r
    rw [Nat.add_comm]
    exact fa_skip x r
  | .n2 a x y, r => by
    show fa (1 + x.size + y.size) (Tm.n2 a x y :: r) = r
    rw [show 1 + x.size + y.size = 1 + (x.size + y.size) by omega, fa_add 1]
    show fa (x.size + y.size) (x :: (y :: r)) = r
    rw [fa_add, fa_skip x, fa_skip y]
  | .n3 a x y z, r => by
    show fa (1 + x.size + y.size + z.size) (Tm.n3 a x y z :: r) = r
    rw [show 1 + x.size + y.size + z.size = 1 + (x.size + (y.size + z.size)) by omega, fa_add 1]
    show fa (x.size + (y.size + z.size)) (x :: (y :: (z :: r))) = r
    rw [fa_add, fa_skip x, fa_add, fa_skip y, fa_skip z]
end
theorem fa_next {p : Nat} {F : List Tm} {t : Tm} {r : List Tm} (h : fa p F = t :: r) : fa (p + t.size) F = r := by
  rw [fa_add, h, fa_skip]
/-- the subterm at a place -/
def At (T : Tm) (p : Nat) (t : Tm) : Prop := ∃ r, fa p [T] = t :: r
theorem At.top (T : Tm) : At T 0 T := ⟨[], rfl⟩
theorem At.n1 {T : Tm} {p : Nat} {a : Nd} {x : Tm} (h : At T p (.n1 a x)) : At T (p + 1) x := by
  obtain ⟨r, h⟩ := h
  exact ⟨r, fa_step h⟩
theorem At.n2 {T : Tm} {p : Nat} {a : Nd} {x y : Tm} (h : At T p (.n2 a x y)) : At T (p + 1) x ∧ At T (p + 1 + x.size) y := by
  obtain ⟨r, h⟩ := h
  have h1 : fa (p + 1) [T] = x :: (y :: r) := fa_step h
  exact ⟨⟨_, h1⟩, ⟨r, fa_next h1⟩⟩
theorem At.n3 {T : Tm} {p : Nat} {a : Nd} {x y z : Tm} (h : At T p (.n3 a x y z)) : At T (p + 1) x ∧ At T (p + 1 + x.size) y ∧ At T (p + 1 + x.size + y.size) z := by
  obtain ⟨r, h⟩ := h
  have h1 : fa (p + 1) [T] = x :: (y :: (z :: r)) := fa_step h
  have h2 := fa_next h1
  exact ⟨⟨_, h1⟩, ⟨_, h2⟩, ⟨r, fa_next h2⟩⟩
theorem fl_one (T : Tm) : fl [T] = T.nodes := by show T.nodes ++ [] = _; rw [List.append_nil]
theorem At.node {T : Tm} {p : Nat} {t : Tm} (h : At T p t) : T.nodes[p]? = some t.node := by
  obtain ⟨r, h⟩ := h
  have e := fl_fa p [T]
  rw [h, fl_one] at e
  have e2 : (T.nodes.drop p)[0]? = some t.node := by
    rw [← e]
    show (t.nodes ++ fl r)[0]? = _
    rw [t.nodes_eq]; rfl
  rw [List.getElem?_drop] at e2
  exact e2
theorem fa_some {T : Tm} {p : Nat} (h : p < T.size) : ∃ t r, fa p [T] = t :: r := by
  cases e : fa p [T] with
  | cons t r => exact ⟨t, r, rfl⟩
  | nil =>
    have e1 := fl_fa p [T]
    rw [e, fl_one] at e1
    have e2 : (T.nodes.drop p).length = 0 := by rw [← e1]; rfl
    rw [List.length_drop, T.len] at e2
    omega
theorem fa_ok : ∀ (p : Nat) (F : List Tm), (∀ t ∈ F, t.ok) → ∀ t ∈ fa p F, t.ok
  | 0, F, h, t, ht => h t ht
  | p + 1, [], h, t, ht => by cases ht
  | p + 1, k :: r, h, t, ht => fa_ok p (k.kids ++ r) (fun u hu => by
      rcases List.mem_append.mp hu with hu | hu
      · exact (k.ok_kids (h k (List.mem_cons_self ..))).2.2 u hu
      · exact h u (List.mem_cons_of_mem _ hu)) t ht
theorem At.ok {T : Tm} {p : Nat} {t : Tm} (h : At T p t) (k : T.ok) : t.ok := by
  obtain ⟨r, h⟩ := h
  exact fa_ok p [T] (fun u hu => by
    have e : u = T := List.mem_singleton.mp hu
    rw [e]; exact k) t (by rw [h]; exact List.mem_cons_self ..)
theorem At.lt {T : Tm} {p : Nat} {t : Tm} (h : At T p t) : p < T.size := by
  have := h.node
  have h2 := (List.getElem?_eq_some_iff.mp this).1
  rw [T.len] at h2
  exact h2
/-- where terms that stand one behind another end -/
def eo : Nat → List Tm → List Nat
  | _, [] => []
  | p, t :: r => (p + t.size) :: eo (p + t.size) r
theorem eo_app : ∀ (p : Nat) (F G : List Tm), eo p (F ++ G) = eo p F ++ eo (p + szl F) G
  | p, [], G => rfl
  | p, t :: r, G => by
    show (p + t.size) :: eo (p + t.size) (r ++ G) = (p + t.size) :: (eo (p + t.size) r ++ eo (p + (t.size + szl r)) G)
    rw [eo_app, Nat.add_assoc]
theorem eo_last : ∀ (p : Nat) (F : List Tm), (p :: eo p F)[F.length]? = some (p + szl F)
  | p, [] => rfl
  | p, t :: r => by
    show ((p + t.size) :: eo (p + t.size) r)[r.length]? = some (p + (t.size + szl r))
    rw [eo_last (p + t.size) r, Nat.add_assoc]
theorem eo_len : ∀ (p : Nat) (F : List Tm), (eo p F).length = F.length
  | p, [] => rfl
  | p, t :: r => congrArg Nat.succ (eo_len (p + t.size) r)
/-- where they begin -/
def bo : Nat → List Tm → List Nat
  | _, [] => []
  | p, t :: r => p :: bo (p + t.size) r
theorem bo_len : ∀ (p : Nat) (F : List Tm), (bo p F).length = F.length
  | p, [] => rfl
  | p, t :: r => congrArg Nat.succ (bo_len (p + t.size) r)
/-- the next one begins where one ends -/
theorem bo_at : ∀ (p : Nat) (F r : List Tm) (T : List Tm), fa p T = F ++ r → ∀ (j : Nat) (k : Tm), F[j]? = some k → ∃ q s, (bo p F)[j]? = some q ∧ fa q T = k :: s ∧ (p :: eo p F)[j]? = some q ∧ (p :: eo p F)[j + 1]? = some (q + k.size)
  | p, [], r, T, h, j, k, e => by simp at e
  | p, t :: F, r, T, h, 0, k, e => by
    have e1 : t = k := by simpa using e
    subst e1
    exact ⟨p, F ++ r, rfl, h, rfl, rfl⟩
  | p, t :: F, r, T, h, j + 1, k, e => by
    have h1 : fa (p + t.size) T = F ++ r := fa_next (r := F ++ r) h
    exact bo_at (p + t.size) F r T h1 j k (by simpa using e)
/-- the places of the children -/
def cp (p : Nat) (t : Tm) : List Nat := bo (p + 1) t.kids

end K42

/-! KP2 -/
/-! the plain law: what fits; how the kinds of a list of nodes are told one by one -/
namespace K42
inductive Kby : Nd → List Kd → Kd → Prop where
  | fn {A B : Kd} : (Kd.two .fn A B).fine → Kby (.knd .fn A) [B] (.two .fn A B)
  | left {A B : Kd} : (Kd.two .sum A B).fine → Kby (.knd .left B) [A] (.two .sum A B)
  | right {A B : Kd} : (Kd.two .sum A B).fine → Kby (.knd .right A) [B] (.two .sum A B)
  | turns {A : Kd} : A.dp ≤ 60 → Kby (.knd .turns A) [.cnt, A, A] A
  | call {A B : Kd} : A.dp ≤ 60 → Kby (.wd .call) [.two .fn A B, A] B
  | both {A B : Kd} : (Kd.two .pair A B).fine → Kby (.wd .both) [A, B] (.two .pair A B)
  | first {A B : Kd} : Kby (.wd .first) [.two .pair A B] A
  | second {A B : Kd} : Kby (.wd .second) [.two .pair A B] B
  | which {S C : Kd} : C.dp ≤ 60 → Kby (.wd .which) [S, C, C] C
  | next : Kby (.wd .next) [.cnt] .cnt
  | lt {A B : Kd} : Kby (.wd .lt) [A, B] B
inductive Bnd : Nd → List Kd → Kd → Prop where
  | fn {A : Kd} : Bnd (.knd .fn A) [] A
  | turns {A k : Kd} : Bnd (.knd .turns A) [k] A
  | which0 {A B : Kd} : Bnd (.wd .which) [.two .sum A B] A
  | which1 {A B k : Kd} : Bnd (.wd .which) [.two .sum A B, k] B
  | lt {A : Kd} : Bnd (.wd .lt) [A] A
/-- the row around the next child -/
def Nx (a : Nd) (ks G G1 : List Kd) : Prop := (a.bn[ks.length]? = some 0 ∧ G1 = G) ∨ (a.bn[ks.length]? = some 1 ∧ ∃ k, Bnd a ks k ∧ G1 = k :: G)
inductive LeafK : Nd → List Kd → Kd → Prop where
  | name {i : Nat} {G : List Kd} {k : Kd} : G[i]? = some k → LeafK (.name i) G k
  | told {i : Nat} {G : List Kd} : LeafK (.told i) G .cnt
inductive WT : List Kd → Tm → Kd → Prop where
  | n0 {G : List Kd} {a : Nd} {k : Kd} : LeafK a G k → WT G (.n0 a) k
  | n1 {G G1 : List Kd} {a : Nd} {x : Tm} {k K : Kd} : a.bn.length = 1 → Nx a [] G G1 → WT G1 x k → Kby a [k] K → WT G (.n1 a x) K
  | n2 {G G1 G2 : List Kd} {a : Nd} {x y : Tm} {k l K : Kd} : a.bn.length = 2 → Nx a [] G G1 → WT G1 x k → Nx a [k] G G2 → WT G2 y l → Kby a [k, l] K → WT G (.n2 a x y) K
  | n3 {G G1 G2 G3 : List Kd} {a : Nd} {x y z : Tm} {k l m K : Kd} : a.bn.length = 3 → Nx a [] G G1 → WT G1 x k → Nx a [k] G G2 → WT G2 y l → Nx a [k, l] G G3 → WT G3 z m → Kby a [k, l, m] K → WT G (.n3 a x y z) K
theorem LeafK.bn {a : Nd} {G : List Kd} {k : Kd} (h : LeafK a G k) : a.bn = [] := by cases h <;> rfl
/-- a node whose children are looked at -/
structure Fm where
  p : Nat
  g : List Kd
  n : Nd
  ks : List Kd
def app1 (S : List Fm) (K : Kd) : List Fm := match S with
  | [] => []
  | f :: R => ⟨f.p, f.g, f.n, f.ks ++ [K]⟩ :: R
def upd0 (p : Nat) (K : Kd) (k0 : Option Kd) : Option Kd := if p = 0 then some K else k0
/-- frames whose children are known are closed -/
inductive Cl : List Fm → Option Kd → List Fm → Option Kd → Prop where
  | nil {k0 : Option Kd} : Cl [] k0 [] k0
  | stop {f : Fm} {S : List Fm} {k0 : Option Kd} : f.ks.length < f.n.bn.length → Cl (f :: S) k0 (f :: S) k0
  | step {f : Fm} {S S1 : List Fm} {k0 k1 : Option Kd} {K : Kd} : f.ks.length = f.n.bn.length → Kby f.n f.ks K → Cl (app1 S K) (upd0 f.p K k0) S1 k1 → Cl (f :: S) k0 S1 k1
def NxTop (S : List Fm) (G : List Kd) : Prop := match S with
  | [] => G = []
  | f :: _ => Nx f.n f.ks f.g G
/-- the rest of the nodes comes to a kind -/
inductive Pr (F : Kd) : List Nd → Nat → List Fm → Option Kd → Prop where
  | nil {p : Nat} : Pr F [] p [] (some F)
  | node {n : Nd} {r : List Nd} {p : Nat} {S : List Fm} {k0 : Option Kd} {G : List Kd} : 0 < n.bn.length → NxTop S G → Pr F r (p + 1) (⟨p, G, n, []⟩ :: S) k0 → Pr F (n :: r) p S k0
  | leaf {n : Nd} {r : List Nd} {p : Nat} {S S1 : List Fm} {k0 k1 : Option Kd} {G : List Kd} {k : Kd} : NxTop S G → LeafK n G k → Cl (app1 S k) (upd0 p k k0) S1 k1 → Pr F r (p + 1) S1 k1 → Pr F (n :: r) p S k0
theorem WT.pr {F : Kd} {G : List Kd} {t : Tm} {K : Kd} (h : WT G t K) : ∀ {p : Nat} {S S1 : List Fm} {r : List Nd} {k0 k1 : Option Kd}, NxTop S G → Cl (app1 S K) (upd0 p K k0) S1 k1 → Pr F r (p + t.size) S1 k1 → Pr F (t.nodes ++ r) p S k0 := by
  induction h with
  | n0 h =>
    intro p S S1 r k0 k1 hn hc hp
    exact .leaf hn h hc hp
  | @n1 G G1 a x k K hb hx h1 hk i1 =>
    intro p S S1 r k0 k1 hn hc hp
    refine .node (by omega) hn (i1 (S := ⟨p, G, a, []⟩ :: S) (S1 := S1) (k1 := k1) hx (.step (show ([k] : List Kd).length = a.bn.length from hb.symm) hk ?_) ?_)
    · rw [show upd0 (p + 1) k k0 = k0 from if_neg (by omega)]
      exact hc
    · rw [show p + 1 + x.size = p + (Tm.n1 a x).size by show _ = p + (1 + x.size); omega]
      exact hp
  | @n2 G G1 G2 a x y k l K hb hx h1 hy h2 hk i1 i2 =>
    intro p S S1 r k0 k1 hn hc hp
    refine .node (by omega) hn ?_
    show Pr F ((x.nodes ++ y.nodes) ++ r) _ _ _
    rw [List.append_assoc]
    refine i1 (S := ⟨p, G, a, []⟩ :: S) hx (.stop (show ([k] : List Kd).length < a.bn.length from by rw [hb]; exact Nat.lt_succ_self 1)) ?_
    rw [show upd0 (p + 1) k k0 = k0 from if_neg (by omega)]
    refine i2 (S := ⟨p, G, a, [k]⟩ :: S) (S1 := S1) (k1 := k1) hy (.step (show ([k, l] : List Kd).length = a.bn.length from hb.symm) hk ?_) ?_
    · rw [show upd0 (p + 1 + x.size) l k0 = k0 from if_neg (by omega)]
      exact hc
    · rw [show p + 1 + x.size + y.size = p + (Tm.n2 a x y).size by show _ = p + (1 + x.size + y.size); omega]
      exact hp
  | @n3 G G1 G2 G3 a x y z k l m K hb hx h1 hy h2 hz h3 hk i1 i2 i3 =>
    intro p S S1 r k0 k1 hn hc hp
    refine .node (by omega) hn ?_
    show Pr F ((x.nodes ++ (y.nodes ++ z.nodes)) ++ r) _ _ _
    rw [List.append_assoc, List.append_assoc]
    refine i1 (S := ⟨p, G, a, []⟩ :: S) hx (.stop (show ([k] : List Kd).length < a.bn.length from by rw [hb]; simp)) ?_
    rw [show upd0 (p + 1) k k0 = k0 from if_neg (by omega)]
    refine i2 (S := ⟨p, G, a, [k]⟩ :: S) hy (.stop (show ([k, l] : List Kd).length < a.bn.length from by rw [hb]; simp)) ?_
    rw [show upd0 (p + 1 + x.size) l k0 = k0 from if_neg (by omega)]
    refine i3 (S := ⟨p, G, a, [k, l]⟩ :: S) (S1 := S1) (k1 := k1) hz (.step (show ([k, l, m] : List Kd).length = a.bn.length from hb.symm) hk ?_) ?_
    · rw [show upd0 (p + 1 + x.size + y.size) m k0 = k0 from if_neg (by omega)]
      exact hc
    · rw [show p + 1 + x.size + y.size + z.size = p + (Tm.n3 a x y z).size by show _ = p + (1 + x.size + y.size + z.size); omega]
      exact hp
theorem WT.top {t : Tm} {K : Kd} (h : WT [] t K) : Pr K t.nodes 0 [] none := by
  have := h.pr (F := K) (p := 0) (S := []) (S1 := []) (r := []) (k0 := none) (k1 := some K) rfl (show Cl [] (upd0 0 K none) [] (some K) from .nil) .nil
  rw [List.append_nil] at this
  exact this
end K42

/-! KP3 -/
/-! the plain law: the machine of orders and worths comes to what a term runs to -/
namespace K42
/-- what is still to do; act: what needs its children's worths alone -/
inductive Od where
  | see (p : Nat) (r : List W)
  | opn (b : Bool) (p : Nat) (r : List W)
  | trn (p : Nat) (r : List W)
  | agn (p : Nat) (r : List W) (k : Nat)
  | act (n : Nd)
def Nd.acts : Nd → Bool
  | .knd .left _ => true
  | .knd .right _ => true
  | .wd .call => true
  | .wd .both => true
  | .wd .first => true
  | .wd .second => true
  | .wd .next => true
  | _ => false
/-- one order done; some p: a call is begun at p -/
inductive Stp (Z : Tm) : List Od → List W → Option Nat → List Od → List W → Prop where
  | name {p i : Nat} {r : List W} {w : W} {os : List Od} {ws : List W} : At Z p (.n0 (.name i)) → r[i]? = some w → Stp Z (.see p r :: os) ws none os (w :: ws)
  | told {p k : Nat} {r : List W} {os : List Od} {ws : List W} : At Z p (.n0 (.told k)) → Stp Z (.see p r :: os) ws none os (.int k :: ws)
  | fn {p : Nat} {k : Kd} {b : Tm} {r : List W} {os : List Od} {ws : List W} : At Z p (.n1 (.knd .fn k) b) → Stp Z (.see p r :: os) ws none os (.made p k b r :: ws)
  | slt {p : Nat} {x y : Tm} {r : List W} {os : List Od} {ws : List W} : At Z p (.n2 (.wd .lt) x y) → Stp Z (.see p r :: os) ws none (.see (p + 1) r :: .opn false p r :: os) ws
  | swhich {p : Nat} {x y z : Tm} {r : List W} {os : List Od} {ws : List W} : At Z p (.n3 (.wd .which) x y z) → Stp Z (.see p r :: os) ws none (.see (p + 1) r :: .opn true p r :: os) ws
  | sturns {p : Nat} {k : Kd} {x y z : Tm} {r : List W} {os : List Od} {ws : List W} : At Z p (.n3 (.knd .turns k) x y z) →
      Stp Z (.see p r :: os) ws none (.see (p + 1) r :: .see (p + 1 + x.size + y.size) r :: .trn p r :: os) ws
  | s1 {p : Nat} {a : Nd} {x : Tm} {r : List W} {os : List Od} {ws : List W} : At Z p (.n1 a x) → a.acts = true → Stp Z (.see p r :: os) ws none (.see (p + 1) r :: .act a :: os) ws
  | s2 {p : Nat} {a : Nd} {x y : Tm} {r : List W} {os : List Od} {ws : List W} : At Z p (.n2 a x y) → a.acts = true → Stp Z (.see p r :: os) ws none (.see (p + 1) r :: .see (p + 1 + x.size) r :: .act a :: os) ws
  | un {a : Nd} {w v : W} {os : List Od} {ws : List W} : un1 a w = some v → a.acts = true → Stp Z (.act a :: os) (w :: ws) none os (v :: ws)
  | both {a b : W} {os : List Od} {ws : List W} : Stp Z (.act (.wd .both) :: os) (b :: a :: ws) none os (.both a b :: ws)
  | call {q : Nat} {k : Kd} {b : Tm} {a : W} {r : List W} {os : List Od} {ws : List W} : Stp Z (.act (.wd .call) :: os) (a :: .made q k b r :: ws) (some q) (.see (q + 1) (a :: r) :: os) ws
  | olt {p : Nat} {x y : Tm} {w : W} {r : List W} {os : List Od} {ws : List W} : At Z p (.n2 (.wd .lt) x y) → Stp Z (.opn false p r :: os) (w :: ws) (some p) (.see (p + 1 + x.size) (w :: r) :: os) ws
  | owl {p : Nat} {x y z : Tm} {w : W} {r : List W} {os : List Od} {ws : List W} : At Z p (.n3 (.wd .which) x y z) → Stp Z (.opn true p r :: os) (.left w :: ws) (some p) (.see (p + 1 + x.size) (w :: r) :: os) ws
  | owr {p : Nat} {x y z : Tm} {w : W} {r : List W} {os : List Od} {ws : List W} : At Z p (.n3 (.wd .which) x y z) → Stp Z (.opn true p r :: os) (.right w :: ws) (some p) (.see (p + 1 + x.size + y.size) (w :: r) :: os) ws
  | trn0 {p : Nat} {a : W} {r : List W} {os : List Od} {ws : List W} : Stp Z (.trn p r :: os) (a :: .int 0 :: ws) none os (a :: ws)
  | trnS {p k : Nat} {n : Nd} {x y z : Tm} {a : W} {r : List W} {os : List Od} {ws : List W} : At Z p (.n3 n x y z) → Stp Z (.trn p r :: os) (a :: .int (k + 1) :: ws) (some p) (.see (p + 1 + x.size) (a :: r) :: .agn p r k :: os) ws
  | agn0 {p : Nat} {a : W} {r : List W} {os : List Od} {ws : List W} : Stp Z (.agn p r 0 :: os) (a :: ws) none os (a :: ws)
  | agnS {p k : Nat} {n : Nd} {x y z : Tm} {a : W} {r : List W} {os : List Od} {ws : List W} : At Z p (.n3 n x y z) → Stp Z (.agn p r (k + 1) :: os) (a :: ws) (some p) (.see (p + 1 + x.size) (a :: r) :: .agn p r k :: os) ws
/-- so many steps, the calls in order -/
inductive Rn (Z : Tm) : Nat → List Od → List W → List Nat → List Od → List W → Prop where
  | refl {os : List Od} {ws : List W} : Rn Z 0 os ws [] os ws
  | step {n : Nat} {os os1 os2 : List Od} {ws ws1 ws2 : List W} {cs : List Nat} : Stp Z os ws none os1 ws1 → Rn Z n os1 ws1 cs os2 ws2 → Rn Z (n + 1) os ws cs os2 ws2
  | call {n p : Nat} {os os1 os2 : List Od} {ws ws1 ws2 : List W} {cs : List Nat} : Stp Z os ws (some p) os1 ws1 → Rn Z n os1 ws1 cs os2 ws2 → Rn Z (n + 1) os ws (p :: cs) os2 ws2
theorem Rn.trans {Z : Tm} {n m : Nat} {os os1 os2 : List Od} {ws ws1 ws2 : List W} {cs ds : List Nat} (h : Rn Z n os ws cs os1 ws1) (g : Rn Z m os1 ws1 ds os2 ws2) : Rn Z (n + m) os ws (cs ++ ds) os2 ws2 := by
  induction h with
  | refl => rw [Nat.zero_add]; exact g
  | @step n _ _ _ _ _ _ _ s _ ih => rw [show n + 1 + m = (n + m) + 1 by omega]; exact .step s (ih g)
  | @call n _ _ _ _ _ _ _ _ s _ ih => rw [show n + 1 + m = (n + m) + 1 by omega]; exact .call s (ih g)
/-- worths whose makers stand in the term -/
inductive Wf (Z : Tm) : Sum W (List W) → Prop where
  | int {n : Nat} : Wf Z (.inl (.int n))
  | both {a b : W} : Wf Z (.inl a) → Wf Z (.inl b) → Wf Z (.inl (.both a b))
  | left {a : W} : Wf Z (.inl a) → Wf Z (.inl (.left a))
  | right {a : W} : Wf Z (.inl a) → Wf Z (.inl (.right a))
  | made {p : Nat} {k : Kd} {b : Tm} {r : List W} : At Z p (.n1 (.knd .fn k) b) → Wf Z (.inr r) → Wf Z (.inl (.made p k b r))
  | nil : Wf Z (.inr [])
  | cons {w : W} {r : List W} : Wf Z (.inl w) → Wf Z (.inr r) → Wf Z (.inr (w :: r))
theorem Wf.get {Z : Tm} : ∀ {r : List W} {i : Nat} {w : W}, Wf Z (.inr r) → r[i]? = some w → Wf Z (.inl w)
  | [], i, w, _, e => by simp at e
  | x :: r, 0, w, h, e => by
    cases h with
    | cons h1 h2 =>
      have e2 : x = w := by simpa using e
      rw [← e2]; exact h1
  | x :: r, i + 1, w, h, e => by
    cases h with
    | cons h1 h2 => exact Wf.get h2 (by simpa using e)
theorem Wf.un1 {Z : Tm} {a : Nd} {w v : W} (h : Wf Z (.inl w)) (e : un1 a w = some v) : Wf Z (.inl v) := by
  unfold K42.un1 at e
  split at e
  · cases e; exact .int
  · cases e; cases h; assumption
  · cases e; cases h; assumption
  · cases e; exact .left h
  · cases e; exact .right h
  · cases e
theorem un1_acts {a : Nd} {w v : W} (e : un1 a w = some v) : a.acts = true := by
  unfold un1 at e
  split at e <;> first | rfl | cases e
theorem fa_szl : ∀ (p : Nat) (F : List Tm), szl (fa p F) ≤ szl F := fun p F => by
  have h := congrArg List.length (fl_fa p F)
  rw [fl_len, List.length_drop, fl_len] at h
  omega
theorem At.size_le {Z : Tm} {p : Nat} {t : Tm} (h : At Z p t) : t.size ≤ Z.size := by
  obtain ⟨r, h⟩ := h
  have h1 := fa_szl p [Z]
  rw [h] at h1
  have h2 : szl (t :: r) = t.size + szl r := rfl
  have h3 : szl [Z] = Z.size + 0 := rfl
  omega
section
variable {Z : Tm}
/-- what comes of a term, machine-wise -/
def Cm (Z : Tm) (r : List W) (p : Nat) (t : Tm) (w : W) (cs : List Nat) : Prop := Wf Z (.inl w) ∧ ∀ os ws, ∃ k, k ≤ 2 * t.size + (2 * Z.size + 2) * cs.length ∧ Rn Z k (.see p r :: os) ws cs os (w :: ws)
theorem cm_iter {r : List W} {p : Nat} {n : Nd} {x y z : Tm} {f : W → Option (W × List Nat)} (hp : At Z p (.n3 n x y z)) (hy : y.size ≤ Z.size) (hf : ∀ a w cs, Wf Z (.inl a) → f a = some (w, cs) → Cm Z (a :: r) (p + 1 + x.size) y w cs) :
    ∀ (k : Nat) (a w : W) (cs : List Nat), Wf Z (.inl a) → iter f p k a = some (w, cs) → Wf Z (.inl w) ∧ ∀ os ws, ∃ m, m ≤ 1 + (2 * Z.size + 2) * cs.length ∧ Rn Z m (.agn p r k :: os) (a :: ws) cs os (w :: ws)
  | 0, a, w, cs, ha, e => by
    cases e
    exact ⟨ha, fun os ws => ⟨1, by simp, .step .agn0 .refl⟩⟩
  | k + 1, a, w, cs, ha, e => by
    unfold iter at e
    split at e
    · rename_i w1 c1 e1
      split at e
      · rename_i w2 c2 e2
        cases e
        obtain ⟨h1, h2⟩ := hf _ _ _ ha e1
        obtain ⟨h3, h4⟩ := cm_iter hp hy hf k w1 _ c2 h1 e2
        refine ⟨h3, fun os ws => ?_⟩
        obtain ⟨m1, b1, g1⟩ := h2 (.agn p r k :: os) ws
        obtain ⟨m2, b2, g2⟩ := h4 os ws
        refine ⟨(m1 + m2) + 1, ?_, .call (.agnS hp) (g1.trans g2)⟩
        rw [List.length_cons, List.length_append, Nat.mul_succ, Nat.mul_add]
        omega
      · cases e
    · cases e
theorem cm_ev : ∀ (n : Nat) (r : List W) (p : Nat) (t : Tm) (w : W) (cs : List Nat), Wf Z (.inr r) → At Z p t → ev n r p t = some (w, cs) → Cm Z r p t w cs := by
  intro n
  induction n using Nat.strongRecOn with
  | _ n ih =>
    intro r p t w cs hr ht e
    have hsz := ht.size_le
    unfold ev at e
    split at e
    · cases e
    · rename_i i
      split at e
      · rename_i e1
        cases e
        exact ⟨hr.get e1, fun os ws => ⟨1, by simp [Tm.size], .step (.name ht e1) .refl⟩⟩
      · cases e
    · cases e
      exact ⟨.int, fun os ws => ⟨1, by simp [Tm.size], .step (.told ht) .refl⟩⟩
    · cases e
    · cases e
      exact ⟨.made ht hr, fun os ws => ⟨1, by simp [Tm.size]; omega, .step (.fn ht) .refl⟩⟩
    · rename_i m a x _
      split at e
      · rename_i w1 c1 e1
        split at e
        · rename_i v e2
          cases e
          obtain ⟨h1, h2⟩ := ih m (by omega) _ _ _ _ _ hr ht.n1 e1
          refine ⟨h1.un1 e2, fun os ws => ?_⟩
          obtain ⟨k, b, g⟩ := h2 (.act a :: os) ws
          have ha := un1_acts e2
          refine ⟨(k + (0 + 1)) + 1, by simp only [Tm.size]; omega, .step (.s1 ht ha) ?_⟩
          have := g.trans (.step (.un e2 ha) .refl)
          rw [List.append_nil] at this
          exact this
        · cases e
      · cases e
    · rename_i m x y
      split at e
      · rename_i a c1 e1
        split at e
        · rename_i b c2 e2
          cases e
          obtain ⟨h1, h2⟩ := ih m (by omega) _ _ _ _ _ hr ht.n2.1 e1
          obtain ⟨h3, h4⟩ := ih m (by omega) _ _ _ _ _ hr ht.n2.2 e2
          refine ⟨.both h1 h3, fun os ws => ?_⟩
          obtain ⟨k1, b1, g1⟩ := h2 (.see (p + 1 + x.size) r :: .act (.wd .both) :: os) ws
          obtain ⟨k2, b2, g2⟩ := h4 (.act (.wd .both) :: os) (a :: ws)
          refine ⟨(k1 + (k2 + (0 + 1))) + 1, ?_, .step (.s2 ht rfl) ?_⟩
          · rw [List.length_append, Nat.mul_add]
            simp only [Tm.size]
            omega
          · have := g1.trans (g2.trans (.step .both .refl))
            rw [List.append_nil] at this
            exact this
        · cases e
      · cases e
    · rename_i m x y
      split at e
      · rename_i a c1 e1
        split at e
        · rename_i b c2 e2
          cases e
          obtain ⟨h1, h2⟩ := ih m (by omega) _ _ _ _ _ hr ht.n2.1 e1
          obtain ⟨h3, h4⟩ := ih m (by omega) _ _ _ _ _ (.cons h1 hr) ht.n2.2 e2
          refine ⟨h3, fun os ws => ?_⟩
          obtain ⟨k1, b1, g1⟩ := h2 (.opn false p r :: os) ws
          obtain ⟨k2, b2, g2⟩ := h4 os ws
          refine ⟨(k1 + (k2 + 1)) + 1, ?_, .step (.slt ht) (g1.trans (.call (.olt ht) g2))⟩
          rw [List.length_append, List.length_cons, Nat.mul_add, Nat.mul_succ]
          simp only [Tm.size]
          omega
        · cases e
      · cases e
    · rename_i m x y
      split at e
      · rename_i q k b r1 c1 e1
        split at e
        · rename_i a c2 e2
          split at e
          · rename_i v c3 e3
            cases e
            obtain ⟨h1, h2⟩ := ih (m + 1) (by omega) _ _ _ _ _ hr ht.n2.1 e1
            obtain ⟨h3, h4⟩ := ih (m + 1) (by omega) _ _ _ _ _ hr ht.n2.2 e2
            cases h1 with
            | made hq hr1 =>
              have hb := hq.n1
              obtain ⟨h5, h6⟩ := ih m (by omega) _ _ _ _ _ (.cons h3 hr1) hb e3
              have hbs := hb.size_le
              refine ⟨h5, fun os ws => ?_⟩
              obtain ⟨k1, b1, g1⟩ := h2 (.see (p + 1 + x.size) r :: .act (.wd .call) :: os) ws
              obtain ⟨k2, b2, g2⟩ := h4 (.act (.wd .call) :: os) (.made q k b r1 :: ws)
              obtain ⟨k3, b3, g3⟩ := h6 os ws
              refine ⟨(k1 + (k2 + (k3 + 1))) + 1, ?_, .step (.s2 ht rfl) (g1.trans (g2.trans (.call .call g3)))⟩
              rw [List.length_append, List.length_append, List.length_cons, Nat.mul_add, Nat.mul_add, Nat.mul_succ]
              simp only [Tm.size]
              omega
          · cases e
        · cases e
      · cases e
    · cases e
    · rename_i m x y z
      split at e
      · rename_i a c1 e1
        split at e
        · rename_i b c2 e2
          cases e
          obtain ⟨h1, h2⟩ := ih m (by omega) _ _ _ _ _ hr ht.n3.1 e1
          cases h1 with
          | left h1 =>
            obtain ⟨h3, h4⟩ := ih m (by omega) _ _ _ _ _ (.cons h1 hr) ht.n3.2.1 e2
            refine ⟨h3, fun os ws => ?_⟩
            obtain ⟨k1, b1, g1⟩ := h2 (.opn true p r :: os) ws
            obtain ⟨k2, b2, g2⟩ := h4 os ws
            refine ⟨(k1 + (k2 + 1)) + 1, ?_, .step (.swhich ht) (g1.trans (.call (.owl ht) g2))⟩
            rw [List.length_append, List.length_cons, Nat.mul_add, Nat.mul_succ]
            simp only [Tm.size]
            omega
        · cases e
      · rename_i a c1 e1
        split at e
        · rename_i b c2 e2
          cases e
          obtain ⟨h1, h2⟩ := ih m (by omega) _ _ _ _ _ hr ht.n3.1 e1
          cases h1 with
          | right h1 =>
            obtain ⟨h3, h4⟩ := ih m (by omega) _ _ _ _ _ (.cons h1 hr) ht.n3.2.2 e2
            refine ⟨h3, fun os ws => ?_⟩
            obtain ⟨k1, b1, g1⟩ := h2 (.opn true p r :: os) ws
            obtain ⟨k2, b2, g2⟩ := h4 os ws
            refine ⟨(k1 + (k2 + 1)) + 1, ?_, .step (.swhich ht) (g1.trans (.call (.owr ht) g2))⟩
            rw [List.length_append, List.length_cons, Nat.mul_add, Nat.mul_succ]
            simp only [Tm.size]
            omega
        · cases e
      · cases e
    · rename_i m kd x y z
      split at e
      · rename_i k c1 e1
        split at e
        · rename_i a c2 e2
          split at e
          · rename_i b c3 e3
            cases e
            obtain ⟨h1, h2⟩ := ih m (by omega) _ _ _ _ _ hr ht.n3.1 e1
            obtain ⟨h3, h4⟩ := ih m (by omega) _ _ _ _ _ hr ht.n3.2.2 e2
            have hy := ht.n3.2.1
            have hf : ∀ a w cs, Wf Z (.inl a) → ev m (a :: r) (p + 1 + x.size) y = some (w, cs) → Cm Z (a :: r) (p + 1 + x.size) y w cs := fun a w cs ha e => ih m (by omega) _ _ _ _ _ (.cons ha hr) hy e
            have hys := hy.size_le
            have hit := cm_iter (Z := Z) (r := r) ht hys hf
            cases k with
            | zero =>
              cases e3
              refine ⟨h3, fun os ws => ?_⟩
              obtain ⟨k1, b1, g1⟩ := h2 (.see (p + 1 + x.size + y.size) r :: .trn p r :: os) ws
              obtain ⟨k2, b2, g2⟩ := h4 (.trn p r :: os) (.int 0 :: ws)
              refine ⟨(k1 + (k2 + (0 + 1))) + 1, ?_, .step (.sturns ht) (g1.trans (g2.trans (.step .trn0 .refl)))⟩
              rw [List.length_append, List.length_append, Nat.mul_add, Nat.mul_add]
              simp only [Tm.size, List.length_nil]
              omega
            | succ k =>
              unfold iter at e3
              split at e3
              · rename_i w1 d1 e4
                split at e3
                · rename_i w2 d2 e5
                  cases e3
                  obtain ⟨h5, h6⟩ := hf _ _ _ h3 e4
                  obtain ⟨h7, h8⟩ := hit k w1 _ d2 h5 e5
                  refine ⟨h7, fun os ws => ?_⟩
                  obtain ⟨k1, b1, g1⟩ := h2 (.see (p + 1 + x.size + y.size) r :: .trn p r :: os) ws
                  obtain ⟨k2, b2, g2⟩ := h4 (.trn p r :: os) (.int (k + 1) :: ws)
                  obtain ⟨k3, b3, g3⟩ := h6 (.agn p r k :: os) ws
                  obtain ⟨k4, b4, g4⟩ := h8 os ws
                  refine ⟨(k1 + (k2 + ((k3 + k4) + 1))) + 1, ?_, .step (.sturns ht) (g1.trans (g2.trans (.call (.trnS ht) (g3.trans g4))))⟩
                  rw [List.length_append, List.length_append, List.length_cons, List.length_append, Nat.mul_add, Nat.mul_add, Nat.mul_succ, Nat.mul_add]
                  simp only [Tm.size]
                  omega
                · cases e3
              · cases e3
          · cases e
        · cases e
      · cases e
    · cases e
end
/-- how many steps are left; the worth; the calls still to begin -/
inductive Go (Z : Tm) (f : W) : Nat → List Od → List W → List Nat → Prop where
  | done : Go Z f 0 [] [f] []
  | step {n : Nat} {os os1 : List Od} {ws ws1 : List W} {cs : List Nat} : Stp Z os ws none os1 ws1 → Go Z f n os1 ws1 cs → Go Z f (n + 1) os ws cs
  | call {n p : Nat} {os os1 : List Od} {ws ws1 : List W} {cs : List Nat} : Stp Z os ws (some p) os1 ws1 → Go Z f n os1 ws1 cs → Go Z f (n + 1) os ws (p :: cs)
theorem Go.of {Z : Tm} {f : W} {n : Nat} {os : List Od} {ws : List W} {cs : List Nat} (h : Rn Z n os ws cs [] [f]) : Go Z f n os ws cs := by
  generalize eo : ([] : List Od) = o1 at h
  generalize ew : [f] = w1 at h
  induction h with
  | refl => rw [← eo, ← ew]; exact .done
  | step s _ ih => exact .step s (ih eo ew)
  | call s _ ih => exact .call s (ih eo ew)
theorem go_top {Z : Tm} {n : Nat} {f : W} {cs : List Nat} (h : ev n [] 0 Z = some (f, cs)) : Wf Z (.inl f) ∧ ∃ k, k ≤ 2 * Z.size + (2 * Z.size + 2) * cs.length ∧ Go Z f k [.see 0 []] [] cs := by
  obtain ⟨h1, h2⟩ := cm_ev n [] 0 Z f cs .nil (.top Z) h
  obtain ⟨k, b, g⟩ := h2 [] []
  exact ⟨h1, k, b, .of g⟩
theorem Stp.len {Z : Tm} {os os1 : List Od} {ws ws1 : List W} {c : Option Nat} (h : Stp Z os ws c os1 ws1) : os.length ≤ os1.length + 1 ∧ ws.length ≤ ws1.length + 2 := by
  cases h <;> (simp only [List.length_cons]; omega)
theorem Go.len {Z : Tm} {f : W} {n : Nat} {os : List Od} {ws : List W} {cs : List Nat} (h : Go Z f n os ws cs) : os.length ≤ n ∧ ws.length ≤ 2 * n + 1 := by
  induction h with
  | done => exact ⟨Nat.le_refl _, Nat.le_refl _⟩
  | step s _ ih => have := s.len; omega
  | call s _ ih => have := s.len; omega
end K42

/-! KG1 -/
/-! the plain law: more runs one in another do no harm; how runs are put together -/
namespace K42
theorem iter_mono {f g : W → Option (W × List Nat)} (h : ∀ a x, f a = some x → g a = some x) (p : Nat) : ∀ (k : Nat) (a : W) (x : W × List Nat), iter f p k a = some x → iter g p k a = some x
  | 0, a, x, e => e
  | k + 1, a, x, e => by
    unfold iter at e ⊢
    cases e1 : f a with
    | none => rw [e1] at e; cases e
    | some v =>
      obtain ⟨w1, c1⟩ := v
      rw [e1] at e
      rw [h _ _ e1]
      simp only at e ⊢
      cases e2 : iter f p k w1 with
      | none => rw [e2] at e; cases e
      | some v2 =>
        rw [e2] at e
        rw [iter_mono h p k _ _ e2]
        exact e
section
variable {n p : Nat} {r : List W}
theorem ev_n1 {a : Nd} {x : Tm} (h : ∀ k, a ≠ .knd .fn k) : ev (n + 1) r p (.n1 a x) = (match ev n r (p + 1) x with
    | some (w, c) => (match un1 a w with
      | some v => some (v, c)
      | none => none)
    | none => none) := by
  cases a with
  | name i => rfl
  | told i => rfl
  | knd t k => cases t <;> first | rfl | exact absurd rfl (h k)
  | wd t => cases t <;> rfl
theorem ev_both {x y : Tm} : ev (n + 1) r p (.n2 (.wd .both) x y) = (match ev n r (p + 1) x with
    | some (a, c1) => (match ev n r (p + 1 + x.size) y with
      | some (b, c2) => some (.both a b, c1 ++ c2)
      | none => none)
    | none => none) := rfl
theorem ev_lt {x y : Tm} : ev (n + 1) r p (.n2 (.wd .lt) x y) = (match ev n r (p + 1) x with
    | some (a, c1) => (match ev n (a :: r) (p + 1 + x.size) y with
      | some (b, c2) => some (b, c1 ++ p :: c2)
      | none => none)
    | none => none) := rfl
theorem ev_call {x y : Tm} : ev (n + 2) r p (.n2 (.wd .call) x y) = (match ev (n + 1) r (p + 1) x with
    | some (.made q _ b r1, c1) => (match ev (n + 1) r (p + 1 + x.size) y with
      | some (a, c2) => (match ev n (a :: r1) (q + 1) b with
        | some (w, c3) => some (w, c1 ++ (c2 ++ q :: c3))
        | none => none)
      | none => none)
    | _ => none) := rfl
theorem ev_which {x y z : Tm} : ev (n + 1) r p (.n3 (.wd .which) x y z) = (match ev n r (p + 1) x with
    | some (.left a, c1) => (match ev n (a :: r) (p + 1 + x.size) y with
      | some (b, c2) => some (b, c1 ++ p :: c2)
      | none => none)
    | some (.right a, c1) => (match ev n (a :: r) (p + 1 + x.size + y.size) z with
      | some (b, c2) => some (b, c1 ++ p :: c2)
      | none => none)
    | _ => none) := rfl
theorem ev_turns {k : Kd} {x y z : Tm} : ev (n + 1) r p (.n3 (.knd .turns k) x y z) = (match ev n r (p + 1) x with
    | some (.int k, c1) => (match ev n r (p + 1 + x.size + y.size) z with
      | some (a, c2) => (match iter (fun w => ev n (w :: r) (p + 1 + x.size) y) p k a with
        | some (b, c3) => some (b, c1 ++ (c2 ++ c3))
        | none => none)
      | none => none)
    | _ => none) := rfl
end
theorem ev_succ : ∀ (n : Nat) (r : List W) (p : Nat) (t : Tm) (x : W × List Nat), ev n r p t = some x → ev (n + 1) r p t = some x := by
  intro n
  induction n using Nat.strongRecOn with
  | _ n ih =>
    intro r p t x e
    cases n with
    | zero => cases e
    | succ n =>
      have ih1 := ih n (Nat.lt_succ_self n)
      cases t with
      | n0 a => cases a <;> exact e
      | n1 a y =>
        by_cases hf : ∃ k, a = .knd .fn k
        · obtain ⟨k, rfl⟩ := hf
          exact e
        · have hf2 : ∀ k, a ≠ .knd .fn k := fun k z => hf ⟨k, z⟩
          rw [ev_n1 hf2] at e ⊢
          cases e1 : ev n r (p + 1) y with
          | none => rw [e1] at e; cases e
          | some v => rw [e1] at e; rw [ih1 _ _ _ _ e1]; exact e
      | n2 a y z =>
        cases a with
        | name i => cases e
        | told i => cases e
        | knd t k => cases e
        | wd t =>
          cases t with
          | both =>
            rw [ev_both] at e ⊢
            cases e1 : ev n r (p + 1) y with
            | none => rw [e1] at e; cases e
            | some v =>
              rw [e1] at e; rw [ih1 _ _ _ _ e1]
              simp only at e ⊢
              cases e2 : ev n r (p + 1 + y.size) z with
              | none => rw [e2] at e; cases e
              | some v2 => rw [e2] at e; rw [ih1 _ _ _ _ e2]; exact e
          | lt =>
            rw [ev_lt] at e ⊢
            cases e1 : ev n r (p + 1) y with
            | none => rw [e1] at e; cases e
            | some v =>
              rw [e1] at e; rw [ih1 _ _ _ _ e1]
              simp only at e ⊢
              cases e2 : ev n (v.1 :: r) (p + 1 + y.size) z with
              | none => rw [e2] at e; cases e
              | some v2 => rw [e2] at e; rw [ih1 _ _ _ _ e2]; exact e
          | call =>
            cases n with
            | zero => cases e
            | succ m =>
              rw [ev_call] at e ⊢
              cases e1 : ev (m + 1) r (p + 1) y with
              | none => rw [e1] at e; cases e
              | some v =>
                obtain ⟨w, c1⟩ := v
                rw [e1] at e; rw [ih1 _ _ _ _ e1]
                cases w with
                | made q k b r1 =>
                  simp only at e ⊢
                  cases e2 : ev (m + 1) r (p + 1 + y.size) z with
                  | none => rw [e2] at e; cases e
                  | some v2 =>
                    obtain ⟨a, c2⟩ := v2
                    rw [e2] at e; rw [ih1 _ _ _ _ e2]
                    simp only at e ⊢
                    cases e3 : ev m (a :: r1) (q + 1) b with
                    | none => rw [e3] at e; cases e
                    | some v3 => rw [e3] at e; rw [ih m (by omega) _ _ _ _ e3]; exact e
                | int _ => cases e
                | both _ _ => cases e
                | left _ => cases e
                | right _ => cases e
          | first => cases e
          | second => cases e
          | which => cases e
          | next => cases e
      | n3 a y z u =>
        cases a with
        | name i => cases e
        | told i => cases e
        | knd t k =>
          cases t with
          | turns =>
            rw [ev_turns] at e ⊢
            cases e1 : ev n r (p + 1) y with
            | none => rw [e1] at e; cases e
            | some v =>
              obtain ⟨w, c1⟩ := v
              rw [e1] at e; rw [ih1 _ _ _ _ e1]
              cases w with
              | int j =>
                simp only at e ⊢
                cases e2 : ev n r (p + 1 + y.size + z.size) u with
                | none => rw [e2] at e; cases e
                | some v2 =>
                  obtain ⟨a, c2⟩ := v2
                  rw [e2] at e; rw [ih1 _ _ _ _ e2]
                  simp only at e ⊢
                  cases e3 : iter (fun w => ev n (w :: r) (p + 1 + y.size) z) p j a with
                  | none => rw [e3] at e; cases e
                  | some v3 => rw [e3] at e; rw [iter_mono (fun a x h => ih1 _ _ _ _ h) p j a _ e3]; exact e
              | made _ _ _ _ => cases e
              | both _ _ => cases e
              | left _ => cases e
              | right _ => cases e
          | fn => cases e
          | left => cases e
          | right => cases e
        | wd t =>
          cases t with
          | which =>
            rw [ev_which] at e ⊢
            cases e1 : ev n r (p + 1) y with
            | none => rw [e1] at e; cases e
            | some v =>
              obtain ⟨w, c1⟩ := v
              rw [e1] at e; rw [ih1 _ _ _ _ e1]
              cases w with
              | left a =>
                simp only at e ⊢
                cases e2 : ev n (a :: r) (p + 1 + y.size) z with
                | none => rw [e2] at e; cases e
                | some v2 => rw [e2] at e; rw [ih1 _ _ _ _ e2]; exact e
              | right a =>
                simp only at e ⊢
                cases e2 : ev n (a :: r) (p + 1 + y.size + z.size) u with
                | none => rw [e2] at e; cases e
                | some v2 => rw [e2] at e; rw [ih1 _ _ _ _ e2]; exact e
              | made _ _ _ _ => cases e
              | both _ _ => cases e
              | int _ => cases e
          | both => cases e
          | lt => cases e
          | call => cases e
          | first => cases e
          | second => cases e
          | next => cases e
theorem ev_le {n m : Nat} (h : n ≤ m) {r : List W} {p : Nat} {t : Tm} {x : W × List Nat} (e : ev n r p t = some x) : ev m r p t = some x := by
  induction h with
  | refl => exact e
  | step _ ih => exact ev_succ _ _ _ _ _ ih
end K42

/-! KP4 -/
/-! the plain law: counts stay small -/
namespace K42
/-- no count above the most that is told -/
inductive Sm : W → Prop where
  | int {n : Nat} : n ≤ 1000000 → Sm (.int n)
  | both {a b : W} : Sm a → Sm b → Sm (.both a b)
  | left {a : W} : Sm a → Sm (.left a)
  | right {a : W} : Sm a → Sm (.right a)
  | made {p : Nat} {k : Kd} {b : Tm} {r : List W} : b.ok → (∀ (i : Nat) (x : W), r[i]? = some x → Sm x) → Sm (.made p k b r)
def SmR (r : List W) : Prop := ∀ (i : Nat) (x : W), r[i]? = some x → Sm x
theorem SmR.nil : SmR [] := fun i x h => by simp at h
theorem SmR.cons {w : W} {r : List W} (h : Sm w) (g : SmR r) : SmR (w :: r) := fun i x e => by
  cases i with
  | zero =>
    have e2 : w = x := by simpa using e
    exact e2 ▸ h
  | succ i => exact g i x (by simpa using e)
theorem un1_sm {a : Nd} {w v : W} (h : Sm w) (e : un1 a w = some v) : Sm v := by
  unfold un1 at e
  split at e
  · cases e
    exact .int (Nat.min_le_right _ _)
  · cases e
    cases h with
    | both h1 h2 => exact h1
  · cases e
    cases h with
    | both h1 h2 => exact h2
  · cases e
    exact .left h
  · cases e
    exact .right h
  · cases e
theorem iter_sm {f : W → Option (W × List Nat)} {p : Nat} (h : ∀ w x cs, Sm w → f w = some (x, cs) → Sm x) : ∀ (k : Nat) (w x : W) (cs : List Nat), Sm w → iter f p k w = some (x, cs) → Sm x
  | 0, w, x, cs, g, e => by cases e; exact g
  | k + 1, w, x, cs, g, e => by
    unfold iter at e
    split at e
    · rename_i w1 c1 e1
      split at e
      · rename_i w2 c2 e2
        cases e
        exact iter_sm h k _ _ _ (h _ _ _ g e1) e2
      · cases e
    · cases e
theorem ev_sm : ∀ (n : Nat) (r : List W) (p : Nat) (t : Tm) (x : W) (cs : List Nat), t.ok → SmR r → ev n r p t = some (x, cs) → Sm x := by
  intro n
  induction n using Nat.strongRecOn with
  | _ n ih =>
    intro r p t x cs ho hr e
    cases n with
    | zero => cases e
    | succ n =>
      have ih1 := ih n (Nat.lt_succ_self n)
      cases t with
      | n0 a =>
        cases a with
        | name i =>
          have e2 : (match r[i]? with | some w => some (w, ([] : List Nat)) | none => none) = some (x, cs) := e
          cases e3 : r[i]? with
          | none => rw [e3] at e2; cases e2
          | some w => rw [e3] at e2; cases e2; exact hr i _ e3
        | told i => cases e; exact .int ho.2
        | knd _ _ => cases e
        | wd _ => cases e
      | n1 a y =>
        by_cases hf : ∃ k, a = .knd .fn k
        · obtain ⟨k, rfl⟩ := hf
          cases e
          exact .made ho.2.2 hr
        · rw [ev_n1 (fun k z => hf ⟨k, z⟩)] at e
          split at e
          · rename_i w c e1
            split at e
            · rename_i v e2
              cases e
              exact un1_sm (ih1 _ _ _ _ _ ho.2.2 hr e1) e2
            · cases e
          · cases e
      | n2 a y z =>
        cases a with
        | name i => cases e
        | told i => cases e
        | knd t k => cases e
        | wd t =>
          cases t with
          | both =>
            rw [ev_both] at e
            split at e
            · rename_i a c1 e1
              split at e
              · rename_i b c2 e2
                cases e
                exact .both (ih1 _ _ _ _ _ ho.2.2.1 hr e1) (ih1 _ _ _ _ _ ho.2.2.2 hr e2)
              · cases e
            · cases e
          | lt =>
            rw [ev_lt] at e
            split at e
            · rename_i a c1 e1
              split at e
              · rename_i b c2 e2
                cases e
                exact ih1 _ _ _ _ _ ho.2.2.2 (.cons (ih1 _ _ _ _ _ ho.2.2.1 hr e1) hr) e2
              · cases e
            · cases e
          | call =>
            cases n with
            | zero => cases e
            | succ m =>
              rw [ev_call] at e
              split at e
              · rename_i q k b r1 c1 e1
                split at e
                · rename_i a c2 e2
                  split at e
                  · rename_i w c3 e3
                    cases e
                    have h1 := ih1 _ _ _ _ _ ho.2.2.1 hr e1
                    have h2 := ih1 _ _ _ _ _ ho.2.2.2 hr e2
                    cases h1 with
                    | made hb hr1 => exact ih m (by omega) _ _ _ _ _ hb (.cons h2 hr1) e3
                  · cases e
                · cases e
              · cases e
          | first => cases e
          | second => cases e
          | which => cases e
          | next => cases e
      | n3 a y z u =>
        cases a with
        | name i => cases e
        | told i => cases e
        | knd t k =>
          cases t with
          | fn => cases e
          | left => cases e
          | right => cases e
          | turns =>
            rw [ev_turns] at e
            split at e
            · rename_i k c1 e1
              split at e
              · rename_i a c2 e2
                split at e
                · rename_i b c3 e3
                  cases e
                  exact iter_sm (fun w x cs g h => ih1 _ _ _ _ _ ho.2.2.2.1 (.cons g hr) h) _ _ _ _ (ih1 _ _ _ _ _ ho.2.2.2.2 hr e2) e3
                · cases e
              · cases e
            · cases e
        | wd t =>
          cases t with
          | which =>
            rw [ev_which] at e
            split at e
            · rename_i a c1 e1
              split at e
              · rename_i b c2 e2
                cases e
                have h1 := ih1 _ _ _ _ _ ho.2.2.1 hr e1
                cases h1 with
                | left h1 => exact ih1 _ _ _ _ _ ho.2.2.2.1 (.cons h1 hr) e2
              · cases e
            · rename_i a c1 e1
              split at e
              · rename_i b c2 e2
                cases e
                have h1 := ih1 _ _ _ _ _ ho.2.2.1 hr e1
                cases h1 with
                | right h1 => exact ih1 _ _ _ _ _ ho.2.2.2.2 (.cons h1 hr) e2
              · cases e
            · cases e
          | first => cases e
          | second => cases e
          | call => cases e
          | both => cases e
          | lt => cases e
          | next => cases e
end K42

/-! KG2 -/
/-! the plain law: terms as the law draws them; what is good of worths; short terms -/
namespace K42
def kTwo : Kd := .two .pair .cnt .cnt
def kStp : Kd := .two .fn .cnt .cnt
def KS : List Kd := [.cnt, kTwo, .two .sum .cnt kTwo, kStp, .two .fn kTwo .cnt, .two .pair kStp .cnt, .two .sum kStp .cnt, .two .fn .cnt kTwo]
/-- a short term of a kind -/
inductive Lf : List Kd → Kd → Tm → Prop where
  | name {G : List Kd} {k : Kd} {i : Nat} : G[i]? = some k → Lf G k (.n0 (.name i))
  | cnt {G : List Kd} {n : Nat} : n < 4 → Lf G .cnt (.n0 (.told n))
  | pair {G : List Kd} {A B : Kd} {x y : Tm} : Lf G A x → Lf G B y → Lf G (.two .pair A B) (.n2 (.wd .both) x y)
  | left {G : List Kd} {A B : Kd} {x : Tm} : Lf G A x → Lf G (.two .sum A B) (.n1 (.knd .left B) x)
  | right {G : List Kd} {A B : Kd} {x : Tm} : Lf G B x → Lf G (.two .sum A B) (.n1 (.knd .right A) x)
  | fn {G : List Kd} {A B : Kd} {x : Tm} : Lf (A :: G) B x → Lf G (.two .fn A B) (.n1 (.knd .fn A) x)
/-- a drawn term of a kind -/
inductive Gn : Nat → List Kd → Kd → Tm → Prop where
  | leaf {d : Nat} {G : List Kd} {k : Kd} {t : Tm} : Lf G k t → Gn d G k t
  | call {d : Nat} {G : List Kd} {k o : Kd} {b a : Tm} : o ∈ KS → Gn d (o :: G) k b → Gn d G o a → Gn (d + 1) G k (.n2 (.wd .call) (.n1 (.knd .fn o) b) a)
  | lt {d : Nat} {G : List Kd} {k o : Kd} {x y : Tm} : o ∈ KS → Gn d G o x → Gn d (o :: G) k y → Gn (d + 1) G k (.n2 (.wd .lt) x y)
  | first {d : Nat} {G : List Kd} {k o : Kd} {x y : Tm} : o ∈ KS → Gn d G k x → Lf G o y → Gn (d + 1) G k (.n1 (.wd .first) (.n2 (.wd .both) x y))
  | second {d : Nat} {G : List Kd} {k o : Kd} {x y : Tm} : o ∈ KS → Lf G o x → Gn d G k y → Gn (d + 1) G k (.n1 (.wd .second) (.n2 (.wd .both) x y))
  | which {d : Nat} {G : List Kd} {k o : Kd} {s x y : Tm} : o ∈ KS → Gn d G (.two .sum o .cnt) s → Gn d (o :: G) k x → Lf (.cnt :: G) k y → Gn (d + 1) G k (.n3 (.wd .which) s x y)
  | turns {d : Nat} {G : List Kd} {k : Kd} {n : Nat} {x y : Tm} : n < 4 → ((∃ A B, k = .two .fn A B) → n < 2) → Gn d (k :: G) k x → Gn d G k y → Gn (d + 1) G k (.n3 (.knd .turns k) (.n0 (.told n)) x y)
  | app {d : Nat} {G : List Kd} {k o : Kd} {f a : Tm} : o ∈ KS → Gn d G (.two .fn o k) f → Lf G o a → Gn (d + 1) G k (.n2 (.wd .call) f a)
  | nam {d : Nat} {G : List Kd} {k A : Kd} {i : Nat} {a : Tm} : G[i]? = some (.two .fn A k) → Gn d G A a → Gn (d + 1) G k (.n2 (.wd .call) (.n0 (.name i)) a)
  | gcnt {d : Nat} {G : List Kd} {x : Tm} : Gn d G .cnt x → Gn (d + 1) G .cnt (.n1 (.wd .next) x)
  | gpair {d : Nat} {G : List Kd} {A B : Kd} {x y : Tm} : Gn d G A x → Lf G B y → Gn (d + 1) G (.two .pair A B) (.n2 (.wd .both) x y)
  | gsum {d : Nat} {G : List Kd} {A B : Kd} {x : Tm} : Gn d G B x → Gn (d + 1) G (.two .sum A B) (.n1 (.knd .right A) x)
  | gfn {d : Nat} {G : List Kd} {A B : Kd} {x : Tm} : Gn d (A :: G) B x → Gn (d + 1) G (.two .fn A B) (.n1 (.knd .fn A) x)
/-- kinds that are met -/
def Fk : Kd → Prop
  | .cnt => True
  | .two .pair A B => Fk A ∧ Fk B
  | .two .sum A B => A ∈ KS ∧ Fk B
  | .two .fn A B => A ∈ KS ∧ Fk B
/-- nothing that is called can be got from it -/
def triv : Kd → Bool
  | .cnt => true
  | .two .pair _ _ => true
  | .two .sum A _ => triv A
  | .two .fn _ _ => false
/-- a worth of a kind -/
inductive Sh : Kd → W → Prop where
  | int {n : Nat} : Sh .cnt (.int n)
  | both {A B : Kd} {a b : W} : Sh A a → Sh B b → Sh (.two .pair A B) (.both a b)
  | left {A B : Kd} {a : W} : Sh A a → Sh (.two .sum A B) (.left a)
  | right {A B : Kd} {b : W} : Sh B b → Sh (.two .sum A B) (.right b)
  | made {A B k : Kd} {q : Nat} {b : Tm} {r : List W} : Sh (.two .fn A B) (.made q k b r)
/-- f: how many calls a call of it makes at most, by what its argument may; g: how deep -/
def Good : Kd → (Nat → Nat) → (Nat → Nat) → W → Prop
  | .cnt, _, _, w => Sh .cnt w
  | .two .pair A B, _, _, w => Sh (.two .pair A B) w
  | .two .sum A B, f, g, w => (∃ a, w = .left a ∧ Good A f g a) ∨ (∃ b, w = .right b ∧ Sh B b)
  | .two .fn A B, f, g, w => ∃ q k b r, w = .made q k b r ∧ ∀ (a : W) (m l : Nat), Good A (fun _ => m) (fun _ => l) a → ∃ n x cs, ev n (a :: r) (q + 1) b = some (x, cs) ∧ n ≤ g l ∧ cs.length + 1 ≤ f m ∧ Good B (fun x => f (max m x)) (fun x => g (max l x)) x
theorem Good.sh : ∀ {k : Kd} {f g : Nat → Nat} {w : W}, Good k f g w → Sh k w
  | .cnt, _, _, _, h => h
  | .two .pair _ _, _, _, _, h => h
  | .two .sum A B, _, _, _, h => by
    rcases h with ⟨a, rfl, h⟩ | ⟨b, rfl, h⟩
    · exact .left h.sh
    · exact .right h
  | .two .fn A B, _, _, _, h => by
    obtain ⟨q, k, b, r, rfl, _⟩ := h
    exact .made
theorem Good.mono : ∀ {k : Kd} {f g f1 g1 : Nat → Nat} {w : W}, (∀ x, f x ≤ f1 x) → (∀ x, g x ≤ g1 x) → Good k f g w → Good k f1 g1 w
  | .cnt, _, _, _, _, _, _, _, h => h
  | .two .pair _ _, _, _, _, _, _, _, _, h => h
  | .two .sum A B, _, _, _, _, _, e1, e2, h => by
    rcases h with ⟨a, rfl, h⟩ | ⟨b, rfl, h⟩
    · exact .inl ⟨a, rfl, h.mono e1 e2⟩
    · exact .inr ⟨b, rfl, h⟩
  | .two .fn A B, _, _, _, _, _, e1, e2, h => by
    obtain ⟨q, k, b, r, rfl, h⟩ := h
    refine ⟨q, k, b, r, rfl, fun a m l ha => ?_⟩
    obtain ⟨n, x, cs, h1, h2, h3, h4⟩ := h a m l ha
    exact ⟨n, x, cs, h1, Nat.le_trans h2 (e2 l), Nat.le_trans h3 (e1 m), h4.mono (fun x => e1 _) (fun x => e2 _)⟩
theorem Good.tr : ∀ {k : Kd} {f g : Nat → Nat} {w : W}, triv k = true → Sh k w → Good k f g w
  | .cnt, _, _, _, _, h => h
  | .two .pair _ _, _, _, _, _, h => h
  | .two .sum A B, _, _, _, t, h => by
    cases h with
    | left h => exact .inl ⟨_, rfl, Good.tr (k := A) t h⟩
    | right h => exact .inr ⟨_, rfl, h⟩
  | .two .fn A B, _, _, _, t, h => by cases t
/-- a function from data to data -/
theorem Good.fnc {A B : Kd} {f g : Nat → Nat} {w : W} (tA : triv A = true) (tB : triv B = true) (h : Good (.two .fn A B) f g w) : Good (.two .fn A B) (fun _ => f 0) (fun _ => g 0) w := by
  obtain ⟨q, k, b, r, rfl, h⟩ := h
  refine ⟨q, k, b, r, rfl, fun a m l ha => ?_⟩
  obtain ⟨n, x, cs, h1, h2, h3, h4⟩ := h a 0 0 (.tr tA ha.sh)
  exact ⟨n, x, cs, h1, h2, h3, .tr tB h4.sh⟩
theorem Good.ks {o : Kd} (ho : o ∈ KS) {f g : Nat → Nat} {w : W} (h : Good o f g w) : Good o (fun _ => f 0) (fun _ => g 0) w := by
  simp only [KS, List.mem_cons, List.not_mem_nil, or_false] at ho
  rcases ho with rfl | rfl | rfl | rfl | rfl | rfl | rfl | rfl
  · exact h
  · exact h
  · exact .tr rfl h.sh
  · exact Good.fnc rfl rfl h
  · exact Good.fnc rfl rfl h
  · exact h
  · rcases h with ⟨a, rfl, h⟩ | ⟨b, rfl, h⟩
    · exact .inl ⟨a, rfl, Good.fnc rfl rfl h⟩
    · exact .inr ⟨b, rfl, h⟩
  · exact Good.fnc rfl rfl h
def isFn : Kd → Bool
  | .two .fn _ _ => true
  | _ => false
/-- but of functions, what is got from it does not look at an argument -/
theorem Good.nf : ∀ {k : Kd} (hk : Fk k) (hn : isFn k = false) {f g : Nat → Nat} {w : W} (h : Good k f g w), Good k (fun _ => f 0) (fun _ => g 0) w
  | .cnt, _, _, _, _, _, h => h
  | .two .pair _ _, _, _, _, _, _, h => h
  | .two .sum A B, hk, _, _, _, _, h => by
    rcases h with ⟨a, rfl, h⟩ | ⟨b, rfl, h⟩
    · exact .inl ⟨a, rfl, h.ks hk.1⟩
    · exact .inr ⟨b, rfl, h⟩
  | .two .fn A B, _, hn, _, _, _, _ => by cases hn
theorem KS.fk {o : Kd} (ho : o ∈ KS) : Fk o := by
  simp only [KS, List.mem_cons, List.not_mem_nil, or_false] at ho
  rcases ho with rfl | rfl | rfl | rfl | rfl | rfl | rfl | rfl <;> simp [Fk, kTwo, kStp, KS]
theorem KS.dp {o : Kd} (ho : o ∈ KS) : o.dp ≤ 3 ∧ o.sz ≤ 5 := by
  simp only [KS, List.mem_cons, List.not_mem_nil, or_false] at ho
  rcases ho with rfl | rfl | rfl | rfl | rfl | rfl | rfl | rfl <;> simp [Kd.dp, Kd.sz, kTwo, kStp]
/-- a row of good worths -/
def EnvG (G : List Kd) (r : List W) (f g : Nat → Nat) : Prop := ∀ (i : Nat) (k : Kd), G[i]? = some k → ∃ w, r[i]? = some w ∧ Good k f g w ∧ Fk k
theorem EnvG.mono {G : List Kd} {r : List W} {f g f1 g1 : Nat → Nat} (h : EnvG G r f g) (e1 : ∀ x, f x ≤ f1 x) (e2 : ∀ x, g x ≤ g1 x) : EnvG G r f1 g1 := fun i k hk => by
  obtain ⟨w, h1, h2, h3⟩ := h i k hk
  exact ⟨w, h1, h2.mono e1 e2, h3⟩
theorem EnvG.cons {G : List Kd} {r : List W} {f g : Nat → Nat} {k : Kd} {w : W} (h : EnvG G r f g) (hw : Good k f g w) (hk : Fk k) : EnvG (k :: G) (w :: r) f g := fun i l hl => by
  cases i with
  | zero =>
    have e : k = l := by simpa using hl
    subst e
    exact ⟨w, rfl, hw, hk⟩
  | succ i => exact h i l (by simpa using hl)
/-- a short term comes to a good worth, and begins no call -/
theorem lf_ev {G : List Kd} {k : Kd} {t : Tm} (h : Lf G k t) : ∀ {r : List W} {p L : Nat} {f g : Nat → Nat}, EnvG G r f g → Fk k → k.dp ≤ L → (∀ x y, x ≤ y → f x ≤ f y) → (∀ x y, x ≤ y → g x ≤ g y) → (∀ x, x ≤ f x ∧ 1 ≤ f x) → (∀ x, x ≤ g x ∧ L ≤ g x) →
    ∃ w, ev L r p t = some (w, []) ∧ Good k f g w := by
  induction h with
  | @name G k i hi =>
    intro r p L f g hE hk hd _ _ _ _
    obtain ⟨w, h1, h2, _⟩ := hE i k hi
    have := k.dp_pos
    obtain ⟨L, rfl⟩ : ∃ m, L = m + 1 := ⟨L - 1, by omega⟩
    exact ⟨w, by show (match r[i]? with | some w => some (w, []) | none => none) = _; rw [h1], h2⟩
  | @cnt G n _ =>
    intro r p L f g hE hk hd _ _ _ _
    have : (1 : Nat) ≤ L := hd
    obtain ⟨L, rfl⟩ : ∃ m, L = m + 1 := ⟨L - 1, by omega⟩
    exact ⟨.int n, rfl, .int⟩
  | @pair G A B x y _ _ i1 i2 =>
    intro r p L f g hE hk hd m1 m2 hf hg
    have hd2 : 1 + max A.dp B.dp ≤ L := hd
    obtain ⟨L, rfl⟩ : ∃ m, L = m + 1 := ⟨L - 1, by omega⟩
    obtain ⟨u, h1, g1⟩ := i1 (p := p + 1) (L := L) hE hk.1 (by omega) m1 m2 hf (fun x => ⟨(hg x).1, by have := (hg x).2; omega⟩)
    obtain ⟨v, h2, g2⟩ := i2 (p := p + 1 + x.size) (L := L) hE hk.2 (by omega) m1 m2 hf (fun x => ⟨(hg x).1, by have := (hg x).2; omega⟩)
    exact ⟨.both u v, by rw [ev_both, h1]; simp only; rw [h2]; rfl, .both g1.sh g2.sh⟩
  | @left G A B x _ i1 =>
    intro r p L f g hE hk hd m1 m2 hf hg
    have hd2 : 1 + max A.dp B.dp ≤ L := hd
    obtain ⟨L, rfl⟩ : ∃ m, L = m + 1 := ⟨L - 1, by omega⟩
    obtain ⟨u, h1, g1⟩ := i1 (p := p + 1) (L := L) hE (KS.fk hk.1) (by omega) m1 m2 hf (fun x => ⟨(hg x).1, by have := (hg x).2; omega⟩)
    exact ⟨.left u, by rw [ev_n1 (fun k z => by cases z), h1]; rfl, .inl ⟨u, rfl, g1⟩⟩
  | @right G A B x _ i1 =>
    intro r p L f g hE hk hd m1 m2 hf hg
    have hd2 : 1 + max A.dp B.dp ≤ L := hd
    obtain ⟨L, rfl⟩ : ∃ m, L = m + 1 := ⟨L - 1, by omega⟩
    obtain ⟨u, h1, g1⟩ := i1 (p := p + 1) (L := L) hE hk.2 (by omega) m1 m2 hf (fun x => ⟨(hg x).1, by have := (hg x).2; omega⟩)
    exact ⟨.right u, by rw [ev_n1 (fun k z => by cases z), h1]; rfl, .inr ⟨u, rfl, g1.sh⟩⟩
  | @fn G A B x _ i1 =>
    intro r p L f g hE hk hd m1 m2 hf hg
    have hd2 : 1 + max A.dp B.dp ≤ L := hd
    obtain ⟨L, rfl⟩ : ∃ m, L = m + 1 := ⟨L - 1, by omega⟩
    refine ⟨.made p A x r, rfl, p, A, x, r, rfl, fun a m l ha => ?_⟩
    have hE2 : EnvG (A :: G) (a :: r) (fun x => f (max m x)) (fun x => g (max l x)) :=
      (hE.mono (fun x => m1 _ _ (Nat.le_max_right ..)) (fun x => m2 _ _ (Nat.le_max_right ..))).cons (ha.mono (fun x => Nat.le_trans (Nat.le_max_left ..) (hf _).1) (fun x => Nat.le_trans (Nat.le_max_left ..) (hg _).1)) (KS.fk hk.1)
    obtain ⟨u, h1, g1⟩ := i1 (p := p + 1) (L := L) hE2 hk.2 (by omega) (fun x y h => m1 _ _ (by omega)) (fun x y h => m2 _ _ (by omega)) (fun x => ⟨Nat.le_trans (Nat.le_max_right ..) (hf _).1, (hf _).2⟩) (fun x => ⟨Nat.le_trans (Nat.le_max_right ..) (hg _).1, by have := (hg (max l x)).2; omega⟩)
    exact ⟨L, u, [], h1, by have := (hg l).2; omega, (hf m).2, g1⟩
end K42

/-! KG3 -/
/-! the plain law: how many calls, how deep, level by level -/
namespace K42
/-- bounds of a level: calls (times p), worths' calls; depth (plus u), worths' depth -/
structure Tb where
  K : Nat
  MS : Nat
  A : Nat
  C : Nat
  D : Nat
  US : Nat
  U : Nat
  V : Nat
def Rv (t : Tb) (k : Kd) (p u : Nat) (w : W) : Prop := if isFn k = true then Good k (fun x => t.C * max (t.A * p) x) (fun x => t.V + max (t.U + u) x) w else Good k (fun _ => t.MS * p) (fun _ => t.US + u) w
theorem Rv.sh {t : Tb} {k : Kd} {p u : Nat} {w : W} (h : Rv t k p u w) : Sh k w := by
  unfold Rv at h
  split at h <;> exact h.sh
theorem Rv.of {t : Tb} {k : Kd} {p u : Nat} {w : W} {f g : Nat → Nat} (hk : Fk k) (h : Good k f g w) (h1 : f 0 ≤ t.MS * p) (h2 : g 0 ≤ t.US + u) (h3 : ∀ x, f x ≤ t.C * max (t.A * p) x) (h4 : ∀ x, g x ≤ t.V + max (t.U + u) x) : Rv t k p u w := by
  unfold Rv
  split
  · exact h.mono h3 h4
  · rename_i hn
    exact (h.nf hk (by simpa using hn)).mono (fun _ => h1) fun _ => h2
theorem Rv.up {t s : Tb} {k : Kd} {p u R S : Nat} {w : W} (h : Rv t k (R * p) (S + u) w) (h1 : t.MS * R ≤ s.MS) (h2 : t.A * R ≤ s.A) (h3 : t.C ≤ s.C) (h4 : t.US + S ≤ s.US) (h5 : t.U + S ≤ s.U) (h6 : t.V ≤ s.V) : Rv s k p u w := by
  unfold Rv at h ⊢
  split
  · rename_i hn
    rw [if_pos hn] at h
    refine h.mono (fun x => Nat.mul_le_mul h3 ?_) fun x => by omega
    have : t.A * (R * p) ≤ s.A * p := by rw [← Nat.mul_assoc]; exact Nat.mul_le_mul_right p h2
    omega
  · rename_i hn
    rw [if_neg hn] at h
    refine h.mono (fun x => ?_) fun x => by omega
    rw [← Nat.mul_assoc]
    exact Nat.mul_le_mul_right p h1
/-- what is bound, as an argument -/
theorem Rv.arg {t : Tb} {o : Kd} {c v p u R S : Nat} {w : W} (ho : o ∈ KS) (h : Rv t o p u w) (h1 : t.MS ≤ c * R) (h2 : t.C * t.A ≤ c * R) (h3 : t.US ≤ v + S) (h4 : t.V + t.U ≤ v + S) : Good o (fun _ => c * (R * p)) (fun _ => v + (S + u)) w := by
  unfold Rv at h
  split at h
  · refine (h.ks ho).mono (fun _ => ?_) fun _ => by omega
    show t.C * max (t.A * p) 0 ≤ _
    rw [Nat.max_zero, ← Nat.mul_assoc, ← Nat.mul_assoc]
    exact Nat.mul_le_mul_right p h2
  · refine h.mono (fun _ => ?_) fun _ => by omega
    rw [← Nat.mul_assoc]
    exact Nat.mul_le_mul_right p h1
def Lv (fn : Bool) (d c v : Nat) (t : Tb) : Prop := ∀ (G : List Kd) (k : Kd) (tm : Tm), Gn d G k tm → ∀ (p u : Nat) (r : List W) (pos : Nat), 1 ≤ p → 10 ≤ u → EnvG G r (fun x => c * max p x) (fun x => v + max u x) → Fk k → k.dp + d ≤ 10 → (isFn k = true → fn = true) →
  ∃ w cs, ev (t.D + u) r pos tm = some (w, cs) ∧ cs.length ≤ t.K * p ∧ Rv t k p u w
theorem EnvG.up {G : List Kd} {r : List W} {c v p u c1 v1 p1 u1 : Nat} (h : EnvG G r (fun x => c * max p x) (fun x => v + max u x)) (h1 : c ≤ c1) (h2 : v ≤ v1) (h3 : p ≤ p1) (h4 : u ≤ u1) : EnvG G r (fun x => c1 * max p1 x) (fun x => v1 + max u1 x) :=
  h.mono (fun x => Nat.mul_le_mul h1 (by omega)) fun x => by omega
theorem EnvG.arg {G : List Kd} {r : List W} {o : Kd} {w : W} {c v p u R S : Nat} (h : EnvG G r (fun x => c * max p x) (fun x => v + max u x)) (hR : 1 ≤ R) (hk : Fk o) (hw : Good o (fun _ => c * (R * p)) (fun _ => v + (S + u)) w) : EnvG (o :: G) (w :: r) (fun x => c * max (R * p) x) (fun x => v + max (S + u) x) :=
  (h.up (Nat.le_refl c) (Nat.le_refl v) (Nat.le_mul_of_pos_left p hR) (by omega : u ≤ S + u)).cons (hw.mono (fun x => Nat.mul_le_mul (Nat.le_refl c) (Nat.le_max_left ..)) fun x => by omega) hk
/-- a few turns -/
theorem it_few {f : W → Option (W × List Nat)} {p M : Nat} (Pv : Nat → W → Prop) (N : Nat) (h : ∀ i a, i < N → Pv i a → ∃ x cs, f a = some (x, cs) ∧ cs.length ≤ M ∧ Pv (i + 1) x) :
    ∀ (k j : Nat) (a : W), j + k ≤ N → Pv j a → ∃ x cs, iter f p k a = some (x, cs) ∧ cs.length ≤ k * (M + 1) ∧ Pv (j + k) x
  | 0, j, a, _, ha => ⟨a, [], rfl, Nat.zero_le _, ha⟩
  | k + 1, j, a, hj, ha => by
    obtain ⟨x, cs, e1, l1, h1⟩ := h j a (by omega) ha
    obtain ⟨y, ds, e2, l2, h2⟩ := it_few Pv N h k (j + 1) x (by omega) h1
    refine ⟨y, p :: (cs ++ ds), by unfold iter; rw [e1]; simp only; rw [e2], ?_, by rw [show j + (k + 1) = j + 1 + k by omega]; exact h2⟩
    rw [List.length_cons, List.length_append, Nat.succ_mul]
    omega
theorem lf_lv {G : List Kd} {k : Kd} {t : Tm} (h : Lf G k t) {r : List W} {pos c v p u : Nat} (hc : 1 ≤ c) (hp : 1 ≤ p) (hu : 10 ≤ u) (hE : EnvG G r (fun x => c * max p x) (fun x => v + max u x)) (hk : Fk k) (hd : k.dp ≤ 10) {N : Nat} (hN : 10 ≤ N) :
    ∃ w, ev N r pos t = some (w, []) ∧ Good k (fun x => c * max p x) (fun x => v + max u x) w := by
  obtain ⟨w, h1, h2⟩ := lf_ev h (p := pos) (L := 10) hE hk hd (fun x y h => Nat.mul_le_mul (Nat.le_refl c) (by omega)) (fun x y h => by omega) (fun x => by
    have h1 : 1 * max p x ≤ c * max p x := Nat.mul_le_mul_right _ hc
    omega) (fun x => by omega)
  exact ⟨w, ev_le hN h1, h2⟩
theorem lv_zero {fn : Bool} {c v : Nat} (hc : 1 ≤ c) : Lv fn 0 c v ⟨0, c, 1, c, 0, v, 0, v⟩ := by
  intro G k tm h p u r pos hp hu hE hk hd _
  cases h with
  | leaf h =>
    obtain ⟨w, h1, h2⟩ := lf_lv h (pos := pos) hc hp hu hE hk (by omega) (N := 0 + u) (by omega)
    refine ⟨w, [], h1, Nat.zero_le _, .of hk h2 ?_ ?_ (fun x => ?_) fun x => ?_⟩
    · show c * max p 0 ≤ c * p
      rw [Nat.max_zero]; exact Nat.le_refl _
    · show v + max u 0 ≤ v + u
      omega
    · show c * max p x ≤ c * max (1 * p) x
      rw [Nat.one_mul]; exact Nat.le_refl _
    · show v + max u x ≤ v + max (0 + u) x
      omega
end K42

/-! KG4 -/
/-! the plain law: from one level to the next -/
namespace K42
theorem Rv.upN {t s : Tb} {k : Kd} {p u p1 u1 : Nat} {w : W} (hn : isFn k = false) (h : Rv t k p1 u1 w) (h1 : t.MS * p1 ≤ s.MS * p) (h2 : t.US + u1 ≤ s.US + u) : Rv s k p u w := by
  unfold Rv at h ⊢
  rw [if_neg (by rw [hn]; exact Bool.false_ne_true)] at h ⊢
  exact h.mono (fun _ => h1) fun _ => h2
theorem Rv.upF {t s : Tb} {k : Kd} {p u p1 u1 : Nat} {w : W} (hn : isFn k = true) (h : Rv t k p1 u1 w) (h1 : t.A * p1 ≤ s.A * p) (h2 : t.C ≤ s.C) (h3 : t.U + u1 ≤ s.U + u) (h4 : t.V ≤ s.V) : Rv s k p u w := by
  unfold Rv at h ⊢
  rw [if_pos hn] at h ⊢
  exact h.mono (fun x => Nat.mul_le_mul h2 (by omega)) fun x => by omega
theorem Rv.goodF {t : Tb} {k : Kd} {p u : Nat} {w : W} (hn : isFn k = true) (h : Rv t k p u w) : Good k (fun x => t.C * max (t.A * p) x) (fun x => t.V + max (t.U + u) x) w := by
  unfold Rv at h
  rw [if_pos hn] at h
  exact h
theorem Rv.goodN {t : Tb} {k : Kd} {p u : Nat} {w : W} (hn : isFn k = false) (h : Rv t k p u w) : Good k (fun _ => t.MS * p) (fun _ => t.US + u) w := by
  unfold Rv at h
  rw [if_neg (by rw [hn]; exact Bool.false_ne_true)] at h
  exact h
theorem kk1 {K R S p : Nat} (h : K + 1 + K * R ≤ S) (hp : 1 ≤ p) : K * p + 1 + K * (R * p) ≤ S * p := by
  have := Nat.mul_le_mul_right p h
  rw [Nat.add_mul, Nat.add_mul, Nat.mul_assoc, Nat.one_mul] at this
  omega
theorem kk2 {K T S p : Nat} (h : K + T ≤ S) : K * p + T * p ≤ S * p := by
  rw [← Nat.add_mul]
  exact Nat.mul_le_mul_right p h
/-- what a level asks of the next one -/
structure Ok (c v R R1 RS RS1 : Nat) (t s : Tb) : Prop where
  r1 : t.MS ≤ c * R
  r2 : t.C * t.A ≤ c * R
  r3 : t.US ≤ v + R1
  r4 : t.V + t.U ≤ v + R1
  r5 : 1 ≤ R
  r6 : t.MS ≤ c * RS
  r7 : t.US ≤ v + RS1
  r8 : 1 ≤ RS
  k1 : t.K + 1 + t.K * R ≤ s.K
  k2 : t.K + 3 * (t.K * RS ^ 3 + 1) ≤ s.K
  k3 : t.K + t.C * max t.A c ≤ s.K
  k4 : t.K + c * (c * R) ≤ s.K
  d1 : t.D + R1 + 2 ≤ s.D
  d2 : t.D + 3 * RS1 + 1 ≤ s.D
  d3 : t.V + max t.U v + 2 ≤ s.D
  d4 : v + v + R1 + 2 ≤ s.D
  m1 : c ≤ s.MS
  m2 : t.MS * R ≤ s.MS
  m3 : t.MS * RS ^ 3 ≤ s.MS
  m4 : t.C * max t.A c ≤ s.MS
  m5 : c * (c * R) ≤ s.MS
  u1 : v ≤ s.US
  u2 : t.US + R1 ≤ s.US
  u3 : t.US + 3 * RS1 ≤ s.US
  u4 : t.V + max t.U v ≤ s.US
  u5 : v + v + R1 ≤ s.US
  a1 : 1 ≤ s.A
  a2 : t.A * R ≤ s.A
  a3 : max t.A c ≤ s.A
  a4 : c * R ≤ s.A
  c1 : c ≤ s.C
  c2 : t.C ≤ s.C
  c3 : t.K + 1 ≤ s.C
  c4 : t.C * t.A ≤ s.C
  c5 : t.MS ≤ s.C
  c6 : 1 ≤ t.A
  f1 : t.U + R1 ≤ s.U
  f2 : max t.U v ≤ s.U
  f3 : v + R1 ≤ s.U
  v1 : v ≤ s.V
  v2 : t.V ≤ s.V
  v3 : t.D ≤ s.V
  v4 : t.V + t.U ≤ s.V
  v5 : t.US ≤ s.V
/-- .. where functions are turned, too -/
structure OkFn (c v c2 v2 : Nat) (t t2 s : Tb) : Prop where
  g1 : c ≤ c2
  g2 : t.C ≤ c2
  g3 : v ≤ v2
  g4 : t.V ≤ v2
  g5 : t.K + 1 + t2.K * t.A ≤ s.K
  g6 : t2.D + t.U + 1 ≤ s.D
  g7 : t2.A * t.A ≤ s.A
  g8 : t2.C ≤ s.C
  g9 : t2.U + t.U ≤ s.U
  g10 : t2.V ≤ s.V
theorem Rv.upR {c v R R1 RS RS1 : Nat} {t s : Tb} (o : Ok c v R R1 RS RS1 t s) {k : Kd} {p u : Nat} {w : W} (h : Rv t k (R * p) (R1 + u) w) : Rv s k p u w := h.up o.m2 o.a2 o.c2 o.u2 o.f1 o.v2
theorem Rv.up1 {c v R R1 RS RS1 : Nat} {t s : Tb} (o : Ok c v R R1 RS RS1 t s) {k : Kd} {p u : Nat} {w : W} (h : Rv t k p u w) : Rv s k p u w := by
  refine Rv.up (R := 1) (S := 0) (t := t) ?_ ?_ ?_ o.c2 ?_ ?_ o.v2
  · rw [Nat.one_mul, Nat.zero_add]; exact h
  · have := o.m2; have := Nat.le_mul_of_pos_right t.MS o.r5; omega
  · have := o.a2; have := Nat.le_mul_of_pos_right t.A o.r5; omega
  · have := o.u2; omega
  · have := o.f1; omega
theorem Rv.leaf {c v R R1 RS RS1 : Nat} {t s : Tb} (o : Ok c v R R1 RS RS1 t s) {k : Kd} {p u : Nat} {w : W} (hk : Fk k) (h : Good k (fun x => c * max p x) (fun x => v + max u x) w) : Rv s k p u w := by
  refine .of hk h ?_ ?_ (fun x => Nat.mul_le_mul o.c1 ?_) fun x => ?_
  · show c * max p 0 ≤ _
    rw [Nat.max_zero]; exact Nat.mul_le_mul_right p o.m1
  · show v + max u 0 ≤ _
    have := o.u1; omega
  · have := Nat.le_mul_of_pos_left p o.a1
    omega
  · have := o.v1; omega
theorem pow_le {RS i : Nat} (h : 1 ≤ RS) (hi : i ≤ 3) : RS ^ i ≤ RS ^ 3 := Nat.pow_le_pow_right h hi
theorem lv_step {fn : Bool} {d c v c2 v2 R R1 RS RS1 : Nat} {t t2 s : Tb} (hc : 1 ≤ c) (hd4 : d ≤ 4) (L : Lv true d c v t) (o : Ok c v R R1 RS RS1 t s) (hF : fn = true → Lv true d c2 v2 t2 ∧ OkFn c v c2 v2 t t2 s) : Lv fn (d + 1) c v s := by
  intro G k tm h p u r pos hp hu hE hk hd hfn
  have od1 := o.d1
  cases h with
  | leaf h =>
    obtain ⟨w, h1, h2⟩ := lf_lv h (pos := pos) hc hp hu hE hk (by omega) (N := s.D + u) (by omega)
    exact ⟨w, [], h1, Nat.zero_le _, .leaf o hk h2⟩
  | @call _ _ _ ok b a ho hb ha =>
    obtain ⟨wa, ca, e1, l1, g1⟩ := L _ _ _ ha p u r (pos + 1 + (Tm.n1 (.knd .fn ok) b).size) hp hu hE (KS.fk ho) (by have := (KS.dp ho).1; omega) (fun _ => rfl)
    obtain ⟨wb, cb, e2, l2, g2⟩ := L _ _ _ hb (R * p) (R1 + u) (wa :: r) (pos + 1 + 1) (Nat.le_trans hp (Nat.le_mul_of_pos_left p o.r5)) (by omega) (hE.arg o.r5 (KS.fk ho) (g1.arg ho o.r1 o.r2 o.r3 o.r4)) hk (by omega) (fun _ => rfl)
    obtain ⟨N, hN⟩ : ∃ N, s.D + u = N + 2 := ⟨s.D + u - 2, by omega⟩
    refine ⟨wb, [] ++ (ca ++ (pos + 1) :: cb), ?_, ?_, g2.upR o⟩
    · rw [hN, ev_call, show ev (N + 1) r (pos + 1) (.n1 (.knd .fn ok) b) = some (.made (pos + 1) ok b r, []) from rfl]
      simp only
      rw [ev_le (by omega) e1]
      simp only
      rw [ev_le (by omega) e2]
    · have := kk1 (p := p) o.k1 hp
      simp only [List.nil_append, List.length_append, List.length_cons]
      omega
  | @lt _ _ _ ok x y ho hx hy =>
    obtain ⟨wa, ca, e1, l1, g1⟩ := L _ _ _ hx p u r (pos + 1) hp hu hE (KS.fk ho) (by have := (KS.dp ho).1; omega) (fun _ => rfl)
    obtain ⟨wb, cb, e2, l2, g2⟩ := L _ _ _ hy (R * p) (R1 + u) (wa :: r) (pos + 1 + x.size) (Nat.le_trans hp (Nat.le_mul_of_pos_left p o.r5)) (by omega) (hE.arg o.r5 (KS.fk ho) (g1.arg ho o.r1 o.r2 o.r3 o.r4)) hk (by omega) (fun _ => rfl)
    obtain ⟨N, hN⟩ : ∃ N, s.D + u = N + 1 := ⟨s.D + u - 1, by omega⟩
    refine ⟨wb, ca ++ pos :: cb, ?_, ?_, g2.upR o⟩
    · rw [hN, ev_lt, ev_le (by omega) e1]
      simp only
      rw [ev_le (by omega) e2]
    · have := kk1 (p := p) o.k1 hp
      simp only [List.length_append, List.length_cons]
      omega
  | @first _ _ _ ok x y ho hx hy =>
    obtain ⟨wa, ca, e1, l1, g1⟩ := L _ _ _ hx p u r (pos + 1 + 1) hp hu hE hk (by omega) (fun _ => rfl)
    obtain ⟨N, hN⟩ : ∃ N, s.D + u = N + 2 := ⟨s.D + u - 2, by omega⟩
    obtain ⟨wb, e2, g2⟩ := lf_lv hy (pos := pos + 1 + 1 + x.size) hc hp hu hE (KS.fk ho) (by have := (KS.dp ho).1; omega) (N := N) (by omega)
    refine ⟨wa, ca ++ [], ?_, ?_, g1.up1 o⟩
    · rw [hN, ev_n1 (fun k z => by cases z), ev_both, ev_le (by omega) e1]
      simp only
      rw [e2]
      rfl
    · rw [List.append_nil]
      exact Nat.le_trans l1 (Nat.mul_le_mul_right p (by have := o.k1; omega))
  | @second _ _ _ ok x y ho hx hy =>
    obtain ⟨wa, ca, e1, l1, g1⟩ := L _ _ _ hy p u r (pos + 1 + 1 + x.size) hp hu hE hk (by omega) (fun _ => rfl)
    obtain ⟨N, hN⟩ : ∃ N, s.D + u = N + 2 := ⟨s.D + u - 2, by omega⟩
    obtain ⟨wb, e2, g2⟩ := lf_lv hx (pos := pos + 1 + 1) hc hp hu hE (KS.fk ho) (by have := (KS.dp ho).1; omega) (N := N) (by omega)
    refine ⟨wa, [] ++ ca, ?_, ?_, g1.up1 o⟩
    · rw [hN, ev_n1 (fun k z => by cases z), ev_both, e2]
      simp only
      rw [ev_le (by omega) e1]
      rfl
    · rw [List.nil_append]
      exact Nat.le_trans l1 (Nat.mul_le_mul_right p (by have := o.k1; omega))
  | @which _ _ _ ok sc x y ho hs hx hy =>
    have hk2 : Fk (.two .sum ok .cnt) := ⟨ho, True.intro⟩
    obtain ⟨wa, ca, e1, l1, g1⟩ := L _ _ _ hs p u r (pos + 1) hp hu hE hk2 (by have := (KS.dp ho).1; show 1 + max ok.dp 1 + d ≤ 10; omega) (fun z => by cases z)
    obtain ⟨N, hN⟩ : ∃ N, s.D + u = N + 1 := ⟨s.D + u - 1, by omega⟩
    rcases g1.goodN rfl with ⟨a, rfl, ga⟩ | ⟨b, rfl, gb⟩
    · have ga2 : Good ok (fun _ => c * (R * p)) (fun _ => v + (R1 + u)) a := ga.mono (fun _ => by rw [← Nat.mul_assoc]; exact Nat.mul_le_mul_right p o.r1) fun _ => by have := o.r3; omega
      obtain ⟨wb, cb, e2, l2, g2⟩ := L _ _ _ hx (R * p) (R1 + u) (a :: r) (pos + 1 + sc.size) (Nat.le_trans hp (Nat.le_mul_of_pos_left p o.r5)) (by omega) (hE.arg o.r5 (KS.fk ho) ga2) hk (by omega) (fun _ => rfl)
      refine ⟨wb, ca ++ pos :: cb, ?_, ?_, g2.upR o⟩
      · rw [hN, ev_which, ev_le (by omega) e1]
        simp only
        rw [ev_le (by omega) e2]
      · have := kk1 (p := p) o.k1 hp
        simp only [List.length_append, List.length_cons]
        omega
    · have gb2 : Good .cnt (fun x => c * max p x) (fun x => v + max u x) b := gb
      obtain ⟨wb, e2, g2⟩ := lf_lv hy (pos := pos + 1 + sc.size + x.size) (r := b :: r) hc hp hu (hE.cons gb2 True.intro) hk (by omega) (N := N) (by omega)
      refine ⟨wb, ca ++ pos :: [], ?_, ?_, .leaf o hk g2⟩
      · rw [hN, ev_which, ev_le (by omega) e1]
        simp only
        rw [e2]
      · have := kk1 (p := p) o.k1 hp
        simp only [List.length_append, List.length_cons, List.length_nil]
        omega
  | @turns _ _ _ n x y hn hn2 hx hy =>
    obtain ⟨wa, ca, e1, l1, g1⟩ := L _ _ _ hy p u r (pos + 1 + 1 + x.size) hp hu hE hk (by omega) (fun _ => rfl)
    obtain ⟨N, hN⟩ : ∃ N, s.D + u = N + 1 := ⟨s.D + u - 1, by omega⟩
    have fin : ∀ wb cb, iter (fun w => ev N (w :: r) (pos + 1 + 1) x) pos n wa = some (wb, cb) → ev (s.D + u) r pos (.n3 (.knd .turns k) (.n0 (.told n)) x y) = some (wb, [] ++ (ca ++ cb)) := fun wb cb e3 => by
      obtain ⟨M, rfl⟩ : ∃ M, N = M + 1 := ⟨N - 1, by omega⟩
      rw [hN, ev_turns, show ev (M + 1) r (pos + 1) (.n0 (.told n)) = some (.int n, []) from rfl]
      simp only
      rw [show pos + 1 + (Tm.n0 (.told n)).size = pos + 1 + 1 from rfl, ev_le (by omega) e1]
      simp only
      rw [e3]
    cases hf : isFn k with
    | false =>
      have Pi : ∀ i a, i < 3 → Rv t k (RS ^ i * p) (i * RS1 + u) a → ∃ z cs, ev N (a :: r) (pos + 1 + 1) x = some (z, cs) ∧ cs.length ≤ t.K * (RS ^ 3 * p) ∧ Rv t k (RS ^ (i + 1) * p) ((i + 1) * RS1 + u) z := by
        intro i a hi ha
        have ga := ha.goodN hf
        have hpi : 1 ≤ RS ^ (i + 1) := Nat.pow_pos o.r8
        have hus : t.US + (i * RS1 + u) ≤ v + ((i + 1) * RS1 + u) := by
          have := o.r7
          rw [Nat.succ_mul]
          omega
        have hms : t.MS * (RS ^ i * p) ≤ c * (RS ^ (i + 1) * p) := by
          rw [Nat.pow_succ, Nat.mul_comm (RS ^ i) RS, Nat.mul_assoc, ← Nat.mul_assoc c]
          exact Nat.mul_le_mul_right _ o.r6
        have ga2 : Good k (fun _ => c * (RS ^ (i + 1) * p)) (fun _ => v + ((i + 1) * RS1 + u)) a := ga.mono (fun _ => hms) fun _ => hus
        obtain ⟨wb, cb, e2, l2, g2⟩ := L _ _ _ hx (RS ^ (i + 1) * p) ((i + 1) * RS1 + u) (a :: r) (pos + 1 + 1) (Nat.le_trans hp (Nat.le_mul_of_pos_left p hpi)) (by omega) (hE.arg hpi hk ga2) hk (by omega) (fun _ => rfl)
        refine ⟨wb, cb, ev_le ?_ e2, Nat.le_trans l2 (Nat.mul_le_mul_left _ (Nat.mul_le_mul_right p (pow_le o.r8 hi))), g2⟩
        have h1 := o.d2
        have h2 : (i + 1) * RS1 ≤ 3 * RS1 := Nat.mul_le_mul_right _ hi
        omega
      obtain ⟨wb, cb, e3, l3, g3⟩ := it_few (p := pos) (fun i a => Rv t k (RS ^ i * p) (i * RS1 + u) a) 3 Pi n 0 wa (by omega) (by
        show Rv t k (RS ^ 0 * p) (0 * RS1 + u) wa
        rw [Nat.pow_zero, Nat.one_mul, Nat.zero_mul, Nat.zero_add]
        exact g1)
      rw [Nat.zero_add] at g3
      refine ⟨wb, _, fin wb cb e3, ?_, g3.upN hf ?_ ?_⟩
      · have h1 := Nat.mul_le_mul_right p o.k2
        rw [Nat.add_mul, Nat.mul_assoc 3, Nat.add_mul, Nat.mul_assoc, Nat.one_mul] at h1
        have h2 : n * (t.K * (RS ^ 3 * p) + 1) ≤ 3 * (t.K * (RS ^ 3 * p) + 1) := Nat.mul_le_mul_right _ (by omega)
        simp only [List.nil_append, List.length_append]
        omega
      · have h1 : t.MS * (RS ^ n * p) ≤ t.MS * (RS ^ 3 * p) := Nat.mul_le_mul_left _ (Nat.mul_le_mul_right p (pow_le o.r8 (by omega)))
        rw [← Nat.mul_assoc t.MS (RS ^ 3)] at h1
        exact Nat.le_trans h1 (Nat.mul_le_mul_right p o.m3)
      · have h1 := o.u3
        have h2 : n * RS1 ≤ 3 * RS1 := Nat.mul_le_mul_right _ (by omega)
        omega
    | true =>
      obtain ⟨L2, q⟩ := hF (hfn hf)
      have hn3 : n < 2 := hn2 (by
        cases k with
        | cnt => cases hf
        | two t a b => cases t with
          | fn => exact ⟨a, b, rfl⟩
          | pair => cases hf
          | sum => cases hf)
      cases n with
      | zero =>
        refine ⟨wa, _, fin wa [] rfl, ?_, g1.up1 o⟩
        simp only [List.nil_append, List.append_nil]
        exact Nat.le_trans l1 (Nat.mul_le_mul_right p (by have := o.k1; omega))
      | succ n =>
        have hn0 : n = 0 := by omega
        subst hn0
        have hA : p ≤ t.A * p := Nat.le_mul_of_pos_left p o.c6
        have ga := (g1.goodF hf).mono (f1 := fun x => c2 * max (t.A * p) x) (g1 := fun x => v2 + max (t.U + u) x) (fun x => Nat.mul_le_mul_right _ q.g2) (fun x => by have := q.g4; omega)
        obtain ⟨wb, cb, e2, l2, g2⟩ := L2 _ _ _ hx (t.A * p) (t.U + u) (wa :: r) (pos + 1 + 1) (Nat.le_trans hp hA) (by omega) ((hE.up q.g1 q.g3 hA (by omega)).cons ga hk) hk (by omega) (fun _ => rfl)
        refine ⟨wb, _, fin wb (pos :: (cb ++ [])) ?_, ?_, g2.upF hf ?_ q.g8 ?_ q.g10⟩
        · show (match ev N (wa :: r) (pos + 1 + 1) x with
            | some (w1, c1) => (match iter (fun w => ev N (w :: r) (pos + 1 + 1) x) pos 0 w1 with
              | some (w2, c2) => some (w2, pos :: (c1 ++ c2))
              | none => none)
            | none => none) = _
          rw [ev_le (by have := q.g6; omega) e2]
          rfl
        · have := kk1 (K := t.K) (R := 0) (S := t.K + 1) (p := p) (by omega) hp
          have h3 := Nat.mul_le_mul_right p q.g5
          rw [Nat.add_mul, Nat.mul_assoc, Nat.add_mul, Nat.one_mul] at h3
          simp only [List.nil_append, List.append_nil, List.length_append, List.length_cons]
          omega
        · rw [← Nat.mul_assoc]; exact Nat.mul_le_mul_right p q.g7
        · have := q.g9; omega
  | @app _ _ _ ok f a ho hf ha =>
    have hk2 : Fk (.two .fn ok k) := ⟨ho, hk⟩
    obtain ⟨wf, cf, e1, l1, g1⟩ := L _ _ _ hf p u r (pos + 1) hp hu hE hk2 (by have := (KS.dp ho).1; show 1 + max ok.dp k.dp + d ≤ 10; omega) (fun _ => rfl)
    obtain ⟨N, hN⟩ : ∃ N, s.D + u = N + 2 := ⟨s.D + u - 2, by omega⟩
    obtain ⟨wa, e2, g2⟩ := lf_lv ha (pos := pos + 1 + f.size) hc hp hu hE (KS.fk ho) (by have := (KS.dp ho).1; omega) (N := N + 1) (by omega)
    obtain ⟨q, kd, b, r1, rfl, hap⟩ := g1.goodF rfl
    have ga : Good ok (fun _ => c * p) (fun _ => v + u) wa := (g2.ks ho).mono (fun _ => by show c * max p 0 ≤ _; rw [Nat.max_zero]; exact Nat.le_refl _) fun _ => by omega
    obtain ⟨n, x, cs, e3, l3, l4, g3⟩ := hap wa (c * p) (v + u) ga
    simp only at l3 l4
    have hmx : max (t.A * p) (c * p) = max t.A c * p := Nat.mul_max_mul_right ..
    refine ⟨x, cf ++ ([] ++ q :: cs), ?_, ?_, .of hk g3 ?_ ?_ (fun z => ?_) fun z => ?_⟩
    · rw [hN, ev_call, ev_le (by omega) e1]
      simp only
      rw [e2]
      simp only
      rw [ev_le (by have := o.d3; omega) e3]
    · rw [hmx, ← Nat.mul_assoc] at l4
      have := kk2 (p := p) o.k3
      simp only [List.nil_append, List.length_append, List.length_cons]
      omega
    · show t.C * max (t.A * p) (max (c * p) 0) ≤ _
      rw [Nat.max_zero, hmx, ← Nat.mul_assoc]
      exact Nat.mul_le_mul_right p o.m4
    · show t.V + max (t.U + u) (max (v + u) 0) ≤ s.US + u
      have := o.u4; omega
    · show t.C * max (t.A * p) (max (c * p) z) ≤ _
      rw [← Nat.max_assoc, hmx]
      refine Nat.mul_le_mul o.c2 ?_
      have := Nat.mul_le_mul_right p o.a3
      omega
    · show t.V + max (t.U + u) (max (v + u) z) ≤ s.V + max (s.U + u) z
      have := o.f2; have := o.v2; omega
  | @nam _ _ _ A i a hi ha =>
    obtain ⟨wf, e0, g0, hkf⟩ := hE i _ hi
    have hA : A ∈ KS := hkf.1
    obtain ⟨wa, ca, e1, l1, g1⟩ := L _ _ _ ha p u r (pos + 1 + 1) hp hu hE (KS.fk hA) (by have := (KS.dp hA).1; omega) (fun _ => rfl)
    obtain ⟨N, hN⟩ : ∃ N, s.D + u = N + 2 := ⟨s.D + u - 2, by omega⟩
    obtain ⟨q, kd, b, r1, rfl, hap⟩ := g0
    obtain ⟨n, x, cs, e3, l3, l4, g3⟩ := hap wa _ _ (g1.arg hA o.r1 o.r2 o.r3 o.r4)
    simp only at l3 l4
    have hp2 : p ≤ c * (R * p) := Nat.le_trans (Nat.le_mul_of_pos_left p o.r5) (Nat.le_mul_of_pos_left _ hc)
    have hm : max p (c * (R * p)) = c * (R * p) := Nat.max_eq_right hp2
    refine ⟨x, [] ++ (ca ++ q :: cs), ?_, ?_, .of hkf.2 g3 ?_ ?_ (fun z => ?_) fun z => ?_⟩
    · rw [hN, ev_call, show ev (N + 1) r (pos + 1) (.n0 (.name i)) = (match r[i]? with | some w => some (w, []) | none => none) from rfl, e0]
      simp only
      rw [show pos + 1 + (Tm.n0 (.name i)).size = pos + 1 + 1 from rfl, ev_le (by omega) e1]
      simp only
      rw [ev_le (by have := o.d4; omega) e3]
    · rw [hm, ← Nat.mul_assoc c R p, ← Nat.mul_assoc] at l4
      have := kk2 (p := p) o.k4
      simp only [List.nil_append, List.length_append, List.length_cons]
      omega
    · show c * max p (max (c * (R * p)) 0) ≤ _
      rw [Nat.max_zero, hm, ← Nat.mul_assoc c R p, ← Nat.mul_assoc]
      exact Nat.mul_le_mul_right p o.m5
    · show v + max u (max (v + (R1 + u)) 0) ≤ s.US + u
      have := o.u5; omega
    · show c * max p (max (c * (R * p)) z) ≤ _
      rw [← Nat.max_assoc, hm, ← Nat.mul_assoc c R p]
      refine Nat.mul_le_mul o.c1 ?_
      have := Nat.mul_le_mul_right p o.a4
      omega
    · show v + max u (max (v + (R1 + u)) z) ≤ s.V + max (s.U + u) z
      have := o.f3; have := o.v1; omega
  | @gcnt _ _ x hx =>
    obtain ⟨wa, ca, e1, l1, g1⟩ := L _ _ _ hx p u r (pos + 1) hp hu hE True.intro (by omega) (fun _ => rfl)
    obtain ⟨N, hN⟩ : ∃ N, s.D + u = N + 1 := ⟨s.D + u - 1, by omega⟩
    have hs := g1.sh
    cases hs with
    | @int n =>
      refine ⟨.int (min (n + 1) 1000000), ca, ?_, Nat.le_trans l1 (Nat.mul_le_mul_right p (by have := o.k1; omega)), ?_⟩
      · rw [hN, ev_n1 (fun k z => by cases z), ev_le (by omega) e1]
        rfl
      · unfold Rv
        rw [if_neg (by exact Bool.false_ne_true)]
        exact .int
  | @gpair _ _ A B x y hx hy =>
    obtain ⟨wa, ca, e1, l1, g1⟩ := L _ _ _ hx p u r (pos + 1) hp hu hE hk.1 (by have h : 1 + max A.dp B.dp + (d + 1) ≤ 10 := hd; omega) (fun _ => rfl)
    obtain ⟨N, hN⟩ : ∃ N, s.D + u = N + 1 := ⟨s.D + u - 1, by omega⟩
    obtain ⟨wb, e2, g2⟩ := lf_lv hy (pos := pos + 1 + x.size) hc hp hu hE hk.2 (by have h : 1 + max A.dp B.dp + (d + 1) ≤ 10 := hd; omega) (N := N) (by omega)
    refine ⟨.both wa wb, ca ++ [], ?_, ?_, ?_⟩
    · rw [hN, ev_both, ev_le (by omega) e1]
      simp only
      rw [e2]
    · rw [List.append_nil]
      exact Nat.le_trans l1 (Nat.mul_le_mul_right p (by have := o.k1; omega))
    · unfold Rv
      rw [if_neg (by exact Bool.false_ne_true)]
      exact .both g1.sh g2.sh
  | @gsum _ _ A B x hx =>
    obtain ⟨wa, ca, e1, l1, g1⟩ := L _ _ _ hx p u r (pos + 1) hp hu hE hk.2 (by have h : 1 + max A.dp B.dp + (d + 1) ≤ 10 := hd; omega) (fun _ => rfl)
    obtain ⟨N, hN⟩ : ∃ N, s.D + u = N + 1 := ⟨s.D + u - 1, by omega⟩
    refine ⟨.right wa, ca, ?_, Nat.le_trans l1 (Nat.mul_le_mul_right p (by have := o.k1; omega)), ?_⟩
    · rw [hN, ev_n1 (fun k z => by cases z), ev_le (by omega) e1]
      rfl
    · unfold Rv
      rw [if_neg (by exact Bool.false_ne_true)]
      exact .inr ⟨wa, rfl, g1.sh⟩
  | @gfn _ _ A B x hx =>
    obtain ⟨N, hN⟩ : ∃ N, s.D + u = N + 1 := ⟨s.D + u - 1, by omega⟩
    refine ⟨.made pos A x r, [], by rw [hN]; rfl, Nat.zero_le _, ?_⟩
    unfold Rv
    rw [if_pos (show isFn (Kd.two .fn A B) = true from rfl)]
    refine ⟨pos, A, x, r, rfl, fun a m l ha => ?_⟩
    have hE2 : EnvG (A :: G) (a :: r) (fun x => c * max (max p m) x) (fun x => v + max (max u l) x) := by
      refine (hE.up (Nat.le_refl c) (Nat.le_refl v) (Nat.le_max_left p m) (Nat.le_max_left u l)).cons (ha.mono (fun x => ?_) fun x => ?_) (KS.fk hk.1)
      · have : 1 * max (max p m) x ≤ c * max (max p m) x := Nat.mul_le_mul_right _ hc
        omega
      · omega
    obtain ⟨wb, cb, e2, l2, g2⟩ := L _ _ _ hx (max p m) (max u l) (a :: r) (pos + 1) (by omega) (by omega) hE2 hk.2 (by have h : 1 + max A.dp B.dp + (d + 1) ≤ 10 := hd; omega) (fun _ => rfl)
    have hA1 : p ≤ s.A * p := Nat.le_mul_of_pos_left p o.a1
    refine ⟨_, wb, cb, e2, ?_, ?_, ?_⟩
    · show t.D + max u l ≤ s.V + max (s.U + u) l
      have := o.v3; omega
    · show cb.length + 1 ≤ s.C * max (s.A * p) m
      have h1 := Nat.mul_le_mul o.c3 (show max p m ≤ max (s.A * p) m by omega)
      rw [Nat.add_mul, Nat.one_mul] at h1
      omega
    · cases hf : isFn B with
      | true =>
        refine (g2.goodF hf).mono (fun x => ?_) fun x => ?_
        · have h1 : t.C * max (t.A * max p m) x ≤ t.C * (t.A * max (max p m) x) := by
            refine Nat.mul_le_mul_left _ ?_
            have h2 : t.A * max p m ≤ t.A * max (max p m) x := Nat.mul_le_mul_left _ (Nat.le_max_left ..)
            have h3 : 1 * max (max p m) x ≤ t.A * max (max p m) x := Nat.mul_le_mul_right _ o.c6
            omega
          rw [← Nat.mul_assoc] at h1
          exact Nat.le_trans h1 (Nat.mul_le_mul o.c4 (by omega))
        · show t.V + max (t.U + max u l) x ≤ s.V + max (s.U + u) (max l x)
          have := o.v4; omega
      | false =>
        refine (g2.goodN hf).mono (fun x => ?_) fun x => ?_
        · exact Nat.mul_le_mul o.c5 (by omega)
        · show t.US + max u l ≤ s.V + max (s.U + u) (max l x)
          have := o.v5; omega
end K42

/-! KG5 -/
/-! the plain law: the levels by numbers; drawn terms fit -/
namespace K42
theorem lv_0_1 : Lv true 0 1 0 ⟨0, 1, 1, 1, 0, 0, 0, 0⟩ := lv_zero (by decide)
theorem lv_0_4 : Lv true 0 4 2 ⟨0, 4, 1, 4, 0, 2, 0, 2⟩ := lv_zero (by decide)
theorem lv_1_4 : Lv true 1 4 2 ⟨16, 16, 4, 4, 6, 4, 2, 2⟩ := lv_step (R := 1) (R1 := 0) (RS := 1) (RS1 := 0) (by decide) (by decide) lv_0_4 (by constructor <;> decide +kernel) fun _ => ⟨lv_0_4, (by constructor <;> decide +kernel)⟩
theorem lv_1_1 : Lv true 1 1 0 ⟨3, 1, 1, 1, 2, 0, 0, 0⟩ := lv_step (R := 1) (R1 := 0) (RS := 1) (RS1 := 0) (by decide) (by decide) lv_0_1 (by constructor <;> decide +kernel) fun _ => ⟨lv_0_1, (by constructor <;> decide +kernel)⟩
theorem lv_2_4 : Lv true 2 4 2 ⟨3091, 1024, 16, 17, 13, 10, 4, 6⟩ := lv_step (R := 4) (R1 := 2) (RS := 4) (RS1 := 2) (by decide) (by decide) lv_1_4 (by constructor <;> decide +kernel) fun _ => ⟨lv_1_4, (by constructor <;> decide +kernel)⟩
theorem lv_2_1 : Lv true 2 1 0 ⟨15, 1, 1, 4, 4, 0, 0, 2⟩ := lv_step (R := 1) (R1 := 0) (RS := 1) (RS1 := 0) (by decide) (by decide) lv_1_1 (by constructor <;> decide +kernel) fun _ => ⟨lv_1_1, (by constructor <;> decide +kernel)⟩
theorem lv_3_1 : Lv true 3 1 0 ⟨3107, 4, 16, 17, 14, 2, 4, 6⟩ := lv_step (R := 4) (R1 := 2) (RS := 1) (RS1 := 0) (by decide) (by decide) lv_2_1 (by constructor <;> decide +kernel) fun _ => ⟨lv_2_4, (by constructor <;> decide +kernel)⟩
theorem lv_4_1 : Lv false 4 1 0 ⟨848212, 1088, 4352, 3108, 26, 12, 14, 14⟩ := lv_step (t2 := ⟨3107, 4, 16, 17, 14, 2, 4, 6⟩) (c2 := 1) (v2 := 0) (R := 272) (R1 := 10) (RS := 4) (RS1 := 2) (by decide) (by decide) lv_3_1 (by constructor <;> decide +kernel) fun z => by cases z
/-- a drawn program comes to a worth, neither deep nor with too many calls -/
theorem gn_ev {k : Kd} {t : Tm} (h : Gn 4 [] k t) (hk : Fk k) (hd : k.dp ≤ 6) (hn : isFn k = false) : ∃ w cs, ev 40 [] 0 t = some (w, cs) ∧ cs.length ≤ 900000 ∧ Sh k w := by
  obtain ⟨w, cs, h1, h2, h3⟩ := lv_4_1 [] k t h 1 10 [] 0 (by decide) (by decide) (fun i k h => by simp at h) hk (by omega) (fun z => by rw [hn] at z; cases z)
  exact ⟨w, cs, ev_le (by decide) h1, Nat.le_trans h2 (by decide), h3.sh⟩
theorem lf_gev {k : Kd} {t : Tm} (h : Lf [] k t) (hk : Fk k) (hd : k.dp ≤ 10) : ∃ w, ev 40 [] 0 t = some (w, []) ∧ Sh k w := by
  obtain ⟨w, h1, h2⟩ := lf_lv h (r := []) (pos := 0) (c := 1) (v := 0) (p := 1) (u := 10) (by decide) (by decide) (by decide) (fun i k h => by simp at h) hk hd (N := 40) (by decide)
  exact ⟨w, h1, h2.sh⟩
end K42

/-! KG6 -/
/-! the plain law: drawn terms fit, and are small -/
namespace K42
theorem fine_two {t : Kt} {A B : Kd} (h : (Kd.two t A B).fine) : A.fine ∧ B.fine := by
  have h1 : 1 + A.sz + B.sz ≤ 60 := h.1
  have h2 : 1 + max A.dp B.dp ≤ 12 := h.2
  exact ⟨⟨by omega, by omega⟩, ⟨by omega, by omega⟩⟩
theorem lf_wt {G : List Kd} {k : Kd} {t : Tm} (h : Lf G k t) : k.fine → G.length + k.dp ≤ 200 → WT G t k ∧ t.ok ∧ t.size ≤ k.sz := by
  induction h with
  | @name G k i hi =>
    intro hf hl
    have := (List.getElem?_eq_some_iff.mp hi).1
    exact ⟨.n0 (.name hi), ⟨rfl, show i ≤ 299 by omega⟩, k.sz_pos⟩
  | @cnt G n hn =>
    intro hf hl
    exact ⟨.n0 .told, ⟨rfl, show n ≤ 1000000 by omega⟩, Nat.le_refl _⟩
  | @pair G A B x y _ _ i1 i2 =>
    intro hf hl
    have hl2 : G.length + (1 + max A.dp B.dp) ≤ 200 := hl
    obtain ⟨w1, o1, z1⟩ := i1 (fine_two hf).1 (by omega)
    obtain ⟨w2, o2, z2⟩ := i2 (fine_two hf).2 (by omega)
    exact ⟨.n2 rfl (.inl ⟨rfl, rfl⟩) w1 (.inl ⟨rfl, rfl⟩) w2 (.both hf), ⟨rfl, True.intro, o1, o2⟩, by simp only [Tm.size, Kd.sz]; omega⟩
  | @left G A B x _ i1 =>
    intro hf hl
    have hl2 : G.length + (1 + max A.dp B.dp) ≤ 200 := hl
    obtain ⟨w1, o1, z1⟩ := i1 (fine_two hf).1 (by omega)
    exact ⟨.n1 rfl (.inl ⟨rfl, rfl⟩) w1 (.left hf), ⟨rfl, (fine_two hf).2, o1⟩, by simp only [Tm.size, Kd.sz]; omega⟩
  | @right G A B x _ i1 =>
    intro hf hl
    have hl2 : G.length + (1 + max A.dp B.dp) ≤ 200 := hl
    obtain ⟨w1, o1, z1⟩ := i1 (fine_two hf).2 (by omega)
    exact ⟨.n1 rfl (.inl ⟨rfl, rfl⟩) w1 (.right hf), ⟨rfl, (fine_two hf).1, o1⟩, by simp only [Tm.size, Kd.sz]; omega⟩
  | @fn G A B x _ i1 =>
    intro hf hl
    have hl2 : G.length + (1 + max A.dp B.dp) ≤ 200 := hl
    obtain ⟨w1, o1, z1⟩ := i1 (fine_two hf).2 (by rw [List.length_cons]; omega)
    exact ⟨.n1 rfl (.inr ⟨rfl, A, .fn, rfl⟩) w1 (.fn hf), ⟨rfl, (fine_two hf).1, o1⟩, by simp only [Tm.size, Kd.sz]; omega⟩
theorem fk_cons {k : Kd} {G : List Kd} (hk : Fk k) (hG : ∀ l ∈ G, Fk l) : ∀ l ∈ k :: G, Fk l := fun l hl => by
  rcases List.mem_cons.mp hl with rfl | hl
  · exact hk
  · exact hG l hl
theorem gn_wt {d : Nat} {G : List Kd} {k : Kd} {t : Tm} (h : Gn d G k t) : d ≤ 4 → k.sz + 6 * d ≤ 31 → k.dp + d ≤ 10 → G.length + d ≤ 100 → (∀ l ∈ G, Fk l) → Fk k → WT G t k ∧ t.ok ∧ t.size + 33 ≤ 64 * 2 ^ d := by
  induction h with
  | @leaf d G k t h =>
    intro h4 hs hd hl hG hk
    obtain ⟨w, o, z⟩ := lf_wt h ⟨by omega, by omega⟩ (by omega)
    have : 1 ≤ 2 ^ d := Nat.pow_pos (by decide)
    exact ⟨w, o, by omega⟩
  | @call d G k o b a ho _ _ i1 i2 =>
    intro h4 hs hd hl hG hk
    have ks := KS.dp ho
    obtain ⟨w1, o1, z1⟩ := i1 (by omega) (by omega) (by omega) (by rw [List.length_cons]; omega) (fk_cons (KS.fk ho) hG) hk
    obtain ⟨w2, o2, z2⟩ := i2 (by omega) (by omega) (by omega) (by omega) hG (KS.fk ho)
    have hf : (Kd.two .fn o k).fine := ⟨by simp only [Kd.sz]; omega, by simp only [Kd.dp]; omega⟩
    exact ⟨.n2 rfl (.inl ⟨rfl, rfl⟩) (.n1 rfl (.inr ⟨rfl, o, .fn, rfl⟩) w1 (.fn hf)) (.inl ⟨rfl, rfl⟩) w2 (.call (by omega)), ⟨rfl, True.intro, ⟨rfl, (fine_two hf).1, o1⟩, o2⟩, by simp only [Tm.size]; rw [Nat.pow_succ]; omega⟩
  | @lt d G k o x y ho _ _ i1 i2 =>
    intro h4 hs hd hl hG hk
    have ks := KS.dp ho
    obtain ⟨w1, o1, z1⟩ := i1 (by omega) (by omega) (by omega) (by omega) hG (KS.fk ho)
    obtain ⟨w2, o2, z2⟩ := i2 (by omega) (by omega) (by omega) (by rw [List.length_cons]; omega) (fk_cons (KS.fk ho) hG) hk
    exact ⟨.n2 rfl (.inl ⟨rfl, rfl⟩) w1 (.inr ⟨rfl, o, .lt, rfl⟩) w2 .lt, ⟨rfl, True.intro, o1, o2⟩, by simp only [Tm.size]; rw [Nat.pow_succ]; omega⟩
  | @first d G k o x y ho _ hy i1 =>
    intro h4 hs hd hl hG hk
    have ks := KS.dp ho
    obtain ⟨w1, o1, z1⟩ := i1 (by omega) (by omega) (by omega) (by omega) hG hk
    obtain ⟨w2, o2, z2⟩ := lf_wt hy ⟨by omega, by omega⟩ (by omega)
    have hf : (Kd.two .pair k o).fine := ⟨by simp only [Kd.sz]; omega, by simp only [Kd.dp]; omega⟩
    have : 1 ≤ 2 ^ d := Nat.pow_pos (by decide)
    exact ⟨.n1 rfl (.inl ⟨rfl, rfl⟩) (.n2 rfl (.inl ⟨rfl, rfl⟩) w1 (.inl ⟨rfl, rfl⟩) w2 (.both hf)) .first, ⟨rfl, True.intro, rfl, True.intro, o1, o2⟩, by simp only [Tm.size]; rw [Nat.pow_succ]; omega⟩
  | @second d G k o x y ho hx _ i1 =>
    intro h4 hs hd hl hG hk
    have ks := KS.dp ho
    obtain ⟨w1, o1, z1⟩ := i1 (by omega) (by omega) (by omega) (by omega) hG hk
    obtain ⟨w2, o2, z2⟩ := lf_wt hx ⟨by omega, by omega⟩ (by omega)
    have hf : (Kd.two .pair o k).fine := ⟨by simp only [Kd.sz]; omega, by simp only [Kd.dp]; omega⟩
    have : 1 ≤ 2 ^ d := Nat.pow_pos (by decide)
    exact ⟨.n1 rfl (.inl ⟨rfl, rfl⟩) (.n2 rfl (.inl ⟨rfl, rfl⟩) w2 (.inl ⟨rfl, rfl⟩) w1 (.both hf)) .second, ⟨rfl, True.intro, rfl, True.intro, o2, o1⟩, by simp only [Tm.size]; rw [Nat.pow_succ]; omega⟩
  | @which d G k o s x y ho _ _ hy i1 i2 =>
    intro h4 hs hd hl hG hk
    have ks := KS.dp ho
    obtain ⟨w1, o1, z1⟩ := i1 (by omega) (by simp only [Kd.sz]; omega) (by simp only [Kd.dp]; omega) (by omega) hG ⟨ho, True.intro⟩
    obtain ⟨w2, o2, z2⟩ := i2 (by omega) (by omega) (by omega) (by rw [List.length_cons]; omega) (fk_cons (KS.fk ho) hG) hk
    obtain ⟨w3, o3, z3⟩ := lf_wt hy ⟨by omega, by omega⟩ (by rw [List.length_cons]; omega)
    have : 1 ≤ 2 ^ d := Nat.pow_pos (by decide)
    exact ⟨.n3 rfl (.inl ⟨rfl, rfl⟩) w1 (.inr ⟨rfl, o, .which0, rfl⟩) w2 (.inr ⟨rfl, .cnt, .which1, rfl⟩) w3 (.which (by omega)), ⟨rfl, True.intro, o1, o2, o3⟩, by simp only [Tm.size]; rw [Nat.pow_succ]; omega⟩
  | @turns d G k n x y hn _ _ _ i1 i2 =>
    intro h4 hs hd hl hG hk
    obtain ⟨w1, o1, z1⟩ := i1 (by omega) (by omega) (by omega) (by rw [List.length_cons]; omega) (fk_cons hk hG) hk
    obtain ⟨w2, o2, z2⟩ := i2 (by omega) (by omega) (by omega) (by omega) hG hk
    exact ⟨.n3 rfl (.inl ⟨rfl, rfl⟩) (.n0 .told) (.inr ⟨rfl, k, .turns, rfl⟩) w1 (.inl ⟨rfl, rfl⟩) w2 (.turns (by omega)), ⟨rfl, ⟨by omega, by omega⟩, ⟨rfl, show n ≤ 1000000 by omega⟩, o1, o2⟩, by simp only [Tm.size]; rw [Nat.pow_succ]; omega⟩
  | @app d G k o f a ho _ ha i1 =>
    intro h4 hs hd hl hG hk
    have ks := KS.dp ho
    obtain ⟨w1, o1, z1⟩ := i1 (by omega) (by simp only [Kd.sz]; omega) (by simp only [Kd.dp]; omega) (by omega) hG ⟨ho, hk⟩
    obtain ⟨w2, o2, z2⟩ := lf_wt ha ⟨by omega, by omega⟩ (by omega)
    have : 1 ≤ 2 ^ d := Nat.pow_pos (by decide)
    exact ⟨.n2 rfl (.inl ⟨rfl, rfl⟩) w1 (.inl ⟨rfl, rfl⟩) w2 (.call (by omega)), ⟨rfl, True.intro, o1, o2⟩, by simp only [Tm.size]; rw [Nat.pow_succ]; omega⟩
  | @nam d G k A i a hi _ i1 =>
    intro h4 hs hd hl hG hk
    have hA : Fk (.two .fn A k) := hG _ (List.mem_of_getElem? hi)
    have ks := KS.dp hA.1
    obtain ⟨w1, o1, z1⟩ := i1 (by omega) (by omega) (by omega) (by omega) hG (KS.fk hA.1)
    have := (List.getElem?_eq_some_iff.mp hi).1
    exact ⟨.n2 rfl (.inl ⟨rfl, rfl⟩) (.n0 (.name hi)) (.inl ⟨rfl, rfl⟩) w1 (.call (by omega)), ⟨rfl, True.intro, ⟨rfl, show i ≤ 299 by omega⟩, o1⟩, by simp only [Tm.size]; rw [Nat.pow_succ]; omega⟩
  | @gcnt d G x _ i1 =>
    intro h4 hs hd hl hG hk
    obtain ⟨w1, o1, z1⟩ := i1 (by omega) (by omega) (by omega) (by omega) hG True.intro
    exact ⟨.n1 rfl (.inl ⟨rfl, rfl⟩) w1 .next, ⟨rfl, True.intro, o1⟩, by simp only [Tm.size]; rw [Nat.pow_succ]; omega⟩
  | @gpair d G A B x y _ hy i1 =>
    intro h4 hs hd hl hG hk
    have hs2 : 1 + A.sz + B.sz + 6 * (d + 1) ≤ 31 := hs
    have hd2 : 1 + max A.dp B.dp + (d + 1) ≤ 10 := hd
    obtain ⟨w1, o1, z1⟩ := i1 (by omega) (by omega) (by omega) (by omega) hG hk.1
    obtain ⟨w2, o2, z2⟩ := lf_wt hy ⟨by omega, by omega⟩ (by omega)
    have hf : (Kd.two .pair A B).fine := ⟨by omega, by omega⟩
    have : 1 ≤ 2 ^ d := Nat.pow_pos (by decide)
    exact ⟨.n2 rfl (.inl ⟨rfl, rfl⟩) w1 (.inl ⟨rfl, rfl⟩) w2 (.both hf), ⟨rfl, True.intro, o1, o2⟩, by simp only [Tm.size]; rw [Nat.pow_succ]; omega⟩
  | @gsum d G A B x _ i1 =>
    intro h4 hs hd hl hG hk
    have hs2 : 1 + A.sz + B.sz + 6 * (d + 1) ≤ 31 := hs
    have hd2 : 1 + max A.dp B.dp + (d + 1) ≤ 10 := hd
    obtain ⟨w1, o1, z1⟩ := i1 (by omega) (by omega) (by omega) (by omega) hG hk.2
    have hf : (Kd.two .sum A B).fine := ⟨by omega, by omega⟩
    exact ⟨.n1 rfl (.inl ⟨rfl, rfl⟩) w1 (.right hf), ⟨rfl, (fine_two hf).1, o1⟩, by simp only [Tm.size]; rw [Nat.pow_succ]; omega⟩
  | @gfn d G A B x _ i1 =>
    intro h4 hs hd hl hG hk
    have hs2 : 1 + A.sz + B.sz + 6 * (d + 1) ≤ 31 := hs
    have hd2 : 1 + max A.dp B.dp + (d + 1) ≤ 10 := hd
    obtain ⟨w1, o1, z1⟩ := i1 (by omega) (by omega) (by omega) (by rw [List.length_cons]; omega) (fk_cons (KS.fk hk.1) hG) hk.2
    have hf : (Kd.two .fn A B).fine := ⟨by omega, by omega⟩
    exact ⟨.n1 rfl (.inr ⟨rfl, A, .fn, rfl⟩) w1 (.fn hf), ⟨rfl, (fine_two hf).1, o1⟩, by simp only [Tm.size]; rw [Nat.pow_succ]; omega⟩
/-- worths of data kinds -/
inductive Dws : W → Nat → Prop where
  | int {n d : Nat} : Dws (.int n) d
  | both {a b : W} {d : Nat} : Dws a d → Dws b d → Dws (.both a b) (d + 1)
  | left {a : W} {d : Nat} : Dws a d → Dws (.left a) (d + 1)
  | right {a : W} {d : Nat} : Dws a d → Dws (.right a) (d + 1)
theorem Sh.dws : ∀ {k : Kd} {w : W} {n : Nat}, Sh k w → k.data = true → k.dp ≤ n → Dws w n
  | .cnt, _, n, h, _, _ => by cases h; exact .int
  | .two .pair A B, _, n, h, hd, hn => by
    have hn2 : 1 + max A.dp B.dp ≤ n := hn
    simp [Kd.data] at hd
    obtain ⟨n, rfl⟩ : ∃ m, n = m + 1 := ⟨n - 1, by omega⟩
    cases h with
    | both h1 h2 => exact .both (h1.dws hd.1 (by omega)) (h2.dws hd.2 (by omega))
  | .two .sum A B, _, n, h, hd, hn => by
    have hn2 : 1 + max A.dp B.dp ≤ n := hn
    simp [Kd.data] at hd
    obtain ⟨n, rfl⟩ : ∃ m, n = m + 1 := ⟨n - 1, by omega⟩
    cases h with
    | left h1 => exact .left (h1.dws hd.1 (by omega))
    | right h1 => exact .right (h1.dws hd.2 (by omega))
  | .two .fn A B, _, n, h, hd, hn => by simp [Kd.data] at hd
end K42

/-! KR -/
/-! what stands on the heap for kinds, nodes, trees, worths, rows -/
namespace K42
open PySem PySem.Spec PyProof.Rows L2 He
/-! ### heaps -/
/-- all but what S says stands -/
def Kp (S : Addr → Prop) (H H1 : Hp) : Prop := ∀ b o, H b = some o → ¬ S b → H1 b = some o
/-- the heap without what S says -/
noncomputable def hid (S : Addr → Prop) (H : Hp) : Hp := fun b => open Classical in if S b then none else H b
/-- tuples alone -/
def tps (H : Hp) : Hp := fun b => match H b with
  | some (.tup xs) => some (.tup xs)
  | some (.frz o (.tup xs)) => some (.frz o (.tup xs))
  | _ => none
theorem hid_at {S : Addr → Prop} {H : Hp} {b : Addr} {o : HO} (h : H b = some o) (n : ¬ S b) : hid S H b = some o := by
  unfold hid
  rw [if_neg n]
  exact h
theorem of_hid {S : Addr → Prop} {H : Hp} {b : Addr} {o : HO} (h : hid S H b = some o) : H b = some o ∧ ¬ S b := by
  unfold hid at h
  split at h
  · cases h
  · rename_i n
    exact ⟨h, n⟩
theorem hid_le {S : Addr → Prop} {H : Hp} : Same (hid S H) H := fun b o e => (of_hid e).1
theorem Kp.hid {S : Addr → Prop} {H H1 : Hp} (h : Kp S H H1) : Same (hid S H) (hid S H1) := fun b o e => by
  obtain ⟨e1, n⟩ := of_hid e
  exact hid_at (h b o e1 n) n
theorem Kp.refl {S : Addr → Prop} {H : Hp} : Kp S H H := fun _ _ e _ => e
theorem Kp.trans {S : Addr → Prop} {H H1 H2 : Hp} (a : Kp S H H1) (b : Kp S H1 H2) : Kp S H H2 := fun c o e n => b c o (a c o e n) n
theorem Kp.new {S : Addr → Prop} {H : Hp} {p : Addr} {o : HO} (h : H p = none) : Kp S H (upd H p o) := fun b u e _ => by
  rw [upd_ne (ne_of_none e h)]
  exact e
theorem Kp.mut {S : Addr → Prop} {H : Hp} {p : Addr} {o : HO} (h : S p) : Kp S H (upd H p o) := fun b u e n => by
  rw [upd_ne (fun z => n (by rw [z]; exact h))]
  exact e
theorem Kp.same {S : Addr → Prop} {H H1 : Hp} (h : Same H H1) : Kp S H H1 := fun b u e _ => h b u e
theorem Kp.to {S T : Addr → Prop} {H H1 : Hp} (h : Kp S H H1) (st : ∀ b, S b → T b) : Kp T H H1 := fun b u e n => h b u e fun z => n (st b z)
/-- what S says but p, that was not there -/
theorem Kp.off {S : Addr → Prop} {H H1 : Hp} (h : Kp S H H1) (n : ∀ b, S b → H b = none) : Same H H1 := fun b o e => h b o e fun z => by
  rw [n b z] at e
  cases e
theorem same_upd {H : Hp} {p : Addr} {o : HO} (h : H p = none) : Same H (upd H p o) := fun b u e => by
  rw [upd_ne (ne_of_none e h)]
  exact e
theorem Same.sqt {K : PySem.W.Frag} {H H' : Hp} {a : Addr} {xs : List V} (e : Same H H') (h : SqT K H a xs) : SqT K H' a xs := by
  rcases h with (h | ⟨o, h⟩) | h
  · exact .inl (.inl (e _ _ h))
  · exact .inl (.inr ⟨o, e _ _ h⟩)
  · exact .inr h
theorem sqT_of {K : PySem.W.Frag} {H : Hp} {a : Addr} {xs : List V} (h : H a = some (.tup xs)) : SqT K H a xs := .inl (.inl h)
theorem sqL_of {K : PySem.W.Frag} {H : Hp} {a : Addr} {xs : List V} (h : H a = some (.lst xs)) : SqL K H a xs := .inl (.inl h)
/-! ### words -/
def Kt.w : Kt → Str
  | .pair => "pair"
  | .sum => "sum"
  | .fn => "fun"
def Nk.w : Nk → Str
  | .fn => "fun"
  | .left => "left"
  | .right => "right"
  | .turns => "turns"
def Nw.w : Nw → Str
  | .call => "call"
  | .both => "both"
  | .first => "first"
  | .second => "second"
  | .which => "which"
  | .next => "next"
  | .lt => "let"
def Nd.w : Nd → Str
  | .name _ => "name"
  | .told _ => "told"
  | .knd t _ => t.w
  | .wd t => t.w
/-! ### data -/
inductive KdAt (K : PySem.W.Frag) (H : Hp) : V → Kd → Prop where
  | cnt {a : Addr} : SqT K H a [.str "count"] → KdAt K H (.ref a) .cnt
  | two {a : Addr} {x y : V} {t : Kt} {A B : Kd} : SqT K H a [.str t.w, x, y] → KdAt K H x A → KdAt K H y B → KdAt K H (.ref a) (.two t A B)
inductive NdAt (K : PySem.W.Frag) (H : Hp) : V → Nd → Prop where
  | name {a : Addr} {i : Nat} : SqT K H a [.str "name", .int i] → NdAt K H (.ref a) (.name i)
  | told {a : Addr} {i : Nat} : SqT K H a [.str "told", .int i] → NdAt K H (.ref a) (.told i)
  | knd {a : Addr} {x : V} {t : Nk} {A : Kd} : SqT K H a [.str t.w, x] → KdAt K H x A → NdAt K H (.ref a) (.knd t A)
  | wd {a : Addr} {t : Nw} : SqT K H a [.str t.w] → NdAt K H (.ref a) (.wd t)
/-- item by item -/
inductive Al {α : Type} (R : V → α → Prop) : List V → List α → Prop where
  | nil : Al R [] []
  | cons {v : V} {a : α} {vs : List V} {as : List α} : R v a → Al R vs as → Al R (v :: vs) (a :: as)
/-- a node of a tree: the node, its place, the list of its children -/
inductive TrAt (K : PySem.W.Frag) (H : Hp) : V → Nat → Tm → Prop where
  | n0 {a l : Addr} {v : V} {p : Nat} {n : Nd} : SqT K H a [v, .int p, .ref l] → NdAt K H v n → SqL K H l [] → TrAt K H (.ref a) p (.n0 n)
  | n1 {a l : Addr} {v x : V} {p : Nat} {n : Nd} {t : Tm} : SqT K H a [v, .int p, .ref l] → NdAt K H v n → SqL K H l [x] → TrAt K H x (p + 1) t → TrAt K H (.ref a) p (.n1 n t)
  | n2 {a l : Addr} {v x y : V} {p : Nat} {n : Nd} {t u : Tm} : SqT K H a [v, .int p, .ref l] → NdAt K H v n → SqL K H l [x, y] → TrAt K H x (p + 1) t → TrAt K H y (p + 1 + t.size) u → TrAt K H (.ref a) p (.n2 n t u)
  | n3 {a l : Addr} {v x y z : V} {p : Nat} {n : Nd} {t u s : Tm} : SqT K H a [v, .int p, .ref l] → NdAt K H v n → SqL K H l [x, y, z] → TrAt K H x (p + 1) t → TrAt K H y (p + 1 + t.size) u → TrAt K H z (p + 1 + t.size + u.size) s →
      TrAt K H (.ref a) p (.n3 n t u s)
/-- a worth, a row of worths, as the law has them -/
inductive LwAt (K : PySem.W.Frag) (H : Hp) : V → Sum W (List W) → Prop where
  | int {n : Nat} : LwAt K H (.int n) (.inl (.int n))
  | both {a : Addr} {x y : V} {u v : W} : SqT K H a [.str "both", x, y] → LwAt K H x (.inl u) → LwAt K H y (.inl v) → LwAt K H (.ref a) (.inl (.both u v))
  | left {a : Addr} {x : V} {u : W} : SqT K H a [.str "left", x] → LwAt K H x (.inl u) → LwAt K H (.ref a) (.inl (.left u))
  | right {a : Addr} {x : V} {u : W} : SqT K H a [.str "right", x] → LwAt K H x (.inl u) → LwAt K H (.ref a) (.inl (.right u))
  | made {a : Addr} {x y : V} {p : Nat} {k : Kd} {b : Tm} {r : List W} : SqT K H a [.str "made", x, y] → TrAt K H x p (.n1 (.knd .fn k) b) → LwAt K H y (.inr r) → LwAt K H (.ref a) (.inl (.made p k b r))
  | row {a : Addr} {vs : List V} {r : List W} : SqL K H a vs → vs.length = r.length → (∀ (i : Nat) (v : V) (w : W), vs[i]? = some v → r[i]? = some w → LwAt K H v (.inl w)) → LwAt K H (.ref a) (.inr r)
/-- a worth, a row of worths, as the machine has them (Z: the program) -/
inductive MwAt (K : PySem.W.Frag) (H : Hp) (Z : Tm) : V → Sum W (List W) → Prop where
  | int {n : Nat} : MwAt K H Z (.int n) (.inl (.int n))
  | both {a : Addr} {x y : V} {u v : W} : SqT K H a [.str "both", x, y] → MwAt K H Z x (.inl u) → MwAt K H Z y (.inl v) → MwAt K H Z (.ref a) (.inl (.both u v))
  | left {a : Addr} {x : V} {u : W} : SqT K H a [.str "left", x] → MwAt K H Z x (.inl u) → MwAt K H Z (.ref a) (.inl (.left u))
  | right {a : Addr} {x : V} {u : W} : SqT K H a [.str "right", x] → MwAt K H Z x (.inl u) → MwAt K H Z (.ref a) (.inl (.right u))
  | made {a : Addr} {y : V} {p : Nat} {k : Kd} {b : Tm} {r : List W} : SqT K H a [.str "made", .int p, y] → At Z p (.n1 (.knd .fn k) b) → MwAt K H Z y (.inr r) → MwAt K H Z (.ref a) (.inl (.made p k b r))
  | nil {a : Addr} : SqT K H a [] → MwAt K H Z (.ref a) (.inr [])
  | cons {a : Addr} {x y : V} {w : W} {r : List W} : SqT K H a [x, y] → MwAt K H Z x (.inl w) → MwAt K H Z y (.inr r) → MwAt K H Z (.ref a) (.inr (w :: r))
section
variable {K : PySem.W.Frag} {H H1 : Hp}
theorem KdAt.mono (e : Same H H1) {v : V} {k : Kd} (h : KdAt K H v k) : KdAt K H1 v k := by
  induction h with
  | cnt h => exact .cnt (Same.sqt e h)
  | two h _ _ i1 i2 => exact .two (Same.sqt e h) i1 i2
theorem NdAt.mono (e : Same H H1) {v : V} {n : Nd} (h : NdAt K H v n) : NdAt K H1 v n := by
  cases h with
  | name h => exact .name (Same.sqt e h)
  | told h => exact .told (Same.sqt e h)
  | knd h k => exact .knd (Same.sqt e h) (k.mono e)
  | wd h => exact .wd (Same.sqt e h)
theorem Al.imp {α : Type} {R S : V → α → Prop} {vs : List V} {as : List α} (h : Al R vs as) (f : ∀ v a, R v a → S v a) : Al S vs as := by
  induction h with
  | nil => exact .nil
  | cons h _ ih => exact .cons (f _ _ h) ih
theorem Al.len {α : Type} {R : V → α → Prop} {vs : List V} {as : List α} (h : Al R vs as) : vs.length = as.length := by
  induction h with
  | nil => rfl
  | cons h _ ih => exact congrArg Nat.succ ih
theorem Al.app {α : Type} {R : V → α → Prop} {vs us : List V} {as bs : List α} (h : Al R vs as) (g : Al R us bs) : Al R (vs ++ us) (as ++ bs) := by
  induction h with
  | nil => exact g
  | cons h _ ih => exact .cons h ih
theorem Al.get {α : Type} {R : V → α → Prop} {vs : List V} {as : List α} (h : Al R vs as) : ∀ {i : Nat} {a : α}, as[i]? = some a → ∃ v, vs[i]? = some v ∧ R v a := by
  induction h with
  | nil => intro i a e; simp at e
  | cons h _ ih =>
    intro i a e
    cases i with
    | zero => exact ⟨_, rfl, by simp at e; exact e ▸ h⟩
    | succ i => exact ih (by simpa using e)
theorem Al.getV {α : Type} {R : V → α → Prop} {vs : List V} {as : List α} (h : Al R vs as) : ∀ {i : Nat} {v : V}, vs[i]? = some v → ∃ a, as[i]? = some a ∧ R v a := by
  induction h with
  | nil => intro i a e; simp at e
  | cons h _ ih =>
    intro i a e
    cases i with
    | zero => exact ⟨_, rfl, by simp at e; exact e ▸ h⟩
    | succ i => exact ih (by simpa using e)
theorem TrAt.mono (e : Same H H1) {v : V} {p : Nat} {t : Tm} (h : TrAt K H v p t) : TrAt K H1 v p t := by
  induction h with
  | n0 h1 h2 h3 => exact .n0 (Same.sqt e h1) (h2.mono e) (e.seq h3)
  | n1 h1 h2 h3 _ i1 => exact .n1 (Same.sqt e h1) (h2.mono e) (e.seq h3) i1
  | n2 h1 h2 h3 _ _ i1 i2 => exact .n2 (Same.sqt e h1) (h2.mono e) (e.seq h3) i1 i2
  | n3 h1 h2 h3 _ _ _ i1 i2 i3 => exact .n3 (Same.sqt e h1) (h2.mono e) (e.seq h3) i1 i2 i3
theorem LwAt.mono (e : Same H H1) {v : V} {w : Sum W (List W)} (h : LwAt K H v w) : LwAt K H1 v w := by
  induction h with
  | int => exact .int
  | both h _ _ i1 i2 => exact .both (Same.sqt e h) i1 i2
  | left h _ i1 => exact .left (Same.sqt e h) i1
  | right h _ i1 => exact .right (Same.sqt e h) i1
  | made h t _ i1 => exact .made (Same.sqt e h) (t.mono e) i1
  | row h l _ i1 => exact .row (e.seq h) l i1
theorem MwAt.mono {Z : Tm} (e : Same H H1) {v : V} {w : Sum W (List W)} (h : MwAt K H Z v w) : MwAt K H1 Z v w := by
  induction h with
  | int => exact .int
  | both h _ _ i1 i2 => exact .both (Same.sqt e h) i1 i2
  | left h _ i1 => exact .left (Same.sqt e h) i1
  | right h _ i1 => exact .right (Same.sqt e h) i1
  | made h t _ i1 => exact .made (Same.sqt e h) t i1
  | nil h => exact .nil (Same.sqt e h)
  | cons h _ _ i1 i2 => exact .cons (Same.sqt e h) i1 i2
/-- a node's tuple: its word, then one thing or none -/
theorem NdAt.tup {v : V} {n : Nd} (h : NdAt K H v n) : ∃ a xs, v = .ref a ∧ SqT K H a (.str n.w :: xs) ∧ (xs = [] ∨ ∃ x, xs = [x]) := by
  cases h with
  | name h => exact ⟨_, _, rfl, h, .inr ⟨_, rfl⟩⟩
  | told h => exact ⟨_, _, rfl, h, .inr ⟨_, rfl⟩⟩
  | knd h k => exact ⟨_, _, rfl, h, .inr ⟨_, rfl⟩⟩
  | wd h => exact ⟨_, _, rfl, h, .inl rfl⟩
/-- a kind's tuple: its word, then two things or none -/
theorem KdAt.tup {v : V} {k : Kd} (h : KdAt K H v k) : ∃ a, v = .ref a ∧ (k = .cnt ∧ SqT K H a [.str "count"] ∨ ∃ t A B x y, k = .two t A B ∧ SqT K H a [.str t.w, x, y] ∧ KdAt K H x A ∧ KdAt K H y B) := by
  cases h with
  | cnt h => exact ⟨_, rfl, .inl ⟨rfl, h⟩⟩
  | two h h1 h2 => exact ⟨_, rfl, .inr ⟨_, _, _, _, _, rfl, h, h1, h2⟩⟩
end
end K42

/-! KU -/
/-! short ways through readings -/
namespace K42
open PySem PySem.Spec PyProof.Rows L2 He
section
variable {X : Cx} {x : Str} {pos : Pos} {i : Int} {z : Str} {a : Addr}
theorem pe_gi (h : ∃ t, X.mg x = some (.int i t)) (hg : Gl X x := by rfl) (hd : (x == ("__debug__" : Str)) = false := by decide) : PE X (.Name x pos) (tC (.int i)) := by
  obtain ⟨t, h⟩ := h
  exact pe_glob hg h ⟨_, rfl⟩ hd
theorem pe_gs (h : ∃ t, X.mg x = some (.str z t)) (hg : Gl X x := by rfl) (hd : (x == ("__debug__" : Str)) = false := by decide) : PE X (.Name x pos) (tC (.str z)) := by
  obtain ⟨t, h⟩ := h
  exact pe_glob hg h ⟨_, rfl⟩ hd
theorem pe_gr (h : X.mg x = some (.ref a)) (hg : Gl X x := by rfl) (hd : (x == ("__debug__" : Str)) = false := by decide) : PE X (.Name x pos) (tC (.ref a)) := pe_glob hg h rfl hd
theorem pe_gt {n : String} (h : X.mg x = none) (hv : bootBuiltins x = some (.type n)) (hg : Gl X x := by rfl) (hn : x ≠ "__name__" := by decide) (hd : (x == ("__debug__" : Str)) = false := by decide) : PE X (.Name x pos) (tC (.ty n)) := pe_bltn hg h hv rfl hn hd
end
theorem hu64 {A : Around} {k : Nat} (hr : Room k A) : A.units + 64 < cLine := hr.units
section
variable {K : PySem.W.Frag} {H : Hp} {a : Addr} {xs : List V} {Q : VK} {v : V}
theorem tyx_tup (h : SqT K H a xs) : TyX K H (.ref a) (.type "tuple") := by
  rcases h with (h | ⟨o, h⟩) | ⟨o, its, n, h, c, _⟩
  · exact .base (.tup h)
  · exact .fTuple h
  · exact .kTuple h c
theorem tyx_lst (h : SqL K H a xs) : TyX K H (.ref a) (.type "list") := by
  rcases h with (h | ⟨o, h⟩) | ⟨o, its, n, h, c, _⟩
  · exact .base (.lst h)
  · exact .base (.frz h)
  · exact .kList h c
/-- isinstance(v, n), v of the type T -/
theorem isi_go {n T : String} {b : Bool} (h : TyX K H v (.type T)) (e : kitB T n = some b) (q : Q (.bl b) H) : rIsi K [v, .ty n] H Q :=
  ⟨v, .ty n, _, _, b, rfl, .ty n, h, kit_ty e, q⟩
theorem tyx_int {i : Int} : TyX K H (.int i) (.type "int") := .base (.int i)
theorem tyx_str {z : Str} : TyX K H (.str z) (.type "str") := .base (.str z)
/-- an item of a tuple, of a list -/
theorem ixt_go {i : Int} (h : SqT K H a xs) (e : atI xs i = some v) (q : Q v H) : rIxT K (.ref a) (.int i) H Q := ⟨a, xs, i, v, rfl, rfl, h, e, q⟩
theorem ixl_go {i : Int} (h : SqL K H a xs) (e : atI xs i = some v) (q : Q v H) : rIxL K (.ref a) (.int i) H Q := ⟨a, xs, i, v, rfl, rfl, h, e, q⟩
end
/-- the length of a tuple, of a list -/
def rLn (K : PySem.W.Frag) : List V → Hp → VK → Prop := fun xs H Q => ∃ p ys, xs = [.ref p] ∧ (SqL K H p ys ∨ SqT K H p ys) ∧ Q (.int ys.length) H
theorem call_ln {X : Cx} : CallR X (.builtin "len") (rLn X.K) := call_len_seq
section
variable {K : PySem.W.Frag} {H : Hp} {a : Addr} {xs : List V} {Q : VK}
theorem lnt_go (h : SqT K H a xs) (q : Q (.int xs.length) H) : rLn K [.ref a] H Q := ⟨a, xs, rfl, .inr h, q⟩
theorem lnl_go (h : SqL K H a xs) (q : Q (.int xs.length) H) : rLn K [.ref a] H Q := ⟨a, xs, rfl, .inl h, q⟩
end
theorem line_ge {n : Nat} (h : n ≤ 100000) : n ≤ sizeLine := Nat.le_trans h (by decide)
theorem line_gt {n : Nat} (h : n < 100000) : n < sizeLine := Nat.lt_of_lt_of_le h (by decide)
section
variable {A B : Prop} {c : Bool}
theorem ifT (h : c = true) (x : A) : if c = true then A else B := by rw [if_pos h]; exact x
theorem ifF (h : c = false) (x : B) : if c = true then A else B := by rw [if_neg (by rw [h]; exact Bool.false_ne_true)]; exact x
end
/-- e[i] of a written tuple place -/
theorem at0 {x : V} {r : List V} : atI (x :: r) 0 = some x := atI_nat (j := 0) rfl
theorem at1 {x y : V} {r : List V} : atI (x :: y :: r) 1 = some y := atI_nat (j := 1) rfl
theorem at2 {x y z : V} {r : List V} : atI (x :: y :: z :: r) 2 = some z := atI_nat (j := 2) rfl
theorem at3 {x y z u : V} {r : List V} : atI (x :: y :: z :: u :: r) 3 = some u := atI_nat (j := 3) rfl
end K42

/-! KX -/
/-! a reading, part by part: each lemma has one part at its head -/
namespace K42
open PySem PySem.Spec L2 He
/-! what is still asked of a part's value -/
def KB (Q : Bool → Hp → Prop) : VK := fun x H1 => ∃ k, x = .bl k ∧ Q k H1
def KTup (Q : VK) : List V → Hp → Prop := fun xs H1 => xs.length ≤ sizeLine ∧ ∀ p, H1 p = none → Q (.ref p) (upd H1 p (.tup xs))
def KLst (Q : VK) : List V → Hp → Prop := fun xs H1 => xs.length ≤ sizeLine ∧ ∀ p, H1 p = none → Q (.ref p) (upd H1 p (.lst xs))
def KFld (K : PySem.W.Frag) (f : Str) (Q : VK) : VK := fun x H1 => ∃ a C dx fs v, x = .ref a ∧ H1 a = some (.ins C dx fs) ∧ Cls K C ∧ NoAttr K C f ∧ fs.lookup f = some v ∧ Q v H1
def KMet (C : Addr) (m : Str) (sp : Sp) (E : XK) (t : TA) (σ : St) (Q : VK) : VK := fun x H1 => ∃ a dx fs, x = .ref a ∧ H1 a = some (.ins C dx fs) ∧ fs.lookup m = none ∧ t σ H1 fun vs H2 => sp (x :: vs) H2 Q E
def KBm (K : PySem.W.Frag) (T : String) (r : V → List V → Hp → VK → Prop) (t : TA) (σ : St) (Q : VK) : VK := fun x H1 => tyV K T x H1 ∧ t σ H1 fun xs H2 => r x xs H2 Q
def KSt (K : PySem.W.Frag) (f : Str) (y : V) (Q : Hp → Prop) : VK := fun x H2 => ∃ a C dx fs, x = .ref a ∧ H2 a = some (.ins C dx fs) ∧ Cls K C ∧ NoAttr K C f ∧ fs.length < 1000 ∧ Q (upd H2 a (.ins C dx (putF f y fs)))
def KMk (C : Addr) (sp : Sp) (E : XK) (Q : VK) : List V → Hp → Prop := fun vs H1 => ∀ x dx, H1 x = none → H1 dx = none → dx ≠ x →
  sp (.ref x :: vs) (upd (upd H1 dx (.own x)) x (.ins C dx [])) (fun v H2 => v = .non ∧ Q (.ref x) H2) E
def KPar (i j : Nat) (σ : St) (Q : St → Hp → Prop) : List V → Hp → Prop := fun vs H1 => ∃ v w, vs = [v, w] ∧ Q ((σ.set i (some v)).set j (some w)) H1
def KPar3 (i j l : Nat) (σ : St) (Q : St → Hp → Prop) : List V → Hp → Prop := fun vs H1 => ∃ u v w, vs = [u, v, w] ∧ Q (((σ.set i (some u)).set j (some v)).set l (some w)) H1
def KPrp (C : Addr) (sp : Sp) (E : XK) (Q : VK) : VK := fun x H1 => ∃ a dx fs, x = .ref a ∧ H1 a = some (.ins C dx fs) ∧ sp [.ref a] H1 Q E
section
variable {K : PySem.W.Frag} {σ : St} {H : Hp} {Q : VK} {B : Bool → Hp → Prop} {D : Ends} {ta tb te : TE} {t u : TT} {ts us : TS} {r : R2} {tl : TA} {v : V} {sp : Sp} {E : XK} {C : Addr} {f m : Str}
theorem rd_var {i : Nat} (h : σ[i]? = some (some v)) (q : Q v H) : tVar i σ H Q := ⟨v, h, q⟩
theorem rd_c (q : Q v H) : tC v σ H Q := q
theorem rd_cb {r : List V → Hp → VK → Prop} (q : tl σ H fun vs H1 => r vs H1 Q) : tCB r tl σ H Q := q
theorem rd_cons {Q : List V → Hp → Prop} (q : te σ H fun x H1 => tl σ H1 fun xs H2 => Q (x :: xs) H2) : tCons te tl σ H Q := q
theorem rd_nil {Q : List V → Hp → Prop} (q : Q [] H) : tNil σ H Q := q
theorem rd_op (q : ta σ H fun x H1 => tb σ H1 fun y H2 => r x y H2 Q) : tOp r ta tb σ H Q := q
theorem rd_un {r : V → Hp → VK → Prop} (q : ta σ H fun x H1 => r x H1 Q) : tUn r ta σ H Q := q
theorem rd_test (q : te σ H (KB B)) : tTest te σ H B := q
theorem rd_tb (q : te σ H (KB B)) : tB te σ H B := q
theorem rd_and (q : t σ H fun c H1 => if c = true then u σ H1 B else B false H1) : tAnd t u σ H B := q
theorem rd_or (q : t σ H fun c H1 => if c = true then B true H1 else u σ H1 B) : tOr t u σ H B := q
theorem rd_not (q : t σ H fun c H1 => B (!c) H1) : tNot t σ H B := q
theorem rd_andv (q : ta σ H (KB fun c H1 => if c = true then tb σ H1 Q else Q (.bl false) H1)) : tAndV ta tb σ H Q := q
theorem rd_orv (q : ta σ H (KB fun c H1 => if c = true then Q (.bl true) H1 else tb σ H1 Q)) : tOrV ta tb σ H Q := q
theorem rd_notv (q : ta σ H (KB fun c H1 => Q (.bl (!c)) H1)) : tNotV ta σ H Q := q
theorem rd_if (q : t σ H fun c H1 => if c = true then ta σ H1 Q else tb σ H1 Q) : tIf t ta tb σ H Q := q
theorem rd_ifs (q : t σ H fun b H1 => if b = true then ts D σ H1 else us D σ H1) : tIfS t ts us D σ H := q
theorem rd_ret (q : te σ H D.rt) : tRet te D σ H := q
theorem rd_retn (q : D.rt .non H) : tRetN D σ H := q
theorem rd_seq (q : ts { D with nx := us D } σ H) : tSeq ts us D σ H := q
theorem rd_nx (q : D.nx σ H) : tNext D σ H := q
theorem rd_drop (q : te σ H fun _ H1 => D.nx σ H1) : tDrop te D σ H := q
theorem rd_asg {g : TG} (q : te σ H fun x H1 => g x σ H1 D.nx) : tAsg te g D σ H := q
theorem rd_name {i : Nat} {Q : St → Hp → Prop} (q : Q (σ.set i (some v)) H) : gName i v σ H Q := q
theorem rd_par {i j : Nat} (q : tl σ H (KPar i j σ D.nx)) : tPar i j tl D σ H := q
theorem rd_par3 {i j l : Nat} (q : tl σ H (KPar3 i j l σ D.nx)) : tPar3 i j l tl D σ H := q
theorem rd_tup (q : tl σ H (KTup Q)) : tTup tl σ H Q := q
theorem rd_lst (q : tl σ H (KLst Q)) : tLst tl σ H Q := q
theorem rd_call (q : tl σ H fun vs H1 => sp vs H1 Q E) : tCall sp [] E tl σ H Q := by
  have e : (fun vs H1 => sp (vs ++ []) H1 Q E) = fun vs H1 => sp vs H1 Q E := by
    funext vs H1
    rw [List.append_nil]
  unfold tCall
  rw [e]
  exact q
theorem rd_meth (q : ta σ H (KMet C m sp E tl σ Q)) : tMeth C m sp [] E ta tl σ H Q := by
  have e : (fun x H1 => ∃ a dx fs, x = V.ref a ∧ H1 a = some (.ins C dx fs) ∧ fs.lookup m = none ∧ tl σ H1 fun vs H2 => sp (x :: (vs ++ [])) H2 Q E) = KMet C m sp E tl σ Q := by
    funext x H1
    unfold KMet
    simp only [List.append_nil]
  unfold tMeth
  rw [e]
  exact q
theorem rd_make (q : tl σ H (KMk C sp E Q)) : tMake C sp [] E tl σ H Q := by
  have e : (fun vs H1 => ∀ x dx, H1 x = none → H1 dx = none → dx ≠ x → sp (V.ref x :: (vs ++ [])) (upd (upd H1 dx (.own x)) x (.ins C dx [])) (fun v H2 => v = .non ∧ Q (.ref x) H2) E) = KMk C sp E Q := by
    funext vs H1
    unfold KMk
    simp only [List.append_nil]
  unfold tMake
  rw [e]
  exact q
theorem rd_fld (q : ta σ H (KFld K f Q)) : tFld K ta f σ H Q := q
theorem rd_sfld (q : tb σ H fun y H1 => ta σ H1 (KSt K f y fun H2 => D.nx σ H2)) : sFld K ta tb f D σ H := q
theorem rd_bm {T : String} {r : V → List V → Hp → VK → Prop} (q : ta σ H (KBm K T r tl σ Q)) : tBM K T r ta tl σ H Q := q
theorem rd_bm0 {T : String} {r : V → List V → Hp → VK → Prop} (q : ta σ H (KBm K T r tNil σ Q)) : tBM0 K T r ta σ H Q := q
theorem rd_prop (q : ta σ H (KPrp C sp E Q)) : tProp C sp [] E ta σ H Q := q
theorem rd_dget {td ty : TE} (q : td σ H fun x H1 => ty σ H1 fun y H2 => ∃ a v, x = .ref a ∧ DGet H2 a y (some v) ∧ Q v H2) : tDGet td ty σ H Q := q
theorem rd_dnin {td ty : TE} (q : ty σ H fun y H1 => td σ H1 fun x H2 => ∃ a o, x = .ref a ∧ DGet H2 a y o ∧ Q (.bl (!o.isSome)) H2) : tDNotIn ty td σ H Q := q
theorem rd_chain {r' : R2} {tc : TE} (q : ta σ H fun x H1 => tb σ H1 fun y H2 => r x y H2 (KB fun k H3 => if k = true then tc σ H3 fun w' H4 => r' y w' H4 Q else Q (.bl false) H3)) : tChain r r' ta tb tc σ H Q := q
theorem rd_sub {to ti : TE} {s : TSet} {Q : St → Hp → Prop} (q : to σ H fun o H1 => ti σ H1 fun i H2 => s o i v H2 fun H3 => Q σ H3) : gSub to ti s v σ H Q := q
/-! the values -/
theorem kb_go {k : Bool} (q : B k H) : KB B (.bl k) H := ⟨k, rfl, q⟩
theorem kpar_go {i j : Nat} {x y : V} {Q : St → Hp → Prop} (q : Q ((σ.set i (some x)).set j (some y)) H) : KPar i j σ Q [x, y] H := ⟨x, y, rfl, q⟩
theorem kpar3_go {i j l : Nat} {x y z : V} {Q : St → Hp → Prop} (q : Q (((σ.set i (some x)).set j (some y)).set l (some z)) H) : KPar3 i j l σ Q [x, y, z] H := ⟨x, y, z, rfl, q⟩
theorem ktup_go {xs : List V} (h : xs.length ≤ 100000) (q : ∀ p, H p = none → Q (.ref p) (upd H p (.tup xs))) : KTup Q xs H := ⟨line_ge h, q⟩
theorem klst_go {xs : List V} (h : xs.length ≤ 100000) (q : ∀ p, H p = none → Q (.ref p) (upd H p (.lst xs))) : KLst Q xs H := ⟨line_ge h, q⟩
theorem kfld_go {a dx : Addr} {fs : List (Str × V)} (h : H a = some (.ins C dx fs)) (c : Cls K C) (n : NoAttr K C f) (l : fs.lookup f = some v) (q : Q v H) : KFld K f Q (.ref a) H := ⟨a, C, dx, fs, v, rfl, h, c, n, l, q⟩
theorem kmet_go {a dx : Addr} {fs : List (Str × V)} (h : H a = some (.ins C dx fs)) (l : fs.lookup m = none) (q : tl σ H fun vs H2 => sp (.ref a :: vs) H2 Q E) : KMet C m sp E tl σ Q (.ref a) H := ⟨a, dx, fs, rfl, h, l, q⟩
theorem kprp_go {a dx : Addr} {fs : List (Str × V)} (h : H a = some (.ins C dx fs)) (q : sp [.ref a] H Q E) : KPrp C sp E Q (.ref a) H := ⟨a, dx, fs, rfl, h, q⟩
theorem kst_go {a dx : Addr} {fs : List (Str × V)} {y : V} {Q : Hp → Prop} (h : H a = some (.ins C dx fs)) (c : Cls K C) (n : NoAttr K C f) (l : fs.length < 1000) (q : Q (upd H a (.ins C dx (putF f y fs)))) : KSt K f y Q (.ref a) H :=
  ⟨a, C, dx, fs, rfl, h, c, n, l, q⟩
theorem kbm_go {l : Addr} {xs : List V} {r : V → List V → Hp → VK → Prop} (h : H l = some (.lst xs)) (q : tl σ H fun zs H2 => r (.ref l) zs H2 Q) : KBm K "list" r tl σ Q (.ref l) H := ⟨.inl ⟨rfl, _, sqL_of h⟩, q⟩
theorem app_go {l : Addr} {xs : List V} (h : H l = some (.lst xs)) (hz : xs.length < 100000) (q : Q .non (upd H l (.lst (xs ++ [v])))) : rAppend (.ref l) [v] H Q := ⟨l, xs, v, rfl, rfl, h, line_gt hz, q⟩
theorem app_goW {l : Addr} {xs : List V} (h : H l = some (.lst xs)) (hz : xs.length < sizeLine) (q : Q .non (upd H l (.lst (xs ++ [v])))) : rAppend (.ref l) [v] H Q := ⟨l, xs, v, rfl, rfl, h, hz, q⟩
theorem ext_go {l b : Addr} {xs zs : List V} (h : H l = some (.lst xs)) (hb : H b = some (.lst zs)) (hz : xs.length + zs.length ≤ 100000) (q : Q .non (upd H l (.lst (xs ++ zs)))) : rExtend (.ref l) [.ref b] H Q :=
  ⟨l, b, xs, zs, rfl, rfl, h, hb, line_ge hz, q⟩
theorem pop_go {l : Addr} {xs : List V} (h : H l = some (.lst (xs ++ [v]))) (q : Q v (upd H l (.lst xs))) : rPop (.ref l) [] H Q :=
  ⟨l, xs ++ [v], v, rfl, rfl, h, by simp, by rw [List.dropLast_concat]; exact q⟩
theorem ru_go {g : Int → V} {i : Int} (q : Q (g i) H) : rU g (.int i) H Q := ⟨i, rfl, q⟩
theorem rset_go {l : Addr} {xs : List V} {j : Nat} {B : Hp → Prop} (h : H l = some (.lst xs)) (hj : j < xs.length) (q : B (upd H l (.lst (xs.set j v)))) : rSetL (.ref l) (.int j) v H B :=
  ⟨l, xs, j, j, rfl, rfl, h, by unfold ixN; rw [if_pos (by omega), if_pos (by omega)]; simp, q⟩
theorem ri0_go {g : Int → Int → V} {i j : Int} (q : Q (g i j) H) : rI0 g (.int i) (.int j) H Q := ⟨i, j, rfl, rfl, q⟩
theorem ri_go {c : Int → Int → Prop} {g : Int → Int → V} {i j : Int} (h : c i j) (q : Q (g i j) H) : rI c g (.int i) (.int j) H Q := ⟨i, j, rfl, rfl, h, q⟩
theorem req_go {x y : V} (h : scal x y = true) (q : Q (.bl (decide (x = y))) H) : rEq x y H Q := ⟨h, q⟩
theorem rne_go {x y : V} (h : scal x y = true) (q : Q (.bl (!decide (x = y))) H) : rNe x y H Q := ⟨h, q⟩
theorem reqS_go {x y : Str} {b : Bool} (e : decide (x = y) = b) (q : Q (.bl b) H) : rEq (.str x) (.str y) H Q := by
  refine ⟨rfl, ?_⟩
  have e2 : decide (V.str x = V.str y) = b := by
    rw [← e]
    exact decide_eq_decide.mpr ⟨fun z => V.str.inj z, fun z => congrArg _ z⟩
  rw [e2]
  exact q
theorem rneS_go {x y : Str} {b : Bool} (e : decide (x = y) = b) (q : Q (.bl (!b)) H) : rNe (.str x) (.str y) H Q := by
  refine ⟨rfl, ?_⟩
  have e2 : decide (V.str x = V.str y) = b := by
    rw [← e]
    exact decide_eq_decide.mpr ⟨fun z => V.str.inj z, fun z => congrArg _ z⟩
  rw [e2]
  exact q
theorem reqI_go {x y : Int} (q : Q (.bl (decide (x = y))) H) : rEq (.int x) (.int y) H Q := by
  refine ⟨rfl, ?_⟩
  have e2 : decide (V.int x = V.int y) = decide (x = y) := decide_eq_decide.mpr ⟨fun z => V.int.inj z, fun z => congrArg _ z⟩
  rw [e2]
  exact q
theorem rneI_go {x y : Int} (q : Q (.bl (!decide (x = y))) H) : rNe (.int x) (.int y) H Q := by
  refine ⟨rfl, ?_⟩
  have e2 : decide (V.int x = V.int y) = decide (x = y) := decide_eq_decide.mpr ⟨fun z => V.int.inj z, fun z => congrArg _ z⟩
  rw [e2]
  exact q
/-- x in (a, b, ..) -/
theorem rin_go {p : Addr} {xs : List V} {x : V} {b : Bool} (h : SqT K H p xs) (hx : flatV x = true) (ha : xs.all flatV = true) (e : inV x xs = b) (q : Q (.bl b) H) : rIn K false x (.ref p) H Q := by
  refine ⟨p, xs, rfl, .inr h, hx, ha, ?_⟩
  rw [← e] at q
  exact q
end
def iv (n : Nat) : V := .int (n : Int)
theorem len_ok {n : Nat} (h : Nat.ble n 100000 = true := by rfl) : n ≤ 100000 := Nat.le_of_ble_eq_true h
/-- tuples stand -/
structure TpS (H H1 : Hp) : Prop where
  t : ∀ p xs, H p = some (.tup xs) → H1 p = some (.tup xs)
  z : ∀ p o xs, H p = some (.frz o (.tup xs)) → H1 p = some (.frz o (.tup xs))
theorem TpS.refl {H : Hp} : TpS H H := ⟨fun _ _ h => h, fun _ _ _ h => h⟩
theorem TpS.trans {H H1 H2 : Hp} (a : TpS H H1) (b : TpS H1 H2) : TpS H H2 := ⟨fun p xs h => b.t p xs (a.t p xs h), fun p o xs h => b.z p o xs (a.z p o xs h)⟩
theorem TpS.new {H : Hp} {p : Addr} {o : HO} (h : H p = none) : TpS H (upd H p o) := ⟨fun b u e => by
  rw [upd_ne (ne_of_none e h)]
  exact e, fun b o u e => by
  rw [upd_ne (ne_of_none e h)]
  exact e⟩
theorem TpS.lst {H : Hp} {l : Addr} {xs : List V} {o : HO} (h : H l = some (.lst xs)) : TpS H (upd H l o) := ⟨fun b u e => by
  rw [upd_ne (ne_of e h (by intro z; cases z))]
  exact e, fun b o u e => by
  rw [upd_ne (ne_of e h (by intro z; cases z))]
  exact e⟩
theorem TpS.ins {H : Hp} {l C dx : Addr} {fs : List (Str × V)} {o : HO} (h : H l = some (.ins C dx fs)) : TpS H (upd H l o) := ⟨fun b u e => by
  rw [upd_ne (ne_of e h (by intro z; cases z))]
  exact e, fun b o u e => by
  rw [upd_ne (ne_of e h (by intro z; cases z))]
  exact e⟩
theorem TpS.same {H H1 : Hp} (h : Same H H1) : TpS H H1 := ⟨fun p xs e => h p _ e, fun p o xs e => h p _ e⟩
theorem TpS.kp {S : Addr → Prop} {H H1 : Hp} (h : Kp S H H1) (n : ∀ b, S b → ∀ xs, H b ≠ some (.tup xs)) (m : ∀ b, S b → ∀ o xs, H b ≠ some (.frz o (.tup xs))) : TpS H H1 := ⟨fun p xs e => h p _ e fun z => n p z xs e, fun p o xs e => h p _ e fun z => m p z o xs e⟩
theorem TpS.sqt {K : PySem.W.Frag} {H H' : Hp} {a : Addr} {xs : List V} (e : TpS H H') (h : SqT K H a xs) : SqT K H' a xs := by
  rcases h with (h | ⟨o, h⟩) | h
  · exact .inl (.inl (e.t _ _ h))
  · exact .inl (.inr ⟨o, e.z _ _ _ h⟩)
  · exact .inr h
section
variable {K : PySem.W.Frag} {H H1 : Hp}
theorem KdAt.tp (e : TpS H H1) {v : V} {k : Kd} (h : KdAt K H v k) : KdAt K H1 v k := by
  induction h with
  | cnt h => exact .cnt (e.sqt h)
  | two h _ _ i1 i2 => exact .two (e.sqt h) i1 i2
theorem NdAt.tp (e : TpS H H1) {v : V} {n : Nd} (h : NdAt K H v n) : NdAt K H1 v n := by
  cases h with
  | name h => exact .name (e.sqt h)
  | told h => exact .told (e.sqt h)
  | knd h k => exact .knd (e.sqt h) (k.tp e)
  | wd h => exact .wd (e.sqt h)
theorem MwAt.tp {Z : Tm} (e : TpS H H1) {v : V} {w : Sum W (List W)} (h : MwAt K H Z v w) : MwAt K H1 Z v w := by
  induction h with
  | int => exact .int
  | both h _ _ i1 i2 => exact .both (e.sqt h) i1 i2
  | left h _ i1 => exact .left (e.sqt h) i1
  | right h _ i1 => exact .right (e.sqt h) i1
  | made h t _ i1 => exact .made (e.sqt h) t i1
  | nil h => exact .nil (e.sqt h)
  | cons h _ _ i1 i2 => exact .cons (e.sqt h) i1 i2
end
/-- what is new behind H may change -/
theorem same_mut {H H1 : Hp} {p : Addr} {o : HO} (e : Same H H1) (h : H p = none) : Same H (upd H1 p o) := fun b u q => by
  rw [upd_ne (ne_of_none q h)]
  exact e b u q
theorem gt2_go {K : PySem.W.Frag} {H : Hp} {σ : L2.St} {a : Addr} {x y : V} {i j : Nat} {Q : L2.St → Hp → Prop} (h : SqT K H a [x, y]) (q : Q ((σ.set i (some x)).set j (some y)) H) : gTup K 2 (gCons (gName i) (gCons (gName j) gNil)) (.ref a) σ H Q :=
  ⟨a, [x, y], rfl, h, rfl, x, [y], rfl, y, [], rfl, rfl, q⟩
theorem gt3_go {K : PySem.W.Frag} {H : Hp} {σ : L2.St} {a : Addr} {x y z : V} {i j l : Nat} {Q : L2.St → Hp → Prop} (h : SqT K H a [x, y, z]) (q : Q (((σ.set i (some x)).set j (some y)).set l (some z)) H) :
    gTup K 3 (gCons (gName i) (gCons (gName j) (gCons (gName l) gNil))) (.ref a) σ H Q :=
  ⟨a, [x, y, z], rfl, h, rfl, x, [y, z], rfl, y, [z], rfl, z, [], rfl, rfl, q⟩
/-- a while, by a word over what is left to do, the slots and the heap -/
theorem wh_go {c : TT} {tb : TS} {D : Ends} {σ : L2.St} {H : Hp} (W : Nat → L2.St → Hp → Prop) (m : Nat) (h0 : W m σ H)
    (hs : ∀ m σ H, W m σ H → c σ H fun b H1 => if b = true then ∃ N : L2.St → Hp → Prop, (∀ σ' H', N σ' H' → ∃ m', m' < m ∧ W m' σ' H') ∧ tb { D with nx := N, ct := N, bk := D.nx } σ H1 else D.nx σ H1) : tWhile c tb D σ H := ⟨W, ⟨m, h0⟩, hs⟩
/-- the next turn's word -/
theorem wh_in {tb : TS} {D : Ends} {σ : L2.St} {H1 : Hp} {W : Nat → L2.St → Hp → Prop} {m : Nat}
    (q : tb { D with nx := fun σ' H' => ∃ m', m' < m ∧ W m' σ' H', ct := fun σ' H' => ∃ m', m' < m ∧ W m' σ' H', bk := D.nx } σ H1) :
    ∃ N : L2.St → Hp → Prop, (∀ σ' H', N σ' H' → ∃ m', m' < m ∧ W m' σ' H') ∧ tb { D with nx := N, ct := N, bk := D.nx } σ H1 := ⟨_, fun _ _ h => h, q⟩
/-! loops and comprehensions -/
def KGo (J : It) (g : TG) (tb : TS) (D : Ends) (σ : L2.St) (H1 : Hp) : Prop := ∃ W : Nat → Nat → L2.St → Hp → Prop, (∃ m, W 0 m σ H1) ∧ ∀ i m σ H, W i m σ H →
  (J.stop i H ∧ D.nx σ H) ∨ (J.go i H ∧ ∃ N : L2.St → Hp → Prop, (∀ σ' H', N σ' H' → ∃ m', m' < m ∧ W (i + 1) m' σ' H') ∧ ∀ x H', J.yld i H x H' → g x σ H' fun σ2 H2 => tb { D with nx := N, ct := N, bk := D.nx } σ2 H2)
def KFl (K : PySem.W.Frag) (g : TG) (tb : TS) (D : Ends) (σ : L2.St) : VK := fun x H1 => ∃ a, x = .ref a ∧ (∃ xs, SqL K H1 a xs) ∧ KGo (Itl K a) g tb D σ H1
def KFt (K : PySem.W.Frag) (g : TG) (tb : TS) (D : Ends) (σ : L2.St) : VK := fun x H1 => ∃ a, x = .ref a ∧ (∃ xs, SqT K H1 a xs) ∧ KGo (Itt K a) g tb D σ H1
def KFr (g : TG) (tb : TS) (D : Ends) (σ : L2.St) : List V → Hp → Prop := fun vs H1 => ∃ j : Int, vs = [.int j] ∧ -(2 ^ 62) ≤ j ∧ j < 2 ^ 62 ∧ KGo (Itr 0 j.toNat) g tb D σ H1
def KFd (g : TG) (tb : TS) (D : Ends) (σ : L2.St) : List V → Hp → Prop := fun vs H1 => ∃ (i j c : Int) (n : Nat), vs = [.int i, .int j, .int c] ∧ RgC i j c n ∧ KGo (Itc i c n) g tb D σ H1
def KFe (K : PySem.W.Frag) (g : TG) (tb : TS) (D : Ends) (σ : L2.St) : List V → Hp → Prop := fun vs H1 => ∃ a xs, vs = [.ref a] ∧ SqL K H1 a xs ∧ KGo (Ite K a) g tb D σ H1
def KLc (J : It) (g : TG) (tt : TT) (te : TE) (vs : List Nat) (σ : L2.St) (Q : VK) (H1 : Hp) : Prop := ∀ D, H1 D = none → ∃ W : Nat → Nat → Hp → Prop, (∃ m, W 0 m (upd H1 D (.lst []))) ∧ ∀ i m H, W i m H →
  (J.stop i H ∧ Q (.ref D) H) ∨ (J.go i H ∧ ∃ Nx : Hp → Prop, (∀ H', Nx H' → ∃ m', m' < m ∧ W (i + 1) m' H') ∧ ∀ x H', J.yld i H x H' → g x (wipe σ vs) H' fun σ2 H2 => wipe σ2 vs = wipe σ vs ∧ tt σ2 H2 fun b H3 =>
    if b = true then te σ2 H3 fun y H4 => ∃ acc, H4 D = some (.lst acc) ∧ acc.length < sizeLine ∧ Nx (upd H4 D (.lst (acc ++ [y]))) else Nx H3)
def KLl (K : PySem.W.Frag) (g : TG) (tt : TT) (te : TE) (vs : List Nat) (σ : L2.St) (Q : VK) : VK := fun x H1 => ∃ a, x = .ref a ∧ (∃ xs, SqL K H1 a xs) ∧ KLc (Itl K a) g tt te vs σ Q H1
def KLe (K : PySem.W.Frag) (g : TG) (tt : TT) (te : TE) (vs : List Nat) (σ : L2.St) (Q : VK) : List V → Hp → Prop := fun us H1 => ∃ a xs, us = [.ref a] ∧ SqL K H1 a xs ∧ KLc (Ite K a) g tt te vs σ Q H1
section
variable {K : PySem.W.Frag} {σ : L2.St} {H : Hp} {Q : VK} {D : Ends} {te tx : TE} {tb : TS} {tt : TT} {ta : TA} {g : TG} {a : Addr} {xs : List V} {ws : List Nat}
theorem rd_fl (q : te σ H (KFl K g tb D σ)) : tFor (iList K te) g tb D σ H := q
theorem rd_ft (q : te σ H (KFt K g tb D σ)) : tFor (iTup K te) g tb D σ H := q
theorem rd_fr (q : ta σ H (KFr g tb D σ)) : tFor (iRng1 ta) g tb D σ H := q
theorem rd_fd (q : ta σ H (KFd g tb D σ)) : tFor (iRng3 ta) g tb D σ H := q
theorem rd_fe (q : ta σ H (KFe K g tb D σ)) : tFor (iEnum K ta) g tb D σ H := q
theorem rd_ll (q : tx σ H (KLl K g tt te ws σ Q)) : tLc (iList K tx) g tt te ws σ H Q := q
theorem rd_le (q : ta σ H (KLe K g tt te ws σ Q)) : tLc (iEnum K ta) g tt te ws σ H Q := q
theorem rd_yes {B : Bool → Hp → Prop} (q : B true H) : tYes σ H B := q
/-- for x in a list -/
theorem fl_go (h : SqL K H a xs) (Pv : Nat → L2.St → Hp → Prop) (h0 : Pv 0 σ H) (hG : ∀ i σ H, i ≤ xs.length → Pv i σ H → SqL K H a xs)
    (hs : ∀ i x σ H, xs[i]? = some x → Pv i σ H → g x σ H fun σ2 H2 => tb { D with nx := Pv (i + 1), ct := Pv (i + 1), bk := D.nx } σ2 H2) (hd : ∀ σ H, Pv xs.length σ H → D.nx σ H) : KFl K g tb D σ (.ref a) H :=
  ⟨a, rfl, ⟨xs, h⟩, for_list Pv h0 hG hs hd⟩
theorem ft_go (h : SqT K H a xs) (Pv : Nat → L2.St → Hp → Prop) (h0 : Pv 0 σ H) (hG : ∀ i σ H, i ≤ xs.length → Pv i σ H → SqT K H a xs)
    (hs : ∀ i x σ H, xs[i]? = some x → Pv i σ H → g x σ H fun σ2 H2 => tb { D with nx := Pv (i + 1), ct := Pv (i + 1), bk := D.nx } σ2 H2) (hd : ∀ σ H, Pv xs.length σ H → D.nx σ H) : KFt K g tb D σ (.ref a) H :=
  ⟨a, rfl, ⟨xs, h⟩, for_tup Pv h0 hG hs hd⟩
/-- for x in range(n) -/
theorem fr_go {n : Nat} (hn : n ≤ 100000000) (Pv : Nat → L2.St → Hp → Prop) (h0 : Pv 0 σ H)
    (hs : ∀ i σ H, i < n → Pv i σ H → g (.int i) σ H fun σ2 H2 => tb { D with nx := Pv (i + 1), ct := Pv (i + 1), bk := D.nx } σ2 H2) (hd : ∀ σ H, Pv n σ H → D.nx σ H) : KFr g tb D σ [.int n] H := by
  refine ⟨n, rfl, by omega, by omega, ?_⟩
  rw [Int.toNat_natCast]
  exact for_range (lo := 0) (n := n) Pv h0 (fun i σ H hi p => by rw [Int.zero_add]; exact hs i σ H hi p) hd
/-- for x in range(n - 1, -1, -1) -/
theorem fd_go {n : Nat} (hn : n ≤ 100000000) (Pv : Nat → L2.St → Hp → Prop) (h0 : Pv 0 σ H)
    (hs : ∀ (i : Nat) σ H, i < n → Pv i σ H → g (.int ((n - 1 - i : Nat) : Int)) σ H fun σ2 H2 => tb { D with nx := Pv (i + 1), ct := Pv (i + 1), bk := D.nx } σ2 H2) (hd : ∀ σ H, Pv n σ H → D.nx σ H) :
    KFd g tb D σ [.int ((n : Int) - 1), .int (-1), .int (-1)] H := by
  refine ⟨_, _, _, _, rfl, RgC.neg (by omega) (by omega) (by decide) (by decide), ?_⟩
  have e : ((n : Int) - 1 - (-1)).toNat = n := by omega
  rw [e]
  refine for_rangeC (lo := (n : Int) - 1) (c := -1) (n := n) Pv h0 (fun i σ H hi p => ?_) hd
  have e2 : (n : Int) - 1 + (i : Nat) * (-1) = ((n - 1 - i : Nat) : Int) := by omega
  rw [e2]
  exact hs i σ H hi p
/-- for i, x in enumerate(a list) -/
theorem fe_go (h : SqL K H a xs) (Pv : Nat → L2.St → Hp → Prop) (h0 : Pv 0 σ H) (hG : ∀ i σ H, i ≤ xs.length → Pv i σ H → SqL K H a xs)
    (hs : ∀ (i : Nat) x σ H p, xs[i]? = some x → Pv i σ H → H p = none → g (.ref p) σ (upd H p (.tup [.int i, x])) fun σ2 H2 => tb { D with nx := Pv (i + 1), ct := Pv (i + 1), bk := D.nx } σ2 H2) (hd : ∀ σ H, Pv xs.length σ H → D.nx σ H) : KFe K g tb D σ [.ref a] H := by
  refine ⟨a, xs, rfl, h, for_it walk_enum Pv h0 hG (fun i x σ H H' hi p y => ?_) hd⟩
  obtain ⟨T, y1, y2, rfl, hT, rfl, e1, e2⟩ := y
  cases Option.some.inj e1
  exact hs i y2 σ H T e2 p hT
/-- [e for x in a list] -/
theorem ll_go (h : SqL K H a xs) (Pv : Addr → Nat → Hp → Prop) (h0 : ∀ D, H D = none → Pv D 0 (upd H D (.lst []))) (hG : ∀ D i H1, H D = none → i ≤ xs.length → Pv D i H1 → SqL K H1 a xs)
    (hs : ∀ D i x H1, H D = none → xs[i]? = some x → Pv D i H1 → g x (wipe σ ws) H1 fun σ2 H2 => wipe σ2 ws = wipe σ ws ∧ tt σ2 H2 fun b H3 =>
      if b = true then te σ2 H3 fun y H4 => ∃ acc, H4 D = some (.lst acc) ∧ acc.length < sizeLine ∧ Pv D (i + 1) (upd H4 D (.lst (acc ++ [y]))) else Pv D (i + 1) H3) (hd : ∀ D H1, H D = none → Pv D xs.length H1 → Q (.ref D) H1) : KLl K g tt te ws σ Q (.ref a) H :=
  ⟨a, rfl, ⟨xs, h⟩, fun D hD => lc_list (Pv D) (h0 D hD) (fun i H1 hi p => hG D i H1 hD hi p) (fun i x H1 e p => hs D i x H1 hD e p) (fun H1 p => hd D H1 hD p)⟩
/-- [e for i, x in enumerate(a list)] -/
theorem le_go (h : SqL K H a xs) (Pv : Addr → Nat → Hp → Prop) (h0 : ∀ D, H D = none → Pv D 0 (upd H D (.lst []))) (hG : ∀ D i H1, H D = none → i ≤ xs.length → Pv D i H1 → SqL K H1 a xs)
    (hs : ∀ D (i : Nat) x H1 p, H D = none → xs[i]? = some x → Pv D i H1 → H1 p = none → g (.ref p) (wipe σ ws) (upd H1 p (.tup [.int i, x])) fun σ2 H2 => wipe σ2 ws = wipe σ ws ∧ tt σ2 H2 fun b H3 =>
      if b = true then te σ2 H3 fun y H4 => ∃ acc, H4 D = some (.lst acc) ∧ acc.length < sizeLine ∧ Pv D (i + 1) (upd H4 D (.lst (acc ++ [y]))) else Pv D (i + 1) H3) (hd : ∀ D H1, H D = none → Pv D xs.length H1 → Q (.ref D) H1) : KLe K g tt te ws σ Q [.ref a] H :=
  ⟨a, xs, rfl, h, fun D hD => lc_it walk_enum (Pv D) (h0 D hD) (fun i H1 hi p => hG D i H1 hD hi p) (fun i x H1 H' hi p y => by
    obtain ⟨T, y1, y2, rfl, hT, rfl, e1, e2⟩ := y
    cases Option.some.inj e1
    exact hs D i y2 H1 T hD e2 p hT) (fun H1 p => hd D H1 hD p)⟩
end
end K42

/-! KT2 -/
/-! promises of defs that are called while nothing is being told (no text of a list or tuple is under way); calls with keywords -/
namespace K42
open PySem PySem.Spec PyProof.Rows L2 He
/-- as FnOk, where nothing is being told -/
structure FnG (P : Program) (w : World) (K : PySem.W.Frag) (mg : Str → Option Value) (base : Heap) (k : Nat) (a : Addr) (fd : FuncData) (ps : List Str) (sp : Sp) : Prop where
  few : ∀ zs G R Y, sp zs G R Y → zs.length = ps.length
  goes : ∀ (A : Around) (fs : List Env) (st : Shared) (G : Hp) (ar : Args) (us : List Value) (zs : List V) (R : VK) (Y : XK), Room k A → A.guards = some [] → Env0 P w K mg base A fs st G →
    BindsTo st fd ar (ps.zip us) → Vals zs us → sp zs G R Y → codeAny (model P w) A (.call (.ref a) ar) (CR CX0 fs P w G st R Y) st
theorem FnG.of {P : Program} {w : World} {K : PySem.W.Frag} {mg : Str → Option Value} {base : Heap} {k : Nat} {a : Addr} {fd : FuncData} {ps : List Str} {sp : Sp} (h : FnOk P w K mg base CX0 k a fd ps sp) : FnG P w K mg base k a fd ps sp :=
  ⟨h.len, fun A fs st G ar us zs R Y hr _ e hb hv hs => h.run A fs st G ar us zs R Y hr e hb hv hs⟩
def OkG (P : Program) (w : World) (K : PySem.W.Frag) (mg : Str → Option Value) (base : Heap) (k : Nat) (a : Addr) (ps : List Str) (sp : Sp) : Prop :=
  ∃ fd, PySem.W.keepIn K (.ref a) = true ∧ (∀ (s : Shared) (us : List Value), us.length = ps.length → BindsTo s fd ⟨us, []⟩ (ps.zip us)) ∧ FnG P w K mg base k a fd ps sp
section
variable {P : Program} {w : World} {K : PySem.W.Frag} {mg : Str → Option Value} {base : Heap}
/-- the body's walk gives the promise -/
theorem fnG {d : Dp} {fd : FuncData} {N ps : List Str} {k : Nat} {sp : Sp} (D : FunD K d.nm d.ql (defArgs d.st) (defBody d.st) (defScope d.st) [] [] (d.loc K) fd) (S : FnScope N ps (defScope d.st)) (few : ∀ zs G R Y, sp zs G R Y → zs.length = ps.length)
    (body : ∀ (cdv : Value) (A : Around) (fs : List Env) (st : Shared) (G : Hp) (zs : List V) (R : VK) (Y : XK), Room k (A.deeper (envOfC d.ql (defScope d.st) st.heap.objs.size (d.loc K) cdv)) → A.guards = some [] → sp zs G R Y →
      ∃ t, PSs (cxOf CX0 P w K mg base N d.ql (defScope d.st) (d.loc K) cdv A fs st G Y).nox (defBody d.st) t ∧ t { nx := fun _ G' => R .non G', rt := R } (start N zs) G) : FnG P w K mg base (k + 1) (d.loc K) fd ps sp := by
  refine ⟨few, fun A fs st G ar us zs R Y hr hG e0 bt rv hs => ?_⟩
  obtain ⟨oc, od, dV, kV, doc, pm, an, cdv, ct, osl, rfl, lk, hcd, _, _⟩ := D.ex
  have old : ∀ b o, base.get? b = some o → st.heap.get? b = some o := fun b o z => (e0.bs b o z).1
  have kin : K.In st.heap := e0.mod.kin.keeps old
  have vis : ∀ y ∈ ps.zip us, (defScope d.st).names.lookup y.1 = some .local ∨ ((defScope d.st).names.lookup y.1 = some .cell ∧ ((cellsFrom (st.heap.objs.size + 1) (defScope d.st).names []).lookup y.1).isSome = true) := by
    rintro ⟨n, u⟩ hy
    exact (S.par n (List.of_mem_zip hy).1).imp id fun z => ⟨z, PySem.W.cellsFrom_some _ _ _ (.inl z)⟩
  refine codeAny_call_function hr.depth (kin _ _ lk) rfl S.co S.gen rfl (PySem.W.codeRec_of kin hcd) (bt _ _ _ _ (wpAny_newFunctionEnv_cells S.kind vis fun env he s1 x => ?_))
  subst he
  obtain ⟨t, ht, hq⟩ := body cdv A fs st G zs R Y (hr.deeper _) hG hs
  have I := inv_start (CX := CX0) (N := N) (E := Y) S hr.hd e0 (few _ _ _ _ hs) rv x
  refine ⟨(e0.mod.nolimit.keeps old).keeps x.toInCall.keep, codeAny_func (wpAny_mono ((PSs.nox ht).run [] s1 (start N zs) G _ I hq) (fun fl s2 z => ?_) fun _ _ z => z)⟩
  match fl, z with
  | .ret _, ⟨v, _, H2, J, rv2, q2⟩ => exact ⟨v, H2, J.os, J.bare, J.base, J.hok, rv2, q2⟩
  | .next, ⟨_, H2, J, q2⟩ => exact ⟨V.non, H2, J.os, J.bare, J.base, J.hok, rfl, q2⟩
  | .brk, ⟨_, _, _, q2⟩ => exact False.elim q2
  | .cont, ⟨_, _, _, q2⟩ => exact False.elim q2
theorem okG {d : Dp} {N ps : List Str} {k : Nat} {sp : Sp} (F : FnAt K d) (hd : d.df = [] := by rfl) (S : FnScope N ps (defScope d.st)) (hb : BindW d.st d.nm d.ql ps) (few : ∀ zs G R Y, sp zs G R Y → zs.length = ps.length)
    (body : ∀ (cdv : Value) (A : Around) (fs : List Env) (st : Shared) (G : Hp) (zs : List V) (R : VK) (Y : XK), Room k (A.deeper (envOfC d.ql (defScope d.st) st.heap.objs.size (d.loc K) cdv)) → A.guards = some [] → sp zs G R Y →
      ∃ t, PSs (cxOf CX0 P w K mg base N d.ql (defScope d.st) (d.loc K) cdv A fs st G Y).nox (defBody d.st) t ∧ t { nx := fun _ G' => R .non G', rt := R } (start N zs) G) : OkG P w K mg base (k + 1) (d.loc K) ps sp := by
  obtain ⟨fd, D⟩ := F
  rw [hd] at D
  exact ⟨fd, D.kp, fun s us hl => FunD.bindsA (ps := ps) D hb s us hl, fnG D S few body⟩
end
section
variable {X : Cx} {k : Nat} {a : Addr} {ps : List Str} {sp : Sp} {x : Str} {p pos : Pos} {e : Expr} {es : List Expr} {t : TA}
/-- f(e, ..) where nothing is being told -/
theorem pe_g (F : OkG X.prog X.w X.K X.mg X.base k a ps sp) (hG : X.A.guards = some []) (hm : X.mg x = some (.ref a)) (hr : Room k X.A) (ha : PA X (e :: es) t) (hx : Passes CX0 X E0) (hg : Gl X x := by rfl) (hdb : (x == ("__debug__" : Str)) = false := by decide)
    (he : starEach (e :: es) X.env = (false, eval e X.env) :: starEach es X.env := by rfl) (hpl : (backTo pos (starEach es X.env)).any (·.1) = false := by rfl) : PE X (.Call (.Name x p) (e :: es) [] pos) (tCall sp [] E0 t) := by
  obtain ⟨fd, hk, hb, F⟩ := F
  refine ⟨fun pins s σ H Q I h => wpAny_Call_Name_kw (ld_glob I hg hm ?_ hdb)⟩
  refine PySem.W.callWith_K (h₀ := X.base) I.ok.mod.kin hk (thn (ha.run pos pins s σ H _ I h) fun us s1 ⟨vs, H1, J, r, q⟩ => ⟨J.kIn, ?_⟩) he hpl
  have q : sp (vs ++ []) H1 Q E0 := q
  rw [List.append_nil] at q
  have hl : us.length = ps.length := by rw [← r.length]; exact F.few _ _ _ _ q
  refine wpAny_call (codeAny_mono (F.goes X.A X.stack s1 H1 ⟨us, []⟩ us vs _ _ hr hG J.env0 (hb s1 us hl) r q) fun z s2 hz => ?_)
  match z, hz with
  | .error e2, hz => exact hx pins σ H1 s1 e2 s2 J hz
  | .ok (.ret u), hz => exact J.after hz
/-- o.m(k = v, ..) -/
theorem pe_methK {pl : Sem Bool} {o : Expr} {apos : Pos} {m : Str} {f C : Addr} {fd : FuncData} {ks : List Str} {kws : List Keyword} {ta : TE} {tk : TA} (ho : PE X o ta) (c : Cls X.K C) (hm : Meth X.K C m f)
    (F : FnOk X.prog X.w X.K X.mg X.base CX0 k f fd ps sp) (hr : Room k X.A) (hb : KBn X.K fd ps 1 ks (fun us ws => us ++ ws) (fun us ws => us ++ ws)) (hps : ps.length = ks.length + 1) (hx : Passes CX0 X E0) (hkw : PK X kws tk)
    (hall : (backToKw pos (keywordEach kws X.env)).all (·.1.isSome) = true := by rfl)
    (hks : (backToKw pos (keywordEach kws X.env)).filterMap (·.1) = ks := by rfl) (hpl : ((backTo pos (starEach [] X.env)).any (·.1) || (backToKw pos (keywordEach kws X.env)).any (·.1.isNone)) = false := by rfl)
    (ht : eval (.Call (.Attribute o m apos) [] kws pos) X.env = (do
      let ov ← eval o X.env
      standAt apos.atName
      let (f, first) ← holding [ov] (getMethod ov m pl)
      callWith pos f first (backTo pos (starEach [] X.env)) (backToKw pos (keywordEach kws X.env))) := by rfl) :
    PE X (.Call (.Attribute o m apos) [] kws pos) (tMeth C m sp [] E0 ta tk) := by
  refine ⟨fun pins s σ H Q I h => PySem.W.methodCall_KW (pl := pl) (thn (ho.run pins s σ H _ I h) fun u s1 ⟨y, H1, J, ry, a, dx, fs, ey, ea, l, q⟩ => ?_) ht⟩
  subst ey
  obtain rfl : u = Value.ref a := ry
  refine getmeth_ok J ea c hm l (PySem.W.callWith_KW0 (first := [.ref a]) (h₀ := X.base) J.ok.mod.kin hm.kp hall (thn (hkw.run pos pins s1 σ H1 _ J q) fun ws s2 ⟨zs, H2, J2, rz, q2⟩ => ⟨J2.kIn, ?_⟩) hpl)
  rw [hks]
  have q3 : sp (.ref a :: (zs ++ [])) H2 Q E0 := q2
  rw [List.append_nil] at q3
  have hl := F.len _ _ _ _ q3
  rw [List.length_cons] at hl
  exact run_fnN (us := [.ref a]) (vs := [.ref a]) F hr hb hx J2 (.cons rfl .nil) rz rfl (by omega) q3
/-- C(k = v, ..) -/
theorem pe_newK {f C : Addr} {fd : FuncData} {ks : List Str} {kws : List Keyword} {tk : TA} (M : Mk X.K C f) (F : FnOk X.prog X.w X.K X.mg X.base CX0 k f fd ps sp) (hr : Room (k + 1) X.A) (hm : X.mg x = some (.ref C))
    (hb : KBn X.K fd ps 1 ks (fun us ws => us ++ ws) (fun us ws => us ++ ws)) (hps : ps.length = ks.length + 1) (hx : Passes CX0 X E0) (hkw : PK X kws tk) (hg : Gl X x := by rfl)
    (hall : (backToKw pos (keywordEach kws X.env)).all (·.1.isSome) = true := by rfl) (hks : (backToKw pos (keywordEach kws X.env)).filterMap (·.1) = ks := by rfl) (hdb : (x == ("__debug__" : Str)) = false := by decide)
    (hpl : ((backTo pos (starEach [] X.env)).any (·.1) || (backToKw pos (keywordEach kws X.env)).any (·.1.isNone)) = false := by rfl) : PE X (.Call (.Name x p) [] kws pos) (tMake C sp [] E0 tk) := by
  refine ⟨fun pins s σ H Q I h => wpAny_Call_Name_kw (ld_glob I hg hm ?_ hdb)⟩
  refine PySem.W.callWith_KW0 (h₀ := X.base) I.ok.mod.kin M.kp hall (thn (hkw.run pos pins s σ H _ I h) fun ws s2 ⟨zs, H2, J, rz, q⟩ => ⟨J.kIn, ?_⟩) hpl
  rw [hks]
  have q2 : ∀ y dx, H2 y = none → H2 dx = none → dx ≠ y → sp (.ref y :: (zs ++ [])) (upd (upd H2 dx (.own y)) y (.ins C dx [])) (fun v H3 => v = .non ∧ Q (.ref y) H3) E0 := q
  simp only [List.append_nil] at q2
  have hl : zs.length = ks.length := by
    have h1 := F.len _ _ _ _ (q2 (s2.heap.objs.size + 1) s2.heap.objs.size (J.hok.fresh (Nat.le_succ _)) (J.hok.fresh (Nat.le_refl _)) (Nat.ne_of_lt (Nat.lt_succ_self _)))
    rw [List.length_cons] at h1
    omega
  exact run_makeK (us := []) (vs := []) M F hr hb hx J .nil rz rfl hl q2
end
/-- a def of two parameters, the second by its name -/
theorem kbn2 {K : PySem.W.Frag} {d : Dp} {fd : FuncData} {x y : Str} (F : FunD K d.nm d.ql (defArgs d.st) (defBody d.st) (defScope d.st) [] [] (d.loc K) fd)
    (h : ∀ (kV doc pm : Value) (an : Option Addr) (cdv ct : Value) (u v : Value), bindArgs (PySem.W.fnOf d.nm d.ql (defArgs d.st) (defBody d.st) (defScope d.st) .none kV doc pm an cdv ct) ⟨[u], [(y, v)]⟩ = pure [(x, u), (y, v)]) :
    KBn K fd [x, y] 1 [y] (fun us ws => us ++ ws) (fun us ws => us ++ ws) := by
  obtain ⟨oc, od, dV, kV, doc, pm, an, cdv, ct, osl, rfl, lk, hcd, hD, _⟩ := F.ex
  rcases hD with ⟨_, rfl⟩ | ⟨e, _⟩
  · refine ⟨fun s us ws _ l1 l2 => ?_, fun r1 r2 => r1.append r2⟩
    match us, l1, ws, l2 with
    | [u], _, [v], _ => exact .of_eq (h kV doc pm an cdv ct u v)
  · exact absurd rfl e
/-! ### the end -/
/-- the law's def called on the script, over the heap that the top leaves -/
theorem law_g {P : Program} {w : World} {K : PySem.W.Frag} {mg mb : Str → Option Value} {k : Nat} {fa a : Addr} {fd : FuncData} {x : Str} {sp : Sp} {st : Shared} {vs : List Value} {ns : List Int} (kin : K.In st.heap) (hns : st.heap.Ns mainGlobals mg) (hb : st.heap.Ns builtinsNs mb)
    (hbb : ∀ x : Str, x ≠ "__name__" → mb x = bootBuiltins x) (lim : st.heap.NoLimit) (hg : st.gens = #[]) (ha : st.heap.get? a = some { cls := .type "list", data := .seq vs.toArray }) (hi : IntsAre vs ns) (hl : ns.length ≤ sizeLine) (hr : Room k callerA)
    (F : ∀ base : Heap, K.In base → base.Ns mainGlobals mg → FnG P w K mg base k fa fd [x] sp) (bt : ∀ (s : Shared) (u : Value), BindsTo s fd ⟨[u], []⟩ [(x, u)])
    (hsp : ∀ H : Hp, Only H → SqL K H a (ns.map V.int) → sp [.ref a] H (fun v _ => v = .bl true) fun _ _ _ => False)
    (hCX : ∀ H e s', CX0 [] H st (fun _ _ _ => False) e s' → False) :
    codeAny (model P w) callerA (.call (.ref fa) ⟨[.ref a], []⟩) (fun r s' => r = .ok (.ret (.bool true)) ∧ OldK st.heap s'.heap ∧ s'.os = st.os ∧ AllBare s'.gens) st := by
  have rv : Vals (ns.map V.int) vs := vals_ints hi
  suffices main : ∀ H : Hp, Only H → SqL K H a (ns.map V.int) → HOk P w H st.heap → (∀ b, H b ≠ none → b = a ∧ K.lookup a = none) →
      codeAny (model P w) callerA (.call (.ref fa) ⟨[.ref a], []⟩) (fun r s' => r = .ok (.ret (.bool true)) ∧ OldK st.heap s'.heap ∧ s'.os = st.os ∧ AllBare s'.gens) st by
    cases hk : K.lookup a with
    | some o =>
      have e := kin a o hk
      rw [ha] at e
      cases e
      exact main (fun _ => none) (fun _ => .inl rfl) (.inr ⟨_, vs.toArray, _, hk, rfl, rfl, rfl, by rw [List.size_toArray, hi.length]; exact hl, by simpa using rv⟩) (fun b u z => nomatch (show (none : Option HO) = some u from z)) (fun b z => absurd rfl z)
    | none =>
      have at_ : ∀ b u, (if b = a then some (HO.frz { cls := .type "list", data := .seq vs.toArray } (.lst (ns.map V.int))) else none) = some u → b = a ∧ u = .frz { cls := .type "list", data := .seq vs.toArray } (.lst (ns.map V.int)) := fun b u z => by
        split at z
        · cases z
          exact ⟨by assumption, rfl⟩
        · cases z
      refine main (fun b => if b = a then some (.frz { cls := .type "list", data := .seq vs.toArray } (.lst (ns.map V.int))) else none) (fun b => ?_) (.inl (.inr ⟨_, if_pos rfl⟩)) (fun b u z => ?_) (fun b z => ⟨?_, hk⟩)
      · by_cases e : b = a
        · exact .inr ⟨_, _, if_pos e⟩
        · exact .inl (if_neg e)
      · obtain ⟨rfl, rfl⟩ := at_ b u z
        exact ⟨ha, by rw [List.length_map]; exact hl, vs, _, rv, ha⟩
      · refine Classical.byContradiction fun e => z (if_neg e)
  intro H hO hS hok hA
  have free : ∀ {b : Addr} {o : Obj} {es : Array DictEntry} {ep : Nat}, st.heap.get? b = some o → o.data = .dict es ep → H b = none := fun {b o es ep} e d => Classical.byContradiction fun z => by
    obtain ⟨rfl, _⟩ := hA b z
    rw [ha] at e
    cases e
    exact nomatch (show Data.seq vs.toArray _ = Data.dict es ep from d)
  have spc : ∀ {b : Addr} {m : Str → Option Value}, st.heap.Ns b m → (hidT st.heap H).Ns b m := fun ⟨o, es, ep, e, d, r⟩ => ⟨o, es, ep, hidT_get e (free e d), d, r⟩
  have kb : K.In (hidT st.heap H) := fun b o e => hidT_get (kin b o e) (Classical.byContradiction fun z => by
    obtain ⟨rfl, n⟩ := hA b z
    rw [n] at e
    cases e)
  obtain ⟨mc, g1, g2⟩ := lim
  have env : Env0 P w K mg (hidT st.heap H) callerA [] st H := ⟨rfl, ⟨kb, spc hns, ⟨mb, spc hb, hbb⟩, ⟨mc, spc g1, g2⟩⟩, fun b o e => of_hidT e, Nat.le_of_eq (hidT_size _ _), trivial, fun b z => absurd (show b ∈ ([] : List Addr) from z) List.not_mem_nil, hok, .of_eq hg⟩
  refine codeAny_mono ((F _ kb (spc hns)).goes callerA [] st H ⟨[.ref a], []⟩ [.ref a] [.ref a] _ _ hr rfl env (bt st (.ref a)) (.cons rfl .nil) (hsp H hO hS)) fun r s2 z => ?_
  match r, z with
  | .error e, z => exact (hCX H e s2 z).elim
  | .ok (.ret u), ⟨v, H2, os, bare, un, hok2, rv2, q⟩ =>
    obtain rfl : v = .bl true := q
    obtain rfl : u = Value.bool true := rv2
    refine ⟨rfl, OldK.of_keep fun b o e => ?_, os, bare⟩
    rcases hO b with n | ⟨ob, xs, n⟩
    · exact un.keep b o e n (fun z => absurd (show b ∈ ([] : List Addr) from z) List.not_mem_nil) List.not_mem_nil
    · obtain ⟨e1, _⟩ := hok b _ n
      obtain ⟨e2, _⟩ := hok2 b _ (un.frzs b ob _ n)
      rw [e] at e1
      cases e1
      exact e2
end K42

/-! KD1 -/
/-! basics, kinds: each def keeps its promise -/
namespace K42
open PySem PySem.Spec L2 He
local macro_rules | `(tactic| walk_at "rd") => `(tactic| repeat (first | ((with_reducible refine' rd_var ?hvar ?_); (case hvar => exact rfl)) | with_reducible refine rd_seq ?_ | with_reducible refine rd_asg ?_ | with_reducible refine rd_ret ?_ | with_reducible refine rd_drop ?_ | with_reducible refine rd_ifs ?_ | with_reducible refine rd_name ?_ | with_reducible refine rd_c ?_ | with_reducible refine rd_cons ?_ | with_reducible refine rd_nil ?_ | with_reducible refine rd_cb ?_ | with_reducible refine rd_op ?_ | with_reducible refine rd_test ?_ | with_reducible refine rd_tb ?_ | with_reducible refine rd_and ?_ | with_reducible refine rd_or ?_ | with_reducible refine rd_not ?_ | with_reducible refine rd_andv ?_ | with_reducible refine rd_orv ?_ | with_reducible refine rd_notv ?_ | with_reducible refine rd_if ?_ | with_reducible refine rd_nx ?_ | with_reducible refine rd_retn ?_ | with_reducible refine rd_par ?_ | with_reducible refine rd_par3 ?_ | with_reducible refine rd_tup ?_ | with_reducible refine rd_lst ?_ | with_reducible refine rd_call ?_ | with_reducible refine rd_meth ?_ | with_reducible refine rd_make ?_ | with_reducible refine rd_fld ?_ | with_reducible refine rd_sfld ?_ | with_reducible refine rd_bm ?_ | with_reducible refine rd_bm0 ?_ | with_reducible refine rd_prop ?_ | with_reducible refine rd_dget ?_ | with_reducible refine rd_dnin ?_ | with_reducible refine rd_chain ?_ | with_reducible refine rd_sub ?_ | with_reducible refine rd_un ?_ | with_reducible refine rd_fl ?_ | with_reducible refine rd_ft ?_ | with_reducible refine rd_fr ?_ | with_reducible refine rd_fd ?_ | with_reducible refine rd_fe ?_ | with_reducible refine rd_ll ?_ | with_reducible refine rd_le ?_ | with_reducible refine rd_yes ?_ | with_reducible refine rd_dg2 ?_ | with_reducible refine rd_calld ?_ | with_reducible refine rd_lt ?_ | with_reducible refine rd_rev ?_ | with_reducible refine rd_sl ?_ | with_reducible refine rd_thru ?_ | with_reducible refine kb_go ?_ | with_reducible refine kpar_go ?_ | with_reducible refine kpar3_go ?_ | with_reducible refine ri0_go ?_ | with_reducible refine ru_go ?_ | ((with_reducible refine ifT ?hift ?_); (case hift => exact rfl)) | ((with_reducible refine ifF ?hiff ?_); (case hiff => exact rfl))))
local macro_rules | `(tactic| walk_at "dt") => `(tactic| first | refine ifT (by decide +kernel) ?_ | ((refine ifT ?hdt ?_); (case hdt => exact decide_eq_true (by omega))))
local macro_rules | `(tactic| walk_at "df") => `(tactic| first | refine ifF (by decide +kernel) ?_ | ((refine ifF ?hdf ?_); (case hdf => exact decide_eq_false (by omega))))

/-! ### promises -/
def sp_is_integer : Sp := fun vs H Q _ => ∃ i : Int, vs = [.int i] ∧ Q (.bl true) H
def sp_is_count : Sp := fun vs H Q _ => ∃ i : Int, vs = [.int i] ∧ Q (.bl (decide (0 ≤ i))) H
def sp_is_list (K : PySem.W.Frag) : Sp := fun vs H Q _ => ∃ (a : Addr) (xs : List V), vs = [.ref a] ∧ SqL K H a xs ∧ ∀ H1, Same H H1 → Q (.bl true) H1
def sp_want_many : Sp := fun vs H Q _ => ∃ i m : Int, vs = [.int i, .int m, .int 0] ∧ 0 ≤ i ∧ i ≤ m ∧ Q .non H
def sp_want_at_most : Sp := fun vs H Q _ => ∃ (x : V) (m i : Int), vs = [x, .int m, .int i] ∧ i ≤ m ∧ Q .non H
def sp_is_leaf (K : PySem.W.Frag) : Sp := fun vs H Q _ => ∃ v, vs = [v] ∧ KdAt K H v .cnt ∧ Q (.bl true) H
def isTwo : Kd → Bool
  | .cnt => false
  | .two _ _ _ => true
def sp_is_branch (K : PySem.W.Frag) : Sp := fun vs H Q _ => ∃ v k, vs = [v] ∧ KdAt K H v k ∧ ∀ H1, Same H H1 → Q (.bl (isTwo k)) H1
def sp_is_kind (K : PySem.W.Frag) : Sp := fun vs H Q _ => ∃ v k, vs = [v] ∧ KdAt K H v k ∧ k.fine ∧ ∀ H1, Same H H1 → Q (.bl true) H1
def sp_data_kind (K : PySem.W.Frag) (n : Nat) : Sp := fun vs H Q _ => ∃ v k, vs = [v] ∧ KdAt K H v k ∧ k.dp ≤ n ∧ ∀ H1, Same H H1 → Q (.bl k.data) H1
section
variable {P : Program} {w : World} {K : PySem.W.Frag} {mg : Str → Option Value} {base : Heap}
theorem ok_is_integer (T : Tx w K mg) : OkF P w K mg base 1 (ga K "is_integer") ["value"] sp_is_integer := by
  refine okF T.f_is_integer rfl sc_is_integer b_is_integer (fun vs H Q E h => by obtain ⟨i, rfl, _⟩ := h; rfl) (fun cdv A outer s H vs Q E hr h => ?_)
  obtain ⟨i, rfl, q⟩ := h
  refine ⟨_, (pss_one (ps_ret (pe_and (pe_callB call_isi (by rfl) T.n_isinstance (by decide +kernel) (pa_cons (pv 0) (pa_cons (pe_gt (n := "int") T.n_int (by decide +kernel)) pa_nil))) (pe_one (pe_not (pe_callB call_isi (by rfl) T.n_isinstance (by decide +kernel) (pa_cons (pv 0) (pa_cons (pe_gt (n := "bool") T.n_bool (by decide +kernel)) pa_nil)))))))), ?_⟩
  walk_at "rd"
  refine isi_go tyx_int (b := true) (by decide +kernel) ?_
  walk_at "rd"
  refine isi_go tyx_int (b := false) (by decide +kernel) ?_
  walk_at "rd"
  exact q
theorem ok_is_count (T : Tx w K mg) : OkF P w K mg base 2 (ga K "is_count") ["value"] sp_is_count := by
  have G_is_integer := ok_is_integer (P := P) (base := base) T
  refine okF T.f_is_count rfl sc_is_count b_is_count (fun vs H Q E h => by obtain ⟨i, rfl, _⟩ := h; rfl) (fun cdv A outer s H vs Q E hr h => ?_)
  obtain ⟨i, rfl, q⟩ := h
  refine ⟨_, (pss_one (ps_ret (pe_and (pe_f G_is_integer T.g_is_integer (hr.mono (by decide)) (pa_cons (pv 0) pa_nil)) (pe_one (pe_cmpR op_ge (pv 0) pe_int (nomark _)))))), ?_⟩
  walk_at "rd"
  refine ⟨_, rfl, ?_⟩
  walk_at "rd"
  exact q
theorem ok_is_list (T : Tx w K mg) : OkF P w K mg base 1 (ga K "is_list") ["value"] (sp_is_list K) := by
  refine okF T.f_is_list rfl sc_is_list b_is_list (fun vs H Q E h => by obtain ⟨i, xs, rfl, _⟩ := h; rfl) (fun cdv A outer s H vs Q E hr h => ?_)
  obtain ⟨a, xs, rfl, hS, q⟩ := h
  refine ⟨_, (pss_one (ps_ret (pe_callB call_isiT (by rfl) T.n_isinstance (by decide +kernel) (pa_cons (pv 0) (pa_cons (pe_tup (pa_cons (pe_gt (n := "list") T.n_list (by decide +kernel)) (pa_cons (pe_gt (n := "tuple") T.n_tuple (by decide +kernel)) pa_nil))) pa_nil))))), ?_⟩
  walk_at "rd"
  refine ktup_go len_ok fun p hp => ?_
  walk_at "rd"
  exact ⟨_, p, _, _, _, true, rfl, upd_same, .cons (.ty _) (.cons (.ty _) .nil), tyx_lst ((same_upd hp).seq hS), kitAny_cons (b := true) (kit_ty (by decide +kernel)) (fun z => by cases z) (fun _ => rfl), q _ (same_upd hp)⟩
theorem ok_want_at_most (T : Tx w K mg) : OkF P w K mg base 1 (ga K "want_at_most") ["what", "limit", "number"] sp_want_at_most := by
  refine okF T.f_want_at_most rfl sc_want_at_most b_want_at_most (fun vs H Q E h => by obtain ⟨x, m, i, rfl, _⟩ := h; rfl) (fun cdv A outer s H vs Q E hr h => ?_)
  obtain ⟨x, m, i, rfl, hl, q⟩ := h
  refine ⟨_, (pss_one (ps_if (pt_cmpR op_gt (pv 2) (pv 1) (nomark _)) (pss_one ps_never) pss_nil)), ?_⟩
  walk_at "rd"
  walk_at "df"
  exact q
theorem ok_is_leaf (T : Tx w K mg) : OkF P w K mg base 1 (ga K "is_leaf") ["value"] (sp_is_leaf K) := by
  refine okF T.f_is_leaf rfl sc_is_leaf b_is_leaf (fun vs H Q E h => by obtain ⟨x, rfl, _⟩ := h; rfl) (fun cdv A outer s H vs Q E hr h => ?_)
  obtain ⟨v, rfl, hv, q⟩ := h
  refine ⟨_, (pss_cons (ps_if (PW.pt (pw_or (pt_not (pt_val (pe_callB call_isi (by rfl) T.n_isinstance (by decide +kernel) (pa_cons (pv 0) (pa_cons (pe_gt (n := "tuple") T.n_tuple (by decide +kernel)) pa_nil))))) (pw_or1 (pt_cmpR op_eq (pe_callB call_ln (by rfl) T.n_len PySem.boot_len (pa_cons (pv 0) pa_nil)) pe_int (nomark _))))) (pss_one (ps_ret pe_bl)) pss_nil)
      (pss_cons (ps_if (pt_cmpR op_eq (pe_callB call_ln (by rfl) T.n_len PySem.boot_len (pa_cons (pv 0) pa_nil)) pe_int (nomark _)) (pss_one (ps_ret (pe_and (pe_callB call_isi (by rfl) T.n_isinstance (by decide +kernel) (pa_cons (pe_ix ix_tup (pv 0) pe_int (fun _ _ => rfl)) (pa_cons (pe_gt (n := "str") T.n_str (by decide +kernel)) pa_nil))) (pe_one (pe_cmpR op_eq (pe_ix ix_tup (pv 0) pe_int (fun _ _ => rfl)) (pe_gs T.z_TELLING) (nomark _)))))) pss_nil)
      (pss_one ps_never))), ?_⟩
  cases hv with
  | cnt hS =>
    walk_at "rd"
    refine isi_go (tyx_tup hS) (b := true) (by decide +kernel) ?_
    walk_at "rd"
    refine lnt_go hS (reqI_go ?_)
    walk_at "rd"
    refine lnt_go hS (reqI_go ?_)
    walk_at "rd"
    refine ixt_go hS at0 ?_
    walk_at "rd"
    refine isi_go tyx_str (b := true) (by decide +kernel) ?_
    walk_at "rd"
    refine ixt_go hS at0 ?_
    walk_at "rd"
    exact reqS_go (b := true) (by decide +kernel) q
theorem ok_is_branch (T : Tx w K mg) : OkF P w K mg base 1 (ga K "is_branch") ["value"] (sp_is_branch K) := by
  refine okF T.f_is_branch rfl sc_is_branch b_is_branch (fun vs H Q E h => by obtain ⟨x, k, rfl, _⟩ := h; rfl) (fun cdv A outer s H vs Q E hr h => ?_)
  obtain ⟨v, k, rfl, hv, q⟩ := h
  refine ⟨_, (pss_cons (ps_if (PW.pt (pw_or (pt_not (pt_val (pe_callB call_isi (by rfl) T.n_isinstance (by decide +kernel) (pa_cons (pv 0) (pa_cons (pe_gt (n := "tuple") T.n_tuple (by decide +kernel)) pa_nil))))) (pw_or1 (pt_cmpR op_ne (pe_callB call_ln (by rfl) T.n_len PySem.boot_len (pa_cons (pv 0) pa_nil)) pe_int (nomark _))))) (pss_one (ps_ret pe_bl)) pss_nil)
      (pss_one (ps_ret (pe_and (pe_callB call_isi (by rfl) T.n_isinstance (by decide +kernel) (pa_cons (pe_ix ix_tup (pv 0) pe_int (fun _ _ => rfl)) (pa_cons (pe_gt (n := "str") T.n_str (by decide +kernel)) pa_nil))) (pe_one (pe_cmpR op_in_seq (pe_ix ix_tup (pv 0) pe_int (fun _ _ => rfl)) (pe_tup (pa_cons (pe_gs T.z_PAIR) (pa_cons (pe_gs T.z_SUM) (pa_cons (pe_gs T.z_FUN) pa_nil)))) (by rfl))))))), ?_⟩
  cases hv with
  | cnt hS =>
    walk_at "rd"
    refine isi_go (tyx_tup hS) (b := true) (by decide +kernel) ?_
    walk_at "rd"
    refine lnt_go hS (rneI_go ?_)
    walk_at "rd"
    exact q _ (Same.refl _)
  | @two a x y t A B hS h1 h2 =>
    walk_at "rd"
    refine isi_go (tyx_tup hS) (b := true) (by decide +kernel) ?_
    walk_at "rd"
    refine lnt_go hS (rneI_go ?_)
    walk_at "rd"
    refine ixt_go hS at0 ?_
    walk_at "rd"
    refine isi_go tyx_str (b := true) (by decide +kernel) ?_
    walk_at "rd"
    refine ixt_go hS at0 ?_
    walk_at "rd"
    refine ktup_go len_ok fun p hp => ?_
    refine rin_go (b := true) (sqT_of upd_same) rfl rfl (by cases t <;> decide +kernel) ?_
    exact q _ (same_upd hp)
end
end K42

/-! KD2 -/
/-! is_kind, data_kind, is_node, are_tree, is_term -/
namespace K42
open PySem PySem.Spec L2 He
local macro_rules | `(tactic| walk_at "rd") => `(tactic| repeat (first | ((with_reducible refine' rd_var ?hvar ?_); (case hvar => exact rfl)) | with_reducible refine rd_seq ?_ | with_reducible refine rd_asg ?_ | with_reducible refine rd_ret ?_ | with_reducible refine rd_drop ?_ | with_reducible refine rd_ifs ?_ | with_reducible refine rd_name ?_ | with_reducible refine rd_c ?_ | with_reducible refine rd_cons ?_ | with_reducible refine rd_nil ?_ | with_reducible refine rd_cb ?_ | with_reducible refine rd_op ?_ | with_reducible refine rd_test ?_ | with_reducible refine rd_tb ?_ | with_reducible refine rd_and ?_ | with_reducible refine rd_or ?_ | with_reducible refine rd_not ?_ | with_reducible refine rd_andv ?_ | with_reducible refine rd_orv ?_ | with_reducible refine rd_notv ?_ | with_reducible refine rd_if ?_ | with_reducible refine rd_nx ?_ | with_reducible refine rd_retn ?_ | with_reducible refine rd_par ?_ | with_reducible refine rd_par3 ?_ | with_reducible refine rd_tup ?_ | with_reducible refine rd_lst ?_ | with_reducible refine rd_call ?_ | with_reducible refine rd_meth ?_ | with_reducible refine rd_make ?_ | with_reducible refine rd_fld ?_ | with_reducible refine rd_sfld ?_ | with_reducible refine rd_bm ?_ | with_reducible refine rd_bm0 ?_ | with_reducible refine rd_prop ?_ | with_reducible refine rd_dget ?_ | with_reducible refine rd_dnin ?_ | with_reducible refine rd_chain ?_ | with_reducible refine rd_sub ?_ | with_reducible refine rd_un ?_ | with_reducible refine rd_fl ?_ | with_reducible refine rd_ft ?_ | with_reducible refine rd_fr ?_ | with_reducible refine rd_fd ?_ | with_reducible refine rd_fe ?_ | with_reducible refine rd_ll ?_ | with_reducible refine rd_le ?_ | with_reducible refine rd_yes ?_ | with_reducible refine rd_dg2 ?_ | with_reducible refine rd_calld ?_ | with_reducible refine rd_lt ?_ | with_reducible refine rd_rev ?_ | with_reducible refine rd_sl ?_ | with_reducible refine rd_thru ?_ | with_reducible refine kb_go ?_ | with_reducible refine kpar_go ?_ | with_reducible refine kpar3_go ?_ | with_reducible refine ri0_go ?_ | with_reducible refine ru_go ?_ | ((with_reducible refine ifT ?hift ?_); (case hift => exact rfl)) | ((with_reducible refine ifF ?hiff ?_); (case hiff => exact rfl))))
local macro_rules | `(tactic| walk_at "dt") => `(tactic| first | refine ifT (by decide +kernel) ?_ | ((refine ifT ?hdt ?_); (case hdt => exact decide_eq_true (by omega))))
local macro_rules | `(tactic| walk_at "df") => `(tactic| first | refine ifF (by decide +kernel) ?_ | ((refine ifF ?hdf ?_); (case hdf => exact decide_eq_false (by omega))))

section
variable {P : Program} {w : World} {K : PySem.W.Frag} {mg : Str → Option Value} {base : Heap}
/-- an entry of is_kind's stack -/
def KsAt (K : PySem.W.Frag) (H0 H : Hp) (v : V) (e : Kd × Nat) : Prop := ∃ p x, v = .ref p ∧ H p = some (.tup [x, .int e.2]) ∧ KdAt K H0 x e.1 ∧ e.2 + e.1.dp ≤ 13
theorem KsAt.ts {H0 H H1 : Hp} (t : TpS H H1) {v : V} {e : Kd × Nat} (h : KsAt K H0 H v e) : KsAt K H0 H1 v e := by
  obtain ⟨p, x, h1, h2, h3⟩ := h
  exact ⟨p, x, h1, t.t _ _ h2, h3⟩
def szs : List (Kd × Nat) → Nat
  | [] => 0
  | e :: r => e.1.sz + szs r
theorem ok_is_kind (T : Tx w K mg) : OkF P w K mg base 2 (ga K "is_kind") ["value"] (sp_is_kind K) := by
  have G_is_branch := ok_is_branch (P := P) (base := base) T
  have G_is_leaf := ok_is_leaf (P := P) (base := base) T
  refine okF T.f_is_kind rfl sc_is_kind b_is_kind (fun vs H Q E h => by obtain ⟨x, k, rfl, _⟩ := h; rfl) (fun cdv A outer s H vs Q E hr h => ?_)
  obtain ⟨v, k, rfl, hv, hf, q⟩ := h
  refine ⟨_, (pss_cons (ps_par (i := 1) (j := 2) (by rfl) sc_is_kind.nd rfl rfl (by decide) rfl rfl (pa_cons (pe_lst (pa_cons (pe_tup (pa_cons (pv 0) (pa_cons pe_int pa_nil))) pa_nil)) (pa_cons pe_int pa_nil)) (by rfl))
      (pss_cons (ps_while PassesOwn.never (pt_cmpR op_gt (pe_callB call_ln (by rfl) T.n_len PySem.boot_len (pa_cons (pv 1) pa_nil)) pe_int (nomark _)) (pss_cons (ps_asg (pe_bm0 PySem.F.plainAttrs_list PySem.F.slot_list_pop PySem.F.type_list_pop mt_pop (pv 1)) (pg_tup (by rfl) (pgs_cons (pg_name (i := 3) sc_is_kind.nd rfl (Or.inl rfl)) (pgs_cons (pg_name (i := 4) sc_is_kind.nd rfl (Or.inl rfl)) pgs_nil))))
      (pss_cons (ps_set (i := 2) sc_is_kind.nd rfl (Or.inl rfl) (pe_op op_add (pv 2) pe_int))
      (pss_cons (ps_if (PW.pt (pw_or (pt_cmpR op_gt (pv 2) (pe_gi T.i_MOST_SIGNS) (nomark _)) (pw_or1 (pt_cmpR op_gt (pv 4) (pe_gi T.i_MOST_DEEP) (nomark _))))) (pss_one (ps_ret pe_bl)) pss_nil)
      (pss_one (ps_if (pt_val (pe_f G_is_branch T.g_is_branch (hr.mono (by decide)) (pa_cons (pv 3) pa_nil))) (pss_one (ps_expr (pe_bm PySem.F.plainAttrs_list PySem.F.slot_list_extend PySem.F.type_list_extend mt_extend (pv 1) (pa_cons (pe_lst (pa_cons (pe_tup (pa_cons (pe_ix ix_tup (pv 3) pe_int (fun _ _ => rfl)) (pa_cons (pe_op op_add (pv 4) pe_int) pa_nil))) (pa_cons (pe_tup (pa_cons (pe_ix ix_tup (pv 3) pe_int (fun _ _ => rfl)) (pa_cons (pe_op op_add (pv 4) pe_int) pa_nil))) pa_nil))) pa_nil)))) (pss_one (ps_if (pt_not (pt_val (pe_f G_is_leaf T.g_is_leaf (hr.mono (by decide)) (pa_cons (pv 3) pa_nil)))) (pss_one (ps_ret pe_bl)) pss_nil))))))))
      (pss_one (ps_ret pe_bl)))), ?_⟩
  walk_at "rd"
  refine ktup_go len_ok fun p hp => ?_
  walk_at "rd"
  refine klst_go len_ok fun l hl => ?_
  walk_at "rd"
  refine wh_go (fun m σ H' => ∃ (rs : List V) (L : List (Kd × Nat)) (n : Nat) (x y : Option V), σ = [some v, some (.ref l), some (.int n), x, y] ∧ Al (KsAt K H H') rs L ∧ H' l = some (.lst rs.reverse) ∧ n + szs L = k.sz ∧ m = szs L ∧ Same H H') _
    ⟨[.ref p], [(k, 1)], 0, none, none, rfl, .cons ⟨p, v, rfl, by rw [upd_ne (ne_of_none upd_same hl)]; exact upd_same, hv, by have := hf.2; show 1 + k.dp ≤ 13; omega⟩ .nil, upd_same, by show 0 + (k.sz + 0) = k.sz; omega, rfl, (same_upd hp).trans (same_upd hl)⟩ ?_
  rintro m σ H1 ⟨rs, L, n, x, y, rfl, hA, hL, hn, rfl, sm⟩
  have nl : H l = none := by
    cases e : H l with
    | none => rfl
    | some o =>
      rw [upd_ne (show l ≠ p from fun z => by rw [z, upd_same] at hl; cases hl), e] at hl
      cases hl
  walk_at "rd"
  refine lnl_go (sqL_of hL) ?_
  walk_at "rd"
  cases hA with
  | nil =>
    walk_at "df"
    walk_at "rd"
    exact q _ sm
  | @cons r e rs L he hA =>
    obtain ⟨pe, ve, rfl, hpe, hke, hde⟩ := he
    obtain ⟨ke, de⟩ := e
    have sz1 := ke.sz_pos
    have hn' : n + (ke.sz + szs L) = k.sz := hn
    have hsz := hf.1
    refine ifT (decide_eq_true (by rw [List.length_reverse, List.length_cons]; omega)) (wh_in ?_)
    walk_at "rd"
    rw [List.reverse_cons] at hL
    refine kbm_go hL ?_
    walk_at "rd"
    refine pop_go hL ?_
    have t1 : TpS H1 (upd H1 l (.lst rs.reverse)) := TpS.lst hL
    refine gt2_go (sqT_of (t1.t _ _ hpe)) ?_
    walk_at "rd"
    have s1 : Same H (upd H1 l (.lst rs.reverse)) := same_mut sm nl
    refine ifF (decide_eq_false (by omega)) ?_
    walk_at "rd"
    refine ifF (decide_eq_false (by have := ke.dp_pos; have h2 : de + ke.dp ≤ 13 := hde; omega)) ?_
    walk_at "rd"
    refine ⟨_, _, rfl, hke.mono s1, fun H2 s2 => ?_⟩
    have t2 : TpS H1 H2 := t1.trans (TpS.same s2)
    have hl2 : H2 l = some (.lst rs.reverse) := s2 _ _ upd_same
    walk_at "rd"
    cases hke with
    | cnt hS =>
      refine ifF rfl ?_
      walk_at "rd"
      refine ⟨_, rfl, .cnt (Same.sqt (s1.trans s2) hS), ?_⟩
      walk_at "rd"
      exact ⟨szs L, by show szs L < 1 + szs L; omega, rs, L, n + 1, _, _, rfl, hA.imp fun _ _ h => h.ts t2, hl2, by have : n + (1 + szs L) = k.sz := hn; omega, rfl, s1.trans s2⟩
    | @two a x' y' t A B hS hA1 hB1 =>
      have hS2 : SqT K H2 a [.str t.w, x', y'] := Same.sqt (s1.trans s2) hS
      refine ifT rfl ?_
      walk_at "rd"
      refine kbm_go hl2 ?_
      walk_at "rd"
      refine ixt_go hS2 at1 ?_
      walk_at "rd"
      refine ktup_go len_ok fun p1 hp1 => ?_
      walk_at "rd"
      refine ixt_go (Same.sqt (same_upd hp1) hS2) at2 ?_
      walk_at "rd"
      refine ktup_go len_ok fun p2 hp2 => ?_
      walk_at "rd"
      refine klst_go len_ok fun p3 hp3 => ?_
      walk_at "rd"
      have s3 : Same H2 (upd (upd (upd H2 p1 (.tup [x', .int (de + 1)])) p2 (.tup [y', .int (de + 1)])) p3 (.lst [.ref p1, .ref p2])) := (same_upd hp1).trans ((same_upd hp2).trans (same_upd hp3))
      have hl3 := s3 _ _ hl2
      have hlen := hA.len
      have hLs : L.length ≤ szs L := by
        clear hlen hA hn hn'
        induction L with
        | nil => exact Nat.le_refl _
        | cons e r ih =>
          have := e.1.sz_pos
          show r.length + 1 ≤ e.1.sz + szs r
          omega
      have hz : n + (1 + A.sz + B.sz + szs L) = k.sz := hn
      refine ext_go hl3 upd_same (by rw [List.length_reverse]; show rs.length + 2 ≤ 100000; omega) ?_
      walk_at "rd"
      have t3 : TpS (upd (upd (upd H2 p1 (.tup [x', .int (de + 1)])) p2 (.tup [y', .int (de + 1)])) p3 (.lst [.ref p1, .ref p2])) (upd (upd (upd (upd H2 p1 (.tup [x', .int (de + 1)])) p2 (.tup [y', .int (de + 1)])) p3 (.lst [.ref p1, .ref p2])) l (.lst (rs.reverse ++ [.ref p1, .ref p2]))) := TpS.lst hl3
      have hd2 : de + (1 + max A.dp B.dp) ≤ 13 := hde
      refine ⟨szs ((B, de + 1) :: (A, de + 1) :: L), by show B.sz + (A.sz + szs L) < 1 + A.sz + B.sz + szs L; omega, .ref p2 :: .ref p1 :: rs, (B, de + 1) :: (A, de + 1) :: L, n + 1, _, _, rfl, ?_, by rw [upd_same]; simp, ?_, rfl, same_mut ((s1.trans s2).trans s3) nl⟩
      · refine .cons ⟨p2, y', rfl, t3.t _ _ (by rw [upd_ne (ne_of_none upd_same hp3)]; exact upd_same), hB1, by show de + 1 + B.dp ≤ 13; omega⟩ (.cons ⟨p1, x', rfl, t3.t _ _ (by
          rw [upd_ne (ne_of_none (show (upd (upd H2 p1 (.tup [x', .int (de + 1)])) p2 (.tup [y', .int (de + 1)])) p1 = some (.tup [x', .int (de + 1)]) from by rw [upd_ne (ne_of_none upd_same hp2)]; exact upd_same) hp3), upd_ne (ne_of_none upd_same hp2)]
          exact upd_same), hA1, by show de + 1 + A.dp ≤ 13; omega⟩ (hA.imp fun _ _ h => h.ts (t2.trans ((TpS.same s3).trans t3))))
      · show n + 1 + (B.sz + (A.sz + szs L)) = k.sz
        omega
end
end K42

/-! KD3 -/
/-! data_kind, is_node, are_tree, is_term -/
namespace K42
open PySem PySem.Spec L2 He
local macro_rules | `(tactic| walk_at "rd") => `(tactic| repeat (first | ((with_reducible refine' rd_var ?hvar ?_); (case hvar => exact rfl)) | with_reducible refine rd_seq ?_ | with_reducible refine rd_asg ?_ | with_reducible refine rd_ret ?_ | with_reducible refine rd_drop ?_ | with_reducible refine rd_ifs ?_ | with_reducible refine rd_name ?_ | with_reducible refine rd_c ?_ | with_reducible refine rd_cons ?_ | with_reducible refine rd_nil ?_ | with_reducible refine rd_cb ?_ | with_reducible refine rd_op ?_ | with_reducible refine rd_test ?_ | with_reducible refine rd_tb ?_ | with_reducible refine rd_and ?_ | with_reducible refine rd_or ?_ | with_reducible refine rd_not ?_ | with_reducible refine rd_andv ?_ | with_reducible refine rd_orv ?_ | with_reducible refine rd_notv ?_ | with_reducible refine rd_if ?_ | with_reducible refine rd_nx ?_ | with_reducible refine rd_retn ?_ | with_reducible refine rd_par ?_ | with_reducible refine rd_par3 ?_ | with_reducible refine rd_tup ?_ | with_reducible refine rd_lst ?_ | with_reducible refine rd_call ?_ | with_reducible refine rd_meth ?_ | with_reducible refine rd_make ?_ | with_reducible refine rd_fld ?_ | with_reducible refine rd_sfld ?_ | with_reducible refine rd_bm ?_ | with_reducible refine rd_bm0 ?_ | with_reducible refine rd_prop ?_ | with_reducible refine rd_dget ?_ | with_reducible refine rd_dnin ?_ | with_reducible refine rd_chain ?_ | with_reducible refine rd_sub ?_ | with_reducible refine rd_un ?_ | with_reducible refine rd_fl ?_ | with_reducible refine rd_ft ?_ | with_reducible refine rd_fr ?_ | with_reducible refine rd_fd ?_ | with_reducible refine rd_fe ?_ | with_reducible refine rd_ll ?_ | with_reducible refine rd_le ?_ | with_reducible refine rd_yes ?_ | with_reducible refine rd_dg2 ?_ | with_reducible refine rd_calld ?_ | with_reducible refine rd_lt ?_ | with_reducible refine rd_rev ?_ | with_reducible refine rd_sl ?_ | with_reducible refine rd_thru ?_ | with_reducible refine kb_go ?_ | with_reducible refine kpar_go ?_ | with_reducible refine kpar3_go ?_ | with_reducible refine ri0_go ?_ | with_reducible refine ru_go ?_ | ((with_reducible refine ifT ?hift ?_); (case hift => exact rfl)) | ((with_reducible refine ifF ?hiff ?_); (case hiff => exact rfl))))
local macro_rules | `(tactic| walk_at "dt") => `(tactic| first | refine ifT (by decide +kernel) ?_ | ((refine ifT ?hdt ?_); (case hdt => exact decide_eq_true (by omega))))
local macro_rules | `(tactic| walk_at "df") => `(tactic| first | refine ifF (by decide +kernel) ?_ | ((refine ifF ?hdf ?_); (case hdf => exact decide_eq_false (by omega))))

section
variable {P : Program} {w : World} {K : PySem.W.Frag} {mg : Str → Option Value} {base : Heap}
/-! ### the table of binders -/
theorem bn_mem (n : Nd) : (n.w, n.bn.map fun (i : Nat) => V.int (i : Int)) ∈ bnL := by
  cases n with
  | name i => show ((("name" : Str), ([] : List V))) ∈ bnL; decide +kernel
  | told i => show ((("told" : Str), ([] : List V))) ∈ bnL; decide +kernel
  | knd t k => cases t <;> (first | (show ((("fun" : Str), ([.int 1] : List V))) ∈ bnL; decide +kernel) | (show ((("left" : Str), ([.int 0] : List V))) ∈ bnL; decide +kernel) | (show ((("right" : Str), ([.int 0] : List V))) ∈ bnL; decide +kernel) | (show ((("turns" : Str), ([.int 0, .int 1, .int 0] : List V))) ∈ bnL; decide +kernel))
  | wd t => cases t <;> (first | (show ((("call" : Str), ([.int 0, .int 0] : List V))) ∈ bnL; decide +kernel) | (show ((("both" : Str), ([.int 0, .int 0] : List V))) ∈ bnL; decide +kernel) | (show ((("first" : Str), ([.int 0] : List V))) ∈ bnL; decide +kernel) | (show ((("second" : Str), ([.int 0] : List V))) ∈ bnL; decide +kernel) | (show ((("which" : Str), ([.int 0, .int 1, .int 1] : List V))) ∈ bnL; decide +kernel) | (show ((("next" : Str), ([.int 0] : List V))) ∈ bnL; decide +kernel) | (show ((("let" : Str), ([.int 0, .int 1] : List V))) ∈ bnL; decide +kernel))
theorem bn_at (T : Tx w K mg) (n : Nd) : PySem.W.nsIn K (ga K "BINDS") n.w = some (some (.ref (bnA n.w K))) := (T.bnv _ (bn_mem n)).1
theorem bn_tup (T : Tx w K mg) (n : Nd) (H : Hp) : SqT K H (bnA n.w K) (n.bn.map fun (i : Nat) => V.int (i : Int)) := (T.bnv _ (bn_mem n)).2 H
/-- BINDS[word] -/
theorem bn_go (T : Tx w K mg) (n : Nd) {H : Hp} {Q : VK} (q : Q (.ref (bnA n.w K)) H) : rIxD K w (.ref (ga K "BINDS")) (.str n.w) H Q := by
  obtain ⟨es, m, hD⟩ := T.bnd
  exact ⟨_, _, .ref (bnA n.w K), rfl, rfl, ⟨es, m, _, hD.at_, hD.lit, bn_at T n, rfl⟩, q⟩
theorem data_pair (A B : Kd) : (Kd.two .pair A B).data = (A.data && B.data) := by simp [Kd.data]
theorem data_sum (A B : Kd) : (Kd.two .sum A B).data = (A.data && B.data) := by simp [Kd.data]
theorem ok_data_kind (T : Tx w K mg) : ∀ n : Nat, OkF P w K mg base (n + 1) (ga K "data_kind") ["kind"] (sp_data_kind K n)
  | 0 => by
    refine okF T.f_data_kind rfl sc_data_kind b_data_kind (fun vs H Q E h => by obtain ⟨x, k, rfl, _⟩ := h; rfl) (fun cdv A outer s H vs Q E hr h => ?_)
    obtain ⟨v, k, _, _, hd, _⟩ := h
    exact absurd k.dp_pos (by omega)
  | n + 1 => by
    have G_data_kind := ok_data_kind T n
    refine okF T.f_data_kind rfl sc_data_kind b_data_kind (fun vs H Q E h => by obtain ⟨x, k, rfl, _⟩ := h; rfl) (fun cdv A outer s H vs Q E hr h => ?_)
    obtain ⟨v, k, rfl, hv, hd, q⟩ := h
    refine ⟨_, (pss_cons (ps_if (pt_cmpR op_in_seq (pe_ix ix_tup (pv 0) pe_int (fun _ _ => rfl)) (pe_tup (pa_cons (pe_gs T.z_PAIR) (pa_cons (pe_gs T.z_SUM) pa_nil))) (by rfl)) (pss_one (ps_ret (pe_and (pe_f G_data_kind T.g_data_kind hr (pa_cons (pe_ix ix_tup (pv 0) pe_int (fun _ _ => rfl)) pa_nil)) (pe_one (pe_f G_data_kind T.g_data_kind hr (pa_cons (pe_ix ix_tup (pv 0) pe_int (fun _ _ => rfl)) pa_nil)))))) pss_nil)
      (pss_one (ps_ret (pe_cmpR op_eq (pe_ix ix_tup (pv 0) pe_int (fun _ _ => rfl)) (pe_gs T.z_TELLING) (nomark _))))), ?_⟩
    cases hv with
    | cnt hS =>
      walk_at "rd"
      refine ixt_go hS at0 ?_
      walk_at "rd"
      refine ktup_go len_ok fun p hp => ?_
      refine rin_go (b := false) (sqT_of upd_same) rfl rfl (by decide +kernel) ?_
      walk_at "rd"
      refine ixt_go (Same.sqt (same_upd hp) hS) at0 ?_
      walk_at "rd"
      exact reqS_go (b := true) (by decide +kernel) (q _ (same_upd hp))
    | @two a x y t A B hS hA hB =>
      have hd2 : 1 + max A.dp B.dp ≤ n + 1 := hd
      walk_at "rd"
      refine ixt_go hS at0 ?_
      walk_at "rd"
      refine ktup_go len_ok fun p hp => ?_
      have s1 : Same H (upd H p (.tup [.str "pair", .str "sum"])) := same_upd hp
      cases t with
      | fn =>
        refine rin_go (b := false) (sqT_of upd_same) rfl rfl (by decide +kernel) ?_
        walk_at "rd"
        refine ixt_go (Same.sqt s1 hS) at0 ?_
        walk_at "rd"
        exact reqS_go (b := false) (by decide +kernel) (q _ s1)
      | pair =>
        refine rin_go (b := true) (sqT_of upd_same) rfl rfl (by decide +kernel) ?_
        walk_at "rd"
        refine ixt_go (Same.sqt s1 hS) at1 ?_
        walk_at "rd"
        refine ⟨x, A, rfl, hA.mono s1, by omega, fun H2 s2 => ?_⟩
        walk_at "rd"
        cases e : A.data with
        | false =>
          refine ifF rfl ?_
          have := q H2 (s1.trans s2)
          rw [data_pair, e] at this
          exact this
        | true =>
          refine ifT rfl ?_
          walk_at "rd"
          refine ixt_go (Same.sqt (s1.trans s2) hS) at2 ?_
          walk_at "rd"
          refine ⟨y, B, rfl, hB.mono (s1.trans s2), by omega, fun H3 s3 => ?_⟩
          have := q H3 ((s1.trans s2).trans s3)
          rw [data_pair, e, Bool.true_and] at this
          exact this
      | sum =>
        refine rin_go (b := true) (sqT_of upd_same) rfl rfl (by decide +kernel) ?_
        walk_at "rd"
        refine ixt_go (Same.sqt s1 hS) at1 ?_
        walk_at "rd"
        refine ⟨x, A, rfl, hA.mono s1, by omega, fun H2 s2 => ?_⟩
        walk_at "rd"
        cases e : A.data with
        | false =>
          refine ifF rfl ?_
          have := q H2 (s1.trans s2)
          rw [data_sum, e] at this
          exact this
        | true =>
          refine ifT rfl ?_
          walk_at "rd"
          refine ixt_go (Same.sqt (s1.trans s2) hS) at2 ?_
          walk_at "rd"
          refine ⟨y, B, rfl, hB.mono (s1.trans s2), by omega, fun H3 s3 => ?_⟩
          have := q H3 ((s1.trans s2).trans s3)
          rw [data_sum, e, Bool.true_and] at this
          exact this
/-! ### nodes -/
def sp_is_node (K : PySem.W.Frag) : Sp := fun vs H Q _ => ∃ v n, vs = [v] ∧ NdAt K H v n ∧ n.fine ∧ ∀ H1, Same H H1 → Q (.bl true) H1
theorem ok_is_node (T : Tx w K mg) : OkF P w K mg base 3 (ga K "is_node") ["value"] (sp_is_node K) := by
  have G_is_kind := ok_is_kind (P := P) (base := base) T
  have G_is_count := ok_is_count (P := P) (base := base) T
  obtain ⟨es, m, hBD⟩ := T.bnd
  refine okF T.f_is_node rfl sc_is_node b_is_node (fun vs H Q E h => by obtain ⟨x, k, rfl, _⟩ := h; rfl) (fun cdv A outer s H vs Q E hr h => ?_)
  obtain ⟨v, n, rfl, hv, hf, q⟩ := h
  refine ⟨_, (pss_cons (ps_if (PW.pt (pw_or (pt_not (pt_val (pe_callB call_isi (by rfl) T.n_isinstance (by decide +kernel) (pa_cons (pv 0) (pa_cons (pe_gt (n := "tuple") T.n_tuple (by decide +kernel)) pa_nil))))) (pw_or (pt_cmpR op_eq (pe_callB call_ln (by rfl) T.n_len PySem.boot_len (pa_cons (pv 0) pa_nil)) pe_int (nomark _)) (pw_or (pt_not (pt_val (pe_callB call_isi (by rfl) T.n_isinstance (by decide +kernel) (pa_cons (pe_ix ix_tup (pv 0) pe_int (fun _ _ => rfl)) (pa_cons (pe_gt (n := "str") T.n_str (by decide +kernel)) pa_nil))))) (pw_or1 (pt_cmpR (op_notIn_kd hBD) (pe_ix ix_tup (pv 0) pe_int (fun _ _ => rfl)) (pe_gr T.g_BINDS) (by rfl))))))) (pss_one (ps_ret pe_bl)) pss_nil)
      (pss_cons (ps_if (pt_cmpR op_in_seq (pe_ix ix_tup (pv 0) pe_int (fun _ _ => rfl)) (pe_gr T.g_WITH_KIND) (by rfl)) (pss_one (ps_ret (pe_and (pe_cmpR op_eq (pe_callB call_ln (by rfl) T.n_len PySem.boot_len (pa_cons (pv 0) pa_nil)) pe_int (nomark _)) (pe_one (pe_f G_is_kind T.g_is_kind (hr.mono (by decide)) (pa_cons (pe_ix ix_tup (pv 0) pe_int (fun _ _ => rfl)) pa_nil)))))) pss_nil)
      (pss_cons (ps_if (pt_cmpR op_eq (pe_ix ix_tup (pv 0) pe_int (fun _ _ => rfl)) (pe_gs T.z_NAME) (nomark _)) (pss_one (ps_ret (pe_and (pe_cmpR op_eq (pe_callB call_ln (by rfl) T.n_len PySem.boot_len (pa_cons (pv 0) pa_nil)) pe_int (nomark _)) (pe_and (pe_f G_is_count T.g_is_count (hr.mono (by decide)) (pa_cons (pe_ix ix_tup (pv 0) pe_int (fun _ _ => rfl)) pa_nil)) (pe_one (pe_cmpR op_le (pe_ix ix_tup (pv 0) pe_int (fun _ _ => rfl)) (pe_gi T.i_MOST_OUT) (nomark _))))))) pss_nil)
      (pss_cons (ps_if (pt_cmpR op_eq (pe_ix ix_tup (pv 0) pe_int (fun _ _ => rfl)) (pe_gs T.z_TOLD) (nomark _)) (pss_one (ps_ret (pe_and (pe_cmpR op_eq (pe_callB call_ln (by rfl) T.n_len PySem.boot_len (pa_cons (pv 0) pa_nil)) pe_int (nomark _)) (pe_and (pe_f G_is_count T.g_is_count (hr.mono (by decide)) (pa_cons (pe_ix ix_tup (pv 0) pe_int (fun _ _ => rfl)) pa_nil)) (pe_one (pe_cmpR op_le (pe_ix ix_tup (pv 0) pe_int (fun _ _ => rfl)) (pe_gi T.i_MOST_TOLD) (nomark _))))))) pss_nil)
      (pss_one (ps_ret (pe_cmpR op_eq (pe_callB call_ln (by rfl) T.n_len PySem.boot_len (pa_cons (pv 0) pa_nil)) pe_int (nomark _)))))))), ?_⟩
  obtain ⟨a, xs, rfl, hS, hx⟩ := hv.tup
  walk_at "rd"
  refine isi_go (tyx_tup hS) (b := true) (by decide +kernel) ?_
  walk_at "rd"
  refine lnt_go hS (reqI_go ?_)
  walk_at "rd"
  refine ixt_go hS at0 ?_
  walk_at "rd"
  refine isi_go tyx_str (b := true) (by decide +kernel) ?_
  walk_at "rd"
  refine ixt_go hS at0 ?_
  walk_at "rd"
  refine ⟨_, _, rfl, rfl, bn_at T n, ?_⟩
  walk_at "rd"
  refine ixt_go hS at0 ?_
  walk_at "rd"
  clear hx hS xs
  cases hv with
  | @name _ i hS =>
    simp only [Nd.w]
    refine rin_go (b := false) (T.wkd H) rfl rfl (by decide +kernel) ?_
    walk_at "rd"
    refine ixt_go hS at0 ?_
    walk_at "rd"
    refine reqS_go (b := true) (by decide +kernel) ?_
    walk_at "rd"
    refine lnt_go hS (reqI_go ?_)
    walk_at "rd"
    refine ixt_go hS at1 ?_
    walk_at "rd"
    refine ⟨_, rfl, ?_⟩
    walk_at "rd"
    refine ixt_go hS at1 ?_
    walk_at "rd"
    have := q H (Same.refl _)
    rw [show decide ((i : Int) ≤ 299) = true from decide_eq_true (by have h2 : i ≤ 299 := hf; omega)]
    exact this
  | @told _ i hS =>
    simp only [Nd.w]
    refine rin_go (b := false) (T.wkd H) rfl rfl (by decide +kernel) ?_
    walk_at "rd"
    refine ixt_go hS at0 ?_
    walk_at "rd"
    refine reqS_go (b := false) (by decide +kernel) ?_
    walk_at "rd"
    refine ixt_go hS at0 ?_
    walk_at "rd"
    refine reqS_go (b := true) (by decide +kernel) ?_
    walk_at "rd"
    refine lnt_go hS (reqI_go ?_)
    walk_at "rd"
    refine ixt_go hS at1 ?_
    walk_at "rd"
    refine ⟨_, rfl, ?_⟩
    walk_at "rd"
    refine ixt_go hS at1 ?_
    walk_at "rd"
    have := q H (Same.refl _)
    rw [show decide ((i : Int) ≤ 1000000) = true from decide_eq_true (by have h2 : i ≤ 1000000 := hf; omega)]
    exact this
  | @knd _ x t k hS hk =>
    simp only [Nd.w]
    refine rin_go (b := true) (T.wkd H) rfl rfl (by cases t <;> decide +kernel) ?_
    walk_at "rd"
    refine lnt_go hS (reqI_go ?_)
    walk_at "rd"
    refine ixt_go hS at1 ?_
    walk_at "rd"
    exact ⟨_, _, rfl, hk, hf, q⟩
  | @wd _ t hS =>
    simp only [Nd.w]
    refine rin_go (b := false) (T.wkd H) rfl rfl (by cases t <;> decide +kernel) ?_
    walk_at "rd"
    refine ixt_go hS at0 ?_
    walk_at "rd"
    refine reqS_go (b := false) (by cases t <;> decide +kernel) ?_
    walk_at "rd"
    refine ixt_go hS at0 ?_
    walk_at "rd"
    refine reqS_go (b := false) (by cases t <;> decide +kernel) ?_
    walk_at "rd"
    exact lnt_go hS (reqI_go (q H (Same.refl _)))
end
end K42

/-! KD4 -/
/-! are_tree, is_term, ends_of, children_of -/
namespace K42
open PySem PySem.Spec L2 He
local macro_rules | `(tactic| walk_at "rd") => `(tactic| repeat (first | ((with_reducible refine' rd_var ?hvar ?_); (case hvar => exact rfl)) | with_reducible refine rd_seq ?_ | with_reducible refine rd_asg ?_ | with_reducible refine rd_ret ?_ | with_reducible refine rd_drop ?_ | with_reducible refine rd_ifs ?_ | with_reducible refine rd_name ?_ | with_reducible refine rd_c ?_ | with_reducible refine rd_cons ?_ | with_reducible refine rd_nil ?_ | with_reducible refine rd_cb ?_ | with_reducible refine rd_op ?_ | with_reducible refine rd_test ?_ | with_reducible refine rd_tb ?_ | with_reducible refine rd_and ?_ | with_reducible refine rd_or ?_ | with_reducible refine rd_not ?_ | with_reducible refine rd_andv ?_ | with_reducible refine rd_orv ?_ | with_reducible refine rd_notv ?_ | with_reducible refine rd_if ?_ | with_reducible refine rd_nx ?_ | with_reducible refine rd_retn ?_ | with_reducible refine rd_par ?_ | with_reducible refine rd_par3 ?_ | with_reducible refine rd_tup ?_ | with_reducible refine rd_lst ?_ | with_reducible refine rd_call ?_ | with_reducible refine rd_meth ?_ | with_reducible refine rd_make ?_ | with_reducible refine rd_fld ?_ | with_reducible refine rd_sfld ?_ | with_reducible refine rd_bm ?_ | with_reducible refine rd_bm0 ?_ | with_reducible refine rd_prop ?_ | with_reducible refine rd_dget ?_ | with_reducible refine rd_dnin ?_ | with_reducible refine rd_chain ?_ | with_reducible refine rd_sub ?_ | with_reducible refine rd_un ?_ | with_reducible refine rd_fl ?_ | with_reducible refine rd_ft ?_ | with_reducible refine rd_fr ?_ | with_reducible refine rd_fd ?_ | with_reducible refine rd_fe ?_ | with_reducible refine rd_ll ?_ | with_reducible refine rd_le ?_ | with_reducible refine rd_yes ?_ | with_reducible refine rd_dg2 ?_ | with_reducible refine rd_calld ?_ | with_reducible refine rd_lt ?_ | with_reducible refine rd_rev ?_ | with_reducible refine rd_sl ?_ | with_reducible refine rd_thru ?_ | with_reducible refine kb_go ?_ | with_reducible refine kpar_go ?_ | with_reducible refine kpar3_go ?_ | with_reducible refine ri0_go ?_ | with_reducible refine ru_go ?_ | ((with_reducible refine ifT ?hift ?_); (case hift => exact rfl)) | ((with_reducible refine ifF ?hiff ?_); (case hiff => exact rfl))))
local macro_rules | `(tactic| walk_at "dt") => `(tactic| first | refine ifT (by decide +kernel) ?_ | ((refine ifT ?hdt ?_); (case hdt => exact decide_eq_true (by omega))))
local macro_rules | `(tactic| walk_at "df") => `(tactic| first | refine ifF (by decide +kernel) ?_ | ((refine ifF ?hdf ?_); (case hdf => exact decide_eq_false (by omega))))

section
variable {P : Program} {w : World} {K : PySem.W.Frag} {mg : Str → Option Value} {base : Heap}
/-- a list of nodes -/
def NsAt (K : PySem.W.Frag) (H : Hp) (a : Addr) (T : Tm) : Prop := ∃ vs, SqL K H a vs ∧ Al (NdAt K H) vs T.nodes
theorem NsAt.mono {H H1 : Hp} {a : Addr} {t : Tm} (e : Same H H1) (h : NsAt K H a t) : NsAt K H1 a t := by
  obtain ⟨vs, h1, h2⟩ := h
  exact ⟨vs, e.seq h1, h2.imp fun _ _ z => z.mono e⟩
def sp_are_tree (K : PySem.W.Frag) : Sp := fun vs H Q _ => ∃ (a : Addr) (t : Tm), vs = [.ref a] ∧ NsAt K H a t ∧ t.ok ∧ Q (.bl true) H
theorem ok_are_tree (T : Tx w K mg) : OkF P w K mg base 1 (ga K "are_tree") ["nodes"] (sp_are_tree K) := by
  refine okF T.f_are_tree rfl sc_are_tree b_are_tree (fun vs H Q E h => by obtain ⟨x, k, rfl, _⟩ := h; rfl) (fun cdv A outer s H vs Q E hr h => ?_)
  obtain ⟨a, t, rfl, ⟨vs, hS, hA⟩, hk, q⟩ := h
  refine ⟨_, (pss_cons (ps_set (i := 1) sc_are_tree.nd rfl (Or.inl rfl) pe_int)
      (pss_cons (ps_for PassesOwn.never rfl (pi_list (pv 0)) (pg_name (i := 2) sc_are_tree.nd rfl (Or.inl rfl)) (pss_cons (ps_if (pt_cmpR op_eq (pv 1) pe_int (nomark _)) (pss_one (ps_ret pe_bl)) pss_nil)
      (pss_one (ps_set (i := 1) sc_are_tree.nd rfl (Or.inl rfl) (pe_op op_add (pe_op op_sub (pv 1) pe_int) (pe_callB call_ln (by rfl) T.n_len PySem.boot_len (pa_cons (pe_ix ix_kdict (pe_gr T.g_BINDS) (pe_ix ix_tup (pv 2) pe_int (fun _ _ => rfl)) (fun _ _ => rfl)) pa_nil)))))))
      (pss_one (ps_ret (pe_cmpR op_eq (pv 1) pe_int (nomark _)))))), ?_⟩
  walk_at "rd"
  refine fl_go hS (fun i σ H' => ∃ (n : Nat) (x : Option V), σ = [some (.ref a), some (.int n), x] ∧ H' = H ∧ wd1 n (t.nodes.drop i) = some 0) ⟨1, none, rfl, rfl, ?_⟩ (fun i σ H' hi ⟨_, _, _, e, _⟩ => by rw [e]; exact hS) ?_ ?_
  · have := wd1_tree t 0 [] hk
    rw [List.append_nil] at this
    exact this
  · rintro i x σ H' hx ⟨n, y, rfl, rfl, hw⟩
    obtain ⟨nd, hn, hnd⟩ := hA.getV hx
    have hi := (List.getElem?_eq_some_iff.mp hn).1
    rw [List.drop_eq_getElem_cons hi, (List.getElem?_eq_some_iff.mp hn).2] at hw
    cases n with
    | zero => cases hw
    | succ n =>
      have hw2 : wd1 (n + nd.bn.length) (t.nodes.drop (i + 1)) = some 0 := hw
      obtain ⟨b, xs, rfl, hT, _⟩ := hnd.tup
      walk_at "rd"
      refine reqI_go ?_
      walk_at "rd"
      refine ixt_go hT at0 ?_
      walk_at "rd"
      refine bn_go T nd ?_
      walk_at "rd"
      refine lnt_go (bn_tup T nd _) ?_
      walk_at "rd"
      refine ⟨n + nd.bn.length, some (.ref b), ?_, rfl, hw2⟩
      rw [List.length_map]
      have e : ((n + 1 : Nat) : Int) - 1 + (nd.bn.length : Int) = ((n + nd.bn.length : Nat) : Int) := by omega
      rw [e]
      rfl
  · rintro σ H' ⟨n, y, rfl, rfl, hw⟩
    have e : t.nodes.drop vs.length = [] := List.drop_eq_nil_of_le (by rw [hA.len]; exact Nat.le_refl _)
    rw [e] at hw
    have e2 : n = 0 := Option.some.inj hw
    subst e2
    walk_at "rd"
    exact reqI_go q
def sp_is_term (K : PySem.W.Frag) : Sp := fun vs H Q _ => ∃ (a : Addr) (t : Tm), vs = [.ref a] ∧ NsAt K H a t ∧ t.ok ∧ t.size ≤ 300 ∧ ∀ H1, Same H H1 → Q (.bl true) H1
theorem ok_is_term (T : Tx w K mg) : OkF P w K mg base 4 (ga K "is_term") ["value"] (sp_is_term K) := by
  have G_is_list := ok_is_list (P := P) (base := base) T
  have G_is_node := ok_is_node (P := P) (base := base) T
  have G_are_tree := ok_are_tree (P := P) (base := base) T
  refine okF T.f_is_term rfl sc_is_term b_is_term (fun vs H Q E h => by obtain ⟨x, k, rfl, _⟩ := h; rfl) (fun cdv A outer s H vs Q E hr h => ?_)
  obtain ⟨a, t, rfl, ⟨vs, hS, hA⟩, hk, hz, q⟩ := h
  refine ⟨_, (pss_cons (ps_if (PW.pt (pw_or (pt_not (pt_val (pe_f G_is_list T.g_is_list (hr.mono (by decide)) (pa_cons (pv 0) pa_nil)))) (pw_or (pt_not (pt_chain op_le op_le pe_int (pe_callB call_ln (by rfl) T.n_len PySem.boot_len (pa_cons (pv 0) pa_nil)) (pe_gi T.i_MOST_NODES))) (pw_or1 (pt_not (pt_val (pe_callB (cr_all rfl) (by rfl) T.n_all (by decide +kernel) (pa_cons (pe_lc (own := [("node", 1)]) (g := gName 1) rfl sc_is_term.nd (pi_list (pv 0)) (blkOk_by (own := [("node", 1)]) (N := ["value", "node"]) (sc := defScope s_is_term) (by decide +kernel)) (fun _ _ _ _ _ => (pg_name (i := 1) sc_is_term.nd rfl (Or.inl rfl))) (fun _ _ _ _ _ => pts_nil) (fun _ _ _ _ _ => (pe_f G_is_node T.g_is_node (hr.mono (by decide)) (pa_cons (pv 1) pa_nil)))) pa_nil)))))))) (pss_one (ps_ret pe_bl)) pss_nil)
      (pss_one (ps_ret (pe_f G_are_tree T.g_are_tree (hr.mono (by decide)) (pa_cons (pv 0) pa_nil))))), ?_⟩
  have hl : vs.length = t.size := by rw [hA.len, t.len]
  have hp := t.size_pos
  walk_at "rd"
  refine ⟨a, vs, rfl, hS, fun H1 s1 => ?_⟩
  walk_at "rd"
  refine lnl_go (s1.seq hS) ?_
  walk_at "rd"
  refine ifT ?h1 ?_
  case h1 => exact decide_eq_true (by omega)
  walk_at "rd"
  refine ifF ?h2 ?_
  case h2 => rw [show decide ((vs.length : Int) ≤ 300) = true from decide_eq_true (by omega)]; rfl
  walk_at "rd"
  refine ll_go (s1.seq hS) (fun D i H2 => Same H1 H2 ∧ H2 D = some (.lst ((List.replicate i true).map V.bl))) (fun D hD => ⟨same_upd hD, upd_same⟩) (fun D i H2 hD hi ⟨s2, _⟩ => (s1.trans s2).seq hS) ?_ ?_
  · rintro D i x H2 hD hx ⟨s2, hD2⟩
    obtain ⟨nd, hn, hnd⟩ := hA.getV hx
    refine ⟨rfl, ?_⟩
    walk_at "rd"
    refine ⟨x, nd, rfl, hnd.mono (s1.trans s2), t.okNodes hk nd (List.mem_of_getElem? hn), fun H3 s3 => ?_⟩
    refine ⟨_, s3 _ _ hD2, line_gt (by rw [List.length_map, List.length_replicate]; have := (List.getElem?_eq_some_iff.mp hx).1; omega), same_mut (s2.trans s3) hD, ?_⟩
    rw [upd_same, List.replicate_succ', List.map_append]
    rfl
  · rintro D H2 hD ⟨s2, hD2⟩
    refine ⟨D, List.replicate vs.length true, rfl, sqL_of hD2, ?_⟩
    walk_at "rd"
    refine ifF ?h3 ?_
    case h3 => rw [show (List.replicate vs.length true).all id = true from List.all_eq_true.mpr fun x hx => by rw [List.eq_of_mem_replicate hx]; rfl]; rfl
    walk_at "rd"
    exact ⟨a, t, rfl, ⟨vs, (s1.trans s2).seq hS, hA.imp fun _ _ z => z.mono (s1.trans s2)⟩, hk, q H2 (s1.trans s2)⟩
end
end K42

/-! KD5 -/
/-! ends_of, children_of -/
namespace K42
open PySem PySem.Spec L2 He
local macro_rules | `(tactic| walk_at "rd") => `(tactic| repeat (first | ((with_reducible refine' rd_var ?hvar ?_); (case hvar => exact rfl)) | with_reducible refine rd_seq ?_ | with_reducible refine rd_asg ?_ | with_reducible refine rd_ret ?_ | with_reducible refine rd_drop ?_ | with_reducible refine rd_ifs ?_ | with_reducible refine rd_name ?_ | with_reducible refine rd_c ?_ | with_reducible refine rd_cons ?_ | with_reducible refine rd_nil ?_ | with_reducible refine rd_cb ?_ | with_reducible refine rd_op ?_ | with_reducible refine rd_test ?_ | with_reducible refine rd_tb ?_ | with_reducible refine rd_and ?_ | with_reducible refine rd_or ?_ | with_reducible refine rd_not ?_ | with_reducible refine rd_andv ?_ | with_reducible refine rd_orv ?_ | with_reducible refine rd_notv ?_ | with_reducible refine rd_if ?_ | with_reducible refine rd_nx ?_ | with_reducible refine rd_retn ?_ | with_reducible refine rd_par ?_ | with_reducible refine rd_par3 ?_ | with_reducible refine rd_tup ?_ | with_reducible refine rd_lst ?_ | with_reducible refine rd_call ?_ | with_reducible refine rd_meth ?_ | with_reducible refine rd_make ?_ | with_reducible refine rd_fld ?_ | with_reducible refine rd_sfld ?_ | with_reducible refine rd_bm ?_ | with_reducible refine rd_bm0 ?_ | with_reducible refine rd_prop ?_ | with_reducible refine rd_dget ?_ | with_reducible refine rd_dnin ?_ | with_reducible refine rd_chain ?_ | with_reducible refine rd_sub ?_ | with_reducible refine rd_un ?_ | with_reducible refine rd_fl ?_ | with_reducible refine rd_ft ?_ | with_reducible refine rd_fr ?_ | with_reducible refine rd_fd ?_ | with_reducible refine rd_fe ?_ | with_reducible refine rd_ll ?_ | with_reducible refine rd_le ?_ | with_reducible refine rd_yes ?_ | with_reducible refine rd_dg2 ?_ | with_reducible refine rd_calld ?_ | with_reducible refine rd_lt ?_ | with_reducible refine rd_rev ?_ | with_reducible refine rd_sl ?_ | with_reducible refine rd_thru ?_ | with_reducible refine kb_go ?_ | with_reducible refine kpar_go ?_ | with_reducible refine kpar3_go ?_ | with_reducible refine ri0_go ?_ | with_reducible refine ru_go ?_ | ((with_reducible refine ifT ?hift ?_); (case hift => exact rfl)) | ((with_reducible refine ifF ?hiff ?_); (case hiff => exact rfl))))
local macro_rules | `(tactic| walk_at "dt") => `(tactic| first | refine ifT (by decide +kernel) ?_ | ((refine ifT ?hdt ?_); (case hdt => exact decide_eq_true (by omega))))
local macro_rules | `(tactic| walk_at "df") => `(tactic| first | refine ifF (by decide +kernel) ?_ | ((refine ifF ?hdf ?_); (case hdf => exact decide_eq_false (by omega))))

section
variable {P : Program} {w : World} {K : PySem.W.Frag} {mg : Str → Option Value} {base : Heap}
/-- where each subterm ends -/
def EndsL (t : Tm) (us : List V) : Prop := us.length = t.size ∧ ∀ p u, At t p u → us[p]? = some (iv (p + u.size))
def sp_ends_of (K : PySem.W.Frag) : Sp := fun vs H Q _ => ∃ (a : Addr) (t : Tm), vs = [.ref a] ∧ NsAt K H a t ∧ t.ok ∧ t.size ≤ 300 ∧ ∀ r H1 us, H r = none → Same H H1 → H1 r = some (.lst us) → EndsL t us → Q (.ref r) H1
theorem ok_ends_of (T : Tx w K mg) : OkF P w K mg base 1 (ga K "ends_of") ["nodes"] (sp_ends_of K) := by
  refine okF T.f_ends_of rfl sc_ends_of b_ends_of (fun vs H Q E h => by obtain ⟨x, k, rfl, _⟩ := h; rfl) (fun cdv A outer s H vs Q E hr h => ?_)
  obtain ⟨a, t, rfl, ⟨vs, hS, hA⟩, hk, hz, q⟩ := h
  refine ⟨_, (pss_cons (ps_par (i := 1) (j := 2) (by rfl) sc_ends_of.nd rfl rfl (by decide) rfl rfl (pa_cons (pe_lc (own := [("node", 3)]) (g := gName 3) rfl sc_ends_of.nd (pi_list (pv 0)) (blkOk_by (own := [("node", 3)]) (N := ["nodes", "found", "behind", "node", "position", "end", "child"]) (sc := defScope s_ends_of) (by decide +kernel)) (fun _ _ _ _ _ => (pg_name (i := 3) sc_ends_of.nd rfl (Or.inl rfl))) (fun _ _ _ _ _ => pts_nil) (fun _ _ _ _ _ => pe_int)) (pa_cons (pe_lst pa_nil) pa_nil)) (by rfl))
      (pss_cons (ps_for PassesOwn.never rfl (pi_range3 (by rfl) T.n_range (pa_cons (pe_op op_sub (pe_callB call_ln (by rfl) T.n_len PySem.boot_len (pa_cons (pv 0) pa_nil)) pe_int) (pa_cons (pe_un un_neg pe_int) (pa_cons (pe_un un_neg pe_int) pa_nil)))) (pg_name (i := 4) sc_ends_of.nd rfl (Or.inl rfl)) (pss_cons (ps_set (i := 5) sc_ends_of.nd rfl (Or.inl rfl) (pe_op op_add (pv 4) pe_int))
      (pss_cons (ps_for PassesOwn.never rfl (pi_tup (pe_ix ix_kdict (pe_gr T.g_BINDS) (pe_ix ix_tup (pe_ix ix_list (pv 0) (pv 4) (fun _ _ => rfl)) pe_int (fun _ _ => rfl)) (fun _ _ => rfl))) (pg_name (i := 6) sc_ends_of.nd rfl (Or.inl rfl)) (pss_one (ps_set (i := 5) sc_ends_of.nd rfl (Or.inl rfl) (pe_bm0 PySem.F.plainAttrs_list PySem.F.slot_list_pop PySem.F.type_list_pop mt_pop (pv 2)))))
      (pss_cons (ps_asg (pv 5) (pg_sub (pv 1) (pv 4) set_list))
      (pss_one (ps_expr (pe_bm PySem.F.plainAttrs_list PySem.F.slot_list_append PySem.F.type_list_append mt_append (pv 2) (pa_cons (pv 5) pa_nil))))))))
      (pss_one (ps_ret (pv 1))))), ?_⟩
  have hl : vs.length = t.size := by rw [hA.len, t.len]
  walk_at "rd"
  refine ll_go hS (fun D i H2 => Same H H2 ∧ H2 D = some (.lst (List.replicate i (V.int 0)))) (fun D hD => ⟨same_upd hD, upd_same⟩) (fun D i H2 hD hi ⟨s2, _⟩ => s2.seq hS) ?_ ?_
  · rintro D i x H2 hD hx ⟨s2, hD2⟩
    refine ⟨rfl, ?_⟩
    walk_at "rd"
    refine ⟨_, hD2, line_gt (by rw [List.length_replicate]; have := (List.getElem?_eq_some_iff.mp hx).1; omega), same_mut s2 hD, ?_⟩
    rw [upd_same, List.replicate_succ']
  rintro f H2 hf ⟨s2, hf2⟩
  walk_at "rd"
  refine klst_go len_ok fun b hb => ?_
  have hb0 : H b = none := s2.free hb
  have nfb : f ≠ b := ne_of_none hf2 hb
  walk_at "rd"
  refine lnl_go ((s2.trans (same_upd hb)).seq hS) ?_
  walk_at "rd"
  rw [hl]
  refine fd_go (n := t.size) (by omega) (fun i σ H' => ∃ (us : List V) (x3 x4 x5 x6 : Option V), σ = [some (.ref a), some (.ref f), some (.ref b), x3, x4, x5, x6] ∧ Same H H' ∧ H' f = some (.lst us) ∧ us.length = t.size ∧
      H' b = some (.lst ((eo (t.size - i) (fa (t.size - i) [t])).reverse.map iv)) ∧ ∀ p u, t.size - i ≤ p → At t p u → us[p]? = some (iv (p + u.size))) ?_ ?_ ?_
  · refine ⟨List.replicate vs.length (V.int 0), none, none, none, none, rfl, s2.trans (same_upd hb), by rw [upd_ne nfb]; exact hf2, by rw [List.length_replicate, hl], ?_, fun p u hp hu => ?_⟩
    · rw [upd_same, Nat.sub_zero, fa_skip]
      rfl
    · have := hu.lt
      omega
  · rintro i σ H' hi ⟨us, x3, x4, x5, x6, rfl, s', hf', hus, hb', hin⟩
    have hp : t.size - 1 - i < t.size := by omega
    obtain ⟨u, r, hfa⟩ := fa_some hp
    have hat : At t (t.size - 1 - i) u := ⟨r, hfa⟩
    have hfa1 : fa (t.size - i) [t] = u.kids ++ r := by
      have := fa_step hfa
      rw [show t.size - 1 - i + 1 = t.size - i by omega] at this
      exact this
    rw [hfa1, eo_app] at hb'
    obtain ⟨v, hv, hnd⟩ := hA.get (i := t.size - 1 - i) hat.node
    obtain ⟨bn, xs, rfl, hT, _⟩ := hnd.tup
    have huk := u.ok_kids (hat.ok hk)
    have hus2 := u.size_eq
    walk_at "rd"
    refine ixl_go (s'.seq hS) (atI_nat hv) ?_
    walk_at "rd"
    refine ixt_go (Same.sqt s' hT) at0 ?_
    walk_at "rd"
    refine bn_go T u.node ?_
    refine ft_go (bn_tup T u.node _) (fun j σ H3 => ∃ (e : Nat) (x6 : Option V), σ = [some (.ref a), some (.ref f), some (.ref b), x3, some (iv (t.size - 1 - i)), some (iv e), x6] ∧ Same H H3 ∧ H3 f = some (.lst us) ∧
      H3 b = some (.lst (((eo (t.size - i) u.kids).drop j ++ eo (t.size - i + szl u.kids) r).reverse.map iv)) ∧ ((t.size - i) :: eo (t.size - i) u.kids)[j]? = some e) ?_ (fun _ _ _ _ _ => bn_tup T u.node _) ?_ ?_
    · refine ⟨t.size - i, x6, ?_, s', hf', hb', rfl⟩
      have e : ((t.size - 1 - i : Nat) : Int) + 1 = ((t.size - i : Nat) : Int) := by omega
      show [_, _, _, _, _, some (V.int (((t.size - 1 - i : Nat) : Int) + 1)), _] = _
      rw [e]
      rfl
    · rintro j x σ H3 hx ⟨e, y6, rfl, s3, hf3, hb3, he⟩
      have hj : j < (eo (t.size - i) u.kids).length := by
        have := (List.getElem?_eq_some_iff.mp hx).1
        rw [List.length_map, huk.1] at this
        rw [eo_len]
        exact this
      rw [List.drop_eq_getElem_cons hj, List.cons_append, List.reverse_cons, List.map_append] at hb3
      walk_at "rd"
      refine kbm_go hb3 ?_
      walk_at "rd"
      refine pop_go hb3 ?_
      walk_at "rd"
      refine ⟨(eo (t.size - i) u.kids)[j], some x, rfl, same_mut s3 hb0, by rw [upd_ne nfb]; exact hf3, upd_same, ?_⟩
      rw [List.getElem?_cons_succ]
      exact List.getElem?_eq_getElem hj
    · rintro σ H3 ⟨e, y6, rfl, s3, hf3, hb3, he⟩
      have hlen : (u.node.bn.map fun (i : Nat) => V.int (i : Int)).length = u.kids.length := by rw [List.length_map, huk.1]
      rw [hlen] at hb3 he
      have hee : e = t.size - 1 - i + u.size := by
        rw [eo_last] at he
        have := Option.some.inj he
        omega
      subst hee
      rw [List.drop_eq_nil_of_le (by rw [eo_len]; exact Nat.le_refl _), List.nil_append] at hb3
      walk_at "rd"
      refine rset_go hf3 (by omega) ?_
      have hb4 : (upd H3 f (.lst (us.set (t.size - 1 - i) (iv (t.size - 1 - i + u.size))))) b = _ := (upd_ne nfb.symm).trans hb3
      walk_at "rd"
      refine kbm_go hb4 ?_
      walk_at "rd"
      refine app_go hb4 ?_ ?_
      · rw [List.length_map, List.length_reverse, eo_len]
        have h1 := fl_fa (t.size - 1 - i) [t]
        rw [hfa, fl_one] at h1
        have h2 : (fl (u :: r)).length = (t.nodes.drop (t.size - 1 - i)).length := by rw [h1]
        rw [fl_len, List.length_drop, t.len] at h2
        have h3 : ∀ F : List Tm, F.length ≤ szl F := fun F => by
          induction F with
          | nil => exact Nat.le_refl _
          | cons x F ih =>
            have := x.size_pos
            show F.length + 1 ≤ x.size + szl F
            omega
        have h4 := h3 r
        have h5 : szl (u :: r) = u.size + szl r := rfl
        omega
      · walk_at "rd"
        refine ⟨us.set (t.size - 1 - i) (iv (t.size - 1 - i + u.size)), x3, some (iv (t.size - 1 - i)), some (iv (t.size - 1 - i + u.size)), y6, rfl, same_mut (same_mut s3 hf) hb0, by rw [upd_ne nfb, upd_same], by rw [List.length_set]; exact hus, ?_, fun p v hp hv2 => ?_⟩
        · rw [upd_same, show t.size - (i + 1) = t.size - 1 - i by omega, hfa]
          show _ = some (HO.lst ((((t.size - 1 - i + u.size) :: eo (t.size - 1 - i + u.size) r).reverse).map iv))
          rw [List.reverse_cons, List.map_append, show t.size - 1 - i + u.size = t.size - i + szl u.kids by omega]
          rfl
        · by_cases hpe : p = t.size - 1 - i
          · subst hpe
            obtain ⟨r2, h2⟩ := hv2
            rw [hfa] at h2
            cases h2
            exact List.getElem?_set_self (by omega)
          · rw [List.getElem?_set_ne (fun z => hpe z.symm)]
            exact hin p v (by omega) hv2
  · rintro σ H' ⟨us, x3, x4, x5, x6, rfl, s', hf', hus, hb', hin⟩
    walk_at "rd"
    exact q f H' us hf s' hf' ⟨hus, fun p u h => hin p u (by omega) h⟩
end
end K42

/-! KD6 -/
/-! children_of -/
namespace K42
open PySem PySem.Spec L2 He
local macro_rules | `(tactic| walk_at "rd") => `(tactic| repeat (first | ((with_reducible refine' rd_var ?hvar ?_); (case hvar => exact rfl)) | with_reducible refine rd_seq ?_ | with_reducible refine rd_asg ?_ | with_reducible refine rd_ret ?_ | with_reducible refine rd_drop ?_ | with_reducible refine rd_ifs ?_ | with_reducible refine rd_name ?_ | with_reducible refine rd_c ?_ | with_reducible refine rd_cons ?_ | with_reducible refine rd_nil ?_ | with_reducible refine rd_cb ?_ | with_reducible refine rd_op ?_ | with_reducible refine rd_test ?_ | with_reducible refine rd_tb ?_ | with_reducible refine rd_and ?_ | with_reducible refine rd_or ?_ | with_reducible refine rd_not ?_ | with_reducible refine rd_andv ?_ | with_reducible refine rd_orv ?_ | with_reducible refine rd_notv ?_ | with_reducible refine rd_if ?_ | with_reducible refine rd_nx ?_ | with_reducible refine rd_retn ?_ | with_reducible refine rd_par ?_ | with_reducible refine rd_par3 ?_ | with_reducible refine rd_tup ?_ | with_reducible refine rd_lst ?_ | with_reducible refine rd_call ?_ | with_reducible refine rd_meth ?_ | with_reducible refine rd_make ?_ | with_reducible refine rd_fld ?_ | with_reducible refine rd_sfld ?_ | with_reducible refine rd_bm ?_ | with_reducible refine rd_bm0 ?_ | with_reducible refine rd_prop ?_ | with_reducible refine rd_dget ?_ | with_reducible refine rd_dnin ?_ | with_reducible refine rd_chain ?_ | with_reducible refine rd_sub ?_ | with_reducible refine rd_un ?_ | with_reducible refine rd_fl ?_ | with_reducible refine rd_ft ?_ | with_reducible refine rd_fr ?_ | with_reducible refine rd_fd ?_ | with_reducible refine rd_fe ?_ | with_reducible refine rd_ll ?_ | with_reducible refine rd_le ?_ | with_reducible refine rd_yes ?_ | with_reducible refine rd_dg2 ?_ | with_reducible refine rd_calld ?_ | with_reducible refine rd_lt ?_ | with_reducible refine rd_rev ?_ | with_reducible refine rd_sl ?_ | with_reducible refine rd_thru ?_ | with_reducible refine kb_go ?_ | with_reducible refine kpar_go ?_ | with_reducible refine kpar3_go ?_ | with_reducible refine ri0_go ?_ | with_reducible refine ru_go ?_ | ((with_reducible refine ifT ?hift ?_); (case hift => exact rfl)) | ((with_reducible refine ifF ?hiff ?_); (case hiff => exact rfl))))
local macro_rules | `(tactic| walk_at "dt") => `(tactic| first | refine ifT (by decide +kernel) ?_ | ((refine ifT ?hdt ?_); (case hdt => exact decide_eq_true (by omega))))
local macro_rules | `(tactic| walk_at "df") => `(tactic| first | refine ifF (by decide +kernel) ?_ | ((refine ifF ?hdf ?_); (case hdf => exact decide_eq_false (by omega))))

section
variable {P : Program} {w : World} {K : PySem.W.Frag} {mg : Str → Option Value} {base : Heap}
/-- for each subterm the list of its children's places -/
def ChL (H : Hp) (t : Tm) (us : List V) : Prop := us.length = t.size ∧ ∀ p u, At t p u → ∃ l, us[p]? = some (.ref l) ∧ H l = some (.lst ((cp p u).map iv))
def sp_children_of (K : PySem.W.Frag) : Sp := fun vs H Q _ => ∃ (a : Addr) (t : Tm), vs = [.ref a] ∧ NsAt K H a t ∧ t.ok ∧ t.size ≤ 300 ∧ ∀ r H1 us, H r = none → Same H H1 → H1 r = some (.lst us) → ChL H1 t us → (∀ l : Addr, .ref l ∈ us → H l = none) → Q (.ref r) H1
theorem ok_children_of (T : Tx w K mg) : OkF P w K mg base 2 (ga K "children_of") ["nodes"] (sp_children_of K) := by
  have G_ends_of := ok_ends_of (P := P) (base := base) T
  refine okF T.f_children_of rfl sc_children_of b_children_of (fun vs H Q E h => by obtain ⟨x, k, rfl, _⟩ := h; rfl) (fun cdv A outer s H vs Q E hr h => ?_)
  obtain ⟨a, t, rfl, hN, hk, hz, q⟩ := h
  refine ⟨_, (pss_cons (ps_par (i := 1) (j := 2) (by rfl) sc_children_of.nd rfl rfl (by decide) rfl rfl (pa_cons (pe_f G_ends_of T.g_ends_of (hr.mono (by decide)) (pa_cons (pv 0) pa_nil)) (pa_cons (pe_lst pa_nil) pa_nil)) (by rfl))
      (pss_cons (ps_for PassesOwn.never rfl (pi_enum (by rfl) T.n_enumerate (pa_cons (pv 0) pa_nil)) (pg_tup (by rfl) (pgs_cons (pg_name (i := 3) sc_children_of.nd rfl (Or.inl rfl)) (pgs_cons (pg_name (i := 4) sc_children_of.nd rfl (Or.inl rfl)) pgs_nil))) (pss_cons (ps_par (i := 5) (j := 6) (by rfl) sc_children_of.nd rfl rfl (by decide) rfl rfl (pa_cons (pe_op op_add (pv 3) pe_int) (pa_cons (pe_lst pa_nil) pa_nil)) (by rfl))
      (pss_cons (ps_for PassesOwn.never rfl (pi_tup (pe_ix ix_kdict (pe_gr T.g_BINDS) (pe_ix ix_tup (pv 4) pe_int (fun _ _ => rfl)) (fun _ _ => rfl))) (pg_name (i := 7) sc_children_of.nd rfl (Or.inl rfl)) (pss_cons (ps_expr (pe_bm PySem.F.plainAttrs_list PySem.F.slot_list_append PySem.F.type_list_append mt_append (pv 6) (pa_cons (pv 5) pa_nil)))
      (pss_one (ps_set (i := 5) sc_children_of.nd rfl (Or.inl rfl) (pe_ix ix_list (pv 1) (pv 5) (fun _ _ => rfl))))))
      (pss_one (ps_expr (pe_bm PySem.F.plainAttrs_list PySem.F.slot_list_append PySem.F.type_list_append mt_append (pv 2) (pa_cons (pv 6) pa_nil)))))))
      (pss_one (ps_ret (pv 2))))), ?_⟩
  obtain ⟨vs, hS, hA⟩ := id hN
  have hl : vs.length = t.size := by rw [hA.len, t.len]
  walk_at "rd"
  refine ⟨a, t, rfl, hN, hk, hz, fun e H2 es he0 s2 he hE => ?_⟩
  walk_at "rd"
  refine klst_go len_ok fun c hc => ?_
  have s3 : Same H2 (upd H2 c (.lst [])) := same_upd hc
  have hcH : H c = none := s2.free hc
  walk_at "rd"
  refine fe_go (xs := vs) ((s2.trans s3).seq hS) (fun i σ H' => ∃ (us : List V) (x3 x4 x5 x6 x7 : Option V), σ = [some (.ref a), some (.ref e), some (.ref c), x3, x4, x5, x6, x7] ∧ Same H2 H' ∧ H' c = some (.lst us) ∧ us.length = i ∧
      ∀ p u, p < i → At t p u → ∃ l, us[p]? = some (.ref l) ∧ l ≠ c ∧ H l = none ∧ H' l = some (.lst ((cp p u).map iv))) ?_ (fun i σ H' hi ⟨_, _, _, _, _, _, _, z, _⟩ => (s2.trans z).seq hS) ?_ ?_
  · exact ⟨[], none, none, none, none, none, rfl, s3, upd_same, rfl, fun p u hp => absurd hp (Nat.not_lt_zero _)⟩
  · rintro i x σ H' pr hx ⟨us, x3, x4, x5, x6, x7, rfl, s', hc', hus, hin⟩ hpr
    have hi : i < t.size := by rw [← hl]; exact (List.getElem?_eq_some_iff.mp hx).1
    obtain ⟨u, r, hfa⟩ := fa_some hi
    have hat : At t i u := ⟨r, hfa⟩
    have hfa1 := fa_step hfa
    obtain ⟨v, hv, hnd⟩ := hA.get (i := i) hat.node
    rw [hx] at hv
    cases Option.some.inj hv
    obtain ⟨bn, xs, rfl, hT, _⟩ := hnd.tup
    have huk := u.ok_kids (hat.ok hk)
    have s1 : Same H' (upd H' pr (.tup [.int i, .ref bn])) := same_upd hpr
    refine gt2_go (sqT_of upd_same) ?_
    walk_at "rd"
    refine klst_go len_ok fun sp hsp => ?_
    have s4 : Same H2 (upd (upd H' pr (.tup [.int i, .ref bn])) sp (.lst [])) := s'.trans (s1.trans (same_upd hsp))
    have ncs : c ≠ sp := ne_of_none (s1 _ _ hc') hsp
    have hsp0 : H' sp = none := s1.free hsp
    walk_at "rd"
    refine ixt_go (Same.sqt (s2.trans s4) hT) at0 ?_
    walk_at "rd"
    refine bn_go T u.node ?_
    refine ft_go (bn_tup T u.node _) (fun j σ H3 => ∃ (h : Nat) (x7 : Option V), σ = [some (.ref a), some (.ref e), some (.ref c), some (iv i), some (.ref bn), some (iv h), some (.ref sp), x7] ∧ Same (upd H' pr (.tup [.int i, .ref bn])) H3 ∧
      H3 sp = some (.lst (((bo (i + 1) u.kids).take j).map iv)) ∧ ((i + 1) :: eo (i + 1) u.kids)[j]? = some h) ⟨i + 1, x7, rfl, same_upd hsp, upd_same, rfl⟩ (fun _ _ _ _ _ => bn_tup T u.node _) ?_ ?_
    · rintro j x σ H3 hx2 ⟨h, y7, rfl, s5, hs5, hh⟩
      have hj : j < u.kids.length := by
        have := (List.getElem?_eq_some_iff.mp hx2).1
        rw [List.length_map, huk.1] at this
        exact this
      obtain ⟨q', s', hq1, hq2, hq3, hq4⟩ := bo_at (i + 1) u.kids r [t] hfa1 j u.kids[j] (List.getElem?_eq_getElem hj)
      rw [hh] at hq3
      cases Option.some.inj hq3
      walk_at "rd"
      refine kbm_go hs5 ?_
      walk_at "rd"
      refine app_go hs5 ?_ ?_
      · have h3 : ∀ F : List Tm, F.length ≤ szl F := fun F => by
          induction F with
          | nil => exact Nat.le_refl _
          | cons x F ih =>
            have := x.size_pos
            show F.length + 1 ≤ x.size + szl F
            omega
        have h4 := h3 u.kids
        have h5 := u.size_eq
        have h6 : u.size ≤ t.size := by
          have h1 := fl_fa i [t]
          rw [hfa, fl_one] at h1
          have h2 : (fl (u :: r)).length = (t.nodes.drop i).length := by rw [h1]
          rw [fl_len, List.length_drop, t.len] at h2
          have h7 : szl (u :: r) = u.size + szl r := rfl
          omega
        rw [List.length_map, List.length_take]
        omega
      · walk_at "rd"
        have he3 : (upd H3 sp (.lst (((bo (i + 1) u.kids).take j).map iv ++ [.int h]))) e = some (.lst es) := by
          rw [upd_ne (ne_of_none (s1 _ _ (‹Same H2 H'› _ _ he)) hsp)]
          exact s5 _ _ (s1 _ _ (‹Same H2 H'› _ _ he))
        refine ixl_go (sqL_of he3) (atI_nat (hE.2 h u.kids[j] ⟨_, hq2⟩)) ?_
        walk_at "rd"
        refine ⟨h + u.kids[j].size, some x, rfl, same_mut s5 hsp, ?_, hq4⟩
        rw [upd_same, List.take_succ, hq1, List.map_append]
        rfl
    · rintro σ H3 ⟨h, y7, rfl, s5, hs5, hh⟩
      have hlen : (u.node.bn.map fun (i : Nat) => V.int (i : Int)).length = u.kids.length := by rw [List.length_map, huk.1]
      rw [hlen, List.take_of_length_le (by rw [bo_len]; exact Nat.le_refl _)] at hs5
      have hc5 := s5 _ _ (s1 _ _ hc')
      walk_at "rd"
      refine kbm_go hc5 ?_
      walk_at "rd"
      refine app_go hc5 (by omega) ?_
      walk_at "rd"
      refine ⟨us ++ [.ref sp], some (iv i), some (.ref bn), some (iv h), some (.ref sp), y7, rfl, same_mut (s'.trans (s1.trans s5)) hc, upd_same, by rw [List.length_append, hus]; rfl, fun p v hp hv => ?_⟩
      by_cases hpi : p = i
      · subst hpi
        obtain ⟨r2, h2⟩ := hv
        rw [hfa] at h2
        cases h2
        refine ⟨sp, by rw [List.getElem?_append_right (by omega), hus, Nat.sub_self]; rfl, ncs.symm, s2.free (s'.free hsp0), ?_⟩
        rw [upd_ne ncs.symm]
        exact hs5
      · obtain ⟨l, hl1, hl2, hl4, hl3⟩ := hin p v (by omega) hv
        refine ⟨l, by rw [List.getElem?_append_left (by omega)]; exact hl1, hl2, hl4, ?_⟩
        rw [upd_ne hl2]
        exact s5 _ _ (s1 _ _ hl3)
  · rintro σ H' ⟨us, x3, x4, x5, x6, x7, rfl, s', hc', hus, hin⟩
    walk_at "rd"
    refine q c H' us hcH (s2.trans s') hc' ⟨by rw [hus, hl], fun p u hu => ?_⟩ fun l hl2 => ?_
    · obtain ⟨l, h1, _, _, h3⟩ := hin p u (by rw [hl]; exact hu.lt) hu
      exact ⟨l, h1, h3⟩
    · obtain ⟨p, hp⟩ := List.mem_iff_getElem?.mp hl2
      have hpl := (List.getElem?_eq_some_iff.mp hp).1
      rw [hus, hl] at hpl
      obtain ⟨u, r, hu⟩ := fa_some hpl
      obtain ⟨l2, h1, _, h3, _⟩ := hin p u (by rw [hl]; exact hpl) ⟨r, hu⟩
      rw [hp] at h1
      cases h1
      exact h3
end
end K42

/-! KD7 -/
/-! rows of kinds; the kinds of nodes by those of their children -/
namespace K42
open PySem PySem.Spec L2 He
local macro_rules | `(tactic| walk_at "rd") => `(tactic| repeat (first | ((with_reducible refine' rd_var ?hvar ?_); (case hvar => exact rfl)) | with_reducible refine rd_seq ?_ | with_reducible refine rd_asg ?_ | with_reducible refine rd_ret ?_ | with_reducible refine rd_drop ?_ | with_reducible refine rd_ifs ?_ | with_reducible refine rd_name ?_ | with_reducible refine rd_c ?_ | with_reducible refine rd_cons ?_ | with_reducible refine rd_nil ?_ | with_reducible refine rd_cb ?_ | with_reducible refine rd_op ?_ | with_reducible refine rd_test ?_ | with_reducible refine rd_tb ?_ | with_reducible refine rd_and ?_ | with_reducible refine rd_or ?_ | with_reducible refine rd_not ?_ | with_reducible refine rd_andv ?_ | with_reducible refine rd_orv ?_ | with_reducible refine rd_notv ?_ | with_reducible refine rd_if ?_ | with_reducible refine rd_nx ?_ | with_reducible refine rd_retn ?_ | with_reducible refine rd_par ?_ | with_reducible refine rd_par3 ?_ | with_reducible refine rd_tup ?_ | with_reducible refine rd_lst ?_ | with_reducible refine rd_call ?_ | with_reducible refine rd_meth ?_ | with_reducible refine rd_make ?_ | with_reducible refine rd_fld ?_ | with_reducible refine rd_sfld ?_ | with_reducible refine rd_bm ?_ | with_reducible refine rd_bm0 ?_ | with_reducible refine rd_prop ?_ | with_reducible refine rd_dget ?_ | with_reducible refine rd_dnin ?_ | with_reducible refine rd_chain ?_ | with_reducible refine rd_sub ?_ | with_reducible refine rd_un ?_ | with_reducible refine rd_fl ?_ | with_reducible refine rd_ft ?_ | with_reducible refine rd_fr ?_ | with_reducible refine rd_fd ?_ | with_reducible refine rd_fe ?_ | with_reducible refine rd_ll ?_ | with_reducible refine rd_le ?_ | with_reducible refine rd_yes ?_ | with_reducible refine rd_dg2 ?_ | with_reducible refine rd_calld ?_ | with_reducible refine rd_lt ?_ | with_reducible refine rd_rev ?_ | with_reducible refine rd_sl ?_ | with_reducible refine rd_thru ?_ | with_reducible refine kb_go ?_ | with_reducible refine kpar_go ?_ | with_reducible refine kpar3_go ?_ | with_reducible refine ri0_go ?_ | with_reducible refine ru_go ?_ | ((with_reducible refine ifT ?hift ?_); (case hift => exact rfl)) | ((with_reducible refine ifF ?hiff ?_); (case hiff => exact rfl))))
local macro_rules | `(tactic| walk_at "dt") => `(tactic| first | refine ifT (by decide +kernel) ?_ | ((refine ifT ?hdt ?_); (case hdt => exact decide_eq_true (by omega))))
local macro_rules | `(tactic| walk_at "df") => `(tactic| first | refine ifF (by decide +kernel) ?_ | ((refine ifF ?hdf ?_); (case hdf => exact decide_eq_false (by omega))))

/-! ### kinds compared -/
def Kd.pd : Kd → PyData
  | .cnt => .tuple [.str "count"]
  | .two t a b => .tuple [.str t.w, a.pd, b.pd]
theorem Kd.lay : ∀ k : Kd, k.pd.canLay0 = true ∧ k.pd.depth = k.dp
  | .cnt => ⟨by decide +kernel, by simp [Kd.pd, PyData.depth, PyData.depthAll, Kd.dp]⟩
  | .two t a b => by
    obtain ⟨h1, h2⟩ := a.lay
    obtain ⟨h3, h4⟩ := b.lay
    refine ⟨?_, ?_⟩
    · simp only [Kd.pd, PyData.canLay0, PyData.canLayAll0, h1, h3, Bool.and_true]
      cases t <;> decide +kernel
    · simp only [Kd.pd, PyData.depth, PyData.depthAll, h2, h4, Kd.dp]
      omega
theorem Kd.shaped (k : Kd) (h : k.dp ≤ 60) : SeqAt.shaped k.pd = true := by
  unfold SeqAt.shaped
  rw [k.lay.1, k.lay.2, decide_eq_true (by omega : k.dp ≤ 64)]
  rfl
theorem Kd.eqv_same (k : Kd) : PyData.eqv k.pd k.pd = true := SeqAt.eqv_refl _ k.lay.1
theorem Kt.w_inj : ∀ {t u : Kt}, (t.w == u.w) = true → t = u := by
  intro t u h
  cases t <;> cases u <;> first | rfl | exact absurd h (by decide +kernel)
theorem Kd.eqv_eq : ∀ {k l : Kd}, PyData.eqv k.pd l.pd = true → k = l
  | .cnt, .cnt, _ => rfl
  | .cnt, .two t a b, h => by simp [Kd.pd, PyData.eqv, PyData.eqvAll] at h
  | .two t a b, .cnt, h => by simp [Kd.pd, PyData.eqv, PyData.eqvAll] at h
  | .two t a b, .two u c d, h => by
    simp only [Kd.pd, PyData.eqv, PyData.eqvAll, Bool.and_true, Bool.and_eq_true] at h
    obtain ⟨h1, h2, h3⟩ := h
    rw [Kt.w_inj h1, Kd.eqv_eq h2, Kd.eqv_eq h3]
section
variable {K : PySem.W.Frag} {H : Hp}
theorem KdAt.dp {v : V} {k : Kd} (h : KdAt K H v k) : L2.Dp K H v k.pd := by
  induction h with
  | cnt h => exact .tup h (.cons (.str _) .nil)
  | two h _ _ i1 i2 => exact .tup h (.cons (.str _) (.cons i1 (.cons i2 .nil)))
/-- two equal kinds are equal -/
theorem keq_go {u v : V} {k : Kd} {Q : VK} (h : KdAt K H u k) (g : KdAt K H v k) (d : k.dp ≤ 60) (q : Q (.bl true) H) : rEqD K u v H Q :=
  ⟨_, _, h.dp, g.dp, k.shaped d, k.shaped d, by rw [k.eqv_same]; exact q⟩
/-- rows of kinds -/
inductive RkAt (K : PySem.W.Frag) (H : Hp) : V → List Kd → Prop where
  | nil : RkAt K H .non []
  | cons {a : Addr} {x y : V} {k : Kd} {G : List Kd} : SqT K H a [x, y] → KdAt K H x k → RkAt K H y G → RkAt K H (.ref a) (k :: G)
theorem RkAt.tp {H1 : Hp} (e : TpS H H1) {v : V} {G : List Kd} (h : RkAt K H v G) : RkAt K H1 v G := by
  induction h with
  | nil => exact .nil
  | cons h1 h2 _ ih => exact .cons (e.sqt h1) (h2.tp e) ih
end
section
variable {P : Program} {w : World} {K : PySem.W.Frag} {mg : Str → Option Value} {base : Heap}
def sp_row_of (K : PySem.W.Frag) : Sp := fun vs H Q _ => ∃ a, vs = [.ref a] ∧ SqL K H a [] ∧ ∀ H1, Same H H1 → Q .non H1
theorem ok_row_of (T : Tx w K mg) : OkF P w K mg base 1 (ga K "row_of") ["names"] (sp_row_of K) := by
  refine okF T.f_row_of rfl sc_row_of b_row_of (fun vs H Q E h => by obtain ⟨x, rfl, _⟩ := h; rfl) (fun cdv A outer s H vs Q E hr h => ?_)
  obtain ⟨a, rfl, hS, q⟩ := h
  refine ⟨_, (pss_cons (ps_set (i := 1) sc_row_of.nd rfl (Or.inl rfl) pe_non)
      (pss_cons (ps_for PassesOwn.never rfl (pi_list (pe_revL (pv 0))) (pg_name (i := 2) sc_row_of.nd rfl (Or.inl rfl)) (pss_one (ps_set (i := 1) sc_row_of.nd rfl (Or.inl rfl) (pe_tup (pa_cons (pv 2) (pa_cons (pv 1) pa_nil))))))
      (pss_one (ps_ret (pv 1))))), ?_⟩
  walk_at "rd"
  refine ⟨_, rfl, a, [], rfl, hS, fun p hp => ?_⟩
  refine fl_go (xs := []) (sqL_of upd_same) (fun i σ H' => σ = [some (.ref a), some .non, none] ∧ H' = upd H p (.lst [])) ⟨rfl, rfl⟩ (fun i σ H' hi ⟨_, e⟩ => by rw [e]; exact sqL_of upd_same) (fun i x σ H' hx _ => by simp at hx) ?_
  rintro σ H' ⟨rfl, rfl⟩
  walk_at "rd"
  exact q _ (same_upd hp)
def sp_kind_in (K : PySem.W.Frag) : Sp := fun vs H Q _ => ∃ (v : V) (i : Nat) (G : List Kd) (k : Kd), vs = [v, .int i] ∧ RkAt K H v G ∧ G[i]? = some k ∧ i ≤ 300 ∧ ∀ r, KdAt K H r k → Q r H
theorem ok_kind_in (T : Tx w K mg) : OkF P w K mg base 1 (ga K "kind_in") ["row", "out"] (sp_kind_in K) := by
  refine okF T.f_kind_in rfl sc_kind_in b_kind_in (fun vs H Q E h => by obtain ⟨x, i, G, k, rfl, _⟩ := h; rfl) (fun cdv A outer s H vs Q E hr h => ?_)
  obtain ⟨v, i, G, k, rfl, hR, hk, hi, q⟩ := h
  refine ⟨_, (pss_cons (ps_set (i := 2) sc_kind_in.nd rfl (Or.inl rfl) (pv 0))
      (pss_cons (ps_for PassesOwn.never rfl (pi_range1 (by rfl) T.n_range (pa_cons (pv 1) pa_nil)) (pg_name (i := 3) sc_kind_in.nd rfl (Or.inl rfl)) (pss_cons (ps_if (pt_cmpR op_isN (pv 2) pe_non (nomark _)) (pss_one (ps_ret pe_non)) pss_nil)
      (pss_one (ps_set (i := 2) sc_kind_in.nd rfl (Or.inl rfl) (pe_ix ix_tup (pv 2) pe_int (fun _ _ => rfl))))))
      (pss_one (ps_ret (pe_ifExp (pt_cmpR op_isN (pv 2) pe_non (nomark _)) (pv 2) (pe_ix ix_tup (pv 2) pe_int (fun _ _ => rfl))))))), ?_⟩
  walk_at "rd"
  refine fr_go (n := i) (by omega) (fun j σ H' => ∃ (u : V) (x : Option V), σ = [some v, some (.int i), some u, x] ∧ H' = H ∧ RkAt K H u (G.drop j)) ⟨v, none, rfl, rfl, hR⟩ ?_ ?_
  · rintro j σ H' hj ⟨u, x, rfl, rfl, hu⟩
    have hl := (List.getElem?_eq_some_iff.mp hk).1
    rw [List.drop_eq_getElem_cons (by omega)] at hu
    cases hu with
    | @cons a x y _ _ h1 h2 h3 =>
      walk_at "rd"
      refine ⟨rfl, ?_⟩
      walk_at "rd"
      refine ixt_go h1 at1 ?_
      walk_at "rd"
      exact ⟨y, some (.int j), rfl, rfl, h3⟩
  · rintro σ H' ⟨u, x, rfl, rfl, hu⟩
    have hl := (List.getElem?_eq_some_iff.mp hk).1
    rw [List.drop_eq_getElem_cons hl, (List.getElem?_eq_some_iff.mp hk).2] at hu
    cases hu with
    | @cons a x y _ _ h1 h2 h3 =>
      walk_at "rd"
      refine ⟨rfl, ?_⟩
      walk_at "rd"
      exact ixt_go h1 at0 (q _ h2)
def sp_kind_of_leaf (K : PySem.W.Frag) : Sp := fun vs H Q _ => ∃ (v u : V) (n : Nd) (G : List Kd) (k : Kd), vs = [v, u] ∧ NdAt K H v n ∧ n.fine ∧ RkAt K H u G ∧ LeafK n G k ∧ ∀ r, KdAt K H r k → Q r H
theorem ok_kind_of_leaf (T : Tx w K mg) : OkF P w K mg base 2 (ga K "kind_of_leaf") ["node", "row"] (sp_kind_of_leaf K) := by
  have G_kind_in := ok_kind_in (P := P) (base := base) T
  refine okF T.f_kind_of_leaf rfl sc_kind_of_leaf b_kind_of_leaf (fun vs H Q E h => by obtain ⟨x, i, G, k, _, rfl, _⟩ := h; rfl) (fun cdv A outer s H vs Q E hr h => ?_)
  obtain ⟨v, u, n, G, k, rfl, hn, hf, hR, hk, q⟩ := h
  refine ⟨_, (pss_one (ps_ret (pe_ifExp (pt_cmpR op_eq (pe_ix ix_tup (pv 0) pe_int (fun _ _ => rfl)) (pe_gs T.z_NAME) (nomark _)) (pe_f G_kind_in T.g_kind_in (hr.mono (by decide)) (pa_cons (pv 1) (pa_cons (pe_ix ix_tup (pv 0) pe_int (fun _ _ => rfl)) pa_nil))) (pe_gr T.g_NUMBER)))), ?_⟩
  walk_at "rd"
  cases hk with
  | @name i _ _ hg =>
    cases hn with
    | @name a _ hS =>
      refine ixt_go hS at0 ?_
      walk_at "rd"
      refine reqS_go (b := true) (by decide +kernel) ?_
      walk_at "rd"
      refine ixt_go hS at1 ?_
      walk_at "rd"
      exact ⟨u, i, G, k, rfl, hR, hg, by have h2 : i ≤ 299 := hf; omega, q⟩
  | @told i _ =>
    cases hn with
    | @told a _ hS =>
      refine ixt_go hS at0 ?_
      walk_at "rd"
      refine reqS_go (b := false) (by decide +kernel) ?_
      walk_at "rd"
      exact q _ (.cnt (T.nmb H))
/-- a list of kinds -/
def KsL (K : PySem.W.Frag) (H : Hp) (l : Addr) (ks : List Kd) : Prop := ∃ us, SqL K H l us ∧ Al (KdAt K H) us ks
def sp_kind_of_part (K : PySem.W.Frag) : Sp := fun vs H Q _ => ∃ (b : Bool) (v : V) (A B : Kd), vs = [.str (if b then "first" else "second"), v] ∧ KdAt K H v (.two .pair A B) ∧ ∀ r, KdAt K H r (if b then A else B) → Q r H
theorem ok_kind_of_part (T : Tx w K mg) : OkF P w K mg base 1 (ga K "kind_of_part") ["word", "one"] (sp_kind_of_part K) := by
  refine okF T.f_kind_of_part rfl sc_kind_of_part b_kind_of_part (fun vs H Q E h => by obtain ⟨x, i, A, B, rfl, _⟩ := h; rfl) (fun cdv A outer s H vs Q E hr h => ?_)
  obtain ⟨b, v, A, B, rfl, hv, q⟩ := h
  refine ⟨_, (pss_cons (ps_if (pt_cmpR op_ne (pe_ix ix_tup (pv 1) pe_int (fun _ _ => rfl)) (pe_gs T.z_PAIR) (nomark _)) (pss_one (ps_ret pe_non)) pss_nil)
      (pss_one (ps_ret (pe_ifExp (pt_cmpR op_eq (pv 0) pe_str (nomark _)) (pe_ix ix_tup (pv 1) pe_int (fun _ _ => rfl)) (pe_ix ix_tup (pv 1) pe_int (fun _ _ => rfl)))))), ?_⟩
  cases hv with
  | two hS hA hB =>
    walk_at "rd"
    refine ixt_go hS at0 ?_
    walk_at "rd"
    refine rneS_go (b := true) (by decide +kernel) ?_
    walk_at "rd"
    cases b with
    | true =>
      refine reqS_go (b := true) (by decide +kernel) ?_
      walk_at "rd"
      exact ixt_go hS at1 (q _ hA)
    | false =>
      refine reqS_go (b := false) (by decide +kernel) ?_
      walk_at "rd"
      exact ixt_go hS at2 (q _ hB)
def sp_kind_of_call (K : PySem.W.Frag) : Sp := fun vs H Q _ => ∃ (v u : V) (A B : Kd), vs = [v, u] ∧ KdAt K H v (.two .fn A B) ∧ KdAt K H u A ∧ A.dp ≤ 60 ∧ ∀ r, KdAt K H r B → Q r H
theorem ok_kind_of_call (T : Tx w K mg) : OkF P w K mg base 1 (ga K "kind_of_call") ["one", "other"] (sp_kind_of_call K) := by
  refine okF T.f_kind_of_call rfl sc_kind_of_call b_kind_of_call (fun vs H Q E h => by obtain ⟨x, i, A, B, rfl, _⟩ := h; rfl) (fun cdv A outer s H vs Q E hr h => ?_)
  obtain ⟨v, u, A, B, rfl, hv, hu, hd, q⟩ := h
  refine ⟨_, (pss_one (ps_ret (pe_ifExp (PW.pt (pw_and (pt_cmpR op_eq (pe_ix ix_tup (pv 0) pe_int (fun _ _ => rfl)) (pe_gs T.z_FUN) (nomark _)) (pw_and1 (pt_cmpR (op_eqD (hu64 hr)) (pe_ix ix_tup (pv 0) pe_int (fun _ _ => rfl)) (pv 1) (nomark _))))) (pe_ix ix_tup (pv 0) pe_int (fun _ _ => rfl)) pe_non))), ?_⟩
  cases hv with
  | two hS hA hB =>
    walk_at "rd"
    refine ixt_go hS at0 ?_
    walk_at "rd"
    refine reqS_go (b := true) (by decide +kernel) ?_
    walk_at "rd"
    refine ixt_go hS at1 ?_
    walk_at "rd"
    refine keq_go hA hu hd ?_
    walk_at "rd"
    exact ixt_go hS at2 (q _ hB)
def sp_kind_of_turns (K : PySem.W.Frag) : Sp := fun vs H Q _ => ∃ (v : V) (l : Addr) (A : Kd), vs = [v, .ref l] ∧ KdAt K H v A ∧ KsL K H l [.cnt, A, A] ∧ A.dp ≤ 60 ∧ ∀ H1, Same H H1 → Q v H1
theorem ok_kind_of_turns (T : Tx w K mg) : OkF P w K mg base 1 (ga K "kind_of_turns") ["kind", "some"] (sp_kind_of_turns K) := by
  refine okF T.f_kind_of_turns rfl sc_kind_of_turns b_kind_of_turns (fun vs H Q E h => by obtain ⟨x, i, A, rfl, _⟩ := h; rfl) (fun cdv A outer s H vs Q E hr h => ?_)
  obtain ⟨v, l, A, rfl, hv, ⟨us, hS, hA⟩, hd, q⟩ := h
  refine ⟨_, (pss_one (ps_ret (pe_ifExp (pt_cmpR (op_eqD (hu64 hr)) (pv 1) (pe_lst (pa_cons (pe_gr T.g_NUMBER) (pa_cons (pv 0) (pa_cons (pv 0) pa_nil)))) (nomark _)) (pv 0) pe_non))), ?_⟩
  walk_at "rd"
  refine klst_go len_ok fun p hp => ?_
  have s1 : Same H (upd H p (.lst [.ref (ga K "NUMBER"), v, v])) := same_upd hp
  have lay := A.lay
  have e : SeqAt.shaped (.list [Kd.cnt.pd, A.pd, A.pd]) = true := by
    unfold SeqAt.shaped
    simp only [PyData.canLay0, PyData.canLayAll0, PyData.depth, PyData.depthAll, lay.1, lay.2, Kd.cnt.lay.1, Kd.cnt.lay.2, Bool.and_true, Bool.true_and]
    exact decide_eq_true (by have : Kd.cnt.dp = 1 := rfl; omega)
  have e2 : PyData.eqv (.list [Kd.cnt.pd, A.pd, A.pd]) (.list [Kd.cnt.pd, A.pd, A.pd]) = true := SeqAt.eqv_refl _ (by
    simp only [PyData.canLay0, PyData.canLayAll0, lay.1, Kd.cnt.lay.1, Bool.and_true])
  have d1 : L2.Dp K (upd H p (.lst [.ref (ga K "NUMBER"), v, v])) (.ref l) (.list [Kd.cnt.pd, A.pd, A.pd]) := by
    refine .lst (s1.seq hS) ?_
    cases hA with
    | cons h1 hA => cases hA with
      | cons h2 hA => cases hA with
        | cons h3 hA =>
          cases hA
          exact .cons (h1.mono s1).dp (.cons (h2.mono s1).dp (.cons (h3.mono s1).dp .nil))
  have d2 : L2.Dp K (upd H p (.lst [.ref (ga K "NUMBER"), v, v])) (.ref p) (.list [Kd.cnt.pd, A.pd, A.pd]) :=
    .lst (sqL_of upd_same) (.cons (KdAt.cnt (T.nmb _)).dp (.cons (hv.mono s1).dp (.cons (hv.mono s1).dp .nil)))
  refine ⟨_, _, d1, d2, e, e, ?_⟩
  rw [e2]
  walk_at "rd"
  exact q _ s1
end
end K42

/-! KD8 -/
/-! kind_of_few, kind_by, bound_kind, frames, next_row -/
namespace K42
open PySem PySem.Spec L2 He
local macro_rules | `(tactic| walk_at "rd") => `(tactic| repeat (first | ((with_reducible refine' rd_var ?hvar ?_); (case hvar => exact rfl)) | with_reducible refine rd_seq ?_ | with_reducible refine rd_asg ?_ | with_reducible refine rd_ret ?_ | with_reducible refine rd_drop ?_ | with_reducible refine rd_ifs ?_ | with_reducible refine rd_name ?_ | with_reducible refine rd_c ?_ | with_reducible refine rd_cons ?_ | with_reducible refine rd_nil ?_ | with_reducible refine rd_cb ?_ | with_reducible refine rd_op ?_ | with_reducible refine rd_test ?_ | with_reducible refine rd_tb ?_ | with_reducible refine rd_and ?_ | with_reducible refine rd_or ?_ | with_reducible refine rd_not ?_ | with_reducible refine rd_andv ?_ | with_reducible refine rd_orv ?_ | with_reducible refine rd_notv ?_ | with_reducible refine rd_if ?_ | with_reducible refine rd_nx ?_ | with_reducible refine rd_retn ?_ | with_reducible refine rd_par ?_ | with_reducible refine rd_par3 ?_ | with_reducible refine rd_tup ?_ | with_reducible refine rd_lst ?_ | with_reducible refine rd_call ?_ | with_reducible refine rd_meth ?_ | with_reducible refine rd_make ?_ | with_reducible refine rd_fld ?_ | with_reducible refine rd_sfld ?_ | with_reducible refine rd_bm ?_ | with_reducible refine rd_bm0 ?_ | with_reducible refine rd_prop ?_ | with_reducible refine rd_dget ?_ | with_reducible refine rd_dnin ?_ | with_reducible refine rd_chain ?_ | with_reducible refine rd_sub ?_ | with_reducible refine rd_un ?_ | with_reducible refine rd_fl ?_ | with_reducible refine rd_ft ?_ | with_reducible refine rd_fr ?_ | with_reducible refine rd_fd ?_ | with_reducible refine rd_fe ?_ | with_reducible refine rd_ll ?_ | with_reducible refine rd_le ?_ | with_reducible refine rd_yes ?_ | with_reducible refine rd_dg2 ?_ | with_reducible refine rd_calld ?_ | with_reducible refine rd_lt ?_ | with_reducible refine rd_rev ?_ | with_reducible refine rd_sl ?_ | with_reducible refine rd_thru ?_ | with_reducible refine kb_go ?_ | with_reducible refine kpar_go ?_ | with_reducible refine kpar3_go ?_ | with_reducible refine ri0_go ?_ | with_reducible refine ru_go ?_ | ((with_reducible refine ifT ?hift ?_); (case hift => exact rfl)) | ((with_reducible refine ifF ?hiff ?_); (case hiff => exact rfl))))
local macro_rules | `(tactic| walk_at "dt") => `(tactic| first | refine ifT (by decide +kernel) ?_ | ((refine ifT ?hdt ?_); (case hdt => exact decide_eq_true (by omega))))
local macro_rules | `(tactic| walk_at "df") => `(tactic| first | refine ifF (by decide +kernel) ?_ | ((refine ifF ?hdf ?_); (case hdf => exact decide_eq_false (by omega))))

section
variable {P : Program} {w : World} {K : PySem.W.Frag} {mg : Str → Option Value} {base : Heap}
theorem KsL.tp {H H1 : Hp} {l : Addr} {ks : List Kd} (e : TpS H H1) (s : ∀ us, SqL K H l us → SqL K H1 l us) (h : KsL K H l ks) : KsL K H1 l ks := by
  obtain ⟨us, h1, h2⟩ := h
  exact ⟨us, s us h1, h2.imp fun _ _ z => z.tp e⟩
theorem KsL.mono {H H1 : Hp} {l : Addr} {ks : List Kd} (e : Same H H1) (h : KsL K H l ks) : KsL K H1 l ks := h.tp (.same e) fun _ z => e.seq z
theorem KsL.at0 {H : Hp} {l : Addr} {k : Kd} {ks : List Kd} {Q : VK} (h : KsL K H l (k :: ks)) (q : ∀ v, KdAt K H v k → Q v H) : rIxL K (.ref l) (.int 0) H Q := by
  obtain ⟨us, h1, h2⟩ := h
  cases h2 with
  | cons a b => exact ixl_go h1 K42.at0 (q _ a)
theorem KsL.at1 {H : Hp} {l : Addr} {k k1 : Kd} {ks : List Kd} {Q : VK} (h : KsL K H l (k :: k1 :: ks)) (q : ∀ v, KdAt K H v k1 → Q v H) : rIxL K (.ref l) (.int 1) H Q := by
  obtain ⟨us, h1, h2⟩ := h
  cases h2 with
  | cons a b => cases b with
    | cons b c => exact ixl_go h1 K42.at1 (q _ b)
theorem KsL.at2 {H : Hp} {l : Addr} {k k1 k2 : Kd} {ks : List Kd} {Q : VK} (h : KsL K H l (k :: k1 :: k2 :: ks)) (q : ∀ v, KdAt K H v k2 → Q v H) : rIxL K (.ref l) (.int 2) H Q := by
  obtain ⟨us, h1, h2⟩ := h
  cases h2 with
  | cons a b => cases b with
    | cons b c => cases c with
      | cons c d => exact ixl_go h1 K42.at2 (q _ c)
/-- nodes whose kind is one of its children's -/
def isFew : Nd → Prop
  | .knd .turns _ => True
  | .wd .both => False
  | .wd _ => True
  | _ => False
def sp_kind_of_few (K : PySem.W.Frag) : Sp := fun vs H Q _ => ∃ (v : V) (l : Addr) (n : Nd) (ks : List Kd) (k : Kd), vs = [v, .ref l] ∧ NdAt K H v n ∧ isFew n ∧ KsL K H l ks ∧ Kby n ks k ∧ ∀ r H1, Same H H1 → KdAt K H1 r k → Q r H1
theorem ok_kind_of_few (T : Tx w K mg) : OkF P w K mg base 2 (ga K "kind_of_few") ["node", "some"] (sp_kind_of_few K) := by
  have G_kind_of_call := ok_kind_of_call (P := P) (base := base) T
  have G_kind_of_part := ok_kind_of_part (P := P) (base := base) T
  have G_kind_of_turns := ok_kind_of_turns (P := P) (base := base) T
  refine okF T.f_kind_of_few rfl sc_kind_of_few b_kind_of_few (fun vs H Q E h => by obtain ⟨x, i, A, B, _, rfl, _⟩ := h; rfl) (fun cdv A outer s H vs Q E hr h => ?_)
  obtain ⟨v, l, n, ks, k, rfl, hn, hw, hk, hb, q⟩ := h
  refine ⟨_, (pss_cons (ps_set (i := 2) sc_kind_of_few.nd rfl (Or.inl rfl) (pe_ix ix_tup (pv 0) pe_int (fun _ _ => rfl)))
      (pss_cons (ps_if (pt_cmpR op_eq (pv 2) pe_str (nomark _)) (pss_one (ps_ret (pe_f G_kind_of_call T.g_kind_of_call (hr.mono (by decide)) (pa_cons (pe_ix ix_list (pv 1) pe_int (fun _ _ => rfl)) (pa_cons (pe_ix ix_list (pv 1) pe_int (fun _ _ => rfl)) pa_nil))))) pss_nil)
      (pss_cons (ps_if (pt_cmpR op_in_seq (pv 2) (pe_tup (pa_cons pe_str (pa_cons pe_str pa_nil))) (by rfl)) (pss_one (ps_ret (pe_f G_kind_of_part T.g_kind_of_part (hr.mono (by decide)) (pa_cons (pv 2) (pa_cons (pe_ix ix_list (pv 1) pe_int (fun _ _ => rfl)) pa_nil))))) pss_nil)
      (pss_cons (ps_if (pt_cmpR op_eq (pv 2) pe_str (nomark _)) (pss_one (ps_ret (pe_ifExp (pt_cmpR (op_eqD (hu64 hr)) (pe_ix ix_list (pv 1) pe_int (fun _ _ => rfl)) (pe_ix ix_list (pv 1) pe_int (fun _ _ => rfl)) (nomark _)) (pe_ix ix_list (pv 1) pe_int (fun _ _ => rfl)) pe_non))) pss_nil)
      (pss_cons (ps_if (pt_cmpR op_eq (pv 2) pe_str (nomark _)) (pss_one (ps_ret (pe_ifExp (pt_cmpR (op_eqD (hu64 hr)) (pe_ix ix_list (pv 1) pe_int (fun _ _ => rfl)) (pe_gr T.g_NUMBER) (nomark _)) (pe_gr T.g_NUMBER) pe_non))) pss_nil)
      (pss_one (ps_ret (pe_ifExp (pt_cmpR op_eq (pv 2) pe_str (nomark _)) (pe_f G_kind_of_turns T.g_kind_of_turns (hr.mono (by decide)) (pa_cons (pe_ix ix_tup (pv 0) pe_int (fun _ _ => rfl)) (pa_cons (pv 1) pa_nil))) (pe_ix ix_list (pv 1) pe_int (fun _ _ => rfl)))))))))), ?_⟩
  obtain ⟨a, xs, rfl, hT, _⟩ := hn.tup
  walk_at "rd"
  refine ixt_go hT at0 ?_
  walk_at "rd"
  cases hb with
  | fn _ => exact hw.elim
  | left _ => exact hw.elim
  | right _ => exact hw.elim
  | both _ => exact hw.elim
  | @call A B hd =>
    refine reqS_go (b := true) (by decide +kernel) ?_
    walk_at "rd"
    refine hk.at0 fun u hu => ?_
    walk_at "rd"
    refine hk.at1 fun u2 hu2 => ?_
    walk_at "rd"
    exact ⟨u, u2, _, _, rfl, hu, hu2, hd, fun r hr => q r H (Same.refl _) hr⟩
  | turns hd =>
    simp only [Nd.w]
    refine reqS_go (b := false) (by decide +kernel) ?_
    walk_at "rd"
    refine ktup_go len_ok fun p hp => ?_
    have s1 : Same H (upd H p (.tup [.str "first", .str "second"])) := same_upd hp
    refine rin_go (b := false) (sqT_of upd_same) rfl rfl (by decide +kernel) ?_
    walk_at "rd"
    refine reqS_go (b := false) (by decide +kernel) ?_
    walk_at "rd"
    refine reqS_go (b := false) (by decide +kernel) ?_
    walk_at "rd"
    refine reqS_go (b := true) (by decide +kernel) ?_
    walk_at "rd"
    cases hn with
    | @knd _ x _ _ hS hA =>
      refine ixt_go (Same.sqt s1 hS) at1 ?_
      walk_at "rd"
      exact ⟨x, l, _, rfl, hA.mono s1, hk.mono s1, hd, fun H1 s2 => q _ _ (s1.trans s2) (hA.mono (s1.trans s2))⟩
  | @first A B =>
    refine reqS_go (b := false) (by decide +kernel) ?_
    walk_at "rd"
    refine ktup_go len_ok fun p hp => ?_
    have s1 : Same H (upd H p (.tup [.str "first", .str "second"])) := same_upd hp
    refine rin_go (b := true) (sqT_of upd_same) rfl rfl (by decide +kernel) ?_
    walk_at "rd"
    refine (hk.mono s1).at0 fun u hu => ?_
    walk_at "rd"
    exact ⟨true, u, _, _, rfl, hu, fun r hr => q r _ s1 hr⟩
  | @second A B =>
    refine reqS_go (b := false) (by decide +kernel) ?_
    walk_at "rd"
    refine ktup_go len_ok fun p hp => ?_
    have s1 : Same H (upd H p (.tup [.str "first", .str "second"])) := same_upd hp
    refine rin_go (b := true) (sqT_of upd_same) rfl rfl (by decide +kernel) ?_
    walk_at "rd"
    refine (hk.mono s1).at0 fun u hu => ?_
    walk_at "rd"
    exact ⟨false, u, _, _, rfl, hu, fun r hr => q r _ s1 hr⟩
  | @which S C hd =>
    refine reqS_go (b := false) (by decide +kernel) ?_
    walk_at "rd"
    refine ktup_go len_ok fun p hp => ?_
    have s1 : Same H (upd H p (.tup [.str "first", .str "second"])) := same_upd hp
    refine rin_go (b := false) (sqT_of upd_same) rfl rfl (by decide +kernel) ?_
    walk_at "rd"
    refine reqS_go (b := true) (by decide +kernel) ?_
    walk_at "rd"
    refine (hk.mono s1).at1 fun u hu => ?_
    walk_at "rd"
    refine (hk.mono s1).at2 fun u2 hu2 => ?_
    walk_at "rd"
    refine keq_go hu hu2 hd ?_
    walk_at "rd"
    exact (hk.mono s1).at1 fun u hu => q u _ s1 hu
  | next =>
    refine reqS_go (b := false) (by decide +kernel) ?_
    walk_at "rd"
    refine ktup_go len_ok fun p hp => ?_
    have s1 : Same H (upd H p (.tup [.str "first", .str "second"])) := same_upd hp
    refine rin_go (b := false) (sqT_of upd_same) rfl rfl (by decide +kernel) ?_
    walk_at "rd"
    refine reqS_go (b := false) (by decide +kernel) ?_
    walk_at "rd"
    refine reqS_go (b := true) (by decide +kernel) ?_
    walk_at "rd"
    refine (hk.mono s1).at0 fun u hu => ?_
    walk_at "rd"
    refine keq_go hu (.cnt (T.nmb _)) (by decide) ?_
    walk_at "rd"
    exact q _ _ s1 (.cnt (T.nmb _))
  | @lt A B =>
    refine reqS_go (b := false) (by decide +kernel) ?_
    walk_at "rd"
    refine ktup_go len_ok fun p hp => ?_
    have s1 : Same H (upd H p (.tup [.str "first", .str "second"])) := same_upd hp
    refine rin_go (b := false) (sqT_of upd_same) rfl rfl (by decide +kernel) ?_
    walk_at "rd"
    refine reqS_go (b := false) (by decide +kernel) ?_
    walk_at "rd"
    refine reqS_go (b := false) (by decide +kernel) ?_
    walk_at "rd"
    refine reqS_go (b := false) (by decide +kernel) ?_
    walk_at "rd"
    exact (hk.mono s1).at1 fun u hu => q u _ s1 hu
/-! ### kind_by -/
def sp_kind_by (K : PySem.W.Frag) : Sp := fun vs H Q _ => ∃ (v : V) (l : Addr) (n : Nd) (ks : List Kd) (k : Kd), vs = [v, .ref l] ∧ NdAt K H v n ∧ KsL K H l ks ∧ Kby n ks k ∧ ∀ r H1, Same H H1 → KdAt K H1 r k → Q r H1
def mdL : List (Key × V) := [(.inr "fun", .str "fun"), (.inr "both", .str "pair"), (.inr "left", .str "sum"), (.inr "right", .str "sum")]
theorem ok_kind_by (T : Tx w K mg) : OkF P w K mg base 3 (ga K "kind_by") ["node", "some"] (sp_kind_by K) := by
  have G_kind_of_few := ok_kind_of_few (P := P) (base := base) T
  have G_is_kind := ok_is_kind (P := P) (base := base) T
  refine okF T.f_kind_by rfl sc_kind_by b_kind_by (fun vs H Q E h => by obtain ⟨x, i, A, B, _, rfl, _⟩ := h; rfl) (fun cdv A outer s H vs Q E hr h => ?_)
  obtain ⟨v, l, n, ks, k, rfl, hn, hk, hb, q⟩ := h
  have hu := hu_of hr
  refine ⟨_, (pss_cons (ps_set (i := 2) sc_kind_by.nd rfl (Or.inl rfl) (pe_disp (pps_cons pe_str (pe_gs T.z_FUN) (pps_cons pe_str (pe_gs T.z_PAIR) (pps_cons pe_str (pe_gs T.z_SUM) (pps_cons pe_str (pe_gs T.z_SUM) pps_nil)))) (by rfl) (by rfl) (fun z => by cases z) (by decide)))
      (pss_cons (ps_set (i := 3) sc_kind_by.nd rfl (Or.inl rfl) (pe_ix ix_tup (pv 0) pe_int (fun _ _ => rfl)))
      (pss_cons (ps_if (pt_cmp (pc_dnotin hu (pv 3) (pv 2))) (pss_one (ps_ret (pe_f G_kind_of_few T.g_kind_of_few (hr.mono (by decide)) (pa_cons (pv 0) (pa_cons (pv 1) pa_nil))))) pss_nil)
      (pss_cons (ps_if (PW.pt (pw_or (pt_cmpR op_eq (pv 3) pe_str (nomark _)) (pw_or1 (pt_cmpR op_eq (pv 3) pe_str (nomark _))))) (pss_one (ps_set (i := 4) sc_kind_by.nd rfl (Or.inl rfl) (pe_tup (pa_cons (pe_dget hu (pv 2) (pv 3) (fun _ _ => rfl)) (pa_cons (pe_ix ix_tup (pv 0) pe_int (fun _ _ => rfl)) (pa_cons (pe_ix ix_list (pv 1) pe_int (fun _ _ => rfl)) pa_nil)))))) (pss_one (ps_set (i := 4) sc_kind_by.nd rfl (Or.inl rfl) (pe_tup (pa_cons (pe_dget hu (pv 2) (pv 3) (fun _ _ => rfl)) (pa_cons (pe_ix ix_list (pv 1) pe_int (fun _ _ => rfl)) (pa_cons (pe_ifExp (pt_cmpR op_eq (pv 3) pe_str (nomark _)) (pe_ix ix_list (pv 1) pe_int (fun _ _ => rfl)) (pe_ix ix_tup (pv 0) pe_int (fun _ _ => rfl))) pa_nil)))))))
      (pss_one (ps_ret (pe_ifExp (pt_val (pe_f G_is_kind T.g_is_kind (hr.mono (by decide)) (pa_cons (pv 4) pa_nil))) (pv 4) pe_non))))))), ?_⟩
  obtain ⟨a, xs, rfl, hT, _⟩ := hn.tup
  walk_at "rd"
  refine fun d hd => ⟨upd_same, mdL, rfl, by decide, ?_⟩
  have s1 : Same H (upd (upd H d (.dK [])) d (.dK (mergeK [] mdL))) := same_mut (same_upd hd) hd
  have hd1 : (upd (upd H d (.dK [])) d (.dK (mergeK [] mdL))) d = some (.dK (mergeK [] mdL)) := upd_same
  generalize upd (upd H d (.dK [])) d (.dK (mergeK [] mdL)) = H1 at s1 hd1 ⊢
  walk_at "rd"
  refine ixt_go (Same.sqt s1 hT) at0 ?_
  walk_at "rd"
  refine ⟨d, _, rfl, DGet.k (k := .inr n.w) hd1, ?_⟩
  walk_at "rd"
  cases hb with
  | fn hf =>
    simp only [Nd.w]
    refine ifF (by decide +kernel) ?_
    walk_at "rd"
    refine reqS_go (b := true) (by decide +kernel) ?_
    walk_at "rd"
    refine ⟨d, .str "fun", rfl, .inl ⟨_, .inr "fun", .inl hd1, rfl, by decide +kernel⟩, ?_⟩
    walk_at "rd"
    cases hn with
    | @knd _ x _ _ hS hA =>
      refine ixt_go (Same.sqt s1 hS) at1 ?_
      walk_at "rd"
      refine (hk.mono s1).at0 fun u hu => ?_
      walk_at "rd"
      refine ktup_go len_ok fun p hp => ?_
      have s2 : Same H1 (upd H1 p (.tup [.str "fun", x, u])) := same_upd hp
      have hK : KdAt K (upd H1 p (.tup [.str "fun", x, u])) (.ref p) (.two .fn _ _) := .two (t := .fn) (sqT_of upd_same) ((hA.mono s1).mono s2) (hu.mono s2)
      walk_at "rd"
      refine ⟨_, _, rfl, hK, hf, fun H3 s3 => ?_⟩
      walk_at "rd"
      exact q _ _ ((s1.trans s2).trans s3) (hK.mono s3)
  | right hf =>
    simp only [Nd.w]
    refine ifF (by decide +kernel) ?_
    walk_at "rd"
    refine reqS_go (b := false) (by decide +kernel) ?_
    walk_at "rd"
    refine reqS_go (b := true) (by decide +kernel) ?_
    walk_at "rd"
    refine ⟨d, .str "sum", rfl, .inl ⟨_, .inr "right", .inl hd1, rfl, by decide +kernel⟩, ?_⟩
    walk_at "rd"
    cases hn with
    | @knd _ x _ _ hS hA =>
      refine ixt_go (Same.sqt s1 hS) at1 ?_
      walk_at "rd"
      refine (hk.mono s1).at0 fun u hu => ?_
      walk_at "rd"
      refine ktup_go len_ok fun p hp => ?_
      have s2 : Same H1 (upd H1 p (.tup [.str "sum", x, u])) := same_upd hp
      have hK : KdAt K (upd H1 p (.tup [.str "sum", x, u])) (.ref p) (.two .sum _ _) := .two (t := .sum) (sqT_of upd_same) ((hA.mono s1).mono s2) (hu.mono s2)
      walk_at "rd"
      refine ⟨_, _, rfl, hK, hf, fun H3 s3 => ?_⟩
      walk_at "rd"
      exact q _ _ ((s1.trans s2).trans s3) (hK.mono s3)
  | left hf =>
    simp only [Nd.w]
    refine ifF (by decide +kernel) ?_
    walk_at "rd"
    refine reqS_go (b := false) (by decide +kernel) ?_
    walk_at "rd"
    refine reqS_go (b := false) (by decide +kernel) ?_
    walk_at "rd"
    refine ⟨d, .str "sum", rfl, .inl ⟨_, .inr "left", .inl hd1, rfl, by decide +kernel⟩, ?_⟩
    walk_at "rd"
    refine (hk.mono s1).at0 fun u hu => ?_
    walk_at "rd"
    refine reqS_go (b := false) (by decide +kernel) ?_
    walk_at "rd"
    cases hn with
    | @knd _ x _ _ hS hA =>
      refine ixt_go (Same.sqt s1 hS) at1 ?_
      walk_at "rd"
      refine ktup_go len_ok fun p hp => ?_
      have s2 : Same H1 (upd H1 p (.tup [.str "sum", u, x])) := same_upd hp
      have hK : KdAt K (upd H1 p (.tup [.str "sum", u, x])) (.ref p) (.two .sum _ _) := .two (t := .sum) (sqT_of upd_same) (hu.mono s2) ((hA.mono s1).mono s2)
      walk_at "rd"
      refine ⟨_, _, rfl, hK, hf, fun H3 s3 => ?_⟩
      walk_at "rd"
      exact q _ _ ((s1.trans s2).trans s3) (hK.mono s3)
  | both hf =>
    simp only [Nd.w]
    refine ifF (by decide +kernel) ?_
    walk_at "rd"
    refine reqS_go (b := false) (by decide +kernel) ?_
    walk_at "rd"
    refine reqS_go (b := false) (by decide +kernel) ?_
    walk_at "rd"
    refine ⟨d, .str "pair", rfl, .inl ⟨_, .inr "both", .inl hd1, rfl, by decide +kernel⟩, ?_⟩
    walk_at "rd"
    refine (hk.mono s1).at0 fun u hu => ?_
    walk_at "rd"
    refine reqS_go (b := true) (by decide +kernel) ?_
    walk_at "rd"
    refine (hk.mono s1).at1 fun u2 hu2 => ?_
    walk_at "rd"
    refine ktup_go len_ok fun p hp => ?_
    have s2 : Same H1 (upd H1 p (.tup [.str "pair", u, u2])) := same_upd hp
    have hK : KdAt K (upd H1 p (.tup [.str "pair", u, u2])) (.ref p) (.two .pair _ _) := .two (t := .pair) (sqT_of upd_same) (hu.mono s2) (hu2.mono s2)
    walk_at "rd"
    refine ⟨_, _, rfl, hK, hf, fun H3 s3 => ?_⟩
    walk_at "rd"
    exact q _ _ ((s1.trans s2).trans s3) (hK.mono s3)
  | turns hd2 =>
    refine ifT (by simp only [Nd.w]; decide +kernel) ?_
    walk_at "rd"
    exact ⟨_, _, _, _, _, rfl, hn.mono s1, True.intro, hk.mono s1, .turns hd2, fun r H2 s2 hr => q r H2 (s1.trans s2) hr⟩
  | call hd2 =>
    refine ifT (by decide +kernel) ?_
    walk_at "rd"
    exact ⟨_, _, _, _, _, rfl, hn.mono s1, True.intro, hk.mono s1, .call hd2, fun r H2 s2 hr => q r H2 (s1.trans s2) hr⟩
  | first =>
    refine ifT (by decide +kernel) ?_
    walk_at "rd"
    exact ⟨_, _, _, _, _, rfl, hn.mono s1, True.intro, hk.mono s1, .first, fun r H2 s2 hr => q r H2 (s1.trans s2) hr⟩
  | second =>
    refine ifT (by decide +kernel) ?_
    walk_at "rd"
    exact ⟨_, _, _, _, _, rfl, hn.mono s1, True.intro, hk.mono s1, .second, fun r H2 s2 hr => q r H2 (s1.trans s2) hr⟩
  | which hd2 =>
    refine ifT (by decide +kernel) ?_
    walk_at "rd"
    exact ⟨_, _, _, _, _, rfl, hn.mono s1, True.intro, hk.mono s1, .which hd2, fun r H2 s2 hr => q r H2 (s1.trans s2) hr⟩
  | next =>
    refine ifT (by decide +kernel) ?_
    walk_at "rd"
    exact ⟨_, _, _, _, _, rfl, hn.mono s1, True.intro, hk.mono s1, .next, fun r H2 s2 hr => q r H2 (s1.trans s2) hr⟩
  | lt =>
    refine ifT (by decide +kernel) ?_
    walk_at "rd"
    exact ⟨_, _, _, _, _, rfl, hn.mono s1, True.intro, hk.mono s1, .lt, fun r H2 s2 hr => q r H2 (s1.trans s2) hr⟩
end
end K42

/-! KD9 -/
/-! bound_kind, frames, next_row, finished -/
namespace K42
open PySem PySem.Spec L2 He
local macro_rules | `(tactic| walk_at "rd") => `(tactic| repeat (first | ((with_reducible refine' rd_var ?hvar ?_); (case hvar => exact rfl)) | with_reducible refine rd_seq ?_ | with_reducible refine rd_asg ?_ | with_reducible refine rd_ret ?_ | with_reducible refine rd_drop ?_ | with_reducible refine rd_ifs ?_ | with_reducible refine rd_name ?_ | with_reducible refine rd_c ?_ | with_reducible refine rd_cons ?_ | with_reducible refine rd_nil ?_ | with_reducible refine rd_cb ?_ | with_reducible refine rd_op ?_ | with_reducible refine rd_test ?_ | with_reducible refine rd_tb ?_ | with_reducible refine rd_and ?_ | with_reducible refine rd_or ?_ | with_reducible refine rd_not ?_ | with_reducible refine rd_andv ?_ | with_reducible refine rd_orv ?_ | with_reducible refine rd_notv ?_ | with_reducible refine rd_if ?_ | with_reducible refine rd_nx ?_ | with_reducible refine rd_retn ?_ | with_reducible refine rd_par ?_ | with_reducible refine rd_par3 ?_ | with_reducible refine rd_tup ?_ | with_reducible refine rd_lst ?_ | with_reducible refine rd_call ?_ | with_reducible refine rd_meth ?_ | with_reducible refine rd_make ?_ | with_reducible refine rd_fld ?_ | with_reducible refine rd_sfld ?_ | with_reducible refine rd_bm ?_ | with_reducible refine rd_bm0 ?_ | with_reducible refine rd_prop ?_ | with_reducible refine rd_dget ?_ | with_reducible refine rd_dnin ?_ | with_reducible refine rd_chain ?_ | with_reducible refine rd_sub ?_ | with_reducible refine rd_un ?_ | with_reducible refine rd_fl ?_ | with_reducible refine rd_ft ?_ | with_reducible refine rd_fr ?_ | with_reducible refine rd_fd ?_ | with_reducible refine rd_fe ?_ | with_reducible refine rd_ll ?_ | with_reducible refine rd_le ?_ | with_reducible refine rd_yes ?_ | with_reducible refine rd_dg2 ?_ | with_reducible refine rd_calld ?_ | with_reducible refine rd_lt ?_ | with_reducible refine rd_rev ?_ | with_reducible refine rd_sl ?_ | with_reducible refine rd_thru ?_ | with_reducible refine kb_go ?_ | with_reducible refine kpar_go ?_ | with_reducible refine kpar3_go ?_ | with_reducible refine ri0_go ?_ | with_reducible refine ru_go ?_ | ((with_reducible refine ifT ?hift ?_); (case hift => exact rfl)) | ((with_reducible refine ifF ?hiff ?_); (case hiff => exact rfl))))
local macro_rules | `(tactic| walk_at "dt") => `(tactic| first | refine ifT (by decide +kernel) ?_ | ((refine ifT ?hdt ?_); (case hdt => exact decide_eq_true (by omega))))
local macro_rules | `(tactic| walk_at "df") => `(tactic| first | refine ifF (by decide +kernel) ?_ | ((refine ifF ?hdf ?_); (case hdf => exact decide_eq_false (by omega))))

section
variable {P : Program} {w : World} {K : PySem.W.Frag} {mg : Str → Option Value} {base : Heap}
def sp_bound_kind (K : PySem.W.Frag) : Sp := fun vs H Q _ => ∃ (v : V) (l : Addr) (n : Nd) (ks : List Kd) (k : Kd), vs = [v, .ref l] ∧ NdAt K H v n ∧ KsL K H l ks ∧ Bnd n ks k ∧ ∀ r, KdAt K H r k → Q r H
theorem ok_bound_kind (T : Tx w K mg) : OkF P w K mg base 1 (ga K "bound_kind") ["node", "some"] (sp_bound_kind K) := by
  refine okF T.f_bound_kind rfl sc_bound_kind b_bound_kind (fun vs H Q E h => by obtain ⟨x, i, A, B, _, rfl, _⟩ := h; rfl) (fun cdv A outer s H vs Q E hr h => ?_)
  obtain ⟨v, l, n, ks, k, rfl, hn, hk, hb, q⟩ := h
  refine ⟨_, (pss_cons (ps_set (i := 2) sc_bound_kind.nd rfl (Or.inl rfl) (pe_ix ix_tup (pv 0) pe_int (fun _ _ => rfl)))
      (pss_cons (ps_if (pt_cmpR op_eq (pv 2) pe_str (nomark _)) (pss_one (ps_ret (pe_ifExp (pt_cmpR op_eq (pe_ix ix_tup (pe_ix ix_list (pv 1) pe_int (fun _ _ => rfl)) pe_int (fun _ _ => rfl)) (pe_gs T.z_SUM) (nomark _)) (pe_ix ix_tup (pe_ix ix_list (pv 1) pe_int (fun _ _ => rfl)) (pe_callB call_ln (by rfl) T.n_len PySem.boot_len (pa_cons (pv 1) pa_nil)) (fun _ _ => rfl)) pe_non))) pss_nil)
      (pss_one (ps_ret (pe_ifExp (pt_cmpR op_eq (pv 2) pe_str (nomark _)) (pe_ix ix_list (pv 1) pe_int (fun _ _ => rfl)) (pe_ix ix_tup (pv 0) pe_int (fun _ _ => rfl))))))), ?_⟩
  obtain ⟨a, xs, rfl, hT, _⟩ := hn.tup
  walk_at "rd"
  refine ixt_go hT at0 ?_
  walk_at "rd"
  cases hb with
  | fn =>
    cases hn with
    | @knd _ x _ _ hS hA =>
      refine reqS_go (b := false) (show decide (Nk.fn.w = ("which" : Str)) = false by decide +kernel) ?_
      walk_at "rd"
      refine reqS_go (b := false) (show decide (Nk.fn.w = ("let" : Str)) = false by decide +kernel) ?_
      walk_at "rd"
      exact ixt_go hS at1 (q _ hA)
  | turns =>
    cases hn with
    | @knd _ x _ _ hS hA =>
      refine reqS_go (b := false) (show decide (Nk.turns.w = ("which" : Str)) = false by decide +kernel) ?_
      walk_at "rd"
      refine reqS_go (b := false) (show decide (Nk.turns.w = ("let" : Str)) = false by decide +kernel) ?_
      walk_at "rd"
      exact ixt_go hS at1 (q _ hA)
  | which0 =>
    refine reqS_go (b := true) (by decide +kernel) ?_
    walk_at "rd"
    refine hk.at0 fun u hu => ?_
    walk_at "rd"
    cases hu with
    | two hS hA hB =>
      refine ixt_go hS at0 ?_
      walk_at "rd"
      refine reqS_go (b := true) (by decide +kernel) ?_
      walk_at "rd"
      refine hk.at0 fun u2 hu2 => ?_
      cases hu2 with
      | two hS hA hB =>
        obtain ⟨us, h1, h2⟩ := hk
        walk_at "rd"
        refine lnl_go h1 ?_
        rw [h2.len]
        exact ixt_go hS at1 (q _ hA)
  | which1 =>
    refine reqS_go (b := true) (by decide +kernel) ?_
    walk_at "rd"
    refine hk.at0 fun u hu => ?_
    walk_at "rd"
    cases hu with
    | two hS hA hB =>
      refine ixt_go hS at0 ?_
      walk_at "rd"
      refine reqS_go (b := true) (by decide +kernel) ?_
      walk_at "rd"
      refine hk.at0 fun u2 hu2 => ?_
      cases hu2 with
      | two hS hA hB =>
        obtain ⟨us, h1, h2⟩ := hk
        walk_at "rd"
        refine lnl_go h1 ?_
        rw [h2.len]
        exact ixt_go hS at2 (q _ hB)
  | lt =>
    refine reqS_go (b := false) (by decide +kernel) ?_
    walk_at "rd"
    refine reqS_go (b := true) (by decide +kernel) ?_
    walk_at "rd"
    exact hk.at0 fun u hu => q u hu
/-! ### frames -/
def frF (p : Nat) (v : V) (l : Addr) : List (Str × V) := putF "own_some" (.ref l) (putF "own_row" v (putF "own_position" (iv p) []))
theorem fr_pos (p : Nat) (v : V) (l : Addr) : (frF p v l).lookup ("own_position" : Str) = some (iv p) := by
  unfold frF
  rw [lookup_putF, if_neg (by decide +kernel), lookup_putF, if_neg (by decide +kernel), lookup_putF, if_pos rfl]
theorem fr_row (p : Nat) (v : V) (l : Addr) : (frF p v l).lookup ("own_row" : Str) = some v := by
  unfold frF
  rw [lookup_putF, if_neg (by decide +kernel), lookup_putF, if_pos rfl]
theorem fr_some (p : Nat) (v : V) (l : Addr) : (frF p v l).lookup ("own_some" : Str) = some (.ref l) := by
  unfold frF
  rw [lookup_putF, if_pos rfl]
theorem putF_len (f : Str) (v : V) : ∀ fs : List (Str × V), (putF f v fs).length ≤ fs.length + 1
  | [] => Nat.le_refl _
  | g :: r => by
    have ih := putF_len f v r
    unfold putF
    split
    · simp
    · simp only [List.length_cons]
      omega
def sp_Frame_init (K : PySem.W.Frag) : Sp := fun vs H Q _ => ∃ (x dx : Addr) (p : Nat) (v : V), vs = [.ref x, .int p, v] ∧ H x = some (.ins (ga K "Frame") dx []) ∧
  ∀ l H1, H l = none → Kp (fun b => b = x) H H1 → H1 x = some (.ins (ga K "Frame") dx (frF p v l)) → H1 l = some (.lst []) → Q .non H1
theorem ok_Frame_init (T : Tx w K mg) : OkF P w K mg base 1 (ma K (ga K "Frame") "__init__") ["self", "position", "row"] (sp_Frame_init K) := by
  refine okF T.f_Frame_init rfl sc_Frame_init b_Frame_init (fun vs H Q E h => by obtain ⟨x, dx, p, v, rfl, _⟩ := h; rfl) (fun cdv A outer s H vs Q E hr h => ?_)
  obtain ⟨x, dx, p, v, rfl, hx, q⟩ := h
  refine ⟨_, (pss_cons (ps_fld (pv 0) (pv 1) rfl)
      (pss_cons (ps_fld (pv 0) (pv 2) rfl)
      (pss_one (ps_fld (pv 0) (pe_lst pa_nil) rfl)))), ?_⟩
  walk_at "rd"
  refine kst_go hx T.c_Frame T.na_Frame_own_position (by simp) ?_
  walk_at "rd"
  refine kst_go upd_same T.c_Frame T.na_Frame_own_row (by have := putF_len ("own_position" : Str) (V.int p) []; simp only [List.length_nil] at this; omega) ?_
  walk_at "rd"
  refine klst_go len_ok fun l hl => ?_
  have nlx : l ≠ x := fun z => by rw [z, upd_same] at hl; cases hl
  have hl0 : H l = none := by rw [upd_ne nlx, upd_ne nlx] at hl; exact hl
  walk_at "rd"
  refine kst_go (by rw [upd_ne nlx.symm]; exact upd_same) T.c_Frame T.na_Frame_own_some (by
    have h1 := putF_len ("own_position" : Str) (V.int p) []
    have h2 := putF_len ("own_row" : Str) v (putF "own_position" (V.int p) [])
    simp only [List.length_nil] at h1
    omega) ?_
  walk_at "rd"
  refine q l _ hl0 (fun b o hb nb => ?_) upd_same (by rw [upd_ne nlx, upd_same])
  rw [upd_ne nb, upd_ne (ne_of_none hb hl0), upd_ne nb, upd_ne nb]
  exact hb
/-- a frame at x, its list at l -/
def FrAt (K : PySem.W.Frag) (H : Hp) (x l : Addr) (f : Fm) : Prop := ∃ dx vr us, H x = some (.ins (ga K "Frame") dx (frF f.p vr l)) ∧ RkAt K H vr f.g ∧ H l = some (.lst us) ∧ Al (KdAt K H) us f.ks
theorem FrAt.tp {H H1 : Hp} {x l : Addr} {f : Fm} (e : TpS H H1) (hx : ∀ o, H x = some o → H1 x = some o) (hl : ∀ o, H l = some o → H1 l = some o) (h : FrAt K H x l f) : FrAt K H1 x l f := by
  obtain ⟨dx, vr, us, h1, h2, h3, h4⟩ := h
  exact ⟨dx, vr, us, hx _ h1, h2.tp e, hl _ h3, h4.imp fun _ _ z => z.tp e⟩
/-- the node of a frame stands in the list of nodes -/
def InNs (t : Tm) (f : Fm) : Prop := t.nodes[f.p]? = some f.n
def sp_next_row (K : PySem.W.Frag) : Sp := fun vs H Q _ => ∃ (a x l : Addr) (t : Tm) (f : Fm) (G : List Kd), vs = [.ref a, .ref x] ∧ NsAt K H a t ∧ FrAt K H x l f ∧ InNs t f ∧ Nx f.n f.ks f.g G ∧ ∀ r H1, Same H H1 → RkAt K H1 r G → Q r H1
theorem ok_next_row (T : Tx w K mg) : OkF P w K mg base 2 (ga K "next_row") ["nodes", "frame"] (sp_next_row K) := by
  have G_bound_kind := ok_bound_kind (P := P) (base := base) T
  refine okF T.f_next_row rfl sc_next_row b_next_row (fun vs H Q E h => by obtain ⟨x, i, A, B, _, _, rfl, _⟩ := h; rfl) (fun cdv A outer s H vs Q E hr h => ?_)
  obtain ⟨a, x, l, t, f, G, rfl, ⟨vs, hS, hA⟩, ⟨dx, vr, us, hx, hR, hl, hks⟩, hin, hnx, q⟩ := h
  refine ⟨_, (pss_cons (ps_set (i := 2) sc_next_row.nd rfl (Or.inl rfl) (pe_ix ix_list (pv 0) (pe_fld (pv 1) rfl) (fun _ _ => rfl)))
      (pss_cons (ps_if (pt_cmpR op_eq (pe_ix ix_tup (pe_ix ix_kdict (pe_gr T.g_BINDS) (pe_ix ix_tup (pv 2) pe_int (fun _ _ => rfl)) (fun _ _ => rfl)) (pe_callB call_ln (by rfl) T.n_len PySem.boot_len (pa_cons (pe_fld (pv 1) rfl) pa_nil)) (fun _ _ => rfl)) pe_int (nomark _)) (pss_one (ps_ret (pe_fld (pv 1) rfl))) pss_nil)
      (pss_cons (ps_set (i := 3) sc_next_row.nd rfl (Or.inl rfl) (pe_f G_bound_kind T.g_bound_kind (hr.mono (by decide)) (pa_cons (pv 2) (pa_cons (pe_fld (pv 1) rfl) pa_nil))))
      (pss_cons (ps_if (pt_cmpR op_isN (pv 3) pe_non (nomark _)) (pss_one ps_never) pss_nil)
      (pss_one (ps_ret (pe_tup (pa_cons (pv 3) (pa_cons (pe_fld (pv 1) rfl) pa_nil))))))))), ?_⟩
  obtain ⟨v, hv, hnd⟩ := hA.get hin
  obtain ⟨b, xs, rfl, hT, _⟩ := id hnd.tup
  walk_at "rd"
  refine kfld_go hx T.c_Frame T.na_Frame_own_position (fr_pos _ _ _) ?_
  refine ixl_go hS (atI_nat hv) ?_
  walk_at "rd"
  refine ixt_go hT at0 ?_
  walk_at "rd"
  refine bn_go T f.n ?_
  walk_at "rd"
  refine kfld_go hx T.c_Frame T.na_Frame_own_some (fr_some _ _ _) ?_
  walk_at "rd"
  refine lnl_go (sqL_of hl) ?_
  rw [hks.len]
  have hbn : ∀ i : Nat, f.n.bn[f.ks.length]? = some i → atI (f.n.bn.map fun (i : Nat) => V.int (i : Int)) (f.ks.length : Int) = some (.int i) := fun i h => atI_nat (by rw [List.getElem?_map, h]; rfl)
  rcases hnx with ⟨h0, rfl⟩ | ⟨h1, k, hb, rfl⟩
  · refine ixt_go (bn_tup T f.n H) (hbn _ h0) ?_
    walk_at "rd"
    refine reqI_go ?_
    walk_at "rd"
    refine kfld_go hx T.c_Frame T.na_Frame_own_row (fr_row _ _ _) ?_
    exact q _ _ (Same.refl _) hR
  · refine ixt_go (bn_tup T f.n H) (hbn _ h1) ?_
    walk_at "rd"
    refine reqI_go ?_
    walk_at "rd"
    refine kfld_go hx T.c_Frame T.na_Frame_own_some (fr_some _ _ _) ?_
    walk_at "rd"
    refine ⟨_, _, _, _, _, rfl, hnd, ⟨us, sqL_of hl, hks⟩, hb, fun r hr' => ?_⟩
    walk_at "rd"
    have nr : ∃ ra, r = .ref ra := by cases hr' <;> exact ⟨_, rfl⟩
    obtain ⟨ra, rfl⟩ := nr
    refine ⟨rfl, ?_⟩
    walk_at "rd"
    refine kfld_go hx T.c_Frame T.na_Frame_own_row (fr_row _ _ _) ?_
    walk_at "rd"
    refine ktup_go len_ok fun p hp => ?_
    have s1 : Same H (upd H p (.tup [.ref ra, vr])) := same_upd hp
    exact q _ _ s1 (.cons (sqT_of upd_same) (hr'.mono s1) (hR.tp (.same s1)))
end
end K42

/-! KD10 -/
/-! finished -/
namespace K42
open PySem PySem.Spec L2 He
local macro_rules | `(tactic| walk_at "rd") => `(tactic| repeat (first | ((with_reducible refine' rd_var ?hvar ?_); (case hvar => exact rfl)) | with_reducible refine rd_seq ?_ | with_reducible refine rd_asg ?_ | with_reducible refine rd_ret ?_ | with_reducible refine rd_drop ?_ | with_reducible refine rd_ifs ?_ | with_reducible refine rd_name ?_ | with_reducible refine rd_c ?_ | with_reducible refine rd_cons ?_ | with_reducible refine rd_nil ?_ | with_reducible refine rd_cb ?_ | with_reducible refine rd_op ?_ | with_reducible refine rd_test ?_ | with_reducible refine rd_tb ?_ | with_reducible refine rd_and ?_ | with_reducible refine rd_or ?_ | with_reducible refine rd_not ?_ | with_reducible refine rd_andv ?_ | with_reducible refine rd_orv ?_ | with_reducible refine rd_notv ?_ | with_reducible refine rd_if ?_ | with_reducible refine rd_nx ?_ | with_reducible refine rd_retn ?_ | with_reducible refine rd_par ?_ | with_reducible refine rd_par3 ?_ | with_reducible refine rd_tup ?_ | with_reducible refine rd_lst ?_ | with_reducible refine rd_call ?_ | with_reducible refine rd_meth ?_ | with_reducible refine rd_make ?_ | with_reducible refine rd_fld ?_ | with_reducible refine rd_sfld ?_ | with_reducible refine rd_bm ?_ | with_reducible refine rd_bm0 ?_ | with_reducible refine rd_prop ?_ | with_reducible refine rd_dget ?_ | with_reducible refine rd_dnin ?_ | with_reducible refine rd_chain ?_ | with_reducible refine rd_sub ?_ | with_reducible refine rd_un ?_ | with_reducible refine rd_fl ?_ | with_reducible refine rd_ft ?_ | with_reducible refine rd_fr ?_ | with_reducible refine rd_fd ?_ | with_reducible refine rd_fe ?_ | with_reducible refine rd_ll ?_ | with_reducible refine rd_le ?_ | with_reducible refine rd_yes ?_ | with_reducible refine rd_dg2 ?_ | with_reducible refine rd_calld ?_ | with_reducible refine rd_lt ?_ | with_reducible refine rd_rev ?_ | with_reducible refine rd_sl ?_ | with_reducible refine rd_thru ?_ | with_reducible refine kb_go ?_ | with_reducible refine kpar_go ?_ | with_reducible refine kpar3_go ?_ | with_reducible refine ri0_go ?_ | with_reducible refine ru_go ?_ | ((with_reducible refine ifT ?hift ?_); (case hift => exact rfl)) | ((with_reducible refine ifF ?hiff ?_); (case hiff => exact rfl))))
local macro_rules | `(tactic| walk_at "dt") => `(tactic| first | refine ifT (by decide +kernel) ?_ | ((refine ifT ?hdt ?_); (case hdt => exact decide_eq_true (by omega))))
local macro_rules | `(tactic| walk_at "df") => `(tactic| first | refine ifF (by decide +kernel) ?_ | ((refine ifF ?hdf ?_); (case hdf => exact decide_eq_false (by omega))))

section
variable {P : Program} {w : World} {K : PySem.W.Frag} {mg : Str → Option Value} {base : Heap}
theorem bn_le3 : ∀ n : Nd, n.bn.length ≤ 3
  | .name _ => Nat.zero_le 3
  | .told _ => Nat.zero_le 3
  | .knd t _ => by cases t <;> (simp [Nd.bn])
  | .wd t => by cases t <;> (simp [Nd.bn])
/-- frames one behind another, the top one first -/
def Fs (K : PySem.W.Frag) (H : Hp) (t : Tm) : List (Addr × Addr) → List Fm → Prop
  | [], [] => True
  | p :: ps, f :: fs => FrAt K H p.1 p.2 f ∧ InNs t f ∧ Fs K H t ps fs
  | _, _ => False
theorem Fs.tp {H H1 : Hp} {t : Tm} (e : TpS H H1) : ∀ {ps : List (Addr × Addr)} {fs : List Fm}, (∀ p ∈ ps, (∀ o, H p.1 = some o → H1 p.1 = some o) ∧ ∀ o, H p.2 = some o → H1 p.2 = some o) → Fs K H t ps fs → Fs K H1 t ps fs
  | [], [], _, _ => True.intro
  | p :: ps, f :: fs, k, h => ⟨h.1.tp e (k p (List.mem_cons_self ..)).1 (k p (List.mem_cons_self ..)).2, h.2.1, Fs.tp e (fun q hq => k q (List.mem_cons_of_mem _ hq)) h.2.2⟩
  | [], _ :: _, _, h => h.elim
  | _ :: _, [], _, h => h.elim
theorem Fs.mem {H : Hp} {t : Tm} : ∀ {ps : List (Addr × Addr)} {fs : List Fm}, Fs K H t ps fs → ∀ p ∈ ps, ∃ f, FrAt K H p.1 p.2 f
  | [], [], _, p, hp => by cases hp
  | q :: ps, f :: fs, h, p, hp => by
    rcases List.mem_cons.mp hp with rfl | hp
    · exact ⟨f, h.1⟩
    · exact h.2.2.mem p hp
  | [], _ :: _, h, _, _ => h.elim
  | _ :: _, [], h, _, _ => h.elim
theorem Fs.len {H : Hp} {t : Tm} : ∀ {ps : List (Addr × Addr)} {fs : List Fm}, Fs K H t ps fs → ps.length = fs.length
  | [], [], _ => rfl
  | q :: ps, f :: fs, h => congrArg Nat.succ h.2.2.len
  | [], _ :: _, h => h.elim
  | _ :: _, [], h => h.elim
/-- what stands between two nodes: frames in the list at fr, kinds in the list at kd -/
structure ChSt (K : PySem.W.Frag) (H : Hp) (fr kd : Addr) (t : Tm) (ps : List (Addr × Addr)) (S : List Fm) (k0 : Option Kd) : Prop where
  frl : H fr = some (.lst (ps.map fun p => V.ref p.1).reverse)
  al : Fs K H t ps S
  nd : (ps.map (·.2)).Nodup
  off : ∀ p ∈ ps, p.2 ≠ fr ∧ p.2 ≠ kd
  ne : fr ≠ kd
  kdl : ∃ us, H kd = some (.lst us) ∧ us.length = t.size ∧ ∀ k, k0 = some k → ∃ v, us[0]? = some v ∧ KdAt K H v k
/-- what may change -/
def MuC (fr kd : Addr) (ps : List (Addr × Addr)) (b : Addr) : Prop := b = fr ∨ b = kd ∨ ∃ p ∈ ps, b = p.2
theorem ChSt.tp {H H1 : Hp} {fr kd : Addr} {t : Tm} {ps : List (Addr × Addr)} {S : List Fm} {k0 : Option Kd} (c : ChSt K H fr kd t ps S k0) (e : TpS H H1) (hf : ∀ o, H fr = some o → H1 fr = some o) (hk : ∀ o, H kd = some o → H1 kd = some o)
    (hp : ∀ p ∈ ps, (∀ o, H p.1 = some o → H1 p.1 = some o) ∧ ∀ o, H p.2 = some o → H1 p.2 = some o) : ChSt K H1 fr kd t ps S k0 := by
  obtain ⟨us, h1, h2, h3⟩ := c.kdl
  refine ⟨hf _ c.frl, c.al.tp e hp, c.nd, c.off, c.ne, us, hk _ h1, h2, fun k hk => ?_⟩
  obtain ⟨v, h4, h5⟩ := h3 k hk
  exact ⟨v, h4, h5.tp e⟩
theorem ChSt.mono {H H1 : Hp} {fr kd : Addr} {t : Tm} {ps : List (Addr × Addr)} {S : List Fm} {k0 : Option Kd} (c : ChSt K H fr kd t ps S k0) (e : Same H H1) : ChSt K H1 fr kd t ps S k0 :=
  c.tp (.same e) (fun o h => e _ o h) (fun o h => e _ o h) fun p _ => ⟨fun o h => e _ o h, fun o h => e _ o h⟩
theorem ChSt.ltp {H : Hp} {fr kd : Addr} {t : Tm} {ps : List (Addr × Addr)} {S : List Fm} {k0 : Option Kd} (c : ChSt K H fr kd t ps S k0) {H1 : Hp} (k : Kp (MuC fr kd ps) H H1) : TpS H H1 := by
  have key : ∀ b, MuC fr kd ps b → ∃ us, H b = some (.lst us) := by
    rintro b (rfl | rfl | ⟨p, hp, rfl⟩)
    · exact ⟨_, c.frl⟩
    · obtain ⟨us, h, _⟩ := c.kdl
      exact ⟨us, h⟩
    · obtain ⟨f, _, _, us, _, _, h, _⟩ := c.al.mem p hp
      exact ⟨us, h⟩
  refine .kp k (fun b hb xs e => ?_) (fun b hb o xs e => ?_)
  · obtain ⟨us, h⟩ := key b hb
    rw [h] at e
    cases e
  · obtain ⟨us, h⟩ := key b hb
    rw [h] at e
    cases e
/-- the top frame gets one kind more -/
theorem ChSt.app {H : Hp} {fr kd : Addr} {t : Tm} {p : Addr × Addr} {ps : List (Addr × Addr)} {f : Fm} {S : List Fm} {k0 : Option Kd} {us : List V} {v : V} {k : Kd} (c : ChSt K H fr kd t (p :: ps) (f :: S) k0) (hl : H p.2 = some (.lst us)) (hv : KdAt K H v k) :
    ChSt K (upd H p.2 (.lst (us ++ [v]))) fr kd t (p :: ps) (⟨f.p, f.g, f.n, f.ks ++ [k]⟩ :: S) k0 := by
  have t1 : TpS H (upd H p.2 (.lst (us ++ [v]))) := TpS.lst hl
  obtain ⟨hf, hin, hfs⟩ := c.al
  obtain ⟨dx, vr, us2, h1, h2, h3, h4⟩ := hf
  rw [hl] at h3
  cases h3
  have off := c.off p (List.mem_cons_self ..)
  have nd := List.nodup_cons.mp (show (p.2 :: ps.map (·.2)).Nodup from c.nd)
  obtain ⟨ks, g1, g2, g3⟩ := c.kdl
  refine ⟨by rw [upd_ne off.1.symm]; exact c.frl, ⟨⟨dx, vr, _, ?_, h2.tp t1, upd_same, (h4.imp fun _ _ z => z.tp t1).app (.cons (hv.tp t1) .nil)⟩, hin, hfs.tp t1 fun q hq => ?_⟩, c.nd, c.off, c.ne, ks, by rw [upd_ne off.2.symm]; exact g1, g2, fun k hk => ?_⟩
  · rw [upd_ne (ne_of h1 hl (by intro z; cases z))]
    exact h1
  · obtain ⟨f2, dx2, vr2, us2, e1, e2, e3, e4⟩ := hfs.mem q hq
    refine ⟨fun o h => ?_, fun o h => ?_⟩
    · rw [upd_ne (ne_of e1 hl (by intro z; cases z))]
      exact h
    · rw [upd_ne (fun z => nd.1 (by rw [← z]; exact List.mem_map_of_mem hq))]
      exact h
  · obtain ⟨v2, e1, e2⟩ := g3 k hk
    exact ⟨v2, e1, e2.tp t1⟩
/-- the top frame goes -/
theorem ChSt.pop {H : Hp} {fr kd : Addr} {t : Tm} {p : Addr × Addr} {ps : List (Addr × Addr)} {f : Fm} {S : List Fm} {k0 : Option Kd} (c : ChSt K H fr kd t (p :: ps) (f :: S) k0) :
    ChSt K (upd H fr (.lst (ps.map fun p => V.ref p.1).reverse)) fr kd t ps S k0 := by
  have t1 : TpS H (upd H fr (.lst (ps.map fun p => V.ref p.1).reverse)) := TpS.lst c.frl
  obtain ⟨hf, hin, hfs⟩ := c.al
  have nd := List.nodup_cons.mp (show (p.2 :: ps.map (·.2)).Nodup from c.nd)
  obtain ⟨ks, g1, g2, g3⟩ := c.kdl
  refine ⟨upd_same, hfs.tp t1 fun q hq => ?_, nd.2, fun q hq => c.off q (List.mem_cons_of_mem _ hq), c.ne, ks, by rw [upd_ne c.ne.symm]; exact g1, g2, fun k hk => ?_⟩
  · obtain ⟨f2, dx2, vr2, us2, e1, e2, e3, e4⟩ := hfs.mem q hq
    refine ⟨fun o h => ?_, fun o h => ?_⟩
    · rw [upd_ne (ne_of e1 c.frl (by intro z; cases z))]
      exact h
    · rw [upd_ne (c.off q (List.mem_cons_of_mem _ hq)).1]
      exact h
  · obtain ⟨v2, e1, e2⟩ := g3 k hk
    exact ⟨v2, e1, e2.tp t1⟩
/-- a kind is told -/
theorem ChSt.set {H : Hp} {fr kd : Addr} {t : Tm} {ps : List (Addr × Addr)} {S : List Fm} {k0 : Option Kd} {us : List V} {v : V} {k : Kd} {j : Nat} (c : ChSt K H fr kd t ps S k0) (hk : H kd = some (.lst us)) (hj : j < us.length) (hv : KdAt K H v k) :
    ChSt K (upd H kd (.lst (us.set j v))) fr kd t ps S (upd0 j k k0) := by
  have t1 : TpS H (upd H kd (.lst (us.set j v))) := TpS.lst hk
  obtain ⟨ks, g1, g2, g3⟩ := c.kdl
  rw [hk] at g1
  cases g1
  refine ⟨by rw [upd_ne c.ne]; exact c.frl, c.al.tp t1 fun q hq => ?_, c.nd, c.off, c.ne, _, upd_same, by rw [List.length_set]; exact g2, fun k2 hk2 => ?_⟩
  · obtain ⟨f2, dx2, vr2, us2, e1, e2, e3, e4⟩ := c.al.mem q hq
    refine ⟨fun o h => ?_, fun o h => ?_⟩
    · rw [upd_ne (ne_of e1 hk (by intro z; cases z))]
      exact h
    · rw [upd_ne (c.off q hq).2]
      exact h
  · unfold upd0 at hk2
    split at hk2
    · rename_i h0
      subst h0
      cases hk2
      exact ⟨v, List.getElem?_set_self hj, hv.tp t1⟩
    · rename_i h0
      obtain ⟨v2, e1, e2⟩ := g3 k2 hk2
      exact ⟨v2, by rw [List.getElem?_set_ne h0]; exact e1, e2.tp t1⟩
def sp_finished (K : PySem.W.Frag) : Sp := fun vs H Q _ => ∃ (a fr kd : Addr) (t : Tm) (ps : List (Addr × Addr)) (S S1 : List Fm) (k0 k1 : Option Kd), vs = [.ref a, .ref fr, .ref kd] ∧ NsAt K H a t ∧ ¬ MuC fr kd ps a ∧ ChSt K H fr kd t ps S k0 ∧ Cl S k0 S1 k1 ∧
  ∀ H1 qs, Kp (MuC fr kd ps) H H1 → ChSt K H1 fr kd t qs S1 k1 → (∀ p ∈ qs, p ∈ ps) → Q .non H1
theorem ok_finished (T : Tx w K mg) : OkF P w K mg base 4 (ga K "finished") ["nodes", "frames", "kinds"] (sp_finished K) := by
  have G_kind_by := ok_kind_by (P := P) (base := base) T
  refine okF T.f_finished rfl sc_finished b_finished (fun vs H Q E h => by obtain ⟨x, i, A, B, _, _, _, _, _, rfl, _⟩ := h; rfl) (fun cdv A outer s H vs Q E hr h => ?_)
  obtain ⟨a, fr, kd, t, ps, S, S1, k0, k1, rfl, hN, hna, hC, hcl, q⟩ := h
  refine ⟨_, (pss_one (ps_while PassesOwn.never (pt_cmpR op_gt (pe_callB call_ln (by rfl) T.n_len PySem.boot_len (pa_cons (pv 1) pa_nil)) pe_int (nomark _)) (pss_cons (ps_set (i := 3) sc_finished.nd rfl (Or.inl rfl) (pe_ix ix_list (pv 1) (pe_un un_neg pe_int) (fun _ _ => rfl)))
      (pss_cons (ps_set (i := 4) sc_finished.nd rfl (Or.inl rfl) (pe_ix ix_list (pv 0) (pe_fld (pv 3) rfl) (fun _ _ => rfl)))
      (pss_cons (ps_if (pt_cmpR op_lt (pe_callB call_ln (by rfl) T.n_len PySem.boot_len (pa_cons (pe_fld (pv 3) rfl) pa_nil)) (pe_callB call_ln (by rfl) T.n_len PySem.boot_len (pa_cons (pe_ix ix_kdict (pe_gr T.g_BINDS) (pe_ix ix_tup (pv 4) pe_int (fun _ _ => rfl)) (fun _ _ => rfl)) pa_nil)) (nomark _)) (pss_one ps_retN) pss_nil)
      (pss_cons (ps_expr (pe_bm0 PySem.F.plainAttrs_list PySem.F.slot_list_pop PySem.F.type_list_pop mt_pop (pv 1)))
      (pss_cons (ps_set (i := 5) sc_finished.nd rfl (Or.inl rfl) (pe_f G_kind_by T.g_kind_by (hr.mono (by decide)) (pa_cons (pv 4) (pa_cons (pe_fld (pv 3) rfl) pa_nil))))
      (pss_cons (ps_if (pt_cmpR op_isN (pv 5) pe_non (nomark _)) (pss_one ps_never) pss_nil)
      (pss_cons (ps_asg (pv 5) (pg_sub (pv 2) (pe_fld (pv 3) rfl) set_list))
      (pss_one (ps_if (pt_cmpR op_gt (pe_callB call_ln (by rfl) T.n_len PySem.boot_len (pa_cons (pv 1) pa_nil)) pe_int (nomark _)) (pss_one (ps_expr (pe_bm PySem.F.plainAttrs_list PySem.F.slot_list_append PySem.F.type_list_append mt_append (pe_fld (pe_ix ix_list (pv 1) (pe_un un_neg pe_int) (fun _ _ => rfl)) rfl) (pa_cons (pv 5) pa_nil)))) pss_nil))))))))))), ?_⟩
  walk_at "rd"
  refine wh_go (fun m σ H' => ∃ (qs : List (Addr × Addr)) (R : List Fm) (j0 : Option Kd) (x3 x4 x5 : Option V), σ = [some (.ref a), some (.ref fr), some (.ref kd), x3, x4, x5] ∧ Kp (MuC fr kd ps) H H' ∧ ChSt K H' fr kd t qs R j0 ∧ (∀ p ∈ qs, p ∈ ps) ∧ Cl R j0 S1 k1 ∧ m = R.length) _
    ⟨ps, S, k0, none, none, none, rfl, Kp.refl, hC, fun _ h => h, hcl, rfl⟩ ?_
  rintro m σ H' ⟨qs, R, j0, x3, x4, x5, rfl, kp, hC', hsub, hcl', rfl⟩
  have tp := hC.ltp kp
  walk_at "rd"
  refine lnl_go (sqL_of hC'.frl) ?_
  walk_at "rd"
  have hlen := hC'.al.len
  cases hcl' with
  | nil =>
    have e : qs = [] := List.length_eq_zero_iff.mp hlen
    subst e
    walk_at "rd"
    exact q H' [] kp hC' hsub
  | @stop f R _ hlt =>
    cases qs with
    | nil => cases hlen
    | cons p qs =>
      refine ifT ?hh (wh_in ?_)
      case hh => exact decide_eq_true (by rw [List.length_reverse, List.length_map, List.length_cons]; omega)
      obtain ⟨hf, hin, _⟩ := hC'.al
      obtain ⟨dx, vr, us, h1, h2, h3, h4⟩ := hf
      have hfr := hC'.frl
      rw [List.map_cons, List.reverse_cons] at hfr
      walk_at "rd"
      refine ixl_go (sqL_of hfr) (atI_last _ _) ?_
      walk_at "rd"
      refine kfld_go h1 T.c_Frame T.na_Frame_own_position (fr_pos _ _ _) ?_
      obtain ⟨vs, hS, hA⟩ := id hN
      obtain ⟨v, hv, hnd⟩ := hA.get hin
      have hS' : SqL K H' a vs := by
        rcases hS with (h | ⟨o, h⟩) | h
        · exact .inl (.inl (kp _ _ h hna))
        · exact .inl (.inr ⟨o, kp _ _ h hna⟩)
        · exact .inr h
      obtain ⟨b, xs, rfl, hT, _⟩ := id hnd.tup
      refine ixl_go hS' (atI_nat hv) ?_
      walk_at "rd"
      refine kfld_go h1 T.c_Frame T.na_Frame_own_some (fr_some _ _ _) ?_
      walk_at "rd"
      refine lnl_go (sqL_of h3) ?_
      walk_at "rd"
      refine ixt_go (tp.sqt hT) at0 ?_
      walk_at "rd"
      refine bn_go T f.n ?_
      walk_at "rd"
      refine lnt_go (bn_tup T f.n _) ?_
      walk_at "rd"
      refine ifT ?hh2 ?_
      case hh2 => exact decide_eq_true (by rw [h4.len, List.length_map]; omega)
      walk_at "rd"
      exact q H' (p :: qs) kp hC' hsub
  | @step f R _ _ _ kk heq hkb hcl2 =>
    cases qs with
    | nil => cases hlen
    | cons p qs =>
      refine ifT ?hh (wh_in ?_)
      case hh => exact decide_eq_true (by rw [List.length_reverse, List.length_map, List.length_cons]; omega)
      obtain ⟨hf, hin, _⟩ := hC'.al
      obtain ⟨dx, vr, us, h1, h2, h3, h4⟩ := hf
      have hfr := hC'.frl
      rw [List.map_cons, List.reverse_cons] at hfr
      have hoff := hC'.off p (List.mem_cons_self ..)
      walk_at "rd"
      refine ixl_go (sqL_of hfr) (atI_last _ _) ?_
      walk_at "rd"
      refine kfld_go h1 T.c_Frame T.na_Frame_own_position (fr_pos _ _ _) ?_
      obtain ⟨vs, hS, hA⟩ := id hN
      obtain ⟨v, hv, hnd⟩ := hA.get hin
      have hS' : SqL K H' a vs := by
        rcases hS with (h | ⟨o, h⟩) | h
        · exact .inl (.inl (kp _ _ h hna))
        · exact .inl (.inr ⟨o, kp _ _ h hna⟩)
        · exact .inr h
      obtain ⟨b, xs, rfl, hT, _⟩ := id hnd.tup
      refine ixl_go hS' (atI_nat hv) ?_
      walk_at "rd"
      refine kfld_go h1 T.c_Frame T.na_Frame_own_some (fr_some _ _ _) ?_
      walk_at "rd"
      refine lnl_go (sqL_of h3) ?_
      walk_at "rd"
      refine ixt_go (tp.sqt hT) at0 ?_
      walk_at "rd"
      refine bn_go T f.n ?_
      walk_at "rd"
      refine lnt_go (bn_tup T f.n _) ?_
      walk_at "rd"
      refine ifF ?hh2 ?_
      case hh2 => exact decide_eq_false (by rw [h4.len, List.length_map]; omega)
      walk_at "rd"
      refine kbm_go hfr ?_
      walk_at "rd"
      refine pop_go hfr ?_
      walk_at "rd"
      have c1 := hC'.pop
      have t1 : TpS H' (upd H' fr (.lst (qs.map fun p => V.ref p.1).reverse)) := TpS.lst hfr
      have kp1 : Kp (MuC fr kd ps) H (upd H' fr (.lst (qs.map fun p => V.ref p.1).reverse)) := kp.trans (Kp.mut (.inl rfl))
      have nx : p.1 ≠ fr := ne_of h1 hfr (by intro z; cases z)
      have h1' : (upd H' fr (.lst (qs.map fun p => V.ref p.1).reverse)) p.1 = _ := (upd_ne nx).trans h1
      have h3' : (upd H' fr (.lst (qs.map fun p => V.ref p.1).reverse)) p.2 = _ := (upd_ne hoff.1).trans h3
      generalize upd H' fr (.lst (qs.map fun p => V.ref p.1).reverse) = H2 at c1 t1 kp1 h1' h3' ⊢
      refine kfld_go h1' T.c_Frame T.na_Frame_own_some (fr_some _ _ _) ?_
      walk_at "rd"
      refine ⟨_, _, _, _, _, rfl, hnd.tp (tp.trans t1), ⟨us, sqL_of h3', h4.imp fun _ _ z => z.tp t1⟩, hkb, fun r H3 s3 hr3 => ?_⟩
      have c3 := c1.mono s3
      have kp3 : Kp (MuC fr kd ps) H H3 := kp1.trans (Kp.same s3)
      have nr : ∃ ra, r = .ref ra := by cases hr3 <;> exact ⟨_, rfl⟩
      obtain ⟨ra, rfl⟩ := nr
      walk_at "rd"
      refine ⟨rfl, ?_⟩
      walk_at "rd"
      obtain ⟨ks, g1, g2, g3⟩ := id c3.kdl
      have hjl : f.p < ks.length := by
        rw [g2]
        have := (List.getElem?_eq_some_iff.mp hin).1
        rw [t.len] at this
        exact this
      refine kfld_go (s3 _ _ h1') T.c_Frame T.na_Frame_own_position (fr_pos _ _ _) ?_
      refine rset_go g1 hjl ?_
      walk_at "rd"
      have c4 := c3.set g1 hjl hr3
      have t4 : TpS H3 (upd H3 kd (.lst (ks.set f.p (.ref ra)))) := TpS.lst g1
      have kp4 : Kp (MuC fr kd ps) H (upd H3 kd (.lst (ks.set f.p (.ref ra)))) := kp3.trans (Kp.mut (.inr (.inl rfl)))
      have hr4 := hr3.tp t4
      generalize upd H3 kd (.lst (ks.set f.p (.ref ra))) = H4 at c4 t4 kp4 hr4 ⊢
      refine lnl_go (sqL_of c4.frl) ?_
      walk_at "rd"
      have hsub2 : ∀ p ∈ qs, p ∈ ps := fun z hz => hsub z (List.mem_cons_of_mem _ hz)
      have hlen4 := c4.al.len
      cases qs with
      | nil =>
        cases R with
        | cons _ _ => cases hlen4
        | nil =>
          walk_at "rd"
          exact ⟨0, Nat.zero_lt_one, [], [], _, _, _, _, rfl, kp4, c4, hsub2, hcl2, rfl⟩
      | cons p2 qs =>
        cases R with
        | nil => cases hlen4
        | cons f2 R =>
          refine ifT ?hh3 ?_
          case hh3 => exact decide_eq_true (by rw [List.length_reverse, List.length_map, List.length_cons]; omega)
          obtain ⟨hf2, hin2, _⟩ := c4.al
          obtain ⟨dx2, vr2, us2, e1, e2, e3, e4⟩ := hf2
          have hfr4 := c4.frl
          rw [List.map_cons, List.reverse_cons] at hfr4
          walk_at "rd"
          refine ixl_go (sqL_of hfr4) (atI_last _ _) ?_
          refine kfld_go e1 T.c_Frame T.na_Frame_own_some (fr_some _ _ _) ?_
          refine kbm_go e3 ?_
          walk_at "rd"
          refine app_go e3 ?_ ?_
          · rw [e4.len]
            have : f2.ks.length ≤ 3 := by
              cases hcl2 with
              | stop h =>
                have h2 : (f2.ks ++ [kk]).length < f2.n.bn.length := h
                have h3 : f2.n.bn.length ≤ 3 := bn_le3 _
                rw [List.length_append] at h2
                omega
              | step h _ _ =>
                have h2 : (f2.ks ++ [kk]).length = f2.n.bn.length := h
                have h3 : f2.n.bn.length ≤ 3 := bn_le3 _
                rw [List.length_append] at h2
                omega
            omega
          · walk_at "rd"
            have c5 := c4.app e3 hr4
            exact ⟨(f2 :: R).length, Nat.lt_succ_self _, p2 :: qs, _, _, _, _, _, rfl, kp4.trans (Kp.mut (.inr (.inr ⟨p2, hsub2 p2 (List.mem_cons_self ..), rfl⟩))), c5, hsub2, hcl2, rfl⟩
end
end K42

/-! KD11 -/
/-! kinds_of, is_program, want_program -/
namespace K42
open PySem PySem.Spec L2 He
local macro_rules | `(tactic| walk_at "rd") => `(tactic| repeat (first | ((with_reducible refine' rd_var ?hvar ?_); (case hvar => exact rfl)) | with_reducible refine rd_seq ?_ | with_reducible refine rd_asg ?_ | with_reducible refine rd_ret ?_ | with_reducible refine rd_drop ?_ | with_reducible refine rd_ifs ?_ | with_reducible refine rd_name ?_ | with_reducible refine rd_c ?_ | with_reducible refine rd_cons ?_ | with_reducible refine rd_nil ?_ | with_reducible refine rd_cb ?_ | with_reducible refine rd_op ?_ | with_reducible refine rd_test ?_ | with_reducible refine rd_tb ?_ | with_reducible refine rd_and ?_ | with_reducible refine rd_or ?_ | with_reducible refine rd_not ?_ | with_reducible refine rd_andv ?_ | with_reducible refine rd_orv ?_ | with_reducible refine rd_notv ?_ | with_reducible refine rd_if ?_ | with_reducible refine rd_nx ?_ | with_reducible refine rd_retn ?_ | with_reducible refine rd_par ?_ | with_reducible refine rd_par3 ?_ | with_reducible refine rd_tup ?_ | with_reducible refine rd_lst ?_ | with_reducible refine rd_call ?_ | with_reducible refine rd_meth ?_ | with_reducible refine rd_make ?_ | with_reducible refine rd_fld ?_ | with_reducible refine rd_sfld ?_ | with_reducible refine rd_bm ?_ | with_reducible refine rd_bm0 ?_ | with_reducible refine rd_prop ?_ | with_reducible refine rd_dget ?_ | with_reducible refine rd_dnin ?_ | with_reducible refine rd_chain ?_ | with_reducible refine rd_sub ?_ | with_reducible refine rd_un ?_ | with_reducible refine rd_fl ?_ | with_reducible refine rd_ft ?_ | with_reducible refine rd_fr ?_ | with_reducible refine rd_fd ?_ | with_reducible refine rd_fe ?_ | with_reducible refine rd_ll ?_ | with_reducible refine rd_le ?_ | with_reducible refine rd_yes ?_ | with_reducible refine rd_dg2 ?_ | with_reducible refine rd_calld ?_ | with_reducible refine rd_lt ?_ | with_reducible refine rd_rev ?_ | with_reducible refine rd_sl ?_ | with_reducible refine rd_thru ?_ | with_reducible refine kb_go ?_ | with_reducible refine kpar_go ?_ | with_reducible refine kpar3_go ?_ | with_reducible refine ri0_go ?_ | with_reducible refine ru_go ?_ | ((with_reducible refine ifT ?hift ?_); (case hift => exact rfl)) | ((with_reducible refine ifF ?hiff ?_); (case hiff => exact rfl))))
local macro_rules | `(tactic| walk_at "dt") => `(tactic| first | refine ifT (by decide +kernel) ?_ | ((refine ifT ?hdt ?_); (case hdt => exact decide_eq_true (by omega))))
local macro_rules | `(tactic| walk_at "df") => `(tactic| first | refine ifF (by decide +kernel) ?_ | ((refine ifF ?hdf ?_); (case hdf => exact decide_eq_false (by omega))))

/-- a part's value comes to R, whatever is asked of it then -/
theorem via {te : TE} {σ : L2.St} {H : Hp} {Q : VK} (R : V → Hp → Prop) (h : ∀ Q' : VK, (∀ u H1, R u H1 → Q' u H1) → te σ H Q') (key : ∀ u H1, R u H1 → Q u H1) : te σ H Q := h Q key
section
variable {P : Program} {w : World} {K : PySem.W.Frag} {mg : Str → Option Value} {base : Heap}
theorem Cl.le {S S1 : List Fm} {k0 k1 : Option Kd} (h : Cl S k0 S1 k1) : S1.length ≤ S.length := by
  induction h with
  | nil => exact Nat.le_refl _
  | stop _ => exact Nat.le_refl _
  | @step f S S1 k0 k1 K _ _ _ ih =>
    refine Nat.le_trans ih ?_
    cases S with
    | nil => exact Nat.zero_le _
    | cons g R => simp [app1]
theorem app1_len (S : List Fm) (k : Kd) : (app1 S k).length = S.length := by cases S <;> rfl
/-- one frame more -/
theorem ChSt.push {H : Hp} {fr kd x l : Addr} {t : Tm} {ps : List (Addr × Addr)} {S : List Fm} {k0 : Option Kd} {f : Fm} (c : ChSt K H fr kd t ps S k0) (hf : FrAt K H x l f) (hin : InNs t f) (nl : ∀ p ∈ ps, p.2 ≠ l) (n1 : l ≠ fr) (n2 : l ≠ kd) :
    ChSt K (upd H fr (.lst ((ps.map fun p => V.ref p.1).reverse ++ [.ref x]))) fr kd t ((x, l) :: ps) (f :: S) k0 := by
  have t1 : TpS H (upd H fr (.lst ((ps.map fun p => V.ref p.1).reverse ++ [.ref x]))) := TpS.lst c.frl
  obtain ⟨ks, g1, g2, g3⟩ := c.kdl
  refine ⟨by rw [upd_same, List.map_cons, List.reverse_cons], ⟨hf.tp t1 (fun o h => ?_) (fun o h => by rw [upd_ne n1]; exact h), hin, c.al.tp t1 fun q hq => ?_⟩, List.nodup_cons.mpr ⟨fun z => ?_, c.nd⟩, fun p hp => ?_, c.ne, ks, by rw [upd_ne c.ne.symm]; exact g1, g2, fun k hk => ?_⟩
  · obtain ⟨dx, vr, us, h1, _⟩ := hf
    rw [upd_ne (ne_of h1 c.frl (by intro z; cases z))]
    exact h
  · obtain ⟨f2, dx2, vr2, us2, e1, e2, e3, e4⟩ := c.al.mem q hq
    refine ⟨fun o h => ?_, fun o h => ?_⟩
    · rw [upd_ne (ne_of e1 c.frl (by intro z; cases z))]
      exact h
    · rw [upd_ne (c.off q hq).1]
      exact h
  · obtain ⟨q, hq, e⟩ := List.mem_map.mp z
    exact nl q hq e
  · rcases List.mem_cons.mp hp with rfl | hp
    · exact ⟨n1, n2⟩
    · exact c.off p hp
  · obtain ⟨v2, e1, e2⟩ := g3 k hk
    exact ⟨v2, e1, e2.tp t1⟩
/-- a list of nodes on the heap -/
def NlAt (K : PySem.W.Frag) (H : Hp) (a : Addr) (T : Tm) : Prop := ∃ vs, H a = some (.lst vs) ∧ Al (NdAt K H) vs T.nodes
theorem NlAt.ns {H : Hp} {a : Addr} {t : Tm} (h : NlAt K H a t) : NsAt K H a t := by
  obtain ⟨vs, h1, h2⟩ := h
  exact ⟨vs, sqL_of h1, h2⟩
theorem NlAt.mono {H H1 : Hp} {a : Addr} {t : Tm} (e : Same H H1) (h : NlAt K H a t) : NlAt K H1 a t := by
  obtain ⟨vs, h1, h2⟩ := h
  exact ⟨vs, e _ _ h1, h2.imp fun _ _ z => z.mono e⟩
def sp_kinds_of (K : PySem.W.Frag) : Sp := fun vs H Q _ => ∃ (b a : Addr) (t : Tm) (F : Kd), vs = [.ref b, .ref a] ∧ SqL K H b [] ∧ NlAt K H a t ∧ t.ok ∧ t.size ≤ 300 ∧ WT [] t F ∧
  ∀ r H1 us v, H r = none → Same H H1 → H1 r = some (.lst us) → us[0]? = some v → KdAt K H1 v F → Q (.ref r) H1
theorem ok_kinds_of (T : Tx w K mg) : OkF P w K mg base 5 (ga K "kinds_of") ["names", "nodes"] (sp_kinds_of K) := by
  have G_row_of := ok_row_of (P := P) (base := base) T
  have G_next_row := ok_next_row (P := P) (base := base) T
  have G_Frame_init := ok_Frame_init (P := P) (base := base) T
  have G_kind_of_leaf := ok_kind_of_leaf (P := P) (base := base) T
  have G_finished := ok_finished (P := P) (base := base) T
  refine okF T.f_kinds_of rfl sc_kinds_of b_kinds_of (fun vs H Q E h => by obtain ⟨x, k, _, _, rfl, _⟩ := h; rfl) (fun cdv A outer s H vs Q E hr h => ?_)
  obtain ⟨b, a, t, F, rfl, hb, hN, hk, hz, hwt, q⟩ := h
  refine ⟨_, (pss_cons (ps_par3 (i := 2) (j := 3) (l := 4) (by rfl) sc_kinds_of.nd rfl rfl rfl (by decide) (by decide) (by decide) rfl rfl rfl (pa_cons (pe_lc (own := [("node", 5)]) (g := gName 5) rfl sc_kinds_of.nd (pi_list (pv 1)) (blkOk_by (own := [("node", 5)]) (N := ["names", "nodes", "kinds", "frames", "top", "node", "position", "row", "kind"]) (sc := defScope s_kinds_of) (by decide +kernel)) (fun _ _ _ _ _ => (pg_name (i := 5) sc_kinds_of.nd rfl (Or.inl rfl))) (fun _ _ _ _ _ => pts_nil) (fun _ _ _ _ _ => pe_non)) (pa_cons (pe_lst pa_nil) (pa_cons (pe_f G_row_of T.g_row_of (hr.mono (by decide)) (pa_cons (pv 0) pa_nil)) pa_nil))) (by rfl))
      (pss_cons (ps_for PassesOwn.never rfl (pi_enum (by rfl) T.n_enumerate (pa_cons (pv 1) pa_nil)) (pg_tup (by rfl) (pgs_cons (pg_name (i := 6) sc_kinds_of.nd rfl (Or.inl rfl)) (pgs_cons (pg_name (i := 5) sc_kinds_of.nd rfl (Or.inl rfl)) pgs_nil))) (pss_cons (ps_set (i := 7) sc_kinds_of.nd rfl (Or.inl rfl) (pe_ifExp (pt_cmpR op_gt (pe_callB call_ln (by rfl) T.n_len PySem.boot_len (pa_cons (pv 3) pa_nil)) pe_int (nomark _)) (pe_f G_next_row T.g_next_row (hr.mono (by decide)) (pa_cons (pv 1) (pa_cons (pe_ix ix_list (pv 3) (pe_un un_neg pe_int) (fun _ _ => rfl)) pa_nil))) (pv 4)))
      (pss_one (ps_if (pt_cmpR op_gt (pe_callB call_ln (by rfl) T.n_len PySem.boot_len (pa_cons (pe_ix ix_kdict (pe_gr T.g_BINDS) (pe_ix ix_tup (pv 5) pe_int (fun _ _ => rfl)) (fun _ _ => rfl)) pa_nil)) pe_int (nomark _)) (pss_one (ps_expr (pe_bm PySem.F.plainAttrs_list PySem.F.slot_list_append PySem.F.type_list_append mt_append (pv 3) (pa_cons (pe_n T.mk_Frame G_Frame_init T.g_Frame (hr.mono (by decide)) (pa_cons (pv 6) (pa_cons (pv 7) pa_nil))) pa_nil)))) (pss_cons (ps_set (i := 8) sc_kinds_of.nd rfl (Or.inl rfl) (pe_f G_kind_of_leaf T.g_kind_of_leaf (hr.mono (by decide)) (pa_cons (pv 5) (pa_cons (pv 7) pa_nil))))
      (pss_cons (ps_if (pt_cmpR op_isN (pv 8) pe_non (nomark _)) (pss_one ps_never) pss_nil)
      (pss_cons (ps_asg (pv 8) (pg_sub (pv 2) (pv 6) set_list))
      (pss_cons (ps_if (pt_cmpR op_gt (pe_callB call_ln (by rfl) T.n_len PySem.boot_len (pa_cons (pv 3) pa_nil)) pe_int (nomark _)) (pss_one (ps_expr (pe_bm PySem.F.plainAttrs_list PySem.F.slot_list_append PySem.F.type_list_append mt_append (pe_fld (pe_ix ix_list (pv 3) (pe_un un_neg pe_int) (fun _ _ => rfl)) rfl) (pa_cons (pv 8) pa_nil)))) pss_nil)
      (pss_one (ps_expr (pe_f G_finished T.g_finished (hr.mono (by decide)) (pa_cons (pv 1) (pa_cons (pv 3) (pa_cons (pv 2) pa_nil))))))))))))))
      (pss_one (ps_ret (pv 2))))), ?_⟩
  obtain ⟨vs, hS, hA⟩ := id hN
  have hl : vs.length = t.size := by rw [hA.len, t.len]
  walk_at "rd"
  refine ll_go (sqL_of hS) (fun D i H2 => Same H H2 ∧ H2 D = some (.lst (List.replicate i .non))) (fun D hD => ⟨same_upd hD, upd_same⟩) (fun D i H2 hD hi ⟨s2, _⟩ => sqL_of (s2 _ _ hS)) ?_ ?_
  · rintro D i x H2 hD hx ⟨s2, hD2⟩
    refine ⟨rfl, ?_⟩
    walk_at "rd"
    refine ⟨_, hD2, line_gt (by rw [List.length_replicate]; have := (List.getElem?_eq_some_iff.mp hx).1; omega), same_mut s2 hD, ?_⟩
    rw [upd_same, List.replicate_succ']
  rintro kd H2 hkd ⟨s2, hkd2⟩
  walk_at "rd"
  refine klst_go len_ok fun fr hfr => ?_
  have s3 : Same H (upd H2 fr (.lst [])) := s2.trans (same_upd hfr)
  have nfk : fr ≠ kd := (ne_of_none hkd2 hfr).symm
  have hfr0 : H fr = none := s2.free hfr
  walk_at "rd"
  refine ⟨b, rfl, s3.seq hb, fun H3 s4 => ?_⟩
  have s5 := s3.trans s4
  walk_at "rd"
  refine fe_go (sqL_of (s5 _ _ hS)) (fun i σ H' => ∃ (ps : List (Addr × Addr)) (S : List Fm) (k0 : Option Kd) (x5 x6 x7 x8 : Option V), σ = [some (.ref b), some (.ref a), some (.ref kd), some (.ref fr), some .non, x5, x6, x7, x8] ∧
    Same H H' ∧ ChSt K H' fr kd t ps S k0 ∧ (∀ p ∈ ps, H p.2 = none) ∧ Pr F (t.nodes.drop i) i S k0 ∧ S.length ≤ i) ?_ (fun i σ H' hi ⟨_, _, _, _, _, _, _, _, z, _⟩ => sqL_of (z _ _ hS)) ?_ ?_
  · refine ⟨[], [], none, none, none, none, none, rfl, s5, ⟨s4 _ _ upd_same, True.intro, List.nodup_nil, (fun p hp => by cases hp), nfk, List.replicate vs.length .non, s4 _ _ (by rw [upd_ne nfk.symm]; exact hkd2), by rw [List.length_replicate]; exact hl, fun k h => by cases h⟩, (fun p hp => by cases hp), hwt.top, Nat.le_refl _⟩
  · rintro i x σ H' pr hx ⟨ps, S, k0, x5, x6, x7, x8, rfl, s', hC, hps, hpr, hSl⟩ hprn
    have hi : i < t.size := by rw [← hl]; exact (List.getElem?_eq_some_iff.mp hx).1
    have hi2 : i < t.nodes.length := by rw [t.len]; exact hi
    obtain ⟨nd, hnd, hndv⟩ := hA.getV hx
    have hat := (List.getElem?_eq_some_iff.mp hnd).2
    rw [List.drop_eq_getElem_cons hi2, hat] at hpr
    obtain ⟨bn, xs, rfl, hT, _⟩ := id hndv.tup
    have hfine := t.okNodes hk nd (List.mem_of_getElem? hnd)
    have s1 : Same H' (upd H' pr (.tup [.int i, .ref bn])) := same_upd hprn
    refine gt2_go (sqT_of upd_same) ?_
    have c1 := hC.mono s1
    have s1' := s'.trans s1
    generalize upd H' pr (.tup [.int i, .ref bn]) = H4 at c1 s1' ⊢
    obtain ⟨G, hG⟩ : ∃ G, NxTop S G := by cases hpr <;> exact ⟨_, ‹_›⟩
    refine rd_seq (rd_asg ?_)
    have hG2 : ∀ G2, NxTop S G2 → G2 = G := by
      intro G2 hG2
      cases S with
      | nil => exact Eq.trans hG2 (Eq.symm hG)
      | cons f R =>
        rcases hG2 with ⟨g1, g2⟩ | ⟨g1, k, g2, g3⟩
        · rcases hG with ⟨e1, e2⟩ | ⟨e1, k', e2, e3⟩
          · rw [g2, e2]
          · rw [g1] at e1; cases e1
        · rcases hG with ⟨e1, e2⟩ | ⟨e1, k', e2, e3⟩
          · rw [g1] at e1; cases e1
          · rw [g3, e3]
            have : k = k' := by
              generalize f.n = n at g2 e2
              generalize f.ks = ks at g2 e2
              cases g2 <;> cases e2 <;> rfl
            rw [this]
    refine via (fun u H1 => Same H4 H1 ∧ RkAt K H1 u G) (fun Q' key => ?_) ?_
    · walk_at "rd"
      refine lnl_go (sqL_of c1.frl) ?_
      have hlen := c1.al.len
      cases S with
      | nil =>
        cases ps with
        | cons _ _ => cases hlen
        | nil =>
          have e : G = [] := hG
          subst e
          walk_at "rd"
          exact key _ _ ⟨Same.refl _, .nil⟩
      | cons f R =>
        cases ps with
        | nil => cases hlen
        | cons p ps =>
          walk_at "rd"
          refine ifT ?hh1 ?_
          case hh1 => exact decide_eq_true (by rw [List.length_reverse, List.length_map, List.length_cons]; omega)
          have hfr1 := c1.frl
          rw [List.map_cons, List.reverse_cons] at hfr1
          walk_at "rd"
          refine ixl_go (sqL_of hfr1) (atI_last _ _) ?_
          walk_at "rd"
          exact ⟨a, p.1, p.2, t, f, G, rfl, hN.ns.mono s1', c1.al.1, c1.al.2.1, hG, fun r H1 s6 hR => key _ _ ⟨s6, hR⟩⟩
    · rintro u H5 ⟨s6, hR⟩
      have s7 := s1'.trans s6
      have c2 := c1.mono s6
      walk_at "rd"
      refine ixt_go (Same.sqt s7 hT) at0 ?_
      walk_at "rd"
      refine bn_go T nd ?_
      walk_at "rd"
      refine lnt_go (bn_tup T nd _) ?_
      rw [List.length_map]
      cases hpr with
      | node hlt hn hpr2 =>
        rw [hG2 _ hn] at hpr2
        walk_at "rd"
        refine ifT ?hh2 ?_
        case hh2 => exact decide_eq_true (by omega)
        walk_at "rd"
        refine kbm_go c2.frl ?_
        walk_at "rd"
        intro y dx hy hdx ndy
        refine ⟨y, dx, i, u, rfl, upd_same, fun l H6 hl6 kp6 hy6 hl62 => ⟨rfl, ?_⟩⟩
        have s8 : Same H5 H6 := by
          intro b0 o0 e0
          have n1 := ne_of_none e0 hy
          refine kp6 b0 o0 ?_ n1
          rw [upd_ne n1, upd_ne (ne_of_none e0 hdx)]
          exact e0
        have c3 := c2.mono s8
        have hl5 : H5 l = none := by
          have n1 : l ≠ y := fun z => by rw [z, upd_same] at hl6; cases hl6
          rw [upd_ne n1] at hl6
          exact (same_upd hdx).free hl6
        walk_at "rd"
        refine app_go c3.frl ?_ ?_
        · rw [List.length_reverse, List.length_map, c3.al.len]
          omega
        · have nl : ∀ p ∈ ps, p.2 ≠ l := fun p hp z => by
            obtain ⟨f2, dx2, vr2, us2, e1, e2, e3, e4⟩ := c2.al.mem p hp
            rw [z, hl5] at e3
            cases e3
          have n1 : l ≠ fr := fun z => by
            have e := c2.frl
            rw [← z, hl5] at e
            cases e
          have n2 : l ≠ kd := fun z => by
            obtain ⟨_, e, _⟩ := c2.kdl
            rw [← z, hl5] at e
            cases e
          refine ⟨(y, l) :: ps, _, k0, _, _, _, _, rfl, same_mut (s7.trans s8) hfr0, c3.push (f := ⟨i, G, nd, []⟩) ⟨dx, u, [], hy6, hR.tp (.same s8), hl62, .nil⟩ hnd nl n1 n2, fun p hp => ?_, hpr2, Nat.succ_le_succ hSl⟩
          rcases List.mem_cons.mp hp with rfl | hp
          · exact s7.free hl5
          · exact hps p hp
      | leaf hn hlf hcl hpr2 =>
        rw [hG2 _ hn] at hlf
        have ebn : nd.bn.length = 0 := by rw [hlf.bn]; rfl
        walk_at "rd"
        refine ifF ?hh3 ?_
        case hh3 => exact decide_eq_false (by omega)
        walk_at "rd"
        refine ⟨_, u, nd, G, _, rfl, hndv.mono s7, hfine, hR, hlf, fun r hr => ?_⟩
        have nr : ∃ ra, r = .ref ra := by cases hr <;> exact ⟨_, rfl⟩
        obtain ⟨ra, rfl⟩ := nr
        walk_at "rd"
        refine ⟨rfl, ?_⟩
        walk_at "rd"
        obtain ⟨ks, g1, g2, g3⟩ := id c2.kdl
        have hjl : i < ks.length := by rw [g2]; exact hi
        refine rset_go g1 hjl ?_
        walk_at "rd"
        have c4 := c2.set g1 hjl hr
        have s9 : Same H (upd H5 kd (.lst (ks.set i (.ref ra)))) := same_mut s7 hkd
        have t4 : TpS H5 (upd H5 kd (.lst (ks.set i (.ref ra)))) := TpS.lst g1
        have hr4 := hr.tp t4
        generalize upd H5 kd (.lst (ks.set i (.ref ra))) = H6 at c4 s9 hr4 ⊢
        refine lnl_go (sqL_of c4.frl) ?_
        walk_at "rd"
        have hlen4 := c4.al.len
        cases S with
        | nil =>
          cases ps with
          | cons _ _ => cases hlen4
          | nil =>
            walk_at "rd"
            refine ⟨a, fr, kd, t, [], [], _, _, _, rfl, hN.ns.mono s9, ?_, c4, hcl, fun H8 qs kp8 c8 hqs => ?_⟩
            · rintro (z | z | ⟨p, hp, z⟩)
              · rw [z, hfr0] at hS; cases hS
              · rw [z, hkd] at hS; cases hS
              · cases hp
            · walk_at "rd"
              refine ⟨qs, _, _, _, _, _, _, rfl, ?_, c8, ?_, hpr2, ?_⟩
              · intro b0 o0 e0
                refine kp8 b0 o0 (s9 _ _ e0) ?_
                rintro (z | z | ⟨p, hp, z⟩)
                · rw [z, hfr0] at e0; cases e0
                · rw [z, hkd] at e0; cases e0
                · cases hp
              · intro p hp
                have h1 := c8.al.len
                have h2 := hcl.le
                have h3 : qs.length = 0 := by rw [h1]; exact Nat.le_zero.mp h2
                rw [List.length_eq_zero_iff.mp h3] at hp
                cases hp
              · exact Nat.le_trans hcl.le (Nat.zero_le _)
        | cons f R =>
          cases ps with
          | nil => cases hlen4
          | cons p ps =>
            walk_at "rd"
            refine ifT ?hh4 ?_
            case hh4 => exact decide_eq_true (by rw [List.length_reverse, List.length_map, List.length_cons]; omega)
            have hfr4 := c4.frl
            rw [List.map_cons, List.reverse_cons] at hfr4
            obtain ⟨dx, vr, us, h1, h2, h3, h4⟩ := c4.al.1
            walk_at "rd"
            refine ixl_go (sqL_of hfr4) (atI_last _ _) ?_
            refine kfld_go h1 T.c_Frame T.na_Frame_own_some (fr_some _ _ _) ?_
            refine kbm_go h3 ?_
            walk_at "rd"
            refine app_go h3 ?_ ?_
            · rw [h4.len]
              have hf3 := bn_le3 f.n
              have : f.ks.length ≤ 3 := by
                rcases hG with ⟨g, _⟩ | ⟨g, _⟩
                · have := (List.getElem?_eq_some_iff.mp g).1
                  omega
                · have := (List.getElem?_eq_some_iff.mp g).1
                  omega
              omega
            walk_at "rd"
            have c6 := c4.app h3 hr4
            have s10 : Same H (upd H6 p.2 (.lst (us ++ [.ref ra]))) := same_mut s9 (hps p (List.mem_cons_self ..))
            generalize upd H6 p.2 (.lst (us ++ [.ref ra])) = H7 at c6 s10 ⊢
            refine ⟨a, fr, kd, t, p :: ps, _, _, _, _, rfl, hN.ns.mono s10, ?_, c6, hcl, fun H8 qs kp8 c8 hqs => ?_⟩
            · rintro (z | z | ⟨p2, hp, z⟩)
              · rw [z, hfr0] at hS; cases hS
              · rw [z, hkd] at hS; cases hS
              · rw [z, hps p2 hp] at hS; cases hS
            · walk_at "rd"
              refine ⟨qs, _, _, _, _, _, _, rfl, ?_, c8, fun p2 hp2 => hps p2 (hqs p2 hp2), hpr2, ?_⟩
              · intro b0 o0 e0
                refine kp8 b0 o0 (s10 _ _ e0) ?_
                rintro (z | z | ⟨p2, hp, z⟩)
                · rw [z, hfr0] at e0; cases e0
                · rw [z, hkd] at e0; cases e0
                · rw [z, hps p2 hp] at e0; cases e0
              · exact Nat.le_trans hcl.le (by rw [app1_len]; exact Nat.le_succ_of_le hSl)
  · rintro σ H' ⟨ps, S, k0, x5, x6, x7, x8, rfl, s', hC, hps, hpr, hSl⟩
    rw [List.drop_eq_nil_of_le (by rw [hA.len]; exact Nat.le_refl _)] at hpr
    cases hpr
    obtain ⟨us, g1, g2, g3⟩ := hC.kdl
    obtain ⟨v, e1, e2⟩ := g3 _ rfl
    walk_at "rd"
    exact q kd H' us v hkd s' g1 e1 e2
end
end K42

/-! KD12 -/
/-! fitting_kinds, is_program, want_program -/
namespace K42
open PySem PySem.Spec L2 He
local macro_rules | `(tactic| walk_at "rd") => `(tactic| repeat (first | ((with_reducible refine' rd_var ?hvar ?_); (case hvar => exact rfl)) | with_reducible refine rd_seq ?_ | with_reducible refine rd_asg ?_ | with_reducible refine rd_ret ?_ | with_reducible refine rd_drop ?_ | with_reducible refine rd_ifs ?_ | with_reducible refine rd_name ?_ | with_reducible refine rd_c ?_ | with_reducible refine rd_cons ?_ | with_reducible refine rd_nil ?_ | with_reducible refine rd_cb ?_ | with_reducible refine rd_op ?_ | with_reducible refine rd_test ?_ | with_reducible refine rd_tb ?_ | with_reducible refine rd_and ?_ | with_reducible refine rd_or ?_ | with_reducible refine rd_not ?_ | with_reducible refine rd_andv ?_ | with_reducible refine rd_orv ?_ | with_reducible refine rd_notv ?_ | with_reducible refine rd_if ?_ | with_reducible refine rd_nx ?_ | with_reducible refine rd_retn ?_ | with_reducible refine rd_par ?_ | with_reducible refine rd_par3 ?_ | with_reducible refine rd_tup ?_ | with_reducible refine rd_lst ?_ | with_reducible refine rd_call ?_ | with_reducible refine rd_meth ?_ | with_reducible refine rd_make ?_ | with_reducible refine rd_fld ?_ | with_reducible refine rd_sfld ?_ | with_reducible refine rd_bm ?_ | with_reducible refine rd_bm0 ?_ | with_reducible refine rd_prop ?_ | with_reducible refine rd_dget ?_ | with_reducible refine rd_dnin ?_ | with_reducible refine rd_chain ?_ | with_reducible refine rd_sub ?_ | with_reducible refine rd_un ?_ | with_reducible refine rd_fl ?_ | with_reducible refine rd_ft ?_ | with_reducible refine rd_fr ?_ | with_reducible refine rd_fd ?_ | with_reducible refine rd_fe ?_ | with_reducible refine rd_ll ?_ | with_reducible refine rd_le ?_ | with_reducible refine rd_yes ?_ | with_reducible refine rd_dg2 ?_ | with_reducible refine rd_calld ?_ | with_reducible refine rd_lt ?_ | with_reducible refine rd_rev ?_ | with_reducible refine rd_sl ?_ | with_reducible refine rd_thru ?_ | with_reducible refine kb_go ?_ | with_reducible refine kpar_go ?_ | with_reducible refine kpar3_go ?_ | with_reducible refine ri0_go ?_ | with_reducible refine ru_go ?_ | ((with_reducible refine ifT ?hift ?_); (case hift => exact rfl)) | ((with_reducible refine ifF ?hiff ?_); (case hiff => exact rfl))))
local macro_rules | `(tactic| walk_at "dt") => `(tactic| first | refine ifT (by decide +kernel) ?_ | ((refine ifT ?hdt ?_); (case hdt => exact decide_eq_true (by omega))))
local macro_rules | `(tactic| walk_at "df") => `(tactic| first | refine ifF (by decide +kernel) ?_ | ((refine ifF ?hdf ?_); (case hdf => exact decide_eq_false (by omega))))

section
variable {P : Program} {w : World} {K : PySem.W.Frag} {mg : Str → Option Value} {base : Heap}
def sp_fitting_kinds (K : PySem.W.Frag) : Sp := fun vs H Q _ => ∃ (b a : Addr) (t : Tm) (F : Kd), vs = [.ref b, .ref a] ∧ SqL K H b [] ∧ NlAt K H a t ∧ t.ok ∧ t.size ≤ 300 ∧ WT [] t F ∧ ∀ r H1, Same H H1 → Q (.ref r) H1
theorem ok_fitting_kinds (T : Tx w K mg) : OkF P w K mg base 6 (ga K "fitting_kinds") ["names", "nodes"] (sp_fitting_kinds K) := by
  have G_kinds_of := ok_kinds_of (P := P) (base := base) T
  refine okF T.f_fitting_kinds rfl sc_fitting_kinds b_fitting_kinds (fun vs H Q E h => by obtain ⟨x, k, _, _, rfl, _⟩ := h; rfl) (fun cdv A outer s H vs Q E hr h => ?_)
  obtain ⟨b, a, t, F, rfl, hb, hN, hk, hz, hwt, q⟩ := h
  refine ⟨_, (pss_one (ps_try_thru0 (pss_one (ps_ret (pe_f G_kinds_of T.g_kinds_of (hr.mono (by decide)) (pa_cons (pv 0) (pa_cons (pv 1) pa_nil))))))), ?_⟩
  walk_at "rd"
  exact ⟨b, a, t, F, rfl, hb, hN, hk, hz, hwt, fun r H1 us v _ s1 _ _ _ => q r H1 s1⟩
def sp_is_program (K : PySem.W.Frag) : Sp := fun vs H Q _ => ∃ (a : Addr) (t : Tm) (F : Kd), vs = [.ref a] ∧ NlAt K H a t ∧ t.ok ∧ t.size ≤ 300 ∧ WT [] t F ∧ ∀ H1, Same H H1 → Q (.bl true) H1
theorem ok_is_program (T : Tx w K mg) : OkF P w K mg base 7 (ga K "is_program") ["value"] (sp_is_program K) := by
  have G_fitting_kinds := ok_fitting_kinds (P := P) (base := base) T
  have G_is_term := ok_is_term (P := P) (base := base) T
  refine okF T.f_is_program rfl sc_is_program b_is_program (fun vs H Q E h => by obtain ⟨x, k, _, rfl, _⟩ := h; rfl) (fun cdv A outer s H vs Q E hr h => ?_)
  obtain ⟨a, t, F, rfl, hN, hk, hz, hwt, q⟩ := h
  refine ⟨_, (pss_one (ps_ret (pe_and (pe_f G_is_term T.g_is_term (hr.mono (by decide)) (pa_cons (pv 0) pa_nil)) (pe_one (pe_cmpR op_notN (pe_f G_fitting_kinds T.g_fitting_kinds (hr.mono (by decide)) (pa_cons (pe_lst pa_nil) (pa_cons (pv 0) pa_nil))) pe_non (nomark _)))))), ?_⟩
  walk_at "rd"
  refine ⟨a, t, rfl, hN.ns, hk, hz, fun H1 s1 => ?_⟩
  walk_at "rd"
  refine klst_go len_ok fun l hl => ?_
  have s2 := s1.trans (same_upd (o := .lst []) hl)
  walk_at "rd"
  refine ⟨l, a, t, F, rfl, sqL_of upd_same, hN.mono s2, hk, hz, hwt, fun r H2 s3 => ?_⟩
  walk_at "rd"
  exact ⟨rfl, q _ (s2.trans s3)⟩
def sp_want_program (K : PySem.W.Frag) : Sp := fun vs H Q _ => ∃ (a : Addr) (t : Tm) (F : Kd), vs = [.ref a] ∧ NlAt K H a t ∧ t.ok ∧ t.size ≤ 300 ∧ WT [] t F ∧ ∀ r H1, H r = none → Same H H1 → NlAt K H1 r t → Q (.ref r) H1
theorem ok_want_program (T : Tx w K mg) : OkF P w K mg base 8 (ga K "want_program") ["value"] (sp_want_program K) := by
  have G_is_program := ok_is_program (P := P) (base := base) T
  refine okF T.f_want_program rfl sc_want_program b_want_program (fun vs H Q E h => by obtain ⟨x, k, _, rfl, _⟩ := h; rfl) (fun cdv A outer s H vs Q E hr h => ?_)
  obtain ⟨a, t, F, rfl, hN, hk, hz, hwt, q⟩ := h
  refine ⟨_, (pss_cons (ps_if (pt_not (pt_val (pe_f G_is_program T.g_is_program (hr.mono (by decide)) (pa_cons (pv 0) pa_nil)))) (pss_one ps_never) pss_nil)
      (pss_one (ps_ret (pe_callTy call_list_of (by rfl) T.n_list (by decide +kernel) (pa_cons (pv 0) pa_nil))))), ?_⟩
  walk_at "rd"
  refine ⟨a, t, F, rfl, hN, hk, hz, hwt, fun H1 s1 => ?_⟩
  walk_at "rd"
  obtain ⟨vs, hS, hA⟩ := id hN
  refine ⟨a, vs, rfl, .inl (sqL_of (s1 _ _ hS)), fun l hl => ?_⟩
  have s2 := s1.trans (same_upd (o := .lst vs) hl)
  exact q l _ (s1.free hl) s2 ⟨vs, upd_same, hA.imp fun _ _ z => z.mono s2⟩
end
end K42

/-! KM1 -/
/-! a list against [] -/
namespace K42
open PySem PySem.Spec L2 He
section
variable {X : Cx}
/-- a list against [] -/
def rEqE : R2 := fun x y H Q => ∃ a b xs, x = .ref a ∧ y = .ref b ∧ H a = some (.lst xs) ∧ H b = some (.lst []) ∧ Q (.bl xs.isEmpty) H
def rNeE : R2 := fun x y H Q => ∃ a b xs, x = .ref a ∧ y = .ref b ∧ H a = some (.lst xs) ∧ H b = some (.lst []) ∧ Q (.bl (!xs.isEmpty)) H
theorem op_eqE (hu : X.A.units + 64 < cLine) : OpR X (compareOp .Eq) rEqE := by
  intro pins s σ H x y v u Q I rx ry h
  obtain ⟨a, b, xs, rfl, rfl, ha, hb, q⟩ := h
  cases xs with
  | nil => exact op_eqD hu pins s σ H _ _ v u Q I rx ry ⟨.list [], .list [], .lst (sqL_of ha) .nil, .lst (sqL_of hb) .nil, by decide +kernel, by decide +kernel, q⟩
  | cons x xs =>
    cases rx
    cases ry
    obtain ⟨_, i1, n1, r1, e1⟩ := (show ObjOk X.prog X.w H s.heap a (.lst (x :: xs)) from I.hok a _ ha)
    obtain ⟨_, i2, n2, r2, e2⟩ := (show ObjOk X.prog X.w H s.heap b (.lst []) from I.hok b _ hb)
    refine P.eq_list_lengths e1 e2 ?_ (by omega) ⟨.bl _, H, I, rfl, q⟩
    cases r1
    cases r2
    simp
theorem op_neE (hu : X.A.units + 64 < cLine) : OpR X (compareOp .NotEq) rNeE := by
  intro pins s σ H x y v u Q I rx ry h
  obtain ⟨a, b, xs, rfl, rfl, ha, hb, q⟩ := h
  cases xs with
  | nil => exact op_neD hu pins s σ H _ _ v u Q I rx ry ⟨.list [], .list [], .lst (sqL_of ha) .nil, .lst (sqL_of hb) .nil, by decide +kernel, by decide +kernel, q⟩
  | cons x xs =>
    cases rx
    cases ry
    obtain ⟨_, i1, n1, r1, e1⟩ := (show ObjOk X.prog X.w H s.heap a (.lst (x :: xs)) from I.hok a _ ha)
    obtain ⟨_, i2, n2, r2, e2⟩ := (show ObjOk X.prog X.w H s.heap b (.lst []) from I.hok b _ hb)
    refine SeqAt.RcNeAt.lists_lengths ⟨_, e1, rfl, n1, rfl⟩ ⟨_, e2, rfl, n2, rfl⟩ ?_ (by omega) X.prog X.w X.xe _ ⟨.bl _, H, I, rfl, q⟩
    cases r1
    cases r2
    simp
end
end K42

/-! KM2 -/
/-! what stands on the heap for the machine -/
namespace K42
open PySem PySem.Spec L2 He
theorem rd_rev {K : PySem.W.Frag} {te : TE} {σ : L2.St} {H : Hp} {Q : VK} (q : te σ H fun x H1 => ∃ a xs, x = .ref a ∧ SqL K H1 a xs ∧ ∀ p, H1 p = none → Q (.ref p) (upd H1 p (.lst xs.reverse))) : tRevL K te σ H Q := q
theorem rd_sl {r : V → Option Int → Option Int → Hp → VK → Prop} {te : TE} {tl th : TO} {σ : L2.St} {H : Hp} {Q : VK} (q : te σ H fun x H1 => tl σ H1 fun l H2 => th σ H2 fun u H3 => r x l u H3 Q) : tSl r te tl th σ H Q := q
theorem Kt.two_ne_see : True := True.intro
def opW (b : Bool) : Str := if b then "which" else "let"
/-- an order on the heap -/
inductive OdAt (K : PySem.W.Frag) (H : Hp) (Z : Tm) : V → Od → Prop where
  | see {a : Addr} {y : V} {p : Nat} {r : List W} : SqT K H a [.str "see", .int p, y] → MwAt K H Z y (.inr r) → OdAt K H Z (.ref a) (.see p r)
  | opn {a : Addr} {y : V} {b : Bool} {p : Nat} {r : List W} : SqT K H a [.str (opW b), .int p, y] → MwAt K H Z y (.inr r) → OdAt K H Z (.ref a) (.opn b p r)
  | trn {a : Addr} {y : V} {p : Nat} {r : List W} : SqT K H a [.str "turns", .int p, y] → MwAt K H Z y (.inr r) → OdAt K H Z (.ref a) (.trn p r)
  | agn {a : Addr} {y : V} {p k : Nat} {r : List W} : SqT K H a [.str "again", .int p, y, .int k] → MwAt K H Z y (.inr r) → OdAt K H Z (.ref a) (.agn p r k)
  | act {a : Addr} {n : Nd} : SqT K H a [.str n.w] → n.acts = true → OdAt K H Z (.ref a) (.act n)
theorem OdAt.tp {K : PySem.W.Frag} {H H1 : Hp} {Z : Tm} (e : TpS H H1) {v : V} {o : Od} (h : OdAt K H Z v o) : OdAt K H1 Z v o := by
  cases h with
  | see h g => exact .see (e.sqt h) (g.tp e)
  | opn h g => exact .opn (e.sqt h) (g.tp e)
  | trn h g => exact .trn (e.sqt h) (g.tp e)
  | agn h g => exact .agn (e.sqt h) (g.tp e)
  | act h g => exact .act (e.sqt h) g
theorem OdAt.ref {K : PySem.W.Frag} {H : Hp} {Z : Tm} {v : V} {o : Od} (h : OdAt K H Z v o) : ∃ a, v = .ref a := by cases h <;> exact ⟨_, rfl⟩
/-! ### the engine -/
def enF (a ch cl : Addr) : List (Str × V) := putF "own_calls" (.ref cl) (putF "own_limit" (.int 2000) (putF "own_children" (.ref ch) (putF "own_nodes" (.ref a) [])))
theorem en_nodes (a ch cl : Addr) : (enF a ch cl).lookup ("own_nodes" : Str) = some (.ref a) := by
  unfold enF
  rw [lookup_putF, if_neg (by decide +kernel), lookup_putF, if_neg (by decide +kernel), lookup_putF, if_neg (by decide +kernel), lookup_putF, if_pos rfl]
theorem en_children (a ch cl : Addr) : (enF a ch cl).lookup ("own_children" : Str) = some (.ref ch) := by
  unfold enF
  rw [lookup_putF, if_neg (by decide +kernel), lookup_putF, if_neg (by decide +kernel), lookup_putF, if_pos rfl]
theorem en_limit (a ch cl : Addr) : (enF a ch cl).lookup ("own_limit" : Str) = some (.int 2000) := by
  unfold enF
  rw [lookup_putF, if_neg (by decide +kernel), lookup_putF, if_pos rfl]
theorem en_calls (a ch cl : Addr) : (enF a ch cl).lookup ("own_calls" : Str) = some (.ref cl) := by
  unfold enF
  rw [lookup_putF, if_pos rfl]
theorem en_m (a ch cl : Addr) (m : Str) (h1 : decide (m = "own_calls") = false) (h2 : decide (m = "own_limit") = false) (h3 : decide (m = "own_children") = false) (h4 : decide (m = "own_nodes") = false) : (enF a ch cl).lookup m = none := by
  unfold enF
  rw [lookup_putF, if_neg (of_decide_eq_false h1), lookup_putF, if_neg (of_decide_eq_false h2), lookup_putF, if_neg (of_decide_eq_false h3), lookup_putF, if_neg (of_decide_eq_false h4)]
  rfl
/-- what of an engine stands -/
structure EnA (K : PySem.W.Frag) (G : Hp) (e cl : Addr) (Z : Tm) (dx a ch : Addr) (us : List V) : Prop where
  ins : G e = some (.ins (ga K "Engine") dx (enF a ch cl))
  ns : NlAt K G a Z
  ch : G ch = some (.lst us)
  chl : ChL G Z us
theorem EnA.mono {K : PySem.W.Frag} {G G1 : Hp} {e cl : Addr} {Z : Tm} {dx a ch : Addr} {us : List V} (s : Same G G1) (h : EnA K G e cl Z dx a ch us) : EnA K G1 e cl Z dx a ch us :=
  ⟨s _ _ h.ins, h.ns.mono s, s _ _ h.ch, h.chl.1, fun p u hp => by
    obtain ⟨l, h1, h2⟩ := h.chl.2 p u hp
    exact ⟨l, h1, s _ _ h2⟩⟩
def Mu (ol wl cl : Addr) (b : Addr) : Prop := b = ol ∨ b = wl ∨ b = cl
/-- the machine on the heap: orders, worths (the last one on top), calls begun -/
structure MsAt (K : PySem.W.Frag) (X : Addr → Prop) (H : Hp) (e ol wl cl : Addr) (Z : Tm) (os : List Od) (ws : List W) (cs : List Nat) : Prop where
  en : ∃ dx a ch us, EnA K (hid (fun b => Mu ol wl cl b ∨ X b) H) e cl Z dx a ch us
  o : ∃ vs, H ol = some (.lst vs.reverse) ∧ Al (OdAt K H Z) vs os
  w : ∃ vs, H wl = some (.lst vs.reverse) ∧ Al (fun v x => MwAt K H Z v (.inl x)) vs ws
  c : H cl = some (.lst (cs.map iv))
  ow : ol ≠ wl
  oc : ol ≠ cl
  wc : wl ≠ cl
section
variable {K : PySem.W.Frag} {X : Addr → Prop} {H H1 : Hp} {e ol wl cl : Addr} {Z : Tm} {os : List Od} {ws : List W} {cs : List Nat}
theorem MsAt.mono (m : MsAt K X H e ol wl cl Z os ws cs) (s : Same H H1) : MsAt K X H1 e ol wl cl Z os ws cs := by
  obtain ⟨dx, a, ch, us, h1⟩ := m.en
  obtain ⟨vs, h2, h3⟩ := m.o
  obtain ⟨xs, h4, h5⟩ := m.w
  exact ⟨⟨dx, a, ch, us, h1.mono (Kp.same s).hid⟩, ⟨vs, s _ _ h2, h3.imp fun _ _ z => z.tp (.same s)⟩, ⟨xs, s _ _ h4, h5.imp fun _ _ z => z.tp (.same s)⟩, s _ _ m.c, m.ow, m.oc, m.wc⟩
/-- orders on top -/
theorem MsAt.setO {us : List V} {os1 : List Od} (m : MsAt K X H e ol wl cl Z os ws cs) (h : Al (OdAt K H Z) us os1) : MsAt K X (upd H ol (.lst us.reverse)) e ol wl cl Z os1 ws cs := by
  obtain ⟨dx, a, ch, vs, h1⟩ := m.en
  obtain ⟨vs, h2, h3⟩ := m.o
  obtain ⟨xs, h4, h5⟩ := m.w
  have t : TpS H (upd H ol (.lst us.reverse)) := TpS.lst h2
  exact ⟨⟨dx, a, ch, _, h1.mono (Kp.mut (.inl (.inl rfl))).hid⟩, ⟨us, upd_same, h.imp fun _ _ z => z.tp t⟩, ⟨xs, by rw [upd_ne m.ow.symm]; exact h4, h5.imp fun _ _ z => z.tp t⟩, by rw [upd_ne m.oc.symm]; exact m.c, m.ow, m.oc, m.wc⟩
theorem MsAt.setW {us : List V} {ws1 : List W} (m : MsAt K X H e ol wl cl Z os ws cs) (h : Al (fun v x => MwAt K H Z v (.inl x)) us ws1) : MsAt K X (upd H wl (.lst us.reverse)) e ol wl cl Z os ws1 cs := by
  obtain ⟨dx, a, ch, vs, h1⟩ := m.en
  obtain ⟨vs, h2, h3⟩ := m.o
  obtain ⟨xs, h4, h5⟩ := m.w
  have t : TpS H (upd H wl (.lst us.reverse)) := TpS.lst h4
  exact ⟨⟨dx, a, ch, _, h1.mono (Kp.mut (.inl (.inr (.inl rfl)))).hid⟩, ⟨vs, by rw [upd_ne m.ow]; exact h2, h3.imp fun _ _ z => z.tp t⟩, ⟨us, upd_same, h.imp fun _ _ z => z.tp t⟩, by rw [upd_ne m.wc.symm]; exact m.c, m.ow, m.oc, m.wc⟩
theorem MsAt.setC {ds : List Nat} (m : MsAt K X H e ol wl cl Z os ws cs) : MsAt K X (upd H cl (.lst (ds.map iv))) e ol wl cl Z os ws ds := by
  obtain ⟨dx, a, ch, vs, h1⟩ := m.en
  obtain ⟨vs, h2, h3⟩ := m.o
  obtain ⟨xs, h4, h5⟩ := m.w
  have t : TpS H (upd H cl (.lst (ds.map iv))) := TpS.lst m.c
  exact ⟨⟨dx, a, ch, _, h1.mono (Kp.mut (.inl (.inr (.inr rfl)))).hid⟩, ⟨vs, by rw [upd_ne m.oc]; exact h2, h3.imp fun _ _ z => z.tp t⟩, ⟨xs, by rw [upd_ne m.wc]; exact h4, h5.imp fun _ _ z => z.tp t⟩, upd_same, m.ow, m.oc, m.wc⟩
theorem MsAt.ltp (m : MsAt K X H e ol wl cl Z os ws cs) (k : Kp (Mu ol wl cl) H H1) : TpS H H1 := by
  have key : ∀ b, Mu ol wl cl b → ∃ us, H b = some (.lst us) := by
    rintro b (rfl | rfl | rfl)
    · obtain ⟨vs, h, _⟩ := m.o
      exact ⟨_, h⟩
    · obtain ⟨vs, h, _⟩ := m.w
      exact ⟨_, h⟩
    · exact ⟨_, m.c⟩
  refine .kp k (fun b hb xs z => ?_) (fun b hb o xs z => ?_)
  · obtain ⟨us, h⟩ := key b hb
    rw [h] at z
    cases z
  · obtain ⟨us, h⟩ := key b hb
    rw [h] at z
    cases z
theorem MsAt.lenO (m : MsAt K X H e ol wl cl Z os ws cs) {xs : List V} (h : H ol = some (.lst xs)) : xs.length = os.length := by
  obtain ⟨vs, h2, h3⟩ := m.o
  rw [h] at h2
  cases h2
  rw [List.length_reverse, h3.len]
theorem MsAt.lenW (m : MsAt K X H e ol wl cl Z os ws cs) {xs : List V} (h : H wl = some (.lst xs)) : xs.length = ws.length := by
  obtain ⟨vs, h2, h3⟩ := m.w
  rw [h] at h2
  cases h2
  rw [List.length_reverse, h3.len]
end
section
variable {P : Program} {w : World} {K : PySem.W.Frag} {mg : Str → Option Value} {base : Heap}
theorem en_go {e cl : Addr} {Z : Tm} {dx a ch : Addr} {us : List V} {S : Addr → Prop} {H : Hp} (h : EnA K (hid S H) e cl Z dx a ch us) : H e = some (.ins (ga K "Engine") dx (enF a ch cl)) := (of_hid h.ins).1
theorem en_ns {e cl : Addr} {Z : Tm} {dx a ch : Addr} {us : List V} {S : Addr → Prop} {H : Hp} (h : EnA K (hid S H) e cl Z dx a ch us) : NlAt K H a Z := h.ns.mono hid_le
theorem en_ch {e cl : Addr} {Z : Tm} {dx a ch : Addr} {us : List V} {S : Addr → Prop} {H : Hp} (h : EnA K (hid S H) e cl Z dx a ch us) : H ch = some (.lst us) := (of_hid h.ch).1
/-- own_children[p] -/
theorem en_cp {e cl : Addr} {Z : Tm} {dx a ch : Addr} {us : List V} {S : Addr → Prop} {H : Hp} (h : EnA K (hid S H) e cl Z dx a ch us) {p : Nat} {t : Tm} (ht : At Z p t) : ∃ l, us[p]? = some (.ref l) ∧ H l = some (.lst ((cp p t).map iv)) := by
  obtain ⟨l, h1, h2⟩ := h.chl.2 p t ht
  exact ⟨l, h1, (of_hid h2).1⟩
def sp_Engine_begin (K : PySem.W.Frag) : Sp := fun vs H Q _ => ∃ (X : Addr → Prop) (e ol wl cl : Addr) (Z : Tm) (os : List Od) (ws : List W) (cs : List Nat) (p : Nat), vs = [.ref e, .int p] ∧ MsAt K X H e ol wl cl Z os ws cs ∧ cs.length < 2000 ∧
  ∀ H1, TpS H H1 → Kp (Mu ol wl cl) H H1 → MsAt K X H1 e ol wl cl Z os ws (cs ++ [p]) → Q .non H1
end
end K42

/-! KM3 -/
/-! the engine: begin, see -/
namespace K42
open PySem PySem.Spec L2 He
local macro_rules | `(tactic| walk_at "rd") => `(tactic| repeat (first | ((with_reducible refine' rd_var ?hvar ?_); (case hvar => exact rfl)) | with_reducible refine rd_seq ?_ | with_reducible refine rd_asg ?_ | with_reducible refine rd_ret ?_ | with_reducible refine rd_drop ?_ | with_reducible refine rd_ifs ?_ | with_reducible refine rd_name ?_ | with_reducible refine rd_c ?_ | with_reducible refine rd_cons ?_ | with_reducible refine rd_nil ?_ | with_reducible refine rd_cb ?_ | with_reducible refine rd_op ?_ | with_reducible refine rd_test ?_ | with_reducible refine rd_tb ?_ | with_reducible refine rd_and ?_ | with_reducible refine rd_or ?_ | with_reducible refine rd_not ?_ | with_reducible refine rd_andv ?_ | with_reducible refine rd_orv ?_ | with_reducible refine rd_notv ?_ | with_reducible refine rd_if ?_ | with_reducible refine rd_nx ?_ | with_reducible refine rd_retn ?_ | with_reducible refine rd_par ?_ | with_reducible refine rd_par3 ?_ | with_reducible refine rd_tup ?_ | with_reducible refine rd_lst ?_ | with_reducible refine rd_call ?_ | with_reducible refine rd_meth ?_ | with_reducible refine rd_make ?_ | with_reducible refine rd_fld ?_ | with_reducible refine rd_sfld ?_ | with_reducible refine rd_bm ?_ | with_reducible refine rd_bm0 ?_ | with_reducible refine rd_prop ?_ | with_reducible refine rd_dget ?_ | with_reducible refine rd_dnin ?_ | with_reducible refine rd_chain ?_ | with_reducible refine rd_sub ?_ | with_reducible refine rd_un ?_ | with_reducible refine rd_fl ?_ | with_reducible refine rd_ft ?_ | with_reducible refine rd_fr ?_ | with_reducible refine rd_fd ?_ | with_reducible refine rd_fe ?_ | with_reducible refine rd_ll ?_ | with_reducible refine rd_le ?_ | with_reducible refine rd_yes ?_ | with_reducible refine rd_dg2 ?_ | with_reducible refine rd_calld ?_ | with_reducible refine rd_lt ?_ | with_reducible refine rd_rev ?_ | with_reducible refine rd_sl ?_ | with_reducible refine rd_thru ?_ | with_reducible refine kb_go ?_ | with_reducible refine kpar_go ?_ | with_reducible refine kpar3_go ?_ | with_reducible refine ri0_go ?_ | with_reducible refine ru_go ?_ | ((with_reducible refine ifT ?hift ?_); (case hift => exact rfl)) | ((with_reducible refine ifF ?hiff ?_); (case hiff => exact rfl))))
local macro_rules | `(tactic| walk_at "dt") => `(tactic| first | refine ifT (by decide +kernel) ?_ | ((refine ifT ?hdt ?_); (case hdt => exact decide_eq_true (by omega))))
local macro_rules | `(tactic| walk_at "df") => `(tactic| first | refine ifF (by decide +kernel) ?_ | ((refine ifF ?hdf ?_); (case hdf => exact decide_eq_false (by omega))))

theorem Al.rev {α : Type} {R : V → α → Prop} {vs : List V} {as : List α} (h : Al R vs as) : Al R vs.reverse as.reverse := by
  induction h with
  | nil => exact .nil
  | cons h _ ih => rw [List.reverse_cons, List.reverse_cons]; exact ih.app (.cons h .nil)
def actW : List Str := ["left", "right", "call", "both", "first", "second", "next"]
theorem acts_w {a : Nd} (h : a.acts = true) : a.w ∈ actW := by
  cases a with
  | name i => cases h
  | told i => cases h
  | knd t k => cases t <;> first | (show _ ∈ actW; simp [actW, Nd.w, Nk.w]; done) | exact nomatch h
  | wd t => cases t <;> first | (show _ ∈ actW; simp [actW, Nd.w, Nw.w]; done) | exact nomatch h
theorem acts_ne {x : Str} (h : x ∈ actW) {z : Str} (hz : (actW.all fun x => !decide (x = z)) = true) : decide (x = z) = false := by
  have := List.all_eq_true.mp hz _ h
  simpa using this
theorem acts_in {x : Str} (h : x ∈ actW) {xs : List V} {b : Bool} (hz : (actW.all fun x => inV (.str x) xs == b) = true) : inV (.str x) xs = b := by
  have := List.all_eq_true.mp hz _ h
  exact eq_of_beq this
section
variable {P : Program} {w : World} {K : PySem.W.Frag} {mg : Str → Option Value} {base : Heap}
theorem ok_Engine_begin (T : Tx w K mg) : OkF P w K mg base 2 (ma K (ga K "Engine") "begin") ["self", "position"] (sp_Engine_begin K) := by
  have G_want_at_most := ok_want_at_most (P := P) (base := base) T
  refine okF T.f_Engine_begin rfl sc_Engine_begin b_Engine_begin (fun vs H Q E h => by obtain ⟨_, _, _, _, _, _, _, _, _, _, rfl, _⟩ := h; rfl) (fun cdv A outer s H vs Q E hr h => ?_)
  obtain ⟨X, e, ol, wl, cl, Z, os, ws, cs, p, rfl, m, hc, q⟩ := h
  refine ⟨_, (pss_cons (ps_expr (pe_f G_want_at_most T.g_want_at_most (hr.mono (by decide)) (pa_cons pe_str (pa_cons (pe_fld (pv 0) rfl) (pa_cons (pe_op op_add (pe_callB call_ln (by rfl) T.n_len PySem.boot_len (pa_cons (pe_fld (pv 0) rfl) pa_nil)) pe_int) pa_nil)))))
      (pss_one (ps_expr (pe_bm PySem.F.plainAttrs_list PySem.F.slot_list_append PySem.F.type_list_append mt_append (pe_fld (pv 0) rfl) (pa_cons (pv 1) pa_nil))))), ?_⟩
  obtain ⟨dx, a, ch, us, he⟩ := m.en
  have hce := m.c
  walk_at "rd"
  refine kfld_go (en_go he) T.c_Engine T.na_Engine_own_limit (en_limit _ _ _) ?_
  walk_at "rd"
  refine kfld_go (en_go he) T.c_Engine T.na_Engine_own_calls (en_calls _ _ _) ?_
  walk_at "rd"
  refine lnl_go (sqL_of hce) ?_
  walk_at "rd"
  refine ⟨_, _, _, rfl, by rw [List.length_map]; omega, ?_⟩
  walk_at "rd"
  refine kfld_go (en_go he) T.c_Engine T.na_Engine_own_calls (en_calls _ _ _) ?_
  refine kbm_go hce ?_
  walk_at "rd"
  refine app_go hce (by rw [List.length_map]; omega) ?_
  have e2 : cs.map iv ++ [V.int (p : Int)] = (cs ++ [p]).map iv := by rw [List.map_append]; rfl
  rw [e2]
  exact q _ (TpS.lst hce) (Kp.mut (.inr (.inr rfl))) m.setC
def sp_worth_out (K : PySem.W.Frag) : Sp := fun vs H Q _ => ∃ (v : V) (i : Nat) (Z : Tm) (r : List W) (x : W), vs = [v, .int i] ∧ MwAt K H Z v (.inr r) ∧ r[i]? = some x ∧ i ≤ 300 ∧ ∀ u, MwAt K H Z u (.inl x) → Q u H
theorem ok_worth_out (T : Tx w K mg) : OkF P w K mg base 1 (ga K "worth_out") ["row", "many"] (sp_worth_out K) := by
  refine okF T.f_worth_out rfl sc_worth_out b_worth_out (fun vs H Q E h => by obtain ⟨_, _, _, _, _, rfl, _⟩ := h; rfl) (fun cdv A outer s H vs Q E hr h => ?_)
  obtain ⟨v, i, Z, r, x, rfl, hv, hx, hi, q⟩ := h
  refine ⟨_, (pss_cons (ps_set (i := 2) sc_worth_out.nd rfl (Or.inl rfl) (pv 0))
      (pss_cons (ps_for PassesOwn.never rfl (pi_range1 (by rfl) T.n_range (pa_cons (pv 1) pa_nil)) (pg_name (i := 3) sc_worth_out.nd rfl (Or.inl rfl)) (pss_one (ps_set (i := 2) sc_worth_out.nd rfl (Or.inl rfl) (pe_ix ix_tup (pv 2) pe_int (fun _ _ => rfl)))))
      (pss_one (ps_ret (pe_ix ix_tup (pv 2) pe_int (fun _ _ => rfl)))))), ?_⟩
  walk_at "rd"
  refine fr_go (n := i) (by omega) (fun j σ H' => ∃ (u : V) (y : Option V), σ = [some v, some (.int i), some u, y] ∧ H' = H ∧ MwAt K H Z u (.inr (r.drop j))) ⟨v, none, rfl, rfl, hv⟩ ?_ ?_
  · rintro j σ H' hj ⟨u, y, rfl, rfl, hu⟩
    have hl := (List.getElem?_eq_some_iff.mp hx).1
    rw [List.drop_eq_getElem_cons (by omega)] at hu
    cases hu with
    | cons h1 h2 h3 =>
      walk_at "rd"
      refine ixt_go h1 at1 ?_
      walk_at "rd"
      exact ⟨_, some (.int j), rfl, rfl, h3⟩
  · rintro σ H' ⟨u, y, rfl, rfl, hu⟩
    have hl := (List.getElem?_eq_some_iff.mp hx).1
    rw [List.drop_eq_getElem_cons hl, (List.getElem?_eq_some_iff.mp hx).2] at hu
    cases hu with
    | cons h1 h2 h3 =>
      walk_at "rd"
      exact ixt_go h1 at0 (q _ h2)
def sp_Engine_see (K : PySem.W.Frag) : Sp := fun vs H Q _ => ∃ (X : Addr → Prop) (e ol wl cl : Addr) (Z : Tm) (os os1 : List Od) (ws ws1 : List W) (cs : List Nat) (p : Nat) (rv : V) (r : List W), vs = [.ref e, .int p, rv, .ref ol, .ref wl] ∧ MsAt K X H e ol wl cl Z os ws cs ∧ MwAt K H Z rv (.inr r) ∧
  Z.ok ∧ os.length ≤ 90000 ∧ ws.length ≤ 90000 ∧ Stp Z (.see p r :: os) ws none os1 ws1 ∧ ∀ H1, Kp (Mu ol wl cl) H H1 → MsAt K X H1 e ol wl cl Z os1 ws1 cs → Q .non H1
theorem ok_Engine_see (T : Tx w K mg) : OkF P w K mg base 2 (ma K (ga K "Engine") "see") ["self", "position", "row", "orders", "worths"] (sp_Engine_see K) := by
  have G_worth_out := ok_worth_out (P := P) (base := base) T
  refine okF T.f_Engine_see rfl sc_Engine_see b_Engine_see (fun vs H Q E h => by obtain ⟨_, _, _, _, _, _, _, _, _, _, _, _, _, _, rfl, _⟩ := h; rfl) (fun cdv A outer s H vs Q E hr h => ?_)
  obtain ⟨X, e, ol, wl, cl, Z, os, os1, ws, ws1, cs, p, rv, r, rfl, m, hrv, hZ, ho, hw, hst, q⟩ := h
  refine ⟨_, (pss_cons (ps_par (i := 5) (j := 6) (by rfl) sc_Engine_see.nd rfl rfl (by decide) rfl rfl (pa_cons (pe_ix ix_list (pe_fld (pv 0) rfl) (pv 1) (fun _ _ => rfl)) (pa_cons (pe_ix ix_list (pe_fld (pv 0) rfl) (pv 1) (fun _ _ => rfl)) pa_nil)) (by rfl))
      (pss_cons (ps_set (i := 7) sc_Engine_see.nd rfl (Or.inl rfl) (pe_ix ix_tup (pv 5) pe_int (fun _ _ => rfl)))
      (pss_one (ps_if (pt_cmpR op_eq (pv 7) pe_str (nomark _)) (pss_one (ps_expr (pe_bm PySem.F.plainAttrs_list PySem.F.slot_list_append PySem.F.type_list_append mt_append (pv 4) (pa_cons (pe_f G_worth_out T.g_worth_out (hr.mono (by decide)) (pa_cons (pv 2) (pa_cons (pe_ix ix_tup (pv 5) pe_int (fun _ _ => rfl)) pa_nil))) pa_nil)))) (pss_one (ps_if (pt_cmpR op_eq (pv 7) pe_str (nomark _)) (pss_one (ps_expr (pe_bm PySem.F.plainAttrs_list PySem.F.slot_list_append PySem.F.type_list_append mt_append (pv 4) (pa_cons (pe_ix ix_tup (pv 5) pe_int (fun _ _ => rfl)) pa_nil)))) (pss_one (ps_if (pt_cmpR op_eq (pv 7) pe_str (nomark _)) (pss_one (ps_expr (pe_bm PySem.F.plainAttrs_list PySem.F.slot_list_append PySem.F.type_list_append mt_append (pv 4) (pa_cons (pe_tup (pa_cons pe_str (pa_cons (pv 1) (pa_cons (pv 2) pa_nil)))) pa_nil)))) (pss_one (ps_if (pt_cmpR op_in_seq (pv 7) (pe_tup (pa_cons pe_str (pa_cons pe_str pa_nil))) (by rfl)) (pss_one (ps_expr (pe_bm PySem.F.plainAttrs_list PySem.F.slot_list_extend PySem.F.type_list_extend mt_extend (pv 3) (pa_cons (pe_lst (pa_cons (pe_tup (pa_cons (pv 7) (pa_cons (pv 1) (pa_cons (pv 2) pa_nil)))) (pa_cons (pe_tup (pa_cons pe_str (pa_cons (pe_ix ix_list (pv 6) pe_int (fun _ _ => rfl)) (pa_cons (pv 2) pa_nil)))) pa_nil))) pa_nil)))) (pss_one (ps_if (pt_cmpR op_eq (pv 7) pe_str (nomark _)) (pss_one (ps_expr (pe_bm PySem.F.plainAttrs_list PySem.F.slot_list_extend PySem.F.type_list_extend mt_extend (pv 3) (pa_cons (pe_lst (pa_cons (pe_tup (pa_cons pe_str (pa_cons (pv 1) (pa_cons (pv 2) pa_nil)))) (pa_cons (pe_tup (pa_cons pe_str (pa_cons (pe_ix ix_list (pv 6) pe_int (fun _ _ => rfl)) (pa_cons (pv 2) pa_nil)))) (pa_cons (pe_tup (pa_cons pe_str (pa_cons (pe_ix ix_list (pv 6) pe_int (fun _ _ => rfl)) (pa_cons (pv 2) pa_nil)))) pa_nil)))) pa_nil)))) (pss_cons (ps_expr (pe_bm PySem.F.plainAttrs_list PySem.F.slot_list_append PySem.F.type_list_append mt_append (pv 3) (pa_cons (pe_tup (pa_cons (pv 7) pa_nil)) pa_nil)))
      (pss_one (ps_expr (pe_bm PySem.F.plainAttrs_list PySem.F.slot_list_extend PySem.F.type_list_extend mt_extend (pv 3) (pa_cons (pe_lc (own := [("child", 8)]) (g := gName 8) rfl sc_Engine_see.nd (pi_list (pe_revL (pv 6))) (blkOk_by (own := [("child", 8)]) (N := ["self", "position", "row", "orders", "worths", "node", "children", "word", "child"]) (sc := defScope s_Engine_see) (by decide +kernel)) (fun _ _ _ _ _ => (pg_name (i := 8) sc_Engine_see.nd rfl (Or.inl rfl))) (fun _ _ _ _ _ => pts_nil) (fun _ _ _ _ _ => (pe_tup (pa_cons pe_str (pa_cons (pv 8) (pa_cons (pv 2) pa_nil)))))) pa_nil))))))))))))))))), ?_⟩
  obtain ⟨dx, a, ch, us, he⟩ := m.en
  obtain ⟨ov, hov, hoA⟩ := m.o
  obtain ⟨wv, hwv, hwA⟩ := m.w
  obtain ⟨vs, hns, hnA⟩ := en_ns he
  have ⟨t, ht⟩ : ∃ t, At Z p t := by cases hst <;> exact ⟨_, ‹_›⟩
  obtain ⟨v, hv, hnd⟩ := hnA.get ht.node
  obtain ⟨l, hl, hls⟩ := en_cp he ht
  obtain ⟨b, xs, rfl, hT, _⟩ := id hnd.tup
  have uni : ∀ t', At Z p t' → t' = t := fun t' ⟨r1, h1⟩ => by
    obtain ⟨r2, h2⟩ := ht
    rw [h1] at h2
    exact (List.cons.inj h2).1
  have hfine := Z.okNodes hZ t.node (List.mem_of_getElem? ht.node)
  walk_at "rd"
  refine kfld_go (en_go he) T.c_Engine T.na_Engine_own_nodes (en_nodes _ _ _) ?_
  walk_at "rd"
  refine ixl_go (sqL_of hns) (atI_nat hv) ?_
  walk_at "rd"
  refine kfld_go (en_go he) T.c_Engine T.na_Engine_own_children (en_children _ _ _) ?_
  walk_at "rd"
  refine ixl_go (sqL_of (en_ch he)) (atI_nat hl) ?_
  walk_at "rd"
  refine ixt_go hT at0 ?_
  walk_at "rd"
  generalize hwd : t.node.w = wd
  have pushW : ∀ (x : V) (u : W), MwAt K H Z x (.inl u) → MsAt K X (upd H wl (.lst (wv.reverse ++ [x]))) e ol wl cl Z os (u :: ws) cs := fun x u hx => by
    have h := m.setW (us := x :: wv) (.cons hx hwA)
    rw [List.reverse_cons] at h
    exact h
  have lw : wv.reverse.length < 100000 := by rw [m.lenW hwv]; omega
  by_cases hact : t.node.acts = true
  · have hos : os1 = ((cp p t).map fun i => Od.see i r) ++ (.act t.node :: os) ∧ ws1 = ws := by
      cases hst with
      | name h1 _ => have e1 := uni _ h1; subst e1; cases hact
      | told h1 => have e1 := uni _ h1; subst e1; cases hact
      | fn h1 => have e1 := uni _ h1; subst e1; cases hact
      | slt h1 => have e1 := uni _ h1; subst e1; cases hact
      | swhich h1 => have e1 := uni _ h1; subst e1; cases hact
      | sturns h1 => have e1 := uni _ h1; subst e1; cases hact
      | s1 h1 _ => have e1 := uni _ h1; subst e1; exact ⟨rfl, rfl⟩
      | s2 h1 _ => have e1 := uni _ h1; subst e1; exact ⟨rfl, rfl⟩
    obtain ⟨rfl, rfl⟩ := hos
    have hlen : (cp p t).length ≤ 3 := by
      have h1 := (t.ok_kids (ht.ok hZ)).1
      have h2 := bn_le3 t.node
      unfold cp
      rw [bo_len]
      omega
    have hwa : wd ∈ actW := by rw [← hwd]; exact acts_w hact
    refine reqS_go (acts_ne hwa (by decide +kernel)) ?_
    walk_at "rd"
    refine reqS_go (acts_ne hwa (by decide +kernel)) ?_
    walk_at "rd"
    refine reqS_go (acts_ne hwa (by decide +kernel)) ?_
    walk_at "rd"
    refine ktup_go len_ok fun y0 hy0 => ?_
    have s0 : Same H (upd H y0 (.tup [.str "which", .str "let"])) := same_upd hy0
    refine rin_go (b := false) (sqT_of upd_same) rfl rfl (acts_in hwa (by decide +kernel)) ?_
    have m0 := m.mono s0
    have hrv0 := hrv.mono s0
    have hov0 := s0 _ _ hov
    have hls0 := s0 _ _ hls
    have hoA0 : Al (OdAt K _ Z) ov os := hoA.imp fun _ _ z => z.tp (.same s0)
    generalize upd H y0 (.tup [.str "which", .str "let"]) = H0 at s0 m0 hrv0 hov0 hls0 hoA0 ⊢
    walk_at "rd"
    refine reqS_go (acts_ne hwa (by decide +kernel)) ?_
    walk_at "rd"
    refine kbm_go hov0 ?_
    walk_at "rd"
    refine ktup_go len_ok fun y1 hy1 => ?_
    have s1 : Same H0 (upd H0 y1 (.tup [.str wd])) := same_upd hy1
    have t1 : (upd H0 y1 (.tup [.str wd])) y1 = some (.tup [.str wd]) := upd_same
    have hls1 := s1 _ _ hls0
    generalize upd H0 y1 (.tup [.str wd]) = H1 at s1 t1 hls1 ⊢
    have hov1 := s1 _ _ hov0
    walk_at "rd"
    refine app_go hov1 (by rw [m.lenO hov]; omega) ?_
    walk_at "rd"
    have m2 := (m0.mono s1).setO (us := .ref y1 :: ov) (os1 := .act t.node :: os) (.cons (.act (by rw [hwd]; exact sqT_of t1) hact) (hoA0.imp fun _ _ z => z.tp (.same s1)))
    rw [List.reverse_cons] at m2
    have nol : l ≠ ol := fun z => by
      rw [z] at hls
      obtain ⟨l2, g1, g2⟩ := he.chl.2 p t ht
      rw [hl] at g1
      cases g1
      exact (of_hid g2).2 (.inl (.inl z))
    have hls2 : (upd H1 ol (.lst (ov.reverse ++ [.ref y1]))) l = _ := (upd_ne nol).trans hls1
    have hov2 : (upd H1 ol (.lst (ov.reverse ++ [.ref y1]))) ol = some (.lst (ov.reverse ++ [.ref y1])) := upd_same
    have hrv2 := (hrv0.mono s1).tp (TpS.lst (o := .lst (ov.reverse ++ [.ref y1])) hov1)
    have k2 : Kp (Mu ol wl cl) H (upd H1 ol (.lst (ov.reverse ++ [.ref y1]))) := (Kp.same (s0.trans s1)).trans (Kp.mut (.inl rfl))
    have hoA2 : Al (OdAt K (upd H1 ol (.lst (ov.reverse ++ [.ref y1]))) Z) (.ref y1 :: ov) (.act t.node :: os) := by
      obtain ⟨vs3, g1, g2⟩ := m2.o
      rw [hov2] at g1
      have g3 : (V.ref y1 :: ov).reverse = vs3.reverse := by rw [List.reverse_cons]; exact HO.lst.inj (Option.some.inj g1)
      have g4 := List.reverse_inj.mp g3
      rw [g4]
      exact g2
    generalize upd H1 ol (.lst (ov.reverse ++ [.ref y1])) = H2 at m2 hls2 hov2 hrv2 k2 hoA2 ⊢
    refine kbm_go hov2 ?_
    walk_at "rd"
    refine ⟨l, _, rfl, sqL_of hls2, fun rl hrl => ?_⟩
    have s3 := same_upd (o := .lst ((cp p t).map iv).reverse) hrl
    have hrl2 : (upd H2 rl (.lst ((cp p t).map iv).reverse)) rl = some (.lst ((cp p t).map iv).reverse) := upd_same
    generalize upd H2 rl (.lst ((cp p t).map iv).reverse) = H3 at s3 hrl2 ⊢
    refine ll_go (sqL_of hrl2) (fun D i H4 => Same H3 H4 ∧ ∃ zs, H4 D = some (.lst zs) ∧ zs.length ≤ i ∧ Al (OdAt K H4 Z) zs (((cp p t).reverse.take i).map fun i => Od.see i r)) (fun D hD => ⟨same_upd hD, [], upd_same, Nat.le_refl _, by rw [List.take_zero]; exact .nil⟩) (fun D i H4 hD hi ⟨z, _⟩ => sqL_of (z _ _ hrl2)) ?_ ?_
    · rintro D i x H4 hD hx ⟨s4, zs, hz, hzl, hzA⟩
      refine ⟨rfl, ?_⟩
      rw [← List.map_reverse] at hx
      rw [List.getElem?_map] at hx
      obtain ⟨j, hj, rfl⟩ := Option.map_eq_some_iff.mp hx
      have hi3 : i < 3 := by
        have := (List.getElem?_eq_some_iff.mp hj).1
        rw [List.length_reverse] at this
        omega
      walk_at "rd"
      refine ktup_go len_ok fun y hy => ?_
      have s5 : Same H4 (upd H4 y (.tup [.str "see", iv j, rv])) := same_upd hy
      refine ⟨zs, s5 _ _ hz, line_gt (by omega), same_mut (s4.trans s5) hD, zs ++ [.ref y], upd_same, by rw [List.length_append]; exact Nat.succ_le_succ hzl, ?_⟩
      have t6 := TpS.lst (o := .lst (zs ++ [.ref y])) (s5 _ _ hz)
      rw [List.take_succ, hj, List.map_append]
      refine (hzA.imp fun _ _ z => (z.tp (.same s5)).tp t6).app (.cons ?_ .nil)
      exact .see (t6.sqt (sqT_of upd_same)) (((hrv2.mono (s3.trans s4)).mono s5).tp t6)
    · rintro D H4 hD ⟨s4, zs, hz, hzl, hzA⟩
      rw [List.length_reverse, List.length_map] at hzl hzA
      have s34 := s3.trans s4
      refine ext_go (s34 _ _ hov2) hz ?_ ?_
      · rw [m2.lenO hov2, List.length_cons]
        omega
      walk_at "rd"
      have h := (m2.mono s34).setO (us := zs.reverse ++ (.ref y1 :: ov)) (os1 := ((cp p t).map fun i => Od.see i r) ++ (.act t.node :: os)) ?_
      · rw [List.reverse_append, List.reverse_cons, List.reverse_reverse] at h
        exact q _ (k2.trans ((Kp.same s34).trans (Kp.mut (.inl rfl)))) h
      · have h1 := hzA.rev
        rw [List.take_of_length_le (by rw [List.length_reverse]; exact Nat.le_refl _), ← List.map_reverse, List.reverse_reverse] at h1
        exact h1.app (hoA2.imp fun _ _ z => z.tp (.same s34))
  cases hst with
  | @name _ i _ x _ _ h1 h2 =>
    have e1 := uni _ h1
    subst e1
    have hwd2 : ("name" : Str) = wd := hwd
    subst hwd2
    cases hnd with
    | name hS =>
      refine reqS_go (b := true) (by decide +kernel) ?_
      walk_at "rd"
      refine kbm_go hwv ?_
      walk_at "rd"
      refine ixt_go hS at1 ?_
      walk_at "rd"
      refine ⟨rv, i, Z, r, x, rfl, hrv, h2, by have h3 : i ≤ 299 := hfine; omega, fun u hu => ?_⟩
      refine app_go hwv lw ?_
      walk_at "rd"
      exact q _ (Kp.mut (.inr (.inl rfl))) (pushW _ _ hu)
  | @told _ k _ _ _ h1 =>
    have e1 := uni _ h1
    subst e1
    have hwd2 : ("told" : Str) = wd := hwd
    subst hwd2
    cases hnd with
    | told hS =>
      refine reqS_go (b := false) (by decide +kernel) ?_
      walk_at "rd"
      refine reqS_go (b := true) (by decide +kernel) ?_
      walk_at "rd"
      refine kbm_go hwv ?_
      walk_at "rd"
      refine ixt_go hS at1 ?_
      walk_at "rd"
      refine app_go hwv lw ?_
      walk_at "rd"
      exact q _ (Kp.mut (.inr (.inl rfl))) (pushW _ _ .int)
  | @fn _ k b2 _ _ _ h1 =>
    have e1 := uni _ h1
    subst e1
    have hwd2 : ("fun" : Str) = wd := hwd
    subst hwd2
    refine reqS_go (b := false) (by decide +kernel) ?_
    walk_at "rd"
    refine reqS_go (b := false) (by decide +kernel) ?_
    walk_at "rd"
    refine reqS_go (b := true) (by decide +kernel) ?_
    walk_at "rd"
    refine kbm_go hwv ?_
    walk_at "rd"
    refine ktup_go len_ok fun y hy => ?_
    have s1 : Same H (upd H y (.tup [.str "made", .int p, rv])) := same_upd hy
    have hwv1 := s1 _ _ hwv
    refine app_go hwv1 lw ?_
    walk_at "rd"
    have h := (m.mono s1).setW (us := .ref y :: wv) (.cons (.made (sqT_of upd_same) h1 (hrv.mono s1)) (hwA.imp fun _ _ z => z.mono s1))
    rw [List.reverse_cons] at h
    exact q _ ((Kp.same s1).trans (Kp.mut (.inr (.inl rfl)))) h
  | @slt _ x y _ _ _ h1 =>
    have e1 := uni _ h1
    subst e1
    have hwd2 : ("let" : Str) = wd := hwd
    subst hwd2
    refine reqS_go (b := false) (by decide +kernel) ?_
    walk_at "rd"
    refine reqS_go (b := false) (by decide +kernel) ?_
    walk_at "rd"
    refine reqS_go (b := false) (by decide +kernel) ?_
    walk_at "rd"
    refine ktup_go len_ok fun y0 hy0 => ?_
    have s0 : Same H (upd H y0 (.tup [.str "which", .str "let"])) := same_upd hy0
    refine rin_go (b := true) (sqT_of upd_same) rfl rfl (by decide +kernel) ?_
    have m0 := m.mono s0
    have hrv0 := hrv.mono s0
    have hov0 := s0 _ _ hov
    have hls0 := s0 _ _ hls
    have hoA0 : Al (OdAt K _ Z) ov os := hoA.imp fun _ _ z => z.tp (.same s0)
    generalize upd H y0 (.tup [.str "which", .str "let"]) = H0 at s0 m0 hrv0 hov0 hls0 hoA0 ⊢
    walk_at "rd"
    refine kbm_go hov0 ?_
    walk_at "rd"
    refine ktup_go len_ok fun y1 hy1 => ?_
    have s1 : Same H0 (upd H0 y1 (.tup [.str "let", .int p, rv])) := same_upd hy1
    have t1 : (upd H0 y1 (.tup [.str "let", .int p, rv])) y1 = some (.tup [.str "let", .int p, rv]) := upd_same
    have hls1 := s1 _ _ hls0
    generalize upd H0 y1 (.tup [.str "let", .int p, rv]) = H1 at s1 t1 hls1 ⊢
    walk_at "rd"
    refine ixl_go (sqL_of hls1) at0 ?_
    walk_at "rd"
    refine ktup_go len_ok fun y2 hy2 => ?_
    have s2 : Same H1 (upd H1 y2 (.tup [.str "see", iv (p + 1), rv])) := same_upd hy2
    have t2 : (upd H1 y2 (.tup [.str "see", iv (p + 1), rv])) y2 = some (.tup [.str "see", iv (p + 1), rv]) := upd_same
    generalize upd H1 y2 (.tup [.str "see", iv (p + 1), rv]) = H2 at s2 t2 ⊢
    walk_at "rd"
    refine klst_go len_ok fun y3 hy3 => ?_
    have s3 : Same H2 (upd H2 y3 (.lst [.ref y1, .ref y2])) := same_upd hy3
    have s13 := s1.trans (s2.trans s3)
    refine ext_go (s13 _ _ hov0) upd_same ?_ ?_
    · rw [m.lenO hov]
      exact (by omega : os.length + 2 ≤ 100000)
    walk_at "rd"
    have h := (m0.mono s13).setO (us := .ref y2 :: .ref y1 :: ov) (os1 := .see (p + 1) r :: .opn false p r :: os)
      (.cons (.see (Same.sqt s3 (sqT_of t2)) (hrv0.mono s13)) (.cons (.opn (b := false) (Same.sqt (s2.trans s3) (sqT_of t1)) (hrv0.mono s13)) (hoA0.imp fun _ _ z => z.tp (.same s13))))
    rw [List.reverse_cons, List.reverse_cons, List.append_assoc] at h
    exact q _ ((Kp.same (s0.trans s13)).trans (Kp.mut (.inl rfl))) h
  | @swhich _ x y z _ _ _ h1 =>
    have e1 := uni _ h1
    subst e1
    have hwd2 : ("which" : Str) = wd := hwd
    subst hwd2
    refine reqS_go (b := false) (by decide +kernel) ?_
    walk_at "rd"
    refine reqS_go (b := false) (by decide +kernel) ?_
    walk_at "rd"
    refine reqS_go (b := false) (by decide +kernel) ?_
    walk_at "rd"
    refine ktup_go len_ok fun y0 hy0 => ?_
    have s0 : Same H (upd H y0 (.tup [.str "which", .str "let"])) := same_upd hy0
    refine rin_go (b := true) (sqT_of upd_same) rfl rfl (by decide +kernel) ?_
    have m0 := m.mono s0
    have hrv0 := hrv.mono s0
    have hov0 := s0 _ _ hov
    have hls0 := s0 _ _ hls
    have hoA0 : Al (OdAt K _ Z) ov os := hoA.imp fun _ _ z => z.tp (.same s0)
    generalize upd H y0 (.tup [.str "which", .str "let"]) = H0 at s0 m0 hrv0 hov0 hls0 hoA0 ⊢
    walk_at "rd"
    refine kbm_go hov0 ?_
    walk_at "rd"
    refine ktup_go len_ok fun y1 hy1 => ?_
    have s1 : Same H0 (upd H0 y1 (.tup [.str "which", .int p, rv])) := same_upd hy1
    have t1 : (upd H0 y1 (.tup [.str "which", .int p, rv])) y1 = some (.tup [.str "which", .int p, rv]) := upd_same
    have hls1 := s1 _ _ hls0
    generalize upd H0 y1 (.tup [.str "which", .int p, rv]) = H1 at s1 t1 hls1 ⊢
    walk_at "rd"
    refine ixl_go (sqL_of hls1) at0 ?_
    walk_at "rd"
    refine ktup_go len_ok fun y2 hy2 => ?_
    have s2 : Same H1 (upd H1 y2 (.tup [.str "see", iv (p + 1), rv])) := same_upd hy2
    have t2 : (upd H1 y2 (.tup [.str "see", iv (p + 1), rv])) y2 = some (.tup [.str "see", iv (p + 1), rv]) := upd_same
    generalize upd H1 y2 (.tup [.str "see", iv (p + 1), rv]) = H2 at s2 t2 ⊢
    walk_at "rd"
    refine klst_go len_ok fun y3 hy3 => ?_
    have s3 : Same H2 (upd H2 y3 (.lst [.ref y1, .ref y2])) := same_upd hy3
    have s13 := s1.trans (s2.trans s3)
    refine ext_go (s13 _ _ hov0) upd_same ?_ ?_
    · rw [m.lenO hov]
      exact (by omega : os.length + 2 ≤ 100000)
    walk_at "rd"
    have h := (m0.mono s13).setO (us := .ref y2 :: .ref y1 :: ov) (os1 := .see (p + 1) r :: .opn true p r :: os)
      (.cons (.see (Same.sqt s3 (sqT_of t2)) (hrv0.mono s13)) (.cons (.opn (b := true) (Same.sqt (s2.trans s3) (sqT_of t1)) (hrv0.mono s13)) (hoA0.imp fun _ _ z => z.tp (.same s13))))
    rw [List.reverse_cons, List.reverse_cons, List.append_assoc] at h
    exact q _ ((Kp.same (s0.trans s13)).trans (Kp.mut (.inl rfl))) h
  | @sturns _ k x y z _ _ _ h1 =>
    have e1 := uni _ h1
    subst e1
    have hwd2 : ("turns" : Str) = wd := hwd
    subst hwd2
    refine reqS_go (b := false) (by decide +kernel) ?_
    walk_at "rd"
    refine reqS_go (b := false) (by decide +kernel) ?_
    walk_at "rd"
    refine reqS_go (b := false) (by decide +kernel) ?_
    walk_at "rd"
    refine ktup_go len_ok fun y0 hy0 => ?_
    have s0 : Same H (upd H y0 (.tup [.str "which", .str "let"])) := same_upd hy0
    refine rin_go (b := false) (sqT_of upd_same) rfl rfl (by decide +kernel) ?_
    have m0 := m.mono s0
    have hrv0 := hrv.mono s0
    have hov0 := s0 _ _ hov
    have hls0 := s0 _ _ hls
    have hoA0 : Al (OdAt K _ Z) ov os := hoA.imp fun _ _ z => z.tp (.same s0)
    generalize upd H y0 (.tup [.str "which", .str "let"]) = H0 at s0 m0 hrv0 hov0 hls0 hoA0 ⊢
    walk_at "rd"
    refine reqS_go (b := true) (by decide +kernel) ?_
    walk_at "rd"
    refine kbm_go hov0 ?_
    walk_at "rd"
    refine ktup_go len_ok fun y1 hy1 => ?_
    have s1 : Same H0 (upd H0 y1 (.tup [.str "turns", .int p, rv])) := same_upd hy1
    have t1 : (upd H0 y1 (.tup [.str "turns", .int p, rv])) y1 = some (.tup [.str "turns", .int p, rv]) := upd_same
    have hls1 := s1 _ _ hls0
    generalize upd H0 y1 (.tup [.str "turns", .int p, rv]) = H1 at s1 t1 hls1 ⊢
    walk_at "rd"
    refine ixl_go (sqL_of hls1) at2 ?_
    walk_at "rd"
    refine ktup_go len_ok fun y2 hy2 => ?_
    have s2 : Same H1 (upd H1 y2 (.tup [.str "see", iv (p + 1 + x.size + y.size), rv])) := same_upd hy2
    have t2 : (upd H1 y2 (.tup [.str "see", iv (p + 1 + x.size + y.size), rv])) y2 = some (.tup [.str "see", iv (p + 1 + x.size + y.size), rv]) := upd_same
    have hls2 := s2 _ _ hls1
    generalize upd H1 y2 (.tup [.str "see", iv (p + 1 + x.size + y.size), rv]) = H2 at s2 t2 hls2 ⊢
    walk_at "rd"
    refine ixl_go (sqL_of hls2) at0 ?_
    walk_at "rd"
    refine ktup_go len_ok fun y3 hy3 => ?_
    have s3 : Same H2 (upd H2 y3 (.tup [.str "see", iv (p + 1), rv])) := same_upd hy3
    have t3 : (upd H2 y3 (.tup [.str "see", iv (p + 1), rv])) y3 = some (.tup [.str "see", iv (p + 1), rv]) := upd_same
    generalize upd H2 y3 (.tup [.str "see", iv (p + 1), rv]) = H3 at s3 t3 ⊢
    walk_at "rd"
    refine klst_go len_ok fun y4 hy4 => ?_
    have s4 : Same H3 (upd H3 y4 (.lst [.ref y1, .ref y2, .ref y3])) := same_upd hy4
    have s14 := s1.trans (s2.trans (s3.trans s4))
    refine ext_go (s14 _ _ hov0) upd_same ?_ ?_
    · rw [m.lenO hov]
      exact (by omega : os.length + 3 ≤ 100000)
    walk_at "rd"
    have h := (m0.mono s14).setO (us := .ref y3 :: .ref y2 :: .ref y1 :: ov) (os1 := .see (p + 1) r :: .see (p + 1 + x.size + y.size) r :: .trn p r :: os)
      (.cons (.see (Same.sqt s4 (sqT_of t3)) (hrv0.mono s14)) (.cons (.see (Same.sqt (s3.trans s4) (sqT_of t2)) (hrv0.mono s14)) (.cons (.trn (Same.sqt (s2.trans (s3.trans s4)) (sqT_of t1)) (hrv0.mono s14)) (hoA0.imp fun _ _ z => z.tp (.same s14)))))
    rw [List.reverse_cons, List.reverse_cons, List.reverse_cons, List.append_assoc, List.append_assoc] at h
    exact q _ ((Kp.same (s0.trans s14)).trans (Kp.mut (.inl rfl))) h
  | s1 h1 ha =>
    have e1 := uni _ h1
    subst e1
    exact absurd ha hact
  | s2 h1 ha =>
    have e1 := uni _ h1
    subst e1
    exact absurd ha hact
end
end K42

/-! KM4 -/
/-! the engine: called, turned, opened, parted, done -/
namespace K42
open PySem PySem.Spec L2 He
local macro_rules | `(tactic| walk_at "rd") => `(tactic| repeat (first | ((with_reducible refine' rd_var ?hvar ?_); (case hvar => exact rfl)) | with_reducible refine rd_seq ?_ | with_reducible refine rd_asg ?_ | with_reducible refine rd_ret ?_ | with_reducible refine rd_drop ?_ | with_reducible refine rd_ifs ?_ | with_reducible refine rd_name ?_ | with_reducible refine rd_c ?_ | with_reducible refine rd_cons ?_ | with_reducible refine rd_nil ?_ | with_reducible refine rd_cb ?_ | with_reducible refine rd_op ?_ | with_reducible refine rd_test ?_ | with_reducible refine rd_tb ?_ | with_reducible refine rd_and ?_ | with_reducible refine rd_or ?_ | with_reducible refine rd_not ?_ | with_reducible refine rd_andv ?_ | with_reducible refine rd_orv ?_ | with_reducible refine rd_notv ?_ | with_reducible refine rd_if ?_ | with_reducible refine rd_nx ?_ | with_reducible refine rd_retn ?_ | with_reducible refine rd_par ?_ | with_reducible refine rd_par3 ?_ | with_reducible refine rd_tup ?_ | with_reducible refine rd_lst ?_ | with_reducible refine rd_call ?_ | with_reducible refine rd_meth ?_ | with_reducible refine rd_make ?_ | with_reducible refine rd_fld ?_ | with_reducible refine rd_sfld ?_ | with_reducible refine rd_bm ?_ | with_reducible refine rd_bm0 ?_ | with_reducible refine rd_prop ?_ | with_reducible refine rd_dget ?_ | with_reducible refine rd_dnin ?_ | with_reducible refine rd_chain ?_ | with_reducible refine rd_sub ?_ | with_reducible refine rd_un ?_ | with_reducible refine rd_fl ?_ | with_reducible refine rd_ft ?_ | with_reducible refine rd_fr ?_ | with_reducible refine rd_fd ?_ | with_reducible refine rd_fe ?_ | with_reducible refine rd_ll ?_ | with_reducible refine rd_le ?_ | with_reducible refine rd_yes ?_ | with_reducible refine rd_dg2 ?_ | with_reducible refine rd_calld ?_ | with_reducible refine rd_lt ?_ | with_reducible refine rd_rev ?_ | with_reducible refine rd_sl ?_ | with_reducible refine rd_thru ?_ | with_reducible refine kb_go ?_ | with_reducible refine kpar_go ?_ | with_reducible refine kpar3_go ?_ | with_reducible refine ri0_go ?_ | with_reducible refine ru_go ?_ | ((with_reducible refine ifT ?hift ?_); (case hift => exact rfl)) | ((with_reducible refine ifF ?hiff ?_); (case hiff => exact rfl))))
local macro_rules | `(tactic| walk_at "dt") => `(tactic| first | refine ifT (by decide +kernel) ?_ | ((refine ifT ?hdt ?_); (case hdt => exact decide_eq_true (by omega))))
local macro_rules | `(tactic| walk_at "df") => `(tactic| first | refine ifF (by decide +kernel) ?_ | ((refine ifF ?hdf ?_); (case hdf => exact decide_eq_false (by omega))))

section
variable {K : PySem.W.Frag} {X : Addr → Prop} {H H1 : Hp} {e ol wl cl : Addr} {Z : Tm} {os : List Od} {ws : List W} {cs : List Nat}
theorem MsAt.topW {x : W} (m : MsAt K X H e ol wl cl Z os (x :: ws) cs) : ∃ v vs, H wl = some (.lst (vs ++ [v])) ∧ MwAt K H Z v (.inl x) ∧ MsAt K X (upd H wl (.lst vs)) e ol wl cl Z os ws cs := by
  obtain ⟨vs, h1, h2⟩ := m.w
  cases h2 with
  | @cons v _ vs _ h3 h4 =>
    rw [List.reverse_cons] at h1
    exact ⟨v, vs.reverse, h1, h3, m.setW h4⟩
theorem MsAt.pushW {xs : List V} {v : V} {x : W} (m : MsAt K X H e ol wl cl Z os ws cs) (h : H wl = some (.lst xs)) (hv : MwAt K H Z v (.inl x)) : MsAt K X (upd H wl (.lst (xs ++ [v]))) e ol wl cl Z os (x :: ws) cs := by
  obtain ⟨vs, h1, h2⟩ := m.w
  rw [h] at h1
  cases h1
  have := m.setW (us := v :: vs) (.cons hv h2)
  rw [List.reverse_cons] at this
  exact this
theorem MsAt.topO {x : Od} (m : MsAt K X H e ol wl cl Z (x :: os) ws cs) : ∃ v vs, H ol = some (.lst (vs ++ [v])) ∧ OdAt K H Z v x ∧ MsAt K X (upd H ol (.lst vs)) e ol wl cl Z os ws cs := by
  obtain ⟨vs, h1, h2⟩ := m.o
  cases h2 with
  | @cons v _ vs _ h3 h4 =>
    rw [List.reverse_cons] at h1
    exact ⟨v, vs.reverse, h1, h3, m.setO h4⟩
theorem MsAt.pushO {xs : List V} {v : V} {x : Od} (m : MsAt K X H e ol wl cl Z os ws cs) (h : H ol = some (.lst xs)) (hv : OdAt K H Z v x) : MsAt K X (upd H ol (.lst (xs ++ [v]))) e ol wl cl Z (x :: os) ws cs := by
  obtain ⟨vs, h1, h2⟩ := m.o
  rw [h] at h1
  cases h1
  have := m.setO (us := v :: vs) (.cons hv h2)
  rw [List.reverse_cons] at this
  exact this
theorem MsAt.tO (m : MsAt K X H e ol wl cl Z os ws cs) {o : HO} : TpS H (upd H ol o) := by
  obtain ⟨vs, h, _⟩ := m.o
  exact TpS.lst h
theorem MsAt.tW (m : MsAt K X H e ol wl cl Z os ws cs) {o : HO} : TpS H (upd H wl o) := by
  obtain ⟨vs, h, _⟩ := m.w
  exact TpS.lst h
theorem MsAt.tC (m : MsAt K X H e ol wl cl Z os ws cs) {o : HO} : TpS H (upd H cl o) := TpS.lst m.c
theorem MsAt.hol (m : MsAt K X H e ol wl cl Z os ws cs) : ∃ xs, H ol = some (.lst xs) ∧ xs.length = os.length := by
  obtain ⟨vs, h, _⟩ := m.o
  exact ⟨_, h, m.lenO h⟩
theorem MsAt.hwl (m : MsAt K X H e ol wl cl Z os ws cs) : ∃ xs, H wl = some (.lst xs) ∧ xs.length = ws.length := by
  obtain ⟨vs, h, _⟩ := m.w
  exact ⟨_, h, m.lenW h⟩
theorem kO {o : HO} : Kp (Mu ol wl cl) H (upd H ol o) := Kp.mut (.inl rfl)
theorem kW {o : HO} : Kp (Mu ol wl cl) H (upd H wl o) := Kp.mut (.inr (.inl rfl))
theorem kC {o : HO} : Kp (Mu ol wl cl) H (upd H cl o) := Kp.mut (.inr (.inr rfl))
/-- the place of a child -/
theorem MsAt.kid (m : MsAt K X H e ol wl cl Z os ws cs) {p : Nat} {t : Tm} (ht : At Z p t) : ∃ dx a ch us l, H e = some (.ins (ga K "Engine") dx (enF a ch cl)) ∧ H ch = some (.lst us) ∧ us[p]? = some (.ref l) ∧ H l = some (.lst ((cp p t).map iv)) := by
  obtain ⟨dx, a, ch, us, he⟩ := m.en
  obtain ⟨l, h1, h2⟩ := en_cp he ht
  exact ⟨dx, a, ch, us, l, en_go he, en_ch he, h1, h2⟩
theorem ktn_go {xs : List V} {Q : VK} (h : xs.length ≤ 100000) (q : ∀ p H1, H p = none → Same H H1 → H1 p = some (.tup xs) → Q (.ref p) H1) : KTup Q xs H := ktup_go h fun p hp => q p _ hp (same_upd hp) upd_same
theorem kln_go {xs : List V} {Q : VK} (h : xs.length ≤ 100000) (q : ∀ p H1, H p = none → Same H H1 → H1 p = some (.lst xs) → Q (.ref p) H1) : KLst Q xs H := klst_go h fun p hp => q p _ hp (same_upd hp) upd_same
/-- a worth off the top, on the top; an order -/
theorem ppW {x : W} {σ : L2.St} {Q : VK} (m : MsAt K X H e ol wl cl Z os (x :: ws) cs) (q : ∀ v H1, TpS H H1 → Kp (Mu ol wl cl) H H1 → MwAt K H1 Z v (.inl x) → MsAt K X H1 e ol wl cl Z os ws cs → Q v H1) : KBm K "list" rPop tNil σ Q (.ref wl) H := by
  obtain ⟨v, vs, h, hv, m1⟩ := m.topW
  exact kbm_go h (pop_go h (q v _ m.tW kW (hv.tp m.tW) m1))
theorem kbW {ta : TA} {r : V → List V → Hp → VK → Prop} {σ : L2.St} {Q : VK} (m : MsAt K X H e ol wl cl Z os ws cs) (q : ta σ H fun zs H2 => r (.ref wl) zs H2 Q) : KBm K "list" r ta σ Q (.ref wl) H := by
  obtain ⟨xs, h, _⟩ := m.hwl
  exact kbm_go h q
theorem kbO {ta : TA} {r : V → List V → Hp → VK → Prop} {σ : L2.St} {Q : VK} (m : MsAt K X H e ol wl cl Z os ws cs) (q : ta σ H fun zs H2 => r (.ref ol) zs H2 Q) : KBm K "list" r ta σ Q (.ref ol) H := by
  obtain ⟨xs, h, _⟩ := m.hol
  exact kbm_go h q
theorem psW {x : W} {v : V} {Q : VK} (m : MsAt K X H e ol wl cl Z os ws cs) (hv : MwAt K H Z v (.inl x)) (hl : ws.length < 100000) (q : ∀ H1, TpS H H1 → Kp (Mu ol wl cl) H H1 → MsAt K X H1 e ol wl cl Z os (x :: ws) cs → Q .non H1) : rAppend (.ref wl) [v] H Q := by
  obtain ⟨xs, h, h2⟩ := m.hwl
  exact app_go h (by omega) (q _ m.tW kW (m.pushW h hv))
theorem psO {x : Od} {v : V} {Q : VK} (m : MsAt K X H e ol wl cl Z os ws cs) (hv : OdAt K H Z v x) (hl : os.length < 100000) (q : ∀ H1, TpS H H1 → Kp (Mu ol wl cl) H H1 → MsAt K X H1 e ol wl cl Z (x :: os) ws cs → Q .non H1) : rAppend (.ref ol) [v] H Q := by
  obtain ⟨xs, h, h2⟩ := m.hol
  exact app_go h (by omega) (q _ m.tO kO (m.pushO h hv))
theorem en_none (m : MsAt K X H e ol wl cl Z os ws cs) : True := True.intro
/-- a method of the engine -/
theorem kme {Q : VK} {ta : TA} {σ : L2.St} {nm : Str} {sp : Sp} {E : XK} (m : MsAt K X H e ol wl cl Z os ws cs) (h1 : decide (nm = "own_calls") = false) (h2 : decide (nm = "own_limit") = false) (h3 : decide (nm = "own_children") = false) (h4 : decide (nm = "own_nodes") = false)
    (q : ta σ H fun vs H2 => sp (.ref e :: vs) H2 Q E) : KMet (ga K "Engine") nm sp E ta σ Q (.ref e) H := by
  obtain ⟨dx, a, ch, us, he⟩ := m.en
  exact kmet_go (en_go he) (en_m _ _ _ _ h1 h2 h3 h4) q
/-- self.own_children[p] -/
theorem kch {Q : VK} {w : World} {mg : Str → Option Value} (T : Tx w K mg) {p : Nat} {t : Tm} (m : MsAt K X H e ol wl cl Z os ws cs) (ht : At Z p t) (q : ∀ ch us l, H ch = some (.lst us) → atI us (p : Int) = some (.ref l) → H l = some (.lst ((cp p t).map iv)) → Q (.ref ch) H) : KFld K "own_children" Q (.ref e) H := by
  obtain ⟨dx, a, ch, us, l, he, hch, hl, hls⟩ := m.kid ht
  exact kfld_go he T.c_Engine T.na_Engine_own_children (en_children _ _ _) (q ch us l hch (atI_nat hl) hls)
end
section
variable {P : Program} {w : World} {K : PySem.W.Frag} {mg : Str → Option Value} {base : Heap}
def sp_Engine_called (K : PySem.W.Frag) : Sp := fun vs H Q _ => ∃ (X : Addr → Prop) (e ol wl cl : Addr) (Z : Tm) (os : List Od) (ws r : List W) (cs : List Nat) (x : W) (q : Nat) (k : Kd) (b : Tm), vs = [.ref e, .ref ol, .ref wl] ∧ MsAt K X H e ol wl cl Z os (x :: .made q k b r :: ws) cs ∧ os.length ≤ 90000 ∧ cs.length < 2000 ∧
  ∀ H1, Kp (Mu ol wl cl) H H1 → MsAt K X H1 e ol wl cl Z (.see (q + 1) (x :: r) :: os) ws (cs ++ [q]) → Q .non H1
theorem ok_Engine_called (T : Tx w K mg) : OkF P w K mg base 3 (ma K (ga K "Engine") "called") ["self", "orders", "worths"] (sp_Engine_called K) := by
  have G_Engine_begin := ok_Engine_begin (P := P) (base := base) T
  refine okF T.f_Engine_called rfl sc_Engine_called b_Engine_called (fun vs H Q E h => by obtain ⟨_, _, _, _, _, _, _, _, _, _, _, _, _, _, rfl, _⟩ := h; rfl) (fun cdv A outer s H vs Q E hr h => ?_)
  obtain ⟨X, e, ol, wl, cl, Z, os, ws, r, cs, x, q0, k, b, rfl, m, ho, hc, q⟩ := h
  refine ⟨_, (pss_cons (ps_par (i := 3) (j := 4) (by rfl) sc_Engine_called.nd rfl rfl (by decide) rfl rfl (pa_cons (pe_bm0 PySem.F.plainAttrs_list PySem.F.slot_list_pop PySem.F.type_list_pop mt_pop (pv 2)) (pa_cons (pe_bm0 PySem.F.plainAttrs_list PySem.F.slot_list_pop PySem.F.type_list_pop mt_pop (pv 2)) pa_nil)) (by rfl))
      (pss_one (ps_if (pt_cmpR op_eq (pe_ix ix_tup (pv 4) pe_int (fun _ _ => rfl)) pe_str (nomark _)) (pss_cons ps_never
      (pss_one ps_never)) (pss_cons (ps_expr (pe_o (pv 0) T.c_Engine T.m_Engine_begin G_Engine_begin (hr.mono (by decide)) (pa_cons (pe_ix ix_tup (pv 4) pe_int (fun _ _ => rfl)) pa_nil)))
      (pss_one (ps_expr (pe_bm PySem.F.plainAttrs_list PySem.F.slot_list_append PySem.F.type_list_append mt_append (pv 1) (pa_cons (pe_tup (pa_cons pe_str (pa_cons (pe_ix ix_list (pe_ix ix_list (pe_fld (pv 0) rfl) (pe_ix ix_tup (pv 4) pe_int (fun _ _ => rfl)) (fun _ _ => rfl)) pe_int (fun _ _ => rfl)) (pa_cons (pe_tup (pa_cons (pv 3) (pa_cons (pe_ix ix_tup (pv 4) pe_int (fun _ _ => rfl)) pa_nil))) pa_nil)))) pa_nil)))))))), ?_⟩
  walk_at "rd"
  refine ppW m fun v1 H1 t1 k1 hv1 m1 => ?_
  walk_at "rd"
  refine ppW m1 fun v2 H2 t2 k2 hv2 m2 => ?_
  have hv1 := hv1.tp t2
  have k2 := k1.trans k2
  cases hv2 with
  | made hS hat hrow =>
    walk_at "rd"
    refine ixt_go hS at0 ?_
    walk_at "rd"
    refine reqS_go (b := false) (by decide +kernel) ?_
    walk_at "rd"
    refine kme m2 (by decide +kernel) (by decide +kernel) (by decide +kernel) (by decide +kernel) ?_
    walk_at "rd"
    refine ixt_go hS at1 ?_
    walk_at "rd"
    refine ⟨X, e, ol, wl, cl, Z, os, ws, cs, q0, rfl, m2, hc, fun H3 t3 k3 m3 => ?_⟩
    have k3 := k2.trans k3
    have hv1 := hv1.tp t3
    have hS := t3.sqt hS
    have hrow := hrow.tp t3
    walk_at "rd"
    refine kbO m3 ?_
    walk_at "rd"
    refine kch T m3 hat fun ch us l hch hl hls => ?_
    walk_at "rd"
    refine ixt_go hS at1 ?_
    refine ixl_go (sqL_of hch) hl ?_
    walk_at "rd"
    refine ixl_go (sqL_of hls) at0 ?_
    walk_at "rd"
    refine ixt_go hS at2 ?_
    walk_at "rd"
    refine ktn_go len_ok fun y1 H4 _ s1 hy1 => ?_
    have hn : MwAt K H4 Z (.ref y1) (.inr (x :: r)) := .cons (sqT_of hy1) (hv1.mono s1) (hrow.mono s1)
    walk_at "rd"
    refine ktn_go len_ok fun y2 H5 _ s2 hy2 => ?_
    have hon : OdAt K H5 Z (.ref y2) (.see (q0 + 1) (x :: r)) := .see (sqT_of hy2) (hn.mono s2)
    walk_at "rd"
    refine psO (m3.mono (s1.trans s2)) hon (by omega) fun H6 t6 k6 m6 => ?_
    walk_at "rd"
    exact q _ (k3.trans ((Kp.same (s1.trans s2)).trans k6)) m6
def sp_Engine_turned (K : PySem.W.Frag) : Sp := fun vs H Q _ => ∃ (X : Addr → Prop) (e ol wl cl : Addr) (Z : Tm) (os : List Od) (ws r : List W) (cs : List Nat) (x : W) (p k : Nat) (rv : V), vs = [.ref e, .int p, rv, .int k, .ref ol, .ref wl] ∧ MsAt K X H e ol wl cl Z os (x :: ws) cs ∧ MwAt K H Z rv (.inr r) ∧ os.length ≤ 90000 ∧
  ((k = 0 ∧ Q .non H) ∨ ∃ j n t u v, k = j + 1 ∧ At Z p (.n3 n t u v) ∧ cs.length < 2000 ∧ ∀ H1, Kp (Mu ol wl cl) H H1 → MsAt K X H1 e ol wl cl Z (.see (p + 1 + t.size) (x :: r) :: .agn p r j :: os) ws (cs ++ [p]) → Q .non H1)
theorem ok_Engine_turned (T : Tx w K mg) : OkF P w K mg base 3 (ma K (ga K "Engine") "turned") ["self", "position", "row", "left", "orders", "worths"] (sp_Engine_turned K) := by
  have G_Engine_begin := ok_Engine_begin (P := P) (base := base) T
  refine okF T.f_Engine_turned rfl sc_Engine_turned b_Engine_turned (fun vs H Q E h => by obtain ⟨_, _, _, _, _, _, _, _, _, _, _, _, _, _, rfl, _⟩ := h; rfl) (fun cdv A outer s H vs Q E hr h => ?_)
  obtain ⟨X, e, ol, wl, cl, Z, os, ws, r, cs, x, p, k, rv, rfl, m, hrv, ho, q⟩ := h
  refine ⟨_, (pss_one (ps_if (pt_cmpR op_gt (pv 3) pe_int (nomark _)) (pss_cons (ps_expr (pe_o (pv 0) T.c_Engine T.m_Engine_begin G_Engine_begin (hr.mono (by decide)) (pa_cons (pv 1) pa_nil)))
      (pss_cons (ps_expr (pe_bm PySem.F.plainAttrs_list PySem.F.slot_list_append PySem.F.type_list_append mt_append (pv 4) (pa_cons (pe_tup (pa_cons pe_str (pa_cons (pv 1) (pa_cons (pv 2) (pa_cons (pe_op op_sub (pv 3) pe_int) pa_nil))))) pa_nil)))
      (pss_one (ps_expr (pe_bm PySem.F.plainAttrs_list PySem.F.slot_list_append PySem.F.type_list_append mt_append (pv 4) (pa_cons (pe_tup (pa_cons pe_str (pa_cons (pe_ix ix_list (pe_ix ix_list (pe_fld (pv 0) rfl) (pv 1) (fun _ _ => rfl)) pe_int (fun _ _ => rfl)) (pa_cons (pe_tup (pa_cons (pe_bm0 PySem.F.plainAttrs_list PySem.F.slot_list_pop PySem.F.type_list_pop mt_pop (pv 5)) (pa_cons (pv 2) pa_nil))) pa_nil)))) pa_nil)))))) pss_nil)), ?_⟩
  walk_at "rd"
  rcases q with ⟨rfl, q⟩ | ⟨j, n, t, u, v, rfl, hat, hc, q⟩
  · refine ifF (by rfl) ?_
    walk_at "rd"
    exact q
  · refine ifT ?h1 ?_
    case h1 => exact decide_eq_true (by omega)
    walk_at "rd"
    refine kme m (by decide +kernel) (by decide +kernel) (by decide +kernel) (by decide +kernel) ?_
    walk_at "rd"
    refine ⟨X, e, ol, wl, cl, Z, os, _, cs, p, rfl, m, hc, fun H3 t3 k3 m3 => ?_⟩
    have hrv := hrv.tp t3
    walk_at "rd"
    refine kbO m3 ?_
    walk_at "rd"
    rw [show ((j + 1 : Nat) : Int) - 1 = (j : Int) by omega]
    refine ktn_go len_ok fun y1 H4 _ s1 hy1 => ?_
    have hon : OdAt K H4 Z (.ref y1) (.agn p r j) := .agn (sqT_of hy1) (hrv.mono s1)
    walk_at "rd"
    refine psO (m3.mono s1) hon (by omega) fun H5 t5 k5 m5 => ?_
    have k5 := k3.trans ((Kp.same s1).trans k5)
    have hrv := (hrv.mono s1).tp t5
    walk_at "rd"
    refine kbO m5 ?_
    walk_at "rd"
    refine kch T m5 hat fun ch us l hch hl hls => ?_
    walk_at "rd"
    refine ixl_go (sqL_of hch) hl ?_
    walk_at "rd"
    refine ixl_go (sqL_of hls) at1 ?_
    walk_at "rd"
    refine ppW m5 fun v1 H6 t6 k6 hv1 m6 => ?_
    have k6 := k5.trans k6
    have hrv := hrv.tp t6
    walk_at "rd"
    refine ktn_go len_ok fun y2 H7 _ s2 hy2 => ?_
    have hn : MwAt K H7 Z (.ref y2) (.inr (x :: r)) := .cons (sqT_of hy2) (hv1.mono s2) (hrv.mono s2)
    walk_at "rd"
    refine ktn_go len_ok fun y3 H8 _ s3 hy3 => ?_
    have hon : OdAt K H8 Z (.ref y3) (.see (p + 1 + t.size) (x :: r)) := .see (sqT_of hy3) (hn.mono s3)
    walk_at "rd"
    refine psO (m6.mono (s2.trans s3)) hon (by rw [List.length_cons]; omega) fun H9 t9 k9 m9 => ?_
    walk_at "rd"
    exact q _ (k6.trans ((Kp.same (s2.trans s3)).trans k9)) m9
def sp_Engine_opened (K : PySem.W.Frag) : Sp := fun vs H Q _ => ∃ (X : Addr → Prop) (e ol wl cl : Addr) (Z : Tm) (os os1 : List Od) (ws ws1 r : List W) (cs : List Nat) (b : Bool) (p : Nat) (rv : V), vs = [.ref e, .str (opW b), .int p, rv, .ref ol, .ref wl] ∧ MsAt K X H e ol wl cl Z os ws cs ∧ MwAt K H Z rv (.inr r) ∧ os.length ≤ 90000 ∧ cs.length < 2000 ∧
  Stp Z (.opn b p r :: os) ws (some p) os1 ws1 ∧ ∀ H1, Kp (Mu ol wl cl) H H1 → MsAt K X H1 e ol wl cl Z os1 ws1 (cs ++ [p]) → Q .non H1
theorem ok_Engine_opened (T : Tx w K mg) : OkF P w K mg base 3 (ma K (ga K "Engine") "opened") ["self", "word", "position", "row", "orders", "worths"] (sp_Engine_opened K) := by
  have G_Engine_begin := ok_Engine_begin (P := P) (base := base) T
  refine okF T.f_Engine_opened rfl sc_Engine_opened b_Engine_opened (fun vs H Q E h => by obtain ⟨_, _, _, _, _, _, _, _, _, _, _, _, _, _, _, rfl, _⟩ := h; rfl) (fun cdv A outer s H vs Q E hr h => ?_)
  obtain ⟨X, e, ol, wl, cl, Z, os, os1, ws, ws1, r, cs, b, p, rv, rfl, m, hrv, ho, hc, hst, q⟩ := h
  refine ⟨_, (pss_cons (ps_set (i := 6) sc_Engine_opened.nd rfl (Or.inl rfl) (pe_bm0 PySem.F.plainAttrs_list PySem.F.slot_list_pop PySem.F.type_list_pop mt_pop (pv 5)))
      (pss_cons (ps_expr (pe_o (pv 0) T.c_Engine T.m_Engine_begin G_Engine_begin (hr.mono (by decide)) (pa_cons (pv 2) pa_nil)))
      (pss_cons (ps_set (i := 7) sc_Engine_opened.nd rfl (Or.inl rfl) (pe_ix ix_list (pe_fld (pv 0) rfl) (pv 2) (fun _ _ => rfl)))
      (pss_one (ps_if (pt_cmpR op_eq (pv 1) pe_str (nomark _)) (pss_one (ps_expr (pe_bm PySem.F.plainAttrs_list PySem.F.slot_list_append PySem.F.type_list_append mt_append (pv 4) (pa_cons (pe_tup (pa_cons pe_str (pa_cons (pe_ix ix_list (pv 7) pe_int (fun _ _ => rfl)) (pa_cons (pe_tup (pa_cons (pv 6) (pa_cons (pv 3) pa_nil))) pa_nil)))) pa_nil)))) (pss_one (ps_expr (pe_bm PySem.F.plainAttrs_list PySem.F.slot_list_append PySem.F.type_list_append mt_append (pv 4) (pa_cons (pe_tup (pa_cons pe_str (pa_cons (pe_ifExp (pt_cmpR op_eq (pe_ix ix_tup (pv 6) pe_int (fun _ _ => rfl)) pe_str (nomark _)) (pe_ix ix_list (pv 7) pe_int (fun _ _ => rfl)) (pe_ix ix_list (pv 7) pe_int (fun _ _ => rfl))) (pa_cons (pe_tup (pa_cons (pe_ix ix_tup (pv 6) pe_int (fun _ _ => rfl)) (pa_cons (pv 3) pa_nil))) pa_nil)))) pa_nil))))))))), ?_⟩
  walk_at "rd"
  cases hst with
  | @olt _ x y z _ _ _ h1 =>
    refine ppW m fun v1 H1 t1 k1 hv1 m1 => ?_
    have hrv := hrv.tp t1
    walk_at "rd"
    refine kme m1 (by decide +kernel) (by decide +kernel) (by decide +kernel) (by decide +kernel) ?_
    walk_at "rd"
    refine ⟨X, e, ol, wl, cl, Z, os, _, cs, p, rfl, m1, hc, fun H3 t3 k3 m3 => ?_⟩
    have hrv := hrv.tp t3
    have hv1 := hv1.tp t3
    have k3 := k1.trans k3
    walk_at "rd"
    refine kch T m3 h1 fun ch us l hch hl hls => ?_
    walk_at "rd"
    refine ixl_go (sqL_of hch) hl ?_
    walk_at "rd"
    refine reqS_go (b := true) (by decide +kernel) ?_
    walk_at "rd"
    refine kbO m3 ?_
    walk_at "rd"
    refine ixl_go (sqL_of hls) at1 ?_
    walk_at "rd"
    refine ktn_go len_ok fun y1 H4 _ s1 hy1 => ?_
    have hn : MwAt K H4 Z (.ref y1) (.inr (z :: r)) := .cons (sqT_of hy1) (hv1.mono s1) (hrv.mono s1)
    walk_at "rd"
    refine ktn_go len_ok fun y2 H5 _ s2 hy2 => ?_
    have hon : OdAt K H5 Z (.ref y2) (.see (p + 1 + x.size) (z :: r)) := .see (sqT_of hy2) (hn.mono s2)
    walk_at "rd"
    refine psO (m3.mono (s1.trans s2)) hon (by omega) fun H6 t6 k6 m6 => ?_
    walk_at "rd"
    exact q _ (k3.trans ((Kp.same (s1.trans s2)).trans k6)) m6
  | @owl _ x y z2 z _ _ _ h1 =>
    refine ppW m fun v1 H1 t1 k1 hv1 m1 => ?_
    have hrv := hrv.tp t1
    walk_at "rd"
    refine kme m1 (by decide +kernel) (by decide +kernel) (by decide +kernel) (by decide +kernel) ?_
    walk_at "rd"
    refine ⟨X, e, ol, wl, cl, Z, os, _, cs, p, rfl, m1, hc, fun H3 t3 k3 m3 => ?_⟩
    have hrv := hrv.tp t3
    have hv1 := hv1.tp t3
    have k3 := k1.trans k3
    walk_at "rd"
    refine kch T m3 h1 fun ch us l hch hl hls => ?_
    walk_at "rd"
    refine ixl_go (sqL_of hch) hl ?_
    walk_at "rd"
    refine reqS_go (b := false) (by decide +kernel) ?_
    walk_at "rd"
    refine kbO m3 ?_
    walk_at "rd"
    cases hv1 with
    | left hS hv1 =>
      refine ixt_go hS at0 ?_
      walk_at "rd"
      refine reqS_go (b := true) (by decide +kernel) ?_
      walk_at "rd"
      refine ixl_go (sqL_of hls) at1 ?_
      walk_at "rd"
      refine ixt_go hS at1 ?_
      walk_at "rd"
      refine ktn_go len_ok fun y1 H4 _ s1 hy1 => ?_
      have hn : MwAt K H4 Z (.ref y1) (.inr (z :: r)) := .cons (sqT_of hy1) (hv1.mono s1) (hrv.mono s1)
      walk_at "rd"
      refine ktn_go len_ok fun y2 H5 _ s2 hy2 => ?_
      have hon : OdAt K H5 Z (.ref y2) (.see (p + 1 + x.size) (z :: r)) := .see (sqT_of hy2) (hn.mono s2)
      walk_at "rd"
      refine psO (m3.mono (s1.trans s2)) hon (by omega) fun H6 t6 k6 m6 => ?_
      walk_at "rd"
      exact q _ (k3.trans ((Kp.same (s1.trans s2)).trans k6)) m6
  | @owr _ x y z2 z _ _ _ h1 =>
    refine ppW m fun v1 H1 t1 k1 hv1 m1 => ?_
    have hrv := hrv.tp t1
    walk_at "rd"
    refine kme m1 (by decide +kernel) (by decide +kernel) (by decide +kernel) (by decide +kernel) ?_
    walk_at "rd"
    refine ⟨X, e, ol, wl, cl, Z, os, _, cs, p, rfl, m1, hc, fun H3 t3 k3 m3 => ?_⟩
    have hrv := hrv.tp t3
    have hv1 := hv1.tp t3
    have k3 := k1.trans k3
    walk_at "rd"
    refine kch T m3 h1 fun ch us l hch hl hls => ?_
    walk_at "rd"
    refine ixl_go (sqL_of hch) hl ?_
    walk_at "rd"
    refine reqS_go (b := false) (by decide +kernel) ?_
    walk_at "rd"
    refine kbO m3 ?_
    walk_at "rd"
    cases hv1 with
    | right hS hv1 =>
      refine ixt_go hS at0 ?_
      walk_at "rd"
      refine reqS_go (b := false) (by decide +kernel) ?_
      walk_at "rd"
      refine ixl_go (sqL_of hls) at2 ?_
      walk_at "rd"
      refine ixt_go hS at1 ?_
      walk_at "rd"
      refine ktn_go len_ok fun y1 H4 _ s1 hy1 => ?_
      have hn : MwAt K H4 Z (.ref y1) (.inr (z :: r)) := .cons (sqT_of hy1) (hv1.mono s1) (hrv.mono s1)
      walk_at "rd"
      refine ktn_go len_ok fun y2 H5 _ s2 hy2 => ?_
      have hon : OdAt K H5 Z (.ref y2) (.see (p + 1 + x.size + y.size) (z :: r)) := .see (sqT_of hy2) (hn.mono s2)
      walk_at "rd"
      refine psO (m3.mono (s1.trans s2)) hon (by omega) fun H6 t6 k6 m6 => ?_
      walk_at "rd"
      exact q _ (k3.trans ((Kp.same (s1.trans s2)).trans k6)) m6
end
end K42

/-! KM5 -/
/-! the engine: parted, done, begins -/
namespace K42
open PySem PySem.Spec L2 He
local macro_rules | `(tactic| walk_at "rd") => `(tactic| repeat (first | ((with_reducible refine' rd_var ?hvar ?_); (case hvar => exact rfl)) | with_reducible refine rd_seq ?_ | with_reducible refine rd_asg ?_ | with_reducible refine rd_ret ?_ | with_reducible refine rd_drop ?_ | with_reducible refine rd_ifs ?_ | with_reducible refine rd_name ?_ | with_reducible refine rd_c ?_ | with_reducible refine rd_cons ?_ | with_reducible refine rd_nil ?_ | with_reducible refine rd_cb ?_ | with_reducible refine rd_op ?_ | with_reducible refine rd_test ?_ | with_reducible refine rd_tb ?_ | with_reducible refine rd_and ?_ | with_reducible refine rd_or ?_ | with_reducible refine rd_not ?_ | with_reducible refine rd_andv ?_ | with_reducible refine rd_orv ?_ | with_reducible refine rd_notv ?_ | with_reducible refine rd_if ?_ | with_reducible refine rd_nx ?_ | with_reducible refine rd_retn ?_ | with_reducible refine rd_par ?_ | with_reducible refine rd_par3 ?_ | with_reducible refine rd_tup ?_ | with_reducible refine rd_lst ?_ | with_reducible refine rd_call ?_ | with_reducible refine rd_meth ?_ | with_reducible refine rd_make ?_ | with_reducible refine rd_fld ?_ | with_reducible refine rd_sfld ?_ | with_reducible refine rd_bm ?_ | with_reducible refine rd_bm0 ?_ | with_reducible refine rd_prop ?_ | with_reducible refine rd_dget ?_ | with_reducible refine rd_dnin ?_ | with_reducible refine rd_chain ?_ | with_reducible refine rd_sub ?_ | with_reducible refine rd_un ?_ | with_reducible refine rd_fl ?_ | with_reducible refine rd_ft ?_ | with_reducible refine rd_fr ?_ | with_reducible refine rd_fd ?_ | with_reducible refine rd_fe ?_ | with_reducible refine rd_ll ?_ | with_reducible refine rd_le ?_ | with_reducible refine rd_yes ?_ | with_reducible refine rd_dg2 ?_ | with_reducible refine rd_calld ?_ | with_reducible refine rd_lt ?_ | with_reducible refine rd_rev ?_ | with_reducible refine rd_sl ?_ | with_reducible refine rd_thru ?_ | with_reducible refine kb_go ?_ | with_reducible refine kpar_go ?_ | with_reducible refine kpar3_go ?_ | with_reducible refine ri0_go ?_ | with_reducible refine ru_go ?_ | ((with_reducible refine ifT ?hift ?_); (case hift => exact rfl)) | ((with_reducible refine ifF ?hiff ?_); (case hiff => exact rfl))))
local macro_rules | `(tactic| walk_at "dt") => `(tactic| first | refine ifT (by decide +kernel) ?_ | ((refine ifT ?hdt ?_); (case hdt => exact decide_eq_true (by omega))))
local macro_rules | `(tactic| walk_at "df") => `(tactic| first | refine ifF (by decide +kernel) ?_ | ((refine ifF ?hdf ?_); (case hdf => exact decide_eq_false (by omega))))

theorem atI_2 {α : Type} (xs : List α) (v u : α) : atI (xs ++ [v] ++ [u]) (-2) = some v := by
  have hl : (xs ++ [v] ++ [u]).length = xs.length + 2 := by simp
  have e : ixN (xs ++ [v] ++ [u]).length (-2) = some xs.length := by
    unfold ixN
    rw [hl, if_neg (by decide), if_pos (by omega)]
    congr 1
    omega
  unfold atI
  rw [e]
  show (xs ++ [v] ++ [u])[xs.length]? = some v
  simp
section
variable {P : Program} {w : World} {K : PySem.W.Frag} {mg : Str → Option Value} {base : Heap}
/-- worths[-2] -/
theorem MsAt.ix2 {K : PySem.W.Frag} {X : Addr → Prop} {H : Hp} {e ol wl cl : Addr} {Z : Tm} {os : List Od} {ws : List W} {cs : List Nat} {x y : W} {Q : VK} (m : MsAt K X H e ol wl cl Z os (x :: y :: ws) cs) (q : ∀ v, MwAt K H Z v (.inl y) → Q v H) : rIxL K (.ref wl) (.int (-2)) H Q := by
  obtain ⟨vs, h1, h2⟩ := m.w
  cases h2 with
  | cons h3 h4 =>
    cases h4 with
    | cons h5 h6 =>
      rw [List.reverse_cons, List.reverse_cons] at h1
      exact ixl_go (sqL_of h1) (atI_2 _ _ _) (q _ h5)
def sp_Engine_parted (K : PySem.W.Frag) : Sp := fun vs H Q _ => ∃ (X : Addr → Prop) (e ol wl cl : Addr) (Z : Tm) (os os1 : List Od) (ws ws1 : List W) (cs : List Nat) (n : Nd), vs = [.ref e, .str n.w, .ref wl] ∧ MsAt K X H e ol wl cl Z os ws cs ∧ ws.length ≤ 90000 ∧
  Stp Z (.act n :: os) ws none os1 ws1 ∧ ∀ H1, Kp (Mu ol wl cl) H H1 → MsAt K X H1 e ol wl cl Z os1 ws1 cs → Q .non H1
theorem ok_Engine_parted (T : Tx w K mg) : OkF P w K mg base 1 (ma K (ga K "Engine") "parted") ["self", "word", "worths"] (sp_Engine_parted K) := by
  refine okF T.f_Engine_parted rfl sc_Engine_parted b_Engine_parted (fun vs H Q E h => by obtain ⟨_, _, _, _, _, _, _, _, _, _, _, _, rfl, _⟩ := h; rfl) (fun cdv A outer s H vs Q E hr h => ?_)
  obtain ⟨X, e, ol, wl, cl, Z, os, os1, ws, ws1, cs, n, rfl, m, hw, hst, q⟩ := h
  refine ⟨_, (pss_cons (ps_set (i := 3) sc_Engine_parted.nd rfl (Or.inl rfl) (pe_bm0 PySem.F.plainAttrs_list PySem.F.slot_list_pop PySem.F.type_list_pop mt_pop (pv 2)))
      (pss_one (ps_if (pt_cmpR op_eq (pv 1) pe_str (nomark _)) (pss_one (ps_expr (pe_bm PySem.F.plainAttrs_list PySem.F.slot_list_append PySem.F.type_list_append mt_append (pv 2) (pa_cons (pe_tup (pa_cons pe_str (pa_cons (pe_bm0 PySem.F.plainAttrs_list PySem.F.slot_list_pop PySem.F.type_list_pop mt_pop (pv 2)) (pa_cons (pv 3) pa_nil)))) pa_nil)))) (pss_one (ps_if (pt_cmpR op_eq (pv 1) pe_str (nomark _)) (pss_one (ps_expr (pe_bm PySem.F.plainAttrs_list PySem.F.slot_list_append PySem.F.type_list_append mt_append (pv 2) (pa_cons (pe_ix ix_tup (pv 3) pe_int (fun _ _ => rfl)) pa_nil)))) (pss_one (ps_if (pt_cmpR op_eq (pv 1) pe_str (nomark _)) (pss_one (ps_expr (pe_bm PySem.F.plainAttrs_list PySem.F.slot_list_append PySem.F.type_list_append mt_append (pv 2) (pa_cons (pe_ix ix_tup (pv 3) pe_int (fun _ _ => rfl)) pa_nil)))) (pss_one (ps_if (pt_cmpR op_eq (pv 1) pe_str (nomark _)) (pss_one (ps_expr (pe_bm PySem.F.plainAttrs_list PySem.F.slot_list_append PySem.F.type_list_append mt_append (pv 2) (pa_cons (pe_callB (call_min2 rfl) (by rfl) T.n_min (by decide +kernel) (pa_cons (pe_op op_add (pv 3) pe_int) (pa_cons (pe_gi T.i_MOST_TOLD) pa_nil))) pa_nil)))) (pss_one (ps_expr (pe_bm PySem.F.plainAttrs_list PySem.F.slot_list_append PySem.F.type_list_append mt_append (pv 2) (pa_cons (pe_tup (pa_cons (pv 1) (pa_cons (pv 3) pa_nil))) pa_nil))))))))))))), ?_⟩
  walk_at "rd"
  cases hst with
  | @both a b _ _ =>
    rw [List.length_cons, List.length_cons] at hw
    refine ppW m fun v1 H1 t1 k1 hv1 m1 => ?_
    walk_at "rd"
    refine reqS_go (b := true) (by decide +kernel) ?_
    walk_at "rd"
    refine kbW m1 ?_
    walk_at "rd"
    refine ppW m1 fun v2 H2 t2 k2 hv2 m2 => ?_
    have hv1 := hv1.tp t2
    walk_at "rd"
    refine ktn_go len_ok fun y1 H3 _ s1 hy1 => ?_
    have hn : MwAt K H3 Z (.ref y1) (.inl (.both a b)) := .both (sqT_of hy1) (hv2.mono s1) (hv1.mono s1)
    walk_at "rd"
    refine psW (m2.mono s1) hn (by omega) fun H4 t4 k4 m4 => ?_
    walk_at "rd"
    exact q _ (k1.trans (k2.trans ((Kp.same s1).trans k4))) m4
  | @un a x v _ _ hu ha =>
    rw [List.length_cons] at hw
    refine ppW m fun v1 H1 t1 k1 hv1 m1 => ?_
    walk_at "rd"
    unfold un1 at hu
    split at hu
    · rename_i k
      cases hu
      refine reqS_go (b := false) (by decide +kernel) ?_
      walk_at "rd"
      refine reqS_go (b := false) (by decide +kernel) ?_
      walk_at "rd"
      refine reqS_go (b := false) (by decide +kernel) ?_
      walk_at "rd"
      refine reqS_go (b := true) (by decide +kernel) ?_
      walk_at "rd"
      refine kbW m1 ?_
      walk_at "rd"
      cases hv1 with
      | int =>
        walk_at "rd"
        refine ⟨_, _, rfl, ?_⟩
        have e1 : (if (1000000 : Int) < ((k : Nat) : Int) + 1 then (1000000 : Int) else ((k : Nat) : Int) + 1) = ((min (k + 1) 1000000 : Nat) : Int) := by
          split <;> omega
        rw [e1]
        walk_at "rd"
        refine psW m1 .int (by omega) fun H4 t4 k4 m4 => ?_
        walk_at "rd"
        exact q _ (k1.trans k4) m4
    · cases hu
      refine reqS_go (b := false) (by decide +kernel) ?_
      walk_at "rd"
      refine reqS_go (b := true) (by decide +kernel) ?_
      walk_at "rd"
      refine kbW m1 ?_
      walk_at "rd"
      cases hv1 with
      | both hS hx hy =>
        refine ixt_go hS at1 ?_
        walk_at "rd"
        refine psW m1 hx (by omega) fun H4 t4 k4 m4 => ?_
        walk_at "rd"
        exact q _ (k1.trans k4) m4
    · cases hu
      refine reqS_go (b := false) (by decide +kernel) ?_
      walk_at "rd"
      refine reqS_go (b := false) (by decide +kernel) ?_
      walk_at "rd"
      refine reqS_go (b := true) (by decide +kernel) ?_
      walk_at "rd"
      refine kbW m1 ?_
      walk_at "rd"
      cases hv1 with
      | both hS hx hy =>
        refine ixt_go hS at2 ?_
        walk_at "rd"
        refine psW m1 hy (by omega) fun H4 t4 k4 m4 => ?_
        walk_at "rd"
        exact q _ (k1.trans k4) m4
    · cases hu
      simp only [Nd.w, Nk.w]
      refine reqS_go (b := false) (by decide +kernel) ?_
      walk_at "rd"
      refine reqS_go (b := false) (by decide +kernel) ?_
      walk_at "rd"
      refine reqS_go (b := false) (by decide +kernel) ?_
      walk_at "rd"
      refine reqS_go (b := false) (by decide +kernel) ?_
      walk_at "rd"
      refine kbW m1 ?_
      walk_at "rd"
      refine ktn_go len_ok fun y1 H3 _ s1 hy1 => ?_
      have hn : MwAt K H3 Z (.ref y1) (.inl (.left x)) := .left (sqT_of hy1) (hv1.mono s1)
      walk_at "rd"
      refine psW (m1.mono s1) hn (by omega) fun H4 t4 k4 m4 => ?_
      walk_at "rd"
      exact q _ (k1.trans ((Kp.same s1).trans k4)) m4
    · cases hu
      simp only [Nd.w, Nk.w]
      refine reqS_go (b := false) (by decide +kernel) ?_
      walk_at "rd"
      refine reqS_go (b := false) (by decide +kernel) ?_
      walk_at "rd"
      refine reqS_go (b := false) (by decide +kernel) ?_
      walk_at "rd"
      refine reqS_go (b := false) (by decide +kernel) ?_
      walk_at "rd"
      refine kbW m1 ?_
      walk_at "rd"
      refine ktn_go len_ok fun y1 H3 _ s1 hy1 => ?_
      have hn : MwAt K H3 Z (.ref y1) (.inl (.right x)) := .right (sqT_of hy1) (hv1.mono s1)
      walk_at "rd"
      refine psW (m1.mono s1) hn (by omega) fun H4 t4 k4 m4 => ?_
      walk_at "rd"
      exact q _ (k1.trans ((Kp.same s1).trans k4)) m4
    · cases hu
def oL (c : Option Nat) : List Nat := match c with
  | none => []
  | some p => [p]
def sp_Engine_done (K : PySem.W.Frag) : Sp := fun vs H Q _ => ∃ (X : Addr → Prop) (e ol wl cl : Addr) (Z : Tm) (o : Od) (os os1 : List Od) (ws ws1 : List W) (cs : List Nat) (c : Option Nat) (v : V), vs = [.ref e, v, .ref ol, .ref wl] ∧ MsAt K X H e ol wl cl Z os ws cs ∧ OdAt K H Z v o ∧ Z.ok ∧ os.length ≤ 90000 ∧ ws.length ≤ 90000 ∧ cs.length < 2000 ∧
  Stp Z (o :: os) ws c os1 ws1 ∧ ∀ H1, Kp (Mu ol wl cl) H H1 → MsAt K X H1 e ol wl cl Z os1 ws1 (cs ++ oL c) → Q .non H1
theorem ok_Engine_done (T : Tx w K mg) : OkF P w K mg base 4 (ma K (ga K "Engine") "done") ["self", "order", "orders", "worths"] (sp_Engine_done K) := by
  have G_Engine_see := ok_Engine_see (P := P) (base := base) T
  have G_Engine_called := ok_Engine_called (P := P) (base := base) T
  have G_Engine_turned := ok_Engine_turned (P := P) (base := base) T
  have G_Engine_opened := ok_Engine_opened (P := P) (base := base) T
  have G_Engine_parted := ok_Engine_parted (P := P) (base := base) T
  refine okF T.f_Engine_done rfl sc_Engine_done b_Engine_done (fun vs H Q E h => by obtain ⟨_, _, _, _, _, _, _, _, _, _, _, _, _, _, rfl, _⟩ := h; rfl) (fun cdv A outer s H vs Q E hr h => ?_)
  obtain ⟨X, e, ol, wl, cl, Z, o, os, os1, ws, ws1, cs, c, v, rfl, m, hov, hZ, ho, hw, hc, hst, q⟩ := h
  refine ⟨_, (pss_cons (ps_set (i := 4) sc_Engine_done.nd rfl (Or.inl rfl) (pe_ix ix_tup (pv 1) pe_int (fun _ _ => rfl)))
      (pss_one (ps_if (pt_cmpR op_eq (pv 4) pe_str (nomark _)) (pss_one (ps_expr (pe_o (pv 0) T.c_Engine T.m_Engine_see G_Engine_see (hr.mono (by decide)) (pa_cons (pe_ix ix_tup (pv 1) pe_int (fun _ _ => rfl)) (pa_cons (pe_ix ix_tup (pv 1) pe_int (fun _ _ => rfl)) (pa_cons (pv 2) (pa_cons (pv 3) pa_nil))))))) (pss_one (ps_if (pt_cmpR op_eq (pv 4) pe_str (nomark _)) (pss_one (ps_expr (pe_o (pv 0) T.c_Engine T.m_Engine_called G_Engine_called (hr.mono (by decide)) (pa_cons (pv 2) (pa_cons (pv 3) pa_nil))))) (pss_one (ps_if (pt_cmpR op_eq (pv 4) pe_str (nomark _)) (pss_cons (ps_par (i := 5) (j := 6) (by rfl) sc_Engine_done.nd rfl rfl (by decide) rfl rfl (pa_cons (pe_bm0 PySem.F.plainAttrs_list PySem.F.slot_list_pop PySem.F.type_list_pop mt_pop (pv 3)) (pa_cons (pe_bm0 PySem.F.plainAttrs_list PySem.F.slot_list_pop PySem.F.type_list_pop mt_pop (pv 3)) pa_nil)) (by rfl))
      (pss_cons (ps_expr (pe_bm PySem.F.plainAttrs_list PySem.F.slot_list_append PySem.F.type_list_append mt_append (pv 3) (pa_cons (pv 5) pa_nil)))
      (pss_one (ps_expr (pe_o (pv 0) T.c_Engine T.m_Engine_turned G_Engine_turned (hr.mono (by decide)) (pa_cons (pe_ix ix_tup (pv 1) pe_int (fun _ _ => rfl)) (pa_cons (pe_ix ix_tup (pv 1) pe_int (fun _ _ => rfl)) (pa_cons (pv 6) (pa_cons (pv 2) (pa_cons (pv 3) pa_nil)))))))))) (pss_one (ps_if (pt_cmpR op_eq (pv 4) pe_str (nomark _)) (pss_one (ps_expr (pe_o (pv 0) T.c_Engine T.m_Engine_turned G_Engine_turned (hr.mono (by decide)) (pa_cons (pe_ix ix_tup (pv 1) pe_int (fun _ _ => rfl)) (pa_cons (pe_ix ix_tup (pv 1) pe_int (fun _ _ => rfl)) (pa_cons (pe_ix ix_tup (pv 1) pe_int (fun _ _ => rfl)) (pa_cons (pv 2) (pa_cons (pv 3) pa_nil)))))))) (pss_one (ps_if (pt_cmpR op_in_seq (pv 4) (pe_tup (pa_cons pe_str (pa_cons pe_str pa_nil))) (by rfl)) (pss_one (ps_expr (pe_o (pv 0) T.c_Engine T.m_Engine_opened G_Engine_opened (hr.mono (by decide)) (pa_cons (pv 4) (pa_cons (pe_ix ix_tup (pv 1) pe_int (fun _ _ => rfl)) (pa_cons (pe_ix ix_tup (pv 1) pe_int (fun _ _ => rfl)) (pa_cons (pv 2) (pa_cons (pv 3) pa_nil)))))))) (pss_one (ps_expr (pe_o (pv 0) T.c_Engine T.m_Engine_parted G_Engine_parted (hr.mono (by decide)) (pa_cons (pv 4) (pa_cons (pv 3) pa_nil)))))))))))))))), ?_⟩
  cases hov with
  | @see a y p r hS hr =>
    have hcn : c = none := by cases hst <;> rfl
    subst hcn
    walk_at "rd"
    refine ixt_go hS at0 ?_
    walk_at "rd"
    refine reqS_go (b := true) (by decide +kernel) ?_
    walk_at "rd"
    refine kme m (by decide +kernel) (by decide +kernel) (by decide +kernel) (by decide +kernel) ?_
    walk_at "rd"
    refine ixt_go hS at1 ?_
    walk_at "rd"
    refine ixt_go hS at2 ?_
    walk_at "rd"
    refine ⟨X, e, ol, wl, cl, Z, os, os1, ws, ws1, cs, p, y, r, rfl, m, hr, hZ, ho, hw, hst, fun H1 k1 m1 => ?_⟩
    walk_at "rd"
    exact q _ k1 (by rw [show cs ++ oL none = cs from List.append_nil _]; exact m1)
  | @opn a y b p r hS hr =>
    have hcn : c = some p := by cases hst <;> rfl
    subst hcn
    walk_at "rd"
    refine ixt_go hS at0 ?_
    walk_at "rd"
    refine reqS_go (b := false) (by cases b <;> decide +kernel) ?_
    walk_at "rd"
    refine reqS_go (b := false) (by cases b <;> decide +kernel) ?_
    walk_at "rd"
    refine reqS_go (b := false) (by cases b <;> decide +kernel) ?_
    walk_at "rd"
    refine reqS_go (b := false) (by cases b <;> decide +kernel) ?_
    walk_at "rd"
    refine ktn_go len_ok fun y1 H3 _ s1 hy1 => ?_
    refine rin_go (b := true) (sqT_of hy1) rfl rfl (by cases b <;> decide +kernel) ?_
    have m1 := m.mono s1
    have hS := Same.sqt s1 hS
    walk_at "rd"
    refine kme m1 (by decide +kernel) (by decide +kernel) (by decide +kernel) (by decide +kernel) ?_
    walk_at "rd"
    refine ixt_go hS at1 ?_
    walk_at "rd"
    refine ixt_go hS at2 ?_
    walk_at "rd"
    refine ⟨X, e, ol, wl, cl, Z, os, os1, ws, ws1, r, cs, b, p, y, rfl, m1, hr.mono s1, ho, hc, hst, fun H4 k4 m4 => ?_⟩
    walk_at "rd"
    exact q _ ((Kp.same s1).trans k4) m4
  | @trn a y p r hS hr =>
    obtain ⟨z, k, ws0, rfl⟩ : ∃ z k ws0, ws = z :: .int k :: ws0 := by cases hst <;> exact ⟨_, _, _, rfl⟩
    rw [List.length_cons, List.length_cons] at hw
    walk_at "rd"
    refine ixt_go hS at0 ?_
    walk_at "rd"
    refine reqS_go (b := false) (by decide +kernel) ?_
    walk_at "rd"
    refine reqS_go (b := false) (by decide +kernel) ?_
    walk_at "rd"
    refine reqS_go (b := true) (by decide +kernel) ?_
    walk_at "rd"
    refine ppW m fun v1 H1 t1 k1 hv1 m1 => ?_
    walk_at "rd"
    refine ppW m1 fun v2 H2 t2 k2 hv2 m2 => ?_
    have hv1 := hv1.tp t2
    have hS := (t1.trans t2).sqt hS
    have hr := (hr.tp t1).tp t2
    have k2 := k1.trans k2
    walk_at "rd"
    refine kbW m2 ?_
    walk_at "rd"
    refine psW m2 hv1 (by omega) fun H3 t3 k3 m3 => ?_
    have hS := t3.sqt hS
    have hr := hr.tp t3
    have k3 := k2.trans k3
    cases hv2 with
    | int =>
      walk_at "rd"
      refine kme m3 (by decide +kernel) (by decide +kernel) (by decide +kernel) (by decide +kernel) ?_
      walk_at "rd"
      refine ixt_go hS at1 ?_
      walk_at "rd"
      refine ixt_go hS at2 ?_
      walk_at "rd"
      refine ⟨X, e, ol, wl, cl, Z, os, ws0, r, cs, z, p, k, y, rfl, m3, hr, ho, ?_⟩
      cases hst with
      | trn0 =>
        refine .inl ⟨rfl, ?_⟩
        walk_at "rd"
        exact q _ k3 (by rw [show cs ++ oL none = cs from List.append_nil _]; exact m3)
      | trnS hat =>
        refine .inr ⟨_, _, _, _, _, rfl, hat, hc, fun H4 k4 m4 => ?_⟩
        walk_at "rd"
        exact q _ (k3.trans k4) m4
  | @agn a y p k r hS hr =>
    obtain ⟨z, ws0, rfl⟩ : ∃ z ws0, ws = z :: ws0 := by cases hst <;> exact ⟨_, _, rfl⟩
    walk_at "rd"
    refine ixt_go hS at0 ?_
    walk_at "rd"
    refine reqS_go (b := false) (by decide +kernel) ?_
    walk_at "rd"
    refine reqS_go (b := false) (by decide +kernel) ?_
    walk_at "rd"
    refine reqS_go (b := false) (by decide +kernel) ?_
    walk_at "rd"
    refine reqS_go (b := true) (by decide +kernel) ?_
    walk_at "rd"
    refine kme m (by decide +kernel) (by decide +kernel) (by decide +kernel) (by decide +kernel) ?_
    walk_at "rd"
    refine ixt_go hS at1 ?_
    walk_at "rd"
    refine ixt_go hS at2 ?_
    walk_at "rd"
    refine ixt_go hS at3 ?_
    walk_at "rd"
    refine ⟨X, e, ol, wl, cl, Z, os, ws0, r, cs, z, p, k, y, rfl, m, hr, ho, ?_⟩
    cases hst with
    | agn0 =>
      refine .inl ⟨rfl, ?_⟩
      walk_at "rd"
      exact q _ Kp.refl (by rw [show cs ++ oL none = cs from List.append_nil _]; exact m)
    | agnS hat =>
      refine .inr ⟨_, _, _, _, _, rfl, hat, hc, fun H4 k4 m4 => ?_⟩
      walk_at "rd"
      exact q _ k4 m4
  | @act a n hS hn =>
    have hwa := acts_w hn
    walk_at "rd"
    refine ixt_go hS at0 ?_
    walk_at "rd"
    refine reqS_go (acts_ne hwa (by decide +kernel)) ?_
    walk_at "rd"
    by_cases hcall : n = .wd .call
    · subst hcall
      refine reqS_go (b := true) (by decide +kernel) ?_
      walk_at "rd"
      refine kme m (by decide +kernel) (by decide +kernel) (by decide +kernel) (by decide +kernel) ?_
      walk_at "rd"
      cases hst with
      | @call q0 k b x r _ _ =>
        refine ⟨X, e, ol, wl, cl, Z, os, _, r, cs, x, q0, k, b, rfl, m, ho, hc, fun H1 k1 m1 => ?_⟩
        walk_at "rd"
        exact q _ k1 m1
      | un hu _ =>
        unfold un1 at hu
        split at hu <;> simp_all
    · have hcn : c = none := by
        cases hst with
        | call => exact absurd rfl hcall
        | un _ _ => rfl
        | both => rfl
      subst hcn
      have hnc : decide (n.w = ("call" : Str)) = false := by
        cases n with
        | name i => cases hn
        | told i => cases hn
        | knd t k => exact (by cases t <;> decide +kernel : decide (t.w = ("call" : Str)) = false)
        | wd t => cases t <;> first | exact absurd rfl hcall | decide +kernel
      refine reqS_go hnc ?_
      walk_at "rd"
      refine reqS_go (acts_ne hwa (by decide +kernel)) ?_
      walk_at "rd"
      refine reqS_go (acts_ne hwa (by decide +kernel)) ?_
      walk_at "rd"
      refine ktn_go len_ok fun y1 H3 _ s1 hy1 => ?_
      refine rin_go (b := false) (sqT_of hy1) rfl rfl (acts_in hwa (by decide +kernel)) ?_
      have m1 := m.mono s1
      walk_at "rd"
      refine kme m1 (by decide +kernel) (by decide +kernel) (by decide +kernel) (by decide +kernel) ?_
      walk_at "rd"
      refine ⟨X, e, ol, wl, cl, Z, os, os1, ws, ws1, cs, n, rfl, m1, hw, hst, fun H4 k4 m4 => ?_⟩
      walk_at "rd"
      exact q _ ((Kp.same s1).trans k4) (by rw [show cs ++ oL none = cs from List.append_nil _]; exact m4)
end
end K42

/-! KM6 -/
/-! worths told anew -/
namespace K42
open PySem PySem.Spec L2 He
def KLt (K : PySem.W.Frag) (g : TG) (tt : TT) (te : TE) (vs : List Nat) (σ : L2.St) (Q : VK) : VK := fun x H1 => ∃ a, x = .ref a ∧ (∃ xs, SqT K H1 a xs) ∧ KLc (Itt K a) g tt te vs σ Q H1
section
variable {K : PySem.W.Frag} {σ : L2.St} {H : Hp} {Q : VK} {te tx : TE} {tt : TT} {g : TG} {a : Addr} {xs : List V} {ws : List Nat}
theorem rd_lt (q : tx σ H (KLt K g tt te ws σ Q)) : tLc (iTup K tx) g tt te ws σ H Q := q
/-- [e for x in a tuple] -/
theorem lt_go (h : SqT K H a xs) (Pv : Addr → Nat → Hp → Prop) (h0 : ∀ D, H D = none → Pv D 0 (upd H D (.lst []))) (hG : ∀ D i H1, H D = none → i ≤ xs.length → Pv D i H1 → SqT K H1 a xs)
    (hs : ∀ D i x H1, H D = none → xs[i]? = some x → Pv D i H1 → g x (wipe σ ws) H1 fun σ2 H2 => wipe σ2 ws = wipe σ ws ∧ tt σ2 H2 fun b H3 =>
      if b = true then te σ2 H3 fun y H4 => ∃ acc, H4 D = some (.lst acc) ∧ acc.length < sizeLine ∧ Pv D (i + 1) (upd H4 D (.lst (acc ++ [y]))) else Pv D (i + 1) H3) (hd : ∀ D H1, H D = none → Pv D xs.length H1 → Q (.ref D) H1) : KLt K g tt te ws σ Q (.ref a) H :=
  ⟨a, rfl, ⟨xs, h⟩, fun D hD => lc_tup (Pv D) (h0 D hD) (fun i H1 hi p => hG D i H1 hD hi p) (fun i x H1 e p => hs D i x H1 hD e p) (fun H1 p => hd D H1 hD p)⟩
end
local macro_rules | `(tactic| walk_at "rd") => `(tactic| repeat (first | ((with_reducible refine' rd_var ?hvar ?_); (case hvar => exact rfl)) | with_reducible refine rd_seq ?_ | with_reducible refine rd_asg ?_ | with_reducible refine rd_ret ?_ | with_reducible refine rd_drop ?_ | with_reducible refine rd_ifs ?_ | with_reducible refine rd_name ?_ | with_reducible refine rd_c ?_ | with_reducible refine rd_cons ?_ | with_reducible refine rd_nil ?_ | with_reducible refine rd_cb ?_ | with_reducible refine rd_op ?_ | with_reducible refine rd_test ?_ | with_reducible refine rd_tb ?_ | with_reducible refine rd_and ?_ | with_reducible refine rd_or ?_ | with_reducible refine rd_not ?_ | with_reducible refine rd_andv ?_ | with_reducible refine rd_orv ?_ | with_reducible refine rd_notv ?_ | with_reducible refine rd_if ?_ | with_reducible refine rd_nx ?_ | with_reducible refine rd_retn ?_ | with_reducible refine rd_par ?_ | with_reducible refine rd_par3 ?_ | with_reducible refine rd_tup ?_ | with_reducible refine rd_lst ?_ | with_reducible refine rd_call ?_ | with_reducible refine rd_meth ?_ | with_reducible refine rd_make ?_ | with_reducible refine rd_fld ?_ | with_reducible refine rd_sfld ?_ | with_reducible refine rd_bm ?_ | with_reducible refine rd_bm0 ?_ | with_reducible refine rd_prop ?_ | with_reducible refine rd_dget ?_ | with_reducible refine rd_dnin ?_ | with_reducible refine rd_chain ?_ | with_reducible refine rd_sub ?_ | with_reducible refine rd_un ?_ | with_reducible refine rd_fl ?_ | with_reducible refine rd_ft ?_ | with_reducible refine rd_fr ?_ | with_reducible refine rd_fd ?_ | with_reducible refine rd_fe ?_ | with_reducible refine rd_ll ?_ | with_reducible refine rd_le ?_ | with_reducible refine rd_yes ?_ | with_reducible refine rd_dg2 ?_ | with_reducible refine rd_calld ?_ | with_reducible refine rd_lt ?_ | with_reducible refine rd_rev ?_ | with_reducible refine rd_sl ?_ | with_reducible refine rd_thru ?_ | with_reducible refine kb_go ?_ | with_reducible refine kpar_go ?_ | with_reducible refine kpar3_go ?_ | with_reducible refine ri0_go ?_ | with_reducible refine ru_go ?_ | ((with_reducible refine ifT ?hift ?_); (case hift => exact rfl)) | ((with_reducible refine ifF ?hiff ?_); (case hiff => exact rfl))))
local macro_rules | `(tactic| walk_at "dt") => `(tactic| first | refine ifT (by decide +kernel) ?_ | ((refine ifT ?hdt ?_); (case hdt => exact decide_eq_true (by omega))))
local macro_rules | `(tactic| walk_at "df") => `(tactic| first | refine ifF (by decide +kernel) ?_ | ((refine ifF ?hdf ?_); (case hdf => exact decide_eq_false (by omega))))

/-- worths of data -/
inductive Dw : W → Prop where
  | int {n : Nat} : Dw (.int n)
  | both {a b : W} : Dw a → Dw b → Dw (.both a b)
  | left {a : W} : Dw a → Dw (.left a)
  | right {a : W} : Dw a → Dw (.right a)
def W.pd : W → PyData
  | .int n => .int n
  | .both a b => .tuple [.str "both", a.pd, b.pd]
  | .left a => .tuple [.str "left", a.pd]
  | .right a => .tuple [.str "right", a.pd]
  | .made _ _ _ _ => .none
def W.dp : W → Nat
  | .int _ => 0
  | .both a b => 1 + max a.dp b.dp
  | .left a => 1 + a.dp
  | .right a => 1 + a.dp
  | .made _ _ _ _ => 0
/-- worths of data on the heap -/
inductive DwAt (K : PySem.W.Frag) (H : Hp) : V → W → Prop where
  | int {n : Nat} : DwAt K H (.int n) (.int n)
  | both {a : Addr} {x y : V} {u v : W} : SqT K H a [.str "both", x, y] → DwAt K H x u → DwAt K H y v → DwAt K H (.ref a) (.both u v)
  | left {a : Addr} {x : V} {u : W} : SqT K H a [.str "left", x] → DwAt K H x u → DwAt K H (.ref a) (.left u)
  | right {a : Addr} {x : V} {u : W} : SqT K H a [.str "right", x] → DwAt K H x u → DwAt K H (.ref a) (.right u)
section
variable {K : PySem.W.Frag} {H H1 : Hp}
theorem DwAt.tp (e : TpS H H1) {v : V} {x : W} (h : DwAt K H v x) : DwAt K H1 v x := by
  induction h with
  | int => exact .int
  | both h _ _ i1 i2 => exact .both (e.sqt h) i1 i2
  | left h _ i1 => exact .left (e.sqt h) i1
  | right h _ i1 => exact .right (e.sqt h) i1
theorem DwAt.pd {v : V} {w : W} (h : DwAt K H v w) : L2.Dp K H v w.pd := by
  induction h with
  | int => exact .int _
  | both hS _ _ i1 i2 => exact .tup hS (.cons (.str _) (.cons i1 (.cons i2 .nil)))
  | left hS _ i1 => exact .tup hS (.cons (.str _) (.cons i1 .nil))
  | right hS _ i1 => exact .tup hS (.cons (.str _) (.cons i1 .nil))
theorem MwAt.dw {Z : Tm} {v : V} {w : W} (h : MwAt K H Z v (.inl w)) (d : Dw w) : DwAt K H v w := by
  induction d generalizing v with
  | int => cases h; exact .int
  | both _ _ i1 i2 =>
    cases h with
    | both hS h1 h2 => exact .both hS (i1 h1) (i2 h2)
  | left _ i1 =>
    cases h with
    | left hS h1 => exact .left hS (i1 h1)
  | right _ i1 =>
    cases h with
    | right hS h1 => exact .right hS (i1 h1)
theorem LwAt.dw {v : V} {w : W} (h : LwAt K H v (.inl w)) (d : Dw w) : DwAt K H v w := by
  induction d generalizing v with
  | int => cases h; exact .int
  | both _ _ i1 i2 =>
    cases h with
    | both hS h1 h2 => exact .both hS (i1 h1) (i2 h2)
  | left _ i1 =>
    cases h with
    | left hS h1 => exact .left hS (i1 h1)
  | right _ i1 =>
    cases h with
    | right hS h1 => exact .right hS (i1 h1)
theorem wparts {v : V} {x : W} (h : DwAt K H v x) : (∃ n : Nat, x = .int n ∧ v = .int n) ∨ ∃ (a : Addr) (z : Str) (us : List V) (ts : List W), v = .ref a ∧ SqT K H a (.str z :: us) ∧ Al (DwAt K H) us ts ∧ us ≠ [] ∧ us.length ≤ 2 ∧
    (∀ t ∈ ts, t.dp + 1 ≤ x.dp) ∧ cutV (.str z :: us) (some 1) none = us ∧ ∀ H1 b us1, H1 b = some (.tup (.str z :: us1)) → Al (DwAt K H1) us1 ts → DwAt K H1 (.ref b) x := by
  cases h with
  | int => exact .inl ⟨_, rfl, rfl⟩
  | @both a x y u v hS h1 h2 =>
    right
    refine ⟨_, _, _, [u, v], rfl, hS, .cons h1 (.cons h2 .nil), by simp, by simp, fun t ht => ?_, rfl, fun H1 b us1 e g => ?_⟩
    · rcases List.mem_cons.mp ht with rfl | ht
      · simp only [W.dp]; omega
      · rcases List.mem_cons.mp ht with rfl | ht
        · simp only [W.dp]; omega
        · cases ht
    · cases g with
      | cons g1 g =>
        cases g with
        | cons g2 g =>
          cases g
          exact .both (sqT_of e) g1 g2
  | @left a x u hS h1 =>
    right
    refine ⟨_, _, _, [u], rfl, hS, .cons h1 .nil, by simp, by simp, fun t ht => ?_, rfl, fun H1 b us1 e g => ?_⟩
    · rcases List.mem_cons.mp ht with rfl | ht
      · simp only [W.dp]; omega
      · cases ht
    · cases g with
      | cons g1 g =>
        cases g
        exact .left (sqT_of e) g1
  | @right a x u hS h1 =>
    right
    refine ⟨_, _, _, [u], rfl, hS, .cons h1 .nil, by simp, by simp, fun t ht => ?_, rfl, fun H1 b us1 e g => ?_⟩
    · rcases List.mem_cons.mp ht with rfl | ht
      · simp only [W.dp]; omega
      · cases ht
    · cases g with
      | cons g1 g =>
        cases g
        exact .right (sqT_of e) g1
end
section
variable {P : Program} {w : World} {K : PySem.W.Frag} {mg : Str → Option Value} {base : Heap}
def sp_told_worth (K : PySem.W.Frag) (n : Nat) : Sp := fun vs H Q _ => ∃ (v : V) (x : W), vs = [v] ∧ x.dp ≤ n ∧ DwAt K H v x ∧ ∀ u H1, Same H H1 → DwAt K H1 u x → Q u H1
theorem ok_told_worth (T : Tx w K mg) : ∀ n : Nat, OkF P w K mg base (n + 1) (ga K "told_worth") ["worth"] (sp_told_worth K n)
  | 0 => by
    refine okF T.f_told_worth rfl sc_told_worth b_told_worth (fun vs H Q E h => by obtain ⟨x, k, rfl, _⟩ := h; rfl) (fun cdv A outer s H vs Q E hr h => ?_)
    obtain ⟨v, x, rfl, hd, hv, q⟩ := h
    refine ⟨_, (pss_cons (ps_if (pt_val (pe_callB call_isi (by rfl) T.n_isinstance (by decide +kernel) (pa_cons (pv 0) (pa_cons (pe_gt (n := "int") T.n_int (by decide +kernel)) pa_nil)))) (pss_one (ps_ret (pv 0))) pss_nil)
      (pss_one ps_never)), ?_⟩
    walk_at "rd"
    rcases wparts hv with ⟨n, rfl, rfl⟩ | ⟨a, z, us, ts, rfl, hS, hA, hne, hl, ht, hcut, hmk⟩
    · refine isi_go tyx_int (b := true) (by decide +kernel) ?_
      walk_at "rd"
      exact q _ _ (Same.refl _) hv
    · exfalso
      cases hA with
      | nil => exact hne rfl
      | cons _ _ =>
        have := ht _ (List.mem_cons_self ..)
        omega
  | n + 1 => by
    have G_told_worth := ok_told_worth T n
    refine okF T.f_told_worth rfl sc_told_worth b_told_worth (fun vs H Q E h => by obtain ⟨x, k, rfl, _⟩ := h; rfl) (fun cdv A outer s H vs Q E hr h => ?_)
    obtain ⟨v, x, rfl, hd, hv, q⟩ := h
    refine ⟨_, (pss_cons (ps_if (pt_val (pe_callB call_isi (by rfl) T.n_isinstance (by decide +kernel) (pa_cons (pv 0) (pa_cons (pe_gt (n := "int") T.n_int (by decide +kernel)) pa_nil)))) (pss_one (ps_ret (pv 0))) pss_nil)
      (pss_one (ps_ret (pe_op op_catA (pe_tup (pa_cons (pe_ix ix_tup (pv 0) pe_int (fun _ _ => rfl)) pa_nil)) (pe_callTy call_tuple_of (by rfl) T.n_tuple (by decide +kernel) (pa_cons (pe_lc (own := [("part", 1)]) (g := gName 1) rfl sc_told_worth.nd (pi_tup (pe_slice sl_tup (pv 0) (po_some pe_int) po_none)) (blkOk_by (own := [("part", 1)]) (N := ["worth", "part"]) (sc := defScope s_told_worth) (by decide +kernel)) (fun _ _ _ _ _ => (pg_name (i := 1) sc_told_worth.nd rfl (Or.inl rfl))) (fun _ _ _ _ _ => pts_nil) (fun _ _ _ _ _ => (pe_f G_told_worth T.g_told_worth hr (pa_cons (pv 1) pa_nil)))) pa_nil)))))), ?_⟩
    walk_at "rd"
    rcases wparts hv with ⟨n, rfl, rfl⟩ | ⟨a, z, us, ts, rfl, hS, hA, hne, hl, ht, hcut, hmk⟩
    · refine isi_go tyx_int (b := true) (by decide +kernel) ?_
      walk_at "rd"
      exact q _ _ (Same.refl _) hv
    · refine isi_go (tyx_tup hS) (b := false) (by decide +kernel) ?_
      walk_at "rd"
      refine ixt_go hS at0 ?_
      walk_at "rd"
      refine ktn_go len_ok fun p0 H0 _ s0 hp0 => ?_
      walk_at "rd"
      refine ⟨1, rfl, ?_⟩
      refine ⟨a, _, rfl, Same.sqt s0 hS, ?_, fun p1 hp1 => ?_⟩
      · intro z2
        have z3 := z2.1
        have : us.length ≠ 0 := fun e => hne (List.length_eq_zero_iff.mp e)
        unfold HT.sIx at z3
        simp at z3
      rw [hcut]
      have s1 := s0.trans (same_upd (o := .tup us) hp1)
      have hp1' : (upd H0 p1 (.tup us)) p1 = some (.tup us) := upd_same
      have hp01 := same_upd (o := .tup us) hp1 _ _ hp0
      generalize upd H0 p1 (.tup us) = H1 at s1 hp1' hp01 ⊢
      refine lt_go (sqT_of hp1') (fun D i H2 => Same H1 H2 ∧ ∃ ys, H2 D = some (.lst ys) ∧ Al (DwAt K H2) ys (ts.take i)) (fun D hD => ⟨same_upd hD, [], upd_same, by rw [List.take_zero]; exact .nil⟩) (fun D i H2 hD hi ⟨s2, _⟩ => Same.sqt s2 (sqT_of hp1')) ?_ ?_
      · rintro D i x2 H2 hD hx2 ⟨s2, ys, hD2, hys⟩
        obtain ⟨t, htt, hdt⟩ := hA.getV hx2
        refine ⟨rfl, ?_⟩
        walk_at "rd"
        have htm := ht t (List.mem_of_getElem? htt)
        refine ⟨x2, t, rfl, by omega, hdt.tp (.same (s1.trans s2)), fun u H3 s3 hu => ?_⟩
        have hD3 := s3 _ _ hD2
        have t4 := TpS.lst (o := .lst (ys ++ [u])) hD3
        refine ⟨ys, hD3, line_gt (by rw [hys.len, List.length_take]; have := hA.len; omega), same_mut (s2.trans s3) hD, ys ++ [u], upd_same, ?_⟩
        rw [List.take_succ, htt]
        exact (hys.imp fun _ _ z => (z.tp (.same s3)).tp t4).app (.cons (hu.tp t4) .nil)
      · rintro D H2 hD ⟨s2, ys, hD2, hys⟩
        rw [List.take_of_length_le (by rw [hA.len]; exact Nat.le_refl _)] at hys
        walk_at "rd"
        refine ⟨D, ys, rfl, .inl ⟨sqL_of hD2, fun p2 hp2 => ?_⟩⟩
        have s3 := s2.trans (same_upd (o := .tup ys) hp2)
        have hp3 : (upd H2 p2 (.tup ys)) p2 = some (.tup ys) := upd_same
        have hys3 := hys.imp fun _ _ z => z.tp (.same (same_upd (o := .tup ys) hp2))
        generalize upd H2 p2 (.tup ys) = H3 at s3 hp3 hys3 ⊢
        have hyl : ys.length = us.length := by rw [hys.len, hA.len]
        refine ⟨p0, p2, _, _, rfl, rfl, Same.sqt s3 (sqT_of hp01), sqT_of hp3, line_ge (by rw [hyl]; simp; omega), (fun e => by cases e), (fun _ e => ?_), fun _ _ p4 hp4 => ?_⟩
        · rw [e] at hyl
          exact absurd (List.length_eq_zero_iff.mp hyl.symm) hne
        · have s4 := same_upd (o := .tup ([.str z] ++ ys)) hp4
          exact q _ _ (s1.trans (s3.trans s4)) (hmk _ _ ys upd_same (hys3.imp fun _ _ z => z.tp (.same s4)))
end
end K42

/-! KM7 -/
/-! the engine: all_done, worth_in, made; begins -/
namespace K42
open PySem PySem.Spec L2 He
local macro_rules | `(tactic| walk_at "rd") => `(tactic| repeat (first | ((with_reducible refine' rd_var ?hvar ?_); (case hvar => exact rfl)) | with_reducible refine rd_seq ?_ | with_reducible refine rd_asg ?_ | with_reducible refine rd_ret ?_ | with_reducible refine rd_drop ?_ | with_reducible refine rd_ifs ?_ | with_reducible refine rd_name ?_ | with_reducible refine rd_c ?_ | with_reducible refine rd_cons ?_ | with_reducible refine rd_nil ?_ | with_reducible refine rd_cb ?_ | with_reducible refine rd_op ?_ | with_reducible refine rd_test ?_ | with_reducible refine rd_tb ?_ | with_reducible refine rd_and ?_ | with_reducible refine rd_or ?_ | with_reducible refine rd_not ?_ | with_reducible refine rd_andv ?_ | with_reducible refine rd_orv ?_ | with_reducible refine rd_notv ?_ | with_reducible refine rd_if ?_ | with_reducible refine rd_nx ?_ | with_reducible refine rd_retn ?_ | with_reducible refine rd_par ?_ | with_reducible refine rd_par3 ?_ | with_reducible refine rd_tup ?_ | with_reducible refine rd_lst ?_ | with_reducible refine rd_call ?_ | with_reducible refine rd_meth ?_ | with_reducible refine rd_make ?_ | with_reducible refine rd_fld ?_ | with_reducible refine rd_sfld ?_ | with_reducible refine rd_bm ?_ | with_reducible refine rd_bm0 ?_ | with_reducible refine rd_prop ?_ | with_reducible refine rd_dget ?_ | with_reducible refine rd_dnin ?_ | with_reducible refine rd_chain ?_ | with_reducible refine rd_sub ?_ | with_reducible refine rd_un ?_ | with_reducible refine rd_fl ?_ | with_reducible refine rd_ft ?_ | with_reducible refine rd_fr ?_ | with_reducible refine rd_fd ?_ | with_reducible refine rd_fe ?_ | with_reducible refine rd_ll ?_ | with_reducible refine rd_le ?_ | with_reducible refine rd_yes ?_ | with_reducible refine rd_dg2 ?_ | with_reducible refine rd_calld ?_ | with_reducible refine rd_lt ?_ | with_reducible refine rd_rev ?_ | with_reducible refine rd_sl ?_ | with_reducible refine rd_thru ?_ | with_reducible refine kb_go ?_ | with_reducible refine kpar_go ?_ | with_reducible refine kpar3_go ?_ | with_reducible refine ri0_go ?_ | with_reducible refine ru_go ?_ | ((with_reducible refine ifT ?hift ?_); (case hift => exact rfl)) | ((with_reducible refine ifF ?hiff ?_); (case hiff => exact rfl))))
local macro_rules | `(tactic| walk_at "dt") => `(tactic| first | refine ifT (by decide +kernel) ?_ | ((refine ifT ?hdt ?_); (case hdt => exact decide_eq_true (by omega))))
local macro_rules | `(tactic| walk_at "df") => `(tactic| first | refine ifF (by decide +kernel) ?_ | ((refine ifF ?hdf ?_); (case hdf => exact decide_eq_false (by omega))))

section
variable {K : PySem.W.Frag} {X : Addr → Prop} {H H1 : Hp} {e ol wl cl : Addr} {Z : Tm} {os : List Od} {ws : List W} {cs : List Nat}
theorem ppO {x : Od} {σ : L2.St} {Q : VK} (m : MsAt K X H e ol wl cl Z (x :: os) ws cs) (q : ∀ v H1, TpS H H1 → Kp (Mu ol wl cl) H H1 → OdAt K H1 Z v x → MsAt K X H1 e ol wl cl Z os ws cs → Q v H1) : KBm K "list" rPop tNil σ Q (.ref ol) H := by
  obtain ⟨v, vs, h, hv, m1⟩ := m.topO
  exact kbm_go h (pop_go h (q v _ m.tO kO (hv.tp m.tO) m1))
/-- orders != [] -/
theorem neO {b : Addr} {Q : VK} (m : MsAt K X H e ol wl cl Z os ws cs) (hb : H b = some (.lst [])) (q : Q (.bl (!os.isEmpty)) H) : rNeE (.ref ol) (.ref b) H Q := by
  obtain ⟨xs, h, hl⟩ := m.hol
  refine ⟨ol, b, xs, rfl, rfl, h, hb, ?_⟩
  have : xs.isEmpty = os.isEmpty := by
    cases xs with
    | nil => cases os with
      | nil => rfl
      | cons _ _ => cases hl
    | cons _ _ => cases os with
      | nil => cases hl
      | cons _ _ => rfl
  rw [this]
  exact q
theorem Stp.oN {c : Option Nat} {os1 : List Od} {ws1 : List W} (h : Stp Z os ws c os1 ws1) : ∃ o r, os = o :: r := by cases h <;> exact ⟨_, _, rfl⟩

/-- no tuple -/
def NT (o : HO) : Prop := (∀ xs, o ≠ .tup xs) ∧ ∀ z xs, o ≠ .frz z (.tup xs)
def EnG (K : PySem.W.Frag) (X : Addr → Prop) (H : Hp) (e cl : Addr) (Z : Tm) (cs : List Nat) : Prop := (∃ dx a ch us, EnA K (hid (fun b => b = cl ∨ X b) H) e cl Z dx a ch us) ∧ H cl = some (.lst (cs.map iv))
theorem EnG.mono (s : Same H H1) (h : EnG K X H e cl Z cs) : EnG K X H1 e cl Z cs := by
  obtain ⟨⟨dx, a, ch, us, h1⟩, h2⟩ := h
  exact ⟨⟨dx, a, ch, us, h1.mono (Kp.same s).hid⟩, s _ _ h2⟩
theorem EnG.start {v : V} {o : Od} (h : EnG K X H e cl Z cs) (s : Same H H1) (ho : H ol = none) (hw : H wl = none) (n : ol ≠ wl) (ho1 : H1 ol = some (.lst [v])) (hv : OdAt K H1 Z v o) (hw1 : H1 wl = some (.lst [])) : MsAt K X H1 e ol wl cl Z [o] [] cs := by
  obtain ⟨⟨dx, a, ch, us, h1⟩, h2⟩ := h
  refine ⟨⟨dx, a, ch, us, h1.mono fun b u e => ?_⟩, ⟨[v], ho1, .cons hv .nil⟩, ⟨[], hw1, .nil⟩, s _ _ h2, n, fun z => ?_, fun z => ?_⟩
  · obtain ⟨e1, n1⟩ := of_hid e
    refine hid_at (s _ _ e1) ?_
    rintro ((z | z | z) | z)
    · rw [z, ho] at e1; cases e1
    · rw [z, hw] at e1; cases e1
    · exact n1 (.inl z)
    · exact n1 (.inr z)
  · rw [z, h2] at ho; cases ho
  · rw [z, h2] at hw; cases hw
end
section
variable {P : Program} {w : World} {K : PySem.W.Frag} {mg : Str → Option Value} {base : Heap}
def sp_Engine_all_done (K : PySem.W.Frag) : Sp := fun vs H Q _ => ∃ (X : Addr → Prop) (e ol wl cl : Addr) (Z : Tm) (os : List Od) (ws : List W) (cs ds : List Nat) (f : W) (n : Nat), vs = [.ref e, .ref ol, .ref wl] ∧ MsAt K X H e ol wl cl Z os ws cs ∧ Z.ok ∧ Go Z f n os ws ds ∧ n ≤ 40000 ∧ cs.length + ds.length < 2000 ∧
  ∀ v H1, Kp (Mu ol wl cl) H H1 → MwAt K H1 Z v (.inl f) → MsAt K X H1 e ol wl cl Z [] [] (cs ++ ds) → Q v H1
theorem ok_Engine_all_done (T : Tx w K mg) : OkF P w K mg base 5 (ma K (ga K "Engine") "all_done") ["self", "orders", "worths"] (sp_Engine_all_done K) := by
  have G_Engine_done := ok_Engine_done (P := P) (base := base) T
  refine okF T.f_Engine_all_done rfl sc_Engine_all_done b_Engine_all_done (fun vs H Q E h => by obtain ⟨_, _, _, _, _, _, _, _, _, _, _, _, rfl, _⟩ := h; rfl) (fun cdv A outer s H vs Q E hr h => ?_)
  obtain ⟨X, e, ol, wl, cl, Z, os, ws, cs, ds, f, n, rfl, m, hZ, hg, hn, hc, q⟩ := h
  refine ⟨_, (pss_cons (ps_while PassesOwn.never (pt_cmpR (op_neE (hu64 hr)) (pv 1) (pe_lst pa_nil) (nomark _)) (pss_one (ps_expr (pe_o (pv 0) T.c_Engine T.m_Engine_done G_Engine_done (hr.mono (by decide)) (pa_cons (pe_bm0 PySem.F.plainAttrs_list PySem.F.slot_list_pop PySem.F.type_list_pop mt_pop (pv 1)) (pa_cons (pv 1) (pa_cons (pv 2) pa_nil)))))))
      (pss_one (ps_ret (pe_bm0 PySem.F.plainAttrs_list PySem.F.slot_list_pop PySem.F.type_list_pop mt_pop (pv 2))))), ?_⟩
  walk_at "rd"
  refine wh_go (fun n' σ H' => ∃ os' ws' cs' ds', σ = [some (.ref e), some (.ref ol), some (.ref wl)] ∧ Kp (Mu ol wl cl) H H' ∧ MsAt K X H' e ol wl cl Z os' ws' cs' ∧ Go Z f n' os' ws' ds' ∧ n' ≤ 40000 ∧ cs' ++ ds' = cs ++ ds) n ⟨os, ws, cs, ds, rfl, Kp.refl, m, hg, hn, rfl⟩ ?_
  rintro n' σ H' ⟨os', ws', cs', ds', rfl, kp, m', hg', hn', hcs⟩
  have hl := hg'.len
  have hcl : cs'.length + ds'.length < 2000 := by
    have h := congrArg List.length hcs
    rw [List.length_append, List.length_append] at h
    omega
  walk_at "rd"
  refine kln_go len_ok fun b H1 _ s1 hb => ?_
  have m1 := m'.mono s1
  have kp1 := kp.trans (Kp.same s1)
  refine neO m1 hb ?_
  cases hg' with
  | done =>
    walk_at "rd"
    refine ppW m1 fun v H2 t2 k2 hv m2 => ?_
    rw [List.append_nil] at hcs
    subst hcs
    exact q v H2 (kp1.trans k2) hv m2
  | @step n1 _ os1 _ ws1 _ hst hg1 =>
    obtain ⟨o, r, rfl⟩ := hst.oN
    walk_at "rd"
    refine wh_in ?_
    walk_at "rd"
    refine kme m1 (by decide +kernel) (by decide +kernel) (by decide +kernel) (by decide +kernel) ?_
    walk_at "rd"
    refine ppO m1 fun v H2 t2 k2 hv m2 => ?_
    walk_at "rd"
    rw [List.length_cons] at hl
    refine ⟨X, e, ol, wl, cl, Z, o, r, os1, ws', ws1, cs', none, v, rfl, m2, hv, hZ, by omega, by omega, by omega, hst, fun H3 k3 m3 => ?_⟩
    walk_at "rd"
    rw [show cs' ++ oL none = cs' from List.append_nil _] at m3
    exact ⟨n1, Nat.lt_succ_self _, os1, ws1, cs', ds', rfl, kp1.trans (k2.trans k3), m3, hg1, by omega, hcs⟩
  | @call n1 p _ os1 _ ws1 ds1 hst hg1 =>
    obtain ⟨o, r, rfl⟩ := hst.oN
    walk_at "rd"
    refine wh_in ?_
    walk_at "rd"
    refine kme m1 (by decide +kernel) (by decide +kernel) (by decide +kernel) (by decide +kernel) ?_
    walk_at "rd"
    refine ppO m1 fun v H2 t2 k2 hv m2 => ?_
    walk_at "rd"
    rw [List.length_cons] at hl
    refine ⟨X, e, ol, wl, cl, Z, o, r, os1, ws', ws1, cs', some p, v, rfl, m2, hv, hZ, by omega, by omega, by omega, hst, fun H3 k3 m3 => ?_⟩
    walk_at "rd"
    exact ⟨n1, Nat.lt_succ_self _, os1, ws1, cs' ++ [p], ds1, rfl, kp1.trans (k2.trans k3), m3, hg1, by omega, by rw [List.append_assoc]; exact hcs⟩
def sp_Engine_worth_in (K : PySem.W.Frag) : Sp := fun vs H Q _ => ∃ (X : Addr → Prop) (e cl : Addr) (Z : Tm) (ds : List Nat) (f : W) (n : Nat) (rv : V), vs = [.ref e, rv] ∧ EnG K X H e cl Z [] ∧ MwAt K H Z rv (.inr []) ∧ Z.ok ∧ Go Z f n [.see 0 []] [] ds ∧ n ≤ 40000 ∧ ds.length < 2000 ∧
  ∀ v H1, Kp (fun b => b = cl) H H1 → MwAt K H1 Z v (.inl f) → H1 cl = some (.lst (ds.map iv)) → Q v H1
theorem ok_Engine_worth_in (T : Tx w K mg) : OkF P w K mg base 6 (ma K (ga K "Engine") "worth_in") ["self", "row"] (sp_Engine_worth_in K) := by
  have G_Engine_all_done := ok_Engine_all_done (P := P) (base := base) T
  refine okF T.f_Engine_worth_in rfl sc_Engine_worth_in b_Engine_worth_in (fun vs H Q E h => by obtain ⟨_, _, _, _, _, _, _, _, rfl, _⟩ := h; rfl) (fun cdv A outer s H vs Q E hr h => ?_)
  obtain ⟨X, e, cl, Z, ds, f, n, rv, rfl, hE, hrv, hZ, hg, hn, hc, q⟩ := h
  refine ⟨_, (pss_one (ps_ret (pe_o (pv 0) T.c_Engine T.m_Engine_all_done G_Engine_all_done (hr.mono (by decide)) (pa_cons (pe_lst (pa_cons (pe_tup (pa_cons pe_str (pa_cons pe_int (pa_cons (pv 1) pa_nil)))) pa_nil)) (pa_cons (pe_lst pa_nil) pa_nil))))), ?_⟩
  obtain ⟨⟨dx, a, ch, us, he⟩, hcl⟩ := id hE
  walk_at "rd"
  refine kmet_go (en_go he) (en_m _ _ _ _ (by decide +kernel) (by decide +kernel) (by decide +kernel) (by decide +kernel)) ?_
  walk_at "rd"
  refine ktn_go len_ok fun p1 H1 hp1 s1 hp1' => ?_
  walk_at "rd"
  refine kln_go len_ok fun ol H2 hol s2 hol' => ?_
  walk_at "rd"
  refine kln_go len_ok fun wl H3 hwl s3 hwl' => ?_
  walk_at "rd"
  have s23 := s2.trans s3
  have now : ol ≠ wl := ne_of_none hol' hwl
  have hov : OdAt K H3 Z (.ref p1) (.see 0 []) := .see (Same.sqt s23 (sqT_of hp1')) ((hrv.mono s1).mono s23)
  have m := hE.start (s1.trans s23) (s1.free hol) (s1.free (s2.free hwl)) now (s3 _ _ hol') hov hwl'
  refine ⟨X, e, ol, wl, cl, Z, _, [], [], ds, f, n, rfl, m, hZ, hg, hn, by simpa using hc, fun v H4 k4 hv m4 => ?_⟩
  refine q v H4 (fun b o hb nb => k4 b o (s23 _ _ (s1 _ _ hb)) ?_) hv m4.c
  rintro (z | z | z)
  · rw [z, s1.free hol] at hb; cases hb
  · rw [z, s1.free (s2.free hwl)] at hb; cases hb
  · exact nb z
def sp_Engine_init (K : PySem.W.Frag) : Sp := fun vs H Q _ => ∃ (x dx a : Addr) (Z : Tm), vs = [.ref x, .ref a, .int 2000] ∧ H x = some (.ins (ga K "Engine") dx []) ∧ NlAt K H a Z ∧ Z.ok ∧ Z.size ≤ 300 ∧
  ∀ cl H1, H cl = none → Kp (fun b => b = x) H H1 → (∀ X, ¬ X a → ¬ X x → (∀ b, X b → ∃ o, H b = some o ∧ NT o) → EnG K X H1 x cl Z []) → Q .non H1
theorem ok_Engine_init (T : Tx w K mg) : OkF P w K mg base 3 (ma K (ga K "Engine") "__init__") ["self", "term", "limit"] (sp_Engine_init K) := by
  have G_children_of := ok_children_of (P := P) (base := base) T
  refine okF T.f_Engine_init rfl sc_Engine_init b_Engine_init (fun vs H Q E h => by obtain ⟨_, _, _, _, rfl, _⟩ := h; rfl) (fun cdv A outer s H vs Q E hr h => ?_)
  obtain ⟨x, dx, a, Z, rfl, hx, hN, hZ, hz, q⟩ := h
  refine ⟨_, (pss_cons (ps_fld (pv 0) (pv 1) rfl)
      (pss_cons (ps_fld (pv 0) (pe_f G_children_of T.g_children_of (hr.mono (by decide)) (pa_cons (pv 1) pa_nil)) rfl)
      (pss_cons (ps_fld (pv 0) (pv 2) rfl)
      (pss_one (ps_fld (pv 0) (pe_lst pa_nil) rfl))))), ?_⟩
  walk_at "rd"
  refine kst_go hx T.c_Engine T.na_Engine_own_nodes (by simp) ?_
  have t1 := TpS.ins (o := .ins (ga K "Engine") dx (putF "own_nodes" (.ref a) [])) hx
  have hx1 : (upd H x (.ins (ga K "Engine") dx (putF "own_nodes" (.ref a) []))) x = _ := upd_same
  have k1 : Kp (fun b => b = x) H (upd H x (.ins (ga K "Engine") dx (putF "own_nodes" (.ref a) []))) := Kp.mut rfl
  have f1 : ∀ b, (upd H x (.ins (ga K "Engine") dx (putF "own_nodes" (.ref a) []))) b = none → H b = none := fun b h => by
    by_cases z : b = x
    · rw [z, hx1] at h; cases h
    · rw [upd_ne z] at h; exact h
  have hN1 : NlAt K (upd H x (.ins (ga K "Engine") dx (putF "own_nodes" (.ref a) []))) a Z := by
    obtain ⟨vs, h1, h2⟩ := hN
    exact ⟨vs, by rw [upd_ne (ne_of h1 hx (by intro z; cases z))]; exact h1, h2.imp fun _ _ z => z.tp t1⟩
  generalize upd H x (.ins (ga K "Engine") dx (putF "own_nodes" (.ref a) [])) = H1 at t1 hx1 k1 hN1 f1 ⊢
  walk_at "rd"
  refine ⟨a, Z, rfl, hN1.ns, hZ, hz, fun ch H2 us hch s2 hch2 hchl hfr => ?_⟩
  walk_at "rd"
  have hx2 := s2 _ _ hx1
  have e1 := putF_len ("own_nodes" : Str) (V.ref a) []
  have e2 := putF_len ("own_children" : Str) (V.ref ch) (putF "own_nodes" (.ref a) [])
  have e3 := putF_len ("own_limit" : Str) (V.int 2000) (putF "own_children" (.ref ch) (putF "own_nodes" (.ref a) []))
  simp only [List.length_nil] at e1
  refine kst_go hx2 T.c_Engine T.na_Engine_own_children (by omega) ?_
  walk_at "rd"
  refine kst_go upd_same T.c_Engine T.na_Engine_own_limit (by omega) ?_
  walk_at "rd"
  refine klst_go len_ok fun cl hcl => ?_
  have ncx : cl ≠ x := fun z => by rw [z, upd_same] at hcl; cases hcl
  have hcl2 : H2 cl = none := by rw [upd_ne ncx, upd_ne ncx] at hcl; exact hcl
  walk_at "rd"
  refine kst_go (by rw [upd_ne ncx.symm]; exact upd_same) T.c_Engine T.na_Engine_own_calls (by omega) ?_
  walk_at "rd"
  have hne : ∀ b o, H2 b = some o → b ≠ x → upd (upd (upd (upd H2 x (.ins (ga K "Engine") dx (putF "own_children" (.ref ch) (putF "own_nodes" (.ref a) [])))) x (.ins (ga K "Engine") dx (putF "own_limit" (.int 2000) (putF "own_children" (.ref ch) (putF "own_nodes" (.ref a) []))))) cl (.lst [])) x
      (.ins (ga K "Engine") dx (putF "own_calls" (.ref cl) (putF "own_limit" (.int 2000) (putF "own_children" (.ref ch) (putF "own_nodes" (.ref a) []))))) b = some o := fun b o hb nb => by
    rw [upd_ne nb, upd_ne (ne_of_none hb hcl2), upd_ne nb, upd_ne nb]
    exact hb
  have ncl : ∀ b o, H2 b = some o → b ≠ cl := fun b o hb z => by rw [z, hcl2] at hb; cases hb
  obtain ⟨vs, h1, h2⟩ := hN1.mono s2
  refine q cl _ (f1 _ (s2.free hcl2)) (fun b o hb nb => hne b o (s2 _ _ (k1 b o hb nb)) nb) fun X hXa hXx hX => ?_
  have nX2 : ∀ b o, H2 b = some o → ¬ NT o → ¬ X b := fun b o hb no z => by
    obtain ⟨o2, e, n2⟩ := hX b z
    have ne : b ≠ x := fun y => hXx (y ▸ z)
    have := s2 _ _ (k1 _ _ e ne)
    rw [hb] at this
    cases this
    exact no n2
  have nX3 : ∀ b, H b = none → ¬ X b := fun b hb z => by
    obtain ⟨xs, e, _⟩ := hX b z
    rw [hb] at e
    cases e
  have look : ∀ p o, H2 p = some o → p ≠ x → ¬ X p → (hid (fun b => b = cl ∨ X b) (upd (upd (upd (upd H2 x (.ins (ga K "Engine") dx (putF "own_children" (.ref ch) (putF "own_nodes" (.ref a) [])))) x (.ins (ga K "Engine") dx (putF "own_limit" (.int 2000) (putF "own_children" (.ref ch) (putF "own_nodes" (.ref a) []))))) cl (.lst [])) x
      (.ins (ga K "Engine") dx (putF "own_calls" (.ref cl) (putF "own_limit" (.int 2000) (putF "own_children" (.ref ch) (putF "own_nodes" (.ref a) []))))))) p = some o := fun p o e ne nx =>
    hid_at (hne p _ e ne) fun z => z.elim (ncl p _ e) nx
  refine ⟨⟨dx, a, ch, us, hid_at upd_same (fun z => z.elim ncx.symm hXx), ⟨vs, look _ _ h1 (ne_of h1 hx2 (by intro z; cases z)) hXa, h2.imp fun _ _ z => z.tp ⟨fun p xs e => look _ _ e (ne_of e hx2 (by intro z; cases z)) (nX2 _ _ e fun z => z.1 _ rfl), fun p o xs e => look _ _ e (ne_of e hx2 (by intro z; cases z)) (nX2 _ _ e fun z => z.2 _ _ rfl)⟩⟩,
    look _ _ hch2 (ne_of hch2 hx2 (by intro z; cases z)) (nX3 _ (f1 _ hch)), hchl.1, fun p u hp => ?_⟩, by rw [upd_ne ncx]; exact upd_same⟩
  obtain ⟨l, g1, g2⟩ := hchl.2 p u hp
  exact ⟨l, g1, look _ _ g2 (ne_of g2 hx2 (by intro z; cases z)) (nX3 _ (f1 _ (hfr l (List.mem_of_getElem? g1))))⟩
def sp_begins (K : PySem.W.Frag) : Sp := fun vs H Q _ => ∃ (X : Addr → Prop) (e ol wl cl : Addr) (Z : Tm) (o : Od) (os os1 os2 : List Od) (ws ws1 : List W) (cs : List Nat) (c : Option Nat) (v : V), vs = [v, .ref wl] ∧ MsAt K X H e ol wl cl Z os2 ws cs ∧ OdAt K H Z v o ∧ Stp Z (o :: os) ws c os1 ws1 ∧ ∀ H1, Same H H1 → Q (.bl c.isSome) H1
theorem ok_begins (T : Tx w K mg) : OkF P w K mg base 1 (ga K "begins") ["order", "worths"] (sp_begins K) := by
  refine okF T.f_begins rfl sc_begins b_begins (fun vs H Q E h => by obtain ⟨_, _, _, _, _, _, _, _, _, _, _, _, _, _, _, rfl, _⟩ := h; rfl) (fun cdv A outer s H vs Q E hr h => ?_)
  obtain ⟨X, e, ol, wl, cl, Z, o, os, os1, os2, ws, ws1, cs, c, v, rfl, m, hov, hst, q⟩ := h
  refine ⟨_, (pss_cons (ps_if (pt_cmpR op_in_seq (pe_ix ix_tup (pv 0) pe_int (fun _ _ => rfl)) (pe_tup (pa_cons pe_str (pa_cons pe_str pa_nil))) (by rfl)) (pss_one (ps_ret pe_bl)) pss_nil)
      (pss_cons (ps_if (pt_cmpR op_eq (pe_ix ix_tup (pv 0) pe_int (fun _ _ => rfl)) pe_str (nomark _)) (pss_one (ps_ret (pe_cmpR op_gt (pe_ix ix_tup (pv 0) pe_int (fun _ _ => rfl)) pe_int (nomark _)))) pss_nil)
      (pss_cons (ps_if (pt_cmpR op_eq (pe_ix ix_tup (pv 0) pe_int (fun _ _ => rfl)) pe_str (nomark _)) (pss_one (ps_ret (pe_cmpR op_gt (pe_ix ix_list (pv 1) (pe_un un_neg pe_int) (fun _ _ => rfl)) pe_int (nomark _)))) pss_nil)
      (pss_one (ps_ret (pe_and (pe_cmpR op_eq (pe_ix ix_tup (pv 0) pe_int (fun _ _ => rfl)) pe_str (nomark _)) (pe_one (pe_cmpR op_eq (pe_ix ix_tup (pe_ix ix_list (pv 1) (pe_un un_neg pe_int) (fun _ _ => rfl)) pe_int (fun _ _ => rfl)) pe_str (nomark _))))))))), ?_⟩
  cases hov with
  | @see a y p r hS hr =>
    have hcn : c = none := by cases hst <;> rfl
    subst hcn
    walk_at "rd"
    refine ixt_go hS at0 ?_
    walk_at "rd"
    refine ktn_go len_ok fun y1 H3 _ s1 hy1 => ?_
    refine rin_go (b := false) (sqT_of hy1) rfl rfl (by decide +kernel) ?_
    have hS := Same.sqt s1 hS
    walk_at "rd"
    refine ixt_go hS at0 ?_
    walk_at "rd"
    refine reqS_go (b := false) (by decide +kernel) ?_
    walk_at "rd"
    refine ixt_go hS at0 ?_
    walk_at "rd"
    refine reqS_go (b := false) (by decide +kernel) ?_
    walk_at "rd"
    refine ixt_go hS at0 ?_
    walk_at "rd"
    refine reqS_go (b := false) (by decide +kernel) ?_
    walk_at "rd"
    exact q _ s1
  | @opn a y b p r hS hr =>
    have hcn : c = some p := by cases hst <;> rfl
    subst hcn
    walk_at "rd"
    refine ixt_go hS at0 ?_
    walk_at "rd"
    refine ktn_go len_ok fun y1 H3 _ s1 hy1 => ?_
    refine rin_go (b := true) (sqT_of hy1) rfl rfl (by cases b <;> decide +kernel) ?_
    walk_at "rd"
    exact q _ s1
  | @trn a y p r hS hr =>
    obtain ⟨z, k, ws0, rfl, hck⟩ : ∃ z k ws0, ws = z :: .int k :: ws0 ∧ c.isSome = decide ((0 : Int) < (k : Nat)) := by
      cases hst with
      | trn0 => exact ⟨_, _, _, rfl, rfl⟩
      | @trnS _ k => exact ⟨_, _, _, rfl, (decide_eq_true (by omega : (0 : Int) < ((k + 1 : Nat) : Int))).symm⟩
    rw [hck] at q
    walk_at "rd"
    refine ixt_go hS at0 ?_
    walk_at "rd"
    refine ktn_go len_ok fun y1 H3 _ s1 hy1 => ?_
    refine rin_go (b := false) (sqT_of hy1) rfl rfl (by decide +kernel) ?_
    have hS := Same.sqt s1 hS
    walk_at "rd"
    refine ixt_go hS at0 ?_
    walk_at "rd"
    refine reqS_go (b := false) (by decide +kernel) ?_
    walk_at "rd"
    refine ixt_go hS at0 ?_
    walk_at "rd"
    refine reqS_go (b := true) (by decide +kernel) ?_
    walk_at "rd"
    refine (m.mono s1).ix2 fun v hv => ?_
    cases hv with
    | int =>
      walk_at "rd"
      exact q _ s1
  | @agn a y p k r hS hr =>
    have hck : c.isSome = decide ((0 : Int) < (k : Nat)) := by
      cases hst with
      | agn0 => rfl
      | @agnS _ k => exact (decide_eq_true (by omega : (0 : Int) < ((k + 1 : Nat) : Int))).symm
    rw [hck] at q
    walk_at "rd"
    refine ixt_go hS at0 ?_
    walk_at "rd"
    refine ktn_go len_ok fun y1 H3 _ s1 hy1 => ?_
    refine rin_go (b := false) (sqT_of hy1) rfl rfl (by decide +kernel) ?_
    have hS := Same.sqt s1 hS
    walk_at "rd"
    refine ixt_go hS at0 ?_
    walk_at "rd"
    refine reqS_go (b := true) (by decide +kernel) ?_
    walk_at "rd"
    refine ixt_go hS at3 ?_
    walk_at "rd"
    exact q _ s1
  | @act a n hS hn =>
    have hwa := acts_w hn
    walk_at "rd"
    refine ixt_go hS at0 ?_
    walk_at "rd"
    refine ktn_go len_ok fun y1 H3 _ s1 hy1 => ?_
    refine rin_go (b := false) (sqT_of hy1) rfl rfl (acts_in hwa (by decide +kernel)) ?_
    have hS := Same.sqt s1 hS
    walk_at "rd"
    refine ixt_go hS at0 ?_
    walk_at "rd"
    refine reqS_go (acts_ne hwa (by decide +kernel)) ?_
    walk_at "rd"
    refine ixt_go hS at0 ?_
    walk_at "rd"
    refine reqS_go (acts_ne hwa (by decide +kernel)) ?_
    walk_at "rd"
    refine ixt_go hS at0 ?_
    walk_at "rd"
    by_cases hcall : n = .wd .call
    · subst hcall
      refine reqS_go (b := true) (by decide +kernel) ?_
      walk_at "rd"
      cases hst with
      | call =>
        refine (m.mono s1).ix2 fun v hv => ?_
        cases hv with
        | made hS2 _ _ =>
          walk_at "rd"
          refine ixt_go hS2 at0 ?_
          walk_at "rd"
          exact reqS_go (b := true) (by decide +kernel) (q _ s1)
      | un hu _ =>
        unfold un1 at hu
        split at hu <;> simp_all
    · have hcn : c = none := by
        cases hst with
        | call => exact absurd rfl hcall
        | un _ _ => rfl
        | both => rfl
      subst hcn
      have hnc : decide (n.w = ("call" : Str)) = false := by
        cases n with
        | name i => cases hn
        | told i => cases hn
        | knd t k => exact (by cases t <;> decide +kernel : decide (t.w = ("call" : Str)) = false)
        | wd t => cases t <;> first | exact absurd rfl hcall | decide +kernel
      refine reqS_go hnc ?_
      walk_at "rd"
      exact q _ s1
end
end K42

/-! KM8 -/
/-! want_many; value_of, call_count -/
namespace K42
open PySem PySem.Spec L2 He
local macro_rules | `(tactic| walk_at "rd") => `(tactic| repeat (first | ((with_reducible refine' rd_var ?hvar ?_); (case hvar => exact rfl)) | with_reducible refine rd_seq ?_ | with_reducible refine rd_asg ?_ | with_reducible refine rd_ret ?_ | with_reducible refine rd_drop ?_ | with_reducible refine rd_ifs ?_ | with_reducible refine rd_name ?_ | with_reducible refine rd_c ?_ | with_reducible refine rd_cons ?_ | with_reducible refine rd_nil ?_ | with_reducible refine rd_cb ?_ | with_reducible refine rd_op ?_ | with_reducible refine rd_test ?_ | with_reducible refine rd_tb ?_ | with_reducible refine rd_and ?_ | with_reducible refine rd_or ?_ | with_reducible refine rd_not ?_ | with_reducible refine rd_andv ?_ | with_reducible refine rd_orv ?_ | with_reducible refine rd_notv ?_ | with_reducible refine rd_if ?_ | with_reducible refine rd_nx ?_ | with_reducible refine rd_retn ?_ | with_reducible refine rd_par ?_ | with_reducible refine rd_par3 ?_ | with_reducible refine rd_tup ?_ | with_reducible refine rd_lst ?_ | with_reducible refine rd_call ?_ | with_reducible refine rd_meth ?_ | with_reducible refine rd_make ?_ | with_reducible refine rd_fld ?_ | with_reducible refine rd_sfld ?_ | with_reducible refine rd_bm ?_ | with_reducible refine rd_bm0 ?_ | with_reducible refine rd_prop ?_ | with_reducible refine rd_dget ?_ | with_reducible refine rd_dnin ?_ | with_reducible refine rd_chain ?_ | with_reducible refine rd_sub ?_ | with_reducible refine rd_un ?_ | with_reducible refine rd_fl ?_ | with_reducible refine rd_ft ?_ | with_reducible refine rd_fr ?_ | with_reducible refine rd_fd ?_ | with_reducible refine rd_fe ?_ | with_reducible refine rd_ll ?_ | with_reducible refine rd_le ?_ | with_reducible refine rd_yes ?_ | with_reducible refine rd_dg2 ?_ | with_reducible refine rd_calld ?_ | with_reducible refine rd_lt ?_ | with_reducible refine rd_rev ?_ | with_reducible refine rd_sl ?_ | with_reducible refine rd_thru ?_ | with_reducible refine kb_go ?_ | with_reducible refine kpar_go ?_ | with_reducible refine kpar3_go ?_ | with_reducible refine ri0_go ?_ | with_reducible refine ru_go ?_ | ((with_reducible refine ifT ?hift ?_); (case hift => exact rfl)) | ((with_reducible refine ifF ?hiff ?_); (case hiff => exact rfl))))
local macro_rules | `(tactic| walk_at "dt") => `(tactic| first | refine ifT (by decide +kernel) ?_ | ((refine ifT ?hdt ?_); (case hdt => exact decide_eq_true (by omega))))
local macro_rules | `(tactic| walk_at "df") => `(tactic| first | refine ifF (by decide +kernel) ?_ | ((refine ifF ?hdf ?_); (case hdf => exact decide_eq_false (by omega))))

theorem rd_calld {sp : Sp} {d : V} {ds : List V} {E : XK} {tl : TA} {σ : L2.St} {H : Hp} {Q : VK} (q : tl σ H fun vs H1 => sp (vs ++ (d :: ds)) H1 Q E) : tCall sp (d :: ds) E tl σ H Q := q
section
variable {P : Program} {w : World} {K : PySem.W.Frag} {mg : Str → Option Value} {base : Heap}
/-- want_many(value, most): least is 0 -/
def OkM (P : Program) (w : World) (K : PySem.W.Frag) (mg : Str → Option Value) (base : Heap) (k : Nat) : Prop :=
  ∃ fd ds, PySem.W.keepIn K (.ref (ga K "want_many")) = true ∧ Vals [.int 0] ds ∧ Binds K fd ["value", "most", "least"] ds ∧ FnOk P w K mg base CX0 k (ga K "want_many") fd ["value", "most", "least"] sp_want_many
theorem pe_wm {X : Cx} {k : Nat} {p pos : Pos} {e : Expr} {es : List Expr} {t : TA} (F : OkM X.prog X.w X.K X.mg X.base k) (hm : X.mg "want_many" = some (.ref (ga X.K "want_many"))) (hr : Room k X.A) (ha : PA X (e :: es) t) (hg : Gl X "want_many" := by rfl)
    (he : starEach (e :: es) X.env = (false, eval e X.env) :: starEach es X.env := by rfl) (hpl : (backTo pos (starEach es X.env)).any (·.1) = false := by rfl) : PE X (.Call (.Name "want_many" p) (e :: es) [] pos) (tCall sp_want_many [.int 0] E0 t) := by
  obtain ⟨fd, ds, h1, hv, h2, h3⟩ := F
  exact pe_call h3 hr hg hm h1 h2 hv pass0 ha (by decide) he hpl
theorem ok_want_many (T : Tx w K mg) : OkM P w K mg base 3 := by
  have G_is_count := ok_is_count (P := P) (base := base) T
  obtain ⟨fd, F⟩ := T.f_want_many
  obtain ⟨ds, hv, hb⟩ := FunD.binds1 (ps := ["value", "most", "least"]) F 2 1 (by simp [d_want_many]) rfl (fun U kV doc pm an cdv ct us its h1 h2 => by
    match us, h1, its, h2 with
    | [x, y], _, [a, b], _ => exact ⟨_, rfl, rfl⟩)
  refine ⟨fd, ds, F.kp, hv, hb, FunD.ok F sc_want_many (fun vs H Q E h => by obtain ⟨i, m, rfl, _⟩ := h; rfl) fun cdv A outer s H vs Q E hr hs => ?_⟩
  suffices hh : ∃ t, PSs (cxOf CX0 P w K mg base ["value", "most", "least"] d_want_many.ql (defScope d_want_many.st) (d_want_many.loc K) cdv A outer s H E).nox (defBody d_want_many.st) t ∧ t { nx := fun _ H' => Q .non H', rt := Q } (L2.start ["value", "most", "least"] vs) H by
    obtain ⟨t, h1, h2⟩ := hh
    exact ⟨t, PSs.nox h1, h2⟩
  obtain ⟨i, m, rfl, h0, hm, q⟩ := hs
  refine ⟨_, (pss_one (ps_if (PW.pt (pw_or (pt_not (pt_val (pe_f G_is_count T.g_is_count (hr.mono (by decide)) (pa_cons (pv 0) pa_nil)))) (pw_or (pt_cmpR op_lt (pv 0) (pv 2) (nomark _)) (pw_or1 (PW.pt (pw_and (pt_cmpR op_notN (pv 1) pe_non (nomark _)) (pw_and1 (pt_cmpR op_gt (pv 0) (pv 1) (nomark _))))))))) (pss_one ps_never) pss_nil)), ?_⟩
  walk_at "rd"
  refine ⟨i, rfl, ?_⟩
  walk_at "rd"
  refine ifF ?h1 ?_
  case h1 => rw [decide_eq_true h0]; rfl
  walk_at "rd"
  refine ifF ?h2 ?_
  case h2 => exact decide_eq_false (by omega)
  walk_at "rd"
  refine ⟨rfl, ?_⟩
  walk_at "rd"
  refine ifF ?h3 ?_
  case h3 => exact decide_eq_false (by omega)
  walk_at "rd"
  exact q
/-- a program that the law may run -/
structure PgOk (Z : Tm) (F : Kd) (f : W) (ds : List Nat) : Prop where
  ok : Z.ok
  sz : Z.size ≤ 40
  wt : WT [] Z F
  dat : F.data = true
  dp : F.dp ≤ 12
  dw : Dw f
  fdp : f.dp ≤ 12
  few : ds.length ≤ 40
  ev : ∃ N, ev N [] 0 Z = some (f, ds)
theorem PgOk.go {Z : Tm} {F : Kd} {f : W} {ds : List Nat} (h : PgOk Z F f ds) : ∃ n, n ≤ 40000 ∧ Go Z f n [.see 0 []] [] ds := by
  obtain ⟨N, e⟩ := h.ev
  obtain ⟨_, k, hk, hg⟩ := go_top e
  refine ⟨k, ?_, hg⟩
  have h1 := h.sz
  have h2 := h.few
  have h3 : (2 * Z.size + 2) * ds.length ≤ 82 * 40 := Nat.mul_le_mul (by omega) h2
  omega
/-- a new engine -/
theorem mkE {Z : Tm} {H : Hp} {a : Addr} {E : XK} {Q : VK} (hN : NlAt K H a Z) (hZ : Z.ok) (hz : Z.size ≤ 300) (q : ∀ x cl H1, H x = none → H cl = none → Same H H1 → (∀ X, ¬ X a → (∀ b, X b → ∃ o, H b = some o ∧ NT o) → EnG K X H1 x cl Z []) → Q (.ref x) H1) :
    KMk (ga K "Engine") (sp_Engine_init K) E Q [.ref a, .int 2000] H := by
  intro x dx hx hdx ndx
  have s0 : Same H (upd (upd H dx (.own x)) x (.ins (ga K "Engine") dx [])) := fun b o hb => by rw [upd_ne (ne_of_none hb hx), upd_ne (ne_of_none hb hdx)]; exact hb
  refine ⟨x, dx, a, Z, rfl, upd_same, hN.mono s0, hZ, hz, fun cl H1 hcl k1 hE => ⟨rfl, q x cl H1 hx ?_ (fun b o hb => k1 b o (s0 _ _ hb) (ne_of_none hb hx)) fun X hXa hX => hE X hXa (fun z => ?_) fun b hb => ?_⟩⟩
  · exact s0.free hcl
  · obtain ⟨o, e, _⟩ := hX x z
    rw [hx] at e
    cases e
  · obtain ⟨xs, e, n⟩ := hX b hb
    exact ⟨xs, s0 _ _ e, n⟩
def sp_value_of (K : PySem.W.Frag) : Sp := fun vs H Q _ => ∃ (a : Addr) (Z : Tm) (F : Kd) (f : W) (ds : List Nat), vs = [.ref a] ∧ NlAt K H a Z ∧ PgOk Z F f ds ∧ ∀ u H1, Same H H1 → DwAt K H1 u f → Q u H1
theorem ok_value_of (T : Tx w K mg) : OkF P w K mg base 14 (ga K "value_of") ["program"] (sp_value_of K) := by
  have G_want_program := ok_want_program (P := P) (base := base) T
  have G_kinds_of := ok_kinds_of (P := P) (base := base) T
  have G_data_kind := ok_data_kind (P := P) (base := base) T 12
  have G_told_worth := ok_told_worth (P := P) (base := base) T 12
  have G_Engine_init := ok_Engine_init (P := P) (base := base) T
  have G_Engine_worth_in := ok_Engine_worth_in (P := P) (base := base) T
  refine okF T.f_value_of rfl sc_value_of b_value_of (fun vs H Q E h => by obtain ⟨_, _, _, _, _, rfl, _⟩ := h; rfl) (fun cdv A outer s H vs Q E hr h => ?_)
  obtain ⟨a, Z, F, f, ds, rfl, hN, hp, q⟩ := h
  refine ⟨_, (pss_cons (ps_set (i := 1) sc_value_of.nd rfl (Or.inl rfl) (pe_f G_want_program T.g_want_program (hr.mono (by decide)) (pa_cons (pv 0) pa_nil)))
      (pss_cons (ps_if (pt_not (pt_val (pe_f G_data_kind T.g_data_kind (hr.mono (by decide)) (pa_cons (pe_ix ix_list (pe_f G_kinds_of T.g_kinds_of (hr.mono (by decide)) (pa_cons (pe_lst pa_nil) (pa_cons (pv 1) pa_nil))) pe_int (fun _ _ => rfl)) pa_nil)))) (pss_one ps_never) pss_nil)
      (pss_one (ps_ret (pe_f G_told_worth T.g_told_worth (hr.mono (by decide)) (pa_cons (pe_o (pe_n T.mk_Engine G_Engine_init T.g_Engine (hr.mono (by decide)) (pa_cons (pv 1) (pa_cons (pe_gi T.i_MOST_CALLS) pa_nil))) T.c_Engine T.m_Engine_worth_in G_Engine_worth_in (hr.mono (by decide)) (pa_cons (pe_tup pa_nil) pa_nil)) pa_nil)))))), ?_⟩
  have hz : Z.size ≤ 300 := Nat.le_trans hp.sz (by decide)
  walk_at "rd"
  refine ⟨a, Z, F, rfl, hN, hp.ok, hz, hp.wt, fun r H1 hr1 s1 hN1 => ?_⟩
  walk_at "rd"
  refine kln_go len_ok fun b H2 _ s2 hb => ?_
  walk_at "rd"
  have hN2 := hN1.mono s2
  refine ⟨b, r, Z, F, rfl, sqL_of hb, hN2, hp.ok, hz, hp.wt, fun k H3 us v _ s3 hk hv hvk => ?_⟩
  have hN3 := hN2.mono s3
  walk_at "rd"
  refine ixl_go (sqL_of hk) (atI_nat (j := 0) hv) ?_
  walk_at "rd"
  refine ⟨v, F, rfl, hvk, hp.dp, fun H4 s4 => ?_⟩
  have hN4 := hN3.mono s4
  walk_at "rd"
  refine ifF ?h1 ?_
  case h1 => rw [hp.dat]; rfl
  walk_at "rd"
  refine mkE hN4 hp.ok hz fun x cl H5 hx hcl s5 hE0 => ?_
  have hE := hE0 (fun _ => False) id (fun _ z => z.elim)
  obtain ⟨⟨dx, an, ch, us2, he⟩, hclv⟩ := id hE
  walk_at "rd"
  refine kmet_go (en_go he) (en_m _ _ _ _ (by decide +kernel) (by decide +kernel) (by decide +kernel) (by decide +kernel)) ?_
  walk_at "rd"
  refine ktn_go len_ok fun y H6 _ s6 hy => ?_
  walk_at "rd"
  obtain ⟨n, hn, hg⟩ := hp.go
  refine ⟨_, x, cl, Z, ds, f, n, .ref y, rfl, hE.mono s6, .nil (sqT_of hy), hp.ok, hg, hn, by have := hp.few; omega, fun v7 H7 k7 hv7 hcl7 => ?_⟩
  walk_at "rd"
  refine ⟨v7, f, rfl, hp.fdp, hv7.dw hp.dw, fun u H8 s8 hu => ?_⟩
  refine q u H8 (fun b0 o0 hb0 => s8 _ _ (k7 b0 o0 (s6 _ _ (s5 _ _ (s4 _ _ (s3 _ _ (s2 _ _ (s1 _ _ hb0)))))) ?_)) hu
  exact ne_of_none (s4 _ _ (s3 _ _ (s2 _ _ (s1 _ _ hb0)))) hcl
def sp_call_row (K : PySem.W.Frag) : Sp := fun vs H Q _ => ∃ (a : Addr) (Z : Tm) (F : Kd) (f : W) (ds : List Nat), vs = [.ref a] ∧ NlAt K H a Z ∧ PgOk Z F f ds ∧ ∀ r H1, Same H H1 → H1 r = some (.lst (ds.map iv)) → Q (.ref r) H1
theorem ok_call_row (T : Tx w K mg) : OkF P w K mg base 9 (ga K "call_row") ["program"] (sp_call_row K) := by
  have G_want_program := ok_want_program (P := P) (base := base) T
  have G_Engine_init := ok_Engine_init (P := P) (base := base) T
  have G_Engine_worth_in := ok_Engine_worth_in (P := P) (base := base) T
  refine okF T.f_call_row rfl sc_call_row b_call_row (fun vs H Q E h => by obtain ⟨_, _, _, _, _, rfl, _⟩ := h; rfl) (fun cdv A outer s H vs Q E hr h => ?_)
  obtain ⟨a, Z, F, f, ds, rfl, hN, hp, q⟩ := h
  refine ⟨_, (pss_cons (ps_set (i := 1) sc_call_row.nd rfl (Or.inl rfl) (pe_n T.mk_Engine G_Engine_init T.g_Engine (hr.mono (by decide)) (pa_cons (pe_f G_want_program T.g_want_program (hr.mono (by decide)) (pa_cons (pv 0) pa_nil)) (pa_cons (pe_gi T.i_MOST_CALLS) pa_nil))))
      (pss_cons (ps_expr (pe_o (pv 1) T.c_Engine T.m_Engine_worth_in G_Engine_worth_in (hr.mono (by decide)) (pa_cons (pe_tup pa_nil) pa_nil)))
      (pss_one (ps_ret (pe_fld (pv 1) rfl))))), ?_⟩
  have hz : Z.size ≤ 300 := Nat.le_trans hp.sz (by decide)
  walk_at "rd"
  refine ⟨a, Z, F, rfl, hN, hp.ok, hz, hp.wt, fun r H1 hr1 s1 hN1 => ?_⟩
  walk_at "rd"
  refine mkE hN1 hp.ok hz fun x cl H5 hx hcl s5 hE0 => ?_
  have hE := hE0 (fun _ => False) id (fun _ z => z.elim)
  obtain ⟨⟨dx, an, ch, us2, he⟩, hclv⟩ := id hE
  walk_at "rd"
  refine kmet_go (en_go he) (en_m _ _ _ _ (by decide +kernel) (by decide +kernel) (by decide +kernel) (by decide +kernel)) ?_
  walk_at "rd"
  refine ktn_go len_ok fun y H6 _ s6 hy => ?_
  walk_at "rd"
  obtain ⟨n, hn, hg⟩ := hp.go
  refine ⟨_, x, cl, Z, ds, f, n, .ref y, rfl, hE.mono s6, .nil (sqT_of hy), hp.ok, hg, hn, by have := hp.few; omega, fun v7 H7 k7 hv7 hcl7 => ?_⟩
  walk_at "rd"
  have he6 := (hE.mono s6)
  obtain ⟨⟨dx6, an6, ch6, us6, he6⟩, _⟩ := he6
  have nxcl : x ≠ cl := fun z => (of_hid he6.ins).2 (.inl z)
  refine kfld_go (k7 _ _ (en_go he6) nxcl) T.c_Engine T.na_Engine_own_calls (en_calls _ _ _) ?_
  exact q cl H7 (fun b0 o0 hb0 => k7 b0 o0 (s6 _ _ (s5 _ _ (s1 _ _ hb0))) (ne_of_none (s1 _ _ hb0) hcl)) hcl7
def sp_call_count (K : PySem.W.Frag) : Sp := fun vs H Q _ => ∃ (a : Addr) (Z : Tm) (F : Kd) (f : W) (ds : List Nat), vs = [.ref a] ∧ NlAt K H a Z ∧ PgOk Z F f ds ∧ ∀ H1, Same H H1 → Q (.int ds.length) H1
theorem ok_call_count (T : Tx w K mg) : OkF P w K mg base 10 (ga K "call_count") ["program"] (sp_call_count K) := by
  have G_call_row := ok_call_row (P := P) (base := base) T
  refine okF T.f_call_count rfl sc_call_count b_call_count (fun vs H Q E h => by obtain ⟨_, _, _, _, _, rfl, _⟩ := h; rfl) (fun cdv A outer s H vs Q E hr h => ?_)
  obtain ⟨a, Z, F, f, ds, rfl, hN, hp, q⟩ := h
  refine ⟨_, (pss_one (ps_ret (pe_callB call_ln (by rfl) T.n_len PySem.boot_len (pa_cons (pe_f G_call_row T.g_call_row (hr.mono (by decide)) (pa_cons (pv 0) pa_nil)) pa_nil)))), ?_⟩
  walk_at "rd"
  refine ⟨a, Z, F, f, ds, rfl, hN, hp, fun r H1 s1 h1 => ?_⟩
  walk_at "rd"
  refine lnl_go (sqL_of h1) ?_
  rw [List.length_map]
  exact q H1 s1
end
end K42

/-! KM9 -/
/-! runs -/
namespace K42
open PySem PySem.Spec L2 He
local macro_rules | `(tactic| walk_at "rd") => `(tactic| repeat (first | ((with_reducible refine' rd_var ?hvar ?_); (case hvar => exact rfl)) | with_reducible refine rd_seq ?_ | with_reducible refine rd_asg ?_ | with_reducible refine rd_ret ?_ | with_reducible refine rd_drop ?_ | with_reducible refine rd_ifs ?_ | with_reducible refine rd_name ?_ | with_reducible refine rd_c ?_ | with_reducible refine rd_cons ?_ | with_reducible refine rd_nil ?_ | with_reducible refine rd_cb ?_ | with_reducible refine rd_op ?_ | with_reducible refine rd_test ?_ | with_reducible refine rd_tb ?_ | with_reducible refine rd_and ?_ | with_reducible refine rd_or ?_ | with_reducible refine rd_not ?_ | with_reducible refine rd_andv ?_ | with_reducible refine rd_orv ?_ | with_reducible refine rd_notv ?_ | with_reducible refine rd_if ?_ | with_reducible refine rd_nx ?_ | with_reducible refine rd_retn ?_ | with_reducible refine rd_par ?_ | with_reducible refine rd_par3 ?_ | with_reducible refine rd_tup ?_ | with_reducible refine rd_lst ?_ | with_reducible refine rd_call ?_ | with_reducible refine rd_meth ?_ | with_reducible refine rd_make ?_ | with_reducible refine rd_fld ?_ | with_reducible refine rd_sfld ?_ | with_reducible refine rd_bm ?_ | with_reducible refine rd_bm0 ?_ | with_reducible refine rd_prop ?_ | with_reducible refine rd_dget ?_ | with_reducible refine rd_dnin ?_ | with_reducible refine rd_chain ?_ | with_reducible refine rd_sub ?_ | with_reducible refine rd_un ?_ | with_reducible refine rd_fl ?_ | with_reducible refine rd_ft ?_ | with_reducible refine rd_fr ?_ | with_reducible refine rd_fd ?_ | with_reducible refine rd_fe ?_ | with_reducible refine rd_ll ?_ | with_reducible refine rd_le ?_ | with_reducible refine rd_yes ?_ | with_reducible refine rd_dg2 ?_ | with_reducible refine rd_calld ?_ | with_reducible refine rd_lt ?_ | with_reducible refine rd_rev ?_ | with_reducible refine rd_sl ?_ | with_reducible refine rd_thru ?_ | with_reducible refine kb_go ?_ | with_reducible refine kpar_go ?_ | with_reducible refine kpar3_go ?_ | with_reducible refine ri0_go ?_ | with_reducible refine ru_go ?_ | ((with_reducible refine ifT ?hift ?_); (case hift => exact rfl)) | ((with_reducible refine ifF ?hiff ?_); (case hiff => exact rfl))))
local macro_rules | `(tactic| walk_at "dt") => `(tactic| first | refine ifT (by decide +kernel) ?_ | ((refine ifT ?hdt ?_); (case hdt => exact decide_eq_true (by omega))))
local macro_rules | `(tactic| walk_at "df") => `(tactic| first | refine ifF (by decide +kernel) ?_ | ((refine ifF ?hdf ?_); (case hdf => exact decide_eq_false (by omega))))

def rnF (kv : V) (e ol wl : Addr) : List (Str × V) := putF "own_worths" (.ref wl) (putF "own_orders" (.ref ol) (putF "own_engine" (.ref e) (putF "own_kind" kv [])))
theorem rn_kind (kv : V) (e ol wl : Addr) : (rnF kv e ol wl).lookup ("own_kind" : Str) = some kv := by
  unfold rnF
  rw [lookup_putF, if_neg (by decide +kernel), lookup_putF, if_neg (by decide +kernel), lookup_putF, if_neg (by decide +kernel), lookup_putF, if_pos rfl]
theorem rn_engine (kv : V) (e ol wl : Addr) : (rnF kv e ol wl).lookup ("own_engine" : Str) = some (.ref e) := by
  unfold rnF
  rw [lookup_putF, if_neg (by decide +kernel), lookup_putF, if_neg (by decide +kernel), lookup_putF, if_pos rfl]
theorem rn_orders (kv : V) (e ol wl : Addr) : (rnF kv e ol wl).lookup ("own_orders" : Str) = some (.ref ol) := by
  unfold rnF
  rw [lookup_putF, if_neg (by decide +kernel), lookup_putF, if_pos rfl]
theorem rn_worths (kv : V) (e ol wl : Addr) : (rnF kv e ol wl).lookup ("own_worths" : Str) = some (.ref wl) := by
  unfold rnF
  rw [lookup_putF, if_pos rfl]
theorem rn_m (kv : V) (e ol wl : Addr) (m : Str) (h1 : decide (m = "own_worths") = false) (h2 : decide (m = "own_orders") = false) (h3 : decide (m = "own_engine") = false) (h4 : decide (m = "own_kind") = false) : (rnF kv e ol wl).lookup m = none := by
  unfold rnF
  rw [lookup_putF, if_neg (of_decide_eq_false h1), lookup_putF, if_neg (of_decide_eq_false h2), lookup_putF, if_neg (of_decide_eq_false h3), lookup_putF, if_neg (of_decide_eq_false h4)]
  rfl
/-- a run on the heap -/
def RnAt (K : PySem.W.Frag) (X : Addr → Prop) (H : Hp) (rn e ol wl cl : Addr) (Z : Tm) (F : Kd) (os : List Od) (ws : List W) (cs : List Nat) : Prop :=
  ∃ dx kv, H rn = some (.ins (ga K "Run") dx (rnF kv e ol wl)) ∧ KdAt K H kv F ∧ MsAt K X H e ol wl cl Z os ws cs
section
variable {K : PySem.W.Frag} {X : Addr → Prop} {H H1 : Hp} {rn e ol wl cl : Addr} {Z : Tm} {F : Kd} {os os1 : List Od} {ws ws1 : List W} {cs cs1 : List Nat}
theorem RnAt.ms (h : RnAt K X H rn e ol wl cl Z F os ws cs) : MsAt K X H e ol wl cl Z os ws cs := by
  obtain ⟨_, _, _, _, m⟩ := h
  exact m
theorem RnAt.mono (h : RnAt K X H rn e ol wl cl Z F os ws cs) (s : Same H H1) : RnAt K X H1 rn e ol wl cl Z F os ws cs := by
  obtain ⟨dx, kv, h1, h2, m⟩ := h
  exact ⟨dx, kv, s _ _ h1, h2.mono s, m.mono s⟩
theorem MsAt.lstMu (m : MsAt K X H e ol wl cl Z os ws cs) : ∀ b, Mu ol wl cl b → ∃ us, H b = some (.lst us) := by
  rintro b (rfl | rfl | rfl)
  · obtain ⟨vs, h, _⟩ := m.o
    exact ⟨_, h⟩
  · obtain ⟨vs, h, _⟩ := m.w
    exact ⟨_, h⟩
  · exact ⟨_, m.c⟩
theorem RnAt.kp (h : RnAt K X H rn e ol wl cl Z F os ws cs) (k : Kp (Mu ol wl cl) H H1) (m1 : MsAt K X H1 e ol wl cl Z os1 ws1 cs1) : RnAt K X H1 rn e ol wl cl Z F os1 ws1 cs1 := by
  obtain ⟨dx, kv, h1, h2, m⟩ := h
  refine ⟨dx, kv, k _ _ h1 fun z => ?_, h2.tp (m.ltp k), m1⟩
  obtain ⟨us, e⟩ := m.lstMu _ z
  rw [h1] at e
  cases e
/-- what happens elsewhere -/
theorem RnAt.off {Y : Addr → Prop} (h : RnAt K X H rn e ol wl cl Z F os ws cs) (k : Kp Y H H1) (hy : ∀ b, Y b → X b) (hl : ∀ b, Y b → ∃ us, H b = some (.lst us)) (n : ∀ b, Mu ol wl cl b → ¬ Y b) : RnAt K X H1 rn e ol wl cl Z F os ws cs := by
  obtain ⟨dx, kv, h1, h2, m⟩ := h
  have t : TpS H H1 := .kp k (fun b hb xs e => by
    obtain ⟨us, h⟩ := hl b hb
    rw [h] at e
    cases e) (fun b hb o xs e => by
    obtain ⟨us, h⟩ := hl b hb
    rw [h] at e
    cases e)
  obtain ⟨dx2, a, ch, us, he⟩ := m.en
  obtain ⟨vs, h3, h4⟩ := m.o
  obtain ⟨xs, h5, h6⟩ := m.w
  refine ⟨dx, kv, k _ _ h1 fun z => ?_, h2.tp t, ⟨⟨dx2, a, ch, us, he.mono (k.to fun b hb => Or.inr (hy b hb)).hid⟩, ⟨vs, k _ _ h3 (n _ (.inl rfl)), h4.imp fun _ _ z => z.tp t⟩, ⟨xs, k _ _ h5 (n _ (.inr (.inl rfl))), h6.imp fun _ _ z => z.tp t⟩, k _ _ m.c (n _ (.inr (.inr rfl))), m.ow, m.oc, m.wc⟩⟩
  obtain ⟨us, e⟩ := hl _ z
  rw [h1] at e
  cases e
/-- new places may be hidden -/
theorem RnAt.more {Y : Addr → Prop} (h : RnAt K (fun _ => False) H rn e ol wl cl Z F os ws cs) (s : Same H H1) (hy : ∀ b, Y b → H b = none) : RnAt K Y H1 rn e ol wl cl Z F os ws cs := by
  obtain ⟨dx, kv, h1, h2, m⟩ := h.mono s
  obtain ⟨_, _, _, _, m0⟩ := h
  obtain ⟨dx2, a, ch, us, he⟩ := m0.en
  refine ⟨dx, kv, h1, h2, ⟨⟨dx2, a, ch, us, he.mono fun b o hb => ?_⟩, m.o, m.w, m.c, m.ow, m.oc, m.wc⟩⟩
  obtain ⟨e1, n1⟩ := of_hid hb
  refine hid_at (s _ _ e1) fun z => z.elim (fun y => n1 (.inl y)) fun y => ?_
  rw [hy b y] at e1
  cases e1
theorem krn {f : Str} {v : V} {Q : VK} {w : World} {mg : Str → Option Value} (T : Tx w K mg) (hn : NoAttr K (ga K "Run") f) (h : RnAt K X H rn e ol wl cl Z F os ws cs) (hv : ∀ kv, (rnF kv e ol wl).lookup f = some v) (q : Q v H) : KFld K f Q (.ref rn) H := by
  obtain ⟨dx, kv, h1, _⟩ := h
  exact kfld_go h1 T.c_Run hn (hv kv) q
theorem krm {Q : VK} {ta : TA} {σ : L2.St} {nm : Str} {sp : Sp} {E : XK} (h : RnAt K X H rn e ol wl cl Z F os ws cs) (h1 : decide (nm = "own_worths") = false) (h2 : decide (nm = "own_orders") = false) (h3 : decide (nm = "own_engine") = false) (h4 : decide (nm = "own_kind") = false)
    (q : ta σ H fun vs H2 => sp (.ref rn :: vs) H2 Q E) : KMet (ga K "Run") nm sp E ta σ Q (.ref rn) H := by
  obtain ⟨dx, kv, he, _⟩ := h
  exact kmet_go he (rn_m _ _ _ _ _ h1 h2 h3 h4) q
theorem krp {Q : VK} {sp : Sp} {E : XK} (h : RnAt K X H rn e ol wl cl Z F os ws cs) (q : sp [.ref rn] H Q E) : KPrp (ga K "Run") sp E Q (.ref rn) H := by
  obtain ⟨dx, kv, he, _⟩ := h
  exact kprp_go he q
end
/-- e.f, a property of a Run -/
theorem pe_pr {X : Cx} {k : Nat} {C g p : Addr} {f : Str} {sp : Sp} {e : Expr} {pos : Pos} {ta : TE} (he : PE X e ta) (c : Cls X.K C) (hp : PropOf X.K C f p g) (F : OkF X.prog X.w X.K X.mg X.base k g ["self"] sp) (hr : Room (k + 1) X.A)
    (hab : attributeBase e f X.env (eval e X.env) = eval e X.env := by rfl) : PE X (.Attribute e f pos) (tProp C sp [] E0 ta) := by
  obtain ⟨fd, h1, h2, h3⟩ := F
  exact pe_prop he c hp h3 hr h2 .nil pass0 hab
section
variable {P : Program} {w : World} {K : PySem.W.Frag} {mg : Str → Option Value} {base : Heap}
def sp_Run_calls (K : PySem.W.Frag) : Sp := fun vs H Q _ => ∃ (X : Addr → Prop) (rn e ol wl cl : Addr) (Z : Tm) (F : Kd) (os : List Od) (ws : List W) (cs : List Nat), vs = [.ref rn] ∧ RnAt K X H rn e ol wl cl Z F os ws cs ∧ Q (.int cs.length) H
theorem ok_Run_calls (T : Tx w K mg) : OkF P w K mg base 1 (prG "Run" "calls" K) ["self"] (sp_Run_calls K) := by
  refine okF T.f_Run_calls rfl sc_Run_calls b_Run_calls (fun vs H Q E h => by obtain ⟨_, _, _, _, _, _, _, _, _, _, _, rfl, _⟩ := h; rfl) (fun cdv A outer s H vs Q E hr h => ?_)
  obtain ⟨X, rn, e, ol, wl, cl, Z, F, os, ws, cs, rfl, h, q⟩ := h
  refine ⟨_, (pss_one (ps_ret (pe_callB call_ln (by rfl) T.n_len PySem.boot_len (pa_cons (pe_fld (pe_fld (pv 0) rfl) rfl) pa_nil)))), ?_⟩
  have m := h.ms
  obtain ⟨dx, a, ch, us, he⟩ := m.en
  walk_at "rd"
  refine krn T T.na_Run_own_engine h (fun _ => rn_engine _ _ _ _) ?_
  refine kfld_go (en_go he) T.c_Engine T.na_Engine_own_calls (en_calls _ _ _) ?_
  walk_at "rd"
  refine lnl_go (sqL_of m.c) ?_
  rw [List.length_map]
  exact q
def sp_Run_is_done (K : PySem.W.Frag) : Sp := fun vs H Q _ => ∃ (X : Addr → Prop) (rn e ol wl cl : Addr) (Z : Tm) (F : Kd) (os : List Od) (ws : List W) (cs : List Nat), vs = [.ref rn] ∧ RnAt K X H rn e ol wl cl Z F os ws cs ∧ ∀ H1, Same H H1 → Q (.bl os.isEmpty) H1
theorem eqO {K : PySem.W.Frag} {X : Addr → Prop} {H : Hp} {e ol wl cl b : Addr} {Z : Tm} {os : List Od} {ws : List W} {cs : List Nat} {Q : VK} (m : MsAt K X H e ol wl cl Z os ws cs) (hb : H b = some (.lst [])) (q : Q (.bl os.isEmpty) H) : rEqE (.ref ol) (.ref b) H Q := by
  obtain ⟨xs, h, hl⟩ := m.hol
  refine ⟨ol, b, xs, rfl, rfl, h, hb, ?_⟩
  have : xs.isEmpty = os.isEmpty := by
    cases xs with
    | nil => cases os with
      | nil => rfl
      | cons _ _ => cases hl
    | cons _ _ => cases os with
      | nil => cases hl
      | cons _ _ => rfl
  rw [this]
  exact q
theorem ok_Run_is_done (T : Tx w K mg) : OkF P w K mg base 1 (prG "Run" "is_done" K) ["self"] (sp_Run_is_done K) := by
  refine okF T.f_Run_is_done rfl sc_Run_is_done b_Run_is_done (fun vs H Q E h => by obtain ⟨_, _, _, _, _, _, _, _, _, _, _, rfl, _⟩ := h; rfl) (fun cdv A outer s H vs Q E hr h => ?_)
  obtain ⟨X, rn, e, ol, wl, cl, Z, F, os, ws, cs, rfl, h, q⟩ := h
  refine ⟨_, (pss_one (ps_ret (pe_cmpR (op_eqE (hu64 hr)) (pe_fld (pv 0) rfl) (pe_lst pa_nil) (nomark _)))), ?_⟩
  walk_at "rd"
  refine krn T T.na_Run_own_orders h (fun _ => rn_orders _ _ _ _) ?_
  walk_at "rd"
  refine kln_go len_ok fun b H1 _ s1 hb => ?_
  exact eqO (h.mono s1).ms hb (q _ s1)
/-- what a run is behind a piece -/
def Ends (os : List Od) (ds : List Nat) : Prop := (os = [] ∧ ds = []) ∨ (os ≠ [] ∧ ds ≠ [])
def sp_Run_gone (K : PySem.W.Frag) : Sp := fun vs H Q _ => ∃ (X : Addr → Prop) (rn e ol wl cl : Addr) (Z : Tm) (F : Kd) (os : List Od) (ws : List W) (cs ds : List Nat) (f : W) (n most : Nat), vs = [.ref rn, .int most] ∧ RnAt K X H rn e ol wl cl Z F os ws cs ∧ Z.ok ∧ Go Z f n os ws ds ∧ n ≤ 40000 ∧ cs.length ≤ most ∧ cs.length + ds.length < 2000 ∧
  ∀ H1 os1 ws1 cs1 ds1 n1, Kp (Mu ol wl cl) H H1 → RnAt K X H1 rn e ol wl cl Z F os1 ws1 cs1 → Go Z f n1 os1 ws1 ds1 → n1 ≤ 40000 → cs1 ++ ds1 = cs ++ ds → cs1.length = min most (cs.length + ds.length) → Ends os1 ds1 → Q .non H1
theorem ok_Run_gone (T : Tx w K mg) : OkF P w K mg base 5 (ma K (ga K "Run") "gone") ["self", "most"] (sp_Run_gone K) := by
  have G_Engine_done := ok_Engine_done (P := P) (base := base) T
  have G_Run_calls := ok_Run_calls (P := P) (base := base) T
  have G_begins := ok_begins (P := P) (base := base) T
  refine okF T.f_Run_gone rfl sc_Run_gone b_Run_gone (fun vs H Q E h => by obtain ⟨_, _, _, _, _, _, _, _, _, _, _, _, _, _, _, rfl, _⟩ := h; rfl) (fun cdv A outer s H vs Q E hr h => ?_)
  obtain ⟨X, rn, e, ol, wl, cl, Z, F, os, ws, cs, ds, f, n, most, rfl, h, hZ, hg, hn, hm, hc, q⟩ := h
  refine ⟨_, (pss_cons (ps_par (i := 2) (j := 3) (by rfl) sc_Run_gone.nd rfl rfl (by decide) rfl rfl (pa_cons (pe_fld (pv 0) rfl) (pa_cons (pe_fld (pv 0) rfl) pa_nil)) (by rfl))
      (pss_one (ps_while PassesOwn.never (PW.pt (pw_and (pt_cmpR (op_neE (hu64 hr)) (pv 2) (pe_lst pa_nil) (nomark _)) (pw_and1 (pt_not (PW.pt (pw_and (pt_cmpR op_eq (pe_pr (pv 0) T.c_Run T.p_calls G_Run_calls (hr.mono (by decide))) (pv 1) (nomark _)) (pw_and1 (pt_val (pe_f G_begins T.g_begins (hr.mono (by decide)) (pa_cons (pe_ix ix_list (pv 2) (pe_un un_neg pe_int) (fun _ _ => rfl)) (pa_cons (pv 3) pa_nil))))))))))) (pss_one (ps_expr (pe_o (pe_fld (pv 0) rfl) T.c_Engine T.m_Engine_done G_Engine_done (hr.mono (by decide)) (pa_cons (pe_bm0 PySem.F.plainAttrs_list PySem.F.slot_list_pop PySem.F.type_list_pop mt_pop (pv 2)) (pa_cons (pv 2) (pa_cons (pv 3) pa_nil))))))))), ?_⟩
  walk_at "rd"
  refine krn T T.na_Run_own_orders h (fun _ => rn_orders _ _ _ _) ?_
  walk_at "rd"
  refine krn T T.na_Run_own_worths h (fun _ => rn_worths _ _ _ _) ?_
  walk_at "rd"
  refine wh_go (fun n' σ H' => ∃ os' ws' cs' ds', σ = [some (.ref rn), some (.int most), some (.ref ol), some (.ref wl)] ∧ Kp (Mu ol wl cl) H H' ∧ RnAt K X H' rn e ol wl cl Z F os' ws' cs' ∧ Go Z f n' os' ws' ds' ∧ n' ≤ 40000 ∧ cs' ++ ds' = cs ++ ds ∧ cs'.length ≤ most) n ⟨os, ws, cs, ds, rfl, Kp.refl, h, hg, hn, rfl, hm⟩ ?_
  rintro n' σ H' ⟨os', ws', cs', ds', rfl, kp, h', hg', hn', hcs, hm'⟩
  have hl := hg'.len
  have hcl : cs'.length + ds'.length = cs.length + ds.length := by
    have h := congrArg List.length hcs
    rw [List.length_append, List.length_append] at h
    exact h
  walk_at "rd"
  refine kln_go len_ok fun b H1 _ s1 hb => ?_
  have h1 := h'.mono s1
  have kp1 := kp.trans (Kp.same s1)
  refine neO h1.ms hb ?_
  cases hg' with
  | done =>
    walk_at "rd"
    refine q H1 [] [f] cs' [] 0 kp1 h1 .done (by omega) hcs ?_ (.inl ⟨rfl, rfl⟩)
    rw [List.length_nil] at hcl
    omega
  | @step n1 _ os1 _ ws1 _ hst hg1 =>
    obtain ⟨o, r, rfl⟩ := hst.oN
    walk_at "rd"
    rw [List.length_cons] at hl
    refine krp h1 ⟨X, rn, e, ol, wl, cl, Z, F, o :: r, ws', cs', rfl, h1, ?_⟩
    walk_at "rd"
    refine reqI_go ?_
    by_cases hmo : cs'.length = most
    · rw [decide_eq_true (show ((cs'.length : Nat) : Int) = (most : Int) by omega)]
      walk_at "rd"
      obtain ⟨ov, ovs, hov, hod, _⟩ := h1.ms.topO
      refine ixl_go (sqL_of hov) (atI_last _ _) ?_
      walk_at "rd"
      refine ⟨X, e, ol, wl, cl, Z, o, r, os1, _, ws', ws1, cs', none, ov, rfl, h1.ms, hod, hst, fun H2 s2 => ?_⟩
      have h2 := h1.mono s2
      have kp2 := kp1.trans (Kp.same s2)
      walk_at "rd"
      refine wh_in ?_
      walk_at "rd"
      refine krn T T.na_Run_own_engine h2 (fun _ => rn_engine _ _ _ _) ?_
      walk_at "rd"
      refine kme h2.ms (by decide +kernel) (by decide +kernel) (by decide +kernel) (by decide +kernel) ?_
      walk_at "rd"
      refine ppO h2.ms fun v H3 t3 k3 hv m3 => ?_
      walk_at "rd"
      refine ⟨X, e, ol, wl, cl, Z, o, r, os1, ws', ws1, cs', none, v, rfl, m3, hv, hZ, by omega, by omega, by omega, hst, fun H4 k4 m4 => ?_⟩
      walk_at "rd"
      rw [show cs' ++ oL none = cs' from List.append_nil _] at m4
      exact ⟨n1, Nat.lt_succ_self _, os1, ws1, cs', ds', rfl, kp2.trans (k3.trans k4), h2.kp (k3.trans k4) m4, hg1, by omega, hcs, hm'⟩
    · rw [decide_eq_false (show ¬ ((cs'.length : Nat) : Int) = (most : Int) by omega)]
      walk_at "rd"
      refine wh_in ?_
      walk_at "rd"
      refine krn T T.na_Run_own_engine h1 (fun _ => rn_engine _ _ _ _) ?_
      walk_at "rd"
      refine kme h1.ms (by decide +kernel) (by decide +kernel) (by decide +kernel) (by decide +kernel) ?_
      walk_at "rd"
      refine ppO h1.ms fun v H3 t3 k3 hv m3 => ?_
      walk_at "rd"
      refine ⟨X, e, ol, wl, cl, Z, o, r, os1, ws', ws1, cs', none, v, rfl, m3, hv, hZ, by omega, by omega, by omega, hst, fun H4 k4 m4 => ?_⟩
      walk_at "rd"
      rw [show cs' ++ oL none = cs' from List.append_nil _] at m4
      exact ⟨n1, Nat.lt_succ_self _, os1, ws1, cs', ds', rfl, kp1.trans (k3.trans k4), h1.kp (k3.trans k4) m4, hg1, by omega, hcs, hm'⟩
  | @call n1 p _ os1 _ ws1 ds1 hst hg1 =>
    obtain ⟨o, r, rfl⟩ := hst.oN
    walk_at "rd"
    rw [List.length_cons] at hl hcl
    refine krp h1 ⟨X, rn, e, ol, wl, cl, Z, F, o :: r, ws', cs', rfl, h1, ?_⟩
    walk_at "rd"
    refine reqI_go ?_
    by_cases hmo : cs'.length = most
    · rw [decide_eq_true (show ((cs'.length : Nat) : Int) = (most : Int) by omega)]
      walk_at "rd"
      obtain ⟨ov, ovs, hov, hod, _⟩ := h1.ms.topO
      refine ixl_go (sqL_of hov) (atI_last _ _) ?_
      walk_at "rd"
      refine ⟨X, e, ol, wl, cl, Z, o, r, os1, _, ws', ws1, cs', some p, ov, rfl, h1.ms, hod, hst, fun H2 s2 => ?_⟩
      have h2 := h1.mono s2
      have kp2 := kp1.trans (Kp.same s2)
      walk_at "rd"
      exact q H2 (o :: r) ws' cs' (p :: ds1) (n1 + 1) kp2 h2 (.call hst hg1) hn' hcs (by omega) (.inr ⟨(fun z => by cases z), (fun z => by cases z)⟩)
    · rw [decide_eq_false (show ¬ ((cs'.length : Nat) : Int) = (most : Int) by omega)]
      walk_at "rd"
      refine wh_in ?_
      walk_at "rd"
      refine krn T T.na_Run_own_engine h1 (fun _ => rn_engine _ _ _ _) ?_
      walk_at "rd"
      refine kme h1.ms (by decide +kernel) (by decide +kernel) (by decide +kernel) (by decide +kernel) ?_
      walk_at "rd"
      refine ppO h1.ms fun v H3 t3 k3 hv m3 => ?_
      walk_at "rd"
      refine ⟨X, e, ol, wl, cl, Z, o, r, os1, ws', ws1, cs', some p, v, rfl, m3, hv, hZ, by omega, by omega, by omega, hst, fun H4 k4 m4 => ?_⟩
      walk_at "rd"
      exact ⟨n1, Nat.lt_succ_self _, os1, ws1, cs' ++ [p], ds1, rfl, kp1.trans (k3.trans k4), h1.kp (k3.trans k4) m4, hg1, by omega, by rw [List.append_assoc]; exact hcs, by rw [List.length_append]; exact (by omega : cs'.length + 1 ≤ most)⟩
end
end K42

/-! KM10 -/
/-! runs: go, value, made -/
namespace K42
open PySem PySem.Spec L2 He
local macro_rules | `(tactic| walk_at "rd") => `(tactic| repeat (first | ((with_reducible refine' rd_var ?hvar ?_); (case hvar => exact rfl)) | with_reducible refine rd_seq ?_ | with_reducible refine rd_asg ?_ | with_reducible refine rd_ret ?_ | with_reducible refine rd_drop ?_ | with_reducible refine rd_ifs ?_ | with_reducible refine rd_name ?_ | with_reducible refine rd_c ?_ | with_reducible refine rd_cons ?_ | with_reducible refine rd_nil ?_ | with_reducible refine rd_cb ?_ | with_reducible refine rd_op ?_ | with_reducible refine rd_test ?_ | with_reducible refine rd_tb ?_ | with_reducible refine rd_and ?_ | with_reducible refine rd_or ?_ | with_reducible refine rd_not ?_ | with_reducible refine rd_andv ?_ | with_reducible refine rd_orv ?_ | with_reducible refine rd_notv ?_ | with_reducible refine rd_if ?_ | with_reducible refine rd_nx ?_ | with_reducible refine rd_retn ?_ | with_reducible refine rd_par ?_ | with_reducible refine rd_par3 ?_ | with_reducible refine rd_tup ?_ | with_reducible refine rd_lst ?_ | with_reducible refine rd_call ?_ | with_reducible refine rd_meth ?_ | with_reducible refine rd_make ?_ | with_reducible refine rd_fld ?_ | with_reducible refine rd_sfld ?_ | with_reducible refine rd_bm ?_ | with_reducible refine rd_bm0 ?_ | with_reducible refine rd_prop ?_ | with_reducible refine rd_dget ?_ | with_reducible refine rd_dnin ?_ | with_reducible refine rd_chain ?_ | with_reducible refine rd_sub ?_ | with_reducible refine rd_un ?_ | with_reducible refine rd_fl ?_ | with_reducible refine rd_ft ?_ | with_reducible refine rd_fr ?_ | with_reducible refine rd_fd ?_ | with_reducible refine rd_fe ?_ | with_reducible refine rd_ll ?_ | with_reducible refine rd_le ?_ | with_reducible refine rd_yes ?_ | with_reducible refine rd_dg2 ?_ | with_reducible refine rd_calld ?_ | with_reducible refine rd_lt ?_ | with_reducible refine rd_rev ?_ | with_reducible refine rd_sl ?_ | with_reducible refine rd_thru ?_ | with_reducible refine kb_go ?_ | with_reducible refine kpar_go ?_ | with_reducible refine kpar3_go ?_ | with_reducible refine ri0_go ?_ | with_reducible refine ru_go ?_ | ((with_reducible refine ifT ?hift ?_); (case hift => exact rfl)) | ((with_reducible refine ifF ?hiff ?_); (case hiff => exact rfl))))
local macro_rules | `(tactic| walk_at "dt") => `(tactic| first | refine ifT (by decide +kernel) ?_ | ((refine ifT ?hdt ?_); (case hdt => exact decide_eq_true (by omega))))
local macro_rules | `(tactic| walk_at "df") => `(tactic| first | refine ifF (by decide +kernel) ?_ | ((refine ifF ?hdf ?_); (case hdf => exact decide_eq_false (by omega))))

section
variable {P : Program} {w : World} {K : PySem.W.Frag} {mg : Str → Option Value} {base : Heap}
/-- a def's promise, its function object at hand (calls with keywords) -/
def OkK (P : Program) (w : World) (K : PySem.W.Frag) (mg : Str → Option Value) (base : Heap) (k : Nat) (d : Dp) (ps : List Str) (sp : Sp) : Prop :=
  ∃ fd, FunD K d.nm d.ql (defArgs d.st) (defBody d.st) (defScope d.st) [] [] (d.loc K) fd ∧ FnOk P w K mg base CX0 k (d.loc K) fd ps sp
theorem okK {d : Dp} {N ps : List Str} {k : Nat} {sp : Sp} (F : FnAt K d) (hd : d.df = [] := by rfl) (S : FnScope N ps (defScope d.st)) (_hb : BindW d.st d.nm d.ql ps) (len : ∀ vs H Q E, sp vs H Q E → vs.length = ps.length)
    (body : ∀ (cdv : Value) (A : Around) (outer : List Env) (s : Shared) (H : Hp) (vs : List V) (Q : VK) (E : XK), Room k (A.deeper (PyProof.Rows.envOfC d.ql (defScope d.st) s.heap.objs.size (d.loc K) cdv)) → sp vs H Q E →
      ∃ t, PSs (cxOf CX0 P w K mg base N d.ql (defScope d.st) (d.loc K) cdv A outer s H E).nox (defBody d.st) t ∧ t { nx := fun _ H' => Q .non H', rt := Q } (start N vs) H) : OkK P w K mg base (k + 1) d ps sp := by
  obtain ⟨fd, F⟩ := F
  rw [hd] at F
  refine ⟨fd, F, F.ok S len fun cdv A outer s H vs Q E hr hs => ?_⟩
  obtain ⟨t, h1, h2⟩ := body cdv A outer s H vs Q E hr hs
  exact ⟨t, PSs.nox h1, h2⟩
theorem OkK.okF {d : Dp} {k : Nat} {ps : List Str} {sp : Sp} (h : OkK P w K mg base k d ps sp) (hb : BindW d.st d.nm d.ql ps) : OkF P w K mg base k (d.loc K) ps sp := by
  obtain ⟨fd, F, h⟩ := h
  exact ⟨fd, F.kp, FunD.bindsN (ps := ps) F hb, h⟩
def sp_Run_go (K : PySem.W.Frag) : Sp := fun vs H Q _ => ∃ (X : Addr → Prop) (rn e ol wl cl : Addr) (Z : Tm) (F : Kd) (os : List Od) (ws : List W) (cs ds : List Nat) (f : W) (n many : Nat), vs = [.ref rn, .int many] ∧ RnAt K X H rn e ol wl cl Z F os ws cs ∧ Z.ok ∧ Go Z f n os ws ds ∧ n ≤ 40000 ∧ many ≤ 2000 ∧ cs.length + ds.length < 2000 ∧
  ∀ H1 os1 ws1 cs1 ds1 n1, Kp (Mu ol wl cl) H H1 → RnAt K X H1 rn e ol wl cl Z F os1 ws1 cs1 → Go Z f n1 os1 ws1 ds1 → n1 ≤ 40000 → cs1 ++ ds1 = cs ++ ds → cs1.length = min (cs.length + many) (cs.length + ds.length) → Ends os1 ds1 → Q (.bl os1.isEmpty) H1
theorem okk_Run_go (T : Tx w K mg) : OkK P w K mg base 6 d_Run_go ["self", "many"] (sp_Run_go K) := by
  have G_Run_gone := ok_Run_gone (P := P) (base := base) T
  have G_Run_is_done := ok_Run_is_done (P := P) (base := base) T
  have G_want_many := ok_want_many (P := P) (base := base) T
  refine okK T.f_Run_go rfl sc_Run_go b_Run_go (fun vs H Q E h => by obtain ⟨_, _, _, _, _, _, _, _, _, _, _, _, _, _, _, rfl, _⟩ := h; rfl) (fun cdv A outer s H vs Q E hr h => ?_)
  obtain ⟨X, rn, e, ol, wl, cl, Z, F, os, ws, cs, ds, f, n, many, rfl, h, hZ, hg, hn, hm, hc, q⟩ := h
  refine ⟨_, (pss_cons (ps_expr (pe_wm G_want_many T.g_want_many (hr.mono (by decide)) (pa_cons (pv 1) (pa_cons (pe_gi T.i_MOST_CALLS) pa_nil))))
      (pss_cons (ps_set (i := 2) sc_Run_go.nd rfl (Or.inl rfl) (pe_tup (pa_cons (pe_callTy call_list_of (by rfl) T.n_list (by decide +kernel) (pa_cons (pe_fld (pv 0) rfl) pa_nil)) (pa_cons (pe_callTy call_list_of (by rfl) T.n_list (by decide +kernel) (pa_cons (pe_fld (pv 0) rfl) pa_nil)) (pa_cons (pe_callB call_ln (by rfl) T.n_len PySem.boot_len (pa_cons (pe_fld (pe_fld (pv 0) rfl) rfl) pa_nil)) pa_nil)))))
      (pss_cons (ps_try_thru0 (pss_one (ps_expr (pe_o (pv 0) T.c_Run T.m_Run_gone G_Run_gone (hr.mono (by decide)) (pa_cons (pe_op op_add (pe_ix ix_tup (pv 2) pe_int (fun _ _ => rfl)) (pv 1)) pa_nil)))))
      (pss_one (ps_ret (pe_pr (pv 0) T.c_Run T.p_is_done G_Run_is_done (hr.mono (by decide)))))))), ?_⟩
  walk_at "rd"
  refine ⟨many, 2000, rfl, by omega, by omega, ?_⟩
  walk_at "rd"
  obtain ⟨ov, hov, _⟩ := h.ms.hol
  obtain ⟨wv, hwv, _⟩ := h.ms.hwl
  refine krn T T.na_Run_own_orders h (fun _ => rn_orders _ _ _ _) ?_
  walk_at "rd"
  refine ⟨ol, ov, rfl, .inl (sqL_of hov), fun p1 hp1 => ?_⟩
  have s1 := same_upd (o := .lst ov) hp1
  generalize upd H p1 (.lst ov) = H1 at s1 ⊢
  have h1 := h.mono s1
  walk_at "rd"
  refine krn T T.na_Run_own_worths h1 (fun _ => rn_worths _ _ _ _) ?_
  walk_at "rd"
  refine ⟨wl, wv, rfl, .inl (sqL_of (s1 _ _ hwv)), fun p2 hp2 => ?_⟩
  have s2 := same_upd (o := .lst wv) hp2
  generalize upd H1 p2 (.lst wv) = H2 at s2 ⊢
  have h2 := h1.mono s2
  walk_at "rd"
  refine krn T T.na_Run_own_engine h2 (fun _ => rn_engine _ _ _ _) ?_
  obtain ⟨dx, a, ch, us, he⟩ := h2.ms.en
  refine kfld_go (en_go he) T.c_Engine T.na_Engine_own_calls (en_calls _ _ _) ?_
  walk_at "rd"
  refine lnl_go (sqL_of h2.ms.c) ?_
  walk_at "rd"
  refine ktn_go len_ok fun p3 H3 _ s3 hp3 => ?_
  have h3 := h2.mono s3
  have s13 := s1.trans (s2.trans s3)
  walk_at "rd"
  refine krm h3 (by decide +kernel) (by decide +kernel) (by decide +kernel) (by decide +kernel) ?_
  walk_at "rd"
  refine ixt_go (sqT_of hp3) at2 ?_
  walk_at "rd"
  rw [List.length_map]
  refine ⟨X, rn, e, ol, wl, cl, Z, F, os, ws, cs, ds, f, n, cs.length + many, by rw [Int.natCast_add], h3, hZ, hg, hn, by omega, hc, fun H4 os1 ws1 cs1 ds1 n1 k4 h4 hg4 hn4 hcs hl hE => ?_⟩
  walk_at "rd"
  refine krp h4 ⟨X, rn, e, ol, wl, cl, Z, F, os1, ws1, cs1, rfl, h4, fun H5 s5 => ?_⟩
  exact q H5 os1 ws1 cs1 ds1 n1 ((Kp.same s13).trans (k4.trans (Kp.same s5))) (h4.mono s5) hg4 hn4 hcs hl hE
theorem ok_Run_go (T : Tx w K mg) : OkF P w K mg base 6 (ma K (ga K "Run") "go") ["self", "many"] (sp_Run_go K) := (okk_Run_go T).okF b_Run_go
def sp_Run_value (K : PySem.W.Frag) : Sp := fun vs H Q _ => ∃ (X : Addr → Prop) (rn e ol wl cl : Addr) (Z : Tm) (F : Kd) (cs : List Nat) (f : W), vs = [.ref rn] ∧ RnAt K X H rn e ol wl cl Z F [] [f] cs ∧ F.data = true ∧ F.dp ≤ 12 ∧ Dw f ∧ f.dp ≤ 12 ∧ ∀ u H1, Same H H1 → DwAt K H1 u f → Q u H1
theorem ok_Run_value (T : Tx w K mg) : OkF P w K mg base 14 (ma K (ga K "Run") "value") ["self"] (sp_Run_value K) := by
  have G_Run_is_done := ok_Run_is_done (P := P) (base := base) T
  have G_data_kind := ok_data_kind (P := P) (base := base) T 12
  have G_told_worth := ok_told_worth (P := P) (base := base) T 12
  refine okF T.f_Run_value rfl sc_Run_value b_Run_value (fun vs H Q E h => by obtain ⟨_, _, _, _, _, _, _, _, _, _, rfl, _⟩ := h; rfl) (fun cdv A outer s H vs Q E hr h => ?_)
  obtain ⟨X, rn, e, ol, wl, cl, Z, F, cs, f, rfl, h, hF, hFd, hf, hfd, q⟩ := h
  refine ⟨_, (pss_cons (ps_if (pt_not (pt_val (pe_pr (pv 0) T.c_Run T.p_is_done G_Run_is_done (hr.mono (by decide))))) (pss_one ps_never) pss_nil)
      (pss_cons (ps_if (pt_not (pt_val (pe_f G_data_kind T.g_data_kind (hr.mono (by decide)) (pa_cons (pe_fld (pv 0) rfl) pa_nil)))) (pss_one ps_never) pss_nil)
      (pss_one (ps_ret (pe_f G_told_worth T.g_told_worth (hr.mono (by decide)) (pa_cons (pe_ix ix_list (pe_fld (pv 0) rfl) (pe_un un_neg pe_int) (fun _ _ => rfl)) pa_nil)))))), ?_⟩
  walk_at "rd"
  refine krp h ⟨X, rn, e, ol, wl, cl, Z, F, _, _, cs, rfl, h, fun H1 s1 => ?_⟩
  have h1 := h.mono s1
  walk_at "rd"
  obtain ⟨dx, kv, e1, e2, m⟩ := id h1
  refine kfld_go e1 T.c_Run T.na_Run_own_kind (rn_kind _ _ _ _) ?_
  walk_at "rd"
  refine ⟨kv, F, rfl, e2, hFd, fun H2 s2 => ?_⟩
  have h2 := h1.mono s2
  walk_at "rd"
  refine ifF ?hh ?_
  case hh => rw [hF]; rfl
  walk_at "rd"
  refine krn T T.na_Run_own_worths h2 (fun _ => rn_worths _ _ _ _) ?_
  obtain ⟨v, vs, hv, hvm, _⟩ := h2.ms.topW
  walk_at "rd"
  refine ixl_go (sqL_of hv) (atI_last _ _) ?_
  walk_at "rd"
  exact ⟨v, f, rfl, hfd, hvm.dw hf, fun u H3 s3 hu => q u H3 (s1.trans (s2.trans s3)) hu⟩
def sp_Run_init (K : PySem.W.Frag) : Sp := fun vs H Q _ => ∃ (x dx a : Addr) (Z : Tm) (F : Kd) (f : W) (ds : List Nat), vs = [.ref x, .ref a] ∧ H x = some (.ins (ga K "Run") dx []) ∧ NlAt K H a Z ∧ PgOk Z F f ds ∧
  ∀ e ol wl cl H1, H ol = none → H wl = none → H cl = none → Kp (fun b => b = x) H H1 → (∀ X, ¬ X x → (∀ b, X b → ∃ o, H b = some o ∧ NT o) → RnAt K X H1 x e ol wl cl Z F [.see 0 []] [] []) → Q .non H1
theorem okk_Run_init (T : Tx w K mg) : OkK P w K mg base 9 d_Run_init ["self", "program"] (sp_Run_init K) := by
  have G_want_program := ok_want_program (P := P) (base := base) T
  have G_kinds_of := ok_kinds_of (P := P) (base := base) T
  have G_Engine_init := ok_Engine_init (P := P) (base := base) T
  refine okK T.f_Run_init rfl sc_Run_init b_Run_init (fun vs H Q E h => by obtain ⟨_, _, _, _, _, _, _, rfl, _⟩ := h; rfl) (fun cdv A outer s H vs Q E hr h => ?_)
  obtain ⟨x, dx, a, Z, F, f, ds, rfl, hx, hN, hp, q⟩ := h
  refine ⟨_, (pss_cons (ps_set (i := 2) sc_Run_init.nd rfl (Or.inl rfl) (pe_f G_want_program T.g_want_program (hr.mono (by decide)) (pa_cons (pv 1) pa_nil)))
      (pss_cons (ps_fld (pv 0) (pe_ix ix_list (pe_f G_kinds_of T.g_kinds_of (hr.mono (by decide)) (pa_cons (pe_lst pa_nil) (pa_cons (pv 2) pa_nil))) pe_int (fun _ _ => rfl)) rfl)
      (pss_cons (ps_fld (pv 0) (pe_n T.mk_Engine G_Engine_init T.g_Engine (hr.mono (by decide)) (pa_cons (pv 2) (pa_cons (pe_gi T.i_MOST_CALLS) pa_nil))) rfl)
      (pss_cons (ps_fld (pv 0) (pe_lst (pa_cons (pe_tup (pa_cons pe_str (pa_cons pe_int (pa_cons (pe_tup pa_nil) pa_nil)))) pa_nil)) rfl)
      (pss_one (ps_fld (pv 0) (pe_lst pa_nil) rfl)))))), ?_⟩
  have hz : Z.size ≤ 300 := Nat.le_trans hp.sz (by decide)
  walk_at "rd"
  refine ⟨a, Z, F, rfl, hN, hp.ok, hz, hp.wt, fun r H1 hr1 s1 hN1 => ?_⟩
  walk_at "rd"
  refine kln_go len_ok fun b H2 _ s2 hb => ?_
  have hN2 := hN1.mono s2
  walk_at "rd"
  refine ⟨b, r, Z, F, rfl, sqL_of hb, hN2, hp.ok, hz, hp.wt, fun k H3 us v _ s3 hk hv hvk => ?_⟩
  have hN3 := hN2.mono s3
  have s13 := s1.trans (s2.trans s3)
  walk_at "rd"
  refine ixl_go (sqL_of hk) (atI_nat (j := 0) hv) ?_
  walk_at "rd"
  have e1 := putF_len ("own_kind" : Str) v []
  simp only [List.length_nil] at e1
  refine kst_go (s13 _ _ hx) T.c_Run T.na_Run_own_kind (by simp) ?_
  -- own_kind set
  have hx3 := s13 _ _ hx
  have t4 : TpS H3 (upd H3 x (.ins (ga K "Run") dx (putF "own_kind" v []))) := TpS.ins hx3
  have k4 : Kp (fun b => b = x) H3 (upd H3 x (.ins (ga K "Run") dx (putF "own_kind" v []))) := Kp.mut rfl
  have hx4 : (upd H3 x (.ins (ga K "Run") dx (putF "own_kind" v []))) x = _ := upd_same
  have f4 : ∀ b, (upd H3 x (.ins (ga K "Run") dx (putF "own_kind" v []))) b = none → H3 b = none := fun b h => by
    by_cases z : b = x
    · rw [z, upd_same] at h; cases h
    · rw [upd_ne z] at h; exact h
  have hN4 : NlAt K (upd H3 x (.ins (ga K "Run") dx (putF "own_kind" v []))) r Z := by
    obtain ⟨vs, h1, h2⟩ := hN3
    exact ⟨vs, k4 _ _ h1 (ne_of h1 hx3 (by intro z; cases z)), h2.imp fun _ _ z => z.tp t4⟩
  have hvk4 := hvk.tp t4
  generalize upd H3 x (.ins (ga K "Run") dx (putF "own_kind" v [])) = H4 at t4 k4 hx4 f4 hN4 hvk4 ⊢
  walk_at "rd"
  refine mkE hN4 hp.ok hz fun e cl H5 he hcl s5 hE0 => ?_
  walk_at "rd"
  have hx5 := s5 _ _ hx4
  have e2 := putF_len ("own_engine" : Str) (V.ref e) (putF "own_kind" v [])
  refine kst_go hx5 T.c_Run T.na_Run_own_engine (by omega) ?_
  have t6 : TpS H5 (upd H5 x (.ins (ga K "Run") dx (putF "own_engine" (.ref e) (putF "own_kind" v [])))) := TpS.ins hx5
  have k6 : Kp (fun b => b = x) H5 (upd H5 x (.ins (ga K "Run") dx (putF "own_engine" (.ref e) (putF "own_kind" v [])))) := Kp.mut rfl
  have hx6 : (upd H5 x (.ins (ga K "Run") dx (putF "own_engine" (.ref e) (putF "own_kind" v [])))) x = _ := upd_same
  have f6 : ∀ b, (upd H5 x (.ins (ga K "Run") dx (putF "own_engine" (.ref e) (putF "own_kind" v [])))) b = none → H5 b = none := fun b h => by
    by_cases z : b = x
    · rw [z, upd_same] at h; cases h
    · rw [upd_ne z] at h; exact h
  have hvk6 := (hvk4.mono s5).tp t6
  generalize upd H5 x (.ins (ga K "Run") dx (putF "own_engine" (.ref e) (putF "own_kind" v []))) = H6 at t6 k6 hx6 f6 hvk6 ⊢
  walk_at "rd"
  refine ktn_go len_ok fun y1 H7 _ s7 hy1 => ?_
  walk_at "rd"
  refine ktn_go len_ok fun y2 H8 _ s8 hy2 => ?_
  walk_at "rd"
  refine kln_go len_ok fun ol H9 hol s9 hol9 => ?_
  walk_at "rd"
  have s69 := s7.trans (s8.trans s9)
  have hov9 : OdAt K H9 Z (.ref y2) (.see 0 []) := .see (Same.sqt s9 (sqT_of hy2)) (.nil (Same.sqt (s8.trans s9) (sqT_of hy1)))
  have hx9 := s69 _ _ hx6
  have e3 := putF_len ("own_orders" : Str) (V.ref ol) (putF "own_engine" (.ref e) (putF "own_kind" v []))
  refine kst_go hx9 T.c_Run T.na_Run_own_orders (by omega) ?_
  have t10 : TpS H9 (upd H9 x (.ins (ga K "Run") dx (putF "own_orders" (.ref ol) (putF "own_engine" (.ref e) (putF "own_kind" v []))))) := TpS.ins hx9
  have k10 : Kp (fun b => b = x) H9 (upd H9 x (.ins (ga K "Run") dx (putF "own_orders" (.ref ol) (putF "own_engine" (.ref e) (putF "own_kind" v []))))) := Kp.mut rfl
  have hx10 : (upd H9 x (.ins (ga K "Run") dx (putF "own_orders" (.ref ol) (putF "own_engine" (.ref e) (putF "own_kind" v []))))) x = _ := upd_same
  have f10 : ∀ b, (upd H9 x (.ins (ga K "Run") dx (putF "own_orders" (.ref ol) (putF "own_engine" (.ref e) (putF "own_kind" v []))))) b = none → H9 b = none := fun b h => by
    by_cases z : b = x
    · rw [z, upd_same] at h; cases h
    · rw [upd_ne z] at h; exact h
  have hvk10 := (hvk6.mono s69).tp t10
  have hov10 := hov9.tp t10
  have hol10 := k10 _ _ hol9 (ne_of hol9 hx9 (by intro z; cases z))
  generalize upd H9 x (.ins (ga K "Run") dx (putF "own_orders" (.ref ol) (putF "own_engine" (.ref e) (putF "own_kind" v [])))) = H10 at t10 k10 hx10 f10 hvk10 hov10 hol10 ⊢
  walk_at "rd"
  refine kln_go len_ok fun wl H11 hwl s11 hwl11 => ?_
  walk_at "rd"
  have hx11 := s11 _ _ hx10
  have e4 := putF_len ("own_worths" : Str) (V.ref wl) (putF "own_orders" (.ref ol) (putF "own_engine" (.ref e) (putF "own_kind" v [])))
  refine kst_go hx11 T.c_Run T.na_Run_own_worths (by omega) ?_
  have t12 : TpS H11 (upd H11 x (.ins (ga K "Run") dx (rnF v e ol wl))) := TpS.ins hx11
  have k12 : Kp (fun b => b = x) H11 (upd H11 x (.ins (ga K "Run") dx (rnF v e ol wl))) := Kp.mut rfl
  have hx12 : (upd H11 x (.ins (ga K "Run") dx (rnF v e ol wl))) x = _ := upd_same
  have hvk12 := (hvk10.mono s11).tp t12
  have hov12 := (hov10.tp (.same s11)).tp t12
  have hol12 := k12 _ _ (s11 _ _ hol10) (ne_of (s11 _ _ hol10) hx11 (by intro z; cases z))
  have hwl12 := k12 _ _ hwl11 (ne_of hwl11 hx11 (by intro z; cases z))
  walk_at "rd"
  have now : ol ≠ wl := ne_of_none hol10 hwl
  have hol6 : H6 ol = none := s7.free (s8.free hol)
  have hwl6 : H6 wl = none := s69.free (f10 _ hwl)
  have k612 : Kp (fun b => b = x) H6 (upd H11 x (.ins (ga K "Run") dx (rnF v e ol wl))) := fun b o hb nb => k12 b o (s11 _ _ (k10 b o (s69 _ _ hb) nb)) nb
  have k512 := k6.trans k612
  have up : ∀ b, H5 b = none → H b = none := fun b h => s13.free (f4 _ (s5.free h))
  refine q e ol wl cl _ (up _ (f6 _ hol6)) (up _ (f6 _ hwl6)) (s13.free (f4 _ hcl)) (fun b o hb nb => k512 b o (s5 _ _ (k4 b o (s13 _ _ hb) nb)) nb) fun X hXx hX => ⟨dx, v, hx12, hvk12, ?_⟩
  obtain ⟨⟨dxe, an, ch, us2, hen⟩, hclv⟩ := hE0 (fun b => X b ∨ b = x) (fun z => z.elim (fun z => by
    obtain ⟨o, e, _⟩ := hX _ z
    rw [hr1] at e
    cases e) (fun z => by
    rw [z, hx] at hr1
    cases hr1)) (fun b hb => by
    by_cases z : b = x
    · exact ⟨_, by rw [z]; exact hx4, ⟨(fun xs z => by cases z), (fun y xs z => by cases z)⟩⟩
    · obtain ⟨o, e, n⟩ := hX b (hb.resolve_right z)
      exact ⟨o, k4 b o (s13 _ _ e) z, n⟩)
  have ncx : cl ≠ x := fun z => by rw [z, hx4] at hcl; cases hcl
  refine ⟨⟨dxe, an, ch, us2, hen.mono fun b o hb => ?_⟩, ⟨[.ref y2], hol12, .cons hov12 .nil⟩, ⟨[], hwl12, .nil⟩, k512 _ _ hclv ncx, now, fun z => ?_, fun z => ?_⟩
  · obtain ⟨g1, g2⟩ := of_hid hb
    refine hid_at (k512 b o g1 fun z => g2 (.inr (.inr z))) ?_
    rintro ((z | z | z) | z)
    · rw [z, f6 _ hol6] at g1; cases g1
    · rw [z, f6 _ hwl6] at g1; cases g1
    · exact g2 (.inl z)
    · exact g2 (.inr (.inl z))
  · have := f6 _ hol6
    rw [z, hclv] at this
    cases this
  · have := f6 _ hwl6
    rw [z, hclv] at this
    cases this
theorem ok_Run_init (T : Tx w K mg) : OkF P w K mg base 9 (ma K (ga K "Run") "__init__") ["self", "program"] (sp_Run_init K) := (okk_Run_init T).okF b_Run_init
end
end K42

/-! KT1 -/
/-! texts of data -/
namespace K42
open PySem PySem.Spec PyProof.Rows L2 He
theorem tf_len : ∀ (ts : List Str) (k : Nat) (acc : Str), (textFrom k acc ts).length ≤ acc.length + piled ts
  | [], k, acc => Nat.le_add_right _ _
  | t :: ts, k, acc => by
    have h := tf_len ts (k + 1) (acc ++ (if k > 0 then ", " else "" : String) ++ t)
    have e : (acc ++ (if k > 0 then ", " else "" : String) ++ t).length ≤ acc.length + 2 + t.length := by
      rw [strLen_append, strLen_append]
      have : (((if k > 0 then ", " else "" : String) : Str)).length ≤ 2 := by split <;> decide +kernel
      omega
    rw [piled_cons]
    show (textFrom (k + 1) _ ts).length ≤ _
    omega
theorem lt_len (ts : List Str) : (listText ts).length ≤ piled ts + 2 := by
  have h := tf_len ts 0 "["
  unfold listText
  rw [strLen_append]
  have e1 : ((("[" : String) : Str)).length = 1 := rfl
  have e2 : ((("]" : String) : Str)).length = 1 := rfl
  omega
/-- what may be told -/
structure Told (d : PyData) : Prop where
  sh : d.showable = true
  nd : d.hasDict = false
  dp : d.depth ≤ 40
  fit : d.shown.length ≤ sizeLine
theorem Kt.rw6 (t : Kt) : (reprText t.w).length ≤ 6 := by cases t <;> decide +kernel
theorem Nk.rw7 (t : Nk) : (reprText t.w).length ≤ 7 := by cases t <;> decide +kernel
theorem Nw.rw8 (t : Nw) : (reprText t.w).length ≤ 8 := by cases t <;> decide +kernel
theorem Kd.told (k : Kd) : k.pd.showable = true ∧ k.pd.hasDict = false ∧ k.pd.shown.length ≤ 14 * k.sz := by
  induction k with
  | cnt => exact ⟨by decide +kernel, by decide +kernel, by decide +kernel⟩
  | two t a b i1 i2 =>
    obtain ⟨h1, h2, h3⟩ := i1
    obtain ⟨g1, g2, g3⟩ := i2
    refine ⟨by simp only [Kd.pd, PyData.showable, PyData.showableAll, h1, g1, Bool.and_true], by simp only [Kd.pd, PyData.hasDict, PyData.hasDictAll, h2, g2, Bool.or_false], ?_⟩
    have h := fmt_text [reprText t.w, a.pd.shown, b.pd.shown]
    rw [piled_cons, piled_cons, piled_cons, piled_nil] at h
    have := t.rw6
    simp only [Kd.pd, PyData.shown, PyData.shownAll, Kd.sz]
    omega
def Nd.pd : Nd → PyData
  | .name i => .tuple [.str "name", .int i]
  | .told i => .tuple [.str "told", .int i]
  | .knd t k => .tuple [.str t.w, k.pd]
  | .wd t => .tuple [.str t.w]
theorem lg_small {i : Nat} (h : i ≤ 1000000) : ((i : Nat) : Int).natAbs.log2 < 1920 := by
  have h1 : ((i : Nat) : Int).natAbs = i := Int.natAbs_natCast i
  rw [h1]
  refine Nat.lt_of_le_of_lt (Nat.log2_le_self i |> fun _ => ?_) (show 20 < 1920 by decide)
  by_cases z : i = 0
  · rw [z]; decide
  · have := (Nat.log2_lt z (k := 20)).mpr (Nat.lt_of_le_of_lt h (by decide))
    omega
theorem Nd.told_ {n : Nd} (h : n.fine) : n.pd.showable = true ∧ n.pd.hasDict = false ∧ n.pd.shown.length ≤ 2000 ∧ n.pd.depth ≤ 13 := by
  cases n with
  | name i =>
    have hi : i ≤ 299 := h
    have hl := lg_small (i := i) (by omega)
    refine ⟨by simp only [Nd.pd, PyData.showable, PyData.showableAll, decide_eq_true hl, Bool.and_true], by simp only [Nd.pd, PyData.hasDict, PyData.hasDictAll, Bool.or_false], ?_, by simp [Nd.pd, PyData.depth, PyData.depthAll]⟩
    have h := fmt_text [reprText "name", (Str.ofString (toString (i : Int)))]
    rw [piled_cons, piled_cons, piled_nil] at h
    have h2 := int_text_len_1921 hl
    have h3 : (reprText ("name" : Str)).length ≤ 8 := by decide +kernel
    simp only [Nd.pd, PyData.shown, PyData.shownAll]
    refine Nat.le_trans h ?_
    omega
  | told i =>
    have hi : i ≤ 1000000 := h
    have hl := lg_small (i := i) hi
    refine ⟨by simp only [Nd.pd, PyData.showable, PyData.showableAll, decide_eq_true hl, Bool.and_true], by simp only [Nd.pd, PyData.hasDict, PyData.hasDictAll, Bool.or_false], ?_, by simp [Nd.pd, PyData.depth, PyData.depthAll]⟩
    have h := fmt_text [reprText "told", (Str.ofString (toString (i : Int)))]
    rw [piled_cons, piled_cons, piled_nil] at h
    have h2 := int_text_len_1921 hl
    have h3 : (reprText ("told" : Str)).length ≤ 8 := by decide +kernel
    simp only [Nd.pd, PyData.shown, PyData.shownAll]
    refine Nat.le_trans h ?_
    omega
  | knd t k =>
    have hk : k.fine := h
    obtain ⟨h1, h2, h3⟩ := k.told
    have hd := hk.2
    have hs := hk.1
    refine ⟨by simp only [Nd.pd, PyData.showable, PyData.showableAll, h1, Bool.and_true], by simp only [Nd.pd, PyData.hasDict, PyData.hasDictAll, h2, Bool.or_false], ?_, by simp only [Nd.pd, PyData.depth, PyData.depthAll, k.lay.2]; omega⟩
    have h := fmt_text [reprText t.w, k.pd.shown]
    rw [piled_cons, piled_cons, piled_nil] at h
    have := t.rw7
    simp only [Nd.pd, PyData.shown, PyData.shownAll]
    omega
  | wd t =>
    refine ⟨by simp only [Nd.pd, PyData.showable, PyData.showableAll, Bool.and_true], by simp only [Nd.pd, PyData.hasDict, PyData.hasDictAll, Bool.or_false], ?_, by simp [Nd.pd, PyData.depth, PyData.depthAll]⟩
    have h := fmt_text [reprText t.w]
    rw [piled_cons, piled_nil] at h
    have := t.rw8
    simp only [Nd.pd, PyData.shown, PyData.shownAll]
    omega
theorem nds_told : ∀ ns : List Nd, (∀ n ∈ ns, n.fine) → PyData.showableAll (ns.map Nd.pd) = true ∧ PyData.hasDictAll (ns.map Nd.pd) = false ∧ piled (PyData.shownAll (ns.map Nd.pd)) ≤ 2002 * ns.length ∧ PyData.depthAll (ns.map Nd.pd) ≤ 13
  | [], _ => ⟨rfl, rfl, Nat.le_refl _, Nat.zero_le _⟩
  | n :: ns, h => by
    obtain ⟨h1, h2, h3, h4⟩ := Nd.told_ (h n List.mem_cons_self)
    obtain ⟨g1, g2, g3, g4⟩ := nds_told ns fun m hm => h m (List.mem_cons_of_mem _ hm)
    refine ⟨by simp only [List.map_cons, PyData.showableAll, h1, g1, Bool.and_true], by simp only [List.map_cons, PyData.hasDictAll, h2, g2, Bool.or_false], ?_, by simp only [List.map_cons, PyData.depthAll]; omega⟩
    simp only [List.map_cons, PyData.shownAll, List.length_cons]
    rw [piled_cons]
    omega
def Tm.pd (Z : Tm) : PyData := .list (Z.nodes.map Nd.pd)
theorem Tm.told {Z : Tm} (h : Z.ok) (hz : Z.size ≤ 300) : Told Z.pd := by
  obtain ⟨h1, h2, h3, h4⟩ := nds_told Z.nodes (Z.okNodes h)
  · refine ⟨by simp only [Tm.pd, PyData.showable, h1], by simp only [Tm.pd, PyData.hasDict, h2], by simp only [Tm.pd, PyData.depth]; omega, ?_⟩
    have := lt_len (PyData.shownAll (Z.nodes.map Nd.pd))
    have e := Z.len
    simp only [Tm.pd, PyData.shown]
    have : (1000000 : Nat) ≤ sizeLine := by decide
    omega
/-- worths of data -/
theorem W.told_ {w : W} (d : Dw w) (s : Sm w) : w.pd.showable = true ∧ w.pd.hasDict = false ∧ w.pd.shown.length + 14 ≤ 1935 * 2 ^ w.dp ∧ w.pd.canLay0 = true ∧ w.pd.depth ≤ w.dp := by
  induction d with
  | @int n =>
    cases s with
    | int hn =>
      have hl := lg_small hn
      refine ⟨by simp only [W.pd, PyData.showable, decide_eq_true hl], by simp only [W.pd, PyData.hasDict], ?_, by simp [W.pd, PyData.canLay0], by simp [W.pd, PyData.depth]⟩
      have h2 := int_text_len_1921 hl
      simp only [W.pd, PyData.shown, W.dp]
      show (Str.ofString (toString (n : Int))).length + 14 ≤ 1935 * 1
      omega
  | @both a b _ _ i1 i2 =>
    cases s with
    | both s1 s2 =>
      obtain ⟨h1, h2, h3, h4, h5⟩ := i1 s1
      obtain ⟨g1, g2, g3, g4, g5⟩ := i2 s2
      refine ⟨by simp only [W.pd, PyData.showable, PyData.showableAll, h1, g1, Bool.and_true], by simp only [W.pd, PyData.hasDict, PyData.hasDictAll, h2, g2, Bool.or_false], ?_, by simp only [W.pd, PyData.canLay0, PyData.canLayAll0, h4, g4, Bool.and_true]; decide +kernel, by simp only [W.pd, PyData.depth, PyData.depthAll, W.dp]; omega⟩
      have h := fmt_text [reprText "both", a.pd.shown, b.pd.shown]
      rw [piled_cons, piled_cons, piled_cons, piled_nil] at h
      have h6 : (reprText ("both" : Str)).length ≤ 6 := by decide +kernel
      have e1 : 2 ^ a.dp ≤ 2 ^ max a.dp b.dp := Nat.pow_le_pow_right (by decide) (Nat.le_max_left _ _)
      have e2 : 2 ^ b.dp ≤ 2 ^ max a.dp b.dp := Nat.pow_le_pow_right (by decide) (Nat.le_max_right _ _)
      simp only [W.pd, PyData.shown, PyData.shownAll, W.dp]
      rw [Nat.pow_add]
      generalize 2 ^ max a.dp b.dp = M at e1 e2 ⊢
      generalize 2 ^ a.dp = A at e1 h3
      generalize 2 ^ b.dp = B at e2 g3
      refine Nat.le_trans (Nat.add_le_add_right h 14) ?_
      omega
  | @left a _ i1 =>
    cases s with
    | left s1 =>
      obtain ⟨h1, h2, h3, h4, h5⟩ := i1 s1
      refine ⟨by simp only [W.pd, PyData.showable, PyData.showableAll, h1, Bool.and_true], by simp only [W.pd, PyData.hasDict, PyData.hasDictAll, h2, Bool.or_false], ?_, by simp only [W.pd, PyData.canLay0, PyData.canLayAll0, h4, Bool.and_true]; decide +kernel, by simp only [W.pd, PyData.depth, PyData.depthAll, W.dp]; omega⟩
      have h := fmt_text [reprText "left", a.pd.shown]
      rw [piled_cons, piled_cons, piled_nil] at h
      have h6 : (reprText ("left" : Str)).length ≤ 6 := by decide +kernel
      have h7 : 1 ≤ 2 ^ a.dp := Nat.pow_pos (by decide)
      simp only [W.pd, PyData.shown, PyData.shownAll, W.dp]
      rw [Nat.pow_add]
      generalize 2 ^ a.dp = A at h3 h7 ⊢
      refine Nat.le_trans (Nat.add_le_add_right h 14) ?_
      omega
  | @right a _ i1 =>
    cases s with
    | right s1 =>
      obtain ⟨h1, h2, h3, h4, h5⟩ := i1 s1
      refine ⟨by simp only [W.pd, PyData.showable, PyData.showableAll, h1, Bool.and_true], by simp only [W.pd, PyData.hasDict, PyData.hasDictAll, h2, Bool.or_false], ?_, by simp only [W.pd, PyData.canLay0, PyData.canLayAll0, h4, Bool.and_true]; decide +kernel, by simp only [W.pd, PyData.depth, PyData.depthAll, W.dp]; omega⟩
      have h := fmt_text [reprText "right", a.pd.shown]
      rw [piled_cons, piled_cons, piled_nil] at h
      have h6 : (reprText ("right" : Str)).length ≤ 7 := by decide +kernel
      have h7 : 1 ≤ 2 ^ a.dp := Nat.pow_pos (by decide)
      simp only [W.pd, PyData.shown, PyData.shownAll, W.dp]
      rw [Nat.pow_add]
      generalize 2 ^ a.dp = A at h3 h7 ⊢
      refine Nat.le_trans (Nat.add_le_add_right h 14) ?_
      omega
theorem W.told {w : W} (d : Dw w) (s : Sm w) (h : w.dp ≤ 12) : Told w.pd ∧ SeqAt.shaped w.pd = true := by
  obtain ⟨h1, h2, h3, h4, h5⟩ := W.told_ d s
  refine ⟨⟨h1, h2, by omega, ?_⟩, ?_⟩
  · have e1 : 2 ^ w.dp ≤ 2 ^ 12 := Nat.pow_le_pow_right (by decide) h
    have e2 : (8000000 : Nat) ≤ sizeLine := by decide
    have e3 : 2 ^ 12 = 4096 := by decide
    rw [e3] at e1
    omega
  · unfold SeqAt.shaped
    rw [h4, decide_eq_true (by omega : w.pd.depth ≤ 64)]
    rfl
section
variable {K : PySem.W.Frag} {H : Hp}
theorem NdAt.pd {v : V} {n : Nd} (h : NdAt K H v n) : L2.Dp K H v n.pd := by
  cases h with
  | name h => exact .tup h (.cons (.str _) (.cons (.int _) .nil))
  | told h => exact .tup h (.cons (.str _) (.cons (.int _) .nil))
  | knd h k => exact .tup h (.cons (.str _) (.cons k.dp .nil))
  | wd h => exact .tup h (.cons (.str _) .nil)
theorem Al.pd {vs : List V} {ns : List Nd} (h : Al (NdAt K H) vs ns) : L2.DpAll K H vs (ns.map Nd.pd) := by
  induction h with
  | nil => exact .nil
  | cons h _ ih => exact .cons h.pd ih
theorem NlAt.pd {a : Addr} {Z : Tm} (h : NlAt K H a Z) : L2.Dp K H (.ref a) Z.pd := by
  obtain ⟨vs, h1, h2⟩ := h
  exact .lst (sqL_of h1) h2.pd
end
/-! ### repr -/
def rRep (K : PySem.W.Frag) : List V → Hp → VK → Prop := fun xs H Q => ∃ x d, xs = [x] ∧ L2.Dp K H x d ∧ Told d ∧ Q (.str d.shown) H
theorem rep_go {K : PySem.W.Frag} {H : Hp} {x : V} {d : PyData} {Q : VK} (h : L2.Dp K H x d) (t : Told d) (q : Q (.str d.shown) H) : rRep K [x] H Q := ⟨x, d, rfl, h, t, q⟩
theorem call_rep {X : Cx} (hg : X.A.guards = some []) (hu : X.A.units + 64 < cLine) : CallR X (.builtin "repr") (rRep X.K) := by
  intro pins s σ H xs us Q I r h
  obtain ⟨x, d, rfl, hd, ⟨h1, h2, h3, h4⟩, q⟩ := h
  cases r with
  | cons ru rt =>
    cases rt
    obtain ⟨as, rd⟩ := Dp.reads I d x _ hd ru
    cases rd with
    | none => exact PySem.P.repr_of_none ⟨.str _, H, I.tok _, ⟨_, rfl⟩, q⟩
    | bool b => exact PySem.P.repr_of_bool ⟨.str _, H, I.tok _, ⟨_, rfl⟩, q⟩
    | int i t => exact PySem.P.repr_of_int (by simpa [PyData.showable] using h1) ⟨.str _, H, I.tok _, ⟨_, rfl⟩, q⟩
    | str x t => exact PySem.P.repr_of_str ⟨.str _, H, I.tok _, ⟨_, rfl⟩, q⟩ h4
    | list e1 e2 e3 e4 => exact repr_of_reads' (.list e1 e2 e3 e4) h1 (PyData.noDict_hsm h2) hg (by omega) (fun _ _ e => e) (fun h' u tk hk => ⟨.str _, H, I.kept hk, ⟨u, rfl⟩, q⟩) h4
    | tuple e1 e2 e3 e4 => exact repr_of_reads' (.tuple e1 e2 e3 e4) h1 (PyData.noDict_hsm h2) hg (by omega) (fun _ _ e => e) (fun h' u tk hk => ⟨.str _, H, I.kept hk, ⟨u, rfl⟩, q⟩) h4
    | dict e1 e2 e3 e4 e5 => cases h2
end K42

/-! KL1 -/
/-! the law: what is drawn -/
namespace K42
open PySem PySem.Spec L2 He
local macro_rules | `(tactic| walk_at "rd") => `(tactic| repeat (first | ((with_reducible refine' rd_var ?hvar ?_); (case hvar => exact rfl)) | with_reducible refine rd_seq ?_ | with_reducible refine rd_asg ?_ | with_reducible refine rd_ret ?_ | with_reducible refine rd_drop ?_ | with_reducible refine rd_ifs ?_ | with_reducible refine rd_name ?_ | with_reducible refine rd_c ?_ | with_reducible refine rd_cons ?_ | with_reducible refine rd_nil ?_ | with_reducible refine rd_cb ?_ | with_reducible refine rd_op ?_ | with_reducible refine rd_test ?_ | with_reducible refine rd_tb ?_ | with_reducible refine rd_and ?_ | with_reducible refine rd_or ?_ | with_reducible refine rd_not ?_ | with_reducible refine rd_andv ?_ | with_reducible refine rd_orv ?_ | with_reducible refine rd_notv ?_ | with_reducible refine rd_if ?_ | with_reducible refine rd_nx ?_ | with_reducible refine rd_retn ?_ | with_reducible refine rd_par ?_ | with_reducible refine rd_par3 ?_ | with_reducible refine rd_tup ?_ | with_reducible refine rd_lst ?_ | with_reducible refine rd_call ?_ | with_reducible refine rd_meth ?_ | with_reducible refine rd_make ?_ | with_reducible refine rd_fld ?_ | with_reducible refine rd_sfld ?_ | with_reducible refine rd_bm ?_ | with_reducible refine rd_bm0 ?_ | with_reducible refine rd_prop ?_ | with_reducible refine rd_dget ?_ | with_reducible refine rd_dnin ?_ | with_reducible refine rd_chain ?_ | with_reducible refine rd_sub ?_ | with_reducible refine rd_un ?_ | with_reducible refine rd_fl ?_ | with_reducible refine rd_ft ?_ | with_reducible refine rd_fr ?_ | with_reducible refine rd_fd ?_ | with_reducible refine rd_fe ?_ | with_reducible refine rd_ll ?_ | with_reducible refine rd_le ?_ | with_reducible refine rd_yes ?_ | with_reducible refine rd_dg2 ?_ | with_reducible refine rd_calld ?_ | with_reducible refine rd_lt ?_ | with_reducible refine rd_rev ?_ | with_reducible refine rd_sl ?_ | with_reducible refine rd_thru ?_ | with_reducible refine kb_go ?_ | with_reducible refine kpar_go ?_ | with_reducible refine kpar3_go ?_ | with_reducible refine ri0_go ?_ | with_reducible refine ru_go ?_ | ((with_reducible refine ifT ?hift ?_); (case hift => exact rfl)) | ((with_reducible refine ifF ?hiff ?_); (case hiff => exact rfl))))
local macro_rules | `(tactic| walk_at "dt") => `(tactic| first | refine ifT (by decide +kernel) ?_ | ((refine ifT ?hdt ?_); (case hdt => exact decide_eq_true (by omega))))
local macro_rules | `(tactic| walk_at "df") => `(tactic| first | refine ifF (by decide +kernel) ?_ | ((refine ifF ?hdf ?_); (case hdf => exact decide_eq_false (by omega))))

/-- the pot: a count of any size, a small one -/
def PotAt (H : Hp) (a : Addr) : Prop := ∃ x y : Int, H a = some (.lst [.int x, .int y]) ∧ 0 ≤ x ∧ 0 ≤ y ∧ y < 4294967296
theorem PotAt.mono {H H1 : Hp} {a : Addr} (h : PotAt H a) (s : Same H H1) : PotAt H1 a := by
  obtain ⟨x, y, h1, h2⟩ := h
  exact ⟨x, y, s _ _ h1, h2⟩
def Kq (a : Addr) (H H1 : Hp) : Prop := Kp (fun b => b = a) H H1
theorem Kq.tp {a : Addr} {H H1 : Hp} (k : Kq a H H1) (h : PotAt H a) : TpS H H1 := by
  obtain ⟨x, y, h1, _⟩ := h
  refine .kp k (fun b hb xs e => ?_) fun b hb o xs e => ?_
  · have hb : b = a := hb
    rw [hb, h1] at e; cases e
  · have hb : b = a := hb
    rw [hb, h1] at e; cases e
theorem set0 {x y v : V} : ([x, y] : List V).set 0 v = [v, y] := rfl
theorem set1 {x y v : V} : ([x, y] : List V).set 1 v = [x, v] := rfl
section
variable {P : Program} {w : World} {K : PySem.W.Frag} {mg : Str → Option Value} {base : Heap}
def sp_law_pot (K : PySem.W.Frag) : Sp := fun vs H Q _ => ∃ (l : Addr) (xs : List Int), vs = [.ref l, .int 0] ∧ SqL K H l (xs.map V.int) ∧ xs.length ≤ 100000 ∧ ∀ a H1, H a = none → Same H H1 → PotAt H1 a → Q (.ref a) H1
theorem ok_law_pot (T : Tx w K mg) : OkF P w K mg base 1 (ga K "_law_pot") ["_law_script", "_law_k"] (sp_law_pot K) := by
  refine okF T.f_law_pot rfl sc_law_pot b_law_pot (fun vs H Q E h => by obtain ⟨_, _, rfl, _⟩ := h; rfl) (fun cdv A outer s H vs Q E hr h => ?_)
  obtain ⟨l, xs, rfl, hS, hl, q⟩ := h
  refine ⟨_, (pss_cons (ps_set (i := 2) sc_law_pot.nd rfl (Or.inl rfl) (pe_ifExp (pt_cmpR op_lt (pv 1) (pe_callB call_ln (by rfl) T.n_len PySem.boot_len (pa_cons (pv 0) pa_nil)) (nomark _)) (pe_callB call_abs (by rfl) T.n_abs (by decide +kernel) (pa_cons (pe_ix ix_list (pv 0) (pv 1) (fun _ _ => rfl)) pa_nil)) (pe_op op_add (pe_op op_mul pe_int (pv 1)) pe_int)))
      (pss_one (ps_ret (pe_lst (pa_cons (pe_callB (call_max2 rfl) (by rfl) T.n_max (by decide +kernel) (pa_cons pe_int (pa_cons (pe_op op_sub (pv 2) (pe_op op_pow pe_int pe_int)) pa_nil))) (pa_cons (pe_op op_add (pe_op op_mod (pe_callTy call_int1 (by rfl) T.n_int (by decide +kernel) (pa_cons (pe_op op_add (pe_op op_add (pe_op op_mul (pe_op op_mod (pe_callTy call_int1 (by rfl) T.n_int (by decide +kernel) (pa_cons (pv 2) pa_nil)) pe_int) pe_int) (pe_op op_mul pe_int (pv 1))) pe_int) pa_nil)) pe_int) pe_int) pa_nil)))))), ?_⟩
  refine rd_seq (rd_asg ?_)
  refine via (fun u H1 => H1 = H ∧ ∃ i : Int, u = .int i) (fun Q' key => ?_) ?_
  · walk_at "rd"
    refine lnl_go hS ?_
    walk_at "rd"
    cases xs with
    | nil =>
      walk_at "rd"
      refine ri_go (.inl ⟨by decide, by decide⟩) ?_
      walk_at "rd"
      exact key _ _ ⟨rfl, _, rfl⟩
    | cons x xs =>
      refine ifT ?hh ?_
      case hh => exact decide_eq_true (by rw [List.length_map, List.length_cons]; omega)
      walk_at "rd"
      refine ixl_go hS at0 ?_
      walk_at "rd"
      exact ⟨x, rfl, key _ _ ⟨rfl, _, rfl⟩⟩
  · rintro u H1 ⟨rfl, i, rfl⟩
    walk_at "rd"
    refine ri_go ⟨by decide, by decide, by decide⟩ ?_
    walk_at "rd"
    refine ⟨_, _, rfl, ?_⟩
    walk_at "rd"
    refine .inl ⟨_, rfl, ?_⟩
    walk_at "rd"
    refine ri_go (by decide) ?_
    walk_at "rd"
    refine ri_go (.inr ⟨by decide, by decide⟩) ?_
    walk_at "rd"
    refine ri_go (.inl ⟨by decide, by decide⟩) ?_
    walk_at "rd"
    refine .inl ⟨_, rfl, ?_⟩
    walk_at "rd"
    refine ri_go (by decide) ?_
    walk_at "rd"
    refine kln_go len_ok fun a H2 ha s2 ha2 => ?_
    exact q a H2 ha s2 ⟨_, _, ha2, by split <;> omega, by omega, by omega⟩
def sp_law_draw : Sp := fun vs H Q _ => ∃ (a : Addr) (m : Nat), vs = [.ref a, .int m] ∧ PotAt H a ∧ 0 < m ∧ m ≤ 1000 ∧ ∀ (d : Nat) H1, d < m → Kq a H H1 → PotAt H1 a → Q (.int d) H1
theorem ok_law_draw (T : Tx w K mg) : OkF P w K mg base 1 (ga K "_law_draw") ["_law_pot_here", "_law_many"] sp_law_draw := by
  refine okF T.f_law_draw rfl sc_law_draw b_law_draw (fun vs H Q E h => by obtain ⟨_, _, rfl, _⟩ := h; rfl) (fun cdv A outer s H vs Q E hr h => ?_)
  obtain ⟨a, m, rfl, ⟨x, y, ha, hx, hy, hy2⟩, hm, hm2, q⟩ := h
  refine ⟨_, (pss_cons (ps_if (pt_cmpR op_gt (pe_ix ix_list (pv 0) pe_int (fun _ _ => rfl)) pe_int (nomark _)) (pss_cons (ps_asg (pe_callB call_divmod (by rfl) T.n_divmod (by decide +kernel) (pa_cons (pe_ix ix_list (pv 0) pe_int (fun _ _ => rfl)) (pa_cons (pv 1) pa_nil))) (pg_tup (by rfl) (pgs_cons (pg_sub (pv 0) pe_int set_list) (pgs_cons (pg_name (i := 2) sc_law_draw.nd rfl (Or.inl rfl)) pgs_nil))))
      (pss_one (ps_ret (pv 2)))) pss_nil)
      (pss_cons (ps_asg (pe_op op_mod (pe_callTy call_int1 (by rfl) T.n_int (by decide +kernel) (pa_cons (pe_op op_add (pe_op op_mul (pe_ix ix_list (pv 0) pe_int (fun _ _ => rfl)) pe_int) pe_int) pa_nil)) pe_int) (pg_sub (pv 0) pe_int set_list))
      (pss_one (ps_ret (pe_op op_mod (pe_callTy call_int1 (by rfl) T.n_int (by decide +kernel) (pa_cons (pe_op op_fdiv (pe_op op_mod (pe_callTy call_int1 (by rfl) T.n_int (by decide +kernel) (pa_cons (pe_op op_mul (pe_ix ix_list (pv 0) pe_int (fun _ _ => rfl)) (pe_ix ix_list (pv 0) pe_int (fun _ _ => rfl))) pa_nil)) pe_int) pe_int) pa_nil)) (pv 1)))))), ?_⟩
  have hm0 : (0 : Int) < (m : Int) := by omega
  walk_at "rd"
  refine ixl_go (sqL_of ha) at0 ?_
  walk_at "rd"
  by_cases hpos : 0 < x
  · refine ifT (decide_eq_true hpos) ?_
    walk_at "rd"
    refine ixl_go (sqL_of ha) at0 ?_
    walk_at "rd"
    refine ⟨x, m, rfl, ⟨hm0, by omega⟩, fun p hp => ?_⟩
    have s1 := same_upd (o := .tup [.int (x / (m : Int)), .int (x % (m : Int))]) hp
    refine ⟨p, _, rfl, sqT_of upd_same, rfl, _, _, rfl, ?_⟩
    walk_at "rd"
    refine rset_go (j := 0) (s1 _ _ ha) (by simp) ?_
    refine ⟨_, _, rfl, ?_⟩
    walk_at "rd"
    refine ⟨rfl, ?_⟩
    walk_at "rd"
    have h1 := Int.emod_nonneg x (show (m : Int) ≠ 0 by omega)
    have h2 := Int.emod_lt_of_pos x hm0
    obtain ⟨d, hd⟩ := Int.eq_ofNat_of_zero_le h1
    rw [hd] at s1 ⊢
    refine q d _ (by omega) ((Kp.same s1).trans (Kp.mut rfl)) ⟨_, _, upd_same, Int.ediv_nonneg hx (by omega), hy, hy2⟩
  · refine ifF (decide_eq_false hpos) ?_
    walk_at "rd"
    refine ixl_go (sqL_of ha) at1 ?_
    walk_at "rd"
    refine ri_go (.inr ⟨by decide, by decide⟩) ?_
    walk_at "rd"
    refine .inl ⟨_, rfl, ?_⟩
    walk_at "rd"
    refine ri_go (by decide) ?_
    walk_at "rd"
    refine rset_go (j := 1) ha (by simp) ?_
    walk_at "rd"
    rw [set1]
    have hy3 := Int.emod_nonneg (y * 39373 + 8093) (show (2147483587 : Int) ≠ 0 by decide)
    have hy4 := Int.emod_lt_of_pos (y * 39373 + 8093) (show (0 : Int) < 2147483587 by decide)
    have ha2 : (upd H a (.lst [.int x, .int ((y * 39373 + 8093) % 2147483587)])) a = some (.lst [.int x, .int ((y * 39373 + 8093) % 2147483587)]) := upd_same
    have k2 : Kq a H (upd H a (.lst [.int x, .int ((y * 39373 + 8093) % 2147483587)])) := Kp.mut rfl
    generalize upd H a (.lst [.int x, .int ((y * 39373 + 8093) % 2147483587)]) = H2 at ha2 k2 ⊢
    generalize (y * 39373 + 8093) % 2147483587 = z at ha2 hy3 hy4 ⊢
    refine ixl_go (sqL_of ha2) at1 ?_
    walk_at "rd"
    refine ixl_go (sqL_of ha2) at1 ?_
    walk_at "rd"
    refine ri_go (.inl ⟨by omega, by omega⟩) ?_
    walk_at "rd"
    refine .inl ⟨_, rfl, ?_⟩
    walk_at "rd"
    refine ri_go (by decide) ?_
    walk_at "rd"
    refine ri_go ⟨by decide, by decide⟩ ?_
    walk_at "rd"
    refine .inl ⟨_, rfl, ?_⟩
    walk_at "rd"
    refine ri_go hm0 ?_
    have h1 := Int.emod_nonneg (z * z % 2147483563 / 19) (show (m : Int) ≠ 0 by omega)
    have h2 := Int.emod_lt_of_pos (z * z % 2147483563 / 19) hm0
    obtain ⟨d, hd⟩ := Int.eq_ofNat_of_zero_le h1
    rw [hd]
    exact q d _ (by omega) k2 ⟨_, _, ha2, hx, hy3, by omega⟩
def sp_law_pick : Sp := fun vs H Q _ => ∃ (a l : Addr) (xs : List V), vs = [.ref a, .ref l] ∧ PotAt H a ∧ l ≠ a ∧ H l = some (.lst xs) ∧ xs ≠ [] ∧ xs.length ≤ 1000 ∧ ∀ (i : Nat) x H1, xs[i]? = some x → Kq a H H1 → PotAt H1 a → Q x H1
theorem ok_law_pick (T : Tx w K mg) : OkF P w K mg base 2 (ga K "_law_pick") ["_law_pot_here", "_law_some"] sp_law_pick := by
  have G_law_draw := ok_law_draw (P := P) (base := base) T
  refine okF T.f_law_pick rfl sc_law_pick b_law_pick (fun vs H Q E h => by obtain ⟨_, _, _, rfl, _⟩ := h; rfl) (fun cdv A outer s H vs Q E hr h => ?_)
  obtain ⟨a, l, xs, rfl, hp, hla, hl, hne, hz, q⟩ := h
  refine ⟨_, (pss_one (ps_ret (pe_ix ix_list (pv 1) (pe_f G_law_draw T.g_law_draw (hr.mono (by decide)) (pa_cons (pv 0) (pa_cons (pe_callB call_ln (by rfl) T.n_len PySem.boot_len (pa_cons (pv 1) pa_nil)) pa_nil))) (fun _ _ => rfl)))), ?_⟩
  walk_at "rd"
  refine lnl_go (sqL_of hl) ?_
  walk_at "rd"
  have hpos : 0 < xs.length := List.length_pos_iff.mpr hne
  refine ⟨a, xs.length, rfl, hp, hpos, hz, fun d H1 hd k1 hp1 => ?_⟩
  refine ixl_go (sqL_of (k1 _ _ hl hla)) (atI_nat (List.getElem?_eq_getElem hd)) ?_
  exact q d _ H1 (List.getElem?_eq_getElem hd) k1 hp1
def sp_law_kinds (K : PySem.W.Frag) : Sp := fun vs H Q _ => vs = [] ∧ ∀ l xs H1, H l = none → Same H H1 → H1 l = some (.lst xs) → xs.length = 9 → (∀ x ∈ xs, ∃ o ∈ KS, KdAt K H1 x o) → Q (.ref l) H1
theorem ok_law_kinds (T : Tx w K mg) : OkF P w K mg base 1 (ga K "_law_kinds") [] (sp_law_kinds K) := by
  refine okF T.f_law_kinds rfl sc_law_kinds b_law_kinds (fun vs H Q E h => by obtain ⟨rfl, _⟩ := h; rfl) (fun cdv A outer s H vs Q E hr h => ?_)
  obtain ⟨rfl, q⟩ := h
  refine ⟨_, (pss_cons (ps_set (i := 0) sc_law_kinds.nd rfl (Or.inl rfl) (pe_tup (pa_cons pe_str pa_nil)))
      (pss_cons (ps_par (i := 1) (j := 2) (by rfl) sc_law_kinds.nd rfl rfl (by decide) rfl rfl (pa_cons (pe_tup (pa_cons pe_str (pa_cons (pv 0) (pa_cons (pv 0) pa_nil)))) (pa_cons (pe_tup (pa_cons pe_str (pa_cons (pv 0) (pa_cons (pv 0) pa_nil)))) pa_nil)) (by rfl))
      (pss_one (ps_ret (pe_lst (pa_cons (pv 0) (pa_cons (pv 0) (pa_cons (pv 2) (pa_cons (pe_tup (pa_cons pe_str (pa_cons (pv 0) (pa_cons (pv 2) pa_nil)))) (pa_cons (pv 1) (pa_cons (pe_tup (pa_cons pe_str (pa_cons (pv 2) (pa_cons (pv 0) pa_nil)))) (pa_cons (pe_tup (pa_cons pe_str (pa_cons (pv 1) (pa_cons (pv 0) pa_nil)))) (pa_cons (pe_tup (pa_cons pe_str (pa_cons (pv 1) (pa_cons (pv 0) pa_nil)))) (pa_cons (pe_tup (pa_cons pe_str (pa_cons (pv 0) (pa_cons (pv 2) pa_nil)))) pa_nil)))))))))))))), ?_⟩
  walk_at "rd"
  refine ktn_go len_ok fun n1 H1 f1 s1 e1 => ?_
  walk_at "rd"
  refine ktn_go len_ok fun n2 H2 f2 s2 e2 => ?_
  walk_at "rd"
  refine ktn_go len_ok fun n3 H3 f3 s3 e3 => ?_
  walk_at "rd"
  refine ktn_go len_ok fun n4 H4 f4 s4 e4 => ?_
  walk_at "rd"
  refine ktn_go len_ok fun n5 H5 f5 s5 e5 => ?_
  walk_at "rd"
  refine ktn_go len_ok fun n6 H6 f6 s6 e6 => ?_
  walk_at "rd"
  refine ktn_go len_ok fun n7 H7 f7 s7 e7 => ?_
  walk_at "rd"
  refine ktn_go len_ok fun n8 H8 f8 s8 e8 => ?_
  walk_at "rd"
  refine kln_go len_ok fun l H9 f9 s9 e9 => ?_
  have c1 : KdAt K H1 (.ref n1) .cnt := .cnt (sqT_of e1)
  have c2 : KdAt K H2 (.ref n2) kStp := .two (sqT_of e2) (c1.mono s2) (c1.mono s2)
  have s13 := s2.trans s3
  have c3 : KdAt K H3 (.ref n3) kTwo := .two (sqT_of e3) (c1.mono s13) (c1.mono s13)
  have s14 := s13.trans s4
  have c4 : KdAt K H4 (.ref n4) (.two .sum .cnt kTwo) := .two (sqT_of e4) (c1.mono s14) (c3.mono s4)
  have s15 := s14.trans s5
  have s35 := s4.trans s5
  have c5 : KdAt K H5 (.ref n5) (.two .fn kTwo .cnt) := .two (sqT_of e5) (c3.mono s35) (c1.mono s15)
  have s16 := s15.trans s6
  have s26 := s3.trans (s35.trans s6)
  have c6 : KdAt K H6 (.ref n6) (.two .pair kStp .cnt) := .two (sqT_of e6) (c2.mono s26) (c1.mono s16)
  have s17 := s16.trans s7
  have s27 := s26.trans s7
  have c7 : KdAt K H7 (.ref n7) (.two .sum kStp .cnt) := .two (sqT_of e7) (c2.mono s27) (c1.mono s17)
  have s18 := s17.trans s8
  have s38 := s35.trans (s6.trans (s7.trans s8))
  have c8 : KdAt K H8 (.ref n8) (.two .fn .cnt kTwo) := .two (sqT_of e8) (c1.mono s18) (c3.mono s38)
  have s19 := s18.trans s9
  refine q l _ H9 (s1.free (s18.free f9)) (s1.trans s19) e9 rfl fun x hx => ?_
  simp only [List.mem_cons, List.not_mem_nil, or_false] at hx
  rcases hx with rfl | rfl | rfl | rfl | rfl | rfl | rfl | rfl | rfl
  · exact ⟨_, by simp [KS], c1.mono s19⟩
  · exact ⟨_, by simp [KS], c1.mono s19⟩
  · exact ⟨_, by simp [KS], c3.mono (s38.trans s9)⟩
  · exact ⟨_, by simp [KS], c4.mono (s5.trans (s6.trans (s7.trans (s8.trans s9))))⟩
  · exact ⟨_, by simp [KS], c2.mono (s27.trans (s8.trans s9))⟩
  · exact ⟨_, by simp [KS], c5.mono (s6.trans (s7.trans (s8.trans s9)))⟩
  · exact ⟨_, by simp [KS], c6.mono (s7.trans (s8.trans s9))⟩
  · exact ⟨_, by simp [KS], c7.mono (s8.trans s9)⟩
  · exact ⟨_, by simp [KS], c8.mono s9⟩
def DK : List Kd := [.cnt, kTwo, .two .sum .cnt .cnt, .two .pair (.two .sum .cnt .cnt) .cnt, .two .sum kTwo .cnt, .two .pair .cnt kTwo]
theorem DK.ok {k : Kd} (h : k ∈ DK) : Fk k ∧ k.dp ≤ 3 ∧ k.sz ≤ 5 ∧ k.data = true ∧ isFn k = false := by
  simp only [DK, List.mem_cons, List.not_mem_nil, or_false] at h
  rcases h with rfl | rfl | rfl | rfl | rfl | rfl <;> simp [Fk, kTwo, kStp, KS, Kd.dp, Kd.sz, Kd.data, isFn]
def sp_law_data (K : PySem.W.Frag) : Sp := fun vs H Q _ => ∃ a : Addr, vs = [.ref a] ∧ PotAt H a ∧ ∀ v k H1, k ∈ DK → KdAt K H1 v k → Kq a H H1 → PotAt H1 a → Q v H1
theorem ok_law_data (T : Tx w K mg) : OkF P w K mg base 3 (ga K "_law_data") ["_law_pot_here"] (sp_law_data K) := by
  have G_law_pick := ok_law_pick (P := P) (base := base) T
  refine okF T.f_law_data rfl sc_law_data b_law_data (fun vs H Q E h => by obtain ⟨_, rfl, _⟩ := h; rfl) (fun cdv A outer s H vs Q E hr h => ?_)
  obtain ⟨a, rfl, hp, q⟩ := h
  refine ⟨_, (pss_cons (ps_set (i := 1) sc_law_data.nd rfl (Or.inl rfl) (pe_tup (pa_cons pe_str pa_nil)))
      (pss_cons (ps_par (i := 2) (j := 3) (by rfl) sc_law_data.nd rfl rfl (by decide) rfl rfl (pa_cons (pe_tup (pa_cons pe_str (pa_cons (pv 1) (pa_cons (pv 1) pa_nil)))) (pa_cons (pe_tup (pa_cons pe_str (pa_cons (pv 1) (pa_cons (pv 1) pa_nil)))) pa_nil)) (by rfl))
      (pss_one (ps_ret (pe_f G_law_pick T.g_law_pick (hr.mono (by decide)) (pa_cons (pv 0) (pa_cons (pe_lst (pa_cons (pv 1) (pa_cons (pv 1) (pa_cons (pv 2) (pa_cons (pv 3) (pa_cons (pe_tup (pa_cons pe_str (pa_cons (pv 3) (pa_cons (pv 1) pa_nil)))) (pa_cons (pe_tup (pa_cons pe_str (pa_cons (pv 2) (pa_cons (pv 1) pa_nil)))) (pa_cons (pe_tup (pa_cons pe_str (pa_cons (pv 1) (pa_cons (pe_tup (pa_cons pe_str (pa_cons (pv 1) (pa_cons (pv 1) pa_nil)))) pa_nil)))) pa_nil)))))))) pa_nil))))))), ?_⟩
  walk_at "rd"
  refine ktn_go len_ok fun n1 H1 f1 s1 e1 => ?_
  walk_at "rd"
  refine ktn_go len_ok fun n2 H2 f2 s2 e2 => ?_
  walk_at "rd"
  refine ktn_go len_ok fun n3 H3 f3 s3 e3 => ?_
  walk_at "rd"
  refine ktn_go len_ok fun n4 H4 f4 s4 e4 => ?_
  walk_at "rd"
  refine ktn_go len_ok fun n5 H5 f5 s5 e5 => ?_
  walk_at "rd"
  refine ktn_go len_ok fun n6 H6 f6 s6 e6 => ?_
  walk_at "rd"
  refine ktn_go len_ok fun n7 H7 f7 s7 e7 => ?_
  walk_at "rd"
  refine kln_go len_ok fun l H8 f8 s8 e8 => ?_
  walk_at "rd"
  have c1 : KdAt K H1 (.ref n1) .cnt := .cnt (sqT_of e1)
  have c2 : KdAt K H2 (.ref n2) kTwo := .two (sqT_of e2) (c1.mono s2) (c1.mono s2)
  have s13 := s2.trans s3
  have c3 : KdAt K H3 (.ref n3) (.two .sum .cnt .cnt) := .two (sqT_of e3) (c1.mono s13) (c1.mono s13)
  have s14 := s13.trans s4
  have c4 : KdAt K H4 (.ref n4) (.two .pair (.two .sum .cnt .cnt) .cnt) := .two (sqT_of e4) (c3.mono s4) (c1.mono s14)
  have s15 := s14.trans s5
  have s25 := s3.trans (s4.trans s5)
  have c5 : KdAt K H5 (.ref n5) (.two .sum kTwo .cnt) := .two (sqT_of e5) (c2.mono s25) (c1.mono s15)
  have s16 := s15.trans s6
  have c6 : KdAt K H6 (.ref n6) kTwo := .two (sqT_of e6) (c1.mono s16) (c1.mono s16)
  have s17 := s16.trans s7
  have c7 : KdAt K H7 (.ref n7) (.two .pair .cnt kTwo) := .two (sqT_of e7) (c1.mono s17) (c6.mono s7)
  have s18 := s17.trans s8
  have s08 := s1.trans s18
  have hp8 := hp.mono s08
  have hla : l ≠ a := fun z => by
    obtain ⟨_, _, h, _⟩ := hp
    have := (s1.trans s17) _ _ h
    rw [← z, f8] at this
    cases this
  refine ⟨a, l, _, rfl, hp8, hla, e8, by simp, by simp, fun i x H9 hi k9 hp9 => ?_⟩
  have tp := k9.tp hp8
  have k09 : Kq a H H9 := (Kp.same s08).trans k9
  have hx := List.mem_of_getElem? hi
  simp only [List.mem_cons, List.not_mem_nil, or_false] at hx
  rcases hx with rfl | rfl | rfl | rfl | rfl | rfl | rfl
  · exact q _ .cnt H9 (by simp [DK]) ((c1.mono s18).tp tp) k09 hp9
  · exact q _ .cnt H9 (by simp [DK]) ((c1.mono s18).tp tp) k09 hp9
  · exact q _ kTwo H9 (by simp [DK]) ((c2.mono (s25.trans (s6.trans (s7.trans s8)))).tp tp) k09 hp9
  · exact q _ _ H9 (by simp [DK]) ((c3.mono (s4.trans (s5.trans (s6.trans (s7.trans s8))))).tp tp) k09 hp9
  · exact q _ _ H9 (by simp [DK]) ((c4.mono (s5.trans (s6.trans (s7.trans s8)))).tp tp) k09 hp9
  · exact q _ _ H9 (by simp [DK]) ((c5.mono (s6.trans (s7.trans s8))).tp tp) k09 hp9
  · exact q _ _ H9 (by simp [DK]) ((c7.mono s8).tp tp) k09 hp9
end
end K42

/-! KL2 -/
/-! the law: short terms -/
namespace K42
open PySem PySem.Spec L2 He
local macro_rules | `(tactic| walk_at "rd") => `(tactic| repeat (first | ((with_reducible refine' rd_var ?hvar ?_); (case hvar => exact rfl)) | with_reducible refine rd_seq ?_ | with_reducible refine rd_asg ?_ | with_reducible refine rd_ret ?_ | with_reducible refine rd_drop ?_ | with_reducible refine rd_ifs ?_ | with_reducible refine rd_name ?_ | with_reducible refine rd_c ?_ | with_reducible refine rd_cons ?_ | with_reducible refine rd_nil ?_ | with_reducible refine rd_cb ?_ | with_reducible refine rd_op ?_ | with_reducible refine rd_test ?_ | with_reducible refine rd_tb ?_ | with_reducible refine rd_and ?_ | with_reducible refine rd_or ?_ | with_reducible refine rd_not ?_ | with_reducible refine rd_andv ?_ | with_reducible refine rd_orv ?_ | with_reducible refine rd_notv ?_ | with_reducible refine rd_if ?_ | with_reducible refine rd_nx ?_ | with_reducible refine rd_retn ?_ | with_reducible refine rd_par ?_ | with_reducible refine rd_par3 ?_ | with_reducible refine rd_tup ?_ | with_reducible refine rd_lst ?_ | with_reducible refine rd_call ?_ | with_reducible refine rd_meth ?_ | with_reducible refine rd_make ?_ | with_reducible refine rd_fld ?_ | with_reducible refine rd_sfld ?_ | with_reducible refine rd_bm ?_ | with_reducible refine rd_bm0 ?_ | with_reducible refine rd_prop ?_ | with_reducible refine rd_dget ?_ | with_reducible refine rd_dnin ?_ | with_reducible refine rd_chain ?_ | with_reducible refine rd_sub ?_ | with_reducible refine rd_un ?_ | with_reducible refine rd_fl ?_ | with_reducible refine rd_ft ?_ | with_reducible refine rd_fr ?_ | with_reducible refine rd_fd ?_ | with_reducible refine rd_fe ?_ | with_reducible refine rd_ll ?_ | with_reducible refine rd_le ?_ | with_reducible refine rd_yes ?_ | with_reducible refine rd_dg2 ?_ | with_reducible refine rd_calld ?_ | with_reducible refine rd_lt ?_ | with_reducible refine rd_rev ?_ | with_reducible refine rd_sl ?_ | with_reducible refine rd_thru ?_ | with_reducible refine kb_go ?_ | with_reducible refine kpar_go ?_ | with_reducible refine kpar3_go ?_ | with_reducible refine ri0_go ?_ | with_reducible refine ru_go ?_ | ((with_reducible refine ifT ?hift ?_); (case hift => exact rfl)) | ((with_reducible refine ifF ?hiff ?_); (case hiff => exact rfl))))
local macro_rules | `(tactic| walk_at "dt") => `(tactic| first | refine ifT (by decide +kernel) ?_ | ((refine ifT ?hdt ?_); (case hdt => exact decide_eq_true (by omega))))
local macro_rules | `(tactic| walk_at "df") => `(tactic| first | refine ifF (by decide +kernel) ?_ | ((refine ifF ?hdf ?_); (case hdf => exact decide_eq_false (by omega))))

theorem viaT {t : TT} {σ : L2.St} {H : Hp} {B : Bool → Hp → Prop} (R : Bool → Hp → Prop) (h : ∀ B' : Bool → Hp → Prop, (∀ b H1, R b H1 → B' b H1) → t σ H B') (key : ∀ b H1, R b H1 → B b H1) : t σ H B := h B key
/-- a list of nodes, as it stands -/
def LnAt (K : PySem.W.Frag) (H : Hp) (l : Addr) (ns : List Nd) : Prop := ∃ vs, H l = some (.lst vs) ∧ Al (NdAt K H) vs ns
/-- the pot, the kinds of the names in sight -/
structure Lx (K : PySem.W.Frag) (H : Hp) (a nl : Addr) (G : List Kd) : Prop where
  pot : PotAt H a
  nm : ∃ ns, H nl = some (.lst ns) ∧ Al (KdAt K H) ns G
  na : nl ≠ a
section
variable {K : PySem.W.Frag} {H H1 : Hp} {a nl l : Addr} {G : List Kd} {ns ms : List Nd} {Q : VK}
theorem Lx.kq (h : Lx K H a nl G) (k : Kq a H H1) (p : PotAt H1 a) : Lx K H1 a nl G := by
  obtain ⟨ns, h1, h2⟩ := h.nm
  exact ⟨p, ⟨ns, k _ _ h1 h.na, h2.imp fun _ _ z => z.tp (k.tp h.pot)⟩, h.na⟩
theorem Lx.mono (h : Lx K H a nl G) (s : Same H H1) : Lx K H1 a nl G := h.kq (Kp.same s) (h.pot.mono s)
theorem LnAt.kq (h : LnAt K H l ns) (k : Kq a H H1) (p : PotAt H a) (n : l ≠ a) : LnAt K H1 l ns := by
  obtain ⟨vs, h1, h2⟩ := h
  exact ⟨vs, k _ _ h1 n, h2.imp fun _ _ z => z.tp (k.tp p)⟩
theorem LnAt.mono (h : LnAt K H l ns) (s : Same H H1) : LnAt K H1 l ns := by
  obtain ⟨vs, h1, h2⟩ := h
  exact ⟨vs, s _ _ h1, h2.imp fun _ _ z => z.mono s⟩
theorem PotAt.ne (h : PotAt H a) (hl : H l = none) : l ≠ a := fun z => by
  obtain ⟨_, _, h, _⟩ := h
  rw [← z, hl] at h
  cases h
theorem Kq.free (k1 : Kq a H H1) (p1 : PotAt H1 a) (h : H1 l = none) : H l = none := by
  cases e : H l with
  | none => rfl
  | some o =>
    have := k1 l o e (fun z => by
      obtain ⟨_, _, e2, _⟩ := p1
      have z : l = a := z
      rw [z, e2] at h
      cases h)
    rw [h] at this
    cases this
/-- nodes behind nodes -/
theorem cat_ln {b : Addr} (h : LnAt K H l ns) (g : LnAt K H b ms) (hz : ns.length + ms.length ≤ 100000) (q : ∀ p H1, H p = none → Same H H1 → LnAt K H1 p (ns ++ ms) → Q (.ref p) H1) : rCat (.ref l) (.ref b) H Q := by
  obtain ⟨xs, h1, h2⟩ := h
  obtain ⟨zs, g1, g2⟩ := g
  refine ⟨l, b, xs, zs, rfl, rfl, h1, g1, line_ge (by rw [h2.len, g2.len]; exact hz), fun p hp => ?_⟩
  have s := same_upd (o := .lst (xs ++ zs)) hp
  exact q p _ hp s ⟨_, upd_same, (h2.imp fun _ _ z => z.mono s).app (g2.imp fun _ _ z => z.mono s)⟩
/-- a list of one node -/
theorem one_ln {v : V} {n : Nd} (h : NdAt K H v n) (q : ∀ p H1, H p = none → Same H H1 → LnAt K H1 p [n] → Q (.ref p) H1) : KLst Q [v] H :=
  kln_go len_ok fun p H1 hp s e => q p H1 hp s ⟨_, e, .cons (h.mono s) .nil⟩
/-- the kinds of names in sight, one more -/
theorem cat_nm {b : Addr} {v : V} {k : Kd} (h : H l = some (.lst [v])) (hv : KdAt K H v k) (g : Lx K H a b G) (hz : G.length ≤ 1000) (q : ∀ p H1, H p = none → Same H H1 → Lx K H1 a p (k :: G) → Q (.ref p) H1) : rCat (.ref l) (.ref b) H Q := by
  obtain ⟨zs, g1, g2⟩ := g.nm
  refine ⟨l, b, [v], zs, rfl, rfl, h, g1, line_ge (by rw [g2.len]; simp; omega), fun p hp => ?_⟩
  have s := same_upd (o := .lst ([v] ++ zs)) hp
  exact q p _ hp s ⟨g.pot.mono s, ⟨_, upd_same, .cons (hv.mono s) (g2.imp fun _ _ z => z.mono s)⟩, g.pot.ne hp⟩
end
section
variable {P : Program} {w : World} {K : PySem.W.Frag} {mg : Str → Option Value} {base : Heap}
/-- what a term's def tells -/
def QT (K : PySem.W.Frag) (H : Hp) (a : Addr) (R : Tm → Prop) (Q : VK) : Prop := ∀ l t H1, H l = none → Kq a H H1 → PotAt H1 a → R t → LnAt K H1 l t.nodes → Q (.ref l) H1
def sp_law_leaf (K : PySem.W.Frag) (n : Nat) : Sp := fun vs H Q _ => ∃ (a nl : Addr) (kv : V) (k : Kd) (G : List Kd), vs = [.ref a, kv, .ref nl] ∧ Lx K H a nl G ∧ KdAt K H kv k ∧ k.dp ≤ n ∧ k.fine ∧ G.length + k.dp ≤ 200 ∧ (∀ l ∈ G, l.dp ≤ 60) ∧ QT K H a (Lf G k) Q
theorem ok_law_leaf (T : Tx w K mg) : ∀ n : Nat, OkF P w K mg base (n + 3) (ga K "_law_leaf") ["_law_pot_here", "_law_kind", "_law_names"] (sp_law_leaf K n)
  | 0 => by
    refine okF T.f_law_leaf rfl sc_law_leaf b_law_leaf (fun vs H Q E h => by obtain ⟨_, _, _, _, _, rfl, _⟩ := h; rfl) (fun cdv A outer s H vs Q E hr h => ?_)
    obtain ⟨a, nl, kv, k, G, rfl, _, _, hd, _⟩ := h
    exact absurd k.dp_pos (by omega)
  | n + 1 => by
    have G_law_leaf := ok_law_leaf T n
    have G_law_draw := ok_law_draw (P := P) (base := base) T
    have G_law_pick := ok_law_pick (P := P) (base := base) T
    refine okF T.f_law_leaf rfl sc_law_leaf b_law_leaf (fun vs H Q E h => by obtain ⟨_, _, _, _, _, rfl, _⟩ := h; rfl) (fun cdv A outer s H vs Q E hr h => ?_)
    obtain ⟨a, nl, kv, k, G, rfl, hL, hk, hd, hf, hl, hGd, q⟩ := h
    refine ⟨_, (pss_cons (ps_setLc (i := 3) (own := [("_law_at", 4), ("_law_one", 5)]) (g := gTup K 2 (gCons (gName 4) (gCons (gName 5) gNil))) rfl sc_law_leaf.nd rfl rfl (sw_true rfl rfl rfl (by decide +kernel)) (pi_enum (by rfl) T.n_enumerate (pa_cons (pv 2) pa_nil)) (blkOk_by (own := [("_law_at", 4), ("_law_one", 5)]) (N := ["_law_pot_here", "_law_kind", "_law_names", "_law_some", "_law_at", "_law_one"]) (sc := defScope s_law_leaf) (by decide +kernel)) (fun _ _ _ _ _ => (pg_tup (by rfl) (pgs_cons (pg_name (i := 4) sc_law_leaf.nd rfl (Or.inl rfl)) (pgs_cons (pg_name (i := 5) sc_law_leaf.nd rfl (Or.inl rfl)) pgs_nil)))) (fun _ _ _ _ _ => (pts_one (pt_cmpR (show OpR _ _ (rEqD K) from op_eqD (hu64 hr)) (pv 5) (pv 1) (nomark _)))) (fun _ _ _ _ _ => (pv 4)))
      (pss_cons (ps_if (PW.pt (pw_and (pt_cmpR (op_neE (hu64 hr)) (pv 3) (pe_lst pa_nil) (nomark _)) (pw_and1 (pt_cmpR op_gt (pe_f G_law_draw T.g_law_draw (hr.mono (by omega)) (pa_cons (pv 0) (pa_cons pe_int pa_nil))) pe_int (nomark _))))) (pss_one (ps_ret (pe_lst (pa_cons (pe_tup (pa_cons pe_str (pa_cons (pe_f G_law_pick T.g_law_pick (hr.mono (by omega)) (pa_cons (pv 0) (pa_cons (pv 3) pa_nil))) pa_nil))) pa_nil)))) pss_nil)
      (pss_cons (ps_if (pt_cmpR op_eq (pe_ix ix_tup (pv 1) pe_int (fun _ _ => rfl)) pe_str (nomark _)) (pss_one (ps_ret (pe_lst (pa_cons (pe_tup (pa_cons pe_str (pa_cons (pe_f G_law_draw T.g_law_draw (hr.mono (by omega)) (pa_cons (pv 0) (pa_cons pe_int pa_nil))) pa_nil))) pa_nil)))) pss_nil)
      (pss_cons (ps_if (pt_cmpR op_eq (pe_ix ix_tup (pv 1) pe_int (fun _ _ => rfl)) pe_str (nomark _)) (pss_one (ps_ret (pe_op op_cat (pe_op op_cat (pe_lst (pa_cons (pe_tup (pa_cons pe_str pa_nil)) pa_nil)) (pe_f G_law_leaf T.g_law_leaf hr (pa_cons (pv 0) (pa_cons (pe_ix ix_tup (pv 1) pe_int (fun _ _ => rfl)) (pa_cons (pv 2) pa_nil))))) (pe_f G_law_leaf T.g_law_leaf hr (pa_cons (pv 0) (pa_cons (pe_ix ix_tup (pv 1) pe_int (fun _ _ => rfl)) (pa_cons (pv 2) pa_nil))))))) pss_nil)
      (pss_cons (ps_if (pt_cmpR op_eq (pe_ix ix_tup (pv 1) pe_int (fun _ _ => rfl)) pe_str (nomark _)) (pss_cons (ps_if (pt_cmpR op_eq (pe_f G_law_draw T.g_law_draw (hr.mono (by omega)) (pa_cons (pv 0) (pa_cons pe_int pa_nil))) pe_int (nomark _)) (pss_one (ps_ret (pe_op op_cat (pe_lst (pa_cons (pe_tup (pa_cons pe_str (pa_cons (pe_ix ix_tup (pv 1) pe_int (fun _ _ => rfl)) pa_nil))) pa_nil)) (pe_f G_law_leaf T.g_law_leaf hr (pa_cons (pv 0) (pa_cons (pe_ix ix_tup (pv 1) pe_int (fun _ _ => rfl)) (pa_cons (pv 2) pa_nil))))))) pss_nil)
      (pss_one (ps_ret (pe_op op_cat (pe_lst (pa_cons (pe_tup (pa_cons pe_str (pa_cons (pe_ix ix_tup (pv 1) pe_int (fun _ _ => rfl)) pa_nil))) pa_nil)) (pe_f G_law_leaf T.g_law_leaf hr (pa_cons (pv 0) (pa_cons (pe_ix ix_tup (pv 1) pe_int (fun _ _ => rfl)) (pa_cons (pv 2) pa_nil)))))))) pss_nil)
      (pss_one (ps_ret (pe_op op_cat (pe_lst (pa_cons (pe_tup (pa_cons pe_str (pa_cons (pe_ix ix_tup (pv 1) pe_int (fun _ _ => rfl)) pa_nil))) pa_nil)) (pe_f G_law_leaf T.g_law_leaf hr (pa_cons (pv 0) (pa_cons (pe_ix ix_tup (pv 1) pe_int (fun _ _ => rfl)) (pa_cons (pe_op op_cat (pe_lst (pa_cons (pe_ix ix_tup (pv 1) pe_int (fun _ _ => rfl)) pa_nil)) (pv 2)) pa_nil)))))))))))), ?_⟩
    obtain ⟨ns, hns, hnA⟩ := hL.nm
    have hlen : ns.length ≤ 200 := by rw [hnA.len]; omega
    have sub : ∀ {A B : Kd} {t : Kt}, k = .two t A B → A.dp ≤ n ∧ B.dp ≤ n ∧ A.fine ∧ B.fine ∧ G.length + A.dp + 1 ≤ 200 ∧ G.length + B.dp + 1 ≤ 200 := fun {A B t} e => by
      subst e
      have h1 : 1 + max A.dp B.dp ≤ n + 1 := hd
      have h2 : G.length + (1 + max A.dp B.dp) ≤ 200 := hl
      exact ⟨by omega, by omega, (fine_two hf).1, (fine_two hf).2, by omega, by omega⟩
    have small : ∀ {G : List Kd} {k : Kd} {t : Tm}, Lf G k t → k.fine → G.length + k.dp ≤ 200 → t.nodes.length ≤ 60 := fun h1 h2 h3 => by
      rw [Tm.len]
      exact Nat.le_trans (lf_wt h1 h2 h3).2.2 h2.1
    walk_at "rd"
    refine le_go (sqL_of hns) (fun D i H' => Same H H' ∧ ∃ js : List Nat, H' D = some (.lst (js.map iv)) ∧ js.length ≤ i ∧ ∀ j ∈ js, G[j]? = some k) (fun D hD => ⟨same_upd hD, [], upd_same, Nat.le_refl _, fun j hj => by cases hj⟩) (fun D i H' hD hi ⟨z, _⟩ => sqL_of (z _ _ hns)) ?_ ?_
    · rintro D i x H' p hD hx ⟨s1, js, hjs, hjl, hjg⟩ hp
      obtain ⟨l, hgl, hxl⟩ := hnA.getV hx
      have hi : i < ns.length := (List.getElem?_eq_some_iff.mp hx).1
      have s2 : Same H' (upd H' p (.tup [.int i, x])) := same_upd hp
      refine gt2_go (sqT_of upd_same) ?_
      refine ⟨rfl, ?_⟩
      walk_at "rd"
      refine ⟨_, _, (hxl.mono (s1.trans s2)).dp, (hk.mono (s1.trans s2)).dp, l.shaped (hGd l (List.mem_of_getElem? hgl)), k.shaped (by have := hf.2; omega), ?_⟩
      walk_at "rd"
      cases he : PyData.eqv l.pd k.pd with
      | true =>
        have e := Kd.eqv_eq he
        subst e
        walk_at "rd"
        refine ⟨_, s2 _ _ hjs, line_gt (by rw [List.length_map]; omega), same_mut (s1.trans s2) hD, js ++ [i], ?_, by rw [List.length_append]; exact Nat.succ_le_succ hjl, fun j hj => ?_⟩
        · rw [upd_same, List.map_append]
          rfl
        · rcases List.mem_append.mp hj with hj | hj
          · exact hjg j hj
          · rw [List.mem_singleton.mp hj]
            exact hgl
      | false =>
        walk_at "rd"
        exact ⟨s1.trans s2, js, s2 _ _ hjs, by omega, hjg⟩
    rintro D H1 hD ⟨s1, js, hjs, hjl, hjg⟩
    have hL1 := hL.mono s1
    have hk1 := hk.mono s1
    have hDa : D ≠ a := hL.pot.ne hD
    with_reducible refine rd_name ?_
    with_reducible refine rd_seq ?_
    with_reducible refine rd_ifs ?_
    refine viaT (fun b H3 => Kq a H H3 ∧ PotAt H3 a ∧ H3 D = some (.lst (js.map iv)) ∧ (b = true → js ≠ [])) (fun B' key => ?_) ?_
    · walk_at "rd"
      refine kln_go len_ok fun b H2 _ s2 hb => ?_
      refine ⟨D, b, _, rfl, rfl, s2 _ _ hjs, hb, ?_⟩
      have s12 := s1.trans s2
      cases js with
      | nil =>
        walk_at "rd"
        exact key _ _ ⟨Kp.same s12, hL.pot.mono s12, s2 _ _ hjs, fun z => by cases z⟩
      | cons j js =>
        walk_at "rd"
        refine ⟨a, 3, rfl, hL.pot.mono s12, by decide, by decide, fun d H3 hd3 k3 hp3 => ?_⟩
        walk_at "rd"
        exact key _ _ ⟨(Kp.same s12).trans k3, hp3, k3 _ _ (s2 _ _ hjs) hDa, fun _ z => by cases z⟩
    rintro b H3 ⟨k3, hp3, hD3, hb⟩
    have tp3 := k3.tp hL.pot
    have hL3 := hL.kq k3 hp3
    have hk3 := hk.tp tp3
    cases b with
    | true =>
      have hjne := hb rfl
      walk_at "rd"
      refine ⟨a, D, _, rfl, hp3, hDa, hD3, by simpa using hjne, by rw [List.length_map]; omega, fun i x H4 hi k4 hp4 => ?_⟩
      rw [List.getElem?_map] at hi
      obtain ⟨j, hj, rfl⟩ := Option.map_eq_some_iff.mp hi
      walk_at "rd"
      refine ktn_go len_ok fun p H5 hp5 s5 e5 => ?_
      walk_at "rd"
      refine one_ln (K := K) (n := .name j) (.name (sqT_of e5)) fun l H6 hl6 s6 h6 => ?_
      exact q l (.n0 (.name j)) H6 (k3.free hp3 (k4.free hp4 (s5.free hl6))) (k3.trans (k4.trans (Kp.same (s5.trans s6)))) (hp4.mono (s5.trans s6)) (.name (hjg j (List.mem_of_getElem? hj))) h6
    | false =>
      walk_at "rd"
      cases hk3 with
      | cnt hS =>
        refine ixt_go hS at0 ?_
        walk_at "rd"
        refine reqS_go (b := true) (by decide +kernel) ?_
        walk_at "rd"
        refine ⟨a, 4, rfl, hp3, by decide, by decide, fun d H4 hd4 k4 hp4 => ?_⟩
        walk_at "rd"
        refine ktn_go len_ok fun p H5 hp5 s5 e5 => ?_
        walk_at "rd"
        refine one_ln (K := K) (n := .told d) (.told (sqT_of e5)) fun l H6 hl6 s6 h6 => ?_
        exact q l (.n0 (.told d)) H6 (k3.free hp3 (k4.free hp4 (s5.free hl6))) (k3.trans (k4.trans (Kp.same (s5.trans s6)))) (hp4.mono (s5.trans s6)) (.cnt hd4) h6
      | @two _ xv yv t A B hS hA hB =>
        obtain ⟨dA, dB, fA, fB, lA, lB⟩ := sub rfl
        refine ixt_go hS at0 ?_
        walk_at "rd"
        refine reqS_go (b := false) (by cases t <;> decide +kernel) ?_
        walk_at "rd"
        refine ixt_go hS at0 ?_
        walk_at "rd"
        cases t with
        | pair =>
          refine reqS_go (b := true) (by decide +kernel) ?_
          walk_at "rd"
          refine ktn_go len_ok fun p H4 hp4 s4 e4 => ?_
          walk_at "rd"
          refine one_ln (K := K) (n := .wd .both) (.wd (sqT_of e4)) fun l1 H5 hl5 s5 h5 => ?_
          have s45 := s4.trans s5
          have hL5 := hL3.mono s45
          walk_at "rd"
          refine ixt_go (Same.sqt s45 hS) at1 ?_
          walk_at "rd"
          refine ⟨a, nl, xv, A, G, rfl, hL5, hA.mono s45, dA, fA, by omega, hGd, fun l2 x H6 hl6 k6 hp6 lf6 h6 => ?_⟩
          have hL6 := hL5.kq k6 hp6
          have t36 : TpS H3 H6 := (TpS.same s45).trans (k6.tp hL5.pot)
          refine cat_ln (h5.kq k6 hL5.pot (hL3.pot.ne (s4.free hl5))) h6 (by have := small lf6 fA (by omega); simp; omega) fun l3 H7 hl7 s7 h7 => ?_
          have hL7 := hL6.mono s7
          walk_at "rd"
          refine ixt_go ((t36.trans (.same s7)).sqt hS) at2 ?_
          walk_at "rd"
          refine ⟨a, nl, yv, B, G, rfl, hL7, hB.tp (t36.trans (.same s7)), dB, fB, by omega, hGd, fun l4 y H8 hl8 k8 hp8 lf8 h8 => ?_⟩
          refine cat_ln (h7.kq k8 hL7.pot (hp6.ne hl7)) h8 (by have := small lf6 fA (by omega); have := small lf8 fB (by omega); simp; omega) fun l5 H9 hl9 s9 h9 => ?_
          refine q l5 (.n2 (.wd .both) x y) H9 (k3.free hp3 (s45.free (k6.free hp6 (s7.free (k8.free hp8 hl9))))) (k3.trans ((Kp.same s45).trans (k6.trans ((Kp.same s7).trans (k8.trans (Kp.same s9)))))) (hp8.mono s9) (.pair lf6 lf8) ?_
          rw [List.singleton_append, List.cons_append] at h9
          exact h9
        | sum =>
          refine reqS_go (b := false) (by decide +kernel) ?_
          walk_at "rd"
          refine ixt_go hS at0 ?_
          walk_at "rd"
          refine reqS_go (b := true) (by decide +kernel) ?_
          walk_at "rd"
          refine ⟨a, 2, rfl, hp3, by decide, by decide, fun d H4 hd4 k4 hp4 => ?_⟩
          have hL4 := hL3.kq k4 hp4
          have tp4 := k4.tp hp3
          have hS4 := tp4.sqt hS
          have hA4 := hA.tp tp4
          have hB4 := hB.tp tp4
          walk_at "rd"
          refine reqI_go ?_
          by_cases hd0 : d = 0
          · subst hd0
            walk_at "rd"
            refine ixt_go hS4 at2 ?_
            walk_at "rd"
            refine ktn_go len_ok fun p H5 hp5 s5 e5 => ?_
            walk_at "rd"
            refine one_ln (K := K) (n := .knd .left B) (.knd (sqT_of e5) (hB4.mono s5)) fun l1 H6 hl6 s6 h6 => ?_
            have s56 := s5.trans s6
            have hL6 := hL4.mono s56
            walk_at "rd"
            refine ixt_go (Same.sqt s56 hS4) at1 ?_
            walk_at "rd"
            refine ⟨a, nl, xv, A, G, rfl, hL6, hA4.mono s56, dA, fA, by omega, hGd, fun l2 x H7 hl7 k7 hp7 lf7 h7 => ?_⟩
            refine cat_ln (h6.kq k7 hL6.pot (hp4.ne (s5.free hl6))) h7 (by have := small lf7 fA (by omega); simp; omega) fun l3 H8 hl8 s8 h8 => ?_
            exact q l3 (.n1 (.knd .left B) x) H8 (k3.free hp3 (k4.free hp4 (s56.free (k7.free hp7 hl8)))) (k3.trans (k4.trans ((Kp.same s56).trans (k7.trans (Kp.same s8))))) (hp7.mono s8) (.left lf7) h8
          · rw [decide_eq_false (show ¬ ((d : Nat) : Int) = 0 by omega)]
            walk_at "rd"
            refine ixt_go hS4 at1 ?_
            walk_at "rd"
            refine ktn_go len_ok fun p H5 hp5 s5 e5 => ?_
            walk_at "rd"
            refine one_ln (K := K) (n := .knd .right A) (.knd (sqT_of e5) (hA4.mono s5)) fun l1 H6 hl6 s6 h6 => ?_
            have s56 := s5.trans s6
            have hL6 := hL4.mono s56
            walk_at "rd"
            refine ixt_go (Same.sqt s56 hS4) at2 ?_
            walk_at "rd"
            refine ⟨a, nl, yv, B, G, rfl, hL6, hB4.mono s56, dB, fB, by omega, hGd, fun l2 x H7 hl7 k7 hp7 lf7 h7 => ?_⟩
            refine cat_ln (h6.kq k7 hL6.pot (hp4.ne (s5.free hl6))) h7 (by have := small lf7 fB (by omega); simp; omega) fun l3 H8 hl8 s8 h8 => ?_
            exact q l3 (.n1 (.knd .right A) x) H8 (k3.free hp3 (k4.free hp4 (s56.free (k7.free hp7 hl8)))) (k3.trans (k4.trans ((Kp.same s56).trans (k7.trans (Kp.same s8))))) (hp7.mono s8) (.right lf7) h8
        | fn =>
          refine reqS_go (b := false) (by decide +kernel) ?_
          walk_at "rd"
          refine ixt_go hS at0 ?_
          walk_at "rd"
          refine reqS_go (b := false) (by decide +kernel) ?_
          walk_at "rd"
          refine ixt_go hS at1 ?_
          walk_at "rd"
          refine ktn_go len_ok fun p H5 hp5 s5 e5 => ?_
          walk_at "rd"
          refine one_ln (K := K) (n := .knd .fn A) (.knd (sqT_of e5) (hA.mono s5)) fun l1 H6 hl6 s6 h6 => ?_
          have s56 := s5.trans s6
          have hL6 := hL3.mono s56
          walk_at "rd"
          refine ixt_go (Same.sqt s56 hS) at2 ?_
          walk_at "rd"
          refine ixt_go (Same.sqt s56 hS) at1 ?_
          walk_at "rd"
          refine kln_go len_ok fun b H7 hb s7 e7 => ?_
          walk_at "rd"
          have s57 := s56.trans s7
          refine cat_nm e7 (hA.mono s57) (hL6.mono s7) (by omega) fun n2 H8 hn2 s8 hL8 => ?_
          have s58 := s57.trans s8
          walk_at "rd"
          refine ⟨a, n2, yv, B, A :: G, rfl, hL8, hB.mono s58, dB, fB, by rw [List.length_cons]; omega, fun l hl => ?_, fun l2 x H9 hl9 k9 hp9 lf9 h9 => ?_⟩
          · rcases List.mem_cons.mp hl with rfl | hl
            · have := fA.2
              omega
            · exact hGd l hl
          · refine cat_ln ((h6.mono (s7.trans s8)).kq k9 hL8.pot (hL3.pot.ne (s5.free hl6))) h9 (by have := small lf9 fB (by rw [List.length_cons]; omega); simp; omega) fun l3 Ha hla sa ha => ?_
            exact q l3 (.n1 (.knd .fn A) x) Ha (k3.free hp3 (s58.free (k9.free hp9 hla))) (k3.trans ((Kp.same s58).trans (k9.trans (Kp.same sa)))) (hp9.mono sa) (.fn lf9) ha
end
end K42

/-! KL3 -/
/-! the law: drawn terms -/
namespace K42
open PySem PySem.Spec L2 He
local macro_rules | `(tactic| walk_at "rd") => `(tactic| repeat (first | ((with_reducible refine' rd_var ?hvar ?_); (case hvar => exact rfl)) | with_reducible refine rd_seq ?_ | with_reducible refine rd_asg ?_ | with_reducible refine rd_ret ?_ | with_reducible refine rd_drop ?_ | with_reducible refine rd_ifs ?_ | with_reducible refine rd_name ?_ | with_reducible refine rd_c ?_ | with_reducible refine rd_cons ?_ | with_reducible refine rd_nil ?_ | with_reducible refine rd_cb ?_ | with_reducible refine rd_op ?_ | with_reducible refine rd_test ?_ | with_reducible refine rd_tb ?_ | with_reducible refine rd_and ?_ | with_reducible refine rd_or ?_ | with_reducible refine rd_not ?_ | with_reducible refine rd_andv ?_ | with_reducible refine rd_orv ?_ | with_reducible refine rd_notv ?_ | with_reducible refine rd_if ?_ | with_reducible refine rd_nx ?_ | with_reducible refine rd_retn ?_ | with_reducible refine rd_par ?_ | with_reducible refine rd_par3 ?_ | with_reducible refine rd_tup ?_ | with_reducible refine rd_lst ?_ | with_reducible refine rd_call ?_ | with_reducible refine rd_meth ?_ | with_reducible refine rd_make ?_ | with_reducible refine rd_fld ?_ | with_reducible refine rd_sfld ?_ | with_reducible refine rd_bm ?_ | with_reducible refine rd_bm0 ?_ | with_reducible refine rd_prop ?_ | with_reducible refine rd_dget ?_ | with_reducible refine rd_dnin ?_ | with_reducible refine rd_chain ?_ | with_reducible refine rd_sub ?_ | with_reducible refine rd_un ?_ | with_reducible refine rd_fl ?_ | with_reducible refine rd_ft ?_ | with_reducible refine rd_fr ?_ | with_reducible refine rd_fd ?_ | with_reducible refine rd_fe ?_ | with_reducible refine rd_ll ?_ | with_reducible refine rd_le ?_ | with_reducible refine rd_yes ?_ | with_reducible refine rd_dg2 ?_ | with_reducible refine rd_calld ?_ | with_reducible refine rd_lt ?_ | with_reducible refine rd_rev ?_ | with_reducible refine rd_sl ?_ | with_reducible refine rd_thru ?_ | with_reducible refine kb_go ?_ | with_reducible refine kpar_go ?_ | with_reducible refine kpar3_go ?_ | with_reducible refine ri0_go ?_ | with_reducible refine ru_go ?_ | ((with_reducible refine ifT ?hift ?_); (case hift => exact rfl)) | ((with_reducible refine ifF ?hiff ?_); (case hiff => exact rfl))))
local macro_rules | `(tactic| walk_at "dt") => `(tactic| first | refine ifT (by decide +kernel) ?_ | ((refine ifT ?hdt ?_); (case hdt => exact decide_eq_true (by omega))))
local macro_rules | `(tactic| walk_at "df") => `(tactic| first | refine ifF (by decide +kernel) ?_ | ((refine ifF ?hdf ?_); (case hdf => exact decide_eq_false (by omega))))

/-- kinds as they are at a depth -/
structure Kc (d : Nat) (G : List Kd) (k : Kd) : Prop where
  d4 : d ≤ 4
  sz : k.sz + 6 * d ≤ 31
  dp : k.dp + d ≤ 10
  ln : G.length + d ≤ 100
  nm : ∀ l ∈ G, Fk l ∧ l.dp ≤ 60
  fk : Fk k
section
variable {d : Nat} {G : List Kd} {k o A B : Kd} {t : Tm} {tt : Kt}
theorem Kc.dn (c : Kc (d + 1) G k) : Kc d G k := ⟨by have := c.d4; omega, by have := c.sz; omega, by have := c.dp; omega, by have := c.ln; omega, c.nm, c.fk⟩
theorem Kc.ks (c : Kc (d + 1) G k) (ho : o ∈ KS) : Kc d G o := by
  have h := KS.dp ho
  exact ⟨by have := c.d4; omega, by have := c.d4; omega, by have := c.d4; omega, by have := c.ln; omega, c.nm, KS.fk ho⟩
theorem Kc.bind (c : Kc (d + 1) G k) (ho : Fk o) (hd : o.dp ≤ 60) : Kc d (o :: G) k :=
  ⟨by have := c.d4; omega, by have := c.sz; omega, by have := c.dp; omega, by have := c.ln; rw [List.length_cons]; omega, fun l hl => by
    rcases List.mem_cons.mp hl with rfl | hl
    · exact ⟨ho, hd⟩
    · exact c.nm l hl, c.fk⟩
theorem Kc.sum (c : Kc (d + 1) G k) (ho : o ∈ KS) : Kc d G (.two .sum o .cnt) := by
  have h := KS.dp ho
  exact ⟨by have := c.d4; omega, by have := c.d4; show 1 + o.sz + 1 + 6 * d ≤ 31; omega, by have := c.d4; show 1 + max o.dp 1 + d ≤ 10; omega, by have := c.ln; omega, c.nm, ho, True.intro⟩
theorem Kc.fn (c : Kc (d + 1) G k) (ho : o ∈ KS) : Kc d G (.two .fn o k) := by
  have h := KS.dp ho
  exact ⟨by have := c.d4; omega, by have := c.sz; show 1 + o.sz + k.sz + 6 * d ≤ 31; omega, by have := c.dp; have := c.d4; show 1 + max o.dp k.dp + d ≤ 10; omega, by have := c.ln; omega, c.nm, ho, c.fk⟩
theorem Kc.snd (c : Kc (d + 1) G (.two tt A B)) : Kc d G B := by
  have h1 : 1 + A.sz + B.sz + 6 * (d + 1) ≤ 31 := c.sz
  have h2 : 1 + max A.dp B.dp + (d + 1) ≤ 10 := c.dp
  refine ⟨by have := c.d4; omega, by omega, by omega, by have := c.ln; omega, c.nm, ?_⟩
  have := c.fk
  cases tt <;> exact this.2
theorem Kc.fst (c : Kc (d + 1) G (.two .pair A B)) : Kc d G A := by
  have h1 : 1 + A.sz + B.sz + 6 * (d + 1) ≤ 31 := c.sz
  have h2 : 1 + max A.dp B.dp + (d + 1) ≤ 10 := c.dp
  exact ⟨by have := c.d4; omega, by omega, by omega, by have := c.ln; omega, c.nm, c.fk.1⟩
/-- kinds as a short term wants them -/
structure Ks0 (G : List Kd) (k : Kd) : Prop where
  dp : k.dp ≤ 10
  fn : k.fine
  ln : G.length + k.dp ≤ 200
  nm : ∀ l ∈ G, l.dp ≤ 60
theorem Kc.s0 (c : Kc d G k) : Ks0 G k := ⟨by have := c.dp; omega, ⟨by have := c.sz; omega, by have := c.dp; omega⟩, by have := c.ln; have := c.dp; omega, fun l hl => (c.nm l hl).2⟩
theorem smallG (c : Kc d G k) (h : Gn d G k t) : t.nodes.length ≤ 1024 := by
  have h1 := (gn_wt h c.d4 c.sz c.dp c.ln (fun l hl => (c.nm l hl).1) c.fk).2.2
  have h2 : 2 ^ d ≤ 2 ^ 4 := Nat.pow_le_pow_right (by decide) c.d4
  rw [Tm.len]
  omega
theorem smallL (c : Ks0 G k) (h : Lf G k t) : t.nodes.length ≤ 60 := by
  rw [Tm.len]
  exact Nat.le_trans (lf_wt h c.fn c.ln).2.2 c.fn.1
end
section
variable {P : Program} {w : World} {K : PySem.W.Frag} {mg : Str → Option Value} {base : Heap}
def sp_law_term (K : PySem.W.Frag) (d : Nat) : Sp := fun vs H Q _ => ∃ (a nl : Addr) (kv : V) (k : Kd) (G : List Kd) (dd : Int), vs = [.ref a, kv, .ref nl, .int dd] ∧ dd = (d : Int) ∧ Lx K H a nl G ∧ KdAt K H kv k ∧ Kc d G k ∧ QT K H a (Gn d G k) Q
theorem go_leaf {H : Hp} {Q : VK} {E : XK} {a nl : Addr} {kv : V} {k : Kd} {G : List Kd} (hL : Lx K H a nl G) (hk : KdAt K H kv k) (c : Ks0 G k) (q : QT K H a (Lf G k) Q) : sp_law_leaf K 10 [.ref a, kv, .ref nl] H Q E := ⟨a, nl, kv, k, G, rfl, hL, hk, c.dp, c.fn, c.ln, c.nm, q⟩
theorem go_term {H : Hp} {Q : VK} {E : XK} {a nl : Addr} {kv : V} {k : Kd} {G : List Kd} {d : Nat} {dd : Int} (hL : Lx K H a nl G) (hk : KdAt K H kv k) (c : Kc d G k) (e : dd = (d : Int)) (q : QT K H a (Gn d G k) Q) : sp_law_term K d [.ref a, kv, .ref nl, .int dd] H Q E := ⟨a, nl, kv, k, G, dd, rfl, e, hL, hk, c, q⟩
theorem ok_grown (T : Tx w K mg) (d : Nat) {n : Nat} (hn : 13 ≤ n) (G_law_term : OkF P w K mg base n (ga K "_law_term") ["_law_pot_here", "_law_kind", "_law_names", "_law_deep"] (sp_law_term K d)) : OkF P w K mg base (n + 1) (ga K "_law_grown") ["_law_pot_here", "_law_kind", "_law_names", "_law_deep"] (sp_law_term K (d + 1)) := by
  have G_law_leaf := ok_law_leaf (P := P) (base := base) T 10
  refine okF T.f_law_grown rfl sc_law_grown b_law_grown (fun vs H Q E h => by obtain ⟨_, _, _, _, _, _, rfl, _⟩ := h; rfl) (fun cdv A outer s H vs Q E hr h => ?_)
  obtain ⟨a, nl, kv, k, G, dd, rfl, rfl, hL, hk, c, q⟩ := h
  refine ⟨_, (pss_cons (ps_if (pt_cmpR op_eq (pe_ix ix_tup (pv 1) pe_int (fun _ _ => rfl)) pe_str (nomark _)) (pss_one (ps_ret (pe_op op_cat (pe_lst (pa_cons (pe_tup (pa_cons pe_str pa_nil)) pa_nil)) (pe_f G_law_term T.g_law_term hr (pa_cons (pv 0) (pa_cons (pv 1) (pa_cons (pv 2) (pa_cons (pe_op op_sub (pv 3) pe_int) pa_nil)))))))) pss_nil)
      (pss_cons (ps_if (pt_cmpR op_eq (pe_ix ix_tup (pv 1) pe_int (fun _ _ => rfl)) pe_str (nomark _)) (pss_one (ps_ret (pe_op op_cat (pe_op op_cat (pe_lst (pa_cons (pe_tup (pa_cons pe_str pa_nil)) pa_nil)) (pe_f G_law_term T.g_law_term hr (pa_cons (pv 0) (pa_cons (pe_ix ix_tup (pv 1) pe_int (fun _ _ => rfl)) (pa_cons (pv 2) (pa_cons (pe_op op_sub (pv 3) pe_int) pa_nil)))))) (pe_f G_law_leaf T.g_law_leaf (hr.mono (by omega)) (pa_cons (pv 0) (pa_cons (pe_ix ix_tup (pv 1) pe_int (fun _ _ => rfl)) (pa_cons (pv 2) pa_nil))))))) pss_nil)
      (pss_cons (ps_if (pt_cmpR op_eq (pe_ix ix_tup (pv 1) pe_int (fun _ _ => rfl)) pe_str (nomark _)) (pss_one (ps_ret (pe_op op_cat (pe_lst (pa_cons (pe_tup (pa_cons pe_str (pa_cons (pe_ix ix_tup (pv 1) pe_int (fun _ _ => rfl)) pa_nil))) pa_nil)) (pe_f G_law_term T.g_law_term hr (pa_cons (pv 0) (pa_cons (pe_ix ix_tup (pv 1) pe_int (fun _ _ => rfl)) (pa_cons (pv 2) (pa_cons (pe_op op_sub (pv 3) pe_int) pa_nil)))))))) pss_nil)
      (pss_one (ps_ret (pe_op op_cat (pe_lst (pa_cons (pe_tup (pa_cons pe_str (pa_cons (pe_ix ix_tup (pv 1) pe_int (fun _ _ => rfl)) pa_nil))) pa_nil)) (pe_f G_law_term T.g_law_term hr (pa_cons (pv 0) (pa_cons (pe_ix ix_tup (pv 1) pe_int (fun _ _ => rfl)) (pa_cons (pe_op op_cat (pe_lst (pa_cons (pe_ix ix_tup (pv 1) pe_int (fun _ _ => rfl)) pa_nil)) (pv 2)) (pa_cons (pe_op op_sub (pv 3) pe_int) pa_nil))))))))))), ?_⟩
  have hdd : ((d + 1 : Nat) : Int) - 1 = (d : Int) := by omega
  walk_at "rd"
  cases hk with
  | cnt hS =>
    refine ixt_go hS at0 ?_
    walk_at "rd"
    refine reqS_go (b := true) (by decide +kernel) ?_
    walk_at "rd"
    refine ktn_go len_ok fun p H5 hp5 s5 e5 => ?_
    walk_at "rd"
    refine one_ln (K := K) (n := .wd .next) (.wd (sqT_of e5)) fun l1 H6 hl6 s6 h6 => ?_
    have s56 := s5.trans s6
    have hL6 := hL.mono s56
    walk_at "rd"
    refine go_term hL6 (.cnt (Same.sqt s56 hS)) c.dn hdd fun l2 x H7 hl7 k7 hp7 g7 h7 => ?_
    refine cat_ln (h6.kq k7 hL6.pot (hL.pot.ne (s5.free hl6))) h7 (by have := smallG c.dn g7; simp; omega) fun l3 H8 hl8 s8 h8 => ?_
    exact q l3 (.n1 (.wd .next) x) H8 (s56.free (k7.free hp7 hl8)) ((Kp.same s56).trans (k7.trans (Kp.same s8))) (hp7.mono s8) (.gcnt g7) h8
  | @two _ xv yv t A B hS hA hB =>
    refine ixt_go hS at0 ?_
    walk_at "rd"
    refine reqS_go (b := false) (by cases t <;> decide +kernel) ?_
    walk_at "rd"
    refine ixt_go hS at0 ?_
    walk_at "rd"
    cases t with
    | pair =>
      refine reqS_go (b := true) (by decide +kernel) ?_
      walk_at "rd"
      refine ktn_go len_ok fun p H4 hp4 s4 e4 => ?_
      walk_at "rd"
      refine one_ln (K := K) (n := .wd .both) (.wd (sqT_of e4)) fun l1 H5 hl5 s5 h5 => ?_
      have s45 := s4.trans s5
      have hL5 := hL.mono s45
      walk_at "rd"
      refine ixt_go (Same.sqt s45 hS) at1 ?_
      walk_at "rd"
      refine go_term hL5 (hA.mono s45) c.fst hdd fun l2 x H6 hl6 k6 hp6 g6 h6 => ?_
      have hL6 := hL5.kq k6 hp6
      have t36 : TpS H H6 := (TpS.same s45).trans (k6.tp hL5.pot)
      refine cat_ln (h5.kq k6 hL5.pot (hL.pot.ne (s4.free hl5))) h6 (by have := smallG c.fst g6; simp; omega) fun l3 H7 hl7 s7 h7 => ?_
      have hL7 := hL6.mono s7
      walk_at "rd"
      refine ixt_go ((t36.trans (.same s7)).sqt hS) at2 ?_
      walk_at "rd"
      refine go_leaf hL7 (hB.tp (t36.trans (.same s7))) c.snd.s0 fun l4 y H8 hl8 k8 hp8 lf8 h8 => ?_
      refine cat_ln (h7.kq k8 hL7.pot (hp6.ne hl7)) h8 (by have := smallG c.fst g6; have := smallL c.snd.s0 lf8; simp; omega) fun l5 H9 hl9 s9 h9 => ?_
      refine q l5 (.n2 (.wd .both) x y) H9 (s45.free (k6.free hp6 (s7.free (k8.free hp8 hl9)))) ((Kp.same s45).trans (k6.trans ((Kp.same s7).trans (k8.trans (Kp.same s9))))) (hp8.mono s9) (.gpair g6 lf8) ?_
      rw [List.singleton_append, List.cons_append] at h9
      exact h9
    | sum =>
      refine reqS_go (b := false) (by decide +kernel) ?_
      walk_at "rd"
      refine ixt_go hS at0 ?_
      walk_at "rd"
      refine reqS_go (b := true) (by decide +kernel) ?_
      walk_at "rd"
      refine ixt_go hS at1 ?_
      walk_at "rd"
      refine ktn_go len_ok fun p H5 hp5 s5 e5 => ?_
      walk_at "rd"
      refine one_ln (K := K) (n := .knd .right A) (.knd (sqT_of e5) (hA.mono s5)) fun l1 H6 hl6 s6 h6 => ?_
      have s56 := s5.trans s6
      have hL6 := hL.mono s56
      walk_at "rd"
      refine ixt_go (Same.sqt s56 hS) at2 ?_
      walk_at "rd"
      refine go_term hL6 (hB.mono s56) c.snd hdd fun l2 x H7 hl7 k7 hp7 g7 h7 => ?_
      refine cat_ln (h6.kq k7 hL6.pot (hL.pot.ne (s5.free hl6))) h7 (by have := smallG c.snd g7; simp; omega) fun l3 H8 hl8 s8 h8 => ?_
      exact q l3 (.n1 (.knd .right A) x) H8 (s56.free (k7.free hp7 hl8)) ((Kp.same s56).trans (k7.trans (Kp.same s8))) (hp7.mono s8) (.gsum g7) h8
    | fn =>
      refine reqS_go (b := false) (by decide +kernel) ?_
      walk_at "rd"
      refine ixt_go hS at0 ?_
      walk_at "rd"
      refine reqS_go (b := false) (by decide +kernel) ?_
      walk_at "rd"
      refine ixt_go hS at1 ?_
      walk_at "rd"
      refine ktn_go len_ok fun p H5 hp5 s5 e5 => ?_
      walk_at "rd"
      refine one_ln (K := K) (n := .knd .fn A) (.knd (sqT_of e5) (hA.mono s5)) fun l1 H6 hl6 s6 h6 => ?_
      have s56 := s5.trans s6
      have hL6 := hL.mono s56
      walk_at "rd"
      refine ixt_go (Same.sqt s56 hS) at2 ?_
      walk_at "rd"
      refine ixt_go (Same.sqt s56 hS) at1 ?_
      walk_at "rd"
      refine kln_go len_ok fun b H7 hb s7 e7 => ?_
      walk_at "rd"
      have s57 := s56.trans s7
      refine cat_nm e7 (hA.mono s57) (hL6.mono s7) (by have := c.ln; omega) fun n2 H8 hn2 s8 hL8 => ?_
      have s58 := s57.trans s8
      walk_at "rd"
      have cB : Kc d (A :: G) B := ⟨c.snd.d4, c.snd.sz, c.snd.dp, by have := c.ln; rw [List.length_cons]; omega, fun l hl => by
        rcases List.mem_cons.mp hl with rfl | hl
        · exact ⟨KS.fk c.fk.1, by have := (KS.dp c.fk.1).1; omega⟩
        · exact c.nm l hl, c.snd.fk⟩
      refine go_term hL8 (hB.mono s58) cB hdd fun l2 x H9 hl9 k9 hp9 g9 h9 => ?_
      refine cat_ln ((h6.mono (s7.trans s8)).kq k9 hL8.pot (hL.pot.ne (s5.free hl6))) h9 (by have := smallG cB g9; simp; omega) fun l3 Ha hla sa ha => ?_
      exact q l3 (.n1 (.knd .fn A) x) Ha (s58.free (k9.free hp9 hla)) ((Kp.same s58).trans (k9.trans (Kp.same sa))) (hp9.mono sa) (.gfn g9) ha
end
end K42

/-! KL4 -/
/-! the law: drawn terms, all ways -/
namespace K42
open PySem PySem.Spec L2 He
local macro_rules | `(tactic| walk_at "rd") => `(tactic| repeat (first | ((with_reducible refine' rd_var ?hvar ?_); (case hvar => exact rfl)) | with_reducible refine rd_seq ?_ | with_reducible refine rd_asg ?_ | with_reducible refine rd_ret ?_ | with_reducible refine rd_drop ?_ | with_reducible refine rd_ifs ?_ | with_reducible refine rd_name ?_ | with_reducible refine rd_c ?_ | with_reducible refine rd_cons ?_ | with_reducible refine rd_nil ?_ | with_reducible refine rd_cb ?_ | with_reducible refine rd_op ?_ | with_reducible refine rd_test ?_ | with_reducible refine rd_tb ?_ | with_reducible refine rd_and ?_ | with_reducible refine rd_or ?_ | with_reducible refine rd_not ?_ | with_reducible refine rd_andv ?_ | with_reducible refine rd_orv ?_ | with_reducible refine rd_notv ?_ | with_reducible refine rd_if ?_ | with_reducible refine rd_nx ?_ | with_reducible refine rd_retn ?_ | with_reducible refine rd_par ?_ | with_reducible refine rd_par3 ?_ | with_reducible refine rd_tup ?_ | with_reducible refine rd_lst ?_ | with_reducible refine rd_call ?_ | with_reducible refine rd_meth ?_ | with_reducible refine rd_make ?_ | with_reducible refine rd_fld ?_ | with_reducible refine rd_sfld ?_ | with_reducible refine rd_bm ?_ | with_reducible refine rd_bm0 ?_ | with_reducible refine rd_prop ?_ | with_reducible refine rd_dget ?_ | with_reducible refine rd_dnin ?_ | with_reducible refine rd_chain ?_ | with_reducible refine rd_sub ?_ | with_reducible refine rd_un ?_ | with_reducible refine rd_fl ?_ | with_reducible refine rd_ft ?_ | with_reducible refine rd_fr ?_ | with_reducible refine rd_fd ?_ | with_reducible refine rd_fe ?_ | with_reducible refine rd_ll ?_ | with_reducible refine rd_le ?_ | with_reducible refine rd_yes ?_ | with_reducible refine rd_dg2 ?_ | with_reducible refine rd_calld ?_ | with_reducible refine rd_lt ?_ | with_reducible refine rd_rev ?_ | with_reducible refine rd_sl ?_ | with_reducible refine rd_thru ?_ | with_reducible refine kb_go ?_ | with_reducible refine kpar_go ?_ | with_reducible refine kpar3_go ?_ | with_reducible refine ri0_go ?_ | with_reducible refine ru_go ?_ | ((with_reducible refine ifT ?hift ?_); (case hift => exact rfl)) | ((with_reducible refine ifF ?hiff ?_); (case hiff => exact rfl))))
local macro_rules | `(tactic| walk_at "dt") => `(tactic| first | refine ifT (by decide +kernel) ?_ | ((refine ifT ?hdt ?_); (case hdt => exact decide_eq_true (by omega))))
local macro_rules | `(tactic| walk_at "df") => `(tactic| first | refine ifF (by decide +kernel) ?_ | ((refine ifF ?hdf ?_); (case hdf => exact decide_eq_false (by omega))))

section
variable {K : PySem.W.Frag} {H H1 : Hp} {a nl l : Addr} {G : List Kd} {ns ms : List Nd} {Q : VK}
theorem KdAt.word {v : V} {k : Kd} (h : KdAt K H v k) : ∃ (b : Addr) (xs : List V) (z : Str), v = .ref b ∧ SqT K H b (.str z :: xs) ∧ decide (z = ("fun" : Str)) = isFn k := by
  cases h with
  | cnt h => exact ⟨_, _, _, rfl, h, by decide +kernel⟩
  | @two _ _ _ t _ _ h _ _ => exact ⟨_, _, _, rfl, h, by cases t <;> (show _ = _; first | exact (by decide +kernel : decide (Kt.pair.w = ("fun" : Str)) = false) | exact (by decide +kernel : decide (Kt.sum.w = ("fun" : Str)) = false) | exact (by decide +kernel : decide (Kt.fn.w = ("fun" : Str)) = true))⟩
theorem two_ln {v u : V} {n m : Nd} (h : NdAt K H v n) (g : NdAt K H u m) (q : ∀ p H1, H p = none → Same H H1 → LnAt K H1 p [n, m] → Q (.ref p) H1) : KLst Q [v, u] H :=
  kln_go len_ok fun p H1 hp s e => q p H1 hp s ⟨_, e, .cons (h.mono s) (.cons (g.mono s) .nil)⟩
end
section
variable {P : Program} {w : World} {K : PySem.W.Frag} {mg : Str → Option Value} {base : Heap}
theorem ok_law_term (T : Tx w K mg) : ∀ d : Nat, OkF P w K mg base (14 + 2 * d) (ga K "_law_term") ["_law_pot_here", "_law_kind", "_law_names", "_law_deep"] (sp_law_term K d)
  | 0 => by
    have G_law_leaf := ok_law_leaf (P := P) (base := base) T 10
    have G_law_draw := ok_law_draw (P := P) (base := base) T
    have G_law_pick := ok_law_pick (P := P) (base := base) T
    have G_law_kinds := ok_law_kinds (P := P) (base := base) T
    refine okF T.f_law_term rfl sc_law_term b_law_term (fun vs H Q E h => by obtain ⟨_, _, _, _, _, _, rfl, _⟩ := h; rfl) (fun cdv A outer s H vs Q E hr h => ?_)
    obtain ⟨a, nl, kv, k, G, dd, rfl, rfl, hL, hk, c, q⟩ := h
    refine ⟨_, (pss_cons (ps_set (i := 4) sc_law_term.nd rfl (Or.inl rfl) (pe_ifExp (pt_cmpR op_gt (pv 3) pe_int (nomark _)) (pe_f G_law_draw T.g_law_draw (hr.mono (by decide)) (pa_cons (pv 0) (pa_cons pe_int pa_nil))) pe_int))
      (pss_cons (ps_set (i := 5) sc_law_term.nd rfl (Or.inl rfl) (pe_ifExp (pt_cmpR op_gt (pv 4) pe_int (nomark _)) (pe_f G_law_pick T.g_law_pick (hr.mono (by decide)) (pa_cons (pv 0) (pa_cons (pe_f0 G_law_kinds T.g_law_kinds (hr.mono (by decide))) pa_nil))) (pv 1)))
      (pss_cons (ps_if (pt_cmpR op_eq (pv 4) pe_int (nomark _)) (pss_one (ps_ret (pe_f G_law_leaf T.g_law_leaf (hr.mono (by decide)) (pa_cons (pv 0) (pa_cons (pv 1) (pa_cons (pv 2) pa_nil)))))) pss_nil)
      (pss_cons (ps_if (pt_cmpR op_eq (pv 4) pe_int (nomark _)) (pss_one ps_never) pss_nil)
      (pss_cons (ps_if (pt_cmpR op_eq (pv 4) pe_int (nomark _)) (pss_one ps_never) pss_nil)
      (pss_cons (ps_if (pt_cmpR op_eq (pv 4) pe_int (nomark _)) (pss_one ps_never) pss_nil)
      (pss_cons (ps_if (pt_cmpR op_eq (pv 4) pe_int (nomark _)) (pss_cons (ps_if (pt_cmpR op_eq (pe_f G_law_draw T.g_law_draw (hr.mono (by decide)) (pa_cons (pv 0) (pa_cons pe_int pa_nil))) pe_int (nomark _)) (pss_one ps_never) pss_nil)
      (pss_one ps_never)) pss_nil)
      (pss_cons (ps_if (pt_cmpR op_eq (pv 4) pe_int (nomark _)) (pss_cons (ps_set (i := 6) sc_law_term.nd rfl (Or.inl rfl) (pe_tup (pa_cons pe_str (pa_cons (pv 5) (pa_cons (pe_tup (pa_cons pe_str pa_nil)) pa_nil)))))
      (pss_cons ps_never
      (pss_one ps_never))) pss_nil)
      (pss_cons (ps_if (pt_cmpR op_eq (pv 4) pe_int (nomark _)) (pss_cons ps_never
      (pss_cons (ps_set (i := 9) sc_law_term.nd rfl (Or.inl rfl) (pe_f G_law_draw T.g_law_draw (hr.mono (by decide)) (pa_cons (pv 0) (pa_cons (pe_ifExp (pt_cmpR op_eq (pe_ix ix_tup (pv 1) pe_int (fun _ _ => rfl)) pe_str (nomark _)) pe_int pe_int) pa_nil))))
      (pss_one ps_never))) pss_nil)
      (pss_cons (ps_if (pt_cmpR op_eq (pv 4) pe_int (nomark _)) (pss_one ps_never) pss_nil)
      (pss_cons (ps_setLc (i := 10) (own := [("_law_at", 11), ("_law_one", 12)]) (g := gTup K 2 (gCons (gName 11) (gCons (gName 12) gNil))) rfl sc_law_term.nd rfl rfl (sw_true rfl rfl rfl (by decide +kernel)) (pi_enum (by rfl) T.n_enumerate (pa_cons (pv 2) pa_nil)) (blkOk_by (own := [("_law_at", 11), ("_law_one", 12)]) (N := ["_law_pot_here", "_law_kind", "_law_names", "_law_deep", "_law_way", "_law_other", "_law_side", "_law_arms", "_law_step", "_law_many", "_law_some", "_law_at", "_law_one"]) (sc := defScope s_law_term) (by decide +kernel)) (fun _ _ _ _ _ => (pg_tup (by rfl) (pgs_cons (pg_name (i := 11) sc_law_term.nd rfl (Or.inl rfl)) (pgs_cons (pg_name (i := 12) sc_law_term.nd rfl (Or.inl rfl)) pgs_nil)))) (fun _ _ _ _ _ => (pts_one (PW.pt (pw_and (pt_cmpR op_eq (pe_ix (show IxR _ (rIxT K) from ix_tup) (pv 12) pe_int (fun _ _ => rfl)) pe_str (nomark _)) (pw_and1 (pt_cmpR (show OpR _ _ (rEqD K) from op_eqD (hu64 hr)) (pe_ix (show IxR _ (rIxT K) from ix_tup) (pv 12) pe_int (fun _ _ => rfl)) (pv 1) (nomark _))))))) (fun _ _ _ _ _ => (pv 11)))
      (pss_cons (ps_if (pt_cmpR (op_eqE (hu64 hr)) (pv 10) (pe_lst pa_nil) (nomark _)) (pss_one ps_never) pss_nil)
      (pss_cons (ps_set (i := 11) sc_law_term.nd rfl (Or.inl rfl) (pe_f G_law_pick T.g_law_pick (hr.mono (by decide)) (pa_cons (pv 0) (pa_cons (pv 10) pa_nil))))
      (pss_one ps_never)))))))))))))), ?_⟩
    walk_at "rd"
    refine reqI_go ?_
    walk_at "rd"
    exact go_leaf hL hk c.s0 fun l t H1 h1 h2 h3 h4 h5 => q l t H1 h1 h2 h3 (.leaf h4) h5
  | d + 1 => by
    have G_law_term := ok_law_term T d
    have G_law_grown := ok_grown (P := P) (base := base) T d (n := 14 + 2 * d) (by omega) G_law_term
    have G_law_leaf := ok_law_leaf (P := P) (base := base) T 10
    have G_law_draw := ok_law_draw (P := P) (base := base) T
    have G_law_pick := ok_law_pick (P := P) (base := base) T
    have G_law_kinds := ok_law_kinds (P := P) (base := base) T
    refine OkF.mono (j := (14 + 2 * d + 1) + 1) ?_ (by omega)
    refine okF T.f_law_term rfl sc_law_term b_law_term (fun vs H Q E h => by obtain ⟨_, _, _, _, _, _, rfl, _⟩ := h; rfl) (fun cdv A outer s H vs Q E hr h => ?_)
    obtain ⟨a, nl, kv, k, G, dd, rfl, rfl, hL, hk, c, q⟩ := h
    refine ⟨_, (pss_cons (ps_set (i := 4) sc_law_term.nd rfl (Or.inl rfl) (pe_ifExp (pt_cmpR op_gt (pv 3) pe_int (nomark _)) (pe_f G_law_draw T.g_law_draw (hr.mono (by omega)) (pa_cons (pv 0) (pa_cons pe_int pa_nil))) pe_int))
      (pss_cons (ps_set (i := 5) sc_law_term.nd rfl (Or.inl rfl) (pe_ifExp (pt_cmpR op_gt (pv 4) pe_int (nomark _)) (pe_f G_law_pick T.g_law_pick (hr.mono (by omega)) (pa_cons (pv 0) (pa_cons (pe_f0 G_law_kinds T.g_law_kinds (hr.mono (by omega))) pa_nil))) (pv 1)))
      (pss_cons (ps_if (pt_cmpR op_eq (pv 4) pe_int (nomark _)) (pss_one (ps_ret (pe_f G_law_leaf T.g_law_leaf (hr.mono (by omega)) (pa_cons (pv 0) (pa_cons (pv 1) (pa_cons (pv 2) pa_nil)))))) pss_nil)
      (pss_cons (ps_if (pt_cmpR op_eq (pv 4) pe_int (nomark _)) (pss_one (ps_ret (pe_f G_law_grown T.g_law_grown (hr.mono (by omega)) (pa_cons (pv 0) (pa_cons (pv 1) (pa_cons (pv 2) (pa_cons (pv 3) pa_nil))))))) pss_nil)
      (pss_cons (ps_if (pt_cmpR op_eq (pv 4) pe_int (nomark _)) (pss_one (ps_ret (pe_op op_cat (pe_op op_cat (pe_lst (pa_cons (pe_tup (pa_cons pe_str pa_nil)) (pa_cons (pe_tup (pa_cons pe_str (pa_cons (pv 5) pa_nil))) pa_nil))) (pe_f G_law_term T.g_law_term (hr.mono (by omega)) (pa_cons (pv 0) (pa_cons (pv 1) (pa_cons (pe_op op_cat (pe_lst (pa_cons (pv 5) pa_nil)) (pv 2)) (pa_cons (pe_op op_sub (pv 3) pe_int) pa_nil)))))) (pe_f G_law_term T.g_law_term (hr.mono (by omega)) (pa_cons (pv 0) (pa_cons (pv 5) (pa_cons (pv 2) (pa_cons (pe_op op_sub (pv 3) pe_int) pa_nil)))))))) pss_nil)
      (pss_cons (ps_if (pt_cmpR op_eq (pv 4) pe_int (nomark _)) (pss_one (ps_ret (pe_op op_cat (pe_op op_cat (pe_lst (pa_cons (pe_tup (pa_cons pe_str pa_nil)) pa_nil)) (pe_f G_law_term T.g_law_term (hr.mono (by omega)) (pa_cons (pv 0) (pa_cons (pv 5) (pa_cons (pv 2) (pa_cons (pe_op op_sub (pv 3) pe_int) pa_nil)))))) (pe_f G_law_term T.g_law_term (hr.mono (by omega)) (pa_cons (pv 0) (pa_cons (pv 1) (pa_cons (pe_op op_cat (pe_lst (pa_cons (pv 5) pa_nil)) (pv 2)) (pa_cons (pe_op op_sub (pv 3) pe_int) pa_nil)))))))) pss_nil)
      (pss_cons (ps_if (pt_cmpR op_eq (pv 4) pe_int (nomark _)) (pss_cons (ps_if (pt_cmpR op_eq (pe_f G_law_draw T.g_law_draw (hr.mono (by omega)) (pa_cons (pv 0) (pa_cons pe_int pa_nil))) pe_int (nomark _)) (pss_one (ps_ret (pe_op op_cat (pe_op op_cat (pe_lst (pa_cons (pe_tup (pa_cons pe_str pa_nil)) (pa_cons (pe_tup (pa_cons pe_str pa_nil)) pa_nil))) (pe_f G_law_term T.g_law_term (hr.mono (by omega)) (pa_cons (pv 0) (pa_cons (pv 1) (pa_cons (pv 2) (pa_cons (pe_op op_sub (pv 3) pe_int) pa_nil)))))) (pe_f G_law_leaf T.g_law_leaf (hr.mono (by omega)) (pa_cons (pv 0) (pa_cons (pv 5) (pa_cons (pv 2) pa_nil))))))) pss_nil)
      (pss_one (ps_ret (pe_op op_cat (pe_op op_cat (pe_lst (pa_cons (pe_tup (pa_cons pe_str pa_nil)) (pa_cons (pe_tup (pa_cons pe_str pa_nil)) pa_nil))) (pe_f G_law_leaf T.g_law_leaf (hr.mono (by omega)) (pa_cons (pv 0) (pa_cons (pv 5) (pa_cons (pv 2) pa_nil))))) (pe_f G_law_term T.g_law_term (hr.mono (by omega)) (pa_cons (pv 0) (pa_cons (pv 1) (pa_cons (pv 2) (pa_cons (pe_op op_sub (pv 3) pe_int) pa_nil))))))))) pss_nil)
      (pss_cons (ps_if (pt_cmpR op_eq (pv 4) pe_int (nomark _)) (pss_cons (ps_set (i := 6) sc_law_term.nd rfl (Or.inl rfl) (pe_tup (pa_cons pe_str (pa_cons (pv 5) (pa_cons (pe_tup (pa_cons pe_str pa_nil)) pa_nil)))))
      (pss_cons (ps_set (i := 7) sc_law_term.nd rfl (Or.inl rfl) (pe_op op_cat (pe_f G_law_term T.g_law_term (hr.mono (by omega)) (pa_cons (pv 0) (pa_cons (pv 1) (pa_cons (pe_op op_cat (pe_lst (pa_cons (pv 5) pa_nil)) (pv 2)) (pa_cons (pe_op op_sub (pv 3) pe_int) pa_nil))))) (pe_f G_law_leaf T.g_law_leaf (hr.mono (by omega)) (pa_cons (pv 0) (pa_cons (pv 1) (pa_cons (pe_op op_cat (pe_lst (pa_cons (pe_tup (pa_cons pe_str pa_nil)) pa_nil)) (pv 2)) pa_nil))))))
      (pss_one (ps_ret (pe_op op_cat (pe_op op_cat (pe_lst (pa_cons (pe_tup (pa_cons pe_str pa_nil)) pa_nil)) (pe_f G_law_term T.g_law_term (hr.mono (by omega)) (pa_cons (pv 0) (pa_cons (pv 6) (pa_cons (pv 2) (pa_cons (pe_op op_sub (pv 3) pe_int) pa_nil)))))) (pv 7)))))) pss_nil)
      (pss_cons (ps_if (pt_cmpR op_eq (pv 4) pe_int (nomark _)) (pss_cons (ps_set (i := 8) sc_law_term.nd rfl (Or.inl rfl) (pe_f G_law_term T.g_law_term (hr.mono (by omega)) (pa_cons (pv 0) (pa_cons (pv 1) (pa_cons (pe_op op_cat (pe_lst (pa_cons (pv 1) pa_nil)) (pv 2)) (pa_cons (pe_op op_sub (pv 3) pe_int) pa_nil))))))
      (pss_cons (ps_set (i := 9) sc_law_term.nd rfl (Or.inl rfl) (pe_f G_law_draw T.g_law_draw (hr.mono (by omega)) (pa_cons (pv 0) (pa_cons (pe_ifExp (pt_cmpR op_eq (pe_ix ix_tup (pv 1) pe_int (fun _ _ => rfl)) pe_str (nomark _)) pe_int pe_int) pa_nil))))
      (pss_one (ps_ret (pe_op op_cat (pe_op op_cat (pe_lst (pa_cons (pe_tup (pa_cons pe_str (pa_cons (pv 1) pa_nil))) (pa_cons (pe_tup (pa_cons pe_str (pa_cons (pv 9) pa_nil))) pa_nil))) (pv 8)) (pe_f G_law_term T.g_law_term (hr.mono (by omega)) (pa_cons (pv 0) (pa_cons (pv 1) (pa_cons (pv 2) (pa_cons (pe_op op_sub (pv 3) pe_int) pa_nil)))))))))) pss_nil)
      (pss_cons (ps_if (pt_cmpR op_eq (pv 4) pe_int (nomark _)) (pss_one (ps_ret (pe_op op_cat (pe_op op_cat (pe_lst (pa_cons (pe_tup (pa_cons pe_str pa_nil)) pa_nil)) (pe_f G_law_term T.g_law_term (hr.mono (by omega)) (pa_cons (pv 0) (pa_cons (pe_tup (pa_cons pe_str (pa_cons (pv 5) (pa_cons (pv 1) pa_nil)))) (pa_cons (pv 2) (pa_cons (pe_op op_sub (pv 3) pe_int) pa_nil)))))) (pe_f G_law_leaf T.g_law_leaf (hr.mono (by omega)) (pa_cons (pv 0) (pa_cons (pv 5) (pa_cons (pv 2) pa_nil))))))) pss_nil)
      (pss_cons (ps_setLc (i := 10) (own := [("_law_at", 11), ("_law_one", 12)]) (g := gTup K 2 (gCons (gName 11) (gCons (gName 12) gNil))) rfl sc_law_term.nd rfl rfl (sw_true rfl rfl rfl (by decide +kernel)) (pi_enum (by rfl) T.n_enumerate (pa_cons (pv 2) pa_nil)) (blkOk_by (own := [("_law_at", 11), ("_law_one", 12)]) (N := ["_law_pot_here", "_law_kind", "_law_names", "_law_deep", "_law_way", "_law_other", "_law_side", "_law_arms", "_law_step", "_law_many", "_law_some", "_law_at", "_law_one"]) (sc := defScope s_law_term) (by decide +kernel)) (fun _ _ _ _ _ => (pg_tup (by rfl) (pgs_cons (pg_name (i := 11) sc_law_term.nd rfl (Or.inl rfl)) (pgs_cons (pg_name (i := 12) sc_law_term.nd rfl (Or.inl rfl)) pgs_nil)))) (fun _ _ _ _ _ => (pts_one (PW.pt (pw_and (pt_cmpR op_eq (pe_ix (show IxR _ (rIxT K) from ix_tup) (pv 12) pe_int (fun _ _ => rfl)) pe_str (nomark _)) (pw_and1 (pt_cmpR (show OpR _ _ (rEqD K) from op_eqD (hu64 hr)) (pe_ix (show IxR _ (rIxT K) from ix_tup) (pv 12) pe_int (fun _ _ => rfl)) (pv 1) (nomark _))))))) (fun _ _ _ _ _ => (pv 11)))
      (pss_cons (ps_if (pt_cmpR (op_eqE (hu64 hr)) (pv 10) (pe_lst pa_nil) (nomark _)) (pss_one (ps_ret (pe_f G_law_grown T.g_law_grown (hr.mono (by omega)) (pa_cons (pv 0) (pa_cons (pv 1) (pa_cons (pv 2) (pa_cons (pv 3) pa_nil))))))) pss_nil)
      (pss_cons (ps_set (i := 11) sc_law_term.nd rfl (Or.inl rfl) (pe_f G_law_pick T.g_law_pick (hr.mono (by omega)) (pa_cons (pv 0) (pa_cons (pv 10) pa_nil))))
      (pss_one (ps_ret (pe_op op_cat (pe_lst (pa_cons (pe_tup (pa_cons pe_str pa_nil)) (pa_cons (pe_tup (pa_cons pe_str (pa_cons (pv 11) pa_nil))) pa_nil))) (pe_f G_law_term T.g_law_term (hr.mono (by omega)) (pa_cons (pv 0) (pa_cons (pe_ix ix_tup (pe_ix ix_list (pv 2) (pv 11) (fun _ _ => rfl)) pe_int (fun _ _ => rfl)) (pa_cons (pv 2) (pa_cons (pe_op op_sub (pv 3) pe_int) pa_nil))))))))))))))))))))), ?_⟩
    have hdd : ((d + 1 : Nat) : Int) - 1 = (d : Int) := by omega
    with_reducible refine rd_seq ?_
    with_reducible refine rd_asg ?_
    refine via (fun u H1 => ∃ wy : Nat, u = .int wy ∧ wy < 9 ∧ Kq a H H1 ∧ PotAt H1 a) (fun Q' key => ?_) ?_
    · walk_at "rd"
      refine ifT ?hh ?_
      case hh => exact decide_eq_true (by omega)
      walk_at "rd"
      exact ⟨a, 9, rfl, hL.pot, by decide, by decide, fun wy H1 h1 h2 h3 => key _ _ ⟨wy, rfl, h1, h2, h3⟩⟩
    rintro u H1 ⟨wy, rfl, hwy, k1, hp1⟩
    have hL1 := hL.kq k1 hp1
    have hk1 := hk.tp (k1.tp hL.pot)
    with_reducible refine rd_name ?_
    with_reducible refine rd_seq ?_
    with_reducible refine rd_asg ?_
    refine via (fun u H2 => ∃ o, KdAt K H2 u o ∧ (1 < wy → o ∈ KS) ∧ Kq a H1 H2 ∧ PotAt H2 a) (fun Q' key => ?_) ?_
    · walk_at "rd"
      by_cases hw1 : 1 < wy
      · refine ifT (decide_eq_true (by omega)) ?_
        walk_at "rd"
        refine ⟨rfl, fun l xs H2 hl s2 e2 hx hk2 => ?_⟩
        walk_at "rd"
        refine ⟨a, l, xs, rfl, hp1.mono s2, hp1.ne hl, e2, (fun z => by rw [z] at hx; cases hx), by omega, fun i x H3 hi k3 hp3 => ?_⟩
        obtain ⟨o, ho, hxo⟩ := hk2 x (List.mem_of_getElem? hi)
        exact key _ _ ⟨o, hxo.tp (k3.tp (hp1.mono s2)), fun _ => ho, (Kp.same s2).trans k3, hp3⟩
      · refine ifF (decide_eq_false (by omega)) ?_
        walk_at "rd"
        exact key _ _ ⟨k, hk1, fun z => absurd z hw1, Kp.refl, hp1⟩
    rintro ov H2 ⟨o, ho2, hoK, k2, hp2⟩
    have hL2 := hL1.kq k2 hp2
    have hk2 := hk1.tp (k2.tp hp1)
    have k02 : Kq a H H2 := k1.trans k2
    have fr2 : ∀ l, H2 l = none → H l = none := fun l h => k1.free hp1 (k2.free hp2 h)
    -- binding a kind to the names
    have hGl : G.length ≤ 1000 := by have := c.ln; omega
    obtain rfl | rfl | rfl | rfl | rfl | rfl | rfl | rfl | rfl : wy = 0 ∨ wy = 1 ∨ wy = 2 ∨ wy = 3 ∨ wy = 4 ∨ wy = 5 ∨ wy = 6 ∨ wy = 7 ∨ wy = 8 := by omega
    · walk_at "rd"
      refine reqI_go ?_
      walk_at "rd"
      exact go_leaf hL2 hk2 c.s0 fun l t H3 h1 h2 h3 h4 h5 => q l t H3 (fr2 l h1) (k02.trans h2) h3 (.leaf h4) h5
    · walk_at "rd"
      refine reqI_go ?_
      walk_at "rd"
      refine reqI_go ?_
      walk_at "rd"
      exact ⟨a, nl, kv, k, G, _, rfl, rfl, hL2, hk2, c, fun l t H3 h1 h2 h3 h4 h5 => q l t H3 (fr2 l h1) (k02.trans h2) h3 h4 h5⟩
    · walk_at "rd"
      refine reqI_go ?_
      walk_at "rd"
      refine reqI_go ?_
      walk_at "rd"
      refine reqI_go ?_
      walk_at "rd"
      have ho := hoK (by decide)
      refine ktn_go len_ok fun p1 H3 hp3 s3 e3 => ?_
      walk_at "rd"
      refine ktn_go len_ok fun p2 H4 hp4 s4 e4 => ?_
      walk_at "rd"
      have s34 := s3.trans s4
      refine two_ln (K := K) (n := .wd .call) (m := .knd .fn o) (.wd (Same.sqt s4 (sqT_of e3))) (.knd (sqT_of e4) (ho2.mono s34)) fun l1 H5 hl5 s5 h5 => ?_
      have s35 := s34.trans s5
      have hL5 := hL2.mono s35
      walk_at "rd"
      refine kln_go len_ok fun b H6 hb s6 e6 => ?_
      have s36 := s35.trans s6
      walk_at "rd"
      refine cat_nm e6 (ho2.mono s36) (hL5.mono s6) hGl fun n2 H7 hn2 s7 hL7 => ?_
      have s37 := s36.trans s7
      walk_at "rd"
      have cb := c.bind (KS.fk ho) (by have := (KS.dp ho).1; omega)
      refine go_term hL7 (hk2.mono s37) cb hdd fun l2 x H8 hl8 k8 hp8 g8 h8 => ?_
      refine cat_ln ((h5.mono (s6.trans s7)).kq k8 hL7.pot (hL2.pot.ne (s34.free hl5))) h8 (by have := smallG cb g8; simp; omega) fun l3 H9 hl9 s9 h9 => ?_
      have k29 : Kq a H2 H9 := (Kp.same s37).trans (k8.trans (Kp.same s9))
      have hp9 := hp8.mono s9
      walk_at "rd"
      refine go_term (hL2.kq k29 hp9) (ho2.tp (k29.tp hp2)) (c.ks ho) hdd fun l4 y Ha hla ka hpa ga ha => ?_
      refine cat_ln (h9.kq ka hp9 (hp8.ne hl9)) ha (by have := smallG cb g8; have := smallG (c.ks ho) ga; simp; omega) fun l5 Hb hlb sb hb2 => ?_
      exact q l5 (.n2 (.wd .call) (.n1 (.knd .fn o) x) y) Hb (fr2 _ (k29.free hp9 (ka.free hpa hlb))) (k02.trans (k29.trans (ka.trans (Kp.same sb)))) (hpa.mono sb) (.call ho g8 ga) hb2
    · walk_at "rd"
      refine reqI_go ?_
      walk_at "rd"
      refine reqI_go ?_
      walk_at "rd"
      refine reqI_go ?_
      walk_at "rd"
      refine reqI_go ?_
      walk_at "rd"
      have ho := hoK (by decide)
      refine ktn_go len_ok fun p1 H3 hp3 s3 e3 => ?_
      walk_at "rd"
      refine one_ln (K := K) (n := .wd .lt) (.wd (sqT_of e3)) fun l1 H5 hl5 s5 h5 => ?_
      have s35 := s3.trans s5
      have hL5 := hL2.mono s35
      walk_at "rd"
      refine go_term hL5 (ho2.mono s35) (c.ks ho) hdd fun l2 x H8 hl8 k8 hp8 g8 h8 => ?_
      refine cat_ln (h5.kq k8 hL5.pot (hL2.pot.ne (s3.free hl5))) h8 (by have := smallG (c.ks ho) g8; simp; omega) fun l3 H9 hl9 s9 h9 => ?_
      have k29 : Kq a H2 H9 := (Kp.same s35).trans (k8.trans (Kp.same s9))
      have hp9 := hp8.mono s9
      have hL9 := hL2.kq k29 hp9
      have ho9 := ho2.tp (k29.tp hp2)
      walk_at "rd"
      refine kln_go len_ok fun b H6 hb s6 e6 => ?_
      walk_at "rd"
      refine cat_nm e6 (ho9.mono s6) (hL9.mono s6) hGl fun n2 H7 hn2 s7 hL7 => ?_
      have s67 := s6.trans s7
      walk_at "rd"
      have cb := c.bind (KS.fk ho) (by have := (KS.dp ho).1; omega)
      refine go_term hL7 ((hk2.tp (k29.tp hp2)).mono s67) cb hdd fun l4 y Ha hla ka hpa ga ha => ?_
      refine cat_ln ((h9.mono s67).kq ka hL7.pot (hp8.ne hl9)) ha (by have := smallG (c.ks ho) g8; have := smallG cb ga; simp; omega) fun l5 Hb hlb sb hb2 => ?_
      exact q l5 (.n2 (.wd .lt) x y) Hb (fr2 _ (k29.free hp9 (s67.free (ka.free hpa hlb)))) (k02.trans (k29.trans ((Kp.same s67).trans (ka.trans (Kp.same sb))))) (hpa.mono sb) (.lt ho g8 ga) hb2
    · walk_at "rd"
      refine reqI_go ?_
      walk_at "rd"
      refine reqI_go ?_
      walk_at "rd"
      refine reqI_go ?_
      walk_at "rd"
      refine reqI_go ?_
      walk_at "rd"
      refine reqI_go ?_
      walk_at "rd"
      have ho := hoK (by decide)
      refine ⟨a, 2, rfl, hp2, by decide, by decide, fun z Hz hz kz hpz => ?_⟩
      have hLz := hL2.kq kz hpz
      have hkz := hk2.tp (kz.tp hp2)
      have hoz := ho2.tp (kz.tp hp2)
      have k0z : Kq a H Hz := k02.trans kz
      walk_at "rd"
      refine reqI_go ?_
      by_cases hz0 : z = 0
      · subst hz0
        walk_at "rd"
        refine ktn_go len_ok fun p1 H3 hp3 s3 e3 => ?_
        walk_at "rd"
        refine ktn_go len_ok fun p2 H4 hp4 s4 e4 => ?_
        walk_at "rd"
        have s34 := s3.trans s4
        refine two_ln (K := K) (n := .wd .first) (m := .wd .both) (.wd (Same.sqt s4 (sqT_of e3))) (.wd (sqT_of e4)) fun l1 H5 hl5 s5 h5 => ?_
        have s35 := s34.trans s5
        have hL5 := hLz.mono s35
        walk_at "rd"
        refine go_term hL5 (hkz.mono s35) c.dn hdd fun l2 x H8 hl8 k8 hp8 g8 h8 => ?_
        refine cat_ln (h5.kq k8 hL5.pot (hpz.ne (s34.free hl5))) h8 (by have := smallG c.dn g8; simp; omega) fun l3 H9 hl9 s9 h9 => ?_
        have k29 : Kq a Hz H9 := (Kp.same s35).trans (k8.trans (Kp.same s9))
        have hp9 := hp8.mono s9
        walk_at "rd"
        refine go_leaf (hLz.kq k29 hp9) (hoz.tp (k29.tp hpz)) (c.ks ho).s0 fun l4 y Ha hla ka hpa ga ha => ?_
        refine cat_ln (h9.kq ka hp9 (hp8.ne hl9)) ha (by have := smallG c.dn g8; have := smallL (c.ks ho).s0 ga; simp; omega) fun l5 Hb hlb sb hb2 => ?_
        exact q l5 (.n1 (.wd .first) (.n2 (.wd .both) x y)) Hb (fr2 _ (kz.free hpz (k29.free hp9 (ka.free hpa hlb)))) (k0z.trans (k29.trans (ka.trans (Kp.same sb)))) (hpa.mono sb) (.first ho g8 ga) hb2
      · rw [decide_eq_false (show ¬ ((z : Nat) : Int) = 0 by omega)]
        walk_at "rd"
        refine ktn_go len_ok fun p1 H3 hp3 s3 e3 => ?_
        walk_at "rd"
        refine ktn_go len_ok fun p2 H4 hp4 s4 e4 => ?_
        walk_at "rd"
        have s34 := s3.trans s4
        refine two_ln (K := K) (n := .wd .second) (m := .wd .both) (.wd (Same.sqt s4 (sqT_of e3))) (.wd (sqT_of e4)) fun l1 H5 hl5 s5 h5 => ?_
        have s35 := s34.trans s5
        have hL5 := hLz.mono s35
        walk_at "rd"
        refine go_leaf hL5 (hoz.mono s35) (c.ks ho).s0 fun l2 x H8 hl8 k8 hp8 g8 h8 => ?_
        refine cat_ln (h5.kq k8 hL5.pot (hpz.ne (s34.free hl5))) h8 (by have := smallL (c.ks ho).s0 g8; simp; omega) fun l3 H9 hl9 s9 h9 => ?_
        have k29 : Kq a Hz H9 := (Kp.same s35).trans (k8.trans (Kp.same s9))
        have hp9 := hp8.mono s9
        walk_at "rd"
        refine go_term (hLz.kq k29 hp9) (hkz.tp (k29.tp hpz)) c.dn hdd fun l4 y Ha hla ka hpa ga ha => ?_
        refine cat_ln (h9.kq ka hp9 (hp8.ne hl9)) ha (by have := smallG c.dn ga; have := smallL (c.ks ho).s0 g8; simp; omega) fun l5 Hb hlb sb hb2 => ?_
        exact q l5 (.n1 (.wd .second) (.n2 (.wd .both) x y)) Hb (fr2 _ (kz.free hpz (k29.free hp9 (ka.free hpa hlb)))) (k0z.trans (k29.trans (ka.trans (Kp.same sb)))) (hpa.mono sb) (.second ho g8 ga) hb2
    · walk_at "rd"
      refine reqI_go ?_
      walk_at "rd"
      refine reqI_go ?_
      walk_at "rd"
      refine reqI_go ?_
      walk_at "rd"
      refine reqI_go ?_
      walk_at "rd"
      refine reqI_go ?_
      walk_at "rd"
      refine reqI_go ?_
      walk_at "rd"
      have ho := hoK (by decide)
      refine ktn_go len_ok fun p1 H3 hp3 s3 e3 => ?_
      walk_at "rd"
      refine ktn_go len_ok fun p2 H4 hp4 s4 e4 => ?_
      have s34 := s3.trans s4
      have hsd : KdAt K H4 (.ref p2) (.two .sum o .cnt) := .two (sqT_of e4) (ho2.mono s34) (.cnt (Same.sqt s4 (sqT_of e3)))
      have hL4 := hL2.mono s34
      walk_at "rd"
      refine kln_go len_ok fun b H6 hb s6 e6 => ?_
      walk_at "rd"
      refine cat_nm e6 (ho2.mono (s34.trans s6)) (hL4.mono s6) hGl fun n2 H7 hn2 s7 hL7 => ?_
      have s47 := s6.trans s7
      have s37 := s34.trans s47
      walk_at "rd"
      have cb := c.bind (KS.fk ho) (by have := (KS.dp ho).1; omega)
      refine go_term hL7 (hk2.mono s37) cb hdd fun l2 x H8 hl8 k8 hp8 g8 h8 => ?_
      have k28 : Kq a H2 H8 := (Kp.same s37).trans k8
      have hL8 := hL2.kq k28 hp8
      walk_at "rd"
      refine ktn_go len_ok fun p9 H9 hp9 s9 e9 => ?_
      walk_at "rd"
      refine kln_go len_ok fun b2 H10 hb2 s10 e10 => ?_
      walk_at "rd"
      have s910 := s9.trans s10
      refine cat_nm e10 (k := .cnt) (.cnt (Same.sqt s10 (sqT_of e9))) (hL8.mono s910) hGl fun n3 H11 hn3 s11 hL11 => ?_
      have s811 := s910.trans s11
      walk_at "rd"
      have cc : Ks0 (.cnt :: G) k := (c.bind (o := .cnt) True.intro (by decide)).s0
      refine go_leaf hL11 ((hk2.tp (k28.tp hp2)).mono s811) cc fun l4 y Ha hla ka hpa ga ha => ?_
      have k8a : Kq a H8 Ha := (Kp.same s811).trans ka
      refine cat_ln (h8.kq k8a hp8 (hL7.pot.ne hl8)) ha (by have := smallG cb g8; have := smallL cc ga; omega) fun l5 Hb hlb sb hb5 => ?_
      have k2b : Kq a H2 Hb := k28.trans (k8a.trans (Kp.same sb))
      have hpb := hpa.mono sb
      have k4b : Kq a H4 Hb := (Kp.same s47).trans (k8.trans (k8a.trans (Kp.same sb)))
      have hsb := hsd.tp (k4b.tp hL4.pot)
      walk_at "rd"
      refine ktn_go len_ok fun p12 H12 hp12 s12 e12 => ?_
      walk_at "rd"
      refine one_ln (K := K) (n := .wd .which) (.wd (sqT_of e12)) fun l6 H13 hl13 s13 h13 => ?_
      have s1213 := s12.trans s13
      have hL13 := (hL2.kq k2b hpb).mono s1213
      walk_at "rd"
      refine go_term hL13 (hsb.mono s1213) (c.sum ho) hdd fun l7 z Hc hlc kc hpc gc hc => ?_
      refine cat_ln (h13.kq kc hL13.pot (hpb.ne (s12.free hl13))) hc (by have := smallG (c.sum ho) gc; simp; omega) fun l8 Hd hld sd hd => ?_
      have kbd : Kq a Hb Hd := (Kp.same s1213).trans (kc.trans (Kp.same sd))
      walk_at "rd"
      refine cat_ln hd (hb5.kq kbd hpb (hpa.ne hlb)) (by have := smallG (c.sum ho) gc; have := smallG cb g8; have := smallL cc ga; simp; omega) fun l9 He hle se he => ?_
      exact q l9 (.n3 (.wd .which) z x y) He (fr2 _ (k2b.free hpb (kbd.free (hpc.mono sd) (hle)))) (k02.trans (k2b.trans (kbd.trans (Kp.same se)))) ((hpc.mono sd).mono se) (.which ho gc g8 ga) he
    · walk_at "rd"
      refine reqI_go ?_
      walk_at "rd"
      refine reqI_go ?_
      walk_at "rd"
      refine reqI_go ?_
      walk_at "rd"
      refine reqI_go ?_
      walk_at "rd"
      refine reqI_go ?_
      walk_at "rd"
      refine reqI_go ?_
      walk_at "rd"
      refine reqI_go ?_
      walk_at "rd"
      have cb : Kc d (k :: G) k := c.bind c.fk (by have := c.dp; omega)
      refine kln_go len_ok fun b H6 hb s6 e6 => ?_
      walk_at "rd"
      refine cat_nm e6 (hk2.mono s6) (hL2.mono s6) hGl fun n2 H7 hn2 s7 hL7 => ?_
      have s27 := s6.trans s7
      walk_at "rd"
      refine go_term hL7 (hk2.mono s27) cb hdd fun l2 x H8 hl8 k8 hp8 g8 h8 => ?_
      have k28 : Kq a H2 H8 := (Kp.same s27).trans k8
      have hL8 := hL2.kq k28 hp8
      have hk8 := hk2.tp (k28.tp hp2)
      with_reducible refine rd_name ?_
      with_reducible refine rd_seq ?_
      with_reducible refine rd_asg ?_
      refine via (fun u H9 => ∃ n : Nat, u = .int n ∧ n < 4 ∧ (isFn k = true → n < 2) ∧ Kq a H8 H9 ∧ PotAt H9 a) (fun Q' key => ?_) ?_
      · walk_at "rd"
        obtain ⟨ka, xs, z, rfl, hS8, hz⟩ := hk8.word
        refine ixt_go hS8 at0 ?_
        walk_at "rd"
        refine reqS_go hz ?_
        walk_at "rd"
        cases hfn : isFn k with
        | true =>
          walk_at "rd"
          exact ⟨a, 2, rfl, hp8, by decide, by decide, fun n H9 h1 h2 h3 => key _ _ ⟨n, rfl, by omega, fun _ => h1, h2, h3⟩⟩
        | false =>
          walk_at "rd"
          exact ⟨a, 4, rfl, hp8, by decide, by decide, fun n H9 h1 h2 h3 => key _ _ ⟨n, rfl, h1, fun z => (by rw [hfn] at z; cases z), h2, h3⟩⟩
      rintro u H9 ⟨n, rfl, hn4, hn2, k9, hp9⟩
      have hk9 := hk8.tp (k9.tp hp8)
      have k29 : Kq a H2 H9 := k28.trans k9
      have hL9 := hL8.kq k9 hp9
      walk_at "rd"
      refine ktn_go len_ok fun p1 H10 _ s10 e10 => ?_
      walk_at "rd"
      refine ktn_go len_ok fun p2 H11 _ s11 e11 => ?_
      walk_at "rd"
      have s911 := s10.trans s11
      refine two_ln (K := K) (n := .knd .turns k) (m := .told n) (.knd (Same.sqt s11 (sqT_of e10)) (hk9.mono s911)) (.told (sqT_of e11)) fun l3 H12 hl12 s12 h12 => ?_
      have s912 := s911.trans s12
      walk_at "rd"
      refine cat_ln h12 ((h8.kq k9 hp8 (hL7.pot.ne hl8)).mono s912) (by have := smallG cb g8; simp; omega) fun l4 H13 hl13 s13 h13 => ?_
      have s913 := s912.trans s13
      have hL13 := hL9.mono s913
      walk_at "rd"
      refine go_term hL13 (hk9.mono s913) c.dn hdd fun l5 y Ha hla ka hpa ga ha => ?_
      refine cat_ln (h13.kq ka hL13.pot (hp9.ne (s912.free hl13))) ha (by have := smallG cb g8; have := smallG c.dn ga; simp; omega) fun l6 Hb hlb sb hb2 => ?_
      refine q l6 (.n3 (.knd .turns k) (.n0 (.told n)) x y) Hb (fr2 _ (k29.free hp9 (s913.free (ka.free hpa hlb)))) (k02.trans (k29.trans ((Kp.same s913).trans (ka.trans (Kp.same sb))))) (hpa.mono sb) (.turns hn4 (fun ⟨A, B, e⟩ => hn2 (by rw [e]; rfl)) g8 ga) hb2
    · walk_at "rd"
      refine reqI_go ?_
      walk_at "rd"
      refine reqI_go ?_
      walk_at "rd"
      refine reqI_go ?_
      walk_at "rd"
      refine reqI_go ?_
      walk_at "rd"
      refine reqI_go ?_
      walk_at "rd"
      refine reqI_go ?_
      walk_at "rd"
      refine reqI_go ?_
      walk_at "rd"
      refine reqI_go ?_
      walk_at "rd"
      have ho := hoK (by decide)
      refine ktn_go len_ok fun p1 H3 hp3 s3 e3 => ?_
      walk_at "rd"
      refine one_ln (K := K) (n := .wd .call) (.wd (sqT_of e3)) fun l1 H5 hl5 s5 h5 => ?_
      have s35 := s3.trans s5
      walk_at "rd"
      refine ktn_go len_ok fun p2 H6 hp6 s6 e6 => ?_
      have s36 := s35.trans s6
      have hf6 : KdAt K H6 (.ref p2) (.two .fn o k) := .two (sqT_of e6) (ho2.mono s36) (hk2.mono s36)
      have hL6 := hL2.mono s36
      walk_at "rd"
      refine go_term hL6 hf6 (c.fn ho) hdd fun l2 x H8 hl8 k8 hp8 g8 h8 => ?_
      refine cat_ln ((h5.mono s6).kq k8 hL6.pot (hL2.pot.ne (s3.free hl5))) h8 (by have := smallG (c.fn ho) g8; simp; omega) fun l3 H9 hl9 s9 h9 => ?_
      have k29 : Kq a H2 H9 := (Kp.same s36).trans (k8.trans (Kp.same s9))
      have hp9 := hp8.mono s9
      walk_at "rd"
      refine go_leaf (hL2.kq k29 hp9) (ho2.tp (k29.tp hp2)) (c.ks ho).s0 fun l4 y Ha hla ka hpa ga ha => ?_
      refine cat_ln (h9.kq ka hp9 (hp8.ne hl9)) ha (by have := smallG (c.fn ho) g8; have := smallL (c.ks ho).s0 ga; simp; omega) fun l5 Hb hlb sb hb2 => ?_
      exact q l5 (.n2 (.wd .call) x y) Hb (fr2 _ (k29.free hp9 (ka.free hpa hlb))) (k02.trans (k29.trans (ka.trans (Kp.same sb)))) (hpa.mono sb) (.app ho g8 ga) hb2
    · walk_at "rd"
      refine reqI_go ?_
      walk_at "rd"
      refine reqI_go ?_
      walk_at "rd"
      refine reqI_go ?_
      walk_at "rd"
      refine reqI_go ?_
      walk_at "rd"
      refine reqI_go ?_
      walk_at "rd"
      refine reqI_go ?_
      walk_at "rd"
      refine reqI_go ?_
      walk_at "rd"
      refine reqI_go ?_
      walk_at "rd"
      obtain ⟨ns, hns, hnA⟩ := hL2.nm
      have hnl : ns.length ≤ 1000 := by rw [hnA.len]; exact hGl
      refine le_go (sqL_of hns) (fun D i H' => Same H2 H' ∧ ∃ js : List Nat, H' D = some (.lst (js.map iv)) ∧ js.length ≤ i ∧ ∀ j ∈ js, ∃ A, G[j]? = some (.two .fn A k)) (fun D hD => ⟨same_upd hD, [], upd_same, Nat.le_refl _, fun j hj => by cases hj⟩) (fun D i H' hD hi ⟨z, _⟩ => sqL_of (z _ _ hns)) ?_ ?_
      · rintro D i x H' p hD hx ⟨s1, js, hjs, hjl, hjg⟩ hp
        obtain ⟨l, hgl, hxl⟩ := hnA.getV hx
        have hi : i < ns.length := (List.getElem?_eq_some_iff.mp hx).1
        have s2 : Same H' (upd H' p (.tup [.int i, x])) := same_upd hp
        have hxl2 := hxl.mono (s1.trans s2)
        have hkk2 := hk2.mono (s1.trans s2)
        have hjs2 := s2 _ _ hjs
        refine gt2_go (sqT_of upd_same) ?_
        refine ⟨rfl, ?_⟩
        generalize upd H' p (.tup [.int i, x]) = Hx at s2 hxl2 hkk2 hjs2 ⊢
        walk_at "rd"
        obtain ⟨kb, xs, z, rfl, hSx, hz⟩ := hxl2.word
        refine ixt_go hSx at0 ?_
        walk_at "rd"
        refine reqS_go hz ?_
        have hld := (c.nm l (List.mem_of_getElem? hgl)).2
        cases hfn : isFn l with
        | false =>
          walk_at "rd"
          exact ⟨s1.trans s2, js, hjs2, by omega, hjg⟩
        | true =>
          walk_at "rd"
          cases hxl2 with
          | cnt _ => cases hfn
          | @two _ xa xb t A B hS2 hA2 hB2 =>
            refine ixt_go hS2 at2 ?_
            walk_at "rd"
            have hd2 : 1 + max A.dp B.dp ≤ 60 := hld
            refine ⟨_, _, hB2.dp, hkk2.dp, B.shaped (by omega), k.shaped (by have := c.dp; omega), ?_⟩
            walk_at "rd"
            cases he : PyData.eqv B.pd k.pd with
            | true =>
              have e := Kd.eqv_eq he
              subst e
              walk_at "rd"
              refine ⟨_, hjs2, line_gt (by rw [List.length_map]; omega), same_mut (s1.trans s2) hD, js ++ [i], ?_, by rw [List.length_append]; exact Nat.succ_le_succ hjl, fun j hj => ?_⟩
              · rw [upd_same, List.map_append]
                rfl
              · rcases List.mem_append.mp hj with hj | hj
                · exact hjg j hj
                · rw [List.mem_singleton.mp hj]
                  cases t with
                  | fn => exact ⟨A, hgl⟩
                  | pair => cases hfn
                  | sum => cases hfn
            | false =>
              walk_at "rd"
              exact ⟨s1.trans s2, js, hjs2, by omega, hjg⟩
      · rintro D H3 hD ⟨s3, js, hjs, hjl, hjg⟩
        have hL3 := hL2.mono s3
        have hk3 := hk2.mono s3
        have hDa : D ≠ a := hp2.ne hD
        walk_at "rd"
        refine kln_go len_ok fun b H4 _ s4 hb => ?_
        have s34 := s3.trans s4
        have hL4 := hL2.mono s34
        have hk4 := hk2.mono s34
        have hjs4 := s4 _ _ hjs
        refine ⟨D, b, _, rfl, rfl, hjs4, hb, ?_⟩
        walk_at "rd"
        cases js with
        | nil =>
          walk_at "rd"
          exact ⟨a, nl, kv, k, G, _, rfl, rfl, hL4, hk4, c, fun l t H5 h1 h2 h3 h4 h5 => q l t H5 (fr2 l (s34.free h1)) (k02.trans ((Kp.same s34).trans h2)) h3 h4 h5⟩
        | cons j0 js =>
          walk_at "rd"
          refine ⟨a, D, _, rfl, hL4.pot, hDa, hjs4, by simp, by rw [List.length_map]; omega, fun i x H5 hi k5 hp5 => ?_⟩
          rw [List.getElem?_map] at hi
          obtain ⟨j, hj, rfl⟩ := Option.map_eq_some_iff.mp hi
          obtain ⟨A, hA⟩ := hjg j (List.mem_of_getElem? hj)
          have hFk := (c.nm _ (List.mem_of_getElem? hA)).1
          have hL5 := hL4.kq k5 hp5
          walk_at "rd"
          refine ktn_go len_ok fun p1 H6 _ s6 e6 => ?_
          walk_at "rd"
          refine ktn_go len_ok fun p2 H7 _ s7 e7 => ?_
          walk_at "rd"
          have s67 := s6.trans s7
          refine two_ln (K := K) (n := .wd .call) (m := .name j) (.wd (Same.sqt s7 (sqT_of e6))) (.name (sqT_of e7)) fun l1 H8 hl8 s8 h8 => ?_
          have s68 := s67.trans s8
          have hL8 := hL5.mono s68
          walk_at "rd"
          obtain ⟨ns8, hns8, hnA8⟩ := hL8.nm
          obtain ⟨v, hv, hvk⟩ := hnA8.get hA
          cases hvk with
          | two hS8 hA8 hB8 =>
            refine ixl_go (sqL_of hns8) (atI_nat hv) ?_
            walk_at "rd"
            refine ixt_go hS8 at1 ?_
            walk_at "rd"
            refine go_term hL8 hA8 (c.ks hFk.1) hdd fun l2 x H9 hl9 k9 hp9 g9 h9 => ?_
            refine cat_ln (h8.kq k9 hL8.pot (hp5.ne (s67.free hl8))) h9 (by have := smallG (c.ks hFk.1) g9; simp; omega) fun l3 Ha hla sa ha => ?_
            exact q l3 (.n2 (.wd .call) (.n0 (.name j)) x) Ha (fr2 _ (s34.free (k5.free hp5 (s68.free (k9.free hp9 hla))))) (k02.trans ((Kp.same s34).trans (k5.trans ((Kp.same s68).trans (k9.trans (Kp.same sa)))))) (hp9.mono sa) (.nam hA g9) ha
end
end K42

/-! KL5 -/
/-! the law: trees -/
namespace K42
open PySem PySem.Spec L2 He
theorem rd_dg2 {td ty tx : TE} {σ : L2.St} {H : Hp} {Q : VK} (q : td σ H fun x H1 => ∃ a, x = .ref a ∧ IsD H1 a ∧ ty σ H1 fun y H2 => tx σ H2 fun z H3 => ∃ o, DGet H3 a y o ∧ Q (o.getD z) H3) : tDGet2 td ty tx σ H Q := q
local macro_rules | `(tactic| walk_at "rd") => `(tactic| repeat (first | ((with_reducible refine' rd_var ?hvar ?_); (case hvar => exact rfl)) | with_reducible refine rd_seq ?_ | with_reducible refine rd_asg ?_ | with_reducible refine rd_ret ?_ | with_reducible refine rd_drop ?_ | with_reducible refine rd_ifs ?_ | with_reducible refine rd_name ?_ | with_reducible refine rd_c ?_ | with_reducible refine rd_cons ?_ | with_reducible refine rd_nil ?_ | with_reducible refine rd_cb ?_ | with_reducible refine rd_op ?_ | with_reducible refine rd_test ?_ | with_reducible refine rd_tb ?_ | with_reducible refine rd_and ?_ | with_reducible refine rd_or ?_ | with_reducible refine rd_not ?_ | with_reducible refine rd_andv ?_ | with_reducible refine rd_orv ?_ | with_reducible refine rd_notv ?_ | with_reducible refine rd_if ?_ | with_reducible refine rd_nx ?_ | with_reducible refine rd_retn ?_ | with_reducible refine rd_par ?_ | with_reducible refine rd_par3 ?_ | with_reducible refine rd_tup ?_ | with_reducible refine rd_lst ?_ | with_reducible refine rd_call ?_ | with_reducible refine rd_meth ?_ | with_reducible refine rd_make ?_ | with_reducible refine rd_fld ?_ | with_reducible refine rd_sfld ?_ | with_reducible refine rd_bm ?_ | with_reducible refine rd_bm0 ?_ | with_reducible refine rd_prop ?_ | with_reducible refine rd_dget ?_ | with_reducible refine rd_dnin ?_ | with_reducible refine rd_chain ?_ | with_reducible refine rd_sub ?_ | with_reducible refine rd_un ?_ | with_reducible refine rd_fl ?_ | with_reducible refine rd_ft ?_ | with_reducible refine rd_fr ?_ | with_reducible refine rd_fd ?_ | with_reducible refine rd_fe ?_ | with_reducible refine rd_ll ?_ | with_reducible refine rd_le ?_ | with_reducible refine rd_yes ?_ | with_reducible refine rd_dg2 ?_ | with_reducible refine rd_calld ?_ | with_reducible refine rd_lt ?_ | with_reducible refine rd_rev ?_ | with_reducible refine rd_sl ?_ | with_reducible refine rd_thru ?_ | with_reducible refine kb_go ?_ | with_reducible refine kpar_go ?_ | with_reducible refine kpar3_go ?_ | with_reducible refine ri0_go ?_ | with_reducible refine ru_go ?_ | ((with_reducible refine ifT ?hift ?_); (case hift => exact rfl)) | ((with_reducible refine ifF ?hiff ?_); (case hiff => exact rfl))))
local macro_rules | `(tactic| walk_at "dt") => `(tactic| first | refine ifT (by decide +kernel) ?_ | ((refine ifT ?hdt ?_); (case hdt => exact decide_eq_true (by omega))))
local macro_rules | `(tactic| walk_at "df") => `(tactic| first | refine ifF (by decide +kernel) ?_ | ((refine ifF ?hdf ?_); (case hdf => exact decide_eq_false (by omega))))

def lwL : List (Key × V) := [(.inr "fun", .int 1), (.inr "call", .int 2), (.inr "both", .int 2), (.inr "first", .int 1), (.inr "second", .int 1), (.inr "left", .int 1), (.inr "right", .int 1), (.inr "which", .int 3), (.inr "next", .int 1), (.inr "turns", .int 3), (.inr "let", .int 2)]
theorem lw_get (n : Nd) : (valV (mergeK [] lwL) (.inr n.w)).getD (.int 0) = .int (n.bn.length : Nat) := by
  cases n with
  | name i => exact (by decide +kernel : (valV (mergeK [] lwL) (.inr ("name" : Str))).getD (.int 0) = .int 0)
  | told i => exact (by decide +kernel : (valV (mergeK [] lwL) (.inr ("told" : Str))).getD (.int 0) = .int 0)
  | knd t k => cases t <;> first | exact (by decide +kernel : (valV (mergeK [] lwL) (.inr Nk.fn.w)).getD (.int 0) = .int 1) | exact (by decide +kernel : (valV (mergeK [] lwL) (.inr Nk.left.w)).getD (.int 0) = .int 1) | exact (by decide +kernel : (valV (mergeK [] lwL) (.inr Nk.right.w)).getD (.int 0) = .int 1) | exact (by decide +kernel : (valV (mergeK [] lwL) (.inr Nk.turns.w)).getD (.int 0) = .int 3)
  | wd t => cases t <;> decide +kernel
/-- trees one behind another -/
def Tk (K : PySem.W.Frag) (H : Hp) : List V → Nat → List Tm → Prop
  | [], _, [] => True
  | v :: vs, q, t :: F => TrAt K H v q t ∧ Tk K H vs (q + t.size) F
  | _, _, _ => False
section
variable {K : PySem.W.Frag} {H H1 : Hp}
theorem Tk.mono (e : Same H H1) : ∀ {vs : List V} {q : Nat} {F : List Tm}, Tk K H vs q F → Tk K H1 vs q F
  | [], _, [], _ => True.intro
  | v :: vs, q, t :: F, h => ⟨h.1.mono e, Tk.mono e h.2⟩
  | [], _, _ :: _, h => h.elim
  | _ :: _, _, [], h => h.elim
theorem Tk.app : ∀ {vs : List V} {q : Nat} {F : List Tm} {v : V} {t : Tm}, Tk K H vs q F → TrAt K H v (q + szl F) t → Tk K H (vs ++ [v]) q (F ++ [t])
  | [], q, [], v, t, _, h => ⟨h, True.intro⟩
  | u :: vs, q, s :: F, v, t, h, g => ⟨h.1, Tk.app h.2 (by rw [show q + s.size + szl F = q + szl (s :: F) by show _ = q + (s.size + szl F); omega]; exact g)⟩
  | [], _, _ :: _, _, _, h, _ => h.elim
  | _ :: _, _, [], _, _, h, _ => h.elim
theorem Tk.len : ∀ {vs : List V} {q : Nat} {F : List Tm}, Tk K H vs q F → vs.length = F.length
  | [], _, [], _ => rfl
  | v :: vs, q, t :: F, h => congrArg Nat.succ (Tk.len h.2)
  | [], _, _ :: _, h => h.elim
  | _ :: _, _, [], h => h.elim
theorem Tk.tree {b l : Addr} {v : V} {p : Nat} {t : Tm} {vs : List V} (h1 : SqT K H b [v, .int p, .ref l]) (h2 : NdAt K H v t.node) (h3 : SqL K H l vs) (h4 : Tk K H vs (p + 1) t.kids) : TrAt K H (.ref b) p t := by
  cases t with
  | n0 a =>
    cases vs with
    | nil => exact .n0 h1 h2 h3
    | cons _ _ => exact h4.elim
  | n1 a x =>
    cases vs with
    | nil => exact h4.elim
    | cons v1 vs =>
      cases vs with
      | nil => exact .n1 h1 h2 h3 h4.1
      | cons _ _ => exact h4.2.elim
  | n2 a x y =>
    cases vs with
    | nil => exact h4.elim
    | cons v1 vs =>
      cases vs with
      | nil => exact h4.2.elim
      | cons v2 vs =>
        cases vs with
        | nil => exact .n2 h1 h2 h3 h4.1 h4.2.1
        | cons _ _ => exact h4.2.2.elim
  | n3 a x y z =>
    cases vs with
    | nil => exact h4.elim
    | cons v1 vs =>
      cases vs with
      | nil => exact h4.2.elim
      | cons v2 vs =>
        cases vs with
        | nil => exact h4.2.2.elim
        | cons v3 vs =>
          cases vs with
          | nil => exact .n3 h1 h2 h3 h4.1 h4.2.1 h4.2.2.1
          | cons _ _ => exact h4.2.2.2.elim
theorem hid_sub {S T : Addr → Prop} (h : ∀ b, S b → T b) : Same (hid T H) (hid S H) := fun b o e => by
  obtain ⟨e1, n⟩ := of_hid e
  exact hid_at e1 fun z => n (h b z)
end
def ntS (H : Hp) (X : Addr → Prop) : Prop := ∀ b, X b → ∃ o, H b = some o ∧ NT o
theorem ntS.tp {H H1 : Hp} {X : Addr → Prop} (h : ntS H X) (s : Same H H1) : TpS H1 (hid X H1) :=
  ⟨fun p xs e => hid_at e fun z => by
    obtain ⟨o, e1, n⟩ := h p z
    rw [s _ _ e1] at e
    cases e
    exact n.1 _ rfl, fun p o xs e => hid_at e fun z => by
    obtain ⟨o2, e1, n⟩ := h p z
    rw [s _ _ e1] at e
    cases e
    exact n.2 _ _ rfl⟩
theorem fa_take {Z : Tm} : ∀ (F : List Tm) (p : Nat) (r : List Tm) (j : Nat), fa p [Z] = F ++ r → fa (p + szl (F.take j)) [Z] = F.drop j ++ r
  | [], p, r, j, h => by rw [List.take_nil, List.drop_nil]; exact h
  | t :: F, p, r, 0, h => h
  | t :: F, p, r, j + 1, h => by
    have h1 := fa_take F (p + t.size) r j (fa_next (r := F ++ r) h)
    show fa (p + (t.size + szl (F.take j))) [Z] = F.drop j ++ r
    rw [← Nat.add_assoc]
    exact h1
theorem kid_at {Z t : Tm} {p j : Nat} (h : At Z p t) (hj : j < t.kids.length) : At Z (p + 1 + szl (t.kids.take j)) t.kids[j] := by
  obtain ⟨r, h⟩ := h
  have h1 := fa_take t.kids (p + 1) r j (fa_step h)
  rw [List.drop_eq_getElem_cons hj] at h1
  exact ⟨_, h1⟩
theorem szl_take : ∀ (F : List Tm) (j : Nat) (hj : j < F.length), szl (F.take (j + 1)) = szl (F.take j) + F[j].size
  | t :: F, 0, _ => by show t.size + 0 = 0 + t.size; omega
  | t :: F, j + 1, hj => by
    have hj2 : j < F.length := by simpa using hj
    have := szl_take F j hj2
    show t.size + szl (F.take (j + 1)) = t.size + szl (F.take j) + F[j].size
    omega
theorem szl_mem : ∀ (F : List Tm) (j : Nat) (hj : j < F.length), F[j].size ≤ szl F
  | t :: F, 0, _ => by show t.size ≤ t.size + szl F; omega
  | t :: F, j + 1, hj => by
    have hj2 : j < F.length := by simpa using hj
    have := szl_mem F j hj2
    show F[j].size ≤ t.size + szl F
    omega
section
variable {P : Program} {w : World} {K : PySem.W.Frag} {mg : Str → Option Value} {base : Heap}
def sp_law_tree (K : PySem.W.Frag) (n : Nat) : Sp := fun vs H Q _ => ∃ (l : Addr) (Z t : Tm) (p : Nat), vs = [.ref l, .int p] ∧ NlAt K H l Z ∧ At Z p t ∧ Z.ok ∧ t.size ≤ n ∧
  ∀ r tv H1, Same H H1 → H1 r = some (.tup [tv, .int ((p + t.size : Nat) : Int)]) → (∀ X, ntS H X → TrAt K (hid X H1) tv p t) → Q (.ref r) H1
theorem ok_law_tree (T : Tx w K mg) : ∀ n : Nat, OkF P w K mg base (n + 1) (ga K "_law_tree") ["_law_term_here", "_law_at"] (sp_law_tree K n)
  | 0 => by
    refine okF T.f_law_tree rfl sc_law_tree b_law_tree (fun vs H Q E h => by obtain ⟨_, _, _, _, rfl, _⟩ := h; rfl) (fun cdv A outer s H vs Q E hr h => ?_)
    obtain ⟨l, Z, t, p, rfl, _, _, _, hs, _⟩ := h
    exact absurd t.size_pos (by omega)
  | n + 1 => by
    have G_law_tree := ok_law_tree T n
    refine okF T.f_law_tree rfl sc_law_tree b_law_tree (fun vs H Q E h => by obtain ⟨_, _, _, _, rfl, _⟩ := h; rfl) (fun cdv A outer s H vs Q E hr h => ?_)
    obtain ⟨l, Z, t, p, rfl, hN, ht, hZ, hs, q⟩ := h
    have hu1 : (A.deeper (PyProof.Rows.envOfC d_law_tree.ql (defScope d_law_tree.st) s.heap.objs.size (d_law_tree.loc K) cdv)).units + 1 < cLine := by have := hu64 hr; omega
    refine ⟨_, (pss_cons (ps_set (i := 2) sc_law_tree.nd rfl (Or.inl rfl) (pe_ix ix_list (pv 0) (pv 1) (fun _ _ => rfl)))
      (pss_cons (ps_set (i := 3) sc_law_tree.nd rfl (Or.inl rfl) (pe_dget2 hu1 (pe_disp (pps_cons pe_str pe_int (pps_cons pe_str pe_int (pps_cons pe_str pe_int (pps_cons pe_str pe_int (pps_cons pe_str pe_int (pps_cons pe_str pe_int (pps_cons pe_str pe_int (pps_cons pe_str pe_int (pps_cons pe_str pe_int (pps_cons pe_str pe_int (pps_cons pe_str pe_int pps_nil))))))))))) (by rfl) (by rfl) (fun z => by cases z) (by decide)) (pe_ix ix_tup (pv 2) pe_int (fun _ _ => rfl)) pe_int ⟨by rfl, by rfl, by rfl, by rfl⟩))
      (pss_cons (ps_par (i := 4) (j := 5) (by rfl) sc_law_tree.nd rfl rfl (by decide) rfl rfl (pa_cons (pe_lst pa_nil) (pa_cons (pe_op op_add (pv 1) pe_int) pa_nil)) (by rfl))
      (pss_cons (ps_for PassesOwn.never rfl (pi_range1 (by rfl) T.n_range (pa_cons (pv 3) pa_nil)) (pg_name (i := 6) sc_law_tree.nd rfl (Or.inl rfl)) (pss_cons (ps_asg (pe_f G_law_tree T.g_law_tree hr (pa_cons (pv 0) (pa_cons (pv 5) pa_nil))) (pg_tup (by rfl) (pgs_cons (pg_name (i := 7) sc_law_tree.nd rfl (Or.inl rfl)) (pgs_cons (pg_name (i := 5) sc_law_tree.nd rfl (Or.inl rfl)) pgs_nil))))
      (pss_one (ps_expr (pe_bm PySem.F.plainAttrs_list PySem.F.slot_list_append PySem.F.type_list_append mt_append (pv 4) (pa_cons (pv 7) pa_nil))))))
      (pss_one (ps_ret (pe_tup (pa_cons (pe_tup (pa_cons (pv 2) (pa_cons (pv 1) (pa_cons (pv 4) pa_nil)))) (pa_cons (pv 5) pa_nil))))))))), ?_⟩
    obtain ⟨vs, hS, hA⟩ := id hN
    obtain ⟨v, hv, hnd⟩ := hA.get ht.node
    obtain ⟨nb, xs, rfl, hT, _⟩ := id hnd.tup
    have hko := t.ok_kids (ht.ok hZ)
    have hszk := t.size_eq
    walk_at "rd"
    refine ixl_go (sqL_of hS) (atI_nat hv) ?_
    walk_at "rd"
    refine fun dd hd => ?_
    refine ⟨upd_same, lwL, rfl, by decide, ?_⟩
    have s1 : Same H (upd (upd H dd (.dK [])) dd (.dK (mergeK [] lwL))) := same_mut (same_upd hd) hd
    have hd1 : (upd (upd H dd (.dK [])) dd (.dK (mergeK [] lwL))) dd = some (.dK (mergeK [] lwL)) := upd_same
    generalize upd (upd H dd (.dK [])) dd (.dK (mergeK [] lwL)) = H1 at s1 hd1 ⊢
    refine ⟨dd, rfl, .inl ⟨_, .inl hd1⟩, ?_⟩
    walk_at "rd"
    refine ixt_go (Same.sqt s1 hT) at0 ?_
    walk_at "rd"
    refine ⟨_, DGet.k (k := .inr t.node.w) hd1, ?_⟩
    rw [lw_get]
    walk_at "rd"
    refine kln_go len_ok fun kl H2 hkl s2 e2 => ?_
    have s12 := s1.trans s2
    walk_at "rd"
    have klH : H kl = none := s1.free hkl
    refine fr_go (n := t.node.bn.length) (by have := bn_le3 t.node; omega) (fun i σ H' => ∃ (us : List V) (x6 x7 : Option V), σ = [some (.ref l), some (.int p), some (.ref nb), some (.int (t.node.bn.length : Nat)), some (.ref kl), some (iv (p + 1 + szl (t.kids.take i))), x6, x7] ∧
      Same H H' ∧ H' kl = some (.lst us) ∧ us.length = i ∧ ∀ X, ntS H X → Tk K (hid (fun b => X b ∨ b = kl) H') us (p + 1) (t.kids.take i)) ⟨[], none, none, rfl, s12, e2, rfl, fun X hX => by rw [List.take_zero]; exact True.intro⟩ ?_ ?_
    · rintro i σ H' hi ⟨us, x6, x7, rfl, s', e', hul, htk⟩
      have hik : i < t.kids.length := by rw [← hko.1]; exact hi
      have hsz : t.kids[i].size ≤ n := by
        have := szl_mem t.kids i hik
        omega
      walk_at "rd"
      refine ⟨l, Z, t.kids[i], p + 1 + szl (t.kids.take i), rfl, hN.mono s', kid_at ht hik, hZ, hsz, fun r tv H3 s3 e3 htr => ?_⟩
      refine gt2_go (sqT_of e3) ?_
      walk_at "rd"
      refine kbm_go (s3 _ _ e') ?_
      walk_at "rd"
      refine app_go (s3 _ _ e') (by have := bn_le3 t.node; omega) ?_
      walk_at "rd"
      refine ⟨us ++ [tv], some (.int i), some tv, ?_, same_mut (s'.trans s3) klH, upd_same, by rw [List.length_append, hul]; rfl, fun X hX => ?_⟩
      · rw [szl_take _ _ hik, ← Nat.add_assoc]
        rfl
      · have hX' : ntS H' (fun b => X b ∨ b = kl) := fun b hb => by
          rcases hb with hb | rfl
          · obtain ⟨o, e, n⟩ := hX b hb
            exact ⟨o, s' _ _ e, n⟩
          · exact ⟨_, e', ⟨(fun xs z => by cases z), (fun y xs z => by cases z)⟩⟩
        have sm : Same (hid (fun b => X b ∨ b = kl) H3) (hid (fun b => X b ∨ b = kl) (upd H3 kl (.lst (us ++ [tv])))) := (Kp.mut (S := fun b => X b ∨ b = kl) (.inr rfl)).hid
        rw [List.take_succ, List.getElem?_eq_getElem hik]
        exact Tk.app ((htk X hX).mono ((Kp.same s3).hid.trans sm)) ((htr _ hX').mono sm)
    · rintro σ H' ⟨us, x6, x7, rfl, s', e', hul, htk⟩
      walk_at "rd"
      refine ktn_go len_ok fun b H3 _ s3 e3 => ?_
      walk_at "rd"
      refine ktn_go len_ok fun r H4 _ s4 e4 => ?_
      have s34 := s3.trans s4
      have hfull : t.kids.take t.node.bn.length = t.kids := List.take_of_length_le (by rw [hko.1]; exact Nat.le_refl _)
      rw [hfull] at e4 htk
      refine q r (.ref b) H4 (s'.trans s34) (by rw [e4, show p + t.size = p + 1 + szl t.kids by omega]; rfl) fun X hX => ?_
      have s04 := s'.trans s34
      have tp := hX.tp s04
      have nkl : ¬ X kl := fun z => by
        obtain ⟨o, e, _⟩ := hX kl z
        rw [klH] at e
        cases e
      exact Tk.tree (tp.sqt (Same.sqt s4 (sqT_of e3))) ((hnd.mono s04).tp tp) (sqL_of (hid_at (s34 _ _ e') nkl)) ((htk X hX).mono ((Kp.same s34).hid.trans (hid_sub fun b hb => .inl hb)))
end
end K42

/-! KL6t -/
/-! the law: runs -/
namespace K42
open PySem PySem.Spec L2 He
local macro_rules | `(tactic| walk_at "rd") => `(tactic| repeat (first | ((with_reducible refine' rd_var ?hvar ?_); (case hvar => exact rfl)) | with_reducible refine rd_seq ?_ | with_reducible refine rd_asg ?_ | with_reducible refine rd_ret ?_ | with_reducible refine rd_drop ?_ | with_reducible refine rd_ifs ?_ | with_reducible refine rd_name ?_ | with_reducible refine rd_c ?_ | with_reducible refine rd_cons ?_ | with_reducible refine rd_nil ?_ | with_reducible refine rd_cb ?_ | with_reducible refine rd_op ?_ | with_reducible refine rd_test ?_ | with_reducible refine rd_tb ?_ | with_reducible refine rd_and ?_ | with_reducible refine rd_or ?_ | with_reducible refine rd_not ?_ | with_reducible refine rd_andv ?_ | with_reducible refine rd_orv ?_ | with_reducible refine rd_notv ?_ | with_reducible refine rd_if ?_ | with_reducible refine rd_nx ?_ | with_reducible refine rd_retn ?_ | with_reducible refine rd_par ?_ | with_reducible refine rd_par3 ?_ | with_reducible refine rd_tup ?_ | with_reducible refine rd_lst ?_ | with_reducible refine rd_call ?_ | with_reducible refine rd_meth ?_ | with_reducible refine rd_make ?_ | with_reducible refine rd_fld ?_ | with_reducible refine rd_sfld ?_ | with_reducible refine rd_bm ?_ | with_reducible refine rd_bm0 ?_ | with_reducible refine rd_prop ?_ | with_reducible refine rd_dget ?_ | with_reducible refine rd_dnin ?_ | with_reducible refine rd_chain ?_ | with_reducible refine rd_sub ?_ | with_reducible refine rd_un ?_ | with_reducible refine rd_fl ?_ | with_reducible refine rd_ft ?_ | with_reducible refine rd_fr ?_ | with_reducible refine rd_fd ?_ | with_reducible refine rd_fe ?_ | with_reducible refine rd_ll ?_ | with_reducible refine rd_le ?_ | with_reducible refine rd_yes ?_ | with_reducible refine rd_dg2 ?_ | with_reducible refine rd_calld ?_ | with_reducible refine rd_lt ?_ | with_reducible refine rd_rev ?_ | with_reducible refine rd_sl ?_ | with_reducible refine rd_thru ?_ | with_reducible refine kb_go ?_ | with_reducible refine kpar_go ?_ | with_reducible refine kpar3_go ?_ | with_reducible refine ri0_go ?_ | with_reducible refine ru_go ?_ | ((with_reducible refine ifT ?hift ?_); (case hift => exact rfl)) | ((with_reducible refine ifF ?hiff ?_); (case hiff => exact rfl))))
local macro_rules | `(tactic| walk_at "dt") => `(tactic| first | refine ifT (by decide +kernel) ?_ | ((refine ifT ?hdt ?_); (case hdt => exact decide_eq_true (by omega))))
local macro_rules | `(tactic| walk_at "df") => `(tactic| first | refine ifF (by decide +kernel) ?_ | ((refine ifF ?hdf ?_); (case hdf => exact decide_eq_false (by omega))))

/-- a worth, a row of worths, as the law has them; rows are short -/
inductive LvAt (K : PySem.W.Frag) (H : Hp) : V → Sum W (List W) → Prop where
  | int {n : Nat} : LvAt K H (.int n) (.inl (.int n))
  | both {a : Addr} {x y : V} {u v : W} : SqT K H a [.str "both", x, y] → LvAt K H x (.inl u) → LvAt K H y (.inl v) → LvAt K H (.ref a) (.inl (.both u v))
  | left {a : Addr} {x : V} {u : W} : SqT K H a [.str "left", x] → LvAt K H x (.inl u) → LvAt K H (.ref a) (.inl (.left u))
  | right {a : Addr} {x : V} {u : W} : SqT K H a [.str "right", x] → LvAt K H x (.inl u) → LvAt K H (.ref a) (.inl (.right u))
  | made {a : Addr} {x y : V} {p : Nat} {k : Kd} {b : Tm} {r : List W} : SqT K H a [.str "made", x, y] → TrAt K H x p (.n1 (.knd .fn k) b) → r.length + 1 + b.size < 1000 → LvAt K H y (.inr r) → LvAt K H (.ref a) (.inl (.made p k b r))
  | row {a : Addr} {vs : List V} {r : List W} : H a = some (.lst vs) → vs.length = r.length → (∀ (i : Nat) (v : V) (w : W), vs[i]? = some v → r[i]? = some w → LvAt K H v (.inl w)) → LvAt K H (.ref a) (.inr r)
theorem LvAt.mono {K : PySem.W.Frag} {H H1 : Hp} (e : Same H H1) {v : V} {w : Sum W (List W)} (h : LvAt K H v w) : LvAt K H1 v w := by
  induction h with
  | int => exact .int
  | both h _ _ i1 i2 => exact .both (Same.sqt e h) i1 i2
  | left h _ i1 => exact .left (Same.sqt e h) i1
  | right h _ i1 => exact .right (Same.sqt e h) i1
  | made h t z _ i1 => exact .made (Same.sqt e h) (t.mono e) z i1
  | row h l _ i1 => exact .row (e _ _ h) l i1
theorem LvAt.dw {K : PySem.W.Frag} {H : Hp} {v : V} {w : W} (h : LvAt K H v (.inl w)) (d : Dw w) : DwAt K H v w := by
  induction d generalizing v with
  | int => cases h; exact .int
  | both _ _ i1 i2 =>
    cases h with
    | both hS h1 h2 => exact .both hS (i1 h1) (i2 h2)
  | left _ i1 =>
    cases h with
    | left hS h1 => exact .left hS (i1 h1)
  | right _ i1 =>
    cases h with
    | right hS h1 => exact .right hS (i1 h1)
/-- what stands but the list of calls -/
noncomputable def Hc (cl : Addr) (H : Hp) : Hp := hid (fun b => b = cl) H
/-- one worth more in a row -/
theorem cat_rw {K : PySem.W.Frag} {H : Hp} {cl a b : Addr} {v : V} {x : W} {r : List W} {Q : VK} (h : H a = some (.lst [v])) (hv : LvAt K (Hc cl H) v (.inl x)) (g : LvAt K (Hc cl H) (.ref b) (.inr r)) (hz : r.length < 1000)
    (q : ∀ p H1, Same H H1 → LvAt K (Hc cl H1) (.ref p) (.inr (x :: r)) → Q (.ref p) H1) (hcl : ∃ o, H cl = some o) : rCat (.ref a) (.ref b) H Q := by
  cases g with
  | @row _ zs _ g1 g2 g3 =>
    refine ⟨a, b, [v], zs, rfl, rfl, h, (of_hid g1).1, line_ge (by rw [g2]; simp; omega), fun p hp => ?_⟩
    have s := same_upd (o := .lst ([v] ++ zs)) hp
    have sc : Same (Hc cl H) (Hc cl (upd H p (.lst ([v] ++ zs)))) := (Kp.same s).hid
    have npc : p ≠ cl := fun z => by
      obtain ⟨o, e⟩ := hcl
      rw [← z, hp] at e
      cases e
    refine q p _ s (.row (hid_at upd_same npc) (by simp [g2]) fun i u y h1 h2 => ?_)
    cases i with
    | zero =>
      have e1 : v = u := by simpa using h1
      have e2 : x = y := by simpa using h2
      subst e1 e2
      exact hv.mono sc
    | succ i => exact (g3 i u y (by simpa using h1) (by simpa using h2)).mono sc
section
variable {P : Program} {w : World} {K : PySem.W.Frag} {mg : Str → Option Value} {base : Heap}
def sp_law_run (K : PySem.W.Frag) (n : Nat) : Sp := fun vs H Q _ => ∃ (tv : V) (rw cl : Addr) (p : Nat) (t : Tm) (r : List W) (cs0 cs : List Nat) (x : W), vs = [tv, .ref rw, .ref cl] ∧ TrAt K (Hc cl H) tv p t ∧ LvAt K (Hc cl H) (.ref rw) (.inr r) ∧ H cl = some (.lst (cs0.map iv)) ∧
  cs0.length + cs.length ≤ 2000000 ∧ r.length + t.size < 1000 ∧ ev n r p t = some (x, cs) ∧ ∀ v H1, Kp (fun b => b = cl) H H1 → LvAt K (Hc cl H1) v (.inl x) → H1 cl = some (.lst ((cs0 ++ cs).map iv)) → Q v H1
def sp_law_called (K : PySem.W.Frag) (n : Nat) : Sp := fun vs H Q _ => ∃ (m : Nat) (mv av : V) (cl : Addr) (q : Nat) (k : Kd) (b : Tm) (r : List W) (a : W) (cs0 cs : List Nat) (x : W), n = m + 1 ∧ vs = [mv, av, .ref cl] ∧ LvAt K (Hc cl H) mv (.inl (.made q k b r)) ∧ LvAt K (Hc cl H) av (.inl a) ∧ H cl = some (.lst (cs0.map iv)) ∧
  cs0.length + 1 + cs.length ≤ 2000000 ∧ ev m (a :: r) (q + 1) b = some (x, cs) ∧ ∀ v H1, Kp (fun b => b = cl) H H1 → LvAt K (Hc cl H1) v (.inl x) → H1 cl = some (.lst ((cs0 ++ q :: cs).map iv)) → Q v H1
/-- one call more noted -/
theorem app_cl {K : PySem.W.Frag} {H : Hp} {cl : Addr} {cs0 : List Nat} {p : Nat} {Q : VK} (h : H cl = some (.lst (cs0.map iv))) (hz : cs0.length ≤ 2000000) (q : ∀ H1, Kp (fun b => b = cl) H H1 → H1 cl = some (.lst ((cs0 ++ [p]).map iv)) → Q .non H1) : rAppend (.ref cl) [.int p] H Q := by
  refine app_goW h (by rw [List.length_map]; exact Nat.lt_of_le_of_lt hz (by decide)) (q _ (Kp.mut rfl) ?_)
  rw [upd_same, List.map_append]
  rfl
theorem ok_law_called (T : Tx w K mg) (n : Nat) (hh : ∀ m, n = m + 1 → OkF P w K mg base (m + 1) (ga K "_law_run") ["_law_tree_here", "_law_row", "_law_calls"] (sp_law_run K m)) : OkF P w K mg base (n + 1) (ga K "_law_called") ["_law_made", "_law_given", "_law_calls"] (sp_law_called K n) := by
  cases n with
  | zero =>
    refine okF T.f_law_called rfl sc_law_called b_law_called (fun vs H Q E h => by obtain ⟨m, _, _, _, _, _, _, _, _, _, _, _, e, _⟩ := h; omega) (fun cdv A outer s H vs Q E hr h => ?_)
    obtain ⟨m, _, _, _, _, _, _, _, _, _, _, _, e, _⟩ := h
    omega
  | succ m =>
    have G_law_run := hh m rfl
    refine okF T.f_law_called rfl sc_law_called b_law_called (fun vs H Q E h => by obtain ⟨_, _, _, _, _, _, _, _, _, _, _, _, _, rfl, _⟩ := h; rfl) (fun cdv A outer s H vs Q E hr h => ?_)
    obtain ⟨m2, mv, av, cl, q0, k, b, r, a, cs0, cs, x, e, rfl, hm, ha, hcl, hz, hev, q⟩ := h
    have e2 : m = m2 := by omega
    subst e2
    refine ⟨_, (pss_cons (ps_asg (pe_ix ix_tup (pv 0) pe_int (fun _ _ => rfl)) (pg_tup (by rfl) (pgs_cons (pg_name (i := 3) sc_law_called.nd rfl (Or.inl rfl)) (pgs_cons (pg_name (i := 4) sc_law_called.nd rfl (Or.inl rfl)) (pgs_cons (pg_name (i := 5) sc_law_called.nd rfl (Or.inl rfl)) pgs_nil)))))
      (pss_cons (ps_expr (pe_bm PySem.F.plainAttrs_list PySem.F.slot_list_append PySem.F.type_list_append mt_append (pv 2) (pa_cons (pv 4) pa_nil)))
      (pss_one (ps_ret (pe_f G_law_run T.g_law_run hr (pa_cons (pe_ix ix_list (pv 5) pe_int (fun _ _ => rfl)) (pa_cons (pe_op op_cat (pe_lst (pa_cons (pv 1) pa_nil)) (pe_ix ix_tup (pv 0) pe_int (fun _ _ => rfl))) (pa_cons (pv 2) pa_nil)))))))), ?_⟩
    walk_at "rd"
    cases hm with
    | @made _ tv rv _ _ _ _ hS hT hb hR =>
      have hS0 := Same.sqt hid_le hS
      refine ixt_go hS0 at1 ?_
      walk_at "rd"
      cases hT with
      | n1 hT1 hT2 hT3 hT4 =>
        refine gt3_go (Same.sqt hid_le hT1) ?_
        walk_at "rd"
        refine kbm_go hcl ?_
        walk_at "rd"
        refine app_cl (K := K) hcl (by omega) fun H1 k1 hcl1 => ?_
        have sc : Same (Hc cl H) (Hc cl H1) := k1.hid
        walk_at "rd"
        refine ixl_go ((hid_le.trans (Same.refl _)).seq (sc.seq hT3)) at0 ?_
        walk_at "rd"
        refine kln_go len_ok fun l H2 hl s2 e2 => ?_
        have sc2 : Same (Hc cl H) (Hc cl H2) := sc.trans (Kp.same s2).hid
        walk_at "rd"
        refine ixt_go (Same.sqt hid_le (Same.sqt sc2 hS)) at2 ?_
        walk_at "rd"
        have nr : ∃ ra, rv = .ref ra := by cases hR; exact ⟨_, rfl⟩
        obtain ⟨ra, rfl⟩ := nr
        have hcl2 := s2 _ _ hcl1
        refine cat_rw (cl := cl) e2 (ha.mono sc2) (hR.mono sc2) (by omega) (fun p H3 s3 h3 => ?_) ⟨_, hcl2⟩
        walk_at "rd"
        have sc3 : Same (Hc cl H) (Hc cl H3) := sc2.trans (Kp.same s3).hid
        refine ⟨_, p, cl, q0 + 1, b, a :: r, cs0 ++ [q0], cs, x, rfl, hT4.mono sc3, h3, s3 _ _ hcl2, by rw [List.length_append]; exact hz, by rw [List.length_cons]; omega, hev, fun v H4 k4 hv hcl4 => ?_⟩
        refine q v H4 (k1.trans ((Kp.same (s2.trans s3)).trans k4)) hv ?_
        rw [hcl4, List.append_assoc]
        rfl
theorem iter_len {f : W → Option (W × List Nat)} {p : Nat} : ∀ (k : Nat) (a x : W) (cs : List Nat), iter f p k a = some (x, cs) → k ≤ cs.length
  | 0, a, x, cs, _ => Nat.zero_le _
  | k + 1, a, x, cs, e => by
    unfold iter at e
    split at e
    · rename_i w1 c1 e1
      split at e
      · rename_i w2 c2 e2
        cases e
        have := iter_len k _ _ _ e2
        rw [List.length_cons, List.length_append]
        omega
      · cases e
    · cases e
theorem ok_law_run (T : Tx w K mg) (n : Nat) : OkF P w K mg base (n + 1) (ga K "_law_run") ["_law_tree_here", "_law_row", "_law_calls"] (sp_law_run K n) := by
  induction n using Nat.strongRecOn with
  | _ n ih =>
    cases n with
    | zero =>
      refine okF T.f_law_run rfl sc_law_run b_law_run (fun vs H Q E h => by obtain ⟨_, _, _, _, _, _, _, _, _, rfl, _⟩ := h; rfl) (fun cdv A outer s H vs Q E hr h => ?_)
      obtain ⟨_, _, _, _, _, _, _, _, _, rfl, _, _, _, _, _, e, _⟩ := h
      cases e
    | succ n =>
      have G_law_run := ih n (Nat.lt_succ_self n)
      have G_law_called := ok_law_called (P := P) (base := base) T n (fun m e => ih m (by omega))
      refine okF T.f_law_run rfl sc_law_run b_law_run (fun vs H Q E h => by obtain ⟨_, _, _, _, _, _, _, _, _, rfl, _⟩ := h; rfl) (fun cdv A outer s H vs Q E hr h => ?_)
      obtain ⟨tv, rw, cl, p, t, r, cs0, cs, x, rfl, hT, hR, hcl, hz, hs, hev, q⟩ := h
      refine ⟨_, (pss_cons (ps_asg (pv 0) (pg_tup (by rfl) (pgs_cons (pg_name (i := 3) sc_law_run.nd rfl (Or.inl rfl)) (pgs_cons (pg_name (i := 4) sc_law_run.nd rfl (Or.inl rfl)) (pgs_cons (pg_name (i := 5) sc_law_run.nd rfl (Or.inl rfl)) pgs_nil)))))
      (pss_cons (ps_set (i := 6) sc_law_run.nd rfl (Or.inl rfl) (pe_ix ix_tup (pv 3) pe_int (fun _ _ => rfl)))
      (pss_cons (ps_if (pt_cmpR op_in_seq (pv 6) (pe_tup (pa_cons pe_str (pa_cons pe_str pa_nil))) (by rfl)) (pss_one (ps_ret (pe_ifExp (pt_cmpR op_eq (pv 6) pe_str (nomark _)) (pe_ix ix_list (pv 1) (pe_ix ix_tup (pv 3) pe_int (fun _ _ => rfl)) (fun _ _ => rfl)) (pe_ix ix_tup (pv 3) pe_int (fun _ _ => rfl))))) pss_nil)
      (pss_cons (ps_if (pt_cmpR op_eq (pv 6) pe_str (nomark _)) (pss_one (ps_ret (pe_tup (pa_cons pe_str (pa_cons (pv 0) (pa_cons (pv 1) pa_nil)))))) pss_nil)
      (pss_cons (ps_set (i := 7) sc_law_run.nd rfl (Or.inl rfl) (pe_f G_law_run T.g_law_run hr (pa_cons (pe_ix ix_list (pv 5) pe_int (fun _ _ => rfl)) (pa_cons (pv 1) (pa_cons (pv 2) pa_nil)))))
      (pss_cons (ps_if (pt_cmpR op_eq (pv 6) pe_str (nomark _)) (pss_one (ps_ret (pe_callB (call_min2 rfl) (by rfl) T.n_min (by decide +kernel) (pa_cons (pe_op op_add (pv 7) pe_int) (pa_cons pe_int pa_nil))))) pss_nil)
      (pss_cons (ps_if (pt_cmpR op_in_seq (pv 6) (pe_tup (pa_cons pe_str (pa_cons pe_str pa_nil))) (by rfl)) (pss_one (ps_ret (pe_ifExp (pt_cmpR op_eq (pv 6) pe_str (nomark _)) (pe_ix ix_tup (pv 7) pe_int (fun _ _ => rfl)) (pe_ix ix_tup (pv 7) pe_int (fun _ _ => rfl))))) pss_nil)
      (pss_cons (ps_if (pt_cmpR op_in_seq (pv 6) (pe_tup (pa_cons pe_str (pa_cons pe_str pa_nil))) (by rfl)) (pss_one (ps_ret (pe_tup (pa_cons (pv 6) (pa_cons (pv 7) pa_nil))))) pss_nil)
      (pss_cons (ps_if (pt_cmpR op_eq (pv 6) pe_str (nomark _)) (pss_cons (ps_expr (pe_bm PySem.F.plainAttrs_list PySem.F.slot_list_append PySem.F.type_list_append mt_append (pv 2) (pa_cons (pv 4) pa_nil)))
      (pss_one (ps_ret (pe_f G_law_run T.g_law_run hr (pa_cons (pe_ix ix_list (pv 5) pe_int (fun _ _ => rfl)) (pa_cons (pe_op op_cat (pe_lst (pa_cons (pv 7) pa_nil)) (pv 1)) (pa_cons (pv 2) pa_nil))))))) pss_nil)
      (pss_cons (ps_if (pt_cmpR op_eq (pv 6) pe_str (nomark _)) (pss_cons (ps_expr (pe_bm PySem.F.plainAttrs_list PySem.F.slot_list_append PySem.F.type_list_append mt_append (pv 2) (pa_cons (pv 4) pa_nil)))
      (pss_one (ps_ret (pe_f G_law_run T.g_law_run hr (pa_cons (pe_ix ix_list (pv 5) (pe_ifExp (pt_cmpR op_eq (pe_ix ix_tup (pv 7) pe_int (fun _ _ => rfl)) pe_str (nomark _)) pe_int pe_int) (fun _ _ => rfl)) (pa_cons (pe_op op_cat (pe_lst (pa_cons (pe_ix ix_tup (pv 7) pe_int (fun _ _ => rfl)) pa_nil)) (pv 1)) (pa_cons (pv 2) pa_nil))))))) pss_nil)
      (pss_cons (ps_if (pt_cmpR op_eq (pv 6) pe_str (nomark _)) (pss_cons (ps_set (i := 8) sc_law_run.nd rfl (Or.inl rfl) (pe_f G_law_run T.g_law_run hr (pa_cons (pe_ix ix_list (pv 5) pe_int (fun _ _ => rfl)) (pa_cons (pv 1) (pa_cons (pv 2) pa_nil)))))
      (pss_cons (ps_for PassesOwn.never rfl (pi_range1 (by rfl) T.n_range (pa_cons (pv 7) pa_nil)) (pg_name (i := 9) sc_law_run.nd rfl (Or.inl rfl)) (pss_cons (ps_expr (pe_bm PySem.F.plainAttrs_list PySem.F.slot_list_append PySem.F.type_list_append mt_append (pv 2) (pa_cons (pv 4) pa_nil)))
      (pss_one (ps_set (i := 8) sc_law_run.nd rfl (Or.inl rfl) (pe_f G_law_run T.g_law_run hr (pa_cons (pe_ix ix_list (pv 5) pe_int (fun _ _ => rfl)) (pa_cons (pe_op op_cat (pe_lst (pa_cons (pv 8) pa_nil)) (pv 1)) (pa_cons (pv 2) pa_nil))))))))
      (pss_one (ps_ret (pv 8))))) pss_nil)
      (pss_cons (ps_set (i := 10) sc_law_run.nd rfl (Or.inl rfl) (pe_f G_law_run T.g_law_run hr (pa_cons (pe_ix ix_list (pv 5) pe_int (fun _ _ => rfl)) (pa_cons (pv 1) (pa_cons (pv 2) pa_nil)))))
      (pss_one (ps_ret (pe_ifExp (pt_cmpR op_eq (pv 6) pe_str (nomark _)) (pe_tup (pa_cons pe_str (pa_cons (pv 7) (pa_cons (pv 10) pa_nil)))) (pe_f G_law_called T.g_law_called hr (pa_cons (pv 7) (pa_cons (pv 10) (pa_cons (pv 2) pa_nil))))))))))))))))))), ?_⟩
      walk_at "rd"
      have hT0 := hT
      have sc0 : Same (Hc cl H) (Hc cl H) := Same.refl _
      have kp0 : Kp (fun b => b = cl) H H := Kp.refl
      have hcl0 := hcl
      cases hT with
      | @n0 a0 l v _ nd hT1 hnd hT3 =>
        cases hnd with
        | @name b i hS =>
          refine gt3_go (Same.sqt hid_le hT1) ?_
          walk_at "rd"
          refine ixt_go (Same.sqt hid_le hS) at0 ?_
          walk_at "rd"
          refine ktn_go len_ok fun _ H1 _ s1 e1 => ?_
          refine rin_go (b := true) (sqT_of e1) rfl rfl (by decide +kernel) ?_
          have sc1 : Same (Hc cl H) (Hc cl H1) := sc0.trans (Kp.same s1).hid
          have kp1 : Kp (fun b => b = cl) H H1 := kp0.trans (Kp.same s1)
          have hcl1 := s1 _ _ hcl0
          walk_at "rd"
          refine reqS_go (b := true) (by decide +kernel) ?_
          walk_at "rd"
          refine ixt_go (Same.sqt hid_le (Same.sqt sc1 hS)) at1 ?_
          walk_at "rd"
          cases hR with
          | @row _ rs _ g1 g2 g3 =>
            cases e2 : r[i]? with
            | none =>
              have hev2 : (match r[i]? with | some w => some (w, ([] : List Nat)) | none => none) = some (x, cs) := hev
              rw [e2] at hev2
              cases hev2
            | some w2 =>
              have hev2 : (match r[i]? with | some w => some (w, ([] : List Nat)) | none => none) = some (x, cs) := hev
              rw [e2] at hev2
              cases hev2
              have hi : i < rs.length := by rw [g2]; exact (List.getElem?_eq_some_iff.mp e2).1
              refine ixl_go (sqL_of (s1 _ _ (of_hid g1).1)) (atI_nat (List.getElem?_eq_getElem hi)) ?_
              refine q _ H1 kp1 ((g3 i _ _ (List.getElem?_eq_getElem hi) e2).mono sc1) ?_
              rw [List.append_nil]
              exact hcl1
        | @told b i hS =>
          refine gt3_go (Same.sqt hid_le hT1) ?_
          walk_at "rd"
          refine ixt_go (Same.sqt hid_le hS) at0 ?_
          walk_at "rd"
          refine ktn_go len_ok fun _ H1 _ s1 e1 => ?_
          refine rin_go (b := true) (sqT_of e1) rfl rfl (by decide +kernel) ?_
          have sc1 : Same (Hc cl H) (Hc cl H1) := sc0.trans (Kp.same s1).hid
          have kp1 : Kp (fun b => b = cl) H H1 := kp0.trans (Kp.same s1)
          have hcl1 := s1 _ _ hcl0
          walk_at "rd"
          refine reqS_go (b := false) (by decide +kernel) ?_
          walk_at "rd"
          refine ixt_go (Same.sqt hid_le (Same.sqt sc1 hS)) at1 ?_
          have hev2 : some (W.int i, ([] : List Nat)) = some (x, cs) := hev
          cases hev2
          refine q _ H1 kp1 .int ?_
          rw [List.append_nil]
          exact hcl1
        | knd _ _ => cases hev
        | wd _ => cases hev
      | @n1 a0 l v kv _ nd t1 hT1 hnd hT3 hT4 =>
        cases hnd with
        | name _ =>
          rw [ev_n1 (fun k z => by cases z)] at hev
          cases z1 : ev n r (p + 1) t1 with
          | none => rw [z1] at hev; cases hev
          | some v1 => rw [z1] at hev; cases hev
        | told _ =>
          rw [ev_n1 (fun k z => by cases z)] at hev
          cases z1 : ev n r (p + 1) t1 with
          | none => rw [z1] at hev; cases hev
          | some v1 => rw [z1] at hev; cases hev
        | @knd b kx tk A hS hA =>
          cases tk with
          | fn =>
            have hev2 : some (W.made p A t1 r, ([] : List Nat)) = some (x, cs) := hev
            cases hev2
            refine gt3_go (Same.sqt hid_le hT1) ?_
            walk_at "rd"
            refine ixt_go (Same.sqt hid_le hS) at0 ?_
            walk_at "rd"
            refine ktn_go len_ok fun _ H1 _ s1 e1 => ?_
            refine rin_go (b := false) (sqT_of e1) rfl rfl (by decide +kernel) ?_
            have sc1 : Same (Hc cl H) (Hc cl H1) := sc0.trans (Kp.same s1).hid
            have kp1 : Kp (fun b => b = cl) H H1 := kp0.trans (Kp.same s1)
            have hcl1 := s1 _ _ hcl0
            walk_at "rd"
            refine reqS_go (b := true) (by decide +kernel) ?_
            walk_at "rd"
            refine ktn_go len_ok fun y H2 hyn s2 e2 => ?_
            have sc2 : Same (Hc cl H) (Hc cl H2) := sc1.trans (Kp.same s2).hid
            have kp2 : Kp (fun b => b = cl) H H2 := kp1.trans (Kp.same s2)
            have hcl2 := s2 _ _ hcl1
            have nyc : y ≠ cl := fun z => by rw [z, hcl1] at hyn; cases hyn
            refine q _ H2 kp2 (.made (sqT_of (hid_at e2 nyc)) (hT0.mono sc2) (by simp only [Tm.size] at hs; omega) (hR.mono sc2)) ?_
            rw [hcl2]
            simp only [List.append_assoc, List.cons_append, List.nil_append, List.append_nil]
          | left =>
            rw [ev_n1 (fun k z => by cases z)] at hev
            cases z1 : ev n r (p + 1) t1 with
            | none => rw [z1] at hev; cases hev
            | some v1 =>
              obtain ⟨w1, c1⟩ := v1
              rw [z1] at hev
              simp only [un1] at hev
              cases hev
              refine gt3_go (Same.sqt hid_le hT1) ?_
              walk_at "rd"
              refine ixt_go (Same.sqt hid_le hS) at0 ?_
              walk_at "rd"
              refine ktn_go len_ok fun _ H1 _ s1 e1 => ?_
              refine rin_go (b := false) (sqT_of e1) rfl rfl (by decide +kernel) ?_
              have sc1 : Same (Hc cl H) (Hc cl H1) := sc0.trans (Kp.same s1).hid
              have kp1 : Kp (fun b => b = cl) H H1 := kp0.trans (Kp.same s1)
              have hcl1 := s1 _ _ hcl0
              walk_at "rd"
              refine reqS_go (b := false) (by decide +kernel) ?_
              walk_at "rd"
              refine ixl_go (hid_le.seq (sc1.seq hT3)) at0 ?_
              walk_at "rd"
              refine ⟨_, rw, cl, p + 1, t1, r, cs0, _, _, rfl, hT4.mono sc1, hR.mono sc1, hcl1, (by first | exact hz | (simp only [List.length_append, List.length_cons, List.length_nil] at hz ⊢; omega)), (by simp only [Tm.size] at hs; omega), z1, fun va H2 k2 hv2 hcl2 => ?_⟩
              have sc2 : Same (Hc cl H) (Hc cl H2) := sc1.trans k2.hid
              have kp2 : Kp (fun b => b = cl) H H2 := kp1.trans k2
              have hva := hv2
              walk_at "rd"
              refine reqS_go (b := false) (by decide +kernel) ?_
              walk_at "rd"
              refine ktn_go len_ok fun _ H3 _ s3 e3 => ?_
              refine rin_go (b := false) (sqT_of e3) rfl rfl (by decide +kernel) ?_
              have sc3 : Same (Hc cl H) (Hc cl H3) := sc2.trans (Kp.same s3).hid
              have kp3 : Kp (fun b => b = cl) H H3 := kp2.trans (Kp.same s3)
              have hcl3 := s3 _ _ hcl2
              have hva := hva.mono (Kp.same s3).hid
              walk_at "rd"
              refine ktn_go len_ok fun _ H4 _ s4 e4 => ?_
              refine rin_go (b := true) (sqT_of e4) rfl rfl (by decide +kernel) ?_
              have sc4 : Same (Hc cl H) (Hc cl H4) := sc3.trans (Kp.same s4).hid
              have kp4 : Kp (fun b => b = cl) H H4 := kp3.trans (Kp.same s4)
              have hcl4 := s4 _ _ hcl3
              have hva := hva.mono (Kp.same s4).hid
              walk_at "rd"
              refine ktn_go len_ok fun y H5 hyn s5 e5 => ?_
              have sc5 : Same (Hc cl H) (Hc cl H5) := sc4.trans (Kp.same s5).hid
              have kp5 : Kp (fun b => b = cl) H H5 := kp4.trans (Kp.same s5)
              have hcl5 := s5 _ _ hcl4
              have hva := hva.mono (Kp.same s5).hid
              have nyc : y ≠ cl := fun z => by rw [z, hcl4] at hyn; cases hyn
              refine q _ H5 kp5 (.left (sqT_of (hid_at e5 nyc)) hva) ?_
              rw [hcl5]
          | right =>
            rw [ev_n1 (fun k z => by cases z)] at hev
            cases z1 : ev n r (p + 1) t1 with
            | none => rw [z1] at hev; cases hev
            | some v1 =>
              obtain ⟨w1, c1⟩ := v1
              rw [z1] at hev
              simp only [un1] at hev
              cases hev
              refine gt3_go (Same.sqt hid_le hT1) ?_
              walk_at "rd"
              refine ixt_go (Same.sqt hid_le hS) at0 ?_
              walk_at "rd"
              refine ktn_go len_ok fun _ H1 _ s1 e1 => ?_
              refine rin_go (b := false) (sqT_of e1) rfl rfl (by decide +kernel) ?_
              have sc1 : Same (Hc cl H) (Hc cl H1) := sc0.trans (Kp.same s1).hid
              have kp1 : Kp (fun b => b = cl) H H1 := kp0.trans (Kp.same s1)
              have hcl1 := s1 _ _ hcl0
              walk_at "rd"
              refine reqS_go (b := false) (by decide +kernel) ?_
              walk_at "rd"
              refine ixl_go (hid_le.seq (sc1.seq hT3)) at0 ?_
              walk_at "rd"
              refine ⟨_, rw, cl, p + 1, t1, r, cs0, _, _, rfl, hT4.mono sc1, hR.mono sc1, hcl1, (by first | exact hz | (simp only [List.length_append, List.length_cons, List.length_nil] at hz ⊢; omega)), (by simp only [Tm.size] at hs; omega), z1, fun va H2 k2 hv2 hcl2 => ?_⟩
              have sc2 : Same (Hc cl H) (Hc cl H2) := sc1.trans k2.hid
              have kp2 : Kp (fun b => b = cl) H H2 := kp1.trans k2
              have hva := hv2
              walk_at "rd"
              refine reqS_go (b := false) (by decide +kernel) ?_
              walk_at "rd"
              refine ktn_go len_ok fun _ H3 _ s3 e3 => ?_
              refine rin_go (b := false) (sqT_of e3) rfl rfl (by decide +kernel) ?_
              have sc3 : Same (Hc cl H) (Hc cl H3) := sc2.trans (Kp.same s3).hid
              have kp3 : Kp (fun b => b = cl) H H3 := kp2.trans (Kp.same s3)
              have hcl3 := s3 _ _ hcl2
              have hva := hva.mono (Kp.same s3).hid
              walk_at "rd"
              refine ktn_go len_ok fun _ H4 _ s4 e4 => ?_
              refine rin_go (b := true) (sqT_of e4) rfl rfl (by decide +kernel) ?_
              have sc4 : Same (Hc cl H) (Hc cl H4) := sc3.trans (Kp.same s4).hid
              have kp4 : Kp (fun b => b = cl) H H4 := kp3.trans (Kp.same s4)
              have hcl4 := s4 _ _ hcl3
              have hva := hva.mono (Kp.same s4).hid
              walk_at "rd"
              refine ktn_go len_ok fun y H5 hyn s5 e5 => ?_
              have sc5 : Same (Hc cl H) (Hc cl H5) := sc4.trans (Kp.same s5).hid
              have kp5 : Kp (fun b => b = cl) H H5 := kp4.trans (Kp.same s5)
              have hcl5 := s5 _ _ hcl4
              have hva := hva.mono (Kp.same s5).hid
              have nyc : y ≠ cl := fun z => by rw [z, hcl4] at hyn; cases hyn
              refine q _ H5 kp5 (.right (sqT_of (hid_at e5 nyc)) hva) ?_
              rw [hcl5]
          | turns =>
            rw [ev_n1 (fun k z => by cases z)] at hev
            cases z1 : ev n r (p + 1) t1 with
            | none => rw [z1] at hev; cases hev
            | some v1 => rw [z1] at hev; cases hev
        | @wd b tk hS =>
          cases tk with
          | next =>
            rw [ev_n1 (fun k z => by cases z)] at hev
            cases z1 : ev n r (p + 1) t1 with
            | none => rw [z1] at hev; cases hev
            | some v1 =>
              obtain ⟨w1, c1⟩ := v1
              rw [z1] at hev
              cases w1 <;> simp only [un1] at hev <;> (try cases hev)
              refine gt3_go (Same.sqt hid_le hT1) ?_
              walk_at "rd"
              refine ixt_go (Same.sqt hid_le hS) at0 ?_
              walk_at "rd"
              refine ktn_go len_ok fun _ H1 _ s1 e1 => ?_
              refine rin_go (b := false) (sqT_of e1) rfl rfl (by decide +kernel) ?_
              have sc1 : Same (Hc cl H) (Hc cl H1) := sc0.trans (Kp.same s1).hid
              have kp1 : Kp (fun b => b = cl) H H1 := kp0.trans (Kp.same s1)
              have hcl1 := s1 _ _ hcl0
              walk_at "rd"
              refine reqS_go (b := false) (by decide +kernel) ?_
              walk_at "rd"
              refine ixl_go (hid_le.seq (sc1.seq hT3)) at0 ?_
              walk_at "rd"
              refine ⟨_, rw, cl, p + 1, t1, r, cs0, _, _, rfl, hT4.mono sc1, hR.mono sc1, hcl1, (by first | exact hz | (simp only [List.length_append, List.length_cons, List.length_nil] at hz ⊢; omega)), (by simp only [Tm.size] at hs; omega), z1, fun va H2 k2 hv2 hcl2 => ?_⟩
              have sc2 : Same (Hc cl H) (Hc cl H2) := sc1.trans k2.hid
              have kp2 : Kp (fun b => b = cl) H H2 := kp1.trans k2
              have hva := hv2
              walk_at "rd"
              refine reqS_go (b := true) (by decide +kernel) ?_
              walk_at "rd"
              cases hva with
              | @int k =>
                walk_at "rd"
                refine ⟨_, _, rfl, ?_⟩
                have e5 : ∀ k : Nat, (if (1000000 : Int) < ((k : Nat) : Int) + 1 then (1000000 : Int) else ((k : Nat) : Int) + 1) = ((min (k + 1) 1000000 : Nat) : Int) := fun k => by split <;> omega
                rw [e5]
                refine q _ H2 kp2 .int ?_
                rw [hcl2]
          | first =>
            rw [ev_n1 (fun k z => by cases z)] at hev
            cases z1 : ev n r (p + 1) t1 with
            | none => rw [z1] at hev; cases hev
            | some v1 =>
              obtain ⟨w1, c1⟩ := v1
              rw [z1] at hev
              cases w1 <;> simp only [un1] at hev <;> (try cases hev)
              refine gt3_go (Same.sqt hid_le hT1) ?_
              walk_at "rd"
              refine ixt_go (Same.sqt hid_le hS) at0 ?_
              walk_at "rd"
              refine ktn_go len_ok fun _ H1 _ s1 e1 => ?_
              refine rin_go (b := false) (sqT_of e1) rfl rfl (by decide +kernel) ?_
              have sc1 : Same (Hc cl H) (Hc cl H1) := sc0.trans (Kp.same s1).hid
              have kp1 : Kp (fun b => b = cl) H H1 := kp0.trans (Kp.same s1)
              have hcl1 := s1 _ _ hcl0
              walk_at "rd"
              refine reqS_go (b := false) (by decide +kernel) ?_
              walk_at "rd"
              refine ixl_go (hid_le.seq (sc1.seq hT3)) at0 ?_
              walk_at "rd"
              refine ⟨_, rw, cl, p + 1, t1, r, cs0, _, _, rfl, hT4.mono sc1, hR.mono sc1, hcl1, (by first | exact hz | (simp only [List.length_append, List.length_cons, List.length_nil] at hz ⊢; omega)), (by simp only [Tm.size] at hs; omega), z1, fun va H2 k2 hv2 hcl2 => ?_⟩
              have sc2 : Same (Hc cl H) (Hc cl H2) := sc1.trans k2.hid
              have kp2 : Kp (fun b => b = cl) H H2 := kp1.trans k2
              have hva := hv2
              walk_at "rd"
              refine reqS_go (b := false) (by decide +kernel) ?_
              walk_at "rd"
              refine ktn_go len_ok fun _ H3 _ s3 e3 => ?_
              refine rin_go (b := true) (sqT_of e3) rfl rfl (by decide +kernel) ?_
              have sc3 : Same (Hc cl H) (Hc cl H3) := sc2.trans (Kp.same s3).hid
              have kp3 : Kp (fun b => b = cl) H H3 := kp2.trans (Kp.same s3)
              have hcl3 := s3 _ _ hcl2
              have hva := hva.mono (Kp.same s3).hid
              walk_at "rd"
              refine reqS_go (b := true) (by decide +kernel) ?_
              walk_at "rd"
              cases hva with
              | both hB hx hy =>
                refine ixt_go (Same.sqt hid_le hB) at1 ?_
                refine q _ H3 kp3 hx ?_
                rw [hcl3]
          | second =>
            rw [ev_n1 (fun k z => by cases z)] at hev
            cases z1 : ev n r (p + 1) t1 with
            | none => rw [z1] at hev; cases hev
            | some v1 =>
              obtain ⟨w1, c1⟩ := v1
              rw [z1] at hev
              cases w1 <;> simp only [un1] at hev <;> (try cases hev)
              refine gt3_go (Same.sqt hid_le hT1) ?_
              walk_at "rd"
              refine ixt_go (Same.sqt hid_le hS) at0 ?_
              walk_at "rd"
              refine ktn_go len_ok fun _ H1 _ s1 e1 => ?_
              refine rin_go (b := false) (sqT_of e1) rfl rfl (by decide +kernel) ?_
              have sc1 : Same (Hc cl H) (Hc cl H1) := sc0.trans (Kp.same s1).hid
              have kp1 : Kp (fun b => b = cl) H H1 := kp0.trans (Kp.same s1)
              have hcl1 := s1 _ _ hcl0
              walk_at "rd"
              refine reqS_go (b := false) (by decide +kernel) ?_
              walk_at "rd"
              refine ixl_go (hid_le.seq (sc1.seq hT3)) at0 ?_
              walk_at "rd"
              refine ⟨_, rw, cl, p + 1, t1, r, cs0, _, _, rfl, hT4.mono sc1, hR.mono sc1, hcl1, (by first | exact hz | (simp only [List.length_append, List.length_cons, List.length_nil] at hz ⊢; omega)), (by simp only [Tm.size] at hs; omega), z1, fun va H2 k2 hv2 hcl2 => ?_⟩
              have sc2 : Same (Hc cl H) (Hc cl H2) := sc1.trans k2.hid
              have kp2 : Kp (fun b => b = cl) H H2 := kp1.trans k2
              have hva := hv2
              walk_at "rd"
              refine reqS_go (b := false) (by decide +kernel) ?_
              walk_at "rd"
              refine ktn_go len_ok fun _ H3 _ s3 e3 => ?_
              refine rin_go (b := true) (sqT_of e3) rfl rfl (by decide +kernel) ?_
              have sc3 : Same (Hc cl H) (Hc cl H3) := sc2.trans (Kp.same s3).hid
              have kp3 : Kp (fun b => b = cl) H H3 := kp2.trans (Kp.same s3)
              have hcl3 := s3 _ _ hcl2
              have hva := hva.mono (Kp.same s3).hid
              walk_at "rd"
              refine reqS_go (b := false) (by decide +kernel) ?_
              walk_at "rd"
              cases hva with
              | both hB hx hy =>
                refine ixt_go (Same.sqt hid_le hB) at2 ?_
                refine q _ H3 kp3 hy ?_
                rw [hcl3]
          | call =>
            rw [ev_n1 (fun k z => by cases z)] at hev
            cases z1 : ev n r (p + 1) t1 with
            | none => rw [z1] at hev; cases hev
            | some v1 => rw [z1] at hev; cases hev
          | both =>
            rw [ev_n1 (fun k z => by cases z)] at hev
            cases z1 : ev n r (p + 1) t1 with
            | none => rw [z1] at hev; cases hev
            | some v1 => rw [z1] at hev; cases hev
          | which =>
            rw [ev_n1 (fun k z => by cases z)] at hev
            cases z1 : ev n r (p + 1) t1 with
            | none => rw [z1] at hev; cases hev
            | some v1 => rw [z1] at hev; cases hev
          | lt =>
            rw [ev_n1 (fun k z => by cases z)] at hev
            cases z1 : ev n r (p + 1) t1 with
            | none => rw [z1] at hev; cases hev
            | some v1 => rw [z1] at hev; cases hev
      | @n2 a0 l v k1v k2v _ nd t1 t2 hT1 hnd hT3 hT4 hT5 =>
        cases hnd with
        | name _ => cases hev
        | told _ => cases hev
        | knd _ _ => cases hev
        | @wd b tk hS =>
          cases tk with
          | first => cases hev
          | second => cases hev
          | which => cases hev
          | next => cases hev
          | lt =>
            rw [ev_lt] at hev
            cases z1 : ev n r (p + 1) t1 with
            | none => rw [z1] at hev; cases hev
            | some v1 =>
              obtain ⟨w1, c1⟩ := v1
              rw [z1] at hev
              simp only at hev
              cases z2 : ev n (w1 :: r) (p + 1 + t1.size) t2 with
              | none => rw [z2] at hev; cases hev
              | some v2 =>
                obtain ⟨w2, c2⟩ := v2
                rw [z2] at hev
                cases hev
                refine gt3_go (Same.sqt hid_le hT1) ?_
                walk_at "rd"
                refine ixt_go (Same.sqt hid_le hS) at0 ?_
                walk_at "rd"
                refine ktn_go len_ok fun _ H1 _ s1 e1 => ?_
                refine rin_go (b := false) (sqT_of e1) rfl rfl (by decide +kernel) ?_
                have sc1 : Same (Hc cl H) (Hc cl H1) := sc0.trans (Kp.same s1).hid
                have kp1 : Kp (fun b => b = cl) H H1 := kp0.trans (Kp.same s1)
                have hcl1 := s1 _ _ hcl0
                walk_at "rd"
                refine reqS_go (b := false) (by decide +kernel) ?_
                walk_at "rd"
                refine ixl_go (hid_le.seq (sc1.seq hT3)) at0 ?_
                walk_at "rd"
                refine ⟨_, rw, cl, p + 1, t1, r, cs0, c1, w1, rfl, hT4.mono sc1, hR.mono sc1, hcl1, (by first | exact hz | (simp only [List.length_append, List.length_cons, List.length_nil] at hz ⊢; omega)), (by simp only [Tm.size] at hs; omega), z1, fun va H2 k2 hv2 hcl2 => ?_⟩
                have sc2 : Same (Hc cl H) (Hc cl H2) := sc1.trans k2.hid
                have kp2 : Kp (fun b => b = cl) H H2 := kp1.trans k2
                have hva := hv2
                walk_at "rd"
                refine reqS_go (b := false) (by decide +kernel) ?_
                walk_at "rd"
                refine ktn_go len_ok fun _ H3 _ s3 e3 => ?_
                refine rin_go (b := false) (sqT_of e3) rfl rfl (by decide +kernel) ?_
                have sc3 : Same (Hc cl H) (Hc cl H3) := sc2.trans (Kp.same s3).hid
                have kp3 : Kp (fun b => b = cl) H H3 := kp2.trans (Kp.same s3)
                have hcl3 := s3 _ _ hcl2
                have hva := hva.mono (Kp.same s3).hid
                walk_at "rd"
                refine ktn_go len_ok fun _ H4 _ s4 e4 => ?_
                refine rin_go (b := false) (sqT_of e4) rfl rfl (by decide +kernel) ?_
                have sc4 : Same (Hc cl H) (Hc cl H4) := sc3.trans (Kp.same s4).hid
                have kp4 : Kp (fun b => b = cl) H H4 := kp3.trans (Kp.same s4)
                have hcl4 := s4 _ _ hcl3
                have hva := hva.mono (Kp.same s4).hid
                walk_at "rd"
                refine reqS_go (b := true) (by decide +kernel) ?_
                walk_at "rd"
                refine kbm_go hcl4 ?_
                walk_at "rd"
                refine app_cl (K := K) hcl4 (by first | exact hz | (simp only [List.length_append, List.length_cons, List.length_nil] at hz ⊢; omega)) fun H5 k5 hcl5 => ?_
                have sc5 : Same (Hc cl H) (Hc cl H5) := sc4.trans k5.hid
                have kp5 : Kp (fun b => b = cl) H H5 := kp4.trans k5
                have hva := hva.mono k5.hid
                walk_at "rd"
                refine ixl_go (hid_le.seq (sc5.seq hT3)) at1 ?_
                walk_at "rd"
                refine kln_go len_ok fun l6 H6 hl6 s6 e6 => ?_
                have sc6 : Same (Hc cl H) (Hc cl H6) := sc5.trans (Kp.same s6).hid
                have kp6 : Kp (fun b => b = cl) H H6 := kp5.trans (Kp.same s6)
                have hcl6 := s6 _ _ hcl5
                have hva := hva.mono (Kp.same s6).hid
                walk_at "rd"
                refine cat_rw (cl := cl) e6 hva (hR.mono sc6) (by omega) (fun pr7 H7 s7 hr7 => ?_) ⟨_, hcl6⟩
                have sc7 : Same (Hc cl H) (Hc cl H7) := sc6.trans (Kp.same s7).hid
                have kp7 : Kp (fun b => b = cl) H H7 := kp6.trans (Kp.same s7)
                have hcl7 := s7 _ _ hcl6
                have hva := hva.mono (Kp.same s7).hid
                walk_at "rd"
                refine ⟨_, pr7, cl, p + 1 + t1.size, t2, w1 :: r, cs0 ++ c1 ++ [p], c2, x, rfl, hT5.mono sc7, hr7, hcl7, (by first | exact hz | (simp only [List.length_append, List.length_cons, List.length_nil] at hz ⊢; omega)), (by simp only [Tm.size] at hs; rw [List.length_cons]; omega), z2, fun v H8 k8 hv8 hcl8 => ?_⟩
                have sc8 : Same (Hc cl H) (Hc cl H8) := sc7.trans k8.hid
                have kp8 : Kp (fun b => b = cl) H H8 := kp7.trans k8
                have hva := hva.mono k8.hid
                walk_at "rd"
                refine q _ H8 kp8 hv8 ?_
                rw [hcl8]
                simp only [List.append_assoc, List.cons_append, List.nil_append, List.append_nil]
          | both =>
            rw [ev_both] at hev
            cases z1 : ev n r (p + 1) t1 with
            | none => rw [z1] at hev; cases hev
            | some v1 =>
              obtain ⟨w1, c1⟩ := v1
              rw [z1] at hev
              simp only at hev
              cases z2 : ev n r (p + 1 + t1.size) t2 with
              | none => rw [z2] at hev; cases hev
              | some v2 =>
                obtain ⟨w2, c2⟩ := v2
                rw [z2] at hev
                cases hev
                refine gt3_go (Same.sqt hid_le hT1) ?_
                walk_at "rd"
                refine ixt_go (Same.sqt hid_le hS) at0 ?_
                walk_at "rd"
                refine ktn_go len_ok fun _ H1 _ s1 e1 => ?_
                refine rin_go (b := false) (sqT_of e1) rfl rfl (by decide +kernel) ?_
                have sc1 : Same (Hc cl H) (Hc cl H1) := sc0.trans (Kp.same s1).hid
                have kp1 : Kp (fun b => b = cl) H H1 := kp0.trans (Kp.same s1)
                have hcl1 := s1 _ _ hcl0
                walk_at "rd"
                refine reqS_go (b := false) (by decide +kernel) ?_
                walk_at "rd"
                refine ixl_go (hid_le.seq (sc1.seq hT3)) at0 ?_
                walk_at "rd"
                refine ⟨_, rw, cl, p + 1, t1, r, cs0, c1, w1, rfl, hT4.mono sc1, hR.mono sc1, hcl1, (by first | exact hz | (simp only [List.length_append, List.length_cons, List.length_nil] at hz ⊢; omega)), (by simp only [Tm.size] at hs; omega), z1, fun va H2 k2 hv2 hcl2 => ?_⟩
                have sc2 : Same (Hc cl H) (Hc cl H2) := sc1.trans k2.hid
                have kp2 : Kp (fun b => b = cl) H H2 := kp1.trans k2
                have hva := hv2
                walk_at "rd"
                refine reqS_go (b := false) (by decide +kernel) ?_
                walk_at "rd"
                refine ktn_go len_ok fun _ H3 _ s3 e3 => ?_
                refine rin_go (b := false) (sqT_of e3) rfl rfl (by decide +kernel) ?_
                have sc3 : Same (Hc cl H) (Hc cl H3) := sc2.trans (Kp.same s3).hid
                have kp3 : Kp (fun b => b = cl) H H3 := kp2.trans (Kp.same s3)
                have hcl3 := s3 _ _ hcl2
                have hva := hva.mono (Kp.same s3).hid
                walk_at "rd"
                refine ktn_go len_ok fun _ H4 _ s4 e4 => ?_
                refine rin_go (b := false) (sqT_of e4) rfl rfl (by decide +kernel) ?_
                have sc4 : Same (Hc cl H) (Hc cl H4) := sc3.trans (Kp.same s4).hid
                have kp4 : Kp (fun b => b = cl) H H4 := kp3.trans (Kp.same s4)
                have hcl4 := s4 _ _ hcl3
                have hva := hva.mono (Kp.same s4).hid
                walk_at "rd"
                refine reqS_go (b := false) (by decide +kernel) ?_
                walk_at "rd"
                refine reqS_go (b := false) (by decide +kernel) ?_
                walk_at "rd"
                refine reqS_go (b := false) (by decide +kernel) ?_
                walk_at "rd"
                refine ixl_go (hid_le.seq (sc4.seq hT3)) at1 ?_
                walk_at "rd"
                refine ⟨_, rw, cl, p + 1 + t1.size, t2, r, cs0 ++ c1, c2, w2, rfl, hT5.mono sc4, hR.mono sc4, hcl4, (by first | exact hz | (simp only [List.length_append, List.length_cons, List.length_nil] at hz ⊢; omega)), (by simp only [Tm.size] at hs; omega), z2, fun vb H5 k5 hv5 hcl5 => ?_⟩
                have sc5 : Same (Hc cl H) (Hc cl H5) := sc4.trans k5.hid
                have kp5 : Kp (fun b => b = cl) H H5 := kp4.trans k5
                have hva := hva.mono k5.hid
                have hvb := hv5
                walk_at "rd"
                refine reqS_go (b := true) (by decide +kernel) ?_
                walk_at "rd"
                refine ktn_go len_ok fun y H6 hyn s6 e6 => ?_
                have sc6 : Same (Hc cl H) (Hc cl H6) := sc5.trans (Kp.same s6).hid
                have kp6 : Kp (fun b => b = cl) H H6 := kp5.trans (Kp.same s6)
                have hcl6 := s6 _ _ hcl5
                have hva := hva.mono (Kp.same s6).hid
                have hvb := hvb.mono (Kp.same s6).hid
                have nyc : y ≠ cl := fun z => by rw [z, hcl5] at hyn; cases hyn
                refine q _ H6 kp6 (.both (sqT_of (hid_at e6 nyc)) hva hvb) ?_
                rw [hcl6]
                simp only [List.append_assoc, List.cons_append, List.nil_append, List.append_nil]
          | call =>
            cases n with
            | zero => cases hev
            | succ m =>
              rw [ev_call] at hev
              cases z1 : ev (m + 1) r (p + 1) t1 with
              | none => rw [z1] at hev; cases hev
              | some v1 =>
                obtain ⟨w1, c1⟩ := v1
                rw [z1] at hev
                cases w1 <;> simp only at hev <;> (try cases hev)
                rename_i q0 k0 b0 r0
                cases z2 : ev (m + 1) r (p + 1 + t1.size) t2 with
                | none => rw [z2] at hev; cases hev
                | some v2 =>
                  obtain ⟨w2, c2⟩ := v2
                  rw [z2] at hev
                  simp only at hev
                  cases z3 : ev m (w2 :: r0) (q0 + 1) b0 with
                  | none => rw [z3] at hev; cases hev
                  | some v3 =>
                    obtain ⟨w3, c3⟩ := v3
                    rw [z3] at hev
                    cases hev
                    refine gt3_go (Same.sqt hid_le hT1) ?_
                    walk_at "rd"
                    refine ixt_go (Same.sqt hid_le hS) at0 ?_
                    walk_at "rd"
                    refine ktn_go len_ok fun _ H1 _ s1 e1 => ?_
                    refine rin_go (b := false) (sqT_of e1) rfl rfl (by decide +kernel) ?_
                    have sc1 : Same (Hc cl H) (Hc cl H1) := sc0.trans (Kp.same s1).hid
                    have kp1 : Kp (fun b => b = cl) H H1 := kp0.trans (Kp.same s1)
                    have hcl1 := s1 _ _ hcl0
                    walk_at "rd"
                    refine reqS_go (b := false) (by decide +kernel) ?_
                    walk_at "rd"
                    refine ixl_go (hid_le.seq (sc1.seq hT3)) at0 ?_
                    walk_at "rd"
                    refine ⟨_, rw, cl, p + 1, t1, r, cs0, c1, _, rfl, hT4.mono sc1, hR.mono sc1, hcl1, (by first | exact hz | (simp only [List.length_append, List.length_cons, List.length_nil] at hz ⊢; omega)), (by simp only [Tm.size] at hs; omega), z1, fun va H2 k2 hv2 hcl2 => ?_⟩
                    have sc2 : Same (Hc cl H) (Hc cl H2) := sc1.trans k2.hid
                    have kp2 : Kp (fun b => b = cl) H H2 := kp1.trans k2
                    have hva := hv2
                    walk_at "rd"
                    refine reqS_go (b := false) (by decide +kernel) ?_
                    walk_at "rd"
                    refine ktn_go len_ok fun _ H3 _ s3 e3 => ?_
                    refine rin_go (b := false) (sqT_of e3) rfl rfl (by decide +kernel) ?_
                    have sc3 : Same (Hc cl H) (Hc cl H3) := sc2.trans (Kp.same s3).hid
                    have kp3 : Kp (fun b => b = cl) H H3 := kp2.trans (Kp.same s3)
                    have hcl3 := s3 _ _ hcl2
                    have hva := hva.mono (Kp.same s3).hid
                    walk_at "rd"
                    refine ktn_go len_ok fun _ H4 _ s4 e4 => ?_
                    refine rin_go (b := false) (sqT_of e4) rfl rfl (by decide +kernel) ?_
                    have sc4 : Same (Hc cl H) (Hc cl H4) := sc3.trans (Kp.same s4).hid
                    have kp4 : Kp (fun b => b = cl) H H4 := kp3.trans (Kp.same s4)
                    have hcl4 := s4 _ _ hcl3
                    have hva := hva.mono (Kp.same s4).hid
                    walk_at "rd"
                    refine reqS_go (b := false) (by decide +kernel) ?_
                    walk_at "rd"
                    refine reqS_go (b := false) (by decide +kernel) ?_
                    walk_at "rd"
                    refine reqS_go (b := false) (by decide +kernel) ?_
                    walk_at "rd"
                    refine ixl_go (hid_le.seq (sc4.seq hT3)) at1 ?_
                    walk_at "rd"
                    refine ⟨_, rw, cl, p + 1 + t1.size, t2, r, cs0 ++ c1, c2, w2, rfl, hT5.mono sc4, hR.mono sc4, hcl4, (by first | exact hz | (simp only [List.length_append, List.length_cons, List.length_nil] at hz ⊢; omega)), (by simp only [Tm.size] at hs; omega), z2, fun vb H5 k5 hv5 hcl5 => ?_⟩
                    have sc5 : Same (Hc cl H) (Hc cl H5) := sc4.trans k5.hid
                    have kp5 : Kp (fun b => b = cl) H H5 := kp4.trans k5
                    have hva := hva.mono k5.hid
                    have hvb := hv5
                    walk_at "rd"
                    refine reqS_go (b := false) (by decide +kernel) ?_
                    walk_at "rd"
                    refine ⟨m, _, _, cl, q0, k0, b0, r0, w2, cs0 ++ c1 ++ c2, c3, x, rfl, rfl, hva, hvb, hcl5, (by first | exact hz | (simp only [List.length_append, List.length_cons, List.length_nil] at hz ⊢; omega)), z3, fun v H6 k6 hv6 hcl6 => ?_⟩
                    have sc6 : Same (Hc cl H) (Hc cl H6) := sc5.trans k6.hid
                    have kp6 : Kp (fun b => b = cl) H H6 := kp5.trans k6
                    have hva := hva.mono k6.hid
                    have hvb := hvb.mono k6.hid
                    refine q _ H6 kp6 hv6 ?_
                    rw [hcl6]
                    simp only [List.append_assoc, List.cons_append, List.nil_append, List.append_nil]
      | @n3 a0 l v k1v k2v k3v _ nd t1 t2 t3 hT1 hnd hT3 hT4 hT5 hT6 =>
        cases hnd with
        | name _ => cases hev
        | told _ => cases hev
        | @wd b tk hS =>
          cases tk with
          | first => cases hev
          | second => cases hev
          | call => cases hev
          | both => cases hev
          | next => cases hev
          | lt => cases hev
          | which =>
            rw [ev_which] at hev
            cases z1 : ev n r (p + 1) t1 with
            | none => rw [z1] at hev; cases hev
            | some v1 =>
              obtain ⟨w1, c1⟩ := v1
              rw [z1] at hev
              cases w1 with
              | int _ => cases hev
              | both _ _ => cases hev
              | made _ _ _ _ => cases hev
              | left wi =>
                simp only at hev
                cases z2 : ev n (wi :: r) (p + 1 + t1.size) t2 with
                | none => rw [z2] at hev; cases hev
                | some v2 =>
                  obtain ⟨w2, c2⟩ := v2
                  rw [z2] at hev
                  cases hev
                  refine gt3_go (Same.sqt hid_le hT1) ?_
                  walk_at "rd"
                  refine ixt_go (Same.sqt hid_le hS) at0 ?_
                  walk_at "rd"
                  refine ktn_go len_ok fun _ H1 _ s1 e1 => ?_
                  refine rin_go (b := false) (sqT_of e1) rfl rfl (by decide +kernel) ?_
                  have sc1 : Same (Hc cl H) (Hc cl H1) := sc0.trans (Kp.same s1).hid
                  have kp1 : Kp (fun b => b = cl) H H1 := kp0.trans (Kp.same s1)
                  have hcl1 := s1 _ _ hcl0
                  walk_at "rd"
                  refine reqS_go (b := false) (by decide +kernel) ?_
                  walk_at "rd"
                  refine ixl_go (hid_le.seq (sc1.seq hT3)) at0 ?_
                  walk_at "rd"
                  refine ⟨_, rw, cl, p + 1, t1, r, cs0, c1, _, rfl, hT4.mono sc1, hR.mono sc1, hcl1, (by first | exact hz | (simp only [List.length_append, List.length_cons, List.length_nil] at hz ⊢; omega)), (by simp only [Tm.size] at hs; omega), z1, fun va H2 k2 hv2 hcl2 => ?_⟩
                  have sc2 : Same (Hc cl H) (Hc cl H2) := sc1.trans k2.hid
                  have kp2 : Kp (fun b => b = cl) H H2 := kp1.trans k2
                  have hva := hv2
                  walk_at "rd"
                  refine reqS_go (b := false) (by decide +kernel) ?_
                  walk_at "rd"
                  refine ktn_go len_ok fun _ H3 _ s3 e3 => ?_
                  refine rin_go (b := false) (sqT_of e3) rfl rfl (by decide +kernel) ?_
                  have sc3 : Same (Hc cl H) (Hc cl H3) := sc2.trans (Kp.same s3).hid
                  have kp3 : Kp (fun b => b = cl) H H3 := kp2.trans (Kp.same s3)
                  have hcl3 := s3 _ _ hcl2
                  have hva := hva.mono (Kp.same s3).hid
                  walk_at "rd"
                  refine ktn_go len_ok fun _ H4 _ s4 e4 => ?_
                  refine rin_go (b := false) (sqT_of e4) rfl rfl (by decide +kernel) ?_
                  have sc4 : Same (Hc cl H) (Hc cl H4) := sc3.trans (Kp.same s4).hid
                  have kp4 : Kp (fun b => b = cl) H H4 := kp3.trans (Kp.same s4)
                  have hcl4 := s4 _ _ hcl3
                  have hva := hva.mono (Kp.same s4).hid
                  walk_at "rd"
                  refine reqS_go (b := false) (by decide +kernel) ?_
                  walk_at "rd"
                  refine reqS_go (b := true) (by decide +kernel) ?_
                  walk_at "rd"
                  refine kbm_go hcl4 ?_
                  walk_at "rd"
                  refine app_cl (K := K) hcl4 (by first | exact hz | (simp only [List.length_append, List.length_cons, List.length_nil] at hz ⊢; omega)) fun H5 k5 hcl5 => ?_
                  have sc5 : Same (Hc cl H) (Hc cl H5) := sc4.trans k5.hid
                  have kp5 : Kp (fun b => b = cl) H H5 := kp4.trans k5
                  have hva := hva.mono k5.hid
                  walk_at "rd"
                  cases hva with
                  | left hB hvi =>
                    have hB := Same.sqt hid_le hB
                    refine ixt_go hB at0 ?_
                    walk_at "rd"
                    refine reqS_go (b := true) (by decide +kernel) ?_
                    walk_at "rd"
                    refine ixl_go (hid_le.seq (sc5.seq hT3)) at1 ?_
                    walk_at "rd"
                    refine ixt_go hB at1 ?_
                    walk_at "rd"
                    refine kln_go len_ok fun l6 H6 hl6 s6 e6 => ?_
                    have sc6 : Same (Hc cl H) (Hc cl H6) := sc5.trans (Kp.same s6).hid
                    have kp6 : Kp (fun b => b = cl) H H6 := kp5.trans (Kp.same s6)
                    have hcl6 := s6 _ _ hcl5
                    have hvi := hvi.mono (Kp.same s6).hid
                    walk_at "rd"
                    refine cat_rw (cl := cl) e6 hvi (hR.mono sc6) (by omega) (fun pr7 H7 s7 hr7 => ?_) ⟨_, hcl6⟩
                    have sc7 : Same (Hc cl H) (Hc cl H7) := sc6.trans (Kp.same s7).hid
                    have kp7 : Kp (fun b => b = cl) H H7 := kp6.trans (Kp.same s7)
                    have hcl7 := s7 _ _ hcl6
                    have hvi := hvi.mono (Kp.same s7).hid
                    walk_at "rd"
                    refine ⟨_, pr7, cl, p + 1 + t1.size, t2, wi :: r, cs0 ++ c1 ++ [p], c2, x, rfl, hT5.mono sc7, hr7, hcl7, (by first | exact hz | (simp only [List.length_append, List.length_cons, List.length_nil] at hz ⊢; omega)), (by simp only [Tm.size] at hs; rw [List.length_cons]; omega), z2, fun v H8 k8 hv8 hcl8 => ?_⟩
                    have sc8 : Same (Hc cl H) (Hc cl H8) := sc7.trans k8.hid
                    have kp8 : Kp (fun b => b = cl) H H8 := kp7.trans k8
                    have hvi := hvi.mono k8.hid
                    walk_at "rd"
                    refine q _ H8 kp8 hv8 ?_
                    rw [hcl8]
                    simp only [List.append_assoc, List.cons_append, List.nil_append, List.append_nil]
              | right wi =>
                simp only at hev
                cases z2 : ev n (wi :: r) (p + 1 + t1.size + t2.size) t3 with
                | none => rw [z2] at hev; cases hev
                | some v2 =>
                  obtain ⟨w2, c2⟩ := v2
                  rw [z2] at hev
                  cases hev
                  refine gt3_go (Same.sqt hid_le hT1) ?_
                  walk_at "rd"
                  refine ixt_go (Same.sqt hid_le hS) at0 ?_
                  walk_at "rd"
                  refine ktn_go len_ok fun _ H1 _ s1 e1 => ?_
                  refine rin_go (b := false) (sqT_of e1) rfl rfl (by decide +kernel) ?_
                  have sc1 : Same (Hc cl H) (Hc cl H1) := sc0.trans (Kp.same s1).hid
                  have kp1 : Kp (fun b => b = cl) H H1 := kp0.trans (Kp.same s1)
                  have hcl1 := s1 _ _ hcl0
                  walk_at "rd"
                  refine reqS_go (b := false) (by decide +kernel) ?_
                  walk_at "rd"
                  refine ixl_go (hid_le.seq (sc1.seq hT3)) at0 ?_
                  walk_at "rd"
                  refine ⟨_, rw, cl, p + 1, t1, r, cs0, c1, _, rfl, hT4.mono sc1, hR.mono sc1, hcl1, (by first | exact hz | (simp only [List.length_append, List.length_cons, List.length_nil] at hz ⊢; omega)), (by simp only [Tm.size] at hs; omega), z1, fun va H2 k2 hv2 hcl2 => ?_⟩
                  have sc2 : Same (Hc cl H) (Hc cl H2) := sc1.trans k2.hid
                  have kp2 : Kp (fun b => b = cl) H H2 := kp1.trans k2
                  have hva := hv2
                  walk_at "rd"
                  refine reqS_go (b := false) (by decide +kernel) ?_
                  walk_at "rd"
                  refine ktn_go len_ok fun _ H3 _ s3 e3 => ?_
                  refine rin_go (b := false) (sqT_of e3) rfl rfl (by decide +kernel) ?_
                  have sc3 : Same (Hc cl H) (Hc cl H3) := sc2.trans (Kp.same s3).hid
                  have kp3 : Kp (fun b => b = cl) H H3 := kp2.trans (Kp.same s3)
                  have hcl3 := s3 _ _ hcl2
                  have hva := hva.mono (Kp.same s3).hid
                  walk_at "rd"
                  refine ktn_go len_ok fun _ H4 _ s4 e4 => ?_
                  refine rin_go (b := false) (sqT_of e4) rfl rfl (by decide +kernel) ?_
                  have sc4 : Same (Hc cl H) (Hc cl H4) := sc3.trans (Kp.same s4).hid
                  have kp4 : Kp (fun b => b = cl) H H4 := kp3.trans (Kp.same s4)
                  have hcl4 := s4 _ _ hcl3
                  have hva := hva.mono (Kp.same s4).hid
                  walk_at "rd"
                  refine reqS_go (b := false) (by decide +kernel) ?_
                  walk_at "rd"
                  refine reqS_go (b := true) (by decide +kernel) ?_
                  walk_at "rd"
                  refine kbm_go hcl4 ?_
                  walk_at "rd"
                  refine app_cl (K := K) hcl4 (by first | exact hz | (simp only [List.length_append, List.length_cons, List.length_nil] at hz ⊢; omega)) fun H5 k5 hcl5 => ?_
                  have sc5 : Same (Hc cl H) (Hc cl H5) := sc4.trans k5.hid
                  have kp5 : Kp (fun b => b = cl) H H5 := kp4.trans k5
                  have hva := hva.mono k5.hid
                  walk_at "rd"
                  cases hva with
                  | right hB hvi =>
                    have hB := Same.sqt hid_le hB
                    refine ixt_go hB at0 ?_
                    walk_at "rd"
                    refine reqS_go (b := false) (by decide +kernel) ?_
                    walk_at "rd"
                    refine ixl_go (hid_le.seq (sc5.seq hT3)) at2 ?_
                    walk_at "rd"
                    refine ixt_go hB at1 ?_
                    walk_at "rd"
                    refine kln_go len_ok fun l6 H6 hl6 s6 e6 => ?_
                    have sc6 : Same (Hc cl H) (Hc cl H6) := sc5.trans (Kp.same s6).hid
                    have kp6 : Kp (fun b => b = cl) H H6 := kp5.trans (Kp.same s6)
                    have hcl6 := s6 _ _ hcl5
                    have hvi := hvi.mono (Kp.same s6).hid
                    walk_at "rd"
                    refine cat_rw (cl := cl) e6 hvi (hR.mono sc6) (by omega) (fun pr7 H7 s7 hr7 => ?_) ⟨_, hcl6⟩
                    have sc7 : Same (Hc cl H) (Hc cl H7) := sc6.trans (Kp.same s7).hid
                    have kp7 : Kp (fun b => b = cl) H H7 := kp6.trans (Kp.same s7)
                    have hcl7 := s7 _ _ hcl6
                    have hvi := hvi.mono (Kp.same s7).hid
                    walk_at "rd"
                    refine ⟨_, pr7, cl, p + 1 + t1.size + t2.size, t3, wi :: r, cs0 ++ c1 ++ [p], c2, x, rfl, hT6.mono sc7, hr7, hcl7, (by first | exact hz | (simp only [List.length_append, List.length_cons, List.length_nil] at hz ⊢; omega)), (by simp only [Tm.size] at hs; rw [List.length_cons]; omega), z2, fun v H8 k8 hv8 hcl8 => ?_⟩
                    have sc8 : Same (Hc cl H) (Hc cl H8) := sc7.trans k8.hid
                    have kp8 : Kp (fun b => b = cl) H H8 := kp7.trans k8
                    have hvi := hvi.mono k8.hid
                    walk_at "rd"
                    refine q _ H8 kp8 hv8 ?_
                    rw [hcl8]
                    simp only [List.append_assoc, List.cons_append, List.nil_append, List.append_nil]
        | @knd b kx tk A hS hA =>
          cases tk with
          | fn => cases hev
          | left => cases hev
          | right => cases hev
          | turns =>
            rw [ev_turns] at hev
            cases z1 : ev n r (p + 1) t1 with
            | none => rw [z1] at hev; cases hev
            | some v1 =>
              obtain ⟨w1, c1⟩ := v1
              rw [z1] at hev
              cases w1 with
              | both _ _ => cases hev
              | made _ _ _ _ => cases hev
              | left _ => cases hev
              | right _ => cases hev
              | int k =>
                simp only at hev
                cases z2 : ev n r (p + 1 + t1.size + t2.size) t3 with
                | none => rw [z2] at hev; cases hev
                | some v2 =>
                  obtain ⟨w2, c2⟩ := v2
                  rw [z2] at hev
                  simp only at hev
                  cases z3 : iter (fun w => ev n (w :: r) (p + 1 + t1.size) t2) p k w2 with
                  | none => rw [z3] at hev; cases hev
                  | some v3 =>
                    obtain ⟨w3, c3⟩ := v3
                    rw [z3] at hev
                    cases hev
                    have hkl := iter_len k _ _ _ z3
                    refine gt3_go (Same.sqt hid_le hT1) ?_
                    walk_at "rd"
                    refine ixt_go (Same.sqt hid_le hS) at0 ?_
                    walk_at "rd"
                    refine ktn_go len_ok fun _ H1 _ s1 e1 => ?_
                    refine rin_go (b := false) (sqT_of e1) rfl rfl (by decide +kernel) ?_
                    have sc1 : Same (Hc cl H) (Hc cl H1) := sc0.trans (Kp.same s1).hid
                    have kp1 : Kp (fun b => b = cl) H H1 := kp0.trans (Kp.same s1)
                    have hcl1 := s1 _ _ hcl0
                    walk_at "rd"
                    refine reqS_go (b := false) (by decide +kernel) ?_
                    walk_at "rd"
                    refine ixl_go (hid_le.seq (sc1.seq hT3)) at0 ?_
                    walk_at "rd"
                    refine ⟨_, rw, cl, p + 1, t1, r, cs0, c1, _, rfl, hT4.mono sc1, hR.mono sc1, hcl1, (by first | exact hz | (simp only [List.length_append, List.length_cons, List.length_nil] at hz ⊢; omega)), (by simp only [Tm.size] at hs; omega), z1, fun va H2 k2 hv2 hcl2 => ?_⟩
                    have sc2 : Same (Hc cl H) (Hc cl H2) := sc1.trans k2.hid
                    have kp2 : Kp (fun b => b = cl) H H2 := kp1.trans k2
                    have hva := hv2
                    walk_at "rd"
                    refine reqS_go (b := false) (by decide +kernel) ?_
                    walk_at "rd"
                    refine ktn_go len_ok fun _ H3 _ s3 e3 => ?_
                    refine rin_go (b := false) (sqT_of e3) rfl rfl (by decide +kernel) ?_
                    have sc3 : Same (Hc cl H) (Hc cl H3) := sc2.trans (Kp.same s3).hid
                    have kp3 : Kp (fun b => b = cl) H H3 := kp2.trans (Kp.same s3)
                    have hcl3 := s3 _ _ hcl2
                    have hva := hva.mono (Kp.same s3).hid
                    walk_at "rd"
                    refine ktn_go len_ok fun _ H4 _ s4 e4 => ?_
                    refine rin_go (b := false) (sqT_of e4) rfl rfl (by decide +kernel) ?_
                    have sc4 : Same (Hc cl H) (Hc cl H4) := sc3.trans (Kp.same s4).hid
                    have kp4 : Kp (fun b => b = cl) H H4 := kp3.trans (Kp.same s4)
                    have hcl4 := s4 _ _ hcl3
                    have hva := hva.mono (Kp.same s4).hid
                    walk_at "rd"
                    refine reqS_go (b := false) (by decide +kernel) ?_
                    walk_at "rd"
                    refine reqS_go (b := false) (by decide +kernel) ?_
                    walk_at "rd"
                    refine reqS_go (b := true) (by decide +kernel) ?_
                    walk_at "rd"
                    refine ixl_go (hid_le.seq (sc4.seq hT3)) at2 ?_
                    walk_at "rd"
                    refine ⟨_, rw, cl, p + 1 + t1.size + t2.size, t3, r, cs0 ++ c1, c2, w2, rfl, hT6.mono sc4, hR.mono sc4, hcl4, (by first | exact hz | (simp only [List.length_append, List.length_cons, List.length_nil] at hz ⊢; omega)), (by simp only [Tm.size] at hs; omega), z2, fun vb H5 k5 hv5 hcl5 => ?_⟩
                    have sc5 : Same (Hc cl H) (Hc cl H5) := sc4.trans k5.hid
                    have kp5 : Kp (fun b => b = cl) H H5 := kp4.trans k5
                    have hva := hva.mono k5.hid
                    have hvb := hv5
                    walk_at "rd"
                    cases hva
                    refine fr_go (n := k) (by simp only [List.length_append] at hz; omega) (fun i σ H' => ∃ (u : V) (a1 : W) (ca cr : List Nat) (x9 : Option V), σ = [some (.ref a0), some (.ref rw), some (.ref cl), some (.ref b), some (.int p), some (.ref l), some (.str "turns"), some (.int k), some u, x9, none] ∧
                      Kp (fun b => b = cl) H H' ∧ H' cl = some (.lst ((cs0 ++ ca).map iv)) ∧ LvAt K (Hc cl H') u (.inl a1) ∧ iter (fun w => ev n (w :: r) (p + 1 + t1.size) t2) p (k - i) a1 = some (x, cr) ∧ ca ++ cr = c1 ++ (c2 ++ c3)) ⟨_, w2, c1 ++ c2, c3, none, rfl, kp5, by rw [hcl5, List.append_assoc], hvb, z3, by rw [List.append_assoc]⟩ ?_ ?_
                    · rintro i σ H' hi ⟨u, a1, ca, cr, x9, rfl, kq, hq, hu, hit, hcc⟩
                      have sq : Same (Hc cl H) (Hc cl H') := kq.hid
                      obtain ⟨j, hj⟩ : ∃ j, k - i = j + 1 := ⟨k - i - 1, by omega⟩
                      rw [hj] at hit
                      unfold iter at hit
                      cases z4 : ev n (a1 :: r) (p + 1 + t1.size) t2 with
                      | none => rw [z4] at hit; cases hit
                      | some v4 =>
                        obtain ⟨w4, c4⟩ := v4
                        rw [z4] at hit
                        simp only at hit
                        cases z5 : iter (fun w => ev n (w :: r) (p + 1 + t1.size) t2) p j w4 with
                        | none => rw [z5] at hit; cases hit
                        | some v5 =>
                          obtain ⟨w5, c5⟩ := v5
                          rw [z5] at hit
                          cases hit
                          have hz2 : cs0.length + (ca.length + (c4.length + c5.length + 1)) ≤ 2000000 := by
                            have h := congrArg List.length hcc
                            simp only [List.length_append, List.length_cons] at h hz
                            omega
                          walk_at "rd"
                          refine kbm_go hq ?_
                          walk_at "rd"
                          refine app_cl (K := K) hq (by simp only [List.length_append]; omega) fun Ha ka hqa => ?_
                          have sa := sq.trans ka.hid
                          have hua := hu.mono ka.hid
                          walk_at "rd"
                          refine ixl_go (hid_le.seq (sa.seq hT3)) at1 ?_
                          walk_at "rd"
                          refine kln_go len_ok fun lb Hb hlb sb eb => ?_
                          have sab := sa.trans (Kp.same sb).hid
                          have hub := hua.mono (Kp.same sb).hid
                          have hqb := sb _ _ hqa
                          walk_at "rd"
                          refine cat_rw (cl := cl) eb hub (hR.mono sab) (by omega) (fun pr Hd sd hrd => ?_) ⟨_, hqb⟩
                          have sad := sab.trans (Kp.same sd).hid
                          have hqd := sd _ _ hqb
                          walk_at "rd"
                          refine ⟨_, pr, cl, p + 1 + t1.size, t2, a1 :: r, cs0 ++ ca ++ [p], c4, w4, rfl, hT5.mono sad, hrd, hqd, by simp only [List.length_append, List.length_cons, List.length_nil]; omega, (by simp only [Tm.size] at hs; rw [List.length_cons]; omega), z4, fun v He ke hve hqe => ?_⟩
                          walk_at "rd"
                          refine ⟨v, w4, ca ++ p :: c4, c5, _, rfl, kq.trans (ka.trans ((Kp.same (sb.trans sd)).trans ke)), ?_, hve, ?_, ?_⟩
                          · rw [hqe]; simp only [List.append_assoc, List.cons_append, List.nil_append]
                          · rw [show k - (i + 1) = j by omega]; exact z5
                          · rw [← hcc]; simp only [List.append_assoc, List.cons_append]
                    · rintro σ H' ⟨u, a1, ca, cr, x9, rfl, kq, hq, hu, hit, hcc⟩
                      rw [Nat.sub_self] at hit
                      cases hit
                      walk_at "rd"
                      rw [List.append_nil] at hcc
                      refine q _ H' kq hu ?_
                      rw [hq, hcc]
end
end K42

/-! KL7 -/
/-! the law: the worth of a program; a program of a kind -/
namespace K42
open PySem PySem.Spec L2 He
local macro_rules | `(tactic| walk_at "rd") => `(tactic| repeat (first | ((with_reducible refine' rd_var ?hvar ?_); (case hvar => exact rfl)) | with_reducible refine rd_seq ?_ | with_reducible refine rd_asg ?_ | with_reducible refine rd_ret ?_ | with_reducible refine rd_drop ?_ | with_reducible refine rd_ifs ?_ | with_reducible refine rd_name ?_ | with_reducible refine rd_c ?_ | with_reducible refine rd_cons ?_ | with_reducible refine rd_nil ?_ | with_reducible refine rd_cb ?_ | with_reducible refine rd_op ?_ | with_reducible refine rd_test ?_ | with_reducible refine rd_tb ?_ | with_reducible refine rd_and ?_ | with_reducible refine rd_or ?_ | with_reducible refine rd_not ?_ | with_reducible refine rd_andv ?_ | with_reducible refine rd_orv ?_ | with_reducible refine rd_notv ?_ | with_reducible refine rd_if ?_ | with_reducible refine rd_nx ?_ | with_reducible refine rd_retn ?_ | with_reducible refine rd_par ?_ | with_reducible refine rd_par3 ?_ | with_reducible refine rd_tup ?_ | with_reducible refine rd_lst ?_ | with_reducible refine rd_call ?_ | with_reducible refine rd_meth ?_ | with_reducible refine rd_make ?_ | with_reducible refine rd_fld ?_ | with_reducible refine rd_sfld ?_ | with_reducible refine rd_bm ?_ | with_reducible refine rd_bm0 ?_ | with_reducible refine rd_prop ?_ | with_reducible refine rd_dget ?_ | with_reducible refine rd_dnin ?_ | with_reducible refine rd_chain ?_ | with_reducible refine rd_sub ?_ | with_reducible refine rd_un ?_ | with_reducible refine rd_fl ?_ | with_reducible refine rd_ft ?_ | with_reducible refine rd_fr ?_ | with_reducible refine rd_fd ?_ | with_reducible refine rd_fe ?_ | with_reducible refine rd_ll ?_ | with_reducible refine rd_le ?_ | with_reducible refine rd_yes ?_ | with_reducible refine rd_dg2 ?_ | with_reducible refine rd_calld ?_ | with_reducible refine rd_lt ?_ | with_reducible refine rd_rev ?_ | with_reducible refine rd_sl ?_ | with_reducible refine rd_thru ?_ | with_reducible refine kb_go ?_ | with_reducible refine kpar_go ?_ | with_reducible refine kpar3_go ?_ | with_reducible refine ri0_go ?_ | with_reducible refine ru_go ?_ | ((with_reducible refine ifT ?hift ?_); (case hift => exact rfl)) | ((with_reducible refine ifF ?hiff ?_); (case hiff => exact rfl))))
local macro_rules | `(tactic| walk_at "dt") => `(tactic| first | refine ifT (by decide +kernel) ?_ | ((refine ifT ?hdt ?_); (case hdt => exact decide_eq_true (by omega))))
local macro_rules | `(tactic| walk_at "df") => `(tactic| first | refine ifF (by decide +kernel) ?_ | ((refine ifF ?hdf ?_); (case hdf => exact decide_eq_false (by omega))))

section
variable {P : Program} {w : World} {K : PySem.W.Frag} {mg : Str → Option Value} {base : Heap}
def sp_law_worth (K : PySem.W.Frag) : Sp := fun vs H Q _ => ∃ (l : Addr) (Z : Tm) (f : W) (ds : List Nat), vs = [.ref l] ∧ NlAt K H l Z ∧ Z.ok ∧ Z.size ≤ 40 ∧ ev 40 [] 0 Z = some (f, ds) ∧ ds.length ≤ 2000000 ∧
  ∀ r cl v H1, Same H H1 → H cl = none → H1 r = some (.tup [v, .ref cl]) → H1 cl = some (.lst (ds.map iv)) → (Dw f → DwAt K H1 v f) → Q (.ref r) H1
theorem ok_law_worth (T : Tx w K mg) : OkF P w K mg base 42 (ga K "_law_worth") ["_law_program_here"] (sp_law_worth K) := by
  have G_law_tree := ok_law_tree (P := P) (base := base) T 40
  have G_law_run := ok_law_run (P := P) (base := base) T 40
  refine okF T.f_law_worth rfl sc_law_worth b_law_worth (fun vs H Q E h => by obtain ⟨_, _, _, _, rfl, _⟩ := h; rfl) (fun cdv A outer s H vs Q E hr h => ?_)
  obtain ⟨l, Z, f, ds, rfl, hN, hZ, hz, hev, hd, q⟩ := h
  refine ⟨_, (pss_cons (ps_set (i := 1) sc_law_worth.nd rfl (Or.inl rfl) (pe_lst pa_nil))
      (pss_cons (ps_set (i := 2) sc_law_worth.nd rfl (Or.inl rfl) (pe_f G_law_run T.g_law_run (hr.mono (by decide)) (pa_cons (pe_ix ix_tup (pe_f G_law_tree T.g_law_tree (hr.mono (by decide)) (pa_cons (pv 0) (pa_cons pe_int pa_nil))) pe_int (fun _ _ => rfl)) (pa_cons (pe_lst pa_nil) (pa_cons (pv 1) pa_nil)))))
      (pss_one (ps_ret (pe_tup (pa_cons (pv 2) (pa_cons (pv 1) pa_nil))))))), ?_⟩
  walk_at "rd"
  refine kln_go len_ok fun cl H1 hcl s1 e1 => ?_
  walk_at "rd"
  refine ⟨l, Z, Z, 0, rfl, hN.mono s1, .top Z, hZ, hz, fun r tv H2 s2 e2 htr => ?_⟩
  have hT := htr (fun b => b = cl) fun b z => ⟨.lst [], (show b = cl from z) ▸ e1, ⟨(fun xs z => by cases z), (fun y xs z => by cases z)⟩⟩
  walk_at "rd"
  refine ixt_go (sqT_of e2) at0 ?_
  walk_at "rd"
  refine kln_go len_ok fun rw H3 hrw s3 e3 => ?_
  walk_at "rd"
  have e13 := s3 _ _ (s2 _ _ e1)
  have nrw : rw ≠ cl := fun z => by
    have := s2 _ _ e1
    rw [← z, hrw] at this
    cases this
  refine ⟨tv, rw, cl, 0, Z, [], [], ds, f, rfl, hT.mono (Kp.same s3).hid, .row (hid_at e3 nrw) rfl (fun i v u h1 h2 => by simp at h1), e13, by simpa using hd, by simp only [List.length_nil]; omega, hev, fun v H4 k4 hv e4 => ?_⟩
  walk_at "rd"
  refine ktn_go len_ok fun r2 H5 hr2 s5 e5 => ?_
  have s13 := s1.trans (s2.trans s3)
  have s05 : Same H H5 := fun b o hb => s5 _ _ (k4 b o (s13 _ _ hb) fun z => by
    rw [show b = cl from z, hcl] at hb
    cases hb)
  exact q r2 cl v H5 s05 hcl e5 (s5 _ _ (by rw [e4]; rfl)) fun hf => ((hv.dw hf).tp (.same hid_le)).tp (.same s5)
theorem dws_dw {f : W} {n : Nat} (h : Dws f n) : Dw f ∧ f.dp ≤ n := by
  induction h with
  | int => exact ⟨.int, Nat.zero_le _⟩
  | both _ _ i1 i2 => exact ⟨.both i1.1 i2.1, by have := i1.2; have := i2.2; simp only [W.dp]; omega⟩
  | left _ i1 => exact ⟨.left i1.1, by have := i1.2; simp only [W.dp]; omega⟩
  | right _ i1 => exact ⟨.right i1.1, by have := i1.2; simp only [W.dp]; omega⟩
/-- a drawn program that is short enough -/
theorem pg_of {Z : Tm} {k : Kd} {f : W} {ds : List Nat} (hk : k ∈ DK) (wt : WT [] Z k) (ok : Z.ok) (sz : Z.size ≤ 40) (ev_ : ev 40 [] 0 Z = some (f, ds)) (sh : Sh k f) (few : ds.length ≤ 40) : PgOk Z k f ds ∧ Sm f := by
  obtain ⟨h1, h2, h3, h4, h5⟩ := DK.ok hk
  obtain ⟨d1, d2⟩ := dws_dw (sh.dws h4 (n := 12) (by omega))
  exact ⟨⟨ok, sz, wt, h4, by omega, d1, d2, few, 40, ev_⟩, ev_sm _ _ _ _ _ _ ok .nil ev_⟩
def sp_law_program (K : PySem.W.Frag) : Sp := fun vs H Q _ => ∃ (a : Addr) (kv : V) (k : Kd), vs = [.ref a, kv, .int 4] ∧ PotAt H a ∧ KdAt K H kv k ∧ k ∈ DK ∧
  ∀ l Z f ds H1, Kq a H H1 → PotAt H1 a → H l = none → NlAt K H1 l Z → PgOk Z k f ds → Sm f → ev 40 [] 0 Z = some (f, ds) → Q (.ref l) H1
theorem ok_law_program (T : Tx w K mg) : OkF P w K mg base 43 (ga K "_law_program") ["_law_pot_here", "_law_kind", "_law_deep"] (sp_law_program K) := by
  have G_law_term := ok_law_term (P := P) (base := base) T 4
  have G_law_leaf := ok_law_leaf (P := P) (base := base) T 10
  have G_law_worth := ok_law_worth (P := P) (base := base) T
  refine okF T.f_law_program rfl sc_law_program b_law_program (fun vs H Q E h => by obtain ⟨_, _, _, rfl, _⟩ := h; rfl) (fun cdv A outer s H vs Q E hr h => ?_)
  obtain ⟨a, kv, k, rfl, hp, hkv, hk, q⟩ := h
  obtain ⟨c1, c2, c3, c4, c5⟩ := DK.ok hk
  have hc : Kc 4 [] k := ⟨by omega, by omega, by omega, by simp, (fun l hl => by cases hl), c1⟩
  refine ⟨_, (pss_cons (ps_set (i := 3) sc_law_program.nd rfl (Or.inl rfl) (pe_f G_law_term T.g_law_term (hr.mono (by decide)) (pa_cons (pv 0) (pa_cons (pv 1) (pa_cons (pe_lst pa_nil) (pa_cons (pv 2) pa_nil))))))
      (pss_one (ps_ret (pe_ifExp (PW.pt (pw_and (pt_cmpR op_lt (pe_callB call_ln (by rfl) T.n_len PySem.boot_len (pa_cons (pv 3) pa_nil)) pe_int (nomark _)) (pw_and1 (pt_cmpR op_lt (pe_callB call_ln (by rfl) T.n_len PySem.boot_len (pa_cons (pe_ix ix_tup (pe_f G_law_worth T.g_law_worth (hr.mono (by decide)) (pa_cons (pv 3) pa_nil)) pe_int (fun _ _ => rfl)) pa_nil)) pe_int (nomark _))))) (pv 3) (pe_f G_law_leaf T.g_law_leaf (hr.mono (by decide)) (pa_cons (pv 0) (pa_cons (pv 1) (pa_cons (pe_lst pa_nil) pa_nil)))))))), ?_⟩
  walk_at "rd"
  refine kln_go len_ok fun nl H1 hnl s1 e1 => ?_
  have hL1 : Lx K H1 a nl [] := ⟨hp.mono s1, ⟨[], e1, .nil⟩, hp.ne hnl⟩
  walk_at "rd"
  refine go_term hL1 (hkv.mono s1) hc (by rfl) fun l t H2 hl k2 hp2 ht hlt => ?_
  have k02 : Kq a H H2 := (Kp.same s1).trans k2
  have hkv2 : KdAt K H2 kv k := (hkv.mono s1).tp (k2.tp (hp.mono s1))
  obtain ⟨wt, ok, zz⟩ := gn_wt ht (by omega) (by omega) (by omega) (by simp) (fun l hl => by cases hl) c1
  obtain ⟨f, ds, hev, hds, hsh⟩ := gn_ev ht c1 (by omega) c5
  walk_at "rd"
  obtain ⟨zs, hl2, hal⟩ := id hlt
  have hlen : zs.length = t.size := by rw [hal.len, Tm.len]
  have fin : ∀ H3 nl2 H4, Kq a H H3 → PotAt H3 a → KdAt K H3 kv k → H3 nl2 = none → Same H3 H4 → H4 nl2 = some (.lst []) → sp_law_leaf K 10 [.ref a, kv, .ref nl2] H4 Q E0 := fun H3 nl2 H4 k3 hp3 hk3 n3 s4 e4 =>
    go_leaf ⟨hp3.mono s4, ⟨[], e4, .nil⟩, hp3.ne n3⟩ (hk3.mono s4) hc.s0 fun l t H5 hl5 k5 hp5 hlf hln => by
      obtain ⟨wt, ok, zz⟩ := lf_wt hlf ⟨by omega, by omega⟩ (by rw [List.length_nil]; omega)
      obtain ⟨f, hev, hsh⟩ := lf_gev hlf c1 (by omega)
      obtain ⟨pg, sm⟩ := pg_of hk wt ok (by omega) hev hsh (Nat.zero_le _)
      exact q l t f [] H5 (k3.trans ((Kp.same s4).trans k5)) hp5 (Kq.free (k3.trans (Kp.same s4)) (hp3.mono s4) hl5) hln pg sm hev
  refine lnl_go (sqL_of hl2) ?_
  walk_at "rd"
  by_cases h41 : zs.length < 41
  · refine ifT (decide_eq_true (by omega)) ?_
    walk_at "rd"
    refine ⟨l, t, f, ds, rfl, hlt, ok, by omega, hev, by omega, fun r cl v H3 s3 hcl e3 e4 _ => ?_⟩
    walk_at "rd"
    refine ixt_go (sqT_of e3) at1 ?_
    walk_at "rd"
    refine lnl_go (sqL_of e4) ?_
    rw [List.length_map]
    walk_at "rd"
    by_cases h42 : ds.length < 41
    · refine ifT (decide_eq_true (by omega)) ?_
      walk_at "rd"
      obtain ⟨pg, sm⟩ := pg_of hk wt ok (by omega) hev hsh (by omega)
      exact q l t f ds H3 (k02.trans (Kp.same s3)) (hp2.mono s3) (Kq.free (Kp.same s1) (hp.mono s1) hl) (hlt.mono s3) pg sm hev
    · refine ifF (decide_eq_false (by omega)) ?_
      walk_at "rd"
      refine kln_go len_ok fun nl2 H4 n4 s4 e5 => ?_
      walk_at "rd"
      exact fin H3 nl2 H4 (k02.trans (Kp.same s3)) (hp2.mono s3) (hkv2.mono s3) n4 s4 e5
  · refine ifF (decide_eq_false (by omega)) ?_
    walk_at "rd"
    refine kln_go len_ok fun nl2 H4 n4 s4 e5 => ?_
    walk_at "rd"
    exact fin H2 nl2 H4 k02 hp2 hkv2 n4 s4 e5
end
end K42

/-! KL8a -/
/-! two runs side by side -/
namespace K42
open PySem PySem.Spec L2 He
section
variable {K : PySem.W.Frag} {X Y : Addr → Prop} {H H1 H2 : Hp} {rn e ol wl cl : Addr} {Z : Tm} {F : Kd} {os : List Od} {ws : List W} {cs : List Nat}
/-- new places may be hidden, too -/
theorem RnAt.and (h : RnAt K X H rn e ol wl cl Z F os ws cs) (s : Same H H1) (hy : ∀ b, Y b → H b = none) : RnAt K (fun b => X b ∨ Y b) H1 rn e ol wl cl Z F os ws cs := by
  obtain ⟨dx, kv, h1, h2, m⟩ := h.mono s
  obtain ⟨_, _, _, _, m0⟩ := h
  obtain ⟨dx2, a, ch, us, he⟩ := m0.en
  refine ⟨dx, kv, h1, h2, ⟨⟨dx2, a, ch, us, he.mono fun b o hb => ?_⟩, m.o, m.w, m.c, m.ow, m.oc, m.wc⟩⟩
  obtain ⟨e1, n1⟩ := of_hid hb
  refine hid_at (s _ _ e1) fun z => z.elim (fun y => n1 (.inl y)) fun y => y.elim (fun y => n1 (.inr y)) fun y => ?_
  rw [hy b y] at e1
  cases e1
/-- a new run -/
theorem mkR {a : Addr} {f : W} {ds : List Nat} {E : XK} {Q : VK} (hN : NlAt K H a Z) (hp : PgOk Z F f ds) (q : ∀ x e ol wl cl H1, (∀ b, Mu ol wl cl b → H b = none) → Same H H1 → (∀ X, ntS H X → RnAt K X H1 x e ol wl cl Z F [.see 0 []] [] []) → Q (.ref x) H1) :
    KMk (ga K "Run") (sp_Run_init K) E Q [.ref a] H := by
  intro x dx hx hdx ndx
  have s0 : Same H (upd (upd H dx (.own x)) x (.ins (ga K "Run") dx [])) := fun b o hb => by rw [upd_ne (ne_of_none hb hx), upd_ne (ne_of_none hb hdx)]; exact hb
  refine ⟨x, dx, a, Z, F, f, ds, rfl, upd_same, hN.mono s0, hp, fun e ol wl cl H1 hol hwl hcl k1 hR => ⟨rfl, q x e ol wl cl H1 ?_ (fun b o hb => k1 b o (s0 _ _ hb) (ne_of_none hb hx)) fun X hX => hR X (fun z => ?_) fun b hb => ?_⟩⟩
  · rintro b (rfl | rfl | rfl)
    · exact s0.free hol
    · exact s0.free hwl
    · exact s0.free hcl
  · obtain ⟨o, e, _⟩ := hX x z
    rw [hx] at e
    cases e
  · obtain ⟨o, e, n⟩ := hX b hb
    exact ⟨o, s0 _ _ e, n⟩
theorem Kq.mu {a : Addr} (k : Kq a H H1) (k2 : Kp (Mu ol wl cl) H1 H2) (n : ∀ b, Mu ol wl cl b → H b = none) : Kq a H H2 := fun b o hb nb => k2 b o (k b o hb nb) fun z => by
  rw [n b z] at hb
  cases hb
theorem PotAt.mu {a : Addr} (h : PotAt H a) (k2 : Kp (Mu ol wl cl) H H1) (n : ¬ Mu ol wl cl a) : PotAt H1 a := by
  obtain ⟨x, y, h1, h2⟩ := h
  exact ⟨x, y, k2 _ _ h1 n, h2⟩
theorem PotAt.some {a : Addr} (h : PotAt H a) : ∃ us, H a = some (.lst us) := by
  obtain ⟨x, y, h1, _⟩ := h
  exact ⟨_, h1⟩
end
/-- a run that is at its end -/
theorem Go.end_ {Z : Tm} {f : W} {n : Nat} {os : List Od} {ws : List W} (h : Go Z f n os ws []) (e : Ends os []) : os = [] ∧ ws = [f] := by
  rcases e with ⟨rfl, _⟩ | ⟨_, z⟩
  · cases h with
    | done => exact ⟨rfl, rfl⟩
    | step s _ => cases s
  · exact absurd rfl z
/-- what is new, and apart -/
structure Apart (H1 : Hp) (a g ol wl cl ol2 wl2 cl2 : Addr) : Prop where
  n1 : ∀ b, Mu ol wl cl b → H1 b = none
  n2 : ∀ b, Mu ol2 wl2 cl2 b → H1 b = none
  ng : H1 g = none
  pa : ∃ o, H1 a = some o
  dj : ∀ b, Mu ol wl cl b → ¬ Mu ol2 wl2 cl2 b
  g1 : ¬ Mu ol wl cl g
  g2 : ¬ Mu ol2 wl2 cl2 g
theorem Apart.a1 {H1 : Hp} {a g ol wl cl ol2 wl2 cl2 : Addr} (h : Apart H1 a g ol wl cl ol2 wl2 cl2) : ¬ Mu ol wl cl a := fun z => by
  obtain ⟨o, e⟩ := h.pa
  rw [h.n1 a z] at e
  cases e
theorem Apart.a2 {H1 : Hp} {a g ol wl cl ol2 wl2 cl2 : Addr} (h : Apart H1 a g ol wl cl ol2 wl2 cl2) : ¬ Mu ol2 wl2 cl2 a := fun z => by
  obtain ⟨o, e⟩ := h.pa
  rw [h.n2 a z] at e
  cases e
def Hx (a g ol wl cl : Addr) (b : Addr) : Prop := b = a ∨ (b = g ∨ Mu ol wl cl b)
/-- two runs of one program -/
structure Two (K : PySem.W.Frag) (H1 H : Hp) (a g x e ol wl cl x2 e2 ol2 wl2 cl2 : Addr) (Z : Tm) (F : Kd) (os : List Od) (ws : List W) (cs : List Nat) (os2 : List Od) (ws2 : List W) (cs2 : List Nat) : Prop where
  ap : Apart H1 a g ol wl cl ol2 wl2 cl2
  kk : Kq a H1 H
  pot : PotAt H a
  gl : ∃ us, H g = some (.lst us)
  r1 : RnAt K (Hx a g ol2 wl2 cl2) H x e ol wl cl Z F os ws cs
  r2 : RnAt K (Hx a g ol wl cl) H x2 e2 ol2 wl2 cl2 Z F os2 ws2 cs2
section
variable {K : PySem.W.Frag} {H1 H H' : Hp} {a g x e ol wl cl x2 e2 ol2 wl2 cl2 : Addr} {Z : Tm} {F : Kd} {os os' : List Od} {ws ws' : List W} {cs cs' : List Nat} {os2 : List Od} {ws2 : List W} {cs2 : List Nat}
theorem Two.mono (t : Two K H1 H a g x e ol wl cl x2 e2 ol2 wl2 cl2 Z F os ws cs os2 ws2 cs2) (s : Same H H') : Two K H1 H' a g x e ol wl cl x2 e2 ol2 wl2 cl2 Z F os ws cs os2 ws2 cs2 := by
  obtain ⟨us, hg⟩ := t.gl
  exact ⟨t.ap, t.kk.trans (Kp.same s), t.pot.mono s, ⟨us, s _ _ hg⟩, t.r1.mono s, t.r2.mono s⟩
/-- a step of the first one -/
theorem Two.one (t : Two K H1 H a g x e ol wl cl x2 e2 ol2 wl2 cl2 Z F os ws cs os2 ws2 cs2) (k : Kp (Mu ol wl cl) H H') (r : RnAt K (Hx a g ol2 wl2 cl2) H' x e ol wl cl Z F os' ws' cs') : Two K H1 H' a g x e ol wl cl x2 e2 ol2 wl2 cl2 Z F os' ws' cs' os2 ws2 cs2 := by
  obtain ⟨us, hg⟩ := t.gl
  exact ⟨t.ap, t.kk.mu k t.ap.n1, t.pot.mu k t.ap.a1, ⟨us, k _ _ hg t.ap.g1⟩, r, t.r2.off k (fun b z => .inr (.inr z)) t.r1.ms.lstMu fun b z z2 => t.ap.dj b z2 z⟩
/-- a step of the second one -/
theorem Two.two (t : Two K H1 H a g x e ol wl cl x2 e2 ol2 wl2 cl2 Z F os ws cs os2 ws2 cs2) (k : Kp (Mu ol2 wl2 cl2) H H') (r : RnAt K (Hx a g ol wl cl) H' x2 e2 ol2 wl2 cl2 Z F os' ws' cs') : Two K H1 H' a g x e ol wl cl x2 e2 ol2 wl2 cl2 Z F os ws cs os' ws' cs' := by
  obtain ⟨us, hg⟩ := t.gl
  exact ⟨t.ap, t.kk.mu k t.ap.n2, t.pot.mu k t.ap.a2, ⟨us, k _ _ hg t.ap.g2⟩, t.r1.off k (fun b z => .inr (.inr z)) t.r2.ms.lstMu fun b z z2 => t.ap.dj b z z2, r⟩
/-- what becomes of the list that was handed -/
theorem Two.given {us : List V} (t : Two K H1 H a g x e ol wl cl x2 e2 ol2 wl2 cl2 Z F os ws cs os2 ws2 cs2) : Two K H1 (upd H g (.lst us)) a g x e ol wl cl x2 e2 ol2 wl2 cl2 Z F os ws cs os2 ws2 cs2 := by
  have k : Kp (fun b => b = g) H (upd H g (.lst us)) := Kp.mut rfl
  have hl : ∀ b, b = g → ∃ us, H b = some (.lst us) := fun b z => z ▸ t.gl
  have nga : a ≠ g := fun z => by
    obtain ⟨o, e⟩ := t.ap.pa
    rw [z, t.ap.ng] at e
    cases e
  obtain ⟨px, py, hp1, hp2⟩ := t.pot
  refine ⟨t.ap, fun b o hb nb => k b o (t.kk b o hb nb) fun z => ?_, ⟨px, py, by rw [upd_ne nga]; exact hp1, hp2⟩, ⟨us, upd_same⟩, t.r1.off k (fun b z => .inr (.inl z)) hl fun b z z2 => t.ap.g1 (z2 ▸ z), t.r2.off k (fun b z => .inr (.inl z)) hl fun b z z2 => t.ap.g2 (z2 ▸ z)⟩
  rw [show b = g from z, t.ap.ng] at hb
  cases hb
/-- the second one is made -/
theorem Two.mk_ {H3 H4 H5 : Hp} {us : List V} (kk : Kq a H1 H3) (pot : PotAt H3 a) (p1 : PotAt H1 a) (n1 : ∀ b, Mu ol wl cl b → H1 b = none) (r1 : RnAt K (fun b => b = a) H3 x e ol wl cl Z F os ws cs) (hg : H3 g = none) (s4 : Same H3 H4) (e4 : H4 g = some (.lst us))
    (hM : ∀ b, Mu ol2 wl2 cl2 b → H4 b = none) (s5 : Same H4 H5) (hR : ∀ X, ntS H4 X → RnAt K X H5 x2 e2 ol2 wl2 cl2 Z F os2 ws2 cs2) : Two K H1 H5 a g x e ol wl cl x2 e2 ol2 wl2 cl2 Z F os ws cs os2 ws2 cs2 := by
  have s35 := s4.trans s5
  have lst1 := r1.ms.lstMu
  have new3 : ∀ b, Mu ol2 wl2 cl2 b → H3 b = none := fun b z => s4.free (hM b z)
  have some1 : ∀ b, Mu ol wl cl b → ∃ us, H3 b = some (.lst us) := lst1
  have fr : ∀ {b}, H3 b = none → H1 b = none := fun h => Kq.free kk pot h
  refine ⟨⟨n1, fun b z => fr (new3 b z), fr hg, ?_, fun b z z2 => ?_, fun z => ?_, fun z => ?_⟩, kk.trans (Kp.same s35), pot.mono s35, ⟨us, s5 _ _ e4⟩, r1.and s35 fun b z => z.elim (fun z => z ▸ hg) (new3 b), hR _ fun b z => ?_⟩
  · obtain ⟨us, h⟩ := p1.some
    exact ⟨_, h⟩
  · obtain ⟨us, h⟩ := some1 b z
    rw [new3 b z2] at h
    cases h
  · obtain ⟨us, h⟩ := some1 g z
    rw [hg] at h
    cases h
  · have := hM g z
    rw [e4] at this
    cases this
  · have key : ∃ us, H4 b = some (.lst us) := by
      rcases z with z | z | z
      · obtain ⟨us, h⟩ := (pot.mono s4).some
        exact ⟨us, z ▸ h⟩
      · exact ⟨_, z ▸ e4⟩
      · obtain ⟨us, h⟩ := some1 b z
        exact ⟨us, s4 _ _ h⟩
    obtain ⟨us, h⟩ := key
    exact ⟨_, h, ⟨(fun xs z => by cases z), (fun y xs z => by cases z)⟩⟩
end
end K42

/-! KL8 -/
/-! the law: a run is right -/
namespace K42
open PySem PySem.Spec L2 He
local macro_rules | `(tactic| walk_at "rd") => `(tactic| repeat (first | ((with_reducible refine' rd_var ?hvar ?_); (case hvar => exact rfl)) | with_reducible refine rd_seq ?_ | with_reducible refine rd_asg ?_ | with_reducible refine rd_ret ?_ | with_reducible refine rd_drop ?_ | with_reducible refine rd_ifs ?_ | with_reducible refine rd_name ?_ | with_reducible refine rd_c ?_ | with_reducible refine rd_cons ?_ | with_reducible refine rd_nil ?_ | with_reducible refine rd_cb ?_ | with_reducible refine rd_op ?_ | with_reducible refine rd_test ?_ | with_reducible refine rd_tb ?_ | with_reducible refine rd_and ?_ | with_reducible refine rd_or ?_ | with_reducible refine rd_not ?_ | with_reducible refine rd_andv ?_ | with_reducible refine rd_orv ?_ | with_reducible refine rd_notv ?_ | with_reducible refine rd_if ?_ | with_reducible refine rd_nx ?_ | with_reducible refine rd_retn ?_ | with_reducible refine rd_par ?_ | with_reducible refine rd_par3 ?_ | with_reducible refine rd_tup ?_ | with_reducible refine rd_lst ?_ | with_reducible refine rd_call ?_ | with_reducible refine rd_meth ?_ | with_reducible refine rd_make ?_ | with_reducible refine rd_fld ?_ | with_reducible refine rd_sfld ?_ | with_reducible refine rd_bm ?_ | with_reducible refine rd_bm0 ?_ | with_reducible refine rd_prop ?_ | with_reducible refine rd_dget ?_ | with_reducible refine rd_dnin ?_ | with_reducible refine rd_chain ?_ | with_reducible refine rd_sub ?_ | with_reducible refine rd_un ?_ | with_reducible refine rd_fl ?_ | with_reducible refine rd_ft ?_ | with_reducible refine rd_fr ?_ | with_reducible refine rd_fd ?_ | with_reducible refine rd_fe ?_ | with_reducible refine rd_ll ?_ | with_reducible refine rd_le ?_ | with_reducible refine rd_yes ?_ | with_reducible refine rd_dg2 ?_ | with_reducible refine rd_calld ?_ | with_reducible refine rd_lt ?_ | with_reducible refine rd_rev ?_ | with_reducible refine rd_sl ?_ | with_reducible refine rd_thru ?_ | with_reducible refine kb_go ?_ | with_reducible refine kpar_go ?_ | with_reducible refine kpar3_go ?_ | with_reducible refine ri0_go ?_ | with_reducible refine ru_go ?_ | ((with_reducible refine ifT ?hift ?_); (case hift => exact rfl)) | ((with_reducible refine ifF ?hiff ?_); (case hiff => exact rfl))))
local macro_rules | `(tactic| walk_at "dt") => `(tactic| first | refine ifT (by decide +kernel) ?_ | ((refine ifT ?hdt ?_); (case hdt => exact decide_eq_true (by omega))))
local macro_rules | `(tactic| walk_at "df") => `(tactic| first | refine ifF (by decide +kernel) ?_ | ((refine ifF ?hdf ?_); (case hdf => exact decide_eq_false (by omega))))

theorem told_bl (b : Bool) : Told (.bool b) := ⟨by cases b <;> decide +kernel, by cases b <;> decide +kernel, by cases b <;> decide +kernel, by cases b <;> decide +kernel⟩
section
variable {P : Program} {w : World} {K : PySem.W.Frag} {mg : Str → Option Value} {base : Heap}
def sp_law_run_right (K : PySem.W.Frag) : Sp := fun vs H Q _ => ∃ (a l : Addr) (Z : Tm) (F : Kd) (f : W) (ds : List Nat), vs = [.ref a, .ref l] ∧ PotAt H a ∧ l ≠ a ∧ NlAt K H l Z ∧ PgOk Z F f ds ∧ Sm f ∧ ev 40 [] 0 Z = some (f, ds) ∧
  ∀ H1, Kq a H H1 → PotAt H1 a → Q (.bl true) H1
theorem ok_law_run_right (T : Tx w K mg) : OkG P w K mg base 44 (ga K "_law_run_right") ["_law_pot_here", "_law_program_here"] (sp_law_run_right K) := by
  have G_law_worth := ok_law_worth (P := P) (base := base) T
  have G_law_draw := ok_law_draw (P := P) (base := base) T
  have G_Run_init := ok_Run_init (P := P) (base := base) T
  have G_Run_calls := ok_Run_calls (P := P) (base := base) T
  have G_Run_is_done := ok_Run_is_done (P := P) (base := base) T
  have G_Run_go := ok_Run_go (P := P) (base := base) T
  have G_Run_value := ok_Run_value (P := P) (base := base) T
  have G_value_of := ok_value_of (P := P) (base := base) T
  have G_call_count := ok_call_count (P := P) (base := base) T
  obtain ⟨fdI, fI, F_init⟩ := okk_Run_init (P := P) (base := base) T
  obtain ⟨fdG, fG, F_go⟩ := okk_Run_go (P := P) (base := base) T
  have kb_init := kbn2 (x := "self") (y := "program") fI fun _ _ _ _ _ _ _ _ => rfl
  have kb_go := kbn2 (x := "self") (y := "many") fG fun _ _ _ _ _ _ _ _ => rfl
  refine okG T.f_law_run_right rfl sc_law_run_right b_law_run_right (fun vs H Q E h => by obtain ⟨_, _, _, _, _, _, rfl, _⟩ := h; rfl) (fun cdv A outer s H vs Q E hr hG h => ?_)
  obtain ⟨a, l, Z, F, f, ds, rfl, hp, hla, hN, pg, sm, hev, q⟩ := h
  refine ⟨_, (pss_cons (ps_asg (pe_f G_law_worth T.g_law_worth (hr.mono (by decide)) (pa_cons (pv 1) pa_nil)) (pg_tup (by rfl) (pgs_cons (pg_name (i := 2) sc_law_run_right.nd rfl (Or.inl rfl)) (pgs_cons (pg_name (i := 3) sc_law_run_right.nd rfl (Or.inl rfl)) pgs_nil))))
      (pss_cons (ps_par (i := 4) (j := 5) (by rfl) sc_law_run_right.nd rfl rfl (by decide) rfl rfl (pa_cons (pe_n T.mk_Run G_Run_init T.g_Run (hr.mono (by decide)) (pa_cons (pv 1) pa_nil)) (pa_cons pe_int pa_nil)) (by rfl))
      (pss_cons (ps_if (PW.pt (pw_or (pt_cmpR op_ne (pe_pr (pv 4) T.c_Run T.p_calls G_Run_calls (hr.mono (by decide))) pe_int (nomark _)) (pw_or1 (pt_cmpR op_notBl (pe_pr (pv 4) T.c_Run T.p_is_done G_Run_is_done (hr.mono (by decide))) pe_bl (nomark _))))) (pss_one (ps_ret pe_bl)) pss_nil)
      (pss_cons (ps_for PassesOwn.never rfl (pi_range1 (by rfl) T.n_range (pa_cons (pe_op op_add (pe_callB call_ln (by rfl) T.n_len PySem.boot_len (pa_cons (pv 3) pa_nil)) pe_int) pa_nil)) (pg_name (i := 6) sc_law_run_right.nd rfl (Or.inl rfl)) (pss_cons (ps_set (i := 7) sc_law_run_right.nd rfl (Or.inl rfl) (pe_f G_law_draw T.g_law_draw (hr.mono (by decide)) (pa_cons (pv 0) (pa_cons pe_int pa_nil))))
      (pss_cons (ps_set (i := 8) sc_law_run_right.nd rfl (Or.inl rfl) (pe_o (pv 4) T.c_Run T.m_Run_go G_Run_go (hr.mono (by decide)) (pa_cons (pv 7) pa_nil)))
      (pss_cons (ps_set (i := 5) sc_law_run_right.nd rfl (Or.inl rfl) (pe_callB (call_min2 rfl) (by rfl) T.n_min (by decide +kernel) (pa_cons (pe_op op_add (pv 5) (pv 7)) (pa_cons (pe_callB call_ln (by rfl) T.n_len PySem.boot_len (pa_cons (pv 3) pa_nil)) pa_nil))))
      (pss_cons (ps_if (PW.pt (pw_or (pt_cmpR op_ne (pe_pr (pv 4) T.c_Run T.p_calls G_Run_calls (hr.mono (by decide))) (pv 5) (nomark _)) (pw_or1 (PW.pt (pw_and (pt_cmpR op_lt (pv 5) (pe_callB call_ln (by rfl) T.n_len PySem.boot_len (pa_cons (pv 3) pa_nil)) (nomark _)) (pw_and1 (pt_cmpR op_notBl (pv 8) pe_bl (nomark _)))))))) (pss_one (ps_ret pe_bl)) pss_nil)
      (pss_one (ps_if (pt_cmpR op_ne (pe_callB (call_rep hG (hu64 hr)) (by rfl) T.n_repr (by decide +kernel) (pa_cons (pv 8) pa_nil)) (pe_callB (call_rep hG (hu64 hr)) (by rfl) T.n_repr (by decide +kernel) (pa_cons (pe_pr (pv 4) T.c_Run T.p_is_done G_Run_is_done (hr.mono (by decide))) pa_nil)) (nomark _)) (pss_one (ps_ret pe_bl)) pss_nil)))))))
      (pss_cons (ps_set (i := 9) sc_law_run_right.nd rfl (Or.inl rfl) (pe_callTy call_list_of (by rfl) T.n_list (by decide +kernel) (pa_cons (pv 1) pa_nil)))
      (pss_cons (ps_set (i := 10) sc_law_run_right.nd rfl (Or.inl rfl) (pe_newK T.mk_Run F_init (hr.mono (by decide)) T.g_Run kb_init rfl pass0 (pk_cons (pv 9) pk_nil)))
      (pss_cons (ps_expr (pe_bm0 PySem.F.plainAttrs_list PySem.F.slot_list_clear PySem.F.type_list_clear mt_clear (pv 9)))
      (pss_cons (ps_if (PW.pt (pw_or (pt_cmpR op_notBl (pe_methK (pv 4) T.c_Run T.m_Run_go F_go (hr.mono (by decide)) kb_go rfl pass0 (pk_cons pe_int pk_nil)) pe_bl (nomark _)) (pw_or (pt_cmpR op_notBl (pe_pr (pv 4) T.c_Run T.p_is_done G_Run_is_done (hr.mono (by decide))) pe_bl (nomark _)) (pw_or (pt_cmpR op_ne (pe_pr (pv 4) T.c_Run T.p_calls G_Run_calls (hr.mono (by decide))) (pe_callB call_ln (by rfl) T.n_len PySem.boot_len (pa_cons (pv 3) pa_nil)) (nomark _)) (pw_or1 (pt_cmpR (op_neD (hu64 hr)) (pe_o0 (pv 4) T.c_Run T.m_Run_value G_Run_value (hr.mono (by decide))) (pv 2) (nomark _))))))) (pss_one (ps_ret pe_bl)) pss_nil)
      (pss_cons (ps_if (PW.pt (pw_or (pt_cmpR op_ne (pe_pr (pv 10) T.c_Run T.p_calls G_Run_calls (hr.mono (by decide))) pe_int (nomark _)) (pw_or (pt_cmpR op_notBl (pe_o (pv 10) T.c_Run T.m_Run_go G_Run_go (hr.mono (by decide)) (pa_cons pe_int pa_nil)) pe_bl (nomark _)) (pw_or (pt_cmpR op_ne (pe_pr (pv 10) T.c_Run T.p_calls G_Run_calls (hr.mono (by decide))) (pe_callB call_ln (by rfl) T.n_len PySem.boot_len (pa_cons (pv 3) pa_nil)) (nomark _)) (pw_or1 (pt_cmpR (op_neD (hu64 hr)) (pe_o0 (pv 10) T.c_Run T.m_Run_value G_Run_value (hr.mono (by decide))) (pe_f G_value_of T.g_value_of (hr.mono (by decide)) (pa_cons (pv 1) pa_nil)) (nomark _))))))) (pss_one (ps_ret pe_bl)) pss_nil)
      (pss_one (ps_ret (pe_and (pe_cmpR op_isBl (pe_o (pv 4) T.c_Run T.m_Run_go G_Run_go (hr.mono (by decide)) (pa_cons pe_int pa_nil)) pe_bl (nomark _)) (pe_and (pe_cmpR op_isBl (pe_o (pv 4) T.c_Run T.m_Run_go G_Run_go (hr.mono (by decide)) (pa_cons pe_int pa_nil)) pe_bl (nomark _)) (pe_and (pe_cmpR op_eq (pe_pr (pv 4) T.c_Run T.p_calls G_Run_calls (hr.mono (by decide))) (pe_f G_call_count T.g_call_count (hr.mono (by decide)) (pa_cons (pv 1) pa_nil)) (nomark _)) (pe_one (pe_cmpR op_eq (pe_callB (call_rep hG (hu64 hr)) (by rfl) T.n_repr (by decide +kernel) (pa_cons (pe_o0 (pv 4) T.c_Run T.m_Run_value G_Run_value (hr.mono (by decide))) pa_nil)) (pe_callB (call_rep hG (hu64 hr)) (by rfl) T.n_repr (by decide +kernel) (pa_cons (pv 2) pa_nil)) (nomark _))))))))))))))))), ?_⟩
  have few := pg.few
  have dw := pg.dw
  obtain ⟨n0, hn0, hgo⟩ := pg.go
  obtain ⟨tf, tsh⟩ := W.told dw sm pg.fdp
  walk_at "rd"
  refine ⟨l, Z, f, ds, rfl, hN, pg.ok, pg.sz, hev, by omega, fun r cl v H1 s1 hcl e1 e2 hdw => ?_⟩
  have hv1 := hdw dw
  have hp1 := hp.mono s1
  have hN1 := hN.mono s1
  walk_at "rd"
  refine gt2_go (sqT_of e1) ?_
  walk_at "rd"
  refine mkR hN1 pg fun x e ol wl c H2 hM s2 hR => ?_
  have hr2 := hR (fun b => b = a) fun b z => by
    obtain ⟨us, h⟩ := hp1.some
    exact ⟨.lst us, (show b = a from z) ▸ h, ⟨(fun xs z => by cases z), (fun y xs z => by cases z)⟩⟩
  walk_at "rd"
  refine krp hr2 ⟨_, x, e, ol, wl, c, Z, F, _, _, _, rfl, hr2, ?_⟩
  walk_at "rd"
  refine rneI_go ?_
  walk_at "rd"
  refine krp hr2 ⟨_, x, e, ol, wl, c, Z, F, _, _, _, rfl, hr2, fun H3 s3 => ?_⟩
  walk_at "rd"
  refine ⟨_, _, rfl, rfl, ?_⟩
  walk_at "rd"
  refine lnl_go (sqL_of (s3 _ _ (s2 _ _ e2))) ?_
  rw [List.length_map]
  walk_at "rd"
  have e3 : ((ds.length : Nat) : Int) + 3 = ((ds.length + 3 : Nat) : Int) := by omega
  rw [e3]
  have ncla : cl ≠ a := fun z => by
    obtain ⟨us, h⟩ := hp.some
    rw [← z, hcl] at h
    cases h
  have k1 : Kq a H H1 := Kp.same s1
  have nMa : ¬ Mu ol wl c a := fun z => by
    obtain ⟨us, h⟩ := hp1.some
    rw [hM a z] at h
    cases h
  have s23 := s2.trans s3
  refine fr_go (n := ds.length + 3) (by omega) (fun i σ H' => ∃ (os : List Od) (ws : List W) (cs rest : List Nat) (n : Nat) (x6 x7 x8 : Option V), σ = [some (.ref a), some (.ref l), some v, some (.ref cl), some (.ref x), some (.int (cs.length : Nat)), x6, x7, x8, none, none] ∧
    Kq a H1 H' ∧ PotAt H' a ∧ RnAt K (fun b => b = a) H' x e ol wl c Z F os ws cs ∧ Go Z f n os ws rest ∧ n ≤ 40000 ∧ cs ++ rest = ds) ⟨_, _, [], ds, n0, none, none, none, rfl, Kp.same s23, hp1.mono s23, hr2.mono s3, hgo, hn0, rfl⟩ ?_ ?_
  · rintro i σ H' hi ⟨os, ws, cs, rest, n, x6, x7, x8, rfl, kk, hp', hr', hg', hn', hcs⟩
    have hlen : cs.length + rest.length = ds.length := by rw [← hcs, List.length_append]
    walk_at "rd"
    refine ⟨a, 7, rfl, hp', by decide, by decide, fun d Ha hd ka hpa => ?_⟩
    have kka : Kq a H1 Ha := kk.trans ka
    have hra := hr'.off ka (fun b z => z) (fun b z => by obtain ⟨us, h⟩ := hp'.some; exact ⟨us, (show b = a from z) ▸ h⟩) fun b z z2 => nMa ((show b = a from z2) ▸ z)
    walk_at "rd"
    refine krm hra (by decide +kernel) (by decide +kernel) (by decide +kernel) (by decide +kernel) ?_
    walk_at "rd"
    refine ⟨_, x, e, ol, wl, c, Z, F, os, ws, cs, rest, f, n, d, rfl, hra, pg.ok, hg', hn', by omega, by omega, fun Hb os1 ws1 cs1 rest1 n1 kb hrb hgb hnb hcsb hlb hE => ?_⟩
    have kkb : Kq a H1 Hb := kka.mu kb hM
    have hpb := hpa.mu kb nMa
    have eb := kkb _ _ e2 ncla
    have hlen1 : cs1.length + rest1.length = ds.length := by rw [← hcs, ← hcsb, List.length_append]
    walk_at "rd"
    refine lnl_go (sqL_of eb) ?_
    rw [List.length_map]
    refine ⟨_, _, rfl, ?_⟩
    have em : (if ((ds.length : Nat) : Int) < ((cs.length : Nat) : Int) + (d : Int) then ((ds.length : Nat) : Int) else ((cs.length : Nat) : Int) + (d : Int)) = ((cs1.length : Nat) : Int) := by
      rw [hlb, hlen]
      split <;> omega
    rw [em]
    walk_at "rd"
    refine krp hrb ⟨_, x, e, ol, wl, c, Z, F, _, _, _, rfl, hrb, ?_⟩
    walk_at "rd"
    refine rneI_go ?_
    rw [decide_eq_true (rfl : ((cs1.length : Nat) : Int) = ((cs1.length : Nat) : Int))]
    walk_at "rd"
    refine lnl_go (sqL_of eb) ?_
    rw [List.length_map]
    walk_at "rd"
    have hmore : cs1.length < ds.length → os1.isEmpty = false := fun z => by
      rcases hE with ⟨_, rfl⟩ | ⟨n1, _⟩
      · rw [List.length_nil] at hlen1
        omega
      · cases os1 with
        | nil => exact absurd rfl n1
        | cons _ _ => rfl
    by_cases hb : cs1.length < ds.length
    case' pos =>
      refine ifT (decide_eq_true (by omega)) ?_
      walk_at "rd"
      refine ⟨_, _, rfl, rfl, ?_⟩
      rw [hmore hb]
      walk_at "rd"
    case' neg =>
      refine ifF (decide_eq_false (by omega)) ?_
      walk_at "rd"
    all_goals
      refine rep_go (.bl _) (told_bl _) ?_
      walk_at "rd"
      refine krp hrb ⟨_, x, e, ol, wl, c, Z, F, _, _, _, rfl, hrb, fun Hc sc => ?_⟩
      walk_at "rd"
      refine rep_go (.bl _) (told_bl _) ?_
      refine rneS_go (b := true) (decide_eq_true ?hrep) ?_
      case hrep => first | rfl | rw [hmore hb]
      walk_at "rd"
      exact ⟨os1, ws1, cs1, rest1, n1, _, _, _, rfl, kkb.trans (Kp.same sc), hpb.mono sc, hrb.mono sc, hgb, hnb, hcsb.trans hcs⟩
  · rintro σ H' ⟨os, ws, cs, rest, n, x6, x7, x8, rfl, kk, hp', hr', hg', hn', hcs⟩
    have hlen : cs.length + rest.length = ds.length := by rw [← hcs, List.length_append]
    have e' := kk _ _ e2 ncla
    have hN' : NlAt K H' l Z := LnAt.kq (ns := Z.nodes) hN1 kk hp1 hla
    obtain ⟨zs, hz1, hz2⟩ := id hN'
    walk_at "rd"
    refine ⟨l, zs, rfl, .inl (sqL_of hz1), fun g hg => ?_⟩
    have s4 := same_upd (o := .lst zs) hg
    have e4 : (upd H' g (.lst zs)) g = some (.lst zs) := upd_same
    generalize upd H' g (.lst zs) = H4 at s4 e4 ⊢
    have hNg : NlAt K H4 g Z := ⟨zs, e4, hz2.imp fun _ _ z => z.mono s4⟩
    walk_at "rd"
    refine mkR hNg pg fun x2 en2 ol2 wl2 c2 H5 hM2 s5 hR2 => ?_
    have t5 : Two K H1 H5 a g x e ol wl c x2 en2 ol2 wl2 c2 Z F os ws cs [.see 0 []] [] [] := Two.mk_ kk hp' hp1 hM hr' hg s4 e4 hM2 s5 hR2
    walk_at "rd"
    obtain ⟨gs, hgs⟩ := t5.gl
    refine kbm_go hgs ?_
    walk_at "rd"
    refine ⟨g, gs, rfl, rfl, hgs, ?_⟩
    have t6 := t5.given (us := [])
    generalize upd H5 g (.lst []) = H6 at t6 ⊢
    walk_at "rd"
    refine krm t6.r1 (by decide +kernel) (by decide +kernel) (by decide +kernel) (by decide +kernel) ?_
    walk_at "rd"
    refine ⟨_, x, e, ol, wl, c, Z, F, os, ws, cs, rest, f, n, 2000, rfl, t6.r1, pg.ok, hg', hn', by omega, by omega, fun H7 os7 ws7 cs7 rest7 n7 k7 r7 g7 m7 c7 l7 E7 => ?_⟩
    have hl7 : cs7.length = ds.length := by rw [l7]; omega
    have z7 : rest7 = [] := by
      have h := congrArg List.length c7
      rw [List.length_append, List.length_append] at h
      exact List.length_eq_zero_iff.mp (by omega)
    subst z7
    obtain ⟨rfl, rfl⟩ := g7.end_ E7
    have t7 := t6.one k7 r7
    walk_at "rd"
    refine ⟨_, _, rfl, rfl, ?_⟩
    walk_at "rd"
    refine krp t7.r1 ⟨_, x, e, ol, wl, c, Z, F, _, _, _, rfl, t7.r1, fun H8 s8 => ?_⟩
    have t8 := t7.mono s8
    walk_at "rd"
    refine ⟨_, _, rfl, rfl, ?_⟩
    walk_at "rd"
    refine krp t8.r1 ⟨_, x, e, ol, wl, c, Z, F, _, _, _, rfl, t8.r1, ?_⟩
    walk_at "rd"
    refine lnl_go (sqL_of (t8.kk _ _ e2 ncla)) ?_
    rw [List.length_map, hl7]
    refine rneI_go ?_
    rw [decide_eq_true (rfl : ((ds.length : Nat) : Int) = ((ds.length : Nat) : Int))]
    walk_at "rd"
    refine krm t8.r1 (by decide +kernel) (by decide +kernel) (by decide +kernel) (by decide +kernel) ?_
    walk_at "rd"
    refine ⟨_, x, e, ol, wl, c, Z, F, cs7, f, rfl, t8.r1, pg.dat, pg.dp, dw, pg.fdp, fun u H9 s9 hu => ?_⟩
    have t9 := t8.mono s9
    walk_at "rd"
    refine ⟨f.pd, f.pd, hu.pd, (hv1.tp (t9.kk.tp hp1)).pd, tsh, tsh, ?_⟩
    have eqv : PyData.eqv f.pd f.pd = true := SeqAt.eqv_refl _ (SeqAt.canLay_of_shaped tsh)
    rw [eqv]
    walk_at "rd"
    refine krp t9.r2 ⟨_, x2, en2, ol2, wl2, c2, Z, F, _, _, _, rfl, t9.r2, ?_⟩
    walk_at "rd"
    refine rneI_go ?_
    walk_at "rd"
    refine krm t9.r2 (by decide +kernel) (by decide +kernel) (by decide +kernel) (by decide +kernel) ?_
    walk_at "rd"
    refine ⟨_, x2, en2, ol2, wl2, c2, Z, F, _, _, [], ds, f, n0, 2000, rfl, t9.r2, pg.ok, hgo, hn0, by omega, by rw [List.length_nil]; omega, fun H10 os10 ws10 cs10 rest10 n10 k10 r10 g10 m10 c10 l10 E10 => ?_⟩
    have hl10 : cs10.length = ds.length := by rw [l10, List.length_nil]; omega
    have z10 : rest10 = [] := by
      have h := congrArg List.length c10
      rw [List.length_append, List.length_append, List.length_nil] at h
      exact List.length_eq_zero_iff.mp (by omega)
    subst z10
    obtain ⟨rfl, rfl⟩ := g10.end_ E10
    have t10 := t9.two k10 r10
    walk_at "rd"
    refine ⟨_, _, rfl, rfl, ?_⟩
    walk_at "rd"
    refine krp t10.r2 ⟨_, x2, en2, ol2, wl2, c2, Z, F, _, _, _, rfl, t10.r2, ?_⟩
    walk_at "rd"
    refine lnl_go (sqL_of (t10.kk _ _ e2 ncla)) ?_
    rw [List.length_map, hl10]
    refine rneI_go ?_
    rw [decide_eq_true (rfl : ((ds.length : Nat) : Int) = ((ds.length : Nat) : Int))]
    walk_at "rd"
    refine krm t10.r2 (by decide +kernel) (by decide +kernel) (by decide +kernel) (by decide +kernel) ?_
    walk_at "rd"
    refine ⟨_, x2, en2, ol2, wl2, c2, Z, F, cs10, f, rfl, t10.r2, pg.dat, pg.dp, dw, pg.fdp, fun u2 H11 s11 hu2 => ?_⟩
    have t11 := t10.mono s11
    walk_at "rd"
    refine ⟨l, Z, F, f, ds, rfl, LnAt.kq (ns := Z.nodes) hN1 t11.kk hp1 hla, pg, fun u3 H12 s12 hu3 => ?_⟩
    have t12 := t11.mono s12
    walk_at "rd"
    refine ⟨f.pd, f.pd, (hu2.tp (.same s12)).pd, hu3.pd, tsh, tsh, ?_⟩
    rw [eqv]
    walk_at "rd"
    refine krm t12.r1 (by decide +kernel) (by decide +kernel) (by decide +kernel) (by decide +kernel) ?_
    walk_at "rd"
    refine ⟨_, x, e, ol, wl, c, Z, F, _, _, cs7, [], f, 0, 0, rfl, t12.r1, pg.ok, .done, by omega, by omega, by rw [List.length_nil]; omega, fun H13 os13 ws13 cs13 rest13 n13 k13 r13 g13 m13 c13 l13 E13 => ?_⟩
    have hl13 : cs13.length = ds.length := by rw [l13, List.length_nil]; omega
    have z13 : rest13 = [] := by
      have h := congrArg List.length c13
      rw [List.length_append, List.length_append, List.length_nil] at h
      exact List.length_eq_zero_iff.mp (by omega)
    subst z13
    obtain ⟨rfl, rfl⟩ := g13.end_ E13
    have t13 := t12.one k13 r13
    walk_at "rd"
    refine ⟨_, _, rfl, rfl, ?_⟩
    walk_at "rd"
    refine krm t13.r1 (by decide +kernel) (by decide +kernel) (by decide +kernel) (by decide +kernel) ?_
    walk_at "rd"
    refine ⟨_, x, e, ol, wl, c, Z, F, _, _, cs13, [], f, 0, 5, rfl, t13.r1, pg.ok, .done, by omega, by omega, by rw [List.length_nil]; omega, fun H14 os14 ws14 cs14 rest14 n14 k14 r14 g14 m14 c14 l14 E14 => ?_⟩
    have hl14 : cs14.length = ds.length := by rw [l14, List.length_nil]; omega
    have z14 : rest14 = [] := by
      have h := congrArg List.length c14
      rw [List.length_append, List.length_append, List.length_nil] at h
      exact List.length_eq_zero_iff.mp (by omega)
    subst z14
    obtain ⟨rfl, rfl⟩ := g14.end_ E14
    have t14 := t13.one k14 r14
    walk_at "rd"
    refine ⟨_, _, rfl, rfl, ?_⟩
    walk_at "rd"
    refine krp t14.r1 ⟨_, x, e, ol, wl, c, Z, F, _, _, _, rfl, t14.r1, ?_⟩
    walk_at "rd"
    refine ⟨l, Z, F, f, ds, rfl, LnAt.kq (ns := Z.nodes) hN1 t14.kk hp1 hla, pg, fun H15 s15 => ?_⟩
    have t15 := t14.mono s15
    rw [hl14]
    refine reqI_go ?_
    rw [decide_eq_true (rfl : ((ds.length : Nat) : Int) = ((ds.length : Nat) : Int))]
    walk_at "rd"
    refine krm t15.r1 (by decide +kernel) (by decide +kernel) (by decide +kernel) (by decide +kernel) ?_
    walk_at "rd"
    refine ⟨_, x, e, ol, wl, c, Z, F, cs14, f, rfl, t15.r1, pg.dat, pg.dp, dw, pg.fdp, fun u4 H16 s16 hu4 => ?_⟩
    have t16 := t15.mono s16
    walk_at "rd"
    refine rep_go hu4.pd tf ?_
    walk_at "rd"
    refine rep_go (hv1.tp (t16.kk.tp hp1)).pd tf ?_
    refine reqS_go (b := true) (decide_eq_true rfl) ?_
    exact q H16 (k1.trans t16.kk) t16.pot
end
end K42

/-! KL9 -/
/-! the law: all of it -/
namespace K42
open PySem PySem.Spec L2 He
local macro_rules | `(tactic| walk_at "rd") => `(tactic| repeat (first | ((with_reducible refine' rd_var ?hvar ?_); (case hvar => exact rfl)) | with_reducible refine rd_seq ?_ | with_reducible refine rd_asg ?_ | with_reducible refine rd_ret ?_ | with_reducible refine rd_drop ?_ | with_reducible refine rd_ifs ?_ | with_reducible refine rd_name ?_ | with_reducible refine rd_c ?_ | with_reducible refine rd_cons ?_ | with_reducible refine rd_nil ?_ | with_reducible refine rd_cb ?_ | with_reducible refine rd_op ?_ | with_reducible refine rd_test ?_ | with_reducible refine rd_tb ?_ | with_reducible refine rd_and ?_ | with_reducible refine rd_or ?_ | with_reducible refine rd_not ?_ | with_reducible refine rd_andv ?_ | with_reducible refine rd_orv ?_ | with_reducible refine rd_notv ?_ | with_reducible refine rd_if ?_ | with_reducible refine rd_nx ?_ | with_reducible refine rd_retn ?_ | with_reducible refine rd_par ?_ | with_reducible refine rd_par3 ?_ | with_reducible refine rd_tup ?_ | with_reducible refine rd_lst ?_ | with_reducible refine rd_call ?_ | with_reducible refine rd_meth ?_ | with_reducible refine rd_make ?_ | with_reducible refine rd_fld ?_ | with_reducible refine rd_sfld ?_ | with_reducible refine rd_bm ?_ | with_reducible refine rd_bm0 ?_ | with_reducible refine rd_prop ?_ | with_reducible refine rd_dget ?_ | with_reducible refine rd_dnin ?_ | with_reducible refine rd_chain ?_ | with_reducible refine rd_sub ?_ | with_reducible refine rd_un ?_ | with_reducible refine rd_fl ?_ | with_reducible refine rd_ft ?_ | with_reducible refine rd_fr ?_ | with_reducible refine rd_fd ?_ | with_reducible refine rd_fe ?_ | with_reducible refine rd_ll ?_ | with_reducible refine rd_le ?_ | with_reducible refine rd_yes ?_ | with_reducible refine rd_dg2 ?_ | with_reducible refine rd_calld ?_ | with_reducible refine rd_lt ?_ | with_reducible refine rd_rev ?_ | with_reducible refine rd_sl ?_ | with_reducible refine rd_thru ?_ | with_reducible refine kb_go ?_ | with_reducible refine kpar_go ?_ | with_reducible refine kpar3_go ?_ | with_reducible refine ri0_go ?_ | with_reducible refine ru_go ?_ | ((with_reducible refine ifT ?hift ?_); (case hift => exact rfl)) | ((with_reducible refine ifF ?hiff ?_); (case hiff => exact rfl))))
local macro_rules | `(tactic| walk_at "dt") => `(tactic| first | refine ifT (by decide +kernel) ?_ | ((refine ifT ?hdt ?_); (case hdt => exact decide_eq_true (by omega))))
local macro_rules | `(tactic| walk_at "df") => `(tactic| first | refine ifF (by decide +kernel) ?_ | ((refine ifF ?hdf ?_); (case hdf => exact decide_eq_false (by omega))))

/-- a program of no call -/
def zNo : Tm := .n2 (.wd .both) (.n0 (.told 3)) (.n1 (.wd .next) (.n0 (.told 1)))
theorem pgNo : PgOk zNo kTwo (.both (.int 3) (.int 2)) [] where
  ok := ⟨rfl, True.intro, ⟨rfl, show 3 ≤ 1000000 by decide⟩, rfl, True.intro, rfl, show 1 ≤ 1000000 by decide⟩
  sz := by decide
  wt := .n2 rfl (.inl ⟨rfl, rfl⟩) (.n0 .told) (.inl ⟨rfl, rfl⟩) (.n1 rfl (.inl ⟨rfl, rfl⟩) (.n0 .told) .next) (.both ⟨by decide, by decide⟩)
  dat := rfl
  dp := by decide
  dw := .both .int .int
  fdp := by decide
  few := Nat.zero_le _
  ev := ⟨40, rfl⟩
section
variable {P : Program} {w : World} {K : PySem.W.Frag} {mg : Str → Option Value} {base : Heap}
def sp_law_right (K : PySem.W.Frag) : Sp := fun vs H Q _ => ∃ a : Addr, vs = [.ref a] ∧ PotAt H a ∧ ∀ H1, Q (.bl true) H1
theorem ok_law_right (T : Tx w K mg) : OkG P w K mg base 45 (ga K "_law_right") ["_law_pot_here"] (sp_law_right K) := by
  have G_law_data := ok_law_data (P := P) (base := base) T
  have G_law_program := ok_law_program (P := P) (base := base) T
  have G_law_run_right := ok_law_run_right (P := P) (base := base) T
  have G_Run_init := ok_Run_init (P := P) (base := base) T
  have G_Run_calls := ok_Run_calls (P := P) (base := base) T
  have G_Run_go := ok_Run_go (P := P) (base := base) T
  have G_Run_value := ok_Run_value (P := P) (base := base) T
  refine okG T.f_law_right rfl sc_law_right b_law_right (fun vs H Q E h => by obtain ⟨_, rfl, _⟩ := h; rfl) (fun cdv A outer s H vs Q E hr hG h => ?_)
  obtain ⟨a, rfl, hp, q⟩ := h
  refine ⟨_, (pss_cons (ps_for PassesOwn.never rfl (pi_range1 (by rfl) T.n_range (pa_cons pe_int pa_nil)) (pg_name (i := 1) sc_law_right.nd rfl (Or.inl rfl)) (pss_cons (ps_set (i := 2) sc_law_right.nd rfl (Or.inl rfl) (pe_f G_law_data T.g_law_data (hr.mono (by decide)) (pa_cons (pv 0) pa_nil)))
      (pss_cons (ps_set (i := 3) sc_law_right.nd rfl (Or.inl rfl) (pe_f G_law_program T.g_law_program (hr.mono (by decide)) (pa_cons (pv 0) (pa_cons (pv 2) (pa_cons pe_int pa_nil)))))
      (pss_cons (ps_set (i := 4) sc_law_right.nd rfl (Or.inl rfl) (pe_callB (call_rep hG (hu64 hr)) (by rfl) T.n_repr (by decide +kernel) (pa_cons (pv 3) pa_nil)))
      (pss_one (ps_if (PW.pt (pw_or (pt_not (pt_val (pe_g G_law_run_right hG T.g_law_run_right (hr.mono (by decide)) (pa_cons (pv 0) (pa_cons (pv 3) pa_nil)) pass0))) (pw_or1 (pt_cmpR op_ne (pe_callB (call_rep hG (hu64 hr)) (by rfl) T.n_repr (by decide +kernel) (pa_cons (pv 3) pa_nil)) (pv 4) (nomark _))))) (pss_one (ps_ret pe_bl)) pss_nil))))))
      (pss_cons (ps_set (i := 5) sc_law_right.nd rfl (Or.inl rfl) (pe_n T.mk_Run G_Run_init T.g_Run (hr.mono (by decide)) (pa_cons (pe_lst (pa_cons (pe_tup (pa_cons pe_str pa_nil)) (pa_cons (pe_tup (pa_cons pe_str (pa_cons pe_int pa_nil))) (pa_cons (pe_tup (pa_cons pe_str pa_nil)) (pa_cons (pe_tup (pa_cons pe_str (pa_cons pe_int pa_nil))) pa_nil))))) pa_nil)))
      (pss_one (ps_ret (pe_and (pe_cmpR op_isBl (pe_o (pv 5) T.c_Run T.m_Run_go G_Run_go (hr.mono (by decide)) (pa_cons pe_int pa_nil)) pe_bl (nomark _)) (pe_and (pe_cmpR op_eq (pe_pr (pv 5) T.c_Run T.p_calls G_Run_calls (hr.mono (by decide))) pe_int (nomark _)) (pe_one (pe_cmpR (op_eqD (hu64 hr)) (pe_o0 (pv 5) T.c_Run T.m_Run_value G_Run_value (hr.mono (by decide))) (pe_tup (pa_cons pe_str (pa_cons pe_int (pa_cons pe_int pa_nil)))) (nomark _))))))))), ?_⟩
  walk_at "rd"
  refine fr_go (n := 1) (by decide) (fun i σ H' => ∃ x1 x2 x3 x4 : Option V, σ = [some (.ref a), x1, x2, x3, x4, none] ∧ PotAt H' a) ⟨none, none, none, none, rfl, hp⟩ ?_ ?_
  · rintro i σ H' hi ⟨x1, x2, x3, x4, rfl, hp'⟩
    walk_at "rd"
    refine ⟨a, rfl, hp', fun v k Ha hk hv ka hpa => ?_⟩
    walk_at "rd"
    refine ⟨a, v, k, rfl, hpa, hv, hk, fun l Z f ds Hb kb hpb hl hN pg sm hev => ?_⟩
    have hla := hpa.ne hl
    have told := Tm.told pg.ok (Nat.le_trans pg.sz (by decide))
    walk_at "rd"
    refine rep_go hN.pd told ?_
    walk_at "rd"
    refine ⟨a, l, Z, k, f, ds, rfl, hpb, hla, hN, pg, sm, hev, fun Hc kc hpc => ?_⟩
    have hNc : NlAt K Hc l Z := LnAt.kq (ns := Z.nodes) hN kc hpb hla
    walk_at "rd"
    refine rep_go hNc.pd told ?_
    walk_at "rd"
    refine rneS_go (b := true) (decide_eq_true rfl) ?_
    walk_at "rd"
    exact ⟨_, _, _, _, rfl, hpc⟩
  · rintro σ H' ⟨x1, x2, x3, x4, rfl, hp'⟩
    walk_at "rd"
    refine ktn_go len_ok fun p1 H1 _ s1 e1 => ?_
    walk_at "rd"
    refine ktn_go len_ok fun p2 H2 _ s2 e2 => ?_
    walk_at "rd"
    refine ktn_go len_ok fun p3 H3 _ s3 e3 => ?_
    walk_at "rd"
    refine ktn_go len_ok fun p4 H4 _ s4 e4 => ?_
    walk_at "rd"
    refine kln_go len_ok fun l H5 _ s5 e5 => ?_
    have n1 : NdAt K H5 (.ref p1) (.wd .both) := .wd (Same.sqt (s2.trans (s3.trans (s4.trans s5))) (sqT_of e1))
    have n2 : NdAt K H5 (.ref p2) (.told 3) := .told (Same.sqt (s3.trans (s4.trans s5)) (sqT_of e2))
    have n3 : NdAt K H5 (.ref p3) (.wd .next) := .wd (Same.sqt (s4.trans s5) (sqT_of e3))
    have n4 : NdAt K H5 (.ref p4) (.told 1) := .told (Same.sqt s5 (sqT_of e4))
    have hN : NlAt K H5 l zNo := ⟨_, e5, .cons n1 (.cons n2 (.cons n3 (.cons n4 .nil)))⟩
    walk_at "rd"
    refine mkR hN pgNo fun x e ol wl c H6 hM s6 hR => ?_
    have hr6 := hR (fun _ => False) fun b z => z.elim
    obtain ⟨n0, hn0, hgo⟩ := pgNo.go
    walk_at "rd"
    refine krm hr6 (by decide +kernel) (by decide +kernel) (by decide +kernel) (by decide +kernel) ?_
    walk_at "rd"
    refine ⟨_, x, e, ol, wl, c, zNo, kTwo, _, _, [], [], _, n0, 0, rfl, hr6, pgNo.ok, hgo, hn0, by omega, by decide, fun H7 os7 ws7 cs7 rest7 n7 k7 r7 g7 m7 c7 l7 E7 => ?_⟩
    obtain ⟨rfl, rfl⟩ := List.append_eq_nil_iff.mp c7
    obtain ⟨rfl, rfl⟩ := g7.end_ E7
    walk_at "rd"
    refine ⟨_, _, rfl, rfl, ?_⟩
    walk_at "rd"
    refine krp r7 ⟨_, x, e, ol, wl, c, zNo, kTwo, _, _, _, rfl, r7, ?_⟩
    walk_at "rd"
    refine reqI_go ?_
    walk_at "rd"
    refine krm r7 (by decide +kernel) (by decide +kernel) (by decide +kernel) (by decide +kernel) ?_
    walk_at "rd"
    refine ⟨_, x, e, ol, wl, c, zNo, kTwo, [], _, rfl, r7, pgNo.dat, pgNo.dp, pgNo.dw, pgNo.fdp, fun u H8 s8 hu => ?_⟩
    walk_at "rd"
    refine ktn_go len_ok fun p9 H9 _ s9 e9 => ?_
    refine ⟨_, _, (hu.tp (.same s9)).pd, .tup (sqT_of e9) (.cons (.str _) (.cons (.int _) (.cons (.int _) .nil))), by decide +kernel, by decide +kernel, ?_⟩
    exact q H9
def sp_law (K : PySem.W.Frag) : Sp := fun vs H Q _ => ∃ (a : Addr) (ns : List Int), vs = [.ref a] ∧ SqL K H a (ns.map V.int) ∧ ns.length ≤ 63 ∧ ∀ H1, Q (.bl true) H1
theorem fn_law {fd : FuncData} (T : Tx w K mg) (D : FunD K d_law.nm d_law.ql (defArgs d_law.st) (defBody d_law.st) (defScope d_law.st) [] [] (d_law.loc K) fd) : FnG P w K mg base 46 (ga K "law") fd ["_law_script"] (sp_law K) := by
  have G_law_pot := ok_law_pot (P := P) (base := base) T
  have G_law_right := ok_law_right (P := P) (base := base) T
  refine fnG (d := d_law) D sc_law (fun vs H Q E h => by obtain ⟨_, _, rfl, _⟩ := h; rfl) (fun cdv A outer s H vs Q E hr hG h => ?_)
  obtain ⟨a, ns, rfl, hS, hl, q⟩ := h
  refine ⟨_, (pss_one (ps_ret (pe_g G_law_right hG T.g_law_right (hr.mono (by decide)) (pa_cons (pe_f G_law_pot T.g_law_pot (hr.mono (by decide)) (pa_cons (pv 0) (pa_cons pe_int pa_nil))) pa_nil) pass0))), ?_⟩
  walk_at "rd"
  refine ⟨a, ns, rfl, hS, by omega, fun p H1 hp s1 hpot => ?_⟩
  walk_at "rd"
  exact ⟨p, rfl, hpot, q⟩
end
end K42

/-! KF -/
namespace K42
open PySem PySem.Spec PyProof.Rows L2 He
abbrev lawK : PySem.W.OpenLaw := PySem.Challenge.rw_selfprint_k42_whole_runs_little_by_littl
theorem walkK : PySem.W.WalkO (PySem.W.view rowK.prog [92]) lsA (PySem.W.XL (PySem.W.view rowK.prog [92]) []) hkK.says lawK.row.toRowW (HandSHeadRun.topDef rowK.prog 92) [] fun f vs => PySem.call f vs := by
  refine Att.attach_call (n := 63) rfl (by kernel_rfl) fun w s0 s1 mg mb fa o pm cd doc a vs ns G Y ho hd hcd hmg0 hobj hints hlen hg => ?_
  obtain ⟨K, KX, c⟩ := Y
  have T : Tx w K mg := tx_of KX G.T.g (sy_of c)
  have hmg : mg ("law" : PySem.Str) = some (.ref fa) := by
    have e : (HandSHeadRun.topDef rowK.prog 92).name = ("law" : PySem.Str) := by kernel_rfl
    rw [← e]
    exact hmg0
  have e := hmg.symm.trans T.g_law
  cases e
  obtain ⟨fd, D⟩ := T.f_law
  exact law_g KX G.T.g G.T.b G.T.builtins G.T.nolimit hg hobj hints (Nat.le_trans hlen (by decide)) (k := 46) ⟨rfl, by decide, by decide⟩ (fun base _ _ => fn_law T D) (fun s v => FunD.bindsA (ps := ["_law_script"]) D b_law s [v] rfl)
    (fun H hO hS => ⟨a, ns, rfl, hS, hlen, fun _ => rfl⟩) fun _ _ _ z => z
end K42
open PySem PySem.W PySem.Calls PyProof.Rows
theorem PySem.Challenge.cw_selfprint_k42_whole_runs_little_by_littl_holds : PySem.Challenge.rw_selfprint_k42_whole_runs_little_by_littl.Holds := by
  w_on; o_law
  refine HandSHeadRun.head_any (r := K42.rowK) (q := view K42.rowK.prog [92]) (H := K42.hkK) (ob := K42.obT) (M := 6000) (loose := K42.lsA) (d := HandSHeadRun.topDef K42.rowK.prog 92) (kwd := []) K42.obT_eq
    (by kernel_rfl) (fun s => by kernel_rfl) K42.runK (by kernel_rfl) (by kernel_rfl) (by kernel_rfl) (by rfl) (by first | assumption | decide +kernel) (by decide +kernel) ⟨rfl, rfl, rfl, rfl, rfl, by decide +kernel⟩ ?hw K42.walkK
  case hw => w_witness2
