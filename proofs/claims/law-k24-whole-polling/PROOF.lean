import PyProof.Rows.All
import Wide.All
import OpenK.AllK
import Wide.FinOn
import KE.KStateDown
import HandS.ForMost
import HandS.ForExc
import HandS.Defaults
import HandS.Head0
import HandS.Head1
import HandS.Head2
import HandS.HeadHook1
import HandS.HeadHook2
import HandS.HeadHook3
import HandS.HeadHook4
import HandS.HeadWalk
import PySem.Challenge.RW_latecoming_k24_whole_polling
import HandS.Flow
import HandS.TupAny
import HandS.IsInst
import HandS.RaiseOp
import HandS.Zip
import HandS.Nested
import HandS.Style
import KE.GoesMore
import PyProof.Rows.SortShellAny
import HandS.AnyAll
import HandS.TupSets
import KE.KeyNested
set_option Elab.async false
set_option linter.all false
set_option maxRecDepth 100000
set_option maxHeartbeats 0
namespace LC
open PySem PySem.Spec PyProof.Rows L2
/-! the text by places -/
abbrev prg : Program := PySem.Challenge.pw_latecoming_k24_whole_polling
def top (i : Nat) : Stmt := PySem.Challenge.pw_latecoming_k24_whole_polling.main.body.getD i (.Pass ⟨0, 0, 0, 0⟩)
abbrev s_is_between : Stmt := top 9
abbrev s_Case : Stmt := inClass (top 10) 0
abbrev s_in_excess : Stmt := top 13
abbrev s_difference : Stmt := top 14
abbrev s_extended : Stmt := top 15
abbrev s_Machine : Stmt := inClass (top 18) 0
abbrev s_caps : Stmt := top 19
abbrev s_start : Stmt := top 20
abbrev s_holds : Stmt := top 21
abbrev s_clocks_at : Stmt := top 22
abbrev s_first_rule : Stmt := top 23
abbrev s_forbids : Stmt := top 24
abbrev s_step : Stmt := top 25
abbrev s_first_scene : Stmt := top 27
abbrev s_extended_differences : Stmt := top 28
abbrev s_heard : Stmt := top 29
abbrev s_may_send : Stmt := top 30
abbrev s_is_harmful : Stmt := top 31
abbrev s_explore : Stmt := top 35
abbrev s_events_to : Stmt := top 36
abbrev s_polled : Stmt := top 38
abbrev s_with_queue : Stmt := top 39
abbrev s_follow_queue : Stmt := top 40
abbrev s_first_end : Stmt := top 41
abbrev s_first_polling_harm : Stmt := top 42
abbrev s__law_cell : Stmt := top 44
abbrev s__law_row : Stmt := top 45
abbrev s__law_word : Stmt := top 46
abbrev s__law_names : Stmt := top 47
abbrev s__law_rule : Stmt := top 48
abbrev s__law_signals : Stmt := top 49
abbrev s__law_sized : Stmt := top 50
abbrev s__law_parts : Stmt := top 51
abbrev s__law_traffic : Stmt := top 52
abbrev s__law_caps : Stmt := top 53
abbrev s__law_all_hold : Stmt := top 54
abbrev s__law_move : Stmt := top 55
abbrev s__law_begin : Stmt := top 56
abbrev s__law_plan : Stmt := top 57
abbrev s__law_case : Stmt := top 58
abbrev s__law_written : Stmt := top 60
abbrev s__law_looks_same : Stmt := top 61
abbrev s__law_same : Stmt := top 62
abbrev s__law_polled : Stmt := top 63
abbrev s__law_permitted : Stmt := top 64
abbrev s__law_drawn : Stmt := top 65
abbrev s__law_harmful : Stmt := top 66
abbrev s__law_found : Stmt := top 67
abbrev s__law_sent : Stmt := top 68
abbrev s__law_is_row : Stmt := top 69
abbrev s_law : Stmt := top 70
def d_is_between : He.DefD := ⟨("is_between", none), "is_between", "is_between", defArgs s_is_between, defBody s_is_between, defScope s_is_between, [], []⟩
def d_Case : He.DefD := ⟨("Case", some "__init__"), "__init__", "Case.__init__", defArgs s_Case, defBody s_Case, defScope s_Case, [.int 0], []⟩
def d_in_excess : He.DefD := ⟨("in_excess", none), "in_excess", "in_excess", defArgs s_in_excess, defBody s_in_excess, defScope s_in_excess, [], []⟩
def d_difference : He.DefD := ⟨("difference", none), "difference", "difference", defArgs s_difference, defBody s_difference, defScope s_difference, [], []⟩
def d_extended : He.DefD := ⟨("extended", none), "extended", "extended", defArgs s_extended, defBody s_extended, defScope s_extended, [], []⟩
def d_Machine : He.DefD := ⟨("Machine", some "__init__"), "__init__", "Machine.__init__", defArgs s_Machine, defBody s_Machine, defScope s_Machine, [], []⟩
def d_caps : He.DefD := ⟨("caps", none), "caps", "caps", defArgs s_caps, defBody s_caps, defScope s_caps, [], []⟩
def d_start : He.DefD := ⟨("start", none), "start", "start", defArgs s_start, defBody s_start, defScope s_start, [], []⟩
def d_holds : He.DefD := ⟨("holds", none), "holds", "holds", defArgs s_holds, defBody s_holds, defScope s_holds, [], []⟩
def d_clocks_at : He.DefD := ⟨("clocks_at", none), "clocks_at", "clocks_at", defArgs s_clocks_at, defBody s_clocks_at, defScope s_clocks_at, [], []⟩
def d_first_rule : He.DefD := ⟨("first_rule", none), "first_rule", "first_rule", defArgs s_first_rule, defBody s_first_rule, defScope s_first_rule, [], []⟩
def d_forbids : He.DefD := ⟨("forbids", none), "forbids", "forbids", defArgs s_forbids, defBody s_forbids, defScope s_forbids, [], []⟩
def d_step : He.DefD := ⟨("step", none), "step", "step", defArgs s_step, defBody s_step, defScope s_step, [], []⟩
def d_first_scene : He.DefD := ⟨("first_scene", none), "first_scene", "first_scene", defArgs s_first_scene, defBody s_first_scene, defScope s_first_scene, [], []⟩
def d_extended_differences : He.DefD := ⟨("extended_differences", none), "extended_differences", "extended_differences", defArgs s_extended_differences, defBody s_extended_differences, defScope s_extended_differences, [], []⟩
def d_heard : He.DefD := ⟨("heard", none), "heard", "heard", defArgs s_heard, defBody s_heard, defScope s_heard, [], []⟩
def d_may_send : He.DefD := ⟨("may_send", none), "may_send", "may_send", defArgs s_may_send, defBody s_may_send, defScope s_may_send, [], []⟩
def d_is_harmful : He.DefD := ⟨("is_harmful", none), "is_harmful", "is_harmful", defArgs s_is_harmful, defBody s_is_harmful, defScope s_is_harmful, [], []⟩
def d_explore : He.DefD := ⟨("explore", none), "explore", "explore", defArgs s_explore, defBody s_explore, defScope s_explore, [], []⟩
def d_events_to : He.DefD := ⟨("events_to", none), "events_to", "events_to", defArgs s_events_to, defBody s_events_to, defScope s_events_to, [], []⟩
def d_polled : He.DefD := ⟨("polled", none), "polled", "polled", defArgs s_polled, defBody s_polled, defScope s_polled, [], []⟩
def d_with_queue : He.DefD := ⟨("with_queue", none), "with_queue", "with_queue", defArgs s_with_queue, defBody s_with_queue, defScope s_with_queue, [], []⟩
def d_follow_queue : He.DefD := ⟨("follow_queue", none), "follow_queue", "follow_queue", defArgs s_follow_queue, defBody s_follow_queue, defScope s_follow_queue, [], []⟩
def d_first_end : He.DefD := ⟨("first_end", none), "first_end", "first_end", defArgs s_first_end, defBody s_first_end, defScope s_first_end, [], []⟩
def d_first_polling_harm : He.DefD := ⟨("first_polling_harm", none), "first_polling_harm", "first_polling_harm", defArgs s_first_polling_harm, defBody s_first_polling_harm, defScope s_first_polling_harm, [.int 0], []⟩
def d__law_cell : He.DefD := ⟨("_law_cell", none), "_law_cell", "_law_cell", defArgs s__law_cell, defBody s__law_cell, defScope s__law_cell, [], []⟩
def d__law_row : He.DefD := ⟨("_law_row", none), "_law_row", "_law_row", defArgs s__law_row, defBody s__law_row, defScope s__law_row, [], []⟩
def d__law_word : He.DefD := ⟨("_law_word", none), "_law_word", "_law_word", defArgs s__law_word, defBody s__law_word, defScope s__law_word, [], []⟩
def d__law_names : He.DefD := ⟨("_law_names", none), "_law_names", "_law_names", defArgs s__law_names, defBody s__law_names, defScope s__law_names, [], []⟩
def d__law_rule : He.DefD := ⟨("_law_rule", none), "_law_rule", "_law_rule", defArgs s__law_rule, defBody s__law_rule, defScope s__law_rule, [], []⟩
def d__law_signals : He.DefD := ⟨("_law_signals", none), "_law_signals", "_law_signals", defArgs s__law_signals, defBody s__law_signals, defScope s__law_signals, [], []⟩
def d__law_sized : He.DefD := ⟨("_law_sized", none), "_law_sized", "_law_sized", defArgs s__law_sized, defBody s__law_sized, defScope s__law_sized, [], []⟩
def d__law_parts : He.DefD := ⟨("_law_parts", none), "_law_parts", "_law_parts", defArgs s__law_parts, defBody s__law_parts, defScope s__law_parts, [], []⟩
def d__law_traffic : He.DefD := ⟨("_law_traffic", none), "_law_traffic", "_law_traffic", defArgs s__law_traffic, defBody s__law_traffic, defScope s__law_traffic, [], []⟩
def d__law_caps : He.DefD := ⟨("_law_caps", none), "_law_caps", "_law_caps", defArgs s__law_caps, defBody s__law_caps, defScope s__law_caps, [], []⟩
def d__law_all_hold : He.DefD := ⟨("_law_all_hold", none), "_law_all_hold", "_law_all_hold", defArgs s__law_all_hold, defBody s__law_all_hold, defScope s__law_all_hold, [], []⟩
def d__law_move : He.DefD := ⟨("_law_move", none), "_law_move", "_law_move", defArgs s__law_move, defBody s__law_move, defScope s__law_move, [], []⟩
def d__law_begin : He.DefD := ⟨("_law_begin", none), "_law_begin", "_law_begin", defArgs s__law_begin, defBody s__law_begin, defScope s__law_begin, [], []⟩
def d__law_plan : He.DefD := ⟨("_law_plan", none), "_law_plan", "_law_plan", defArgs s__law_plan, defBody s__law_plan, defScope s__law_plan, [], []⟩
def d__law_case : He.DefD := ⟨("_law_case", none), "_law_case", "_law_case", defArgs s__law_case, defBody s__law_case, defScope s__law_case, [], []⟩
def d__law_written : He.DefD := ⟨("_law_written", none), "_law_written", "_law_written", defArgs s__law_written, defBody s__law_written, defScope s__law_written, [], []⟩
def d__law_looks_same : He.DefD := ⟨("_law_looks_same", none), "_law_looks_same", "_law_looks_same", defArgs s__law_looks_same, defBody s__law_looks_same, defScope s__law_looks_same, [], []⟩
def d__law_same : He.DefD := ⟨("_law_same", none), "_law_same", "_law_same", defArgs s__law_same, defBody s__law_same, defScope s__law_same, [], []⟩
def d__law_polled : He.DefD := ⟨("_law_polled", none), "_law_polled", "_law_polled", defArgs s__law_polled, defBody s__law_polled, defScope s__law_polled, [], []⟩
def d__law_permitted : He.DefD := ⟨("_law_permitted", none), "_law_permitted", "_law_permitted", defArgs s__law_permitted, defBody s__law_permitted, defScope s__law_permitted, [], []⟩
def d__law_drawn : He.DefD := ⟨("_law_drawn", none), "_law_drawn", "_law_drawn", defArgs s__law_drawn, defBody s__law_drawn, defScope s__law_drawn, [], []⟩
def d__law_harmful : He.DefD := ⟨("_law_harmful", none), "_law_harmful", "_law_harmful", defArgs s__law_harmful, defBody s__law_harmful, defScope s__law_harmful, [], []⟩
def d__law_found : He.DefD := ⟨("_law_found", none), "_law_found", "_law_found", defArgs s__law_found, defBody s__law_found, defScope s__law_found, [], []⟩
def d__law_sent : He.DefD := ⟨("_law_sent", none), "_law_sent", "_law_sent", defArgs s__law_sent, defBody s__law_sent, defScope s__law_sent, [], []⟩
def d__law_is_row : He.DefD := ⟨("_law_is_row", none), "_law_is_row", "_law_is_row", defArgs s__law_is_row, defBody s__law_is_row, defScope s__law_is_row, [], []⟩
def d_law : He.DefD := ⟨("law", none), "law", "law", defArgs s_law, defBody s_law, defScope s_law, [], []⟩
def fn : List He.DefD := [d_is_between, d_Case, d_in_excess, d_difference, d_extended, d_Machine, d_caps, d_start, d_holds, d_clocks_at, d_first_rule, d_forbids, d_step, d_first_scene, d_extended_differences, d_heard, d_may_send, d_is_harmful, d_explore, d_events_to, d_polled, d_with_queue, d_follow_queue, d_first_end, d_first_polling_harm, d__law_cell, d__law_row, d__law_word, d__law_names, d__law_rule, d__law_signals, d__law_sized, d__law_parts, d__law_traffic, d__law_caps, d__law_all_hold, d__law_move, d__law_begin, d__law_plan, d__law_case, d__law_written, d__law_looks_same, d__law_same, d__law_polled, d__law_permitted, d__law_drawn, d__law_harmful, d__law_found, d__law_sent, d__law_is_row, d_law]
def fa : List He.Fa := [.glo "is_between", .glo "Case", .glo "in_excess", .glo "difference", .glo "extended", .glo "Machine", .glo "caps", .glo "start", .glo "holds", .glo "clocks_at", .glo "first_rule", .glo "forbids", .glo "step", .glo "first_scene", .glo "extended_differences", .glo "heard", .glo "may_send", .glo "is_harmful", .glo "explore", .glo "events_to", .glo "polled", .glo "with_queue", .glo "follow_queue", .glo "first_end", .glo "first_polling_harm", .glo "_law_cell", .glo "_law_row", .glo "_law_word", .glo "_law_names", .glo "_law_rule", .glo "_law_signals", .glo "_law_sized", .glo "_law_parts", .glo "_law_traffic", .glo "_law_caps", .glo "_law_all_hold", .glo "_law_move", .glo "_law_begin", .glo "_law_plan", .glo "_law_case", .glo "_law_written", .glo "_law_looks_same", .glo "_law_same", .glo "_law_polled", .glo "_law_permitted", .glo "_law_drawn", .glo "_law_harmful", .glo "_law_found", .glo "_law_sent", .glo "_law_is_row", .glo "law", .glo "VIEWS", .glo "TooLarge", .free "isinstance", .free "int", .free "bool", .free "len", .free "all", .free "any", .free "tuple", .free "list", .free "max", .free "min", .free "zip", .free "enumerate", .free "range", .free "set", .free "sorted", .str "TICK" "tick", .int "MOST_IN_TRANSIT" 6, .int "MOST_KEPT" 1000, .int "MOST_QUIET" 60, .cls "Machine", .mkr "Machine", .noat "Machine" "names", .noat "Machine" "clocks", .noat "Machine" "channels", .noat "Machine" "states", .noat "Machine" "rules", .cls "Case", .mkr "Case", .noat "Case" "program", .noat "Case" "views", .noat "Case" "traffic", .noat "Case" "quiet", .exc "TooLarge", .exm "TooLarge" "TooLarge" true, .keep "TooLarge"]
def tf : List He.Defn := [("Case", some "__init__"), ("first_rule", none), ("is_harmful", none), ("first_end", none), ("first_polling_harm", none)]
def ex (K : PySem.W.Frag) : Bool := He.tupB K "VIEWS" [.str "ordered", .str "unordered", .str "ignored"] && decide ((tf.map fun p => (He.cT K p).2).Nodup)
abbrev R : PySem.W.OpenRow := PySem.W.OpenLaw.row PySem.Challenge.rw_latecoming_k24_whole_polling
abbrev hk : PySem.W.Hook := He.hookX 5 fa fn [] tf ex
def ob (s : PySem.W.SharedT) : He.AlX := He.obsX 5 fa fn [] tf ex (HandSHeadRun.getT s)
theorem ob_eq (s : PySem.W.SharedT) : ob s = hk.obs s.abs := He.obsX_eq (HandSHeadRun.getT_eq s)
def names0 : List PySem.Str := ["LateError", "InvalidCase", "InvalidDelays", "TooLarge", "VIEWS", "MOST_QUIET", "MOST_LATE", "is_between", "Case", "are_names", "Delays", "in_excess", "difference", "extended", "TICK", "Machine", "caps", "start", "holds", "clocks_at"]
def names1 : List PySem.Str := ["first_rule", "forbids", "step", "first_scene", "extended_differences", "heard", "may_send", "is_harmful", "MOST_IN_TRANSIT", "MOST_KEPT", "explore", "events_to", "polled", "with_queue", "follow_queue", "first_end", "first_polling_harm", "_law_cell", "_law_row", "_law_word"]
def names2 : List PySem.Str := ["_law_names", "_law_rule", "_law_signals", "_law_sized", "_law_parts", "_law_traffic", "_law_caps", "_law_all_hold", "_law_move", "_law_begin", "_law_plan", "_law_case", "_law_delays", "_law_written", "_law_looks_same", "_law_same", "_law_polled", "_law_permitted", "_law_drawn", "_law_harmful"]
def names3 : List PySem.Str := ["_law_found", "_law_sent", "_law_is_row"]
def names : List PySem.Str := names0 ++ names1 ++ names2 ++ names3
abbrev qv : Program := PySem.W.view R.prog [70]
theorem run (w : World) : HandSHeadRun.RunEq R qv hk ob 6000 names w := by
  intro os
  kernel_rfl
end LC
/-! The layer by value: what stands in a slot is data; a part of the heap is frozen, some lists are the frame's own. -/
namespace LC
open PySem PySem.Spec PyProof.Rows L2

mutual
/-- data that stands in F -/
inductive Dt (F : Hp) : V → PyData → Prop
  | non : Dt F .non .none
  | bl (b : Bool) : Dt F (.bl b) (.bool b)
  | int (i : Int) : Dt F (.int i) (.int i)
  | str (x : Str) : Dt F (.str x) (.str x)
  | lst {a : Addr} {xs : List V} {ds : List PyData} : F a = some (.lst xs) → DtAll F xs ds → Dt F (.ref a) (.list ds)
  | tup {a : Addr} {xs : List V} {ds : List PyData} : F a = some (.tup xs) → DtAll F xs ds → Dt F (.ref a) (.tuple ds)
inductive DtAll (F : Hp) : List V → List PyData → Prop
  | nil : DtAll F [] []
  | cons {v : V} {vs : List V} {d : PyData} {ds : List PyData} : Dt F v d → DtAll F vs ds → DtAll F (v :: vs) (d :: ds)
end
/-! ### results -/
/-- a machine, a case: an instance whose fields are data -/
structure MachD where
  names : PyData
  clocks : PyData
  channels : PyData
  states : PyData
  rules : PyData
structure CaseD where
  program : MachD
  views : PyData
  traffic : MachD
  quiet : PyData
inductive Rs where
  | dat (d : PyData)
  | scr (ns : List Int)
  | mach (m : MachD)
  | cas (c : CaseD)
  | raw (v : V)
  | clo (f : Addr) (ps : List (V × PyData)) (cs : List (V × CaseD))
/-- what a slot holds: a result that stands still; a list of the frame's own; a list of such -/
inductive En where
  | rs (r : Rs)
  | own (ds : List PyData)
  | own2 (dss : List (List PyData))
  | res (b : Bool) (od : Option (List PyData))
  | obj (ds : List PyData)
abbrev Ro := List (Option En)
/-- non-list objects stand -/
def ExtL (H H' : Hp) : Prop := ∀ b o, H b = some o → (∀ xs, o ≠ .lst xs) → H' b = some o
/-- fixed for the whole proof: the classes' addresses, what is known of the tables of code objects -/
structure Gd where
  cm : Addr
  cc : Addr
  tab : Hp → Prop
  mono : ∀ {H H' : Hp}, ExtL H H' → tab H → tab H'
  obj : Hp → Addr → HO → List PyData → Prop
  omono : ∀ {F F' : Hp} {a : Addr} {u : HO} {ds : List PyData}, (∀ b o, F b = some o → F' b = some o) → obj F a u ds → obj F' a u ds

def FldD (H : Hp) (fs : List (Str × V)) (f : Str) (d : PyData) : Prop := ∃ u, fs.lookup f = some u ∧ Dt H u d
structure MachAt (G : Gd) (H : Hp) (v : V) (m : MachD) : Prop where
  ex : ∃ a dx fs, v = .ref a ∧ H a = some (.ins G.cm dx fs) ∧ FldD H fs ("names" : Str) m.names ∧ FldD H fs ("clocks" : Str) m.clocks ∧ FldD H fs ("channels" : Str) m.channels ∧ FldD H fs ("states" : Str) m.states ∧ FldD H fs ("rules" : Str) m.rules
structure CaseAt (G : Gd) (H : Hp) (v : V) (c : CaseD) : Prop where
  ex : ∃ a dx fs, v = .ref a ∧ H a = some (.ins G.cc dx fs) ∧ (∃ u, fs.lookup ("program" : Str) = some u ∧ MachAt G H u c.program) ∧ FldD H fs ("views" : Str) c.views ∧ (∃ u, fs.lookup ("traffic" : Str) = some u ∧ MachAt G H u c.traffic) ∧ FldD H fs ("quiet" : Str) c.quiet
def Rs.At (G : Gd) (K : PySem.W.Frag) (F : Hp) (v : V) : Rs → Prop
  | .dat d => Dt F v d
  | .scr ns => ∃ a, v = .ref a ∧ SqL K F a (ns.map V.int)
  | .mach m => MachAt G F v m
  | .cas c => CaseAt G F v c
  | .raw u => v = u
  | .clo f ps cs => v = .ref f ∧ (∀ p ∈ ps, Dt F p.1 p.2) ∧ ∀ p ∈ cs, CaseAt G F p.1 p.2

/-! ### data stays while the heap grows -/
theorem sqL_mono {K : PySem.W.Frag} {H H' : Hp} (e : Same H H') {a : Addr} {xs : List V} (h : SqL K H a xs) : SqL K H' a xs := e.seq h
theorem sqT_mono {K : PySem.W.Frag} {H H' : Hp} (e : Same H H') {a : Addr} {xs : List V} (h : SqT K H a xs) : SqT K H' a xs := by
  rcases h with (h | ⟨o, h⟩) | h
  · exact .inl (.inl (e _ _ h))
  · exact .inl (.inr ⟨o, e _ _ h⟩)
  · exact .inr h
mutual
theorem dp_mono {H H' : Hp} (e : Same H H') : ∀ (d : PyData) (v : V), Dt H v d → Dt H' v d
  | .none, _, h => by cases h; exact .non
  | .bool b, _, h => by cases h; exact .bl b
  | .int i, _, h => by cases h; exact .int i
  | .str x, _, h => by cases h; exact .str x
  | .list ds, _, h => by
    cases h with
    | lst hs ha => exact .lst (e _ _ hs) (dpAll_mono e ds _ ha)
  | .tuple ds, _, h => by
    cases h with
    | tup hs ha => exact .tup (e _ _ hs) (dpAll_mono e ds _ ha)
  | .dict _, _, h => by cases h
theorem dpAll_mono {H H' : Hp} (e : Same H H') : ∀ (ds : List PyData) (vs : List V), DtAll H vs ds → DtAll H' vs ds
  | [], _, h => by cases h; exact .nil
  | d :: ds, _, h => by
    cases h with
    | cons h1 h2 => exact .cons (dp_mono e d _ h1) (dpAll_mono e ds _ h2)
end
theorem fldD_mono {H H' : Hp} (e : Same H H') {fs : List (Str × V)} {f : Str} {d : PyData} (h : FldD H fs f d) : FldD H' fs f d := let ⟨u, a, b⟩ := h; ⟨u, a, dp_mono e _ _ b⟩
theorem machAt_mono {G : Gd} {H H' : Hp} (e : Same H H') {v : V} {m : MachD} (h : MachAt G H v m) : MachAt G H' v m := by
  obtain ⟨a, dx, fs, e1, h1, f1, f2, f3, f4, f5⟩ := h.ex
  exact ⟨a, dx, fs, e1, e _ _ h1, fldD_mono e f1, fldD_mono e f2, fldD_mono e f3, fldD_mono e f4, fldD_mono e f5⟩
theorem caseAt_mono {G : Gd} {H H' : Hp} (e : Same H H') {v : V} {c : CaseD} (h : CaseAt G H v c) : CaseAt G H' v c := by
  obtain ⟨a, dx, fs, e1, h1, ⟨u, l1, m1⟩, f2, ⟨u', l2, m2⟩, f4⟩ := h.ex
  exact ⟨a, dx, fs, e1, e _ _ h1, ⟨u, l1, machAt_mono e m1⟩, fldD_mono e f2, ⟨u', l2, machAt_mono e m2⟩, fldD_mono e f4⟩
theorem Rs.At.mono {G : Gd} {K : PySem.W.Frag} {F F' : Hp} (e : Same F F') {v : V} : ∀ {r : Rs}, r.At G K F v → r.At G K F' v
  | .dat d, h => dp_mono e d v h
  | .scr _, ⟨a, h1, h2⟩ => ⟨a, h1, sqL_mono e h2⟩
  | .mach _, h => machAt_mono e h
  | .cas _, h => caseAt_mono e h
  | .raw _, h => h
  | .clo _ _ _, h => ⟨h.1, fun p hp => dp_mono e _ _ (h.2.1 p hp), fun p hp => caseAt_mono e (h.2.2 p hp)⟩
theorem dpAll_length {H : Hp} : ∀ {vs : List V} {ds : List PyData}, DtAll H vs ds → vs.length = ds.length
  | _, _, .nil => rfl
  | _, _, .cons _ t => congrArg Nat.succ (dpAll_length t)
theorem dpAll_get {H : Hp} : ∀ {vs : List V} {ds : List PyData} {i : Nat} {v : V}, DtAll H vs ds → vs[i]? = some v → ∃ d, ds[i]? = some d ∧ Dt H v d
  | _, _, _, _, .nil, e => by simp at e
  | _, _, 0, _, .cons r _, e => by simp at e; subst e; exact ⟨_, rfl, r⟩
  | _, _, i + 1, v, .cons _ t, e => by
    obtain ⟨d, h1, h2⟩ := dpAll_get (i := i) t (by simpa using e)
    exact ⟨d, by simpa using h1, h2⟩
theorem dpAll_getD {H : Hp} : ∀ {vs : List V} {ds : List PyData} {i : Nat} {d : PyData}, DtAll H vs ds → ds[i]? = some d → ∃ v, vs[i]? = some v ∧ Dt H v d
  | _, _, _, _, .nil, e => by simp at e
  | _, _, 0, _, .cons r _, e => by simp at e; subst e; exact ⟨_, rfl, r⟩
  | _, _, i + 1, v, .cons _ t, e => by
    obtain ⟨d, h1, h2⟩ := dpAll_getD (i := i) t (by simpa using e)
    exact ⟨d, by simpa using h1, h2⟩
theorem dpAll_append {H : Hp} : ∀ {vs ws : List V} {ds es : List PyData}, DtAll H vs ds → DtAll H ws es → DtAll H (vs ++ ws) (ds ++ es)
  | _, _, _, _, .nil, h => h
  | _, _, _, _, .cons r t, h => .cons r (dpAll_append t h)
theorem dpAll_set {H : Hp} {x : V} {d : PyData} (r : Dt H x d) : ∀ {vs : List V} {ds : List PyData} (i : Nat), DtAll H vs ds → DtAll H (vs.set i x) (ds.set i d)
  | _, _, _, .nil => .nil
  | _, _, 0, .cons _ t => .cons r t
  | _, _, i + 1, .cons q t => .cons q (dpAll_set r i t)
theorem dpAll_take {H : Hp} : ∀ {vs : List V} {ds : List PyData} (n : Nat), DtAll H vs ds → DtAll H (vs.take n) (ds.take n)
  | _, _, 0, _ => .nil
  | _, _, _ + 1, .nil => .nil
  | _, _, n + 1, .cons r t => .cons r (dpAll_take n t)
theorem dpAll_drop {H : Hp} : ∀ {vs : List V} {ds : List PyData} (n : Nat), DtAll H vs ds → DtAll H (vs.drop n) (ds.drop n)
  | _, _, 0, h => h
  | _, _, _ + 1, .nil => .nil
  | _, _, n + 1, .cons _ t => dpAll_drop n t
theorem dpAll_ints {H : Hp} : ∀ ns : List Int, DtAll H (ns.map V.int) (ns.map PyData.int)
  | [] => .nil
  | n :: ns => .cons (.int n) (dpAll_ints ns)
theorem dpAll_reverse {H : Hp} : ∀ {vs : List V} {ds : List PyData}, DtAll H vs ds → DtAll H vs.reverse ds.reverse
  | _, _, .nil => .nil
  | _, _, .cons r t => by
    rw [List.reverse_cons, List.reverse_cons]
    exact dpAll_append (dpAll_reverse t) (.cons r .nil)

theorem dtAll_rep {F : Hp} {vs : List V} {ds : List PyData} (h : DtAll F vs ds) : ∀ k : Nat, DtAll F (List.replicate k vs).flatten (List.replicate k ds).flatten
  | 0 => .nil
  | k + 1 => by
    rw [List.replicate_succ, List.replicate_succ, List.flatten_cons, List.flatten_cons]
    exact dpAll_append h (dtAll_rep h k)
mutual
theorem Dt.dp {K : PySem.W.Frag} {F H : Hp} (e : Same F H) : ∀ (d : PyData) (v : V), Dt F v d → Dp K H v d
  | .none, _, h => by cases h; exact .non
  | .bool b, _, h => by cases h; exact .bl b
  | .int i, _, h => by cases h; exact .int i
  | .str x, _, h => by cases h; exact .str x
  | .list ds, _, h => by
    cases h with
    | lst hs ha => exact .lst (SqL.of (e _ _ hs)) (Dt.dpAll e ds _ ha)
  | .tuple ds, _, h => by
    cases h with
    | tup hs ha => exact .tup (SqT.of (e _ _ hs)) (Dt.dpAll e ds _ ha)
  | .dict _, _, h => by cases h
theorem Dt.dpAll {K : PySem.W.Frag} {F H : Hp} (e : Same F H) : ∀ (ds : List PyData) (vs : List V), DtAll F vs ds → DpAll K H vs ds
  | [], _, h => by cases h; exact .nil
  | d :: ds, _, h => by
    cases h with
    | cons h1 h2 => exact .cons (Dt.dp e d _ h1) (Dt.dpAll e ds _ h2)
end

/-! ### the frozen part -/
def NoTbl (o : HO) : Prop := ∀ ps, o ≠ .tbl ps
def Fz (F H : Hp) : Prop := ∀ b o, F b = some o → H b = some o ∧ NoTbl o
structure Grow (H F H' F' : Hp) : Prop where
  keep : ∀ b o, H b = some o → NoTbl o → H' b = some o
  live : ∀ b, H' b = none → H b = none
  fro : ∀ b, H b ≠ none → F' b = F b
theorem Fz.non {F H : Hp} (z : Fz F H) {b : Addr} (h : H b = none) : F b = none := by
  cases e : F b with
  | none => rfl
  | some o =>
    rw [(z b o e).1] at h
    cases h
theorem Fz.same {F H : Hp} (z : Fz F H) : Same F H := fun b o e => (z b o e).1
theorem Grow.refl (H F : Hp) : Grow H F H F := ⟨fun _ _ e _ => e, fun _ e => e, fun _ _ => rfl⟩
theorem Grow.trans {H F H1 F1 H2 F2 : Hp} (a : Grow H F H1 F1) (b : Grow H1 F1 H2 F2) : Grow H F H2 F2 :=
  ⟨fun c o e n => b.keep c o (a.keep c o e n) n, fun c e => a.live c (b.live c e), fun c e => (b.fro c fun z => e (a.live c z)).trans (a.fro c e)⟩
theorem Grow.same {H F H' F' : Hp} (g : Grow H F H' F') (z : Fz F H) : Same F F' := fun b o e => by
  rw [g.fro b (by rw [(z b o e).1]; exact fun q => nomatch q)]
  exact e
theorem Grow.newF {H F : Hp} {p : Addr} {o : HO} (hp : H p = none) : Grow H F (upd H p o) (upd F p o) :=
  ⟨fun b u e _ => by rw [upd_ne (ne_of_none e hp)]; exact e, fun b e => by
    by_cases hb : b = p
    · rw [hb]; exact hp
    · rw [upd_ne hb] at e; exact e, fun b e => upd_ne fun z => e (by rw [z]; exact hp)⟩
theorem Grow.new {H F : Hp} {p : Addr} {o : HO} (hp : H p = none) : Grow H F (upd H p o) F :=
  ⟨fun b u e _ => by rw [upd_ne (ne_of_none e hp)]; exact e, fun b e => by
    by_cases hb : b = p
    · rw [hb]; exact hp
    · rw [upd_ne hb] at e; exact e, fun b e => rfl⟩
theorem Fz.newF {H F : Hp} {p : Addr} {o : HO} (z : Fz F H) (hp : H p = none) (n : NoTbl o) : Fz (upd F p o) (upd H p o) := fun b u e => by
  by_cases hb : b = p
  · rw [hb, upd_same] at e
    cases e
    rw [hb]
    exact ⟨upd_same, n⟩
  · rw [upd_ne hb] at e ⊢
    exact z b u e
theorem Fz.new {H F : Hp} {p : Addr} {o : HO} (z : Fz F H) (hp : H p = none) : Fz F (upd H p o) := fun b u e => by
  have q := z b u e
  rw [upd_ne (ne_of_none q.1 hp)]
  exact q
theorem extL_new {H : Hp} {p : Addr} {o : HO} (hp : H p = none) : ExtL H (upd H p o) := fun b u e _ => by
  rw [upd_ne (ne_of_none e hp)]
  exact e
theorem extL_lst {H : Hp} {p : Addr} {xs : List V} {o : HO} (hp : H p = some (.lst xs)) : ExtL H (upd H p o) := fun b u e n => by
  by_cases hb : b = p
  · rw [hb, hp] at e
    cases e
    exact absurd rfl (n xs)
  · rw [upd_ne hb]
    exact e
/-- freeze what stands at p -/
theorem Fz.freeze {H F : Hp} {p : Addr} {o : HO} (z : Fz F H) (hp : H p = some o) (n : NoTbl o) : Fz (upd F p o) H := fun b u e => by
  by_cases hb : b = p
  · rw [hb, upd_same] at e
    cases e
    rw [hb]
    exact ⟨hp, n⟩
  · rw [upd_ne hb] at e
    exact z b u e
theorem nt_lst {xs : List V} : NoTbl (.lst xs) := fun _ z => nomatch z
theorem nt_tup {xs : List V} : NoTbl (.tup xs) := fun _ z => nomatch z

/-! ### slots -/
def InnAt (F H : Hp) : List Addr → List (List PyData) → Prop
  | [], [] => True
  | a :: as, ds :: dss => (∃ vs, H a = some (.lst vs) ∧ DtAll F vs ds) ∧ InnAt F H as dss
  | _, _ => False
def En.At (G : Gd) (K : PySem.W.Frag) (F H : Hp) (v : V) (fp : List Addr) : En → Prop
  | .rs r => fp = [] ∧ r.At G K F v
  | .own ds => ∃ a vs, v = .ref a ∧ fp = [a] ∧ H a = some (.lst vs) ∧ DtAll F vs ds
  | .own2 dss => ∃ a as, v = .ref a ∧ fp = a :: as ∧ H a = some (.lst (as.map V.ref)) ∧ InnAt F H as dss
  | .res b none => ∃ a, v = .ref a ∧ fp = [a] ∧ H a = some (.lst [.bl b, .non])
  | .res b (some ds) => ∃ a c vs, v = .ref a ∧ fp = [a, c] ∧ H a = some (.lst [.bl b, .ref c]) ∧ H c = some (.lst vs) ∧ DtAll F vs ds
  | .obj ds => ∃ a u, v = .ref a ∧ fp = [a] ∧ H a = some u ∧ NoTbl u ∧ G.obj F a u ds
inductive SlotsAt (G : Gd) (K : PySem.W.Frag) (F H : Hp) : L2.St → Ro → List (List Addr) → Prop
  | nil : SlotsAt G K F H [] [] []
  | skip {o : Option V} {σ : L2.St} {ρ : Ro} {fs : List (List Addr)} : SlotsAt G K F H σ ρ fs → SlotsAt G K F H (o :: σ) (none :: ρ) ([] :: fs)
  | cons {v : V} {e : En} {fp : List Addr} {σ : L2.St} {ρ : Ro} {fs : List (List Addr)} : e.At G K F H v fp → SlotsAt G K F H σ ρ fs → SlotsAt G K F H (some v :: σ) (some e :: ρ) (fp :: fs)
theorem innAt_mono {F H F' H' : Hp} (e : Same F F') (k : ∀ b o, H b = some o → NoTbl o → H' b = some o) : ∀ {as : List Addr} {dss : List (List PyData)}, InnAt F H as dss → InnAt F' H' as dss
  | [], [], _ => True.intro
  | [], _ :: _, h => h
  | _ :: _, [], h => h
  | a :: as, ds :: dss, ⟨⟨vs, h1, h2⟩, h3⟩ => ⟨⟨vs, k _ _ h1 nt_lst, dpAll_mono e _ _ h2⟩, innAt_mono e k h3⟩
theorem innAt_live {F H : Hp} : ∀ {as : List Addr} {dss : List (List PyData)}, InnAt F H as dss → ∀ b ∈ as, H b ≠ none
  | [], [], _, b, hb => nomatch hb
  | [], _ :: _, h, _, _ => h.elim
  | _ :: _, [], h, _, _ => h.elim
  | a :: as, ds :: dss, ⟨⟨vs, h1, h2⟩, h3⟩, b, hb => by
    rcases List.mem_cons.mp hb with e | hb
    · rw [e, h1]; exact fun z => nomatch z
    · exact innAt_live h3 b hb
theorem En.At.mono {G : Gd} {K : PySem.W.Frag} {F H F' H' : Hp} (e : Same F F') (k : ∀ b o, H b = some o → NoTbl o → H' b = some o) {v : V} {fp : List Addr} : ∀ {en : En}, en.At G K F H v fp → en.At G K F' H' v fp
  | .rs r, h => ⟨h.1, h.2.mono e⟩
  | .own ds, ⟨a, vs, h1, h2, h3, h4⟩ => ⟨a, vs, h1, h2, k _ _ h3 nt_lst, dpAll_mono e _ _ h4⟩
  | .own2 dss, ⟨a, as, h1, h2, h3, h4⟩ => ⟨a, as, h1, h2, k _ _ h3 nt_lst, innAt_mono e k h4⟩
  | .res b none, ⟨a, h1, h2, h3⟩ => ⟨a, h1, h2, k _ _ h3 nt_lst⟩
  | .res b (some ds), ⟨a, c, vs, h1, h2, h3, h4, h5⟩ => ⟨a, c, vs, h1, h2, k _ _ h3 nt_lst, k _ _ h4 nt_lst, dpAll_mono e _ _ h5⟩
  | .obj ds, ⟨a, u, h1, h2, h3, h4, h5⟩ => ⟨a, u, h1, h2, k _ _ h3 h4, h4, G.omono e h5⟩
theorem En.At.live {G : Gd} {K : PySem.W.Frag} {F H : Hp} {v : V} {fp : List Addr} : ∀ {en : En}, en.At G K F H v fp → ∀ b ∈ fp, H b ≠ none
  | .rs r, h, b, hb => by rw [h.1] at hb; exact nomatch hb
  | .own ds, ⟨a, vs, h1, h2, h3, h4⟩, b, hb => by
    rw [h2] at hb
    rw [List.mem_singleton.mp hb, h3]; exact fun z => nomatch z
  | .own2 dss, ⟨a, as, h1, h2, h3, h4⟩, b, hb => by
    rw [h2] at hb
    rcases List.mem_cons.mp hb with e | hb
    · rw [e, h3]; exact fun z => nomatch z
    · exact innAt_live h4 b hb
  | .res k none, ⟨a, h1, h2, h3⟩, b, hb => by
    rw [h2] at hb
    rw [List.mem_singleton.mp hb, h3]; exact fun z => nomatch z
  | .res k (some ds), ⟨a, c, vs, h1, h2, h3, h4, h5⟩, b, hb => by
    rw [h2] at hb
    rcases List.mem_cons.mp hb with e | hb
    · rw [e, h3]; exact fun z => nomatch z
    · rw [List.mem_singleton.mp hb, h4]; exact fun z => nomatch z
  | .obj ds, ⟨a, u, h1, h2, h3, h4, h5⟩, b, hb => by
    rw [h2] at hb
    rw [List.mem_singleton.mp hb, h3]; exact fun z => nomatch z
theorem SlotsAt.mono {G : Gd} {K : PySem.W.Frag} {F H F' H' : Hp} (e : Same F F') (k : ∀ b o, H b = some o → NoTbl o → H' b = some o) : ∀ {σ : L2.St} {ρ : Ro} {fs : List (List Addr)}, SlotsAt G K F H σ ρ fs → SlotsAt G K F' H' σ ρ fs
  | _, _, _, .nil => .nil
  | _, _, _, .skip h => .skip (SlotsAt.mono e k h)
  | _, _, _, .cons a h => .cons (a.mono e k) (SlotsAt.mono e k h)
theorem SlotsAt.live {G : Gd} {K : PySem.W.Frag} {F H : Hp} : ∀ {σ : L2.St} {ρ : Ro} {fs : List (List Addr)}, SlotsAt G K F H σ ρ fs → ∀ b ∈ fs.flatten, H b ≠ none
  | _, _, _, .nil, b, hb => by simp at hb
  | _, _, _, .skip h, b, hb => SlotsAt.live h b (by simpa using hb)
  | _, _, _, .cons a h, b, hb => by
    rw [List.flatten_cons] at hb
    rcases List.mem_append.mp hb with hb | hb
    · exact a.live b hb
    · exact SlotsAt.live h b hb
theorem SlotsAt.get {G : Gd} {K : PySem.W.Frag} {F H : Hp} : ∀ {σ : L2.St} {ρ : Ro} {fs : List (List Addr)} {i : Nat} {e : En}, SlotsAt G K F H σ ρ fs → ρ[i]? = some (some e) → ∃ v fp, σ[i]? = some (some v) ∧ fs[i]? = some fp ∧ e.At G K F H v fp
  | _, _, _, _, _, .nil, h => by simp at h
  | _, _, _, 0, _, .skip _, h => by simp at h
  | _, _, _, 0, _, .cons a _, h => by simp at h; subst h; exact ⟨_, _, rfl, rfl, a⟩
  | _, _, _, i + 1, e, .skip t, h => by
    obtain ⟨v, fp, h1, h2, h3⟩ := SlotsAt.get (i := i) (e := e) t (by simpa using h)
    exact ⟨v, fp, by simpa using h1, by simpa using h2, h3⟩
  | _, _, _, i + 1, e, .cons _ t, h => by
    obtain ⟨v, fp, h1, h2, h3⟩ := SlotsAt.get (i := i) (e := e) t (by simpa using h)
    exact ⟨v, fp, by simpa using h1, by simpa using h2, h3⟩
theorem SlotsAt.len {G : Gd} {K : PySem.W.Frag} {F H : Hp} : ∀ {σ : L2.St} {ρ : Ro} {fs : List (List Addr)}, SlotsAt G K F H σ ρ fs → σ.length = ρ.length ∧ fs.length = ρ.length
  | _, _, _, .nil => ⟨rfl, rfl⟩
  | _, _, _, .skip t => ⟨congrArg Nat.succ t.len.1, congrArg Nat.succ t.len.2⟩
  | _, _, _, .cons _ t => ⟨congrArg Nat.succ t.len.1, congrArg Nat.succ t.len.2⟩
theorem SlotsAt.set {G : Gd} {K : PySem.W.Frag} {F H : Hp} {v : V} {e : En} {fp : List Addr} (a : e.At G K F H v fp) : ∀ {σ : L2.St} {ρ : Ro} {fs : List (List Addr)} (i : Nat), SlotsAt G K F H σ ρ fs → SlotsAt G K F H (σ.set i (some v)) (ρ.set i (some e)) (fs.set i fp)
  | _, _, _, _, .nil => .nil
  | _, _, _, 0, .skip t => .cons a t
  | _, _, _, 0, .cons _ t => .cons a t
  | _, _, _, i + 1, .skip t => .skip (t.set a i)
  | _, _, _, i + 1, .cons b t => .cons b (t.set a i)
/-- less is known -/
inductive Le : Ro → Ro → Prop
  | nil : Le [] []
  | drop {a : Option En} {ρ ρ' : Ro} : Le ρ ρ' → Le (none :: ρ) (a :: ρ')
  | same {a : Option En} {ρ ρ' : Ro} : Le ρ ρ' → Le (a :: ρ) (a :: ρ')
theorem Le.refl : ∀ ρ : Ro, Le ρ ρ
  | [] => .nil
  | _ :: ρ => .same (Le.refl ρ)
theorem Le.trans : ∀ {a b c : Ro}, Le a b → Le b c → Le a c
  | _, _, _, .nil, .nil => .nil
  | _, _, _, .drop x, .drop y => .drop (x.trans y)
  | _, _, _, .drop x, .same y => .drop (x.trans y)
  | _, _, _, .same x, .same y => .same (x.trans y)
  | _, _, _, .same (a := none) x, .drop y => .drop (x.trans y)
theorem SlotsAt.less {G : Gd} {K : PySem.W.Frag} {F H : Hp} : ∀ {σ : L2.St} {ρ ρ' : Ro} {fs : List (List Addr)}, Le ρ' ρ → SlotsAt G K F H σ ρ fs → ∃ fs', SlotsAt G K F H σ ρ' fs' ∧ fs'.flatten.Sublist fs.flatten
  | _, _, _, _, .nil, .nil => ⟨[], .nil, List.Sublist.refl _⟩
  | _, _, _, _, .drop l, .skip t => by
    obtain ⟨fs', h1, h2⟩ := SlotsAt.less l t
    exact ⟨[] :: fs', .skip h1, by simpa using h2⟩
  | _, _, _, _, .drop l, .cons a t => by
    obtain ⟨fs', h1, h2⟩ := SlotsAt.less l t
    refine ⟨[] :: fs', .skip h1, ?_⟩
    rw [List.flatten_cons, List.flatten_cons, List.nil_append]
    exact h2.trans (List.sublist_append_right _ _)
  | _, _, _, _, .same l, .skip t => by
    obtain ⟨fs', h1, h2⟩ := SlotsAt.less l t
    exact ⟨[] :: fs', .skip h1, by simpa using h2⟩
  | _, _, _, _, .same l, .cons (fp := fp) a t => by
    obtain ⟨fs', h1, h2⟩ := SlotsAt.less l t
    refine ⟨fp :: fs', .cons a h1, ?_⟩
    rw [List.flatten_cons, List.flatten_cons]
    exact h2.append_left fp

/-! ### the state -/
abbrev Gh := List (V × Rs)
structure Sta (G : Gd) (K : PySem.W.Frag) (H0 F0 : Hp) (γ : Gh) (σ : L2.St) (H F : Hp) (ρ : Ro) : Prop where
  fz : Fz F H
  grow : Grow H0 F0 H F
  tab : G.tab H
  gh : ∀ p ∈ γ, p.2.At G K F p.1
  ex : ∃ fs, SlotsAt G K F H σ ρ fs ∧ fs.flatten.Nodup ∧ ∀ b ∈ fs.flatten, F b = none ∧ H0 b = none
/-- a value has come -/
structure Nx (G : Gd) (K : PySem.W.Frag) (H F H' F' : Hp) (v : V) (en : En) : Prop where
  fz : Fz F' H'
  grow : Grow H F H' F'
  tab : G.tab H'
  at_ : ∃ fp, en.At G K F' H' v fp ∧ fp.Nodup ∧ ∀ b ∈ fp, H b = none ∧ F' b = none
section
variable {G : Gd} {K : PySem.W.Frag} {H0 F0 H F H' F' : Hp} {γ : Gh} {σ : L2.St} {ρ ρ' : Ro}
/-- the heap has grown -/
theorem Sta.go (S : Sta G K H0 F0 γ σ H F ρ) (g : Grow H F H' F') (z : Fz F' H') (t : G.tab H') : Sta G K H0 F0 γ σ H' F' ρ := by
  obtain ⟨fs, h1, h2, h3⟩ := S.ex
  exact ⟨z, S.grow.trans g, t, fun p hp => (S.gh p hp).mono (g.same S.fz), fs, h1.mono (g.same S.fz) g.keep, h2, fun b hb => ⟨by rw [g.fro b (h1.live b hb)]; exact (h3 b hb).1, (h3 b hb).2⟩⟩
theorem Sta.nx {v : V} {en : En} (S : Sta G K H0 F0 γ σ H F ρ) (n : Nx G K H F H' F' v en) : Sta G K H0 F0 γ σ H' F' ρ := S.go n.grow n.fz n.tab
theorem Sta.less (S : Sta G K H0 F0 γ σ H F ρ) (l : Le ρ' ρ) : Sta G K H0 F0 γ σ H F ρ' := by
  obtain ⟨fs, h1, h2, h3⟩ := S.ex
  obtain ⟨fs', h4, h5⟩ := h1.less l
  exact ⟨S.fz, S.grow, S.tab, S.gh, fs', h4, h5.nodup h2, fun b hb => h3 b (h5.subset hb)⟩
theorem Sta.ghost (S : Sta G K H0 F0 γ σ H F ρ) {γ' : Gh} (h : ∀ p ∈ γ', p.2.At G K F p.1) : Sta G K H0 F0 γ' σ H F ρ := ⟨S.fz, S.grow, S.tab, h, S.ex⟩
theorem Sta.slot {i : Nat} {r : Rs} (S : Sta G K H0 F0 γ σ H F ρ) (h : ρ[i]? = some (some (.rs r))) : ∃ v, σ[i]? = some (some v) ∧ r.At G K F v := by
  obtain ⟨fs, h1, _, _⟩ := S.ex
  obtain ⟨v, fp, a, _, b⟩ := h1.get h
  exact ⟨v, a, b.2⟩
theorem mem_flatten_set {α : Type} : ∀ {l : List (List α)} {i : Nat} {x : List α} {b : α}, b ∈ (l.set i x).flatten → b ∈ x ∨ b ∈ l.flatten
  | [], _, _, _, h => by simp at h
  | a :: l, 0, x, b, h => by
    rw [List.set_cons_zero, List.flatten_cons] at h
    rcases List.mem_append.mp h with h | h
    · exact .inl h
    · exact .inr (by rw [List.flatten_cons]; exact List.mem_append_right _ h)
  | a :: l, i + 1, x, b, h => by
    rw [List.set_cons_succ, List.flatten_cons] at h
    rcases List.mem_append.mp h with h | h
    · exact .inr (by rw [List.flatten_cons]; exact List.mem_append_left _ h)
    · rcases mem_flatten_set h with h | h
      · exact .inl h
      · exact .inr (by rw [List.flatten_cons]; exact List.mem_append_right _ h)
theorem nodup_flatten_set {α : Type} : ∀ {l : List (List α)} {i : Nat} {x : List α}, l.flatten.Nodup → x.Nodup → (∀ b ∈ x, b ∉ l.flatten) → (l.set i x).flatten.Nodup
  | [], _, _, _, _, _ => by simp
  | a :: l, 0, x, h, hx, hd => by
    rw [List.flatten_cons] at h hd
    obtain ⟨h1, h2, h3⟩ := List.nodup_append.mp h
    rw [List.set_cons_zero, List.flatten_cons]
    exact List.nodup_append.mpr ⟨hx, h2, fun b hb c hc e => hd b hb (List.mem_append_right _ (by rw [e]; exact hc))⟩
  | a :: l, i + 1, x, h, hx, hd => by
    rw [List.flatten_cons] at h hd
    obtain ⟨h1, h2, h3⟩ := List.nodup_append.mp h
    rw [List.set_cons_succ, List.flatten_cons]
    refine List.nodup_append.mpr ⟨h1, nodup_flatten_set h2 hx fun b hb hm => hd b hb (List.mem_append_right _ hm), fun b hb c hc e => ?_⟩
    rcases mem_flatten_set hc with hc | hc
    · exact hd c hc (List.mem_append_left _ (by rw [← e]; exact hb))
    · exact h3 b hb c hc e
/-- the value is stored in slot i -/
theorem Sta.set {v : V} {en : En} (i : Nat) (S : Sta G K H0 F0 γ σ H F ρ) (n : Nx G K H F H' F' v en) : Sta G K H0 F0 γ (σ.set i (some v)) H' F' (ρ.set i (some en)) := by
  obtain ⟨fp, a, nd, fr⟩ := n.at_
  obtain ⟨fs0, h01, _, _⟩ := S.ex
  have S' := S.nx n
  have fl : ∀ b ∈ fp, ∀ fs : List (List Addr), SlotsAt G K F H σ ρ fs → b ∉ fs.flatten := fun b hb fs h hm => h.live b hm (fr b hb).1
  obtain ⟨fs, h1, h2, h3⟩ := S.ex
  have h1' := h1.mono (n.grow.same S.fz) n.grow.keep
  refine ⟨S'.fz, S'.grow, S'.tab, S'.gh, fs.set i fp, h1'.set a i, nodup_flatten_set h2 nd fun b hb => fl b hb fs h1, fun b hb => ?_⟩
  rcases mem_flatten_set hb with hb | hb
  · refine ⟨(fr b hb).2, ?_⟩
    cases e : H0 b with
    | none => rfl
    | some o =>
      have l := S.grow.live b (fr b hb).1
      rw [e] at l
      cases l
  · exact ⟨by rw [n.grow.fro b (h1.live b hb)]; exact (h3 b hb).1, (h3 b hb).2⟩
theorem Nx.rs {v : V} {r : Rs} (z : Fz F' H') (g : Grow H F H' F') (t : G.tab H') (a : r.At G K F' v) : Nx G K H F H' F' v (.rs r) := ⟨z, g, t, [], ⟨rfl, a⟩, List.nodup_nil, fun b hb => nomatch hb⟩
theorem Nx.rs0 {v : V} {r : Rs} (S : Sta G K H0 F0 γ σ H F ρ) (a : r.At G K F v) : Nx G K H F H F v (.rs r) := .rs S.fz (.refl _ _) S.tab a
theorem Nx.rsAt {v : V} {r : Rs} (n : Nx G K H F H' F' v (.rs r)) : r.At G K F' v := let ⟨_, a, _⟩ := n.at_; a.2
/-- behind a first value -/
theorem Nx.behind {H1 F1 : Hp} {v u : V} {a b : En} (z : Fz F H) (n : Nx G K H F H1 F1 v a) (m : Nx G K H1 F1 H' F' u b) : Nx G K H F H' F' u b := by
  obtain ⟨fp, h1, h2, h3⟩ := m.at_
  exact ⟨m.fz, n.grow.trans m.grow, m.tab, fp, h1, h2, fun c hc => ⟨n.grow.live c (h3 c hc).1, (h3 c hc).2⟩⟩
/-- a new tuple -/
theorem Nx.tup {p : Addr} {vs : List V} {ds : List PyData} (z : Fz F H) (t : G.tab H) (hp : H p = none) (a : DtAll F vs ds) : Nx G K H F (upd H p (.tup vs)) (upd F p (.tup vs)) (.ref p) (.rs (.dat (.tuple ds))) := by
  have g : Grow H F (upd H p (.tup vs)) (upd F p (.tup vs)) := .newF hp
  exact .rs (z.newF hp nt_tup) g (G.mono (extL_new hp) t) (.tup upd_same (dpAll_mono (g.same z) _ _ a))
/-- a new list, the frame's own -/
theorem Nx.lst {p : Addr} {vs : List V} {ds : List PyData} (z : Fz F H) (t : G.tab H) (hp : H p = none) (a : DtAll F vs ds) : Nx G K H F (upd H p (.lst vs)) F (.ref p) (.own ds) :=
  ⟨z.new hp, .new hp, G.mono (extL_new hp) t, [p], ⟨p, vs, rfl, rfl, upd_same, a⟩, by simp, fun b hb => by
    rw [List.mem_singleton.mp hb]
    exact ⟨hp, z.non hp⟩⟩
/-- an own list is frozen -/
theorem Nx.freeze {v : V} {ds : List PyData} (n : Nx G K H F H' F' v (.own ds)) : ∃ F2, Nx G K H F H' F2 v (.rs (.dat (.list ds))) := by
  obtain ⟨fp, ⟨a, vs, e1, e2, h1, h2⟩, nd, fr⟩ := n.at_
  have fa := fr a (by rw [e2]; exact List.mem_singleton.mpr rfl)
  refine ⟨upd F' a (.lst vs), .rs (n.fz.freeze h1 nt_lst) ⟨n.grow.keep, n.grow.live, fun b hb => ?_⟩ n.tab ?_⟩
  · rw [upd_ne (fun z => hb (by rw [z]; exact fa.1))]
    exact n.grow.fro b hb
  · rw [e1]
    have s : Same F' (upd F' a (.lst vs)) := fun b o e => by rw [upd_ne (ne_of_none e fa.2)]; exact e
    exact .lst upd_same (dpAll_mono s _ _ h2)
end
end LC
namespace LC
open PySem PySem.Spec PyProof.Rows L2

/-! ### judgements -/
def XE (G : Gd) (X : Cx) (e : Expr) (ρ : Ro) (en : En) : Prop :=
  ∃ t, PE X e t ∧ ∀ H0 F0 γ σ H F, Sta G X.K H0 F0 γ σ H F ρ → ∀ Q : VK, (∀ v H' F', Nx G X.K H F H' F' v en → Q v H') → t σ H Q
def XT (G : Gd) (X : Cx) (e : Expr) (ρ : Ro) (b : Bool) : Prop :=
  ∃ t, PT X e t ∧ ∀ H0 F0 γ σ H F, Sta G X.K H0 F0 γ σ H F ρ → ∀ Q : Bool → Hp → Prop, (∀ H' F', Grow H F H' F' → Fz F' H' → G.tab H' → Q b H') → t σ H Q
/-- behind and, or -/
def XW (G : Gd) (X : Cx) (e : Expr) (ρ : Ro) (b : Bool) : Prop :=
  ∃ t, PW X e t ∧ ∀ H0 F0 γ σ H F, Sta G X.K H0 F0 γ σ H F ρ → ∀ Q : Bool → Hp → Prop, (∀ H' F', Grow H F H' F' → Fz F' H' → G.tab H' → Q b H') → t σ H Q
inductive RsAll (G : Gd) (K : PySem.W.Frag) (F : Hp) : List V → List Rs → Prop
  | nil : RsAll G K F [] []
  | cons {v : V} {r : Rs} {vs : List V} {rs : List Rs} : r.At G K F v → RsAll G K F vs rs → RsAll G K F (v :: vs) (r :: rs)
theorem RsAll.mono {G : Gd} {K : PySem.W.Frag} {F F' : Hp} (e : Same F F') : ∀ {vs : List V} {rs : List Rs}, RsAll G K F vs rs → RsAll G K F' vs rs
  | _, _, .nil => .nil
  | _, _, .cons a t => .cons (a.mono e) (t.mono e)
theorem RsAll.length {G : Gd} {K : PySem.W.Frag} {F : Hp} : ∀ {vs : List V} {rs : List Rs}, RsAll G K F vs rs → vs.length = rs.length
  | _, _, .nil => rfl
  | _, _, .cons _ t => congrArg Nat.succ t.length
theorem rsAll_of_dp {G : Gd} {K : PySem.W.Frag} {F : Hp} : ∀ {vs : List V} {ds : List PyData}, DtAll F vs ds → RsAll G K F vs (ds.map Rs.dat)
  | _, _, .nil => .nil
  | _, _, .cons a t => .cons a (rsAll_of_dp t)
def XA (G : Gd) (X : Cx) (es : List Expr) (ρ : Ro) (rs : List Rs) : Prop :=
  ∃ t, PA X es t ∧ ∀ H0 F0 γ σ H F, Sta G X.K H0 F0 γ σ H F ρ → ∀ Q : List V → Hp → Prop, (∀ vs H' F', Grow H F H' F' → Fz F' H' → G.tab H' → RsAll G X.K F' vs rs → Q vs H') → t σ H Q
/-- all data -/
def XD (G : Gd) (X : Cx) (es : List Expr) (ρ : Ro) (ds : List PyData) : Prop :=
  ∃ t, PA X es t ∧ ∀ H0 F0 γ σ H F, Sta G X.K H0 F0 γ σ H F ρ → ∀ Q : List V → Hp → Prop, (∀ vs H' F', Grow H F H' F' → Fz F' H' → G.tab H' → DtAll F' vs ds → Q vs H') → t σ H Q
abbrev int_ (i : Int) : En := .rs (.dat (.int i))
abbrev str_ (s : Str) : En := .rs (.dat (.str s))
abbrev bl_ (b : Bool) : En := .rs (.dat (.bool b))
abbrev non_ : En := .rs (.dat .none)
abbrev tup_ (ds : List PyData) : En := .rs (.dat (.tuple ds))
abbrev lst_ (ds : List PyData) : En := .rs (.dat (.list ds))
abbrev dat_ (d : PyData) : En := .rs (.dat d)

section
variable {G : Gd} {X : Cx} {ρ : Ro} {e a b : Expr} {es : List Expr} {pos : Pos} {H F H' F' : Hp}

/-! ### names, constants -/
theorem xe_var (i : Nat) {x : Str} {r : Rs} (h : ρ[i]? = some (some (.rs r)) := by rfl) (hN : X.N[i]? = some x := by rfl) (hv : Vis X.env.scope x := by first | exact Or.inl rfl | exact Or.inr (Or.inl rfl) | exact Or.inr (Or.inr rfl))
    (hd : (x == ("__debug__" : Str)) = false := by decide) (hcd : (x == ("__classdict__" : Str)) = false := by decide) : XE G X (.Name x pos) ρ (.rs r) :=
  ⟨_, pe_var hN hv hd hcd, fun H0 F0 γ σ H F S Q q => by
    obtain ⟨v, h1, h2⟩ := S.slot h
    exact ⟨v, h1, q v H F (.rs0 S h2)⟩⟩
/-- what is evaluated to data at once -/
theorem xe_const {v : V} {d : PyData} (h : PE X e (tC v)) (hd : ∀ H, Dt H v d) : XE G X e ρ (dat_ d) := ⟨_, h, fun H0 F0 γ σ H F S Q q => q v H F (.rs0 S (hd F))⟩
theorem xe_int {i j} : XE G X (.Constant (.int i) j pos) ρ (int_ i) := xe_const pe_int fun _ => .int i
theorem xe_bl {b j} : XE G X (.Constant (.bool b) j pos) ρ (bl_ b) := xe_const pe_bl fun _ => .bl b
theorem xe_non {j} : XE G X (.Constant .none j pos) ρ non_ := xe_const pe_non fun _ => .non
theorem xe_str {x j} : XE G X (.Constant (.str x) j pos) ρ (str_ x) := xe_const pe_str fun _ => .str x
theorem xe_gstr {x z : Str} (hm : ∃ t, X.mg x = some (.str z t)) (hg : Gl X x := by rfl) (hd : (x == ("__debug__" : Str)) = false := by decide) : XE G X (.Name x pos) ρ (str_ z) :=
  let ⟨t, hm⟩ := hm; xe_const (v := .str z) (pe_glob hg hm ⟨t, rfl⟩ hd) fun _ => .str z
theorem xe_gint {x : Str} {i : Int} (hm : ∃ t, X.mg x = some (.int i t)) (hg : Gl X x := by rfl) (hd : (x == ("__debug__" : Str)) = false := by decide) : XE G X (.Name x pos) ρ (int_ i) :=
  let ⟨t, hm⟩ := hm; xe_const (v := .int i) (pe_glob hg hm ⟨t, rfl⟩ hd) fun _ => .int i
/-- an own list, read as it stands from now on -/
theorem xe_fr {ds : List PyData} (h : XE G X e ρ (.own ds)) : XE G X e ρ (lst_ ds) := by
  obtain ⟨t, h1, h2⟩ := h
  refine ⟨t, h1, fun H0 F0 γ σ H F S Q q => h2 H0 F0 γ σ H F S Q fun v H' F' n => ?_⟩
  obtain ⟨F2, n2⟩ := n.freeze
  exact q v H' F2 n2
theorem XE.is {en en' : En} (h : XE G X e ρ en) (e' : en = en') : XE G X e ρ en' := e' ▸ h
theorem XT.is {b b' : Bool} (h : XT G X e ρ b) (e' : b = b') : XT G X e ρ b' := e' ▸ h
theorem XE.less {ρ' : Ro} {en : En} (h : XE G X e ρ en) (l : Le ρ ρ') : XE G X e ρ' en := by
  obtain ⟨t, h1, h2⟩ := h
  exact ⟨t, h1, fun H0 F0 γ σ H F S Q q => h2 H0 F0 γ σ H F (S.less l) Q q⟩

/-! ### argument lists, displays -/
theorem xa_nil : XA G X [] ρ [] := ⟨_, pa_nil, fun H0 F0 γ σ H F S Q q => q [] H F (.refl _ _) S.fz S.tab .nil⟩
theorem xa_cons {r : Rs} {rs : List Rs} (h : XE G X e ρ (.rs r)) (h' : XA G X es ρ rs) (hs : starEach (e :: es) X.env = (false, eval e X.env) :: starEach es X.env := by rfl) : XA G X (e :: es) ρ (r :: rs) := by
  obtain ⟨t, h1, h2⟩ := h
  obtain ⟨t', h3, h4⟩ := h'
  refine ⟨_, pa_cons h1 h3 hs, fun H0 F0 γ σ H F S Q q => h2 _ _ _ _ _ _ S _ fun v H1 F1 n => h4 _ _ _ _ _ _ (S.nx n) _ fun vs H2 F2 g z t a => ?_⟩
  exact q _ H2 F2 (n.grow.trans g) z t (.cons (n.rsAt.mono (g.same n.fz)) a)
theorem xd_nil : XD G X [] ρ [] := ⟨_, pa_nil, fun H0 F0 γ σ H F S Q q => q [] H F (.refl _ _) S.fz S.tab .nil⟩
theorem xd_cons {d : PyData} {ds : List PyData} (h : XE G X e ρ (dat_ d)) (h' : XD G X es ρ ds) (hs : starEach (e :: es) X.env = (false, eval e X.env) :: starEach es X.env := by rfl) : XD G X (e :: es) ρ (d :: ds) := by
  obtain ⟨t, h1, h2⟩ := h
  obtain ⟨t', h3, h4⟩ := h'
  refine ⟨_, pa_cons h1 h3 hs, fun H0 F0 γ σ H F S Q q => h2 _ _ _ _ _ _ S _ fun v H1 F1 n => h4 _ _ _ _ _ _ (S.nx n) _ fun vs H2 F2 g z t a => ?_⟩
  exact q _ H2 F2 (n.grow.trans g) z t (.cons (dp_mono (g.same n.fz) _ _ n.rsAt) a)
theorem line_ok {n : Nat} (h : n ≤ 16777216) : n ≤ sizeLine := by rw [sizeLine_eq]; exact h
theorem Nx.from {H1 F1 : Hp} {v : V} {en : En} (g : Grow H F H1 F1) (m : Nx G X.K H1 F1 H' F' v en) : Nx G X.K H F H' F' v en := by
  obtain ⟨fp, h1, h2, h3⟩ := m.at_
  exact ⟨m.fz, g.trans m.grow, m.tab, fp, h1, h2, fun c hc => ⟨g.live c (h3 c hc).1, (h3 c hc).2⟩⟩
theorem xe_tup {x1} {ds : List PyData} (h : XD G X es ρ ds) (hl : ds.length ≤ 16777216 := by exact Nat.le_of_ble_eq_true rfl) : XE G X (.Tuple es x1 pos) ρ (tup_ ds) := by
  obtain ⟨t, h1, h2⟩ := h
  refine ⟨_, pe_tup h1, fun H0 F0 γ σ H F S Q q => h2 _ _ _ _ _ _ S _ fun vs H1 F1 g z t a => ⟨by rw [dpAll_length a]; exact line_ok hl, fun p hp => ?_⟩⟩
  exact q _ _ _ (.from g (.tup z t hp a))
theorem xe_lst {ds : List PyData} (h : XD G X es ρ ds) (hl : ds.length ≤ 16777216 := by exact Nat.le_of_ble_eq_true rfl) : XE G X (.List es pos) ρ (.own ds) := by
  obtain ⟨t, h1, h2⟩ := h
  refine ⟨_, pe_lst h1, fun H0 F0 γ σ H F S Q q => h2 _ _ _ _ _ _ S _ fun vs H1 F1 g z t a => ⟨by rw [dpAll_length a]; exact line_ok hl, fun p hp => ?_⟩⟩
  exact q _ _ _ (.from g (.lst z t hp a))

/-! ### two-place operations on values -/
def BinOk (G : Gd) (X : Cx) (f : Value → Value → Sem Value) (ra rb : Rs) (en : En) : Prop :=
  ∃ r : R2, OpR X f r ∧ ∀ x y H F, Fz F H → G.tab H → ra.At G X.K F x → rb.At G X.K F y → ∀ Q : VK, (∀ v H' F', Nx G X.K H F H' F' v en → Q v H') → r x y H Q
theorem two {en : En} {ta tb : TE} {r : R2} {ra rb : Rs} {σ : L2.St} {H0 F0 : Hp} {γ : Gh} {Q : VK}
    (h2 : ∀ H0 F0 γ σ H F, Sta G X.K H0 F0 γ σ H F ρ → ∀ Q : VK, (∀ v H' F', Nx G X.K H F H' F' v (.rs ra) → Q v H') → ta σ H Q)
    (h4 : ∀ H0 F0 γ σ H F, Sta G X.K H0 F0 γ σ H F ρ → ∀ Q : VK, (∀ v H' F', Nx G X.K H F H' F' v (.rs rb) → Q v H') → tb σ H Q)
    (ho : ∀ x y H F, Fz F H → G.tab H → ra.At G X.K F x → rb.At G X.K F y → ∀ Q : VK, (∀ v H' F', Nx G X.K H F H' F' v en → Q v H') → r x y H Q)
    (S : Sta G X.K H0 F0 γ σ H F ρ) (q : ∀ v H' F', Nx G X.K H F H' F' v en → Q v H') : tOp r ta tb σ H Q :=
  h2 _ _ _ _ _ _ S _ fun x H1 F1 n => h4 _ _ _ _ _ _ (S.nx n) _ fun y H2 F2 m =>
    ho x y H2 F2 m.fz m.tab (n.rsAt.mono (m.grow.same n.fz)) m.rsAt Q fun v H3 F3 k => q v H3 F3 (.from (n.grow.trans m.grow) k)
theorem xe_bin {op : Operator} {ra rb : Rs} {en : En} (ha : XE G X a ρ (.rs ra)) (hb : XE G X b ρ (.rs rb)) (ho : BinOk G X (binaryOp op) ra rb en) : XE G X (.BinOp a op b pos) ρ en := by
  obtain ⟨ta, h1, h2⟩ := ha
  obtain ⟨tb, h3, h4⟩ := hb
  obtain ⟨r, h5, h6⟩ := ho
  exact ⟨_, pe_op h5 h1 h3, fun H0 F0 γ σ H F S Q q => two h2 h4 h6 S q⟩
theorem xe_cmp {op : CmpOp} {ra rb : Rs} {en : En} (ha : XE G X a ρ (.rs ra)) (hb : XE G X b ρ (.rs rb)) (ho : BinOk G X (compareOp op) ra rb en) (hm : behindInMarks op b = false := by first | exact nomark _ | rfl) : XE G X (.Compare a [op] [b] pos) ρ en := by
  obtain ⟨ta, h1, h2⟩ := ha
  obtain ⟨tb, h3, h4⟩ := hb
  obtain ⟨r, h5, h6⟩ := ho
  exact ⟨_, pe_cmpR h5 h1 h3 hm, fun H0 F0 γ σ H F S Q q => two h2 h4 h6 S q⟩
theorem xt_cmp {op : CmpOp} {ra rb : Rs} {k : Bool} (ha : XE G X a ρ (.rs ra)) (hb : XE G X b ρ (.rs rb)) (ho : BinOk G X (compareOp op) ra rb (bl_ k)) (hm : behindInMarks op b = false := by first | exact nomark _ | rfl) : XT G X (.Compare a [op] [b] pos) ρ k := by
  obtain ⟨ta, h1, h2⟩ := ha
  obtain ⟨tb, h3, h4⟩ := hb
  obtain ⟨r, h5, h6⟩ := ho
  refine ⟨_, pt_cmpR h5 h1 h3 hm, fun H0 F0 γ σ H F S Q q => two h2 h4 h6 S fun v H' F' n => ?_⟩
  have d := n.rsAt
  cases d
  exact ⟨k, rfl, q H' F' n.grow n.fz n.tab⟩
/-- an expression of a bool, as a test -/
theorem xt_val {k : Bool} (h : XE G X e ρ (bl_ k)) (he : ∀ whole, isTrue e X.env whole = (do let v ← whole; standAt e.pos; holding [v] (truthy v)) := by intro _; rfl) : XT G X e ρ k := by
  obtain ⟨t, h1, h2⟩ := h
  refine ⟨_, pt_val h1 he, fun H0 F0 γ σ H F S Q q => h2 _ _ _ _ _ _ S _ fun v H' F' n => ?_⟩
  have d := n.rsAt
  cases d
  exact ⟨k, rfl, q H' F' n.grow n.fz n.tab⟩
/-- a value's truth -/
def truthD : PyData → Bool
  | .none => false
  | .bool b => b
  | .int i => i != 0
  | .str s => (s.length : Int) != 0
  | .list ds => !ds.isEmpty
  | .tuple ds => !ds.isEmpty
  | .dict _ => false
def smallD : PyData → Prop
  | .str s => s.length ≤ 16777216
  | _ => True
theorem isEmpty_dp {H : Hp} {vs : List V} {ds : List PyData} (a : DtAll H vs ds) : (!ds.isEmpty) = !vs.isEmpty := by
  cases a <;> rfl
theorem truV_of {K : PySem.W.Frag} {F H : Hp} (z : Fz F H) {v : V} {d : PyData} (h : Dt F v d) (s : smallD d) : TruV K v H (truthD d) := by
  cases h with
  | non => rfl
  | bl b => rfl
  | int i => rfl
  | str x => exact ⟨line_ok s, rfl⟩
  | lst hs ha => exact .inl ⟨_, SqL.of (z.same _ _ hs), isEmpty_dp ha⟩
  | tup hs ha => exact .inr (.inl ⟨_, SqT.of (z.same _ _ hs), isEmpty_dp ha⟩)
theorem xt_truth {d : PyData} (h : XE G X e ρ (dat_ d)) (s : smallD d := by trivial) (he : ∀ whole, isTrue e X.env whole = (do let v ← whole; standAt e.pos; holding [v] (truthy v)) := by intro _; rfl) : XT G X e ρ (truthD d) := by
  obtain ⟨t, h1, h2⟩ := h
  exact ⟨_, pt_truth h1 he, fun H0 F0 γ σ H F S Q q => h2 _ _ _ _ _ _ S _ fun v H' F' n => ⟨_, truV_of n.fz n.rsAt s, q H' F' n.grow n.fz n.tab⟩⟩

/-! ### and, or, not -/
theorem XW.t {k : Bool} (h : XW G X e ρ k) : XT G X e ρ k := let ⟨t, h1, h2⟩ := h; ⟨t, h1.pt, h2⟩
theorem xw_and1 {k : Bool} (h : XT G X a ρ k) : XW G X (.BoolOp .And [a] pos) ρ k := let ⟨t, h1, h2⟩ := h; ⟨t, pw_and1 h1, h2⟩
theorem xw_or1 {k : Bool} (h : XT G X a ρ k) : XW G X (.BoolOp .Or [a] pos) ρ k := let ⟨t, h1, h2⟩ := h; ⟨t, pw_or1 h1, h2⟩
theorem pe_never : PE X e (fun _ _ _ => False) := ⟨fun _ _ _ _ _ _ h => h.elim⟩
theorem pt_never : PT X e (fun _ _ _ => False) := ⟨fun _ _ _ _ _ _ h => h.elim⟩
theorem pw_never : PW X e (fun _ _ _ => False) := ⟨fun _ _ _ _ _ _ _ h => h.elim⟩
theorem xw_and {k j : Bool} {rest : List Expr} (h : XT G X a ρ k) (h' : k = true → XW G X (.BoolOp .And (b :: rest) pos) ρ j) : XW G X (.BoolOp .And (a :: b :: rest) pos) ρ (k && j) := by
  obtain ⟨t, h1, h2⟩ := h
  cases k with
  | true =>
    obtain ⟨u, h3, h4⟩ := h' rfl
    refine ⟨_, pw_and h1 h3, fun H0 F0 γ σ H F S Q q => h2 _ _ _ _ _ _ S _ fun H' F' g z t => ?_⟩
    exact h4 _ _ _ _ _ _ (S.go g z t) Q fun H2 F2 g2 z2 t2 => q H2 F2 (g.trans g2) z2 t2
  | false => exact ⟨_, pw_and h1 pw_never, fun H0 F0 γ σ H F S Q q => h2 _ _ _ _ _ _ S _ fun H' F' g z t => q H' F' g z t⟩
theorem xw_or {k j : Bool} {rest : List Expr} (h : XT G X a ρ k) (h' : k = false → XW G X (.BoolOp .Or (b :: rest) pos) ρ j) : XW G X (.BoolOp .Or (a :: b :: rest) pos) ρ (k || j) := by
  obtain ⟨t, h1, h2⟩ := h
  cases k with
  | false =>
    obtain ⟨u, h3, h4⟩ := h' rfl
    refine ⟨_, pw_or h1 h3, fun H0 F0 γ σ H F S Q q => h2 _ _ _ _ _ _ S _ fun H' F' g z t => ?_⟩
    exact h4 _ _ _ _ _ _ (S.go g z t) Q fun H2 F2 g2 z2 t2 => q H2 F2 (g.trans g2) z2 t2
  | true => exact ⟨_, pw_or h1 pw_never, fun H0 F0 γ σ H F S Q q => h2 _ _ _ _ _ _ S _ fun H' F' g z t => q H' F' g z t⟩
theorem xt_not {k : Bool} (h : XT G X a ρ k) : XT G X (.UnaryOp .Not a pos) ρ (!k) := by
  obtain ⟨t, h1, h2⟩ := h
  exact ⟨_, pt_not h1, fun H0 F0 γ σ H F S Q q => h2 _ _ _ _ _ _ S _ fun H' F' g z t => q H' F' g z t⟩
theorem nx_bl {k : Bool} (z : Fz F' H') (g : Grow H F H' F') (t : G.tab H') : Nx G X.K H F H' F' (.bl k) (bl_ k) := .rs z g t (.bl k)
theorem xe_one {op} {en : En} (h : XE G X a ρ en) : XE G X (.BoolOp op [a] pos) ρ en := let ⟨t, h1, h2⟩ := h; ⟨t, pe_one h1, h2⟩
/-- and, or, not of bools, as values -/
theorem xe_and {k j : Bool} {rest : List Expr} (h : XE G X a ρ (bl_ k)) (h' : k = true → XE G X (.BoolOp .And (b :: rest) pos) ρ (bl_ j)) : XE G X (.BoolOp .And (a :: b :: rest) pos) ρ (bl_ (k && j)) := by
  obtain ⟨t, h1, h2⟩ := h
  cases k with
  | true =>
    obtain ⟨u, h3, h4⟩ := h' rfl
    refine ⟨_, pe_and h1 h3, fun H0 F0 γ σ H F S Q q => h2 _ _ _ _ _ _ S _ fun v H' F' n => ?_⟩
    have d := n.rsAt
    cases d
    exact ⟨true, rfl, h4 _ _ _ _ _ _ (S.nx n) Q fun v H2 F2 m => q v H2 F2 (.from n.grow m)⟩
  | false =>
    refine ⟨_, pe_and h1 pe_never, fun H0 F0 γ σ H F S Q q => h2 _ _ _ _ _ _ S _ fun v H' F' n => ?_⟩
    have d := n.rsAt
    cases d
    exact ⟨false, rfl, q (.bl false) H' F' n⟩
theorem xe_or {k j : Bool} {rest : List Expr} (h : XE G X a ρ (bl_ k)) (h' : k = false → XE G X (.BoolOp .Or (b :: rest) pos) ρ (bl_ j)) : XE G X (.BoolOp .Or (a :: b :: rest) pos) ρ (bl_ (k || j)) := by
  obtain ⟨t, h1, h2⟩ := h
  cases k with
  | false =>
    obtain ⟨u, h3, h4⟩ := h' rfl
    refine ⟨_, pe_or h1 h3, fun H0 F0 γ σ H F S Q q => h2 _ _ _ _ _ _ S _ fun v H' F' n => ?_⟩
    have d := n.rsAt
    cases d
    exact ⟨false, rfl, h4 _ _ _ _ _ _ (S.nx n) Q fun v H2 F2 m => q v H2 F2 (.from n.grow m)⟩
  | true =>
    refine ⟨_, pe_or h1 pe_never, fun H0 F0 γ σ H F S Q q => h2 _ _ _ _ _ _ S _ fun v H' F' n => ?_⟩
    have d := n.rsAt
    cases d
    exact ⟨true, rfl, q (.bl true) H' F' n⟩
theorem xe_not {k : Bool} (h : XE G X a ρ (bl_ k)) : XE G X (.UnaryOp .Not a pos) ρ (bl_ (!k)) := by
  obtain ⟨t, h1, h2⟩ := h
  refine ⟨_, pe_not h1, fun H0 F0 γ σ H F S Q q => h2 _ _ _ _ _ _ S _ fun v H' F' n => ?_⟩
  have d := n.rsAt
  cases d
  exact ⟨k, rfl, q _ H' F' (nx_bl n.fz n.grow n.tab)⟩
/-- not x, x of any kind, by its truth -/
theorem xe_notT {d : PyData} (h : XE G X a ρ (dat_ d)) (s : smallD d := by trivial) : XE G X (.UnaryOp .Not a pos) ρ (bl_ (!truthD d)) := by
  obtain ⟨t, h1, h2⟩ := h
  refine ⟨_, pe_notT h1, fun H0 F0 γ σ H F S Q q => h2 _ _ _ _ _ _ S _ fun v H' F' n => ?_⟩
  exact ⟨_, truV_of n.fz n.rsAt s, q _ H' F' (nx_bl n.fz n.grow n.tab)⟩
theorem xe_ifExp {c : Expr} {k : Bool} {en : En} (h : XT G X c ρ k) (h1 : k = true → XE G X a ρ en) (h2 : k = false → XE G X b ρ en) : XE G X (.IfExp c a b pos) ρ en := by
  obtain ⟨t, p1, p2⟩ := h
  cases k with
  | true =>
    obtain ⟨u, p3, p4⟩ := h1 rfl
    refine ⟨_, pe_ifExp p1 p3 pe_never, fun H0 F0 γ σ H F S Q q => p2 _ _ _ _ _ _ S _ fun H' F' g z t => ?_⟩
    exact p4 _ _ _ _ _ _ (S.go g z t) Q fun v H2 F2 m => q v H2 F2 (.from g m)
  | false =>
    obtain ⟨u, p3, p4⟩ := h2 rfl
    refine ⟨_, pe_ifExp p1 pe_never p3, fun H0 F0 γ σ H F S Q q => p2 _ _ _ _ _ _ S _ fun H' F' g z t => ?_⟩
    exact p4 _ _ _ _ _ _ (S.go g z t) Q fun v H2 F2 m => q v H2 F2 (.from g m)

/-! ### the operations -/
theorem BinOk.rs {f : Value → Value → Sem Value} {ra rb : Rs} {r : R2} {rc : Rs} (h : OpR X f r) (q : ∀ x y H F, Fz F H → ra.At G X.K F x → rb.At G X.K F y → ∀ Q : VK, (∀ v, rc.At G X.K F v → Q v H) → r x y H Q) : BinOk G X f ra rb (.rs rc) :=
  ⟨r, h, fun x y H F z t ax ay Q k => q x y H F z ax ay Q fun v av => k v H F (.rs z (.refl _ _) t av)⟩
theorem bin_I0 {f : Value → Value → Sem Value} {g : Int → Int → V} {i j : Int} {d : PyData} (h : OpR X f (rI0 g)) (hd : ∀ H, Dt H (g i j) d) : BinOk G X f (.dat (.int i)) (.dat (.int j)) (dat_ d) :=
  .rs h fun x y H F z ax ay Q k => by
    cases ax
    cases ay
    exact ⟨i, j, rfl, rfl, k _ (hd F)⟩
theorem bin_I {f : Value → Value → Sem Value} {C : Int → Int → Prop} {g : Int → Int → V} {i j : Int} {d : PyData} (h : OpR X f (rI C g)) (hc : C i j) (hd : ∀ H, Dt H (g i j) d) : BinOk G X f (.dat (.int i)) (.dat (.int j)) (dat_ d) :=
  .rs h fun x y H F z ax ay Q k => by
    cases ax
    cases ay
    exact ⟨i, j, rfl, rfl, hc, k _ (hd F)⟩
theorem bin_add {i j : Int} : BinOk G X (binaryOp .Add) (.dat (.int i)) (.dat (.int j)) (int_ (i + j)) := bin_I0 op_add fun _ => .int _
theorem bin_sub {i j : Int} : BinOk G X (binaryOp .Sub) (.dat (.int i)) (.dat (.int j)) (int_ (i - j)) := bin_I0 op_sub fun _ => .int _
theorem bin_mul {i j : Int} (h : CMul i j) : BinOk G X (binaryOp .Mult) (.dat (.int i)) (.dat (.int j)) (int_ (i * j)) := bin_I op_mul h fun _ => .int _
theorem bin_fdiv {i j : Int} (h : CDiv i j) : BinOk G X (binaryOp .FloorDiv) (.dat (.int i)) (.dat (.int j)) (int_ (i / j)) := bin_I op_fdiv h fun _ => .int _
theorem bin_mod {i j : Int} (h : 0 < j) : BinOk G X (binaryOp .Mod) (.dat (.int i)) (.dat (.int j)) (int_ (i % j)) := bin_I op_mod h fun _ => .int _
theorem bin_pow {i j : Int} (h : CPow i j) : BinOk G X (binaryOp .Pow) (.dat (.int i)) (.dat (.int j)) (int_ (i ^ j.toNat)) := bin_I op_pow h fun _ => .int _
theorem bin_lt {i j : Int} : BinOk G X (compareOp .Lt) (.dat (.int i)) (.dat (.int j)) (bl_ (decide (i < j))) := bin_I0 op_lt fun _ => .bl _
theorem bin_le {i j : Int} : BinOk G X (compareOp .LtE) (.dat (.int i)) (.dat (.int j)) (bl_ (decide (i ≤ j))) := bin_I0 op_le fun _ => .bl _
theorem bin_gt {i j : Int} : BinOk G X (compareOp .Gt) (.dat (.int i)) (.dat (.int j)) (bl_ (decide (j < i))) := bin_I0 op_gt fun _ => .bl _
theorem bin_ge {i j : Int} : BinOk G X (compareOp .GtE) (.dat (.int i)) (.dat (.int j)) (bl_ (decide (j ≤ i))) := bin_I0 op_ge fun _ => .bl _
theorem bin_eqI {i j : Int} : BinOk G X (compareOp .Eq) (.dat (.int i)) (.dat (.int j)) (bl_ (decide (i = j))) := .rs op_eq fun x y H F z ax ay Q k => by
  cases ax
  cases ay
  refine ⟨rfl, k _ ?_⟩
  have e : decide (V.int i = V.int j) = decide (i = j) := by rw [dec_int]; exact Bool.beq_eq_decide_eq i j
  rw [e]
  exact .bl _
theorem bin_neI {i j : Int} : BinOk G X (compareOp .NotEq) (.dat (.int i)) (.dat (.int j)) (bl_ (!decide (i = j))) := .rs op_ne fun x y H F z ax ay Q k => by
  cases ax
  cases ay
  refine ⟨rfl, k _ ?_⟩
  have e : decide (V.int i = V.int j) = decide (i = j) := by rw [dec_int]; exact Bool.beq_eq_decide_eq i j
  rw [e]
  exact .bl _
theorem bin_eqS {i j : Str} : BinOk G X (compareOp .Eq) (.dat (.str i)) (.dat (.str j)) (bl_ (decide (i = j))) := .rs op_eq fun x y H F z ax ay Q k => by
  cases ax
  cases ay
  refine ⟨rfl, k _ ?_⟩
  have e : decide (V.str i = V.str j) = decide (i = j) := decide_eq_decide.mpr ⟨fun h => V.str.inj h, fun h => congrArg V.str h⟩
  rw [e]
  exact .bl _
theorem bin_neS {i j : Str} : BinOk G X (compareOp .NotEq) (.dat (.str i)) (.dat (.str j)) (bl_ (!decide (i = j))) := .rs op_ne fun x y H F z ax ay Q k => by
  cases ax
  cases ay
  refine ⟨rfl, k _ ?_⟩
  have e : decide (V.str i = V.str j) = decide (i = j) := decide_eq_decide.mpr ⟨fun h => V.str.inj h, fun h => congrArg V.str h⟩
  rw [e]
  exact .bl _
theorem bin_eqB {i j : Bool} : BinOk G X (compareOp .Eq) (.dat (.bool i)) (.dat (.bool j)) (bl_ (decide (i = j))) := .rs op_eq fun x y H F z ax ay Q k => by
  cases ax
  cases ay
  refine ⟨rfl, k _ ?_⟩
  have e : decide (V.bl i = V.bl j) = decide (i = j) := decide_eq_decide.mpr ⟨fun h => V.bl.inj h, fun h => congrArg V.bl h⟩
  rw [e]
  exact .bl _
theorem bin_neB {i j : Bool} : BinOk G X (compareOp .NotEq) (.dat (.bool i)) (.dat (.bool j)) (bl_ (!decide (i = j))) := .rs op_ne fun x y H F z ax ay Q k => by
  cases ax
  cases ay
  refine ⟨rfl, k _ ?_⟩
  have e : decide (V.bl i = V.bl j) = decide (i = j) := decide_eq_decide.mpr ⟨fun h => V.bl.inj h, fun h => congrArg V.bl h⟩
  rw [e]
  exact .bl _
/-- is None of anything -/
def isNoneR : Rs → Bool
  | .dat .none => true
  | _ => false
theorem isNone_at {K : PySem.W.Frag} {F : Hp} {x : V} : ∀ {r : Rs}, (∀ v, r ≠ .raw v) → r.At G K F x → decide (x = .non) = isNoneR r
  | .dat d, _, h => by cases h <;> rfl
  | .mach m, _, h => by obtain ⟨a, dx, fs, e, _⟩ := h.ex; rw [e]; rfl
  | .cas c, _, h => by obtain ⟨a, dx, fs, e, _⟩ := h.ex; rw [e]; rfl
  | .scr ns, _, h => by obtain ⟨a, e, _⟩ := h; rw [e]; rfl
  | .raw v, n, _ => absurd rfl (n v)
  | .clo f ps cs, _, h => by rw [h.1]; rfl
theorem bin_isN {d : PyData} : BinOk G X (compareOp .Is) (.dat d) (.dat .none) (bl_ (isNoneR (.dat d))) := .rs op_isN fun x y H F z ax ay Q k => by
  cases ay
  refine ⟨rfl, k _ ?_⟩
  rw [isNone_at (G := G) (r := .dat d) (fun v e => nomatch e) ax]
  exact .bl _
theorem bin_notN {d : PyData} : BinOk G X (compareOp .IsNot) (.dat d) (.dat .none) (bl_ (!isNoneR (.dat d))) := .rs op_notN fun x y H F z ax ay Q k => by
  cases ay
  refine ⟨rfl, k _ ?_⟩
  rw [isNone_at (G := G) (r := .dat d) (fun v e => nomatch e) ax]
  exact .bl _
/-- texts -/
theorem bin_addS {i j : Str} (h : i.length + j.length ≤ 16777216) : BinOk G X (binaryOp .Add) (.dat (.str i)) (.dat (.str j)) (str_ (i ++ j)) := .rs op_add_str fun x y H F z ax ay Q k => by
  cases ax
  cases ay
  exact ⟨i, j, rfl, rfl, line_ok h, k _ (.str _)⟩
/-- deep == -/
theorem bin_eqD {d d' : PyData} (hu : X.A.units + 64 < cLine) (h : SeqAt.shaped d = true) (h' : SeqAt.shaped d' = true) : BinOk G X (compareOp .Eq) (.dat d) (.dat d') (bl_ (PyData.eqv d d')) := .rs (op_eqD hu) fun x y H F z ax ay Q k =>
  ⟨d, d', Dt.dp z.same _ _ ax, Dt.dp z.same _ _ ay, h, h', k _ (.bl _)⟩
theorem bin_neD {d d' : PyData} (hu : X.A.units + 64 < cLine) (h : SeqAt.shaped d = true) (h' : SeqAt.shaped d' = true) : BinOk G X (compareOp .NotEq) (.dat d) (.dat d') (bl_ (!PyData.eqv d d')) := .rs (op_neD hu) fun x y H F z ax ay Q k =>
  ⟨d, d', Dt.dp z.same _ _ ax, Dt.dp z.same _ _ ay, h, h', k _ (.bl _)⟩
/-- xs + ys of lists: a new one -/
theorem bin_cat {xs ys : List PyData} (h : xs.length + ys.length ≤ 16777216) : BinOk G X (binaryOp .Add) (.dat (.list xs)) (.dat (.list ys)) (.own (xs ++ ys)) := ⟨_, op_cat, fun x y H F z t ax ay Q k => by
  cases ax with
  | lst hs ha =>
    cases ay with
    | lst hs' ha' =>
      exact ⟨_, _, _, _, rfl, rfl, z.same _ _ hs, z.same _ _ hs', by rw [dpAll_length ha, dpAll_length ha']; exact line_ok h, fun p hp => k _ _ _ (.lst z t hp (dpAll_append ha ha'))⟩⟩
/-- xs * n of a list -/
theorem bin_rep {xs : List PyData} {n : Int} (h1 : -(2 ^ 63) ≤ n) (h2 : n < 2 ^ 63) (h : xs.length * n.toNat ≤ 16777216) : BinOk G X (binaryOp .Mult) (.dat (.list xs)) (.dat (.int n)) (.own (List.replicate n.toNat xs).flatten) := ⟨_, op_rep, fun x y H F z t ax ay Q k => by
  cases ay
  cases ax with
  | lst hs ha =>
    exact ⟨_, _, _, rfl, rfl, z.same _ _ hs, h1, h2, by rw [dpAll_length ha]; exact line_ok h, fun p hp => k _ _ _ (.lst z t hp (dtAll_rep ha _))⟩⟩
/-- t + u of tuples -/
theorem bin_catT {xs ys : List PyData} (h : xs.length + ys.length ≤ 16777216) : BinOk G X (binaryOp .Add) (.dat (.tuple xs)) (.dat (.tuple ys)) (tup_ (xs ++ ys)) := ⟨_, op_catA, fun x y H F z t ax ay Q k => by
  have ax' := ax
  have ay' := ay
  cases ax with
  | tup hs ha =>
    cases ay with
    | tup hs' ha' =>
      refine ⟨_, _, _, _, rfl, rfl, SqT.of (z.same _ _ hs), SqT.of (z.same _ _ hs'), by rw [dpAll_length ha, dpAll_length ha']; exact line_ok h, fun e => ?_, fun _ e => ?_, fun _ _ p hp => k _ _ _ (.tup z t hp (dpAll_append ha ha'))⟩
      · have e2 : xs = [] := by subst e; cases ha; rfl
        subst e2
        exact k _ H F (.rs z (.refl _ _) t ay')
      · have e2 : ys = [] := by subst e; cases ha'; rfl
        subst e2
        exact k _ H F (.rs z (.refl _ _) t (show (Rs.dat (PyData.tuple (xs ++ []))).At G X.K F _ by rw [List.append_nil]; exact ax'))⟩
end
end LC
namespace LC
open PySem PySem.Spec PyProof.Rows L2

/-! ### readings at large -/
def sE (X : Cx) (e : Expr) : TE := fun σ H Q => ∃ t, PE X e t ∧ t σ H Q
def sT (X : Cx) (e : Expr) : TT := fun σ H Q => ∃ t, PT X e t ∧ t σ H Q
def sS (X : Cx) (st : Stmt) : TS := fun D σ H => ∃ t, PS X st t ∧ t D σ H
def sSs (X : Cx) (sts : List Stmt) : TS := fun D σ H => ∃ t, PSs X sts t ∧ t D σ H
def sG (X : Cx) (tg : Expr) : TG := fun v σ H Q => ∃ t, PG X tg t ∧ t v σ H Q
theorem pe_s {X : Cx} {e : Expr} : PE X e (sE X e) := ⟨fun pins s σ H Q I ⟨_, h, q⟩ => h.run pins s σ H Q I q⟩
theorem pt_s {X : Cx} {e : Expr} : PT X e (sT X e) := ⟨fun pins s σ H Q I ⟨_, h, q⟩ => h.run pins s σ H Q I q⟩
theorem ps_s {X : Cx} {st : Stmt} : PS X st (sS X st) := ⟨fun pins s σ H D I ⟨_, h, q⟩ => h.run pins s σ H D I q⟩
theorem pss_s {X : Cx} {sts : List Stmt} : PSs X sts (sSs X sts) := ⟨fun pins s σ H D I ⟨_, h, q⟩ => h.run pins s σ H D I q⟩
theorem pg_s {X : Cx} {tg : Expr} : PG X tg (sG X tg) := ⟨fun pins s σ H v u Q I r ⟨_, h, q⟩ => h.run pins s σ H v u Q I r q⟩
theorem XE.s {G : Gd} {X : Cx} {e : Expr} {ρ : Ro} {en : En} (h : XE G X e ρ en) {H0 F0 : Hp} {γ : Gh} {σ : L2.St} {H F : Hp} (S : Sta G X.K H0 F0 γ σ H F ρ) {Q : VK} (q : ∀ v H' F', Nx G X.K H F H' F' v en → Q v H') : sE X e σ H Q :=
  let ⟨t, h1, h2⟩ := h; ⟨t, h1, h2 _ _ _ _ _ _ S Q q⟩
theorem XT.s {G : Gd} {X : Cx} {e : Expr} {ρ : Ro} {b : Bool} (h : XT G X e ρ b) {H0 F0 : Hp} {γ : Gh} {σ : L2.St} {H F : Hp} (S : Sta G X.K H0 F0 γ σ H F ρ) {Q : Bool → Hp → Prop} (q : ∀ H' F', Grow H F H' F' → Fz F' H' → G.tab H' → Q b H') : sT X e σ H Q :=
  let ⟨t, h1, h2⟩ := h; ⟨t, h1, h2 _ _ _ _ _ _ S Q q⟩
theorem XE.of {G : Gd} {X : Cx} {e : Expr} {ρ : Ro} {en : En} (h : ∀ H0 F0 γ σ H F, Sta G X.K H0 F0 γ σ H F ρ → ∀ Q : VK, (∀ v H' F', Nx G X.K H F H' F' v en → Q v H') → sE X e σ H Q) : XE G X e ρ en := ⟨_, pe_s, h⟩
theorem XT.of {G : Gd} {X : Cx} {e : Expr} {ρ : Ro} {b : Bool} (h : ∀ H0 F0 γ σ H F, Sta G X.K H0 F0 γ σ H F ρ → ∀ Q : Bool → Hp → Prop, (∀ H' F', Grow H F H' F' → Fz F' H' → G.tab H' → Q b H') → sT X e σ H Q) : XT G X e ρ b := ⟨_, pt_s, h⟩

/-! ### statements: what comes of them -/
inductive Out where
  | nx (ρ : Ro)
  | rt (en : En)
  | xc
def Post (G : Gd) (K : PySem.W.Frag) (Ex : Hp → Prop) (H0 F0 : Hp) (γ : Gh) (D : Ends) : Out → Prop
  | .nx ρ => ∀ σ H F, Sta G K H0 F0 γ σ H F ρ → D.nx σ H
  | .rt en => ∀ v H F, Nx G K H0 F0 H F v en → D.rt v H
  | .xc => ∀ H F, Grow H0 F0 H F → Fz F H → G.tab H → Ex H
def XS (G : Gd) (X : Cx) (Ex : Hp → Prop) (st : Stmt) (ρ : Ro) (o : Out) : Prop := ∀ H0 F0 γ σ H F, Sta G X.K H0 F0 γ σ H F ρ → ∀ D, Post G X.K Ex H0 F0 γ D o → sS X st D σ H
def XSs (G : Gd) (X : Cx) (Ex : Hp → Prop) (sts : List Stmt) (ρ : Ro) (o : Out) : Prop := ∀ H0 F0 γ σ H F, Sta G X.K H0 F0 γ σ H F ρ → ∀ D, Post G X.K Ex H0 F0 γ D o → sSs X sts D σ H
/-- an assignment of a result to a target -/
def XG (G : Gd) (X : Cx) (tg : Expr) (r : Rs) (ρ ρ' : Ro) : Prop := ∀ H0 F0 γ σ H F, Sta G X.K H0 F0 γ σ H F ρ → ∀ v, r.At G X.K F v → ∀ Q : L2.St → Hp → Prop, (∀ σ', Sta G X.K H0 F0 γ σ' H F ρ' → Q σ' H) → sG X tg v σ H Q
section
variable {G : Gd} {X : Cx} {Ex : Hp → Prop} {ρ ρ1 ρ' : Ro} {e a b : Expr} {es : List Expr} {st : Stmt} {sts : List Stmt} {pos : Pos} {H0 F0 H F H' F' : Hp} {γ : Gh} {σ : L2.St} {o : Out} {D : Ends}
theorem XS.less (h : XS G X Ex st ρ o) (l : Le ρ ρ1) : XS G X Ex st ρ1 o := fun H0 F0 γ σ H F S D q => h _ _ _ _ _ _ (S.less l) D q
theorem XSs.less (h : XSs G X Ex sts ρ o) (l : Le ρ ρ1) : XSs G X Ex sts ρ1 o := fun H0 F0 γ σ H F S D q => h _ _ _ _ _ _ (S.less l) D q
theorem XSs.is {o' : Out} (h : XSs G X Ex sts ρ o) (e : o = o') : XSs G X Ex sts ρ o' := e ▸ h
theorem XS.is {o' : Out} (h : XS G X Ex st ρ o) (e : o = o') : XS G X Ex st ρ o' := e ▸ h
theorem xss_nil : XSs G X Ex [] ρ (.nx ρ) := fun H0 F0 γ σ H F S D q => ⟨_, pss_nil, q σ H F S⟩
theorem xss_cons (h : XS G X Ex st ρ (.nx ρ1)) (h' : XSs G X Ex sts ρ1 o) : XSs G X Ex (st :: sts) ρ o := fun H0 F0 γ σ H F S D q => ⟨_, pss_cons ps_s pss_s, h _ _ _ _ _ _ S _ fun σ1 H1 F1 S1 => h' _ _ _ _ _ _ S1 D q⟩
theorem xss_ret {en : En} (h : XS G X Ex st ρ (.rt en)) : XSs G X Ex (st :: sts) ρ (.rt en) := fun H0 F0 γ σ H F S D q => ⟨_, pss_cons ps_s pss_never, h _ _ _ _ _ _ S { D with nx := tNever D } q⟩
theorem xss_xc (h : XS G X Ex st ρ .xc) : XSs G X Ex (st :: sts) ρ .xc := fun H0 F0 γ σ H F S D q => ⟨_, pss_cons ps_s pss_never, h _ _ _ _ _ _ S { D with nx := tNever D } q⟩
theorem xss_one (h : XS G X Ex st ρ o) : XSs G X Ex [st] ρ o := fun H0 F0 γ σ H F S D q => ⟨_, pss_one ps_s, h _ _ _ _ _ _ S D q⟩
/-- less is asked behind -/
theorem Post.less (h : Post G X.K Ex H0 F0 γ D (.nx ρ)) (l : Le ρ ρ1) : Post G X.K Ex H0 F0 γ D (.nx ρ1) := fun σ H F S => h σ H F (S.less l)
theorem XSs.weak (h : XSs G X Ex sts ρ (.nx ρ1)) (l : Le ρ' ρ1) : XSs G X Ex sts ρ (.nx ρ') := fun H0 F0 γ σ H F S D q => h _ _ _ _ _ _ S D (Post.less q l)
theorem XS.weak (h : XS G X Ex st ρ (.nx ρ1)) (l : Le ρ' ρ1) : XS G X Ex st ρ (.nx ρ') := fun H0 F0 γ σ H F S D q => h _ _ _ _ _ _ S D (Post.less q l)
theorem xs_doc {x j pos'} : XS G X Ex (.Expr (.Constant (.str x) j pos) pos') ρ (.nx ρ) := fun H0 F0 γ σ H F S D q => ⟨_, ps_doc, q σ H F S⟩
theorem xs_if {c : Expr} {s1 s2 : List Stmt} {k : Bool} (hc : XT G X c ρ k) (h1 : k = true → XSs G X Ex s1 ρ o) (h2 : k = false → XSs G X Ex s2 ρ o) : XS G X Ex (.If c s1 s2 pos) ρ o := fun H0 F0 γ σ H F S D q => by
  cases k with
  | true => exact ⟨_, ps_if pt_s pss_s pss_never, hc.s S fun H1 F1 g z t => h1 rfl _ _ _ _ _ _ (S.go g z t) D q⟩
  | false => exact ⟨_, ps_if pt_s pss_never pss_s, hc.s S fun H1 F1 g z t => h2 rfl _ _ _ _ _ _ (S.go g z t) D q⟩
theorem xs_set (i : Nat) {x : Str} {pos' : Pos} {en : En} (he : XE G X e ρ en) (hN : X.N.Nodup) (hi : X.N[i]? = some x := by rfl) (hx : Loc X.env.scope x := by first | exact .inl rfl | exact .inr rfl) (hs : swapsWith e (some (.Name x pos')) pos.line X.env = pure false := by rfl)
    (hf : X.fn x = true ∨ X.env.scope.names.lookup x = some .local := by first | exact .inl rfl | exact .inr rfl) : XS G X Ex (.Assign [.Name x pos'] e pos) ρ (.nx (ρ.set i (some en))) := fun H0 F0 γ σ H F S D q =>
  ⟨_, ps_set hN hi hx pe_s hs hf, he.s S fun v H1 F1 n => q _ _ _ (S.set i n)⟩
theorem xs_drop {en : En} (he : XE G X e ρ en) (hs : swapsWith e none pos.line X.env = pure false := by rfl) : XS G X Ex (.Expr e pos) ρ (.nx ρ) := fun H0 F0 γ σ H F S D q =>
  ⟨_, ps_expr pe_s hs, he.s S fun v H1 F1 n => q _ _ _ (S.nx n)⟩
theorem xs_ret {en : En} (he : XE G X e ρ en) : XS G X Ex (.Return (some e) pos) ρ (.rt en) := fun H0 F0 γ σ H F S D q =>
  ⟨_, ps_ret pe_s, he.s S fun v H1 F1 n => q _ _ _ (.from S.grow n)⟩
theorem xs_retN : XS G X Ex (.Return none pos) ρ (.rt non_) := fun H0 F0 γ σ H F S D q =>
  ⟨_, ps_retN, q _ _ _ (.from S.grow (.rs0 S .non))⟩
theorem xss_end : XSs G X Ex [] ρ (.nx ρ) := xss_nil
theorem Sta.own {i : Nat} {ds : List PyData} {K : PySem.W.Frag} (S : Sta G K H0 F0 γ σ H F ρ) (h : ρ[i]? = some (some (.own ds))) : ∃ a vs, σ[i]? = some (some (.ref a)) ∧ H a = some (.lst vs) ∧ DtAll F vs ds ∧ F a = none ∧ H0 a = none := by
  obtain ⟨fs, h1, _, h3⟩ := S.ex
  obtain ⟨v, fp, e1, e2, a, vs, rfl, rfl, e3, e4⟩ := h1.get h
  have m : a ∈ fs.flatten := List.mem_flatten.mpr ⟨[a], List.mem_of_getElem? e2, List.mem_singleton.mpr rfl⟩
  exact ⟨a, vs, e1, e3, e4, (h3 a m).1, (h3 a m).2⟩
/-- return of the frame's own list -/
theorem xs_retOwn (i : Nat) {ds : List PyData} {x : Str} {pos' : Pos} (h : ρ[i]? = some (some (.own ds)) := by rfl) (hN : X.N[i]? = some x := by rfl) (hv : Vis X.env.scope x := by first | exact Or.inl rfl | exact Or.inr (Or.inl rfl) | exact Or.inr (Or.inr rfl))
    (hd : (x == ("__debug__" : Str)) = false := by decide) (hcd : (x == ("__classdict__" : Str)) = false := by decide) : XS G X Ex (.Return (some (.Name x pos')) pos) ρ (.rt (.own ds)) := fun H0 F0 γ σ H F S D q => by
  obtain ⟨a, vs, e1, e2, e3, e4, e5⟩ := S.own h
  refine ⟨_, ps_ret (pe_var hN hv hd hcd), _, e1, q _ H F ⟨S.fz, S.grow, S.tab, [a], ⟨a, vs, rfl, rfl, e2, e3⟩, by simp, fun b hb => ?_⟩⟩
  rw [List.mem_singleton.mp hb]
  exact ⟨e5, e4⟩
theorem SlotsAt.split {K : PySem.W.Frag} {ds : List PyData} : ∀ {σ : L2.St} {ρ : Ro} {fs : List (List Addr)} {i : Nat}, SlotsAt G K F H σ ρ fs → ρ[i]? = some (some (.own ds)) → fs.flatten.Nodup →
    ∃ a vs, σ[i]? = some (some (.ref a)) ∧ fs[i]? = some [a] ∧ H a = some (.lst vs) ∧ DtAll F vs ds ∧ a ∉ (fs.set i []).flatten ∧ (fs.set i []).flatten.Sublist fs.flatten
  | _, _, _, _, .nil, h, _ => by simp at h
  | _, _, _, 0, .skip _, h, _ => by simp at h
  | _, _, _, 0, .cons (fp := fp) x _, h, nd => by
    simp at h
    subst h
    obtain ⟨a, vs, rfl, rfl, h3, h4⟩ := x
    refine ⟨a, vs, rfl, rfl, h3, h4, ?_, ?_⟩
    · rw [List.set_cons_zero, List.flatten_cons, List.nil_append]
      rw [List.flatten_cons] at nd
      exact (List.nodup_cons.mp nd).1
    · rw [List.set_cons_zero, List.flatten_cons, List.nil_append, List.flatten_cons]
      exact List.sublist_append_right _ _
  | _, _, _, i + 1, .skip t, h, nd => by
    rw [List.flatten_cons, List.nil_append] at nd
    obtain ⟨a, vs, h1, h2, h3, h4, h5, h6⟩ := SlotsAt.split (i := i) t (by simpa using h) nd
    refine ⟨a, vs, by simpa using h1, by simpa using h2, h3, h4, ?_, ?_⟩
    · rw [List.set_cons_succ, List.flatten_cons, List.nil_append]; exact h5
    · rw [List.set_cons_succ, List.flatten_cons, List.nil_append, List.flatten_cons, List.nil_append]; exact h6
  | _, _, _, i + 1, .cons (fp := fp) x t, h, nd => by
    rw [List.flatten_cons] at nd
    obtain ⟨n1, n2, n3⟩ := List.nodup_append.mp nd
    obtain ⟨a, vs, h1, h2, h3, h4, h5, h6⟩ := SlotsAt.split (i := i) t (by simpa using h) n2
    refine ⟨a, vs, by simpa using h1, by simpa using h2, h3, h4, ?_, ?_⟩
    · rw [List.set_cons_succ, List.flatten_cons]
      intro m
      rcases List.mem_append.mp m with m | m
      · exact n3 a m a (List.mem_flatten.mpr ⟨[a], List.mem_of_getElem? h2, by simp⟩) rfl
      · exact h5 m
    · rw [List.set_cons_succ, List.flatten_cons, List.flatten_cons]
      exact h6.append_left fp
/-- the own list of slot i is written -/
theorem SlotsAt.wr {K : PySem.W.Frag} {a : Addr} {vs' : List V} {ds' : List PyData} (d' : DtAll F vs' ds') : ∀ {σ : L2.St} {ρ : Ro} {fs : List (List Addr)} {i : Nat}, SlotsAt G K F H σ ρ fs → fs[i]? = some [a] → σ[i]? = some (some (.ref a)) → a ∉ (fs.set i []).flatten → SlotsAt G K F (upd H a (.lst vs')) σ (ρ.set i (some (.own ds'))) fs := by
  have keep : ∀ {v : V} {en : En} {fp : List Addr}, en.At G K F H v fp → a ∉ fp → en.At G K F (upd H a (.lst vs')) v fp := fun {v en fp} h n => by
    cases en with
    | rs r => exact h
    | own ds =>
      obtain ⟨b, vs, h1, h2, h3, h4⟩ := h
      exact ⟨b, vs, h1, h2, by rw [upd_ne (fun z => n (by rw [h2, z]; simp))]; exact h3, h4⟩
    | res k od =>
      cases od with
      | none =>
        obtain ⟨b, h1, h2, h3⟩ := h
        exact ⟨b, h1, h2, by rw [upd_ne (fun z => n (by rw [h2, z]; simp))]; exact h3⟩
      | some ds =>
        obtain ⟨b, c, vs, h1, h2, h3, h4, h5⟩ := h
        exact ⟨b, c, vs, h1, h2, by rw [upd_ne (fun z => n (by rw [h2, z]; simp))]; exact h3, by rw [upd_ne (fun z => n (by rw [h2, z]; simp))]; exact h4, h5⟩
    | obj ds =>
      obtain ⟨b, u, h1, h2, h3, h4, h5⟩ := h
      exact ⟨b, u, h1, h2, by rw [upd_ne (fun z => n (by rw [h2, z]; simp))]; exact h3, h4, h5⟩
    | own2 dss =>
      obtain ⟨b, as, h1, h2, h3, h4⟩ := h
      refine ⟨b, as, h1, h2, by rw [upd_ne (fun z => n (by rw [h2, z]; simp))]; exact h3, ?_⟩
      have n2 : ∀ c ∈ as, c ≠ a := fun c hc z => n (by rw [h2, ← z]; exact List.mem_cons_of_mem _ hc)
      clear h1 h2 h3 n
      induction as generalizing dss with
      | nil => cases dss with
        | nil => trivial
        | cons _ _ => exact h4
      | cons c cs ih => cases dss with
        | nil => exact h4
        | cons d dss =>
          obtain ⟨⟨vs, q1, q2⟩, q3⟩ := h4
          exact ⟨⟨vs, by rw [upd_ne (n2 c (by simp))]; exact q1, q2⟩, ih dss q3 fun x hx => n2 x (List.mem_cons_of_mem _ hx)⟩
  intro σ ρ fs i
  induction i generalizing σ ρ fs with
  | zero =>
    intro h e1 e2 n
    cases h with
    | nil => simp at e1
    | skip t => simp at e1
    | @cons v e fp σ2 ρ2 fs2 x t =>
      simp at e1 e2
      subst e1 e2
      rw [List.set_cons_zero, List.flatten_cons, List.nil_append] at n
      refine .cons ⟨a, vs', rfl, rfl, upd_same, d'⟩ ?_
      clear x
      induction t with
      | nil => exact .nil
      | skip t ih => exact .skip (ih (by simpa using n))
      | cons y t ih =>
        rw [List.flatten_cons] at n
        exact .cons (keep y fun z => n (List.mem_append_left _ z)) (ih fun z => n (List.mem_append_right _ z))
  | succ i ih =>
    intro h e1 e2 n
    cases h with
    | nil => simp at e1
    | skip t => exact .skip (ih t (by simpa using e1) (by simpa using e2) (by simpa using n))
    | cons x t =>
      rw [List.set_cons_succ, List.flatten_cons] at n
      exact .cons (keep x fun z => n (List.mem_append_left _ z)) (ih t (by simpa using e1) (by simpa using e2) fun z => n (List.mem_append_right _ z))
theorem Sta.wr {i : Nat} {K : PySem.W.Frag} {ds : List PyData} (S : Sta G K H0 F0 γ σ H F ρ) (h : ρ[i]? = some (some (.own ds))) : ∃ a vs, σ[i]? = some (some (.ref a)) ∧ H a = some (.lst vs) ∧ DtAll F vs ds ∧ F a = none ∧
    ∀ vs' ds', DtAll F vs' ds' → Sta G K H0 F0 γ σ (upd H a (.lst vs')) F (ρ.set i (some (.own ds'))) := by
  obtain ⟨fs, h1, h2, h3⟩ := S.ex
  obtain ⟨a, vs, e1, e2, e3, e4, e5, e6⟩ := h1.split h h2
  have m : a ∈ fs.flatten := List.mem_flatten.mpr ⟨[a], List.mem_of_getElem? e2, List.mem_singleton.mpr rfl⟩
  refine ⟨a, vs, e1, e3, e4, (h3 a m).1, fun vs' ds' d' => ⟨fun b u q => ?_, ⟨fun b u q n => ?_, fun b q => ?_, S.grow.fro⟩, G.mono (extL_lst e3) S.tab, S.gh, fs, h1.wr d' e2 e1 e5, h2, h3⟩⟩
  · have z := S.fz b u q
    rw [upd_ne (ne_of_none q (h3 a m).1)]
    exact z
  · rw [upd_ne (ne_of_none q (h3 a m).2)]
    exact S.grow.keep b u q n
  · by_cases hb : b = a
    · rw [hb]; exact (h3 a m).2
    · rw [upd_ne hb] at q
      exact S.grow.live b q
/-- x.append(e), x the frame's own -/
theorem xs_append (i : Nat) {ds : List PyData} {d : PyData} {x : Str} {px pa pos' : Pos} (he : XE G X e ρ (dat_ d)) (h : ρ[i]? = some (some (.own ds)) := by rfl) (hl : ds.length < 16777216) (hN : X.N[i]? = some x := by rfl) (hv : Vis X.env.scope x := by first | exact Or.inl rfl | exact Or.inr (Or.inl rfl) | exact Or.inr (Or.inr rfl))
    (hd : (x == ("__debug__" : Str)) = false := by decide) (hcd : (x == ("__classdict__" : Str)) = false := by decide)
    (hs : swapsWith (.Call (.Attribute (.Name x px) "append" pa) [e] [] pos) none pos'.line X.env = pure false := by rfl)
    (hbase : attributeBase (.Name x px) ("append" : Str) X.env (eval (.Name x px) X.env) = eval (.Name x px) X.env := by rfl)
    (hfew : ((backTo pos (starEach [e] X.env)).all (fun x => !x.1) && (backToKw pos (keywordEach [] X.env)).all (fun x => x.1.isSome)
      && decide ([e].length + ([] : List Keyword).length + (if ([] : List Keyword).isEmpty then 0 else 1) < 30)) = true := by rfl)
    (hline : (pa.endLine == pos.line) = true := by rfl) (hst : starEach [e] X.env = (false, eval e X.env) :: starEach [] X.env := by rfl) (hplain : (backTo pos (starEach [] X.env)).any (·.1) = false := by rfl) : XS G X Ex (.Expr (.Call (.Attribute (.Name x px) "append" pa) [e] [] pos) pos') ρ (.nx (ρ.set i (some (.own (ds ++ [d]))))) := fun H0 F0 γ σ H F S D q => by
  obtain ⟨a, vs, e1, e2, e3, e4, _⟩ := S.own h
  refine ⟨_, ps_expr (pe_bm PySem.F.plainAttrs_list PySem.F.slot_list_append PySem.F.type_list_append mt_append (pe_var hN hv hd hcd) (pa_cons pe_s pa_nil hst) hbase hfew hline hst hplain) hs, _, e1, .inl ⟨rfl, _, SqL.of e2⟩, he.s S fun v H1 F1 n => ?_⟩
  have S1 := S.nx n
  obtain ⟨a', vs', f1, f2, f3, f4, f5⟩ := S1.wr h
  rw [e1] at f1
  cases f1
  exact ⟨a, vs', v, rfl, rfl, f2, by rw [dpAll_length f3]; exact Nat.lt_of_lt_of_le hl (line_ok (Nat.le_refl _)), q _ _ _ (f5 _ _ (dpAll_append f3 (.cons n.rsAt .nil)))⟩
end
end LC
namespace LC
open PySem PySem.Spec PyProof.Rows L2

/-! ### targets -/
def Out1 (is : List Nat) (σ σ' : L2.St) : Prop := σ'.length = σ.length ∧ ∀ k, k ∉ is → σ'[k]? = σ[k]?
theorem Out1.refl (is : List Nat) (σ : L2.St) : Out1 is σ σ := ⟨rfl, fun _ _ => rfl⟩
theorem Out1.trans {is js : List Nat} {a b c : L2.St} (h : Out1 is a b) (h' : Out1 js b c) : Out1 (is ++ js) a c := ⟨h'.1.trans h.1, fun k hk => (h'.2 k fun z => hk (List.mem_append_right _ z)).trans (h.2 k fun z => hk (List.mem_append_left _ z))⟩
theorem out1_set (i : Nat) (σ : L2.St) (v : Option V) : Out1 [i] σ (σ.set i v) := ⟨List.length_set, fun k hk => by rw [List.getElem?_set_ne (fun z => hk (by simp [z]))]⟩
theorem wipe_get {σ : L2.St} : ∀ {vs : List Nat} {k : Nat}, (wipe σ vs)[k]? = if k ∈ vs ∧ k < σ.length then some none else σ[k]?
  | [], k => by simp [wipe]
  | v :: vs, k => by
    unfold wipe
    by_cases h : v = k
    · subst h
      by_cases hl : v < σ.length
      · rw [List.getElem?_set_self (by rw [wipe_length]; exact hl), if_pos ⟨by simp, hl⟩]
      · rw [if_neg (fun z => hl z.2), List.getElem?_eq_none (by rw [List.length_set, wipe_length]; omega), List.getElem?_eq_none (by omega)]
    · rw [List.getElem?_set_ne h, wipe_get]
      have e : (k ∈ v :: vs) ↔ k ∈ vs := by simp [Ne.symm h]
      simp only [e]
theorem wipe_eq {is : List Nat} {σ σ' : L2.St} (h : Out1 is σ σ') : wipe σ' is = wipe σ is := by
  apply List.ext_getElem?
  intro k
  rw [wipe_get, wipe_get, h.1]
  by_cases hk : k ∈ is
  · by_cases hl : k < σ.length
    · rw [if_pos ⟨hk, hl⟩, if_pos ⟨hk, hl⟩]
    · rw [if_neg (fun z => hl z.2), if_neg (fun z => hl z.2), List.getElem?_eq_none (by rw [h.1]; omega), List.getElem?_eq_none (by omega)]
  · rw [if_neg (fun z => hk z.1), if_neg (fun z => hk z.1), h.2 k hk]
theorem out1_wipe (σ : L2.St) (is : List Nat) : Out1 is σ (L2.wipe σ is) := ⟨L2.wipe_length _ _, fun k hk => by rw [wipe_get, if_neg (fun z => hk z.1)]⟩
def XGo (G : Gd) (X : Cx) (tg : Expr) (r : Rs) (ρ ρ' : Ro) (is : List Nat) : Prop := ∀ H0 F0 γ σ H F, Sta G X.K H0 F0 γ σ H F ρ → ∀ v, r.At G X.K F v → ∀ Q : L2.St → Hp → Prop, (∀ σ', Sta G X.K H0 F0 γ σ' H F ρ' → Out1 is σ σ' → Q σ' H) → sG X tg v σ H Q
def sGs (X : Cx) (tgs : List Expr) : TGs := fun v σ H Q => ∃ t, PGs X tgs t ∧ t v σ H Q
theorem pgs_s {X : Cx} {tgs : List Expr} : PGs X tgs (sGs X tgs) := ⟨fun pins s σ H v u Q I r ⟨_, h, q⟩ => h.run pins s σ H v u Q I r q⟩
def XGos (G : Gd) (X : Cx) (tgs : List Expr) (rs : List PyData) (ρ ρ' : Ro) (is : List Nat) : Prop := ∀ H0 F0 γ σ H F, Sta G X.K H0 F0 γ σ H F ρ → ∀ vs, DtAll F vs rs → ∀ Q : L2.St → Hp → Prop, (∀ σ', Sta G X.K H0 F0 γ σ' H F ρ' → Out1 is σ σ' → Q σ' H) → sGs X tgs vs σ H Q
section
variable {G : Gd} {X : Cx} {Ex : Hp → Prop} {ρ ρ1 ρ2 ρ' : Ro} {e a b : Expr} {es : List Expr} {st : Stmt} {sts : List Stmt} {pos : Pos} {H0 F0 H F H' F' : Hp} {γ : Gh} {σ : L2.St} {o : Out} {D : Ends}
theorem xg_name (i : Nat) {x : Str} {r : Rs} (hN : X.N.Nodup) (hi : X.N[i]? = some x := by rfl) (hx : Loc X.env.scope x := by first | exact .inl rfl | exact .inr rfl)
    (hf : X.fn x = true ∨ X.env.scope.names.lookup x = some .local := by first | exact .inl rfl | exact .inr rfl) : XGo G X (.Name x pos) r ρ (ρ.set i (some (.rs r))) [i] := fun H0 F0 γ σ H F S v h Q q =>
  ⟨_, pg_name hN hi hx hf, q _ (S.set i (.rs0 S h)) (out1_set i σ _)⟩
theorem xgs_nil : XGos G X [] [] ρ ρ [] := fun H0 F0 γ σ H F S vs h Q q => ⟨_, pgs_nil, by cases h; exact ⟨rfl, q σ S (Out1.refl _ _)⟩⟩
theorem xgs_cons {tg : Expr} {tgs : List Expr} {d : PyData} {ds : List PyData} {is js : List Nat} (h1 : XGo G X tg (.dat d) ρ ρ1 is) (h2 : XGos G X tgs ds ρ1 ρ2 js)
    (hs : (assignEach (tg :: tgs) X.env).map (·.2) = assign tg X.env :: (assignEach tgs X.env).map (·.2) := by rfl) : XGos G X (tg :: tgs) (d :: ds) ρ ρ2 (is ++ js) := fun H0 F0 γ σ H F S vs h Q q => by
  cases h with
  | cons ha ht =>
    exact ⟨_, pgs_cons pg_s pgs_s hs, _, _, rfl, h1 _ _ _ _ _ _ S _ ha _ fun σ1 S1 o1 => h2 _ _ _ _ _ _ S1 _ ht _ fun σ2 S2 o2 => q σ2 S2 (o1.trans o2)⟩
theorem xg_tup {tgs : List Expr} {k : Nat} {ds : List PyData} {is : List Nat} (hc : X.calm = true) (h : XGos G X tgs ds ρ ρ1 is) (hn : (assignEach tgs X.env).length = ds.length := by rfl) (hst : (assignEach tgs X.env).findIdx? (·.1) = none := by rfl) :
    XGo G X (.Tuple tgs k pos) (.dat (.tuple ds)) ρ ρ1 is := fun H0 F0 γ σ H F S v hv Q q => by
  cases hv with
  | tup hs ha => exact ⟨_, pg_tup hc pgs_s hn hst, _, _, rfl, SqT.of (S.fz.same _ _ hs), dpAll_length ha, h _ _ _ _ _ _ S _ ha Q q⟩
theorem xs_asg {tg : Expr} {r : Rs} {is : List Nat} (he : XE G X e ρ (.rs r)) (hg : XGo G X tg r ρ ρ' is) (hs : swapsWithSole [tg] e pos.line X.env = pure false := by rfl) (hw : swappedStores [tg] e X.env = pure none := by rfl)
    (h1 : (assignEach [tg] X.env).map (·.2) = [assign tg X.env] := by rfl) : XS G X Ex (.Assign [tg] e pos) ρ (.nx ρ') := fun H0 F0 γ σ H F S D q =>
  ⟨_, ps_asg pe_s pg_s hs hw (h1 := h1), he.s S fun v H1 F1 n => hg _ _ _ _ _ _ (S.nx n) v n.rsAt _ fun σ' S' _ => q _ _ _ S'⟩
/-- x[k] = e, x the frame's own -/
theorem xs_setOwn (i : Nat) {ds : List PyData} {d : PyData} {k : Int} {j : Nat} {x : Str} {ie : Expr} {px ps' : Pos} (he : XE G X e ρ (dat_ d)) (hk : XE G X ie ρ (int_ k)) (hj : ixN ds.length k = some j) (h : ρ[i]? = some (some (.own ds)) := by rfl) (hN : X.N[i]? = some x := by rfl)
    (hv : Vis X.env.scope x := by first | exact Or.inl rfl | exact Or.inr (Or.inl rfl) | exact Or.inr (Or.inr rfl)) (hd : (x == ("__debug__" : Str)) = false := by decide) (hcd : (x == ("__classdict__" : Str)) = false := by decide)
    (ha : ∀ v, assign (.Subscript (.Name x px) ie ps') X.env v = (do
      let ov ← holding [v] (eval (.Name x px) X.env)
      let iv ← holding [v, ov] (eval ie X.env)
      standAt ps'
      holding [v, ov, iv] (setItem ov iv v)
      release [v, ov, iv] []) := by intro _; rfl)
    (hs : swapsWithSole [.Subscript (.Name x px) ie ps'] e pos.line X.env = pure false := by rfl) (hw : swappedStores [.Subscript (.Name x px) ie ps'] e X.env = pure none := by rfl) :
    XS G X Ex (.Assign [.Subscript (.Name x px) ie ps'] e pos) ρ (.nx (ρ.set i (some (.own (ds.set j d))))) := fun H0 F0 γ σ H F S D q =>
  ⟨_, ps_asg pe_s (pg_sub (pe_var hN hv hd hcd) pe_s set_list ha) hs hw, he.s S fun v H1 F1 n => by
    have S1 := S.nx n
    obtain ⟨a, vs, e1, _⟩ := S1.own h
    refine ⟨_, e1, hk.s S1 fun w H2 F2 m => ?_⟩
    have S2 := S1.nx m
    obtain ⟨a', vs', f1, f2, f3, f4, f5⟩ := S2.wr h
    rw [e1] at f1
    cases f1
    have mw := m.rsAt
    cases mw
    refine ⟨a, vs', k, j, rfl, rfl, f2, by rw [dpAll_length f3]; exact hj, q _ _ _ (f5 _ _ (dpAll_set (dp_mono (m.grow.same n.fz) _ _ n.rsAt) j f3))⟩⟩

/-! ### what is walked -/
structure ItOk (G : Gd) (K : PySem.W.Frag) (J : It) (rs : List Rs) (γ1 : Gh) : Prop where
  go : ∀ i r H F, rs[i]? = some r → Fz F H → G.tab H → (∀ p ∈ γ1, p.2.At G K F p.1) → J.go i H ∧ ∀ x H', J.yld i H x H' → ∃ F', Nx G K H F H' F' x (.rs r)
  stop : ∀ H F, Fz F H → (∀ p ∈ γ1, p.2.At G K F p.1) → J.stop rs.length H
def XI (G : Gd) (X : Cx) (tg iter : Expr) (ρ : Ro) (rs : List Rs) : Prop := ∃ wi, PI X tg iter wi ∧ ∀ H0 F0 γ σ H F, Sta G X.K H0 F0 γ σ H F ρ → ∀ R : It → Hp → Prop,
  (∀ J H' F' γ1, Grow H F H' F' → Fz F' H' → G.tab H' → (∀ p ∈ γ1, p.2.At G X.K F' p.1) → ItOk G X.K J rs γ1 → R J H') → wi σ H R
theorem Nx.at0 {K : PySem.W.Frag} {v : V} {r : Rs} (z : Fz F H) (t : G.tab H) (a : r.At G K F v) : Nx G K H F H F v (.rs r) := .rs z (.refl _ _) t a
theorem xi_list {tg : Expr} {ds : List PyData} (he : XE G X e ρ (lst_ ds)) : XI G X tg e ρ (ds.map Rs.dat) := ⟨_, pi_list pe_s, fun H0 F0 γ σ H F S R q => he.s S fun v H1 F1 n => by
  have a := n.rsAt
  have a0 := a
  cases a with
  | @lst l xs _ hs ha =>
    refine ⟨l, rfl, ⟨xs, SqL.of (n.fz.same _ _ hs)⟩, q _ _ F1 [(.ref l, .dat (.list ds))] n.grow n.fz n.tab (fun p hp => by rw [List.mem_singleton.mp hp]; exact a0) ⟨fun i r H F hr z t hg => ?_, fun H F z hg => ?_⟩⟩
    · have b : Dt F (.ref l) (.list ds) := hg (V.ref l, Rs.dat (.list ds)) (by simp)
      cases b with
      | lst hs' ha' =>
        rw [List.getElem?_map] at hr
        cases hd : ds[i]? with
        | none => rw [hd] at hr; cases hr
        | some d =>
          rw [hd] at hr
          cases hr
          obtain ⟨w, hw, rw'⟩ := dpAll_getD ha' hd
          refine ⟨⟨_, w, SqL.of (z.same _ _ hs'), hw⟩, fun x H' ⟨e1, e2⟩ => ?_⟩
          subst e1
          have e3 := e2 _ (SqL.of (z.same _ _ hs'))
          rw [hw] at e3
          cases e3
          exact ⟨F, .at0 z t rw'⟩
    · have b : Dt F (.ref l) (.list ds) := hg (V.ref l, Rs.dat (.list ds)) (by simp)
      cases b with
      | lst hs' ha' => exact ⟨_, SqL.of (z.same _ _ hs'), by rw [dpAll_length ha', List.length_map]; exact Nat.le_refl _⟩⟩
theorem xi_tup {tg : Expr} {ds : List PyData} (he : XE G X e ρ (tup_ ds)) : XI G X tg e ρ (ds.map Rs.dat) := ⟨_, pi_tup pe_s, fun H0 F0 γ σ H F S R q => he.s S fun v H1 F1 n => by
  have a := n.rsAt
  have a0 := a
  cases a with
  | @tup l xs _ hs ha =>
    refine ⟨l, rfl, ⟨xs, SqT.of (n.fz.same _ _ hs)⟩, q _ _ F1 [(.ref l, .dat (.tuple ds))] n.grow n.fz n.tab (fun p hp => by rw [List.mem_singleton.mp hp]; exact a0) ⟨fun i r H F hr z t hg => ?_, fun H F z hg => ?_⟩⟩
    · have b : Dt F (.ref l) (.tuple ds) := hg (V.ref l, Rs.dat (.tuple ds)) (by simp)
      cases b with
      | tup hs' ha' =>
        rw [List.getElem?_map] at hr
        cases hd : ds[i]? with
        | none => rw [hd] at hr; cases hr
        | some d =>
          rw [hd] at hr
          cases hr
          obtain ⟨w, hw, rw'⟩ := dpAll_getD ha' hd
          refine ⟨⟨_, w, SqT.of (z.same _ _ hs'), hw⟩, fun x H' ⟨e1, e2⟩ => ?_⟩
          subst e1
          have e3 := e2 _ (SqT.of (z.same _ _ hs'))
          rw [hw] at e3
          cases e3
          exact ⟨F, .at0 z t rw'⟩
    · have b : Dt F (.ref l) (.tuple ds) := hg (V.ref l, Rs.dat (.tuple ds)) (by simp)
      cases b with
      | tup hs' ha' => exact ⟨_, SqT.of (z.same _ _ hs'), by rw [dpAll_length ha', List.length_map]; exact Nat.le_refl _⟩⟩
def rng (n : Int) : List Rs := (List.range n.toNat).map fun (i : Nat) => Rs.dat (.int (i : Int))
theorem xi_range {tg : Expr} {n : Int} {p : Pos} (he : XE G X e ρ (int_ n)) (h1 : -(2 ^ 62) ≤ n) (h2 : n < 2 ^ 62) (hm : X.mg "range" = none) (hg : Gl X "range" := by rfl) (hs : starEach [e] X.env = [(false, eval e X.env)] := by rfl) (hs1 : starEach [e] X.env = (false, eval e X.env) :: starEach [] X.env := by rfl) :
    XI G X tg (.Call (.Name "range" p) [e] [] pos) ρ (rng n) := ⟨_, pi_range1 hg hm (pa_cons pe_s pa_nil hs1) hs, fun H0 F0 γ σ H F S R q => he.s S fun v H1 F1 m => by
  have a := m.rsAt
  cases a
  refine ⟨n, rfl, h1, h2, q _ _ F1 [] m.grow m.fz m.tab (fun _ h => nomatch h) ⟨fun i r H F hr z t _ => ?_, fun H F z _ => ?_⟩⟩
  · unfold rng at hr
    rw [List.getElem?_map] at hr
    by_cases hi : i < n.toNat
    · rw [List.getElem?_range hi] at hr
      cases hr
      refine ⟨hi, fun x H' ⟨e1, e2⟩ => ?_⟩
      subst e1
      rw [e2, Int.zero_add]
      exact ⟨F, .at0 z t (.int _)⟩
    · rw [List.getElem?_eq_none (by simpa using hi)] at hr
      cases hr
  · show n.toNat ≤ (rng n).length
    unfold rng
    rw [List.length_map, List.length_range]
    exact Nat.le_refl _⟩
/-! ### for -/
def ForR (G : Gd) (X : Cx) (Ex : Hp → Prop) (tg : Expr) (body : List Stmt) : List Rs → Ro → Out → Prop
  | [], ρ, o => ∃ ρ', Le ρ' ρ ∧ o = .nx ρ'
  | r :: rs, ρ, o => ∃ ρ0 ρ1 is, Le ρ0 ρ ∧ XGo G X tg r ρ0 ρ1 is ∧ ((∃ ρ2, XSs G X Ex body ρ1 (.nx ρ2) ∧ ForR G X Ex tg body rs ρ2 o) ∨ (XSs G X Ex body ρ1 o ∧ ∀ ρ', o ≠ .nx ρ'))
theorem Post.ghost {K : PySem.W.Frag} {γ1 : Gh} (h : Post G K Ex H0 F0 γ D o) : Post G K Ex H0 F0 (γ1 ++ γ) D o := by
  cases o with
  | nx ρ => exact fun σ H F S => h σ H F (S.ghost fun p hp => S.gh p (List.mem_append_right _ hp))
  | rt en => exact h
  | xc => exact h
theorem Post.nxOther {K : PySem.W.Frag} {N : L2.St → Hp → Prop} (h : Post G K Ex H0 F0 γ D o) (n : ∀ ρ', o ≠ .nx ρ') : Post G K Ex H0 F0 γ { D with nx := N, ct := N, bk := D.nx } o := by
  cases o with
  | nx ρ => exact absurd rfl (n ρ)
  | rt en => exact h
  | xc => exact h
theorem xs_for {tg iter : Expr} {body : List Stmt} {rs : List Rs} (hp : PassesOwn (model X.prog X.w) X.A X.env X.xe) (hc : X.calm = true) (hi : XI G X tg iter ρ rs) (hb : ForR G X Ex tg body rs ρ o)
    (hs : ∀ x, foldedSetIterable iter X.env x = pure x := by intro _; rfl) : XS G X Ex (.For tg iter body [] pos) ρ o := fun H0 F0 γ σ H F S D q => by
  obtain ⟨wi, h1, h2⟩ := hi
  refine ⟨_, ps_for hp hc h1 pg_s pss_s hs, h2 _ _ _ _ _ _ S _ fun J H1 F1 γ1 g z t hg ok => ?_⟩
  have S1 : Sta G X.K H0 F0 (γ1 ++ γ) σ H1 F1 ρ := (S.go g z t).ghost fun p hp => by
    rcases List.mem_append.mp hp with h | h
    · exact hg p h
    · exact (S.go g z t).gh p h
  refine ⟨fun i m σ H => m + i = rs.length ∧ ∃ ρ F, Sta G X.K H0 F0 (γ1 ++ γ) σ H F ρ ∧ ForR G X Ex tg body (rs.drop i) ρ o, ⟨rs.length, rfl, ρ, F1, S1, hb⟩, ?_⟩
  rintro i m σ2 H2 ⟨hm, ρ2, F2, S2, hb2⟩
  have hg2 : ∀ p ∈ γ1, p.2.At G X.K F2 p.1 := fun p hp => S2.gh p (List.mem_append_left _ hp)
  by_cases hlt : i < rs.length
  · refine .inr ?_
    have hd : rs.drop i = rs[i] :: rs.drop (i + 1) := List.drop_eq_getElem_cons hlt
    rw [hd] at hb2
    obtain ⟨ρ3, ρ4, is, l, xg, hb3⟩ := hb2
    obtain ⟨go, yl⟩ := ok.go i _ H2 F2 (List.getElem?_eq_getElem hlt) S2.fz S2.tab hg2
    refine ⟨go, fun σ' H' => ∃ ρ F, Sta G X.K H0 F0 (γ1 ++ γ) σ' H' F ρ ∧ ForR G X Ex tg body (rs.drop (i + 1)) ρ o, fun σ' H' h' => ⟨m - 1, by omega, by omega, h'⟩, fun x H' y => ?_⟩
    obtain ⟨F3, n⟩ := yl x H' y
    refine xg _ _ _ _ _ _ ((S2.less l).nx n) x n.rsAt _ fun σ3 S3 _ => ?_
    rcases hb3 with ⟨ρ5, hx, hr⟩ | ⟨hx, hn⟩
    · exact hx _ _ _ _ _ _ S3 _ fun σ4 H4 F4 S4 => ⟨ρ5, F4, S4, hr⟩
    · exact hx _ _ _ _ _ _ S3 _ (Post.nxOther (Post.ghost q) hn)
  · refine .inl ?_
    have e : i = rs.length := by omega
    rw [e, List.drop_length] at hb2
    obtain ⟨ρ3, l, eo⟩ := hb2
    subst eo
    rw [e]
    exact ⟨ok.stop H2 F2 S2.fz hg2, q _ _ _ ((S2.less l).ghost fun p hp => S2.gh p (List.mem_append_right _ hp))⟩
/-! ### while -/
def WhR (G : Gd) (X : Cx) (Ex : Hp → Prop) (c : Expr) (body : List Stmt) : Nat → Ro → Out → Prop
  | 0, ρ, o => ∃ ρ0, Le ρ0 ρ ∧ ((XT G X c ρ0 false ∧ o = .nx ρ0) ∨ (XT G X c ρ0 true ∧ XSs G X Ex body ρ0 o ∧ ∀ ρ', o ≠ .nx ρ'))
  | n + 1, ρ, o => ∃ ρ0 ρ2, Le ρ0 ρ ∧ XT G X c ρ0 true ∧ XSs G X Ex body ρ0 (.nx ρ2) ∧ WhR G X Ex c body n ρ2 o
theorem xs_while {c : Expr} {body : List Stmt} (n : Nat) (hp : PassesOwn (model X.prog X.w) X.A X.env X.xe) (hb : WhR G X Ex c body n ρ o) : XS G X Ex (.While c body [] pos) ρ o := fun H0 F0 γ σ H F S D q => by
  refine ⟨_, ps_while hp pt_s pss_s, fun m σ H => ∃ ρ F, Sta G X.K H0 F0 γ σ H F ρ ∧ WhR G X Ex c body m ρ o, ⟨n, ρ, F, S, hb⟩, ?_⟩
  rintro m σ2 H2 ⟨ρ2, F2, S2, hb2⟩
  cases m with
  | zero =>
    obtain ⟨ρ3, l, h | h⟩ := hb2
    · obtain ⟨hc, eo⟩ := h
      subst eo
      exact hc.s (S2.less l) fun H3 F3 g z t => by
        rw [if_neg Bool.false_ne_true]
        exact q _ _ _ ((S2.less l).go g z t)
    · obtain ⟨hc, hx, hn⟩ := h
      exact hc.s (S2.less l) fun H3 F3 g z t => by
        rw [if_pos rfl]
        exact ⟨fun _ _ => False, fun _ _ h => h.elim, hx _ _ _ _ _ _ ((S2.less l).go g z t) _ (Post.nxOther q hn)⟩
  | succ m =>
    obtain ⟨ρ3, ρ4, l, hc, hx, hr⟩ := hb2
    exact hc.s (S2.less l) fun H3 F3 g z t => by
      rw [if_pos rfl]
      exact ⟨fun σ' H' => ∃ ρ F, Sta G X.K H0 F0 γ σ' H' F ρ ∧ WhR G X Ex c body m ρ o, fun σ' H' h => ⟨m, Nat.lt_succ_self _, h⟩, hx _ _ _ _ _ _ ((S2.less l).go g z t) _ fun σ4 H4 F4 S4 => ⟨ρ4, F4, S4, hr⟩⟩
/-! ### comprehensions -/
def wipeR (ρ : Ro) : List Nat → Ro
  | [] => ρ
  | v :: vs => (wipeR ρ vs).set v none
theorem SlotsAt.wipe1 {K : PySem.W.Frag} : ∀ {σ : L2.St} {ρ : Ro} {fs : List (List Addr)} (i : Nat), SlotsAt G K F H σ ρ fs → SlotsAt G K F H (σ.set i none) (ρ.set i none) (fs.set i [])
  | _, _, _, _, .nil => .nil
  | _, _, _, 0, .skip t => .skip t
  | _, _, _, 0, .cons _ t => .skip t
  | _, _, _, i + 1, .skip t => .skip (t.wipe1 i)
  | _, _, _, i + 1, .cons b t => .cons b (t.wipe1 i)
theorem Sta.wipe1 {K : PySem.W.Frag} (S : Sta G K H0 F0 γ σ H F ρ) (i : Nat) : Sta G K H0 F0 γ (σ.set i none) H F (ρ.set i none) := by
  obtain ⟨fs, h1, h2, h3⟩ := S.ex
  refine ⟨S.fz, S.grow, S.tab, S.gh, fs.set i [], h1.wipe1 i, nodup_flatten_set h2 List.nodup_nil (fun _ h => nomatch h), fun b hb => ?_⟩
  rcases mem_flatten_set hb with hb | hb
  · exact nomatch hb
  · exact h3 b hb
theorem Sta.wipe {K : PySem.W.Frag} (S : Sta G K H0 F0 γ σ H F ρ) : ∀ vs : List Nat, Sta G K H0 F0 γ (L2.wipe σ vs) H F (wipeR ρ vs)
  | [] => S
  | v :: vs => (S.wipe vs).wipe1 v
def IsBlk (X : Cx) (scope : Scope) (X' : Cx) : Prop := ∃ s H C cl fp, X' = X.blk s H scope (compEnvC scope cl C X.env) fp
def XIfs (G : Gd) (X : Cx) (scope : Scope) (ifs : List Expr) (ρ : Ro) (b : Bool) : Prop := (ifs = [] ∧ b = true) ∨ ∃ c, ifs = [c] ∧ ∀ X', IsBlk X scope X' → XT G X' c ρ b
def LcR (G : Gd) (X : Cx) (scope : Scope) (tg elt : Expr) (ifs : List Expr) (is : List Nat) (ρ : Ro) : List Rs → List PyData → Prop
  | [], ds => ds = []
  | r :: rs, ds => ∃ ρ1, (∀ X', IsBlk X scope X' → XGo G X' tg r ρ ρ1 is) ∧ ((XIfs G X scope ifs ρ1 true ∧ ∃ d ds', ds = d :: ds' ∧ (∀ X', IsBlk X scope X' → XE G X' elt ρ1 (dat_ d)) ∧ LcR G X scope tg elt ifs is ρ rs ds') ∨
    (XIfs G X scope ifs ρ1 false ∧ LcR G X scope tg elt ifs is ρ rs ds))
def bG (X : Cx) (scope : Scope) (tg : Expr) : TG := fun v σ H Q => ∀ X', IsBlk X scope X' → sG X' tg v σ H Q
def bE (X : Cx) (scope : Scope) (e : Expr) : TE := fun σ H Q => ∀ X', IsBlk X scope X' → sE X' e σ H Q
def bT (X : Cx) (scope : Scope) : List Expr → TT
  | [] => tYes
  | c :: _ => fun σ H Q => ∀ X', IsBlk X scope X' → sT X' c σ H Q
theorem lc_ok {tg iter elt : Expr} {ifs : List Expr} {scope : Scope} {is : List Nat} {rs : List Rs} {ds : List PyData} {wi : TI} (h2 : ∀ H0 F0 γ σ H F, Sta G X.K H0 F0 γ σ H F ρ → ∀ R : It → Hp → Prop,
  (∀ J H' F' γ1, Grow H F H' F' → Fz F' H' → G.tab H' → (∀ p ∈ γ1, p.2.At G X.K F' p.1) → ItOk G X.K J rs γ1 → R J H') → wi σ H R) (hb : LcR G X scope tg elt ifs is (wipeR ρ is) rs ds) (hz : ds.length ≤ 16777216)
    (S : Sta G X.K H0 F0 γ σ H F ρ) {Q : VK} (q : ∀ v H' F', Nx G X.K H F H' F' v (.own ds) → Q v H') : tLc wi (bG X scope tg) (bT X scope ifs) (bE X scope elt) is σ H Q := by
  refine h2 _ _ _ _ _ _ S _ fun J H1 F1 γ1 g z t hg ok D hD => ?_
  have FD : F1 D = none := z.non hD
  have hHD : H D = none := g.live D hD
  refine ⟨fun i m H' => m + i = rs.length ∧ ∃ F' acc don res, Grow H1 F1 H' F' ∧ Fz F' H' ∧ G.tab H' ∧ H' D = some (.lst acc) ∧ F' D = none ∧ DtAll F' acc don ∧ LcR G X scope tg elt ifs is (wipeR ρ is) (rs.drop i) res ∧ don ++ res = ds,
    ⟨rs.length, rfl, F1, [], [], ds, .new hD, z.new hD, G.mono (extL_new hD) t, upd_same, FD, .nil, hb, rfl⟩, ?_⟩
  rintro i m H2 ⟨hm, F2, acc, don, res, g2, z2, t2, d2, f2, a2, hb2, he⟩
  have hg2 : ∀ p ∈ γ1, p.2.At G X.K F2 p.1 := fun p hp => (hg p hp).mono (g2.same z)
  by_cases hlt : i < rs.length
  · refine .inr ?_
    have hd : rs.drop i = rs[i] :: rs.drop (i + 1) := List.drop_eq_getElem_cons hlt
    rw [hd] at hb2
    obtain ⟨ρ1, xg, hb3⟩ := hb2
    obtain ⟨go, yl⟩ := ok.go i _ H2 F2 (List.getElem?_eq_getElem hlt) z2 t2 hg2
    refine ⟨go, fun H' => ∃ F' acc don res, Grow H1 F1 H' F' ∧ Fz F' H' ∧ G.tab H' ∧ H' D = some (.lst acc) ∧ F' D = none ∧ DtAll F' acc don ∧ LcR G X scope tg elt ifs is (wipeR ρ is) (rs.drop (i + 1)) res ∧ don ++ res = ds,
      fun H' h' => ⟨m - 1, by omega, by omega, h'⟩, fun x H' y => ?_⟩
    obtain ⟨F3, n⟩ := yl x H' y
    have S3 : Sta G X.K H0 F0 γ (L2.wipe σ is) H' F3 (wipeR ρ is) := (((S.go g z t).go g2 z2 t2).nx n).wipe is
    intro X' bX
    have xg' := xg X' bX
    have hK : X'.K = X.K := by
      obtain ⟨s, Hx, C, cl, fp, rfl⟩ := bX
      rfl
    have S3' : Sta G X'.K H0 F0 γ (L2.wipe σ is) H' F3 (wipeR ρ is) := by rw [hK]; exact S3
    refine xg' _ _ _ _ _ _ S3' x (by rw [hK]; exact n.rsAt) _ fun σ4 S4 o4 => ⟨(wipe_eq o4).trans (wipe_eq (out1_wipe σ is)), ?_⟩
    rw [hK] at S4
    have keepD : ∀ {Hx Fx : Hp}, Grow H2 F2 Hx Fx → Hx D = some (.lst acc) ∧ Fx D = none := fun gx => ⟨gx.keep D _ d2 nt_lst, by rw [gx.fro D (by rw [d2]; exact fun q => nomatch q)]; exact f2⟩
    have step : ∀ {b : Bool} {Qb : Bool → Hp → Prop}, XIfs G X scope ifs ρ1 b → (∀ Hx Fx, Grow H' F3 Hx Fx → Fz Fx Hx → G.tab Hx → Qb b Hx) → bT X scope ifs σ4 H' Qb := fun {b Qb} hx hq => by
      rcases hx with ⟨e1, e2⟩ | ⟨c, e1, e2⟩
      · subst e1 e2
        exact hq H' F3 (.refl _ _) n.fz n.tab
      · subst e1
        intro X2 bX2
        have hK2 : X2.K = X.K := by
          obtain ⟨s, Hx, C, cl, fp, rfl⟩ := bX2
          rfl
        exact (e2 X2 bX2).s (by rw [hK2]; exact S4) hq
    rcases hb3 with ⟨hi, d, ds', e1, xe, hr⟩ | ⟨hi, hr⟩
    · refine step hi fun Hx Fx gx zx tx => ?_
      rw [if_pos rfl]
      intro X2 bX2
      have hK2 : X2.K = X.K := by
        obtain ⟨s, Hx, C, cl, fp, rfl⟩ := bX2
        rfl
      refine (xe X2 bX2).s (by rw [hK2]; exact S4.go gx zx tx) fun v Hy Fy ny => ?_
      rw [hK2] at ny
      have gy : Grow H2 F2 Hy Fy := (n.grow.trans gx).trans ny.grow
      obtain ⟨k1, k2⟩ := keepD gy
      have la : acc.length = don.length := dpAll_length a2
      have ld : don.length + (1 + ds'.length) = ds.length := by rw [← he, e1, List.length_append, List.length_cons]; omega
      refine ⟨acc, k1, by rw [la, sizeLine_eq]; omega, Fy, acc ++ [v], don ++ [d], ds', ⟨fun b u e nt => ?_, fun b e => ?_, fun b e => (gy.fro b ?_).trans (g2.fro b e)⟩, fun b u e => ?_, G.mono (extL_lst k1) ny.tab, upd_same, k2, dpAll_append (dpAll_mono (gy.same z2) _ _ a2) (.cons ny.rsAt .nil), hr, by rw [List.append_assoc, List.singleton_append, ← e1]; exact he⟩
      · rw [upd_ne (ne_of_none e hD)]
        exact gy.keep b u (g2.keep b u e nt) nt
      · by_cases hb : b = D
        · rw [hb]; exact hD
        · rw [upd_ne hb] at e
          exact g2.live b (gy.live b e)
      · intro h2b
        exact e (g2.live b h2b)
      · rw [upd_ne (ne_of_none e k2)]
        exact ny.fz b u e
    · refine step hi fun Hx Fx gx zx tx => ?_
      rw [if_neg Bool.false_ne_true]
      have gy : Grow H2 F2 Hx Fx := n.grow.trans gx
      obtain ⟨k1, k2⟩ := keepD gy
      exact ⟨Fx, acc, don, res, g2.trans gy, zx, tx, k1, k2, dpAll_mono (gy.same z2) _ _ a2, hr, he⟩
  · refine .inl ?_
    have e : i = rs.length := by omega
    rw [e, List.drop_length] at hb2
    have hb2 : res = [] := hb2
    subst hb2
    rw [List.append_nil] at he
    subst he
    rw [e]
    refine ⟨ok.stop H2 F2 z2 hg2, q _ _ F2 ⟨z2, g.trans g2, t2, [D], ⟨D, acc, rfl, rfl, d2, a2⟩, by simp, fun b hb => ?_⟩⟩
    rw [List.mem_singleton.mp hb]
    exact ⟨hHD, f2⟩
theorem bG_pg {scope : Scope} {tg : Expr} (s : Shared) (H : Hp) (C : Addr) (cl : List (Str × Addr)) (fp : List Addr) : PG (X.blk s H scope (compEnvC scope cl C X.env) fp) tg (bG X scope tg) :=
  ⟨fun pins s1 σ H1 v u Q I r h => pg_s.run pins s1 σ H1 v u Q I r (h _ ⟨s, H, C, cl, fp, rfl⟩)⟩
theorem bE_pe {scope : Scope} {e : Expr} (s : Shared) (H : Hp) (C : Addr) (cl : List (Str × Addr)) (fp : List Addr) : PE (X.blk s H scope (compEnvC scope cl C X.env) fp) e (bE X scope e) :=
  ⟨fun pins s1 σ H1 Q I h => pe_s.run pins s1 σ H1 Q I (h _ ⟨s, H, C, cl, fp, rfl⟩)⟩
theorem bT_pt0 {scope : Scope} (s : Shared) (H : Hp) (C : Addr) (cl : List (Str × Addr)) (fp : List Addr) : PTs (X.blk s H scope (compEnvC scope cl C X.env) fp) [] (bT X scope []) := pts_nil
theorem bT_pt1 {scope : Scope} {c : Expr} (s : Shared) (H : Hp) (C : Addr) (cl : List (Str × Addr)) (fp : List Addr) : PTs (X.blk s H scope (compEnvC scope cl C X.env) fp) [c] (bT X scope [c]) :=
  pts_one ⟨fun pins s1 σ H1 Q I h => pt_s.run pins s1 σ H1 Q I (h _ ⟨s, H, C, cl, fp, rfl⟩)⟩
def Ifs1 (ifs : List Expr) : Prop := ifs = [] ∨ ∃ c, ifs = [c]
theorem bT_pt {scope : Scope} {ifs : List Expr} (h : Ifs1 ifs) (s : Shared) (H : Hp) (C : Addr) (cl : List (Str × Addr)) (fp : List Addr) : PTs (X.blk s H scope (compEnvC scope cl C X.env) fp) ifs (bT X scope ifs) := by
  rcases h with e | ⟨c, e⟩
  · subst e; exact bT_pt0 s H C cl fp
  · subst e; exact bT_pt1 s H C cl fp
/-- [elt for tg in iter if ..] -/
theorem xe_lc {tg iter elt : Expr} {ifs : List Expr} {scope : Scope} {rs : List Rs} {ds : List PyData} (own : List (Str × Nat)) (hc : X.calm = true) (hN : X.N.Nodup) (ok : BlkOk X.N X.env.scope scope own) (hi : XI G X tg iter ρ rs) (hb : LcR G X scope tg elt ifs (own.map (·.2)) (wipeR ρ (own.map (·.2))) rs ds)
    (hz : ds.length ≤ 16777216) (h1 : Ifs1 ifs := by first | exact .inl rfl | exact .inr ⟨_, rfl⟩) (hs : ∀ x, foldedSetIterable iter X.env x = pure x := by intro _; rfl) : XE G X (.ListComp elt [⟨tg, iter, ifs, 0⟩] scope pos) ρ (.own ds) := by
  obtain ⟨wi, hw, h2⟩ := hi
  exact ⟨_, pe_lc hc hN hw ok bG_pg (bT_pt h1) bE_pe hs, fun H0 F0 γ σ H F S Q q => lc_ok (iter := iter) h2 hb hz S q⟩
/-- name = [..] -/
theorem xs_setLc {tg iter elt : Expr} {ifs : List Expr} {scope : Scope} {rs : List Rs} {ds : List PyData} {y : Str} {py spos : Pos} (i : Nat) (own : List (Str × Nat)) (hc : X.calm = true) (hN : X.N.Nodup) (ok : BlkOk X.N X.env.scope scope own) (hi : XI G X tg iter ρ rs)
    (hb : LcR G X scope tg elt ifs (own.map (·.2)) (wipeR ρ (own.map (·.2))) rs ds) (hz : ds.length ≤ 16777216) (hsw : swapsWith (.ListComp elt [⟨tg, iter, ifs, 0⟩] scope pos) (some (.Name y py)) spos.line X.env = pure true) (hy : X.N[i]? = some y := by rfl) (hyl : X.env.scope.names.lookup y = some .local := by rfl)
    (h1 : Ifs1 ifs := by first | exact .inl rfl | exact .inr ⟨_, rfl⟩) (hs : ∀ x, foldedSetIterable iter X.env x = pure x := by intro _; rfl) : XS G X Ex (.Assign [.Name y py] (.ListComp elt [⟨tg, iter, ifs, 0⟩] scope pos) spos) ρ (.nx (ρ.set i (some (.own ds)))) := fun H0 F0 γ σ H F S D q => by
  obtain ⟨wi, hw, h2⟩ := hi
  exact ⟨_, ps_setLc (i := i) hc hN hy hyl hsw hw ok bG_pg (bT_pt h1) bE_pe hs, lc_ok (iter := iter) h2 hb hz S fun v H1 F1 n => q _ _ _ (S.set i n)⟩
end
end LC
namespace LC
open PySem PySem.Spec PyProof.Rows L2

section
variable {G : Gd} {X : Cx} {Ex : Hp → Prop} {ρ ρ1 ρ2 ρ' : Ro} {e a b : Expr} {es : List Expr} {st : Stmt} {sts : List Stmt} {pos : Pos} {H0 F0 H F H' F' : Hp} {γ : Gh} {σ : L2.St} {o : Out} {D : Ends}
/-! ### own lists are frozen, or lent -/
theorem SlotsAt.unown {K : PySem.W.Frag} {r : Rs} : ∀ {σ : L2.St} {ρ : Ro} {fs : List (List Addr)} {i : Nat} {v : V}, SlotsAt G K F H σ ρ fs → σ[i]? = some (some v) → r.At G K F v → SlotsAt G K F H σ (ρ.set i (some (.rs r))) (fs.set i [])
  | _, _, _, _, _, .nil, _, _ => .nil
  | _, _, _, 0, _, .skip t, h, _ => by simp at h; subst h; exact .cons ⟨rfl, by assumption⟩ t
  | _, _, _, 0, _, .cons b t, h, a => by simp at h; subst h; exact .cons ⟨rfl, a⟩ t
  | _, _, _, i + 1, _, .skip t, h, a => .skip (t.unown (i := i) (by simpa using h) a)
  | _, _, _, i + 1, _, .cons b t, h, a => .cons b (t.unown (i := i) (by simpa using h) a)
/-- the own list of slot i is frozen -/
theorem Sta.freeze {K : PySem.W.Frag} {i : Nat} {ds : List PyData} (S : Sta G K H0 F0 γ σ H F ρ) (h : ρ[i]? = some (some (.own ds))) : ∃ a vs, H a = some (.lst vs) ∧ F a = none ∧ H0 a = none ∧ Sta G K H0 F0 γ σ H (upd F a (.lst vs)) (ρ.set i (some (.rs (.dat (.list ds))))) := by
  obtain ⟨fs, h1, h2, h3⟩ := S.ex
  obtain ⟨a, vs, e1, e2, e3, e4, e5, e6⟩ := h1.split h h2
  have m : a ∈ fs.flatten := List.mem_flatten.mpr ⟨[a], List.mem_of_getElem? e2, List.mem_singleton.mpr rfl⟩
  obtain ⟨f1, f2⟩ := h3 a m
  have s : Same F (upd F a (.lst vs)) := fun b o e => by rw [upd_ne (ne_of_none e f1)]; exact e
  refine ⟨a, vs, e3, f1, f2, S.fz.freeze e3 nt_lst, ⟨S.grow.keep, S.grow.live, fun b hb => ?_⟩, S.tab, fun p hp => (S.gh p hp).mono s, fs.set i [], (h1.mono s fun _ _ e _ => e).unown e1 (.lst upd_same (dpAll_mono s _ _ e4)), e6.nodup h2, fun b hb => ?_⟩
  · rw [upd_ne (fun z => hb (by rw [z]; exact f2))]
    exact S.grow.fro b hb
  · have hb' := h3 b (e6.subset hb)
    exact ⟨by rw [upd_ne (fun z => e5 (by rw [← z]; exact hb))]; exact hb'.1, hb'.2⟩
theorem xss_freeze (i : Nat) {ds : List PyData} (hx : XSs G X Ex sts (ρ.set i (some (.rs (.dat (.list ds))))) o) (h : ρ[i]? = some (some (.own ds)) := by rfl) : XSs G X Ex sts ρ o := fun H0 F0 γ σ H F S D q => by
  obtain ⟨a, vs, _, _, _, S'⟩ := S.freeze h
  exact hx _ _ _ _ _ _ S' D q
/-- no list within -/
def lf : PyData → Bool
  | .list _ => false
  | .tuple ds => lfs ds
  | .dict _ => false
  | _ => true
where lfs : List PyData → Bool
  | [] => true
  | d :: ds => lf d && lfs ds
mutual
theorem dt_less {F F' : Hp} (h : ∀ p xs, F p = some (.tup xs) → F' p = some (.tup xs)) : ∀ (d : PyData) (v : V), lf d = true → Dt F v d → Dt F' v d
  | .none, _, _, x => by cases x; exact .non
  | .bool b, _, _, x => by cases x; exact .bl b
  | .int i, _, _, x => by cases x; exact .int i
  | .str y, _, _, x => by cases x; exact .str y
  | .list _, _, l, _ => by simp [lf] at l
  | .dict _, _, l, _ => by simp [lf] at l
  | .tuple ds, _, l, x => by
    cases x with
    | tup hs ha => exact .tup (h _ _ hs) (dtAll_less h ds _ (by simpa [lf] using l) ha)
theorem dtAll_less {F F' : Hp} (h : ∀ p xs, F p = some (.tup xs) → F' p = some (.tup xs)) : ∀ (ds : List PyData) (vs : List V), lf.lfs ds = true → DtAll F vs ds → DtAll F' vs ds
  | [], _, _, x => by cases x; exact .nil
  | d :: ds, _, l, x => by
    have l' : lf d = true ∧ lf.lfs ds = true := by simpa [lf.lfs] using l
    cases x with
    | cons h1 h2 => exact .cons (dt_less h d _ l'.1 h1) (dtAll_less h ds _ l'.2 h2)
end
def enLf : En → Bool
  | .rs (.dat d) => lf d
  | .own ds => lf.lfs ds
  | _ => false
def del (F : Hp) (a : Addr) : Hp := fun b => if b = a then none else F b
theorem del_same {F : Hp} {a : Addr} : del F a a = none := by unfold del; rw [if_pos rfl]
theorem del_ne {F : Hp} {a b : Addr} (h : b ≠ a) : del F a b = F b := by unfold del; rw [if_neg h]
/-- back from a frozen own list -/
theorem unlend {a : Addr} {vs : List V} {F2 : Hp} (z : Fz F H) (ha : H a = some (.lst vs)) (fa : F a = none) (g : Grow H (upd F a (.lst vs)) H' F2) (z2 : Fz F2 H') : ∃ F', Grow H F H' F' ∧ Fz F' H' ∧ (∀ p xs, F2 p = some (.tup xs) → F' p = some (.tup xs)) ∧ ∀ b, F2 b = none → F' b = none := by
  have e2 : F2 a = some (.lst vs) := by rw [g.fro a (by rw [ha]; exact fun q => nomatch q), upd_same]
  refine ⟨del F2 a, ⟨g.keep, g.live, fun b hb => ?_⟩, fun b u e => ?_, fun p xs e => ?_, fun b e => ?_⟩
  · by_cases h : b = a
    · rw [h, del_same, fa]
    · rw [del_ne h, g.fro b hb, upd_ne h]
  · by_cases h : b = a
    · rw [h, del_same] at e; cases e
    · rw [del_ne h] at e; exact z2 b u e
  · rw [del_ne (fun h => by rw [h, e2] at e; cases e)]
    exact e
  · by_cases h : b = a
    · rw [h, del_same]
    · rw [del_ne h]; exact e
theorem xe_lend (i : Nat) {ds : List PyData} {en : En} (hx : XE G X e (ρ.set i (some (.rs (.dat (.list ds))))) en) (l : enLf en = true) (h : ρ[i]? = some (some (.own ds)) := by rfl) : XE G X e ρ en := .of fun H0 F0 γ σ H F S Q q => by
  obtain ⟨a, vs, h1, h2, _, S'⟩ := S.freeze h
  refine hx.s S' fun v H' F2 n => ?_
  obtain ⟨F', g, z, t1, t2⟩ := unlend S.fz h1 h2 n.grow n.fz
  obtain ⟨fp, k1, k2, k3⟩ := n.at_
  refine q v H' F' ⟨z, g, n.tab, fp, ?_, k2, fun b hb => ⟨(k3 b hb).1, t2 b (k3 b hb).2⟩⟩
  cases en with
  | rs r =>
    cases r with
    | dat d => exact ⟨k1.1, dt_less t1 d v l k1.2⟩
    | _ => simp [enLf] at l
  | own ds =>
    obtain ⟨b, ws, q1, q2, q3, q4⟩ := k1
    exact ⟨b, ws, q1, q2, q3, dtAll_less t1 ds _ l q4⟩
  | own2 _ => simp [enLf] at l
  | res _ _ => simp [enLf] at l
  | obj _ => simp [enLf] at l
theorem xt_lend (i : Nat) {ds : List PyData} {k : Bool} (hx : XT G X e (ρ.set i (some (.rs (.dat (.list ds))))) k) (h : ρ[i]? = some (some (.own ds)) := by rfl) : XT G X e ρ k := .of fun H0 F0 γ σ H F S Q q => by
  obtain ⟨a, vs, h1, h2, _, S'⟩ := S.freeze h
  refine hx.s S' fun H' F2 g z t => ?_
  obtain ⟨F', g', z', _⟩ := unlend S.fz h1 h2 g z
  exact q H' F' g' z' t
/-! ### places -/
theorem atI_dt {vs : List V} {ds : List PyData} {i : Int} {d : PyData} (h : DtAll F vs ds) (e : atI ds i = some d) : ∃ v, atI vs i = some v ∧ Dt F v d := by
  unfold atI at e ⊢
  rw [dpAll_length h]
  cases q : ixN ds.length i with
  | none => rw [q] at e; cases e
  | some j =>
    rw [q] at e
    exact dpAll_getD h e
def IxOk (G : Gd) (X : Cx) (ra rb : Rs) (en : En) : Prop :=
  ∃ r : R2, IxR X r ∧ ∀ x y H F, Fz F H → G.tab H → ra.At G X.K F x → rb.At G X.K F y → ∀ Q : VK, (∀ v H' F', Nx G X.K H F H' F' v en → Q v H') → r x y H Q
theorem xe_ix {ra rb : Rs} {en : En} (ha : XE G X a ρ (.rs ra)) (hb : XE G X b ρ (.rs rb)) (ho : IxOk G X ra rb en) (hs : PlainIx b := by exact fun _ _ => rfl) : XE G X (.Subscript a b pos) ρ en := by
  obtain ⟨ta, h1, h2⟩ := ha
  obtain ⟨tb, h3, h4⟩ := hb
  obtain ⟨r, h5, h6⟩ := ho
  exact ⟨_, pe_ix h5 h1 h3 hs, fun H0 F0 γ σ H F S Q q => two h2 h4 h6 S q⟩
theorem ixo_tup {ds : List PyData} {i : Int} {d : PyData} (h : atI ds i = some d) : IxOk G X (.dat (.tuple ds)) (.dat (.int i)) (dat_ d) := ⟨_, ix_tup, fun x y H F z t ax ay Q k => by
  cases ay
  cases ax with
  | tup hs ha =>
    obtain ⟨v, e, dv⟩ := atI_dt ha h
    exact ⟨_, _, _, v, rfl, rfl, SqT.of (z.same _ _ hs), e, k _ H F (.at0 z t dv)⟩⟩
theorem ixo_list {ds : List PyData} {i : Int} {d : PyData} (h : atI ds i = some d) : IxOk G X (.dat (.list ds)) (.dat (.int i)) (dat_ d) := ⟨_, ix_list, fun x y H F z t ax ay Q k => by
  cases ay
  cases ax with
  | lst hs ha =>
    obtain ⟨v, e, dv⟩ := atI_dt ha h
    exact ⟨_, _, _, v, rfl, rfl, SqL.of (z.same _ _ hs), e, k _ H F (.at0 z t dv)⟩⟩
theorem ixo_scr {ns : List Int} {i n : Int} (h : atI ns i = some n) : IxOk G X (.scr ns) (.dat (.int i)) (int_ n) := ⟨_, ix_list, fun x y H F z t ax ay Q k => by
  cases ay
  obtain ⟨l, rfl, hs⟩ := ax
  have e : atI (ns.map V.int) i = some (V.int n) := by
    unfold atI at h ⊢
    rw [List.length_map]
    cases q : ixN ns.length i with
    | none => rw [q] at h; cases h
    | some j =>
      rw [q] at h
      show (ns.map V.int)[j]? = _
      rw [List.getElem?_map]
      have h' : ns[j]? = some n := h
      rw [h']
      rfl
  exact ⟨_, _, _, _, rfl, rfl, sqL_mono z.same hs, e, k _ H F (.at0 z t (.int n))⟩⟩
theorem ixo_str {s : Str} {i : Int} {c : Nat} (hl : s.length ≤ 16777216) (h : atI s.cps.toList i = some c) : IxOk G X (.dat (.str s)) (.dat (.int i)) (str_ ⟨#[c]⟩) := ⟨_, ix_str, fun x y H F z t ax ay Q k => by
  cases ay
  cases ax
  exact ⟨_, _, _, rfl, rfl, line_ok hl, h, k _ H F (.at0 z t (.str _))⟩⟩
/-! ### cuts -/
def cutD (ds : List PyData) (lo hi : Option Int) : List PyData := (ds.drop (HT.sIx ds.length 0 lo)).take (HT.sIx ds.length ds.length hi - HT.sIx ds.length 0 lo)
theorem dt_cut {vs : List V} {ds : List PyData} (h : DtAll F vs ds) (lo hi : Option Int) : DtAll F (cutV vs lo hi) (cutD ds lo hi) := by
  unfold cutV cutD
  rw [dpAll_length h]
  exact dpAll_take _ (dpAll_drop _ h)
def XO (G : Gd) (X : Cx) (e : Option Expr) (ρ : Ro) (i : Option Int) : Prop := ∃ t, PO X e t ∧ ∀ H0 F0 γ σ H F, Sta G X.K H0 F0 γ σ H F ρ → ∀ Q : Option Int → Hp → Prop, (∀ H' F', Grow H F H' F' → Fz F' H' → G.tab H' → Q i H') → t σ H Q
theorem xo_none : XO G X none ρ none := ⟨_, po_none, fun H0 F0 γ σ H F S Q q => q H F (.refl _ _) S.fz S.tab⟩
theorem xo_some {i : Int} (h : XE G X e ρ (int_ i)) : XO G X (some e) ρ (some i) := ⟨_, po_some pe_s, fun H0 F0 γ σ H F S Q q => h.s S fun v H' F' n => by
  have d := n.rsAt
  cases d
  exact ⟨i, rfl, q H' F' n.grow n.fz n.tab⟩⟩
def SlOk (G : Gd) (X : Cx) (r : Rs) (lo hi : Option Int) (en : En) : Prop :=
  ∃ f, SlR X f ∧ ∀ x H F, Fz F H → G.tab H → r.At G X.K F x → ∀ Q : VK, (∀ v H' F', Nx G X.K H F H' F' v en → Q v H') → f x lo hi H Q
theorem xe_slice {lo hi : Option Expr} {i j : Option Int} {r : Rs} {en : En} {p2 : Pos} (he : XE G X e ρ (.rs r)) (hl : XO G X lo ρ i) (hh : XO G X hi ρ j) (ho : SlOk G X r i j en) : XE G X (.Subscript e (.Slice lo hi none p2) pos) ρ en := by
  obtain ⟨tl, l1, l2⟩ := hl
  obtain ⟨th, u1, u2⟩ := hh
  obtain ⟨f, f1, f2⟩ := ho
  refine ⟨_, pe_slice f1 pe_s l1 u1, fun H0 F0 γ σ H F S Q q => he.s S fun v H1 F1 n => l2 _ _ _ _ _ _ (S.nx n) _ fun H2 F2 g2 z2 t2 => u2 _ _ _ _ _ _ ((S.nx n).go g2 z2 t2) _ fun H3 F3 g3 z3 t3 => ?_⟩
  exact f2 v H3 F3 z3 t3 (n.rsAt.mono ((g2.trans g3).same n.fz)) Q fun w H4 F4 m => q w H4 F4 (.from (n.grow.trans (g2.trans g3)) m)
theorem slo_list {ds : List PyData} {lo hi : Option Int} : SlOk G X (.dat (.list ds)) lo hi (.own (cutD ds lo hi)) := ⟨_, sl_list, fun x H F z t ax Q k => by
  cases ax with
  | lst hs ha => exact ⟨_, _, rfl, SqL.of (z.same _ _ hs), fun p hp => k _ _ _ (.lst z t hp (dt_cut ha lo hi))⟩⟩
theorem slo_scr {ns : List Int} {lo hi : Option Int} : SlOk G X (.scr ns) lo hi (.own (cutD (ns.map PyData.int) lo hi)) := ⟨_, sl_list, fun x H F z t ax Q k => by
  obtain ⟨l, rfl, hs⟩ := ax
  exact ⟨_, _, rfl, sqL_mono z.same hs, fun p hp => k _ _ _ (.lst z t hp (dt_cut (dpAll_ints ns) lo hi))⟩⟩
theorem slo_tup {ds : List PyData} {lo hi : Option Int} : SlOk G X (.dat (.tuple ds)) lo hi (tup_ (cutD ds lo hi)) := ⟨_, sl_tupA, fun x H F z t ax Q k => by
  have ax0 := ax
  cases ax with
  | tup hs ha =>
    refine ⟨_, _, rfl, SqT.of (z.same _ _ hs), fun w => k _ H F (.at0 z t ?_), fun _ p hp => k _ _ _ (.tup z t hp (dt_cut ha lo hi))⟩
    have e : cutD ds lo hi = ds := by
      unfold cutD
      rw [← dpAll_length ha, w.1, w.2, List.drop_zero, Nat.sub_zero, dpAll_length ha, List.take_length]
    rw [e]
    exact ax0⟩
theorem slo_str {s : Str} {lo hi : Option Int} (hl : s.length ≤ 16777216) : SlOk G X (.dat (.str s)) lo hi (str_ (cutS s lo hi)) := ⟨_, sl_str, fun x H F z t ax Q k => by
  cases ax
  exact ⟨_, rfl, line_ok hl, k _ H F (.at0 z t (.str _))⟩⟩
theorem xe_rev {ds : List PyData} {k : Nat} {p1 p2 p3 : Pos} (he : XE G X e ρ (lst_ ds)) : XE G X (.Subscript e (.Slice none none (some (.UnaryOp .USub (.Constant (.int 1) k p1) p2)) p3) pos) ρ (.own ds.reverse) := ⟨_, pe_revL pe_s, fun H0 F0 γ σ H F S Q q => he.s S fun v H1 F1 n => by
  have d := n.rsAt
  cases d with
  | lst hs ha => exact ⟨_, _, rfl, SqL.of (n.fz.same _ _ hs), fun p hp => q _ _ _ (.from n.grow (.lst n.fz n.tab hp (dpAll_reverse ha)))⟩⟩
/-! ### built-ins -/
def CallOk (G : Gd) (X : Cx) (f : Value) (rs : List Rs) (en : En) : Prop :=
  ∃ r, CallR X f r ∧ ∀ vs H F, Fz F H → G.tab H → RsAll G X.K F vs rs → ∀ Q : VK, (∀ v H' F', Nx G X.K H F H' F' v en → Q v H') → r vs H Q
theorem xe_callB {id : String} {x : Str} {p : Pos} {rs : List Rs} {en : En} (hm : X.mg x = none) (ha : XA G X (e :: es) ρ rs) (hc : CallOk G X (.builtin id) rs en) (hv : bootBuiltins x = some (.builtin id) := by decide +kernel) (hg : Gl X x := by rfl) (hn : x ≠ "__name__" := by decide) (hdb : (x == ("__debug__" : Str)) = false := by decide)
    (he : starEach (e :: es) X.env = (false, eval e X.env) :: starEach es X.env := by rfl) (hpl : (backTo pos (starEach es X.env)).any (·.1) = false := by rfl) : XE G X (.Call (.Name x p) (e :: es) [] pos) ρ en := by
  obtain ⟨t, h1, h2⟩ := ha
  obtain ⟨r, h3, h4⟩ := hc
  exact ⟨_, pe_callB h3 hg hm hv h1 hn hdb he hpl, fun H0 F0 γ σ H F S Q q => h2 _ _ _ _ _ _ S _ fun vs H1 F1 g z t a => h4 vs H1 F1 z t a Q fun v H2 F2 n => q v H2 F2 (.from g n)⟩
theorem xe_callT {id : String} {x : Str} {p : Pos} {rs : List Rs} {en : En} (hm : X.mg x = none) (ha : XA G X (e :: es) ρ rs) (hc : CallOk G X (.type id) rs en) (hv : bootBuiltins x = some (.type id) := by decide +kernel) (hg : Gl X x := by rfl) (hn : x ≠ "__name__" := by decide) (hdb : (x == ("__debug__" : Str)) = false := by decide)
    (he : starEach (e :: es) X.env = (false, eval e X.env) :: starEach es X.env := by rfl) (hpl : (backTo pos (starEach es X.env)).any (·.1) = false := by rfl) : XE G X (.Call (.Name x p) (e :: es) [] pos) ρ en := by
  obtain ⟨t, h1, h2⟩ := ha
  obtain ⟨r, h3, h4⟩ := hc
  exact ⟨_, pe_callTy h3 hg hm hv h1 hn hdb he hpl, fun H0 F0 γ σ H F S Q q => h2 _ _ _ _ _ _ S _ fun vs H1 F1 g z t a => h4 vs H1 F1 z t a Q fun v H2 F2 n => q v H2 F2 (.from g n)⟩
theorem rsAll1 {K : PySem.W.Frag} {vs : List V} {r : Rs} (h : RsAll G K F vs [r]) : ∃ v, vs = [v] ∧ r.At G K F v := by
  cases h with
  | cons a t => cases t; exact ⟨_, rfl, a⟩
theorem rsAll2 {K : PySem.W.Frag} {vs : List V} {r r' : Rs} (h : RsAll G K F vs [r, r']) : ∃ v v', vs = [v, v'] ∧ r.At G K F v ∧ r'.At G K F v' := by
  cases h with
  | cons a t =>
    obtain ⟨v', rfl, a'⟩ := rsAll1 t
    exact ⟨_, v', rfl, a, a'⟩
theorem co_lenL {ds : List PyData} : CallOk G X (.builtin "len") [.dat (.list ds)] (int_ ds.length) := ⟨_, call_len_seq, fun vs H F z t h Q k => by
  obtain ⟨v, rfl, a⟩ := rsAll1 h
  cases a with
  | lst hs ha => exact ⟨_, _, rfl, .inl (SqL.of (z.same _ _ hs)), by rw [dpAll_length ha]; exact k _ H F (.at0 z t (.int _))⟩⟩
theorem co_lenT {ds : List PyData} : CallOk G X (.builtin "len") [.dat (.tuple ds)] (int_ ds.length) := ⟨_, call_len_seq, fun vs H F z t h Q k => by
  obtain ⟨v, rfl, a⟩ := rsAll1 h
  cases a with
  | tup hs ha => exact ⟨_, _, rfl, .inr (SqT.of (z.same _ _ hs)), by rw [dpAll_length ha]; exact k _ H F (.at0 z t (.int _))⟩⟩
theorem co_lenR {ns : List Int} : CallOk G X (.builtin "len") [.scr ns] (int_ ns.length) := ⟨_, call_len_seq, fun vs H F z t h Q k => by
  obtain ⟨v, rfl, l, rfl, hs⟩ := rsAll1 h
  exact ⟨_, _, rfl, .inl (sqL_mono z.same hs), by rw [List.length_map]; exact k _ H F (.at0 z t (.int _))⟩⟩
theorem co_listL {ds : List PyData} : CallOk G X (.type "list") [.dat (.list ds)] (.own ds) := ⟨_, call_list_of, fun vs H F z t h Q k => by
  obtain ⟨v, rfl, a⟩ := rsAll1 h
  cases a with
  | lst hs ha => exact ⟨_, _, rfl, .inl (SqL.of (z.same _ _ hs)), fun l hl => k _ _ _ (.lst z t hl ha)⟩⟩
theorem co_listT {ds : List PyData} : CallOk G X (.type "list") [.dat (.tuple ds)] (.own ds) := ⟨_, call_list_of, fun vs H F z t h Q k => by
  obtain ⟨v, rfl, a⟩ := rsAll1 h
  cases a with
  | tup hs ha => exact ⟨_, _, rfl, .inr (SqT.of (z.same _ _ hs)), fun l hl => k _ _ _ (.lst z t hl ha)⟩⟩
theorem co_tupL {ds : List PyData} : CallOk G X (.type "tuple") [.dat (.list ds)] (tup_ ds) := ⟨_, call_tuple_of, fun vs H F z t h Q k => by
  obtain ⟨v, rfl, a⟩ := rsAll1 h
  cases a with
  | lst hs ha => exact ⟨_, _, rfl, .inl ⟨SqL.of (z.same _ _ hs), fun l hl => k _ _ _ (.tup z t hl ha)⟩⟩⟩
theorem co_tupT {ds : List PyData} : CallOk G X (.type "tuple") [.dat (.tuple ds)] (tup_ ds) := ⟨_, call_tuple_of, fun vs H F z t h Q k => by
  obtain ⟨v, rfl, a⟩ := rsAll1 h
  have a0 := a
  cases a with
  | tup hs ha => exact ⟨_, _, rfl, .inr ⟨SqT.of (z.same _ _ hs), k _ H F (.at0 z t a0)⟩⟩⟩
theorem co_int {i : Int} : CallOk G X (.type "int") [.dat (.int i)] (int_ i) := ⟨_, call_int1, fun vs H F z t h Q k => by
  obtain ⟨v, rfl, a⟩ := rsAll1 h
  cases a
  exact .inl ⟨_, rfl, k _ H F (.at0 z t (.int _))⟩⟩
theorem co_intB {i : Bool} : CallOk G X (.type "int") [.dat (.bool i)] (int_ (if i then 1 else 0)) := ⟨_, call_int1, fun vs H F z t h Q k => by
  obtain ⟨v, rfl, a⟩ := rsAll1 h
  cases a
  exact .inr ⟨_, rfl, k _ H F (.at0 z t (.int _))⟩⟩
theorem co_min {i j : Int} (hc : X.calm = true) : CallOk G X (.builtin "min") [.dat (.int i), .dat (.int j)] (int_ (if j < i then j else i)) := ⟨_, call_min2 hc, fun vs H F z t h Q k => by
  obtain ⟨v, v', rfl, a, a'⟩ := rsAll2 h
  cases a
  cases a'
  exact ⟨_, _, rfl, k _ H F (.at0 z t (.int _))⟩⟩
theorem co_max {i j : Int} (hc : X.calm = true) : CallOk G X (.builtin "max") [.dat (.int i), .dat (.int j)] (int_ (if j > i then j else i)) := ⟨_, call_max2 hc, fun vs H F z t h Q k => by
  obtain ⟨v, v', rfl, a, a'⟩ := rsAll2 h
  cases a
  cases a'
  exact ⟨_, _, rfl, k _ H F (.at0 z t (.int _))⟩⟩
/-! ### fields -/
theorem fld_at {fs : List (Str × V)} {f : Str} {d : PyData} (h : FldD F fs f d) : ∃ u, fs.lookup f = some u ∧ Dt F u d := h
theorem xe_fldM {f : Str} {m : MachD} {d : PyData} (he : XE G X e ρ (.rs (.mach m))) (cl : Cls X.K G.cm) (na : NoAttr X.K G.cm f) (hf : ∀ H fs, FldD H fs "names" m.names → FldD H fs "clocks" m.clocks → FldD H fs "channels" m.channels → FldD H fs "states" m.states → FldD H fs "rules" m.rules → FldD H fs f d)
    (hb : attributeBase e f X.env (eval e X.env) = eval e X.env := by rfl) : XE G X (.Attribute e f pos) ρ (dat_ d) := ⟨_, pe_fld pe_s hb, fun H0 F0 γ σ H F S Q q => he.s S fun v H1 F1 n => by
  obtain ⟨a, dx, fs, rfl, ea, f1, f2, f3, f4, f5⟩ := n.rsAt.ex
  obtain ⟨u, e1, e2⟩ := hf F1 fs f1 f2 f3 f4 f5
  exact ⟨a, G.cm, dx, fs, u, rfl, n.fz.same _ _ ea, cl, na, e1, q _ _ _ (.from n.grow (.at0 n.fz n.tab e2))⟩⟩
theorem xe_program {c : CaseD} (he : XE G X e ρ (.rs (.cas c))) (cl : Cls X.K G.cc) (na : NoAttr X.K G.cc "program") (hb : attributeBase e "program" X.env (eval e X.env) = eval e X.env := by rfl) : XE G X (.Attribute e "program" pos) ρ (.rs (.mach c.program)) := ⟨_, pe_fld pe_s hb, fun H0 F0 γ σ H F S Q q => he.s S fun v H1 F1 n => by
  obtain ⟨a, dx, fs, rfl, ea, ⟨u, e1, e2⟩, f2, f3, f4⟩ := n.rsAt.ex
  exact ⟨a, G.cc, dx, fs, u, rfl, n.fz.same _ _ ea, cl, na, e1, q _ _ _ (.from n.grow (.at0 n.fz n.tab e2))⟩⟩
theorem xe_traffic {c : CaseD} (he : XE G X e ρ (.rs (.cas c))) (cl : Cls X.K G.cc) (na : NoAttr X.K G.cc "traffic") (hb : attributeBase e "traffic" X.env (eval e X.env) = eval e X.env := by rfl) : XE G X (.Attribute e "traffic" pos) ρ (.rs (.mach c.traffic)) := ⟨_, pe_fld pe_s hb, fun H0 F0 γ σ H F S Q q => he.s S fun v H1 F1 n => by
  obtain ⟨a, dx, fs, rfl, ea, f1, f2, ⟨u, e1, e2⟩, f4⟩ := n.rsAt.ex
  exact ⟨a, G.cc, dx, fs, u, rfl, n.fz.same _ _ ea, cl, na, e1, q _ _ _ (.from n.grow (.at0 n.fz n.tab e2))⟩⟩
theorem xe_views {c : CaseD} (he : XE G X e ρ (.rs (.cas c))) (cl : Cls X.K G.cc) (na : NoAttr X.K G.cc "views") (hb : attributeBase e "views" X.env (eval e X.env) = eval e X.env := by rfl) : XE G X (.Attribute e "views" pos) ρ (dat_ c.views) := ⟨_, pe_fld pe_s hb, fun H0 F0 γ σ H F S Q q => he.s S fun v H1 F1 n => by
  obtain ⟨a, dx, fs, rfl, ea, f1, ⟨u, e1, e2⟩, f3, f4⟩ := n.rsAt.ex
  exact ⟨a, G.cc, dx, fs, u, rfl, n.fz.same _ _ ea, cl, na, e1, q _ _ _ (.from n.grow (.at0 n.fz n.tab e2))⟩⟩
theorem xe_quiet {c : CaseD} (he : XE G X e ρ (.rs (.cas c))) (cl : Cls X.K G.cc) (na : NoAttr X.K G.cc "quiet") (hb : attributeBase e "quiet" X.env (eval e X.env) = eval e X.env := by rfl) : XE G X (.Attribute e "quiet" pos) ρ (dat_ c.quiet) := ⟨_, pe_fld pe_s hb, fun H0 F0 γ σ H F S Q q => he.s S fun v H1 F1 n => by
  obtain ⟨a, dx, fs, rfl, ea, f1, f2, f3, ⟨u, e1, e2⟩⟩ := n.rsAt.ex
  exact ⟨a, G.cc, dx, fs, u, rfl, n.fz.same _ _ ea, cl, na, e1, q _ _ _ (.from n.grow (.at0 n.fz n.tab e2))⟩⟩
/-! ### in, chains, += -/
def fl : PyData → Option V
  | .none => some .non
  | .bool b => some (.bl b)
  | .int i => some (.int i)
  | .str s => some (.str s)
  | _ => none
theorem fl_at {d : PyData} {v u : V} (h : Dt F v d) (e : fl d = some u) : v = u := by
  cases h <;> first
    | (cases e; rfl)
    | (simp [fl] at e)
/-- x in t, of flat things -/
theorem fl_all {us : List V} : ∀ {ds : List PyData} {vs : List V}, DtAll F vs ds → ds.map fl = us.map some → vs = us
  | [], _, .nil, e => by cases us with | nil => rfl | cons _ _ => simp at e
  | d :: ds, _, .cons h t, e => by
    cases us with
    | nil => simp at e
    | cons u us =>
      simp only [List.map_cons, List.cons.injEq] at e
      rw [fl_at h e.1]
      have := fl_all (us := us) t e.2
      rw [this]
theorem bin_inT {d : PyData} {ds : List PyData} {u : V} {us : List V} (h1 : fl d = some u) (h2 : ds.map fl = us.map some) (f1 : flatV u = true) (f2 : us.all flatV = true) : BinOk G X (compareOp .In) (.dat d) (.dat (.tuple ds)) (bl_ (inV u us)) := ⟨_, op_in_seq, fun x y H F z t ax ay Q k => by
  cases ay with
  | tup hs ha =>
    rw [fl_at ax h1]
    exact ⟨_, us, rfl, .inr (SqT.of (by rw [← fl_all ha h2]; exact z.same _ _ hs)), f1, f2, k _ H F (.at0 z t (.bl _))⟩⟩
theorem xe_aug (i : Nat) {x : Str} {n m : Int} {pos' : Pos} (h : ρ[i]? = some (some (int_ n)) := by rfl) (he : XE G X e ρ (int_ m)) (hN : X.N.Nodup) (hi : X.N[i]? = some x := by rfl) (hx : Loc X.env.scope x := by first | exact .inl rfl | exact .inr rfl)
    (hf : X.fn x = true ∨ X.env.scope.names.lookup x = some .local := by first | exact .inl rfl | exact .inr rfl) : XS G X Ex (.AugAssign (.Name x pos') .Add e pos) ρ (.nx (ρ.set i (some (int_ (n + m))))) := fun H0 F0 γ σ H F S D q => by
  obtain ⟨v, e1, e2⟩ := S.slot h
  cases e2
  refine ⟨_, ps_aug hN hi hx pe_s ip_add hf, _, e1, he.s S fun w H1 F1 k => ?_⟩
  have d := k.rsAt
  cases d
  exact ⟨n, m, rfl, rfl, q _ _ _ (S.set i (en := int_ (n + m)) (.from k.grow (.at0 k.fz k.tab (.int _))))⟩
theorem xe_chain {op op' : CmpOp} {c : Expr} {ra rb rc : Rs} {k j : Bool} (ha : XE G X a ρ (.rs ra)) (hb : XE G X b ρ (.rs rb)) (hc : XE G X c ρ (.rs rc)) (ho : BinOk G X (compareOp op) ra rb (bl_ k)) (ho' : BinOk G X (compareOp op') rb rc (bl_ j))
    (hm : lastMarks [op, op'] [b, c] = false := by with_unfolding_all rfl) : XE G X (.Compare a [op, op'] [b, c] pos) ρ (bl_ (k && j)) := by
  obtain ⟨r, r1, r2⟩ := ho
  obtain ⟨r', r3, r4⟩ := ho'
  refine ⟨_, pe_chain r1 r3 pe_s pe_s pe_s hm, fun H0 F0 γ σ H F S Q q => ha.s S fun x H1 F1 n1 => hb.s (S.nx n1) fun y H2 F2 n2 => r2 x y H2 F2 n2.fz n2.tab (n1.rsAt.mono (n2.grow.same n1.fz)) n2.rsAt _ fun v H3 F3 n3 => ?_⟩
  have d := n3.rsAt
  cases d
  refine ⟨k, rfl, ?_⟩
  have S3 := ((S.nx n1).nx n2).nx n3
  cases k with
  | false => rw [if_neg Bool.false_ne_true]; exact q _ _ _ (.from (n1.grow.trans n2.grow) n3)
  | true =>
    rw [if_pos rfl]
    exact hc.s S3 fun w H4 F4 n4 => r4 y w H4 F4 n4.fz n4.tab (n2.rsAt.mono ((n3.grow.trans n4.grow).same n2.fz)) n4.rsAt Q fun u H5 F5 n5 => q _ _ _ (.from (((n1.grow.trans n2.grow).trans n3.grow).trans n4.grow) n5)
end
end LC
namespace LC
open PySem PySem.Spec PyProof.Rows L2

/-! ### defs -/
def spD (G : Gd) (K : PySem.W.Frag) (n : Nat) (Φ : List Rs → En → Prop) : Sp := fun vs H Q _ => ∃ F rs en, Fz F H ∧ G.tab H ∧ RsAll G K F vs rs ∧ rs.length = n ∧ Φ rs en ∧ ∀ v H' F', Nx G K H F H' F' v en → Q v H'
/-- the def that stands at the name x keeps Φ -/
structure FnG (G : Gd) (P : Program) (w : World) (K : PySem.W.Frag) (mg : Str → Option Value) (base : Heap) (k : Nat) (x : Str) (n : Nat) (Φ : List Rs → En → Prop) : Prop where
  ex : ∃ f fd ps, FnOk P w K mg base CX0 k f fd ps (spD G K n Φ) ∧ mg x = some (.ref f) ∧ PySem.W.keepIn K (.ref f) = true ∧ Binds K fd ps []
section
variable {G : Gd} {X : Cx} {Ex : Hp → Prop} {ρ ρ1 ρ2 ρ' : Ro} {e a b : Expr} {es : List Expr} {st : Stmt} {sts : List Stmt} {pos : Pos} {H0 F0 H F H' F' : Hp} {γ : Gh} {σ : L2.St} {o : Out} {D : Ends}
theorem xe_call {k n : Nat} {x : Str} {Φ : List Rs → En → Prop} {rs : List Rs} {en : En} {p : Pos} (h : FnG G X.prog X.w X.K X.mg X.base k x n Φ) (hr : Room k X.A) (ha : XA G X (e :: es) ρ rs) (hφ : Φ rs en) (hn : rs.length = n := by rfl) (hg : Gl X x := by rfl) (hdb : (x == ("__debug__" : Str)) = false := by decide)
    (he : starEach (e :: es) X.env = (false, eval e X.env) :: starEach es X.env := by rfl) (hpl : (backTo pos (starEach es X.env)).any (·.1) = false := by rfl) : XE G X (.Call (.Name x p) (e :: es) [] pos) ρ en := by
  obtain ⟨t, h1, h2⟩ := ha
  obtain ⟨f, fd, ps, F, hm, hk, hb⟩ := h.ex
  refine ⟨_, pe_call F hr hg hm hk hb .nil pass0 h1 hdb he hpl, fun H0 F0 γ σ H F S Q q => h2 _ _ _ _ _ _ S _ fun vs H1 F1 g z t a => ?_⟩
  rw [List.append_nil]
  exact ⟨F1, rs, en, z, t, a, hn, hφ, fun v H2 F2 m => q v H2 F2 (.from g m)⟩
theorem xe_call0 {k : Nat} {x : Str} {Φ : List Rs → En → Prop} {en : En} {p : Pos} (h : FnG G X.prog X.w X.K X.mg X.base k x 0 Φ) (hr : Room k X.A) (hφ : Φ [] en) (hg : Gl X x := by rfl) (hdb : (x == ("__debug__" : Str)) = false := by decide) : XE G X (.Call (.Name x p) [] [] pos) ρ en := by
  obtain ⟨f, fd, ps, F, hm, hk, hb⟩ := h.ex
  exact ⟨_, pe_call0 F hr hg hm hk hb .nil pass0 hdb, fun H0 F0 γ σ H F S Q q => ⟨F, [], en, S.fz, S.tab, .nil, rfl, hφ, fun v H2 F2 m => q v H2 F2 m⟩⟩
end
/-- the context of a def's body -/
abbrev bx (P : Program) (w : World) (K : PySem.W.Frag) (mg : Str → Option Value) (base : Heap) (N : List Str) (qual : Str) (scope : Scope) (f : Addr) (cd : Value) (A : Around) (outer : List Env) (s : Shared) (H : Hp) (E : XK) : Cx :=
  (cxOf CX0 P w K mg base N qual scope f cd A outer s H E).nox
/-- the slots at the entry -/
def ro (N : List Str) (rs : List Rs) : Ro := (rs.map fun r => some (.rs r)) ++ List.replicate (N.length - rs.length) none
theorem slots_none {G : Gd} {K : PySem.W.Frag} {F H : Hp} : ∀ n : Nat, SlotsAt G K F H (List.replicate n none) (List.replicate n none) (List.replicate n [])
  | 0 => .nil
  | n + 1 => .skip (slots_none n)
theorem slots_ro {G : Gd} {K : PySem.W.Frag} {F H : Hp} (n : Nat) : ∀ {vs : List V} {rs : List Rs}, RsAll G K F vs rs → SlotsAt G K F H (vs.map some ++ List.replicate n none) ((rs.map fun r => some (En.rs r)) ++ List.replicate n none) (List.replicate (vs.length + n) [])
  | _, _, .nil => by simpa using slots_none n
  | v :: vs, _, .cons a t => by
    have h := slots_ro (H := H) n t
    rw [List.length_cons, Nat.add_right_comm, List.replicate_succ]
    exact .cons ⟨rfl, a⟩ h
theorem sta_ro {G : Gd} {K : PySem.W.Frag} {F H : Hp} {N : List Str} {vs : List V} {rs : List Rs} (z : Fz F H) (t : G.tab H) (a : RsAll G K F vs rs) : Sta G K H F [] (L2.start N vs) H F (ro N rs) := by
  refine ⟨z, .refl _ _, t, (fun _ h => nomatch h), List.replicate (vs.length + (N.length - vs.length)) [], ?_, ?_, ?_⟩
  · unfold L2.start ro
    rw [← a.length]
    exact slots_ro _ a
  · generalize vs.length + (N.length - vs.length) = m
    induction m with
    | zero => simp
    | succ m ih => rw [List.replicate_succ, List.flatten_cons, List.nil_append]; exact ih
  · intro b hb
    generalize vs.length + (N.length - vs.length) = m at hb
    induction m with
    | zero => simp at hb
    | succ m ih => rw [List.replicate_succ, List.flatten_cons, List.nil_append] at hb; exact ih hb
def Ends0 (en : En) (o : Out) : Prop := o = .rt en ∨ ∃ ρ', o = .nx ρ' ∧ en = non_
section
variable {G : Gd} {P : Program} {w : World} {K : PySem.W.Frag} {mg : Str → Option Value} {base : Heap} {x qual : Str} {params : Arguments} {body : List Stmt} {scope : Scope} {kws : List (Str × V)} {f : Addr} {fd : FuncData} {N ps : List Str} {k : Nat} {Φ : List Rs → En → Prop}
theorem fnG_of (F : FunD K x qual params body scope [] kws f fd) (S : FnScope N ps scope) (hm : mg x = some (.ref f)) (hb : ∀ (kV doc pm : Value) (an : Option Addr) (cdv ct : Value) (us : List Value), us.length = ps.length → bindArgs (PySem.W.fnOf x qual params body scope .none kV doc pm an cdv ct) ⟨us, []⟩ = pure (ps.zip us))
    (hbody : ∀ (cdv : Value) (A : Around) (outer : List Env) (s : Shared) (H : Hp) (E : XK), Room k (A.deeper (envOfC qual scope s.heap.objs.size f cdv)) → ∀ rs en, rs.length = ps.length → Φ rs en →
      ∃ o, Ends0 en o ∧ XSs G (bx P w K mg base N qual scope f cdv A outer s H E) (fun _ => False) body (ro N rs) o) : FnG G P w K mg base (k + 1) x ps.length Φ := by
  refine ⟨f, fd, ps, F.ok S (fun vs H Q E ⟨F, rs, en, _, _, a, hl, _⟩ => a.length.trans hl) fun cdv A outer s H vs Q E hr ⟨F1, rs, en, z, t, a, hl, hφ, q⟩ => ?_, hm, F.kp, F.bindsN hb⟩
  obtain ⟨o, ho, hx⟩ := hbody cdv A outer s H E hr rs en hl hφ
  refine ⟨_, (pss_s (X := bx P w K mg base N qual scope f cdv A outer s H E)).nox, hx _ _ _ _ _ _ (sta_ro z t a) _ ?_⟩
  rcases ho with e | ⟨ρ', e, e'⟩
  · subst e
    exact fun v H1 F2 n => q v H1 F2 n
  · subst e e'
    exact fun σ1 H1 F2 S1 => q .non H1 F2 (.from S1.grow (Nx.rs0 (r := Rs.dat .none) S1 Dt.non))
end
end LC
namespace LC
open PySem PySem.Spec PyProof.Rows L2

/-! ### enumerate of a tuple -/
/-- a tuple's iterator at its start -/
abbrev tIt (l : Addr) : Obj := { cls := .type "tuple_iterator", data := .fields #[.ref l, .int 0 0] }
/-- what enumerate makes over the iterator at it -/
abbrev eOb (it : Addr) : Obj := { cls := .type "enumerate", data := .fields #[.none, .bool false, .ref it, rawInt 0, .none, .none] }
/-- the two, one behind the other -/
abbrev eHp (h : Heap) (l : Addr) : Heap := (h.push (tIt l)).push (eOb h.objs.size)
theorem meets_enumerate_newT (l : Addr) (t : Obj) (items : Array Value) (n : Nat) (tc : t.cls = .type "tuple") (td : t.data = .seq items n) :
    Meets (Builtin.«enumerate.__new__» ⟨[.type "enumerate", .ref l], []⟩) (fun _ R s => s.heap.get? l = some t ∧ R (.ok (.ret (.ref (s.heap.push (tIt l)).objs.size))) { s with heap := eHp s.heap l }) := by
  obtain ⟨c, d, dt, sl⟩ := t
  cases tc
  cases td
  refine .of_wp fun prog w A R s q => ?_
  obtain ⟨h, g, dr, tk, os⟩ := s
  obtain ⟨at_, q⟩ := q
  have tup : Heap.IsTuple (Shared.heap ⟨h, g, dr, tk, os⟩) l items := ⟨_, at_, rfl, n, rfl⟩
  have sub := sub_enumerate
  wp_walk using AutoSeq1.wpAny_loadPart' at_
  refine wpAny_stack_any fun _ => wpAny_pure ?_
  split
  case' h_1 =>
    rename_i cl _ _ _ _ _
    cases (cl == Value.type "enumerate")
  all_goals
    wp_walk using AutoSeq1.wpAny_loadPart' at_, wpAny_pyIter_tuple tup
    exact ⟨_, rfl, q⟩
section
variable {prog : Program} {w : World} {A : Around} {E : Value → Shared → Prop} {s : Shared}
theorem eHp_enum (h : Heap) (l : Addr) : IsEnum (eHp h l) (h.objs.size + 1) h.objs.size 0 .none := by
  have q := Heap.get?_push_size (h.push (tIt l)) (o := eOb h.objs.size) rfl
  rwa [Heap.size_push] at q
theorem call_enumerate_tuple {l : Addr} {items : Array Value} {Q : Value → Shared → Prop} (tup : s.heap.IsTuple l items) (q : Q (.ref (s.heap.objs.size + 1)) { s with heap := eHp s.heap l }) : wpAny (model prog w) A (call (.type "enumerate") [.ref l]) Q E s := by
  obtain ⟨t, at_, tc, n, td⟩ := tup
  refine callType_new F.called_enumerate (by decide) (F.typeCall_enumerate_1 _) (F.newCall_enumerate_1 _) (fun obj => F.args_object_init_2 obj _) F.entry_enumerate_new (meets_enumerate_newT l t items n tc td) ⟨at_, ?_⟩
  have sz : (s.heap.push (tIt l)).objs.size = s.heap.objs.size + 1 := Heap.size_push ..
  rw [sz]
  exact ⟨⟨_, eHp_enum _ l, rfl⟩, q⟩
end
/-- where a tuple lies nothing of another class lies -/
theorem other_class {h : Heap} {a b : Addr} {o : Obj} {its : Array Value} (tup : h.IsTuple a its) (at_ : h.get? b = some o) (cl : o.cls ≠ .type "tuple") : a ≠ b := by
  rintro rfl
  obtain ⟨t, e, c, _⟩ := tup
  rw [at_] at e
  cases e
  exact cl c
theorem of_two {φ : Addr → Prop} {u v : Addr} (hu : φ u) (hv : φ v) : ∀ b ∈ [u, v], φ b := fun b m => by
  have m : b = u ∨ b = v := by simpa using m
  exact m.elim (fun q => q ▸ hu) (fun q => q ▸ hv)
def IteT (K : PySem.W.Frag) (a : Addr) : It :=
  ⟨fun i H => ∃ (xs : List V) (x : V), SqT K H a xs ∧ xs[i]? = some x, fun i H v H' => ∃ T x, v = .ref T ∧ H T = none ∧ H' = upd H T (.tup [.int (i : Nat), x]) ∧ ∀ xs, SqT K H a xs → xs[i]? = some x, fun i H => ∃ xs : List V, SqT K H a xs ∧ xs.length ≤ i⟩
/-- the enumerate object at e over the tuple's iterator at it, both at place i -/
def EnAt (a e it : Addr) (i : Nat) (h : Heap) : Prop := (∃ last, IsEnum h e it ((i : Nat) : Int) last) ∧ h.IsTupleIter it a i ∧ e ≠ it
theorem turn_enumT {P : Program} {w : World} {K : PySem.W.Frag} {elts : List Expr} {kk : Nat} {tpos : Pos} (a e it : Addr) : Turn P w K (.Tuple elts kk tpos) (IteT K a) [e, it] e (EnAt a e it) where
  mem := by simp
  self := fun _ _ _ _ _ ⟨⟨_, eo⟩, _⟩ q => wpAny_pyIter_enum eo q
  keep := fun _ _ _ ⟨⟨last, eo⟩, ⟨o, io, more⟩, ne⟩ k => ⟨⟨last, k e (by simp) _ eo⟩, ⟨o, k it (by simp) _ io, more⟩, ne⟩
  obj := by
    rintro i h ⟨⟨last, eo⟩, ⟨o, io, _, dat⟩, _⟩
    exact of_two ⟨_, eo, by intro _ q; cases q⟩ ⟨o, io, by intro _ q; rw [dat] at q; cases q⟩
  item := by
    rintro X rfl rfl rfl hc i pins s σ H E J free ⟨⟨old, eo⟩, io, ne⟩ ⟨xs, x, sq, at_⟩
    obtain ⟨its, vals, tup, _⟩ := J.tuple sq
    obtain ⟨u, ux, rx⟩ := vals.get at_
    have atI : its.toArray[i]? = some u := by simpa using ux
    have inI : i < its.toArray.size := (Array.getElem?_eq_some_iff.mp atI).1
    obtain ⟨o, o1, oc, od⟩ := id io
    have a_it : a ≠ it := other_class tup o1 (by rw [oc]; decide)
    have a_e : a ≠ e := other_class tup eo (fun q => absurd (Value.type.inj q) (by decide))
    have low : ∀ b ∈ [e, it], b < s.heap.objs.size := of_two (Heap.lt_size eo) (Heap.lt_size o1)
    refine wpAny_pyNext_enum_itemD (Draws.tuple (A := X.A.in1) (J.ok.hd hc) it a a_it its.toArray) eo ⟨io, tup⟩ inI ne (by simp [ne, a_e.symm]) fun y h1 tk yx eo1 io1 pair _ kept => ?_
    obtain rfl : y = u := Option.some.inj (yx.symm.trans atI)
    refine ⟨_, rfl, wpAny_letOwnedTupleGo_enum (s := { s with heap := h1, toks := tk + 1 }) eo1 fun h2 eo2 sb => ?_⟩
    have stays : ∀ b u, b ∉ [e, it] → s.heap.get? b = some u → h2.get? b = some u := fun b u far q => by
      have far : b ≠ e ∧ b ≠ it := by simpa using far
      exact (sb.2 b far.1).trans (kept b u far.1 far.2 q)
    have two : (2 : Nat) ≤ sizeLine := by decide
    have pair2 := (sb.2 s.heap.objs.size (Nat.ne_of_gt (low e (by simp)))).trans pair
    have J2 := J.turnedNew (t' := tk + 1) stays free (Nat.le_refl _) (ob := .tup [.int (i : Nat), x]) ⟨two, [.int i tk, y], .cons ⟨_, rfl⟩ (.cons rx .nil), _, pair2, rfl, _, rfl⟩
    refine ⟨.ref s.heap.objs.size, _, J2, rfl, ⟨_, x, rfl, J.hok.fresh (Nat.le_refl _), rfl, fun ys sq' => J.tuple_inj sq' sq ▸ at_⟩, ⟨⟨y, ?_⟩, ?_, ne⟩, fun b mem => ?_⟩
    · rw [Int.natCast_succ]
      exact eo2
    · obtain ⟨o', q, more⟩ := io1.1
      exact ⟨o', (sb.2 it ne.symm).trans q, more⟩
    · rw [upd_ne (Nat.ne_of_lt (low b mem))]
      exact (free b mem).1
  done := by
    rintro X rfl rfl rfl hc i pins s σ H E J free ⟨⟨old, eo⟩, io, _⟩ ⟨xs, sq, short⟩
    obtain ⟨its, vals, tup, _⟩ := J.tuple sq
    have past : its.toArray.size ≤ i := by simpa using vals.length ▸ short
    have ty : s.TypeIs (.ref e) "enumerate" := ⟨_, eo, rfl⟩
    obtain ⟨f0, f1, f2, f3, f4, f5⟩ := free it (List.mem_cons_of_mem _ (List.mem_singleton.mpr rfl))
    unfold pyNext
    refine wpAny_bind (wpAny_attempt (wpAny_callSpecial?_slot (name := Str.ofString "__next__") ty F.slot_enumerate_next (wpAny_call_entry F.slot_enumerate_next ty F.entry_enumerate_next ?_ (F.args_enumerate_next_1 _))))
    show wpAny _ _ ((field (.ref e) 2) >>= _) _ _ _
    refine wpAny_bind (wpAny_field eo rfl (x := .ref it) rfl (wpAny_bind (PySem.wpAny_nextOf_tuple_end (J.ok.hd hc) io tup (Array.getElem?_eq_none past) fun h2 x kept ⟨o, ox, oc⟩ => wpAny_bind (wpAny_isInstance (T := "StopIteration") (b := true) ⟨o, ox, oc⟩ isSubtype_stop (wpAny_pure ⟨rfl, J.turned (t' := s.toks) kept f0 f1 f3 f4 f5⟩)))))
def iEnumT (K : PySem.W.Frag) (ta : TA) : TI := fun σ H R => ta σ H fun vs H1 => ∃ a xs, vs = [.ref a] ∧ SqT K H1 a xs ∧ R (IteT K a) H1
theorem pi_enumT {X : Cx} {e : Expr} {ta : TA} {p pos tpos : Pos} {elts : List Expr} {kk : Nat} (hg : Gl X "enumerate") (hm : X.mg "enumerate" = none) (ha : PA X [e] ta) (hs : starEach [e] X.env = [(false, eval e X.env)] := by rfl) :
    PI X (.Tuple elts kk tpos) (.Call (.Name "enumerate" p) [e] [] pos) (iEnumT X.K ta) where
  run pins s σ H R I h := by
    refine Call_ (ld_blt I hg hm boot_enumerate (PyProof.Rows.callWith_type1 (thn (ha.run pos pins s σ H _ I h) ?_) hs rfl))
    rintro _ t ⟨_, H1, J, rel, a, xs, rfl, sq, q⟩
    obtain _ | ⟨⟨⟩, ⟨⟩⟩ := rel
    obtain ⟨its, _, tup, _⟩ := J.tuple sq
    have en := eHp_enum t.heap a
    have grow : ∀ b o, t.heap.get? b = some o → (eHp t.heap a).get? b = some o := fun b o x => Heap.get?_push_of_some _ (Heap.get?_push_of_some _ x)
    have two : ∀ b ∈ [t.heap.objs.size + 1, t.heap.objs.size], t.heap.objs.size ≤ b := of_two (Nat.le_succ _) (Nat.le_refl _)
    exact call_enumerate_tuple tup (wpAny_pyIter_enum en ⟨t.heap.objs.size + 1, [t.heap.objs.size + 1, t.heap.objs.size], _, _, H1, rfl, J.kept (t' := t.toks) grow, turn_enumT a _ t.heap.objs.size,
      ⟨⟨.none, en⟩, ⟨tIt a, Heap.get?_push_of_some _ (Heap.get?_push_size _ rfl), rfl, rfl⟩, Nat.succ_ne_self _⟩, fun b mem => J.fpOk (two b mem) (J.hok.fresh (two b mem)), q⟩)
section
variable {G : Gd} {X : Cx} {Ex : Hp → Prop} {ρ ρ1 ρ2 ρ' : Ro} {e a b : Expr} {es : List Expr} {st : Stmt} {sts : List Stmt} {pos : Pos} {H0 F0 H F H' F' : Hp} {γ : Gh} {σ : L2.St} {o : Out} {D : Ends}
def enumD (ds : List PyData) : List Rs := (List.range ds.length).map fun (i : Nat) => Rs.dat (.tuple [.int (i : Int), ds.getD i .none])
theorem xi_enum {ds : List PyData} {elts : List Expr} {kk : Nat} {tpos p : Pos} (he : XE G X e ρ (tup_ ds)) (hm : X.mg "enumerate" = none) (hg : Gl X "enumerate" := by rfl) (hs : starEach [e] X.env = [(false, eval e X.env)] := by rfl) (hs1 : starEach [e] X.env = (false, eval e X.env) :: starEach [] X.env := by rfl) :
    XI G X (.Tuple elts kk tpos) (.Call (.Name "enumerate" p) [e] [] pos) ρ (enumD ds) := ⟨_, pi_enumT hg hm (pa_cons pe_s pa_nil hs1) hs, fun H0 F0 γ σ H F S R q => he.s S fun v H1 F1 n => by
  have a := n.rsAt
  have a0 := a
  cases a with
  | @tup l xs _ hs ha =>
    refine ⟨l, xs, rfl, SqT.of (n.fz.same _ _ hs), q _ _ F1 [(.ref l, .dat (.tuple ds))] n.grow n.fz n.tab (fun p hp => by rw [List.mem_singleton.mp hp]; exact a0) ⟨fun i r H F hr z t hg => ?_, fun H F z hg => ?_⟩⟩
    · have b : Dt F (.ref l) (.tuple ds) := hg (V.ref l, Rs.dat (.tuple ds)) (by simp)
      cases b with
      | tup hs' ha' =>
        unfold enumD at hr
        rw [List.getElem?_map] at hr
        by_cases hi : i < ds.length
        · rw [List.getElem?_range hi] at hr
          cases hr
          have hd : ds[i]? = some (ds.getD i .none) := by rw [List.getD_eq_getElem?_getD, List.getElem?_eq_getElem hi]; rfl
          obtain ⟨w, hw, rw'⟩ := dpAll_getD ha' hd
          refine ⟨⟨_, w, SqT.of (z.same _ _ hs'), hw⟩, fun x H' ⟨T, y, e1, e2, e3, e4⟩ => ?_⟩
          have e5 := e4 _ (SqT.of (z.same _ _ hs'))
          rw [hw] at e5
          cases e5
          subst e1 e3
          exact ⟨_, .tup z t e2 (.cons (.int _) (.cons rw' .nil))⟩
        · rw [List.getElem?_eq_none (by simpa using hi)] at hr
          cases hr
    · have b : Dt F (.ref l) (.tuple ds) := hg (V.ref l, Rs.dat (.tuple ds)) (by simp)
      cases b with
      | tup hs' ha' => exact ⟨_, SqT.of (z.same _ _ hs'), by unfold enumD; rw [dpAll_length ha', List.length_map, List.length_range]; exact Nat.le_refl _⟩⟩
/-- zip of two tuples -/
theorem xi_zip {ds es' : List PyData} {elts : List Expr} {kk : Nat} {tpos p : Pos} (ha : XE G X a ρ (tup_ ds)) (hb : XE G X b ρ (tup_ es')) (hm : X.mg "zip" = none) (hg : Gl X "zip" := by rfl)
    (hs : starEach [a, b] X.env = (false, eval a X.env) :: starEach [b] X.env := by rfl) (hs2 : starEach [b] X.env = (false, eval b X.env) :: starEach [] X.env := by rfl) (hpl : (backTo pos (starEach [b] X.env)).any (·.1) = false := by rfl) :
    XI G X (.Tuple elts kk tpos) (.Call (.Name "zip" p) [a, b] [] pos) ρ ((ds.zip es').map fun q => Rs.dat (.tuple [q.1, q.2])) := ⟨_, RZ.pi_zipA hg hm (pa_cons pe_s (pa_cons pe_s pa_nil hs2) hs) hs hpl, fun H0 F0 γ σ H F S R q => ha.s S fun v H1 F1 n => hb.s (S.nx n) fun u H2 F2 m => by
  have a0 := (n.rsAt).mono (m.grow.same n.fz)
  have b0 := m.rsAt
  have a1 := a0
  have b1 := b0
  cases a0 with
  | @tup l xs _ hs ha =>
    cases b0 with
    | @tup l' ys _ hs' ha' =>
      refine ⟨l, l', xs, ys, rfl, .inr ⟨SqT.of (m.fz.same _ _ hs), SqT.of (m.fz.same _ _ hs'), q _ _ F2 [(.ref l, .dat (.tuple ds)), (.ref l', .dat (.tuple es'))] (n.grow.trans m.grow) m.fz m.tab (fun p hp => ?_) ⟨fun i r H F hr z t hg => ?_, fun H F z hg => ?_⟩⟩⟩
      · rcases List.mem_cons.mp hp with e | hp
        · rw [e]; exact a1
        · rw [List.mem_singleton.mp hp]; exact b1
      · have c : Dt F (.ref l) (.tuple ds) := hg (V.ref l, Rs.dat (.tuple ds)) (by simp)
        have d : Dt F (.ref l') (.tuple es') := hg (V.ref l', Rs.dat (.tuple es')) (by simp)
        cases c with
        | tup c1 c2 =>
          cases d with
          | tup d1 d2 =>
            rw [List.getElem?_map] at hr
            cases hq : (ds.zip es')[i]? with
            | none => rw [hq] at hr; cases hr
            | some pq =>
              rw [hq] at hr
              cases hr
              obtain ⟨q1, q2⟩ := List.getElem?_zip_eq_some.mp hq
              obtain ⟨x, hx, rx⟩ := dpAll_getD c2 q1
              obtain ⟨y, hy, ry⟩ := dpAll_getD d2 q2
              refine ⟨⟨_, _, x, y, SqT.of (z.same _ _ c1), SqT.of (z.same _ _ d1), hx, hy⟩, fun w H' ⟨T, x', y', e1, e2, e3, e4, e5⟩ => ?_⟩
              have f4 := e4 _ (SqT.of (z.same _ _ c1))
              have f5 := e5 _ (SqT.of (z.same _ _ d1))
              rw [hx] at f4
              rw [hy] at f5
              cases f4
              cases f5
              subst e1 e3
              exact ⟨_, .tup z t e2 (.cons rx (.cons ry .nil))⟩
      · have c : Dt F (.ref l) (.tuple ds) := hg (V.ref l, Rs.dat (.tuple ds)) (by simp)
        have d : Dt F (.ref l') (.tuple es') := hg (V.ref l', Rs.dat (.tuple es')) (by simp)
        cases c with
        | tup c1 c2 =>
          cases d with
          | tup d1 d2 =>
            refine ⟨_, _, SqT.of (z.same _ _ c1), SqT.of (z.same _ _ d1), ?_⟩
            rw [dpAll_length c2, dpAll_length d2, List.length_map, List.length_zip]
            omega⟩
/-! ### list.count -/
def rCntV (K : PySem.W.Frag) : V → List V → Hp → VK → Prop := fun x xs H Q => ∃ (p : Addr) (ys : List V) (y : V), x = .ref p ∧ xs = [y] ∧ SqL K H p ys ∧ flatV y = true ∧ ys.all flatV = true ∧ Q (.int (ys.countP (fun z => eqV z y) : Nat)) H
theorem count_eqU {x : V} : ∀ {xs : List V} {us : List Value}, Vals xs us → xs.all flatV = true → us.countP (eqU x) = xs.countP fun y => eqV y x
  | _, _, .nil, _ => rfl
  | _, _, .cons r t, f => by
    obtain ⟨f1, f2⟩ := He.ba (show (flatV _ && List.all _ flatV) = true from f)
    rw [List.countP_cons, List.countP_cons, count_eqU t f2, eqU_of r f1]
theorem mt_countV : MtM X "list.count" (rCntV X.K) := by
  rintro pins s σ H _ _ v _ Q J self args ⟨p, ys, y, rfl, rfl, sq, flat, flats, q⟩
  cases self
  obtain ⟨u, rfl, ru⟩ := args.one
  obtain ⟨its, vals, ⟨o, n, at_, cl, nd, dat⟩, _⟩ := J.list sq
  obtain ⟨_, dd, _, sl⟩ := o
  cases cl
  cases dat
  refine call_meets PySem.F.slot_list_count ⟨_, at_, rfl⟩ PySem.F.entry_list_count (PySem.F.args_list_count_2 _ _) (SeqAt.list_countAt p its.toArray n dd sl u (eqU y)) ⟨at_, fun z mem => mem_eqAt ru flat vals flats z (by simpa using mem), .int (ys.countP (fun z => eqV z y) : Nat), H, J.tok _, ⟨s.toks, ?_⟩, q⟩
  have same : its.toArray.toList.countP (eqU y) = ys.countP fun z => eqV z y := count_eqU vals flats
  exact same ▸ rfl
theorem flat_strs : ∀ l : List Str, (l.map V.str).all flatV = true
  | [] => rfl
  | _ :: l => flat_strs l
theorem eqV_str (a b : Str) : eqV (.str a) (.str b) = decide (a = b) := by
  first
    | rfl
    | (unfold eqV; simp)
theorem count_strs (s : Str) : ∀ l : List Str, (l.map V.str).countP (fun z => eqV z (.str s)) = l.count s
  | [] => rfl
  | a :: l => by
    rw [List.map_cons, List.countP_cons, count_strs s l, List.count_cons, eqV_str]
    by_cases h : a = s
    · simp [h]
    · simp [h]
theorem dt_strs {F : Hp} : ∀ {l : List Str} {vs : List V}, DtAll F vs (l.map PyData.str) → vs = l.map V.str
  | [], _, .nil => rfl
  | a :: l, _, .cons h t => by
    cases h
    rw [dt_strs t]
    rfl
/-- xs.count(s), texts -/
theorem xe_count {l : List Str} {s : Str} {pa : Pos} (ha : XE G X a ρ (lst_ (l.map PyData.str))) (he : XE G X e ρ (str_ s))
    (hbase : attributeBase a ("count" : Str) X.env (eval a X.env) = eval a X.env := by rfl)
    (hfew : ((backTo pos (starEach [e] X.env)).all (fun x => !x.1) && (backToKw pos (keywordEach [] X.env)).all (fun x => x.1.isSome)
      && decide ([e].length + ([] : List Keyword).length + (if ([] : List Keyword).isEmpty then 0 else 1) < 30)) = true := by rfl)
    (hline : (pa.endLine == pos.line) = true := by rfl) (hst : starEach [e] X.env = (false, eval e X.env) :: starEach [] X.env := by rfl) (hplain : (backTo pos (starEach [] X.env)).any (·.1) = false := by rfl) :
    XE G X (.Call (.Attribute a "count" pa) [e] [] pos) ρ (int_ (l.count s)) := ⟨_, pe_bm PySem.F.plainAttrs_list PySem.F.slot_list_count PySem.F.type_list_count mt_countV pe_s (pa_cons pe_s pa_nil hst) hbase hfew hline hst hplain, fun H0 F0 γ σ H F S Q q => ha.s S fun v H1 F1 n => by
  have d := n.rsAt
  cases d with
  | lst hs hd =>
    have ev := dt_strs hd
    subst ev
    refine ⟨.inl ⟨rfl, _, SqL.of (n.fz.same _ _ hs)⟩, he.s (S.nx n) fun u H2 F2 m => ?_⟩
    have d2 := m.rsAt
    cases d2
    refine ⟨_, _, _, rfl, rfl, SqL.of ((m.fz.same _ _ ((m.grow.same n.fz) _ _ hs))), rfl, flat_strs l, ?_⟩
    rw [count_strs]
    exact q _ _ _ (.from (n.grow.trans m.grow) (.at0 m.fz m.tab (.int _)))⟩
/-! ### sorted, of texts -/
/-- a new list of the same texts, in order -/
def Sorted_ (xs : List Str) (H : Hp) (Q : VK) : Prop := ∀ (ys : List Str) (p : Addr), ys.Perm xs → sortedS ys = true → H p = none → Q (.ref p) (upd H p (.lst (ys.map .str)))
def rSrtS (K : PySem.W.Frag) : List V → Hp → VK → Prop := fun vs H Q => ∃ (a : Addr) (xs : List Str), vs = [V.ref a] ∧ SqL K H a (xs.map V.str) ∧ Sorted_ xs H Q
theorem cr_srtS : CallR X (.builtin "sorted") (rSrtS X.K) := by
  rintro pins s σ H _ us Q J rel ⟨a, xs, rfl, sq, q⟩
  obtain rfl := Vals.ref1 rel
  obtain ⟨its, vals, lst, few⟩ := J.list sq
  have count := vals.length
  rw [List.length_map] at count few
  refine sorted_strsAny lst.isList vals.strs (count ▸ few) fun out ys texts perm inOrder => ?_
  obtain ⟨ep, new⟩ := PyProof.Rows.sortedAll_at s.heap its out
  have past := Nat.le_succ s.heap.objs.size
  have few' : (ys.map V.str).length ≤ sizeLine := by simpa [perm.length_eq] using few
  exact ⟨.ref _, _, J.laid (t' := s.toks) (o := .lst (ys.map .str)) (fun _ _ => PyProof.Rows.sortedAll_old) past ⟨few', out.toList, ep, vals_of_strs texts, new⟩, rfl, q ys _ perm inOrder (J.hok.fresh past)⟩
end
end LC
namespace LC
open PySem PySem.Spec PyProof.Rows L2

/-! ### any, all of a generator expression over a tuple -/
/-- the element as a test of the item at i: it reads the heap, and keeps it -/
def EltQ (X : Cx) (s1 : Shared) (P : Addr) (scope : Scope) (x : Str) (elt : Expr) (its : List Value) (pb : Nat → Bool) : Prop :=
  ∀ (cenv : Env) (A' : Around) (E' : Value → Shared → Prop) (i : Nat) (u : Value) (s₂ : Shared) (m₂ : Str → Option Value), cenv.scope = scope → cenv.globals = X.env.globals → cenv.cells = cloFrom X.env.cells scope.names [] → A'.handled = none → A'.depth ≤ X.A.depth + 1 → A'.units ≤ X.A.units + 8 →
    its[i]? = some u → s₂.heap.Ns cenv.locals m₂ → m₂ x = some u → (∀ b o, b ≠ P → s1.heap.get? b = some o → s₂.heap.get? b = some o) →
    wpAny (model X.prog X.w) A' (eval elt cenv) (fun y s₃ => y = .bool (pb i) ∧ Keeps s₂ s₃) E' s₂
/-- the expression (elt for x in iter) -/
abbrev genOf (elt : Expr) (x : Str) (px : Pos) (iter : Expr) (scope : Scope) (gpos : Pos) : Expr := .GeneratorExp elt [⟨.Name x px, iter, [], 0⟩] scope gpos
/-- it stands alone in a call, without a star -/
abbrev LoneArg (X : Cx) (g : Expr) : Prop := starEach [g] X.env = (false, eval g X.env) :: starEach [] X.env
/-- the code object found or made: the table P grew at its end, all else stayed -/
structure Coded (P : Addr) (ps : Array Value) (h0 h1 : Heap) : Prop where
  rest : Heap.ExtBut P h0 h1
  grew : h0.objs.size ≤ h1.objs.size
  row : ∃ ext, h1.get? P = some { cls := .none, data := .fields (ps ++ ext) } ∧ TriplesOk (ps ++ ext).toList
theorem coded_any {M : Program} {w : World} {A : Around} {E : Value → Shared → Prop} {t : Shared} {env : Env} {c P : Addr} {ps : Array Value} {pos : Pos} {qn : Str} {scope : Scope} {Q : Value → Shared → Prop}
    (cc : env.code = .ref c) (cd : PySem.W.CodeHd t.heap c P) (at_ : t.heap.get? P = some { cls := .none, data := .fields ps }) (ok : TriplesOk ps.toList)
    (out : ∀ code h tk, Coded P ps t.heap h → Q code { t with heap := h, toks := tk }) : wpAny (model M w) A (genexprCode env pos qn scope) Q E t := by
  have known := cd.code at_ ok
  rcases found : codeAmong pos ps.toList with _ | cv
  · refine wpAny_genexprCodeX cc known (cd.tab at_) found fun _ h tk ext lo hi is _ tab _ => out _ h tk ⟨ext, by omega, _, tab.2, ?_⟩
    unfold Heap.IsCode at is
    obtain ⟨_, _, _, _, _, _, _, _, _, _, _, _, _, _, _, _, _, _, _, good, _⟩ := is
    exact good
  · exact wpAny_genexprCode_hit cc known found (out cv t.heap t.toks ⟨Heap.ExtBut.refl _ _, Nat.le_refl _, #[], by simpa using at_, by simpa using ok⟩)
/-- a tuple's iterator as it is made -/
abbrev itOf (a : Addr) : Obj := { cls := .type "tuple_iterator", data := .fields #[.ref a, .int 0 0] }
theorem itOf_at {hp : Heap} {a : Addr} {its : Array Value} (tup : hp.IsTuple a its) : (hp.push (itOf a)).IsTupleIter hp.objs.size a 0 ∧ (hp.push (itOf a)).IsTuple a its := by
  obtain ⟨t, at_, more⟩ := tup
  exact ⟨⟨itOf a, Heap.get?_push_size _ rfl, rfl, rfl⟩, t, Heap.get?_push_of_some _ at_, more⟩
theorem both {φ : Addr → Prop} {u v : Addr} (hu : φ u) (hv : φ v) : ∀ b ∈ [u, v], φ b := fun b m => by
  have m : b = u ∨ b = v := by simpa using m
  exact m.elim (fun q => q ▸ hu) (fun q => q ▸ hv)
theorem truth_range {prog : Program} {w : World} {A : Around} {n : Nat} {pb : Nat → Bool} : TruthOf prog w A (fun j y => ∃ i, (List.range n)[j]? = some i ∧ y = .bool (pb i)) pb := by
  intro j y t Qt Et said goal
  obtain ⟨i, at_, rfl⟩ := said
  have same : i = j := by
    have := List.getElem?_eq_some_iff.mp at_
    obtain ⟨_, q⟩ := this
    simpa using q.symm
  exact wpAny_truthy_bool (same ▸ goal)
section
variable {X : Cx} {pins : List (Addr × Obj)} {σ : L2.St} {H : Hp} {s : Shared}
/-- a generator that answers pb at each of n items; behind its run the table P may have grown -/
def ReadyT (X : Cx) (pins : List (Addr × Obj)) (σ : L2.St) (H1 : Hp) (P : Addr) (n : Nat) (pb : Nat → Bool) (g : Addr) (s5 : Shared) : Prop :=
  ∃ (foot mine : List Addr) (Γ : Array GenState → Array GenState → Prop) (Item : Nat → Value → Prop) (At : Nat → Shared → Prop),
    WalksS X.prog X.w X.A.in1 g foot mine Γ n Item At ∧ At 0 s5 ∧ TruthOf X.prog X.w X.A.in1 Item pb ∧
    ∀ t, Moved mine Γ s5 t → ∃ H2, GxR.Tabbed P H1 H2 ∧ Inv X pins σ H2 t
theorem gen_tup {c P : Addr} {elt iter : Expr} {x : Str} {px gpos : Pos} {scope : Scope} {te : TE} {k : Nat} {Q' : Value → Shared → Prop} {R : List V → (Nat → Bool) → Hp → Prop}
    (hr : Room k X.A) (TB : GxR.TabB X.base X.mg c P) (hcode : X.env.code = .ref c) (S : GxR.GenS X.env scope x) (hi : PE X iter te)
    (hs : ∀ v, genFold iter X.env v = pure v) (I : Inv X pins σ H s)
    (h : te σ H fun v H1 => ∃ (a : Addr) (xs : List V) (pb : Nat → Bool), v = .ref a ∧ SqT X.K H1 a xs ∧ GxR.TabG H1 P ∧ (∀ pins s1 its, Inv X pins σ H1 s1 → Vals xs its → EltQ X s1 P scope x elt its pb) ∧ R xs pb H1)
    (hQ : ∀ xs pb H1 g s5, R xs pb H1 → ReadyT X pins σ H1 P xs.length pb g s5 → Q' (.ref g) s5) :
    wpAny (model X.prog X.w) X.A (eval (genOf elt x px iter scope gpos) X.env) Q' X.xe s := by
  refine wpAny_GeneratorExp_walksQD hr.hd S.co (closure_ok S.free) S.cell S.dot S.loc S.kind (by have := hr.dp; omega) (thn (hi.run pins s σ H _ I h) ?_) hs
  rintro _ t ⟨_, H1, J, rv0, a, xs, pb, rfl, sq, ⟨ps, tabAt, tabOk⟩, test, said⟩
  cases rv0
  obtain ⟨its, rv, tup, _⟩ := J.tuple sq
  have count : its.toArray.size = xs.length := by simpa using rv.length.symm
  have inP := J.hok P _ tabAt
  have ltP := Heap.lt_size inP
  have aP : a ≠ P := fun q => by
    obtain ⟨o, at_, cl, _⟩ := tup
    rw [q] at at_
    cases (at_.symm.trans inP : some o = some _)
    cases cl
  have statics : cStatics ≠ P ∧ cStatics < t.heap.objs.size := by
    obtain ⟨_, st, _⟩ := J.nolimit
    refine ⟨fun q => ?_, st.lt⟩
    obtain ⟨o, _, _, at_, dat, _⟩ := st
    rw [q] at at_
    cases (at_.symm.trans inP : some o = some _)
    cases dat
  have walk : ∀ A' : Around, A'.handled = none → Walks X.prog X.w A' t.heap.objs.size [t.heap.objs.size, a] [t.heap.objs.size] its.toArray.size _ _ := fun _ free => Walks.tuple free _ a (Nat.ne_of_lt tup.lt) its.toArray
  refine wpAny_pyIter_tuple tup ⟨J.nolimit.push _, coded_any hcode (TB.code.keeps fun b u e => Heap.get?_push_of_some _ (J.bk b u e)) (Heap.get?_push_of_some _ inP) tabOk fun code h3 tk made => ?_⟩
  obtain ⟨ext, row, rowOk⟩ := made.row
  have wide : t.heap.objs.size < h3.objs.size := by
    have := made.grew
    rw [Heap.size_push] at this
    exact this
  have stay : ∀ b u, b ≠ P → t.heap.get? b = some u → h3.get? b = some u := fun b u ne e => made.rest b u ne (Heap.get?_push_of_some _ e)
  have glob := ((J.mod.glob.keeps J.bk).push (itOf a)).extBut made.rest TB.gP
  obtain ⟨bm, ob, b1, b2, b3, b4, b5, b6, b7, b8⟩ := TB.bm
  refine wpAny_builtinsFor (m := X.mg) (J.ok.glob ▸ glob) b1 b2 (stay _ _ b4 (J.bk _ _ b5)) b6 b7 b8 ⟨_, _, _, _, _, _, fun _ => true, fun i y => y = .bool (pb i), rfl, walk, ?st, both wide (Nat.lt_trans tup.lt wide), (J.nolimit.push _).extBut made.rest statics.1, fun q => Nat.ne_of_lt statics.2 (List.mem_singleton.mp q), fun href old => ⟨fun _ _ _ _ _ _ _ _ _ _ _ _ _ => ?no, fun A' E' i v s₂ m₂ free dep uni item _ ns bound keep => ?yes⟩, ?out⟩
  case st => exact (walk X.A hr.hd).frame _ _ _ (itOf_at tup) fun b mem u e => made.rest b u (both (φ := (· ≠ P)) (Nat.ne_of_gt ltP) aP b mem) e
  case no => simpa only [List.forIn_nil] using wpAny_pure ⟨rfl, GxR.keeps_refl _⟩
  case yes =>
    refine test pins t its J rv _ A' E' i v s₂ m₂ rfl rfl rfl free dep uni (by simpa using item) ns bound fun b u ne e => ?_
    have low := Heap.lt_size e
    exact keep b (List.mem_range.mpr (show b < h3.objs.size from Nat.lt_trans low wide)) (fun q => Nat.ne_of_lt low (List.mem_singleton.mp q)) u (old b u (stay b u ne e))
  case out =>
    intro g h5 tk5 gs bare _ _ over run start
    simp only [GxR.passing_true, List.length_range] at run
    rw [count] at run start
    refine hQ xs pb H1 g _ said ⟨_, _, _, _, _, run.in4_1, start, truth_range, fun t' moved => ?_⟩
    have alien : ∀ b u, t.heap.get? b = some u → b ∉ h3.objs.size :: [t.heap.objs.size] := fun b u e mem => by
      have low : b < t.heap.objs.size := Heap.lt_size e
      have mem : b = h3.objs.size ∨ b = t.heap.objs.size := by simpa using mem
      exact mem.elim (Nat.ne_of_lt (Nat.lt_trans low wide)) (Nat.ne_of_lt low)
    have K := GxR.inv_tab (more := ext) (h' := t'.heap) (g' := t'.gens) (d' := t'.drawn) (t' := t'.toks) J tabAt (fun b u ne e => moved.heap b u (alien b u e) (over b u (stay b u ne e))) (moved.heap P _ (alien P _ inP) (over P _ row)) (AllBare.movedS (J.bare.push bare) moved)
    exact ⟨upd H1 P (.tbl (ps ++ ext)), ⟨⟨_, upd_same, rowOk⟩, fun _ ne => upd_ne ne⟩, by rwa [GxR.sh_eta t t' moved.os] at K⟩
/-- what the generator's call reads; f: any or all of a list's tests -/
def tGen (f : (Nat → Bool) → List Nat → Bool) (P : Addr) (scope : Scope) (x : Str) (elt : Expr) (X : Cx) (te : TE) : TE := fun σ H Q => te σ H fun v H1 => ∃ (a : Addr) (xs : List V) (pb : Nat → Bool), v = .ref a ∧ SqT X.K H1 a xs ∧ GxR.TabG H1 P ∧ (∀ pins s1 its, Inv X pins σ H1 s1 → Vals xs its → EltQ X s1 P scope x elt its pb) ∧ ∀ H2, GxR.Tabbed P H1 H2 → Q (.bl (f pb (List.range xs.length))) H2
/-- a built-in that asks a generator alone -/
theorem pe_gen {nm : Str} {id : String} {f : (Nat → Bool) → List Nat → Bool} {c P : Addr} {elt iter : Expr} {x : Str} {px p pos gpos : Pos} {scope : Scope} {te : TE} {k : Nat}
    (boot : bootBuiltins nm = some (.builtin id)) (n1 : nm ≠ "__name__") (n2 : (nm == "__debug__") = false)
    (asks : ∀ (g : Addr) (t : Shared) (n : Nat) (pb : Nat → Bool) (pins : List (Addr × Obj)) (σ : L2.St) (H1 : Hp) (Q : VK), ReadyT X pins σ H1 P n pb g t → (∀ H2, GxR.Tabbed P H1 H2 → Q (.bl (f pb (List.range n))) H2) →
      wpAny (model X.prog X.w) X.A (call (.builtin id) [.ref g]) (EP X pins σ Q) X.xe t)
    (hr : Room k X.A) (hg : Gl X nm) (hm : X.mg nm = none) (TB : GxR.TabB X.base X.mg c P) (hcode : X.env.code = .ref c) (S : GxR.GenS X.env scope x) (hi : PE X iter te) (hs : ∀ v, genFold iter X.env v = pure v)
    (plain : LoneArg X (genOf elt x px iter scope gpos)) : PE X (.Call (.Name nm p) [genOf elt x px iter scope gpos] [] pos) (tGen f P scope x elt X te) where
  run pins s σ H Q I h := by
    refine wpAny_Call_Name_kw (ld_blt (hn := n1) (hd := n2) I hg hm boot (PyProof.Rows.callWith_builtin1 ?_ plain (by rfl)))
    rw [plain]
    exact Calls.spliced_cons (gen_tup hr TB hcode S hi hs I h fun _ pb H1 g t said ready => Calls.spliced_nil (asks g t _ pb pins σ H1 Q ready said))
theorem asks_any {P : Addr} (g : Addr) (t : Shared) (n : Nat) (pb : Nat → Bool) (pins : List (Addr × Obj)) (σ : L2.St) (H1 : Hp) (Q : VK) (ready : ReadyT X pins σ H1 P n pb g t) (q : ∀ H2, GxR.Tabbed P H1 H2 → Q (.bl ((List.range n).any pb)) H2) :
    wpAny (model X.prog X.w) X.A (call (.builtin "any") [.ref g]) (EP X pins σ Q) X.xe t := by
  obtain ⟨foot, mine, Γ, Item, At, walk, at0, tests, back⟩ := ready
  refine call_any_walkS (walk.self 0 _ _ _ at0 ⟨g, foot, mine, Γ, n, Item, At, pb, rfl, walk, at0, tests, fun t' moved => ?_⟩)
  have ⟨H2, grown, J⟩ := back t' moved
  exact ⟨.bl _, H2, J, rfl, q H2 grown⟩
theorem asks_all {P : Addr} (g : Addr) (t : Shared) (n : Nat) (pb : Nat → Bool) (pins : List (Addr × Obj)) (σ : L2.St) (H1 : Hp) (Q : VK) (ready : ReadyT X pins σ H1 P n pb g t) (q : ∀ H2, GxR.Tabbed P H1 H2 → Q (.bl ((List.range n).all pb)) H2) :
    wpAny (model X.prog X.w) X.A (call (.builtin "all") [.ref g]) (EP X pins σ Q) X.xe t := by
  obtain ⟨foot, mine, Γ, Item, At, walk, at0, tests, back⟩ := ready
  refine call_all_walkS (walk.self 0 _ _ _ at0 ⟨g, foot, mine, Γ, n, Item, At, pb, rfl, walk, at0, tests, fun t' moved => ?_⟩)
  have ⟨H2, grown, J⟩ := back t' moved
  exact ⟨.bl _, H2, J, rfl, q H2 grown⟩
end

/-! ### by value -/
section
variable {G : Gd} {X : Cx} {ρ : Ro} {P c : Addr} {elt iter : Expr} {x : Str} {px p pos gpos : Pos} {scope : Scope} {k : Nat} {ds : List PyData} {pb : Nat → Bool}
structure TabH (G : Gd) (P : Addr) : Prop where
  is : ∀ H, G.tab H → GxR.TabG H P
  go : ∀ H H', G.tab H → GxR.Tabbed P H H' → G.tab H'
theorem tabbed_grow {H F H2 : Hp} (z : Fz F H) (hP : GxR.TabG H P) (t : GxR.Tabbed P H H2) : Grow H F H2 F ∧ Fz F H2 := by
  obtain ⟨ps, hP, _⟩ := hP
  have ne : ∀ b o, H b = some o → NoTbl o → b ≠ P := fun b o e n h => by
    rw [h, hP] at e
    exact n ps (Option.some.inj e).symm
  refine ⟨⟨fun b o e n => by rw [t.2 b (ne b o e n)]; exact e, fun b e => ?_, fun b _ => rfl⟩, fun b o e => ?_⟩
  · by_cases hb : b = P
    · obtain ⟨ps', h', _⟩ := t.1
      rw [hb, h'] at e
      cases e
    · rw [t.2 b hb] at e
      exact e
  · obtain ⟨e1, n⟩ := z b o e
    exact ⟨by rw [t.2 b (ne b o e1 n)]; exact e1, n⟩
/-- the element, by value -/
def EltD (G : Gd) (X : Cx) (ρ : Ro) (P : Addr) (scope : Scope) (x : Str) (elt : Expr) (ds : List PyData) (pb : Nat → Bool) : Prop :=
  ∀ H0 F0 γ σ H F pins s its vs, Sta G X.K H0 F0 γ σ H F ρ → L2.Inv X pins σ H s → DtAll F vs ds → Vals vs its → EltQ X s P scope x elt its pb
theorem xe_any (hr : Room k X.A) (TH : TabH G P) (TB : GxR.TabB X.base X.mg c P) (hcode : X.env.code = .ref c) (S : GxR.GenS X.env scope x) (hm : X.mg "any" = none) (hi : XE G X iter ρ (tup_ ds)) (hel : EltD G X ρ P scope x elt ds pb) (hg : Gl X "any" := by rfl)
    (hs : ∀ v, genFold iter X.env v = pure v := by intro _; rfl)
    (plain : LoneArg X (genOf elt x px iter scope gpos) := by rfl) :
    XE G X (.Call (.Name "any" p) [genOf elt x px iter scope gpos] [] pos) ρ (bl_ ((List.range ds.length).any pb)) :=
  ⟨_, pe_gen (f := fun g l => l.any g) boot_any (by decide) (by decide) asks_any hr hg hm TB hcode S pe_s hs plain, fun H0 F0 γ σ H F S' Q q => hi.s S' fun v H1 F1 n => by
    have S1 := S'.nx n
    have d := n.rsAt
    cases d with
    | @tup a vs _ hs' ha =>
      refine ⟨a, vs, pb, rfl, SqT.of (n.fz.same _ _ hs'), TH.is _ n.tab, fun pins s1 its I1 rv => hel _ _ _ _ _ _ _ _ _ _ S1 I1 ha rv, fun H2 hT => ?_⟩
      rw [dpAll_length ha]
      obtain ⟨g, z⟩ := tabbed_grow n.fz (TH.is _ n.tab) hT
      exact q _ _ F1 (.from n.grow (.rs z g (TH.go _ _ n.tab hT) (.bl _)))⟩
theorem xe_all (hr : Room k X.A) (TH : TabH G P) (TB : GxR.TabB X.base X.mg c P) (hcode : X.env.code = .ref c) (S : GxR.GenS X.env scope x) (hm : X.mg "all" = none) (hi : XE G X iter ρ (tup_ ds)) (hel : EltD G X ρ P scope x elt ds pb) (hg : Gl X "all" := by rfl)
    (hs : ∀ v, genFold iter X.env v = pure v := by intro _; rfl)
    (plain : LoneArg X (genOf elt x px iter scope gpos) := by rfl) :
    XE G X (.Call (.Name "all" p) [genOf elt x px iter scope gpos] [] pos) ρ (bl_ ((List.range ds.length).all pb)) :=
  ⟨_, pe_gen (f := fun g l => l.all g) (show bootBuiltins "all" = some (.builtin "all") by decide +kernel) (by decide) (by decide) asks_all hr hg hm TB hcode S pe_s hs plain, fun H0 F0 γ σ H F S' Q q => hi.s S' fun v H1 F1 n => by
    have S1 := S'.nx n
    have d := n.rsAt
    cases d with
    | @tup a vs _ hs' ha =>
      refine ⟨a, vs, pb, rfl, SqT.of (n.fz.same _ _ hs'), TH.is _ n.tab, fun pins s1 its I1 rv => hel _ _ _ _ _ _ _ _ _ _ S1 I1 ha rv, fun H2 hT => ?_⟩
      rw [dpAll_length ha]
      obtain ⟨g, z⟩ := tabbed_grow n.fz (TH.is _ n.tab) hT
      exact q _ _ F1 (.from n.grow (.rs z g (TH.go _ _ n.tab hT) (.bl _)))⟩
end
end LC
namespace LC
open PySem PySem.Spec PyProof.Rows L2

def nn : PyData → Bool
  | .none => false
  | _ => true
def nnT (n : Nat) : PyData → Bool
  | .tuple es => nn (es.getD n .none)
  | _ => true
def dSt (l : List Str) : List PyData := l.map PyData.str
/-! ### what stands while a generator runs -/
structure Kp (X : Cx) (s1 : Shared) (H : Hp) (P : Addr) (s₂ : Shared) : Prop where
  tab : GxR.TabG H P
  kp : ∀ b o, b ≠ P → s1.heap.get? b = some o → s₂.heap.get? b = some o
section
variable {X : Cx} {pins : List (Addr × Obj)} {σ : L2.St} {H : Hp} {s1 s₂ : Shared} {P : Addr}
theorem Kp.obj (k : Kp X s1 H P s₂) (I : L2.Inv X pins σ H s1) {b : Addr} {o : Obj} (e : s1.heap.get? b = some o) (n : o.cls ≠ .none) : s₂.heap.get? b = some o := by
  obtain ⟨ps, hP, _⟩ := k.tab
  refine k.kp b o (fun z => ?_) e
  have q : s1.heap.get? P = some { cls := .none, data := .fields ps } := I.hok P _ hP
  rw [z, q] at e
  cases e
  exact n rfl
theorem Kp.base (k : Kp X s1 H P s₂) (I : L2.Inv X pins σ H s1) : ∀ b o, X.base.get? b = some o → s₂.heap.get? b = some o := fun b o e => by
  obtain ⟨ps, hP, _⟩ := k.tab
  obtain ⟨e1, e2⟩ := I.bs b o e
  exact k.kp b o (fun z => by rw [z, hP] at e2; cases e2) e1
theorem Kp.tup (k : Kp X s1 H P s₂) (I : L2.Inv X pins σ H s1) {a : Addr} {its : Array Value} (h : s1.heap.IsTuple a its) : s₂.heap.IsTuple a its := by
  obtain ⟨o, e, c, d⟩ := h
  exact ⟨o, k.obj I e (by rw [c]; exact fun z => nomatch z), c, d⟩
theorem Kp.glob (k : Kp X s1 H P s₂) (I : L2.Inv X pins σ H s1) : s₂.heap.Ns X.env.globals X.mg := by
  rw [I.ok.glob]
  exact I.mod.glob.keeps (k.base I)
mutual
theorem reads_kept {h h' : Heap} (k : ∀ b o, o.cls ≠ .none → h.get? b = some o → h'.get? b = some o) : ∀ (d : PyData) (v : Value) (as : List Addr), Reads h v d as → Reads h' v d as
  | .none, _, _, r => by cases r; exact .none
  | .bool b, _, _, r => by cases r; exact .bool b
  | .int i, _, _, r => by cases r; exact .int i _
  | .str x, _, _, r => by cases r; exact .str x _
  | .list ds, _, _, r => by
    cases r with
    | list e c d ra => exact .list (k _ _ (by rw [c]; exact fun z => nomatch z) e) c d (readsAll_kept k ds _ _ ra)
  | .tuple ds, _, _, r => by
    cases r with
    | tuple e c d ra => exact .tuple (k _ _ (by rw [c]; exact fun z => nomatch z) e) c d (readsAll_kept k ds _ _ ra)
  | .dict kvs, _, _, r => by
    cases r with
    | dict e c d ra rb => exact .dict (k _ _ (by rw [c]; exact fun z => nomatch z) e) c d (readsKeys_kept k kvs _ _ ra) (readsVals_kept k kvs _ _ rb)
theorem readsAll_kept {h h' : Heap} (k : ∀ b o, o.cls ≠ .none → h.get? b = some o → h'.get? b = some o) : ∀ (ds : List PyData) (vs : List Value) (as : List Addr), ReadsAll h vs ds as → ReadsAll h' vs ds as
  | [], _, _, r => by cases r; exact .nil
  | d :: ds, _, _, r => by
    cases r with
    | cons ra rb => exact .cons (reads_kept k d _ _ ra) (readsAll_kept k ds _ _ rb)
theorem readsKeys_kept {h h' : Heap} (k : ∀ b o, o.cls ≠ .none → h.get? b = some o → h'.get? b = some o) : ∀ (kvs : List (PyData × PyData)) (vs : List Value) (as : List Addr), ReadsAll h vs (kvs.map (·.1)) as → ReadsAll h' vs (kvs.map (·.1)) as
  | [], _, _, r => by cases r; exact .nil
  | p :: kvs, _, _, r => by
    cases r with
    | cons ra rb => exact .cons (reads_kept k p.1 _ _ ra) (readsKeys_kept k kvs _ _ rb)
theorem readsVals_kept {h h' : Heap} (k : ∀ b o, o.cls ≠ .none → h.get? b = some o → h'.get? b = some o) : ∀ (kvs : List (PyData × PyData)) (vs : List Value) (as : List Addr), ReadsAll h vs (kvs.map (·.2)) as → ReadsAll h' vs (kvs.map (·.2)) as
  | [], _, _, r => by cases r; exact .nil
  | p :: kvs, _, _, r => by
    cases r with
    | cons ra rb => exact .cons (reads_kept k p.2 _ _ ra) (readsVals_kept k kvs _ _ rb)
end
theorem item_at {F : Hp} {vs : List V} {ds : List PyData} {its : List Value} {i : Nat} {u : Value} (a : DtAll F vs ds) (r : Vals vs its) (e : its[i]? = some u) : ∃ v d, vs[i]? = some v ∧ ds[i]? = some d ∧ Dt F v d ∧ RelV v u := by
  have hi : i < its.length := (List.getElem?_eq_some_iff.mp e).1
  have hv : i < vs.length := by rw [r.length]; exact hi
  obtain ⟨d, h1, h2⟩ := dpAll_get a (List.getElem?_eq_getElem hv)
  obtain ⟨u', h3, h4⟩ := r.get (List.getElem?_eq_getElem hv)
  rw [e] at h3
  cases h3
  exact ⟨_, d, List.getElem?_eq_getElem hv, h1, h2, h4⟩
theorem keeps_push (s : Shared) (o : Obj) : Keeps s { s with heap := s.heap.push o } := ⟨_, s.toks, rfl, fun _ _ e => Heap.get?_push_of_some _ e⟩
theorem Keeps.tr {a b c : Shared} (h : Keeps a b) (h' : Keeps b c) : Keeps a c := by
  obtain ⟨h1, t1, e1, k1⟩ := h
  obtain ⟨h2, t2, e2, k2⟩ := h'
  subst e1
  exact ⟨h2, t2, e2, fun b o e => k2 b o (k1 b o e)⟩
end
section
variable {G : Gd} {X : Cx} {ρ : Ro} {P : Addr} {scope : Scope} {x : Str} {ds : List PyData}
/-- pair != ((), ()) -/
theorem elt_nonempty {p1 p2 p3 p4 p5 : Pos} {k1 k2 k3 : Nat} (TH : TabH G P) (hu : X.A.units + 100 < cLine) (hk : scope.kind = .function) (hl : scope.names.lookup x = some .local) (hs : ∀ d ∈ ds, SeqAt.shaped d = true) (hd : (x == ("__debug__" : Str)) = false := by decide) :
    EltD G X ρ P scope x (.Compare (.Name x p1) [.NotEq] [.Tuple [.Tuple [] k1 p2, .Tuple [] k2 p3] k3 p4] p5) ds (fun i => !PyData.eqv (ds.getD i .none) (.tuple [.tuple [], .tuple []])) := by
  intro H0 F0 γ σ H F pins s its vs S I a r cenv A' E' i u s₂ m₂ c1 c2 c3 hA hdp hun hi hn hm hkp
  have K : Kp X s H P s₂ := ⟨TH.is _ S.tab, hkp⟩
  obtain ⟨v, d, e1, e2, e3, e4⟩ := item_at a r hi
  refine wpAny_Compare1 (wpAny_Name (wpAny_loadName_local (by rw [c1]; exact hk) (show cenv.scope.names.lookup x = some .local by rw [c1]; exact hl) hn hm ?_) hd) (nomark _)
  refine wpAny_Tuple_spliced ?_
  show wpAny _ _ (spliced ((false, eval (.Tuple [] k1 p2) cenv) :: [(false, eval (.Tuple [] k2 p3) cenv)])) _ _ s₂
  refine Calls.spliced_cons (wpAny_Tuple_spliced (Calls.spliced_nil ⟨by decide, ?_⟩))
  refine Calls.spliced_cons (wpAny_Tuple_spliced (Calls.spliced_nil ⟨by decide, ?_⟩))
  refine Calls.spliced_nil ⟨by show 2 ≤ sizeLine; decide, ?_⟩
  generalize hA1 : ({ cls := .type "tuple", data := .seq ([] : List Value).toArray } : Obj) = o1
  have q1 : (s₂.heap.push o1).get? s₂.heap.objs.size = some o1 := Heap.get?_push_size _ (by rw [← hA1]; rfl)
  have q1' : ((s₂.heap.push o1).push o1).get? s₂.heap.objs.size = some o1 := Heap.get?_push_of_some _ q1
  have q2 : ((s₂.heap.push o1).push o1).get? (s₂.heap.push o1).objs.size = some o1 := Heap.get?_push_size _ (by rw [← hA1]; rfl)
  obtain ⟨as, r1⟩ := Dp.reads I d v u (Dt.dp S.fz.same d v e3) e4
  have kk : ∀ b o, o.cls ≠ .none → s.heap.get? b = some o → (((s₂.heap.push o1).push o1).push { cls := .type "tuple", data := .seq [Value.ref s₂.heap.objs.size, Value.ref (s₂.heap.push o1).objs.size].toArray }).get? b = some o :=
    fun b o n e => Heap.get?_push_of_some _ (Heap.get?_push_of_some _ (Heap.get?_push_of_some _ (K.obj I e n)))
  have hR : ∀ (b : Addr) (hh : Heap), hh.get? b = some o1 → Reads hh (.ref b) (.tuple []) [] := fun b hh e => Reads.tuple e (by rw [← hA1]) (by rw [← hA1]) .nil
  have r2 : Reads (((s₂.heap.push o1).push o1).push { cls := .type "tuple", data := .seq [Value.ref s₂.heap.objs.size, Value.ref (s₂.heap.push o1).objs.size].toArray }) (.ref ((s₂.heap.push o1).push o1).objs.size) (.tuple [.tuple [], .tuple []]) ([] ++ ([] ++ [])) :=
    Reads.tuple (Heap.get?_push_size _ rfl) rfl rfl (.cons (hR _ _ (Heap.get?_push_of_some _ q1')) (.cons (hR _ _ (Heap.get?_push_of_some _ q2)) .nil))
  refine SeqAt.compareNe_shaped (reads_kept kk d u as r1) r2 (hs d (List.mem_of_getElem? e2)) rfl (by omega) ⟨?_, ?_⟩
  · show Value.bool (!PyData.eqv d _) = Value.bool (!PyData.eqv (ds.getD i .none) _)
    rw [List.getD_eq_getElem?_getD, e2]
    rfl
  · exact ⟨_, s₂.toks, rfl, fun b o e => Heap.get?_push_of_some _ (Heap.get?_push_of_some _ (Heap.get?_push_of_some _ e))⟩
/-- rule[n] is not None -/
theorem elt_notNone {p1 p2 p3 p4 p5 : Pos} {n : Nat} {j1 j2 : Nat} (TH : TabH G P) (hk : scope.kind = .function) (hl : scope.names.lookup x = some .local) (hs : ∀ d ∈ ds, ∃ es e, d = .tuple es ∧ es[n]? = some e) (h63 : (n : Int) < 2 ^ 62) (hd : (x == ("__debug__" : Str)) = false := by decide) :
    EltD G X ρ P scope x (.Compare (.Subscript (.Name x p1) (.Constant (.int n) j1 p2) p3) [.IsNot] [.Constant .none j2 p4] p5) ds (fun i => nnT n (ds.getD i .none)) := by
  intro H0 F0 γ σ H F pins s its vs S I a r cenv A' E' i u s₂ m₂ c1 c2 c3 hA hdp hun hi hn hm hkp
  have K : Kp X s H P s₂ := ⟨TH.is _ S.tab, hkp⟩
  obtain ⟨v, d, e1, e2, e3, e4⟩ := item_at a r hi
  obtain ⟨es, e, rfl, he⟩ := hs d (List.mem_of_getElem? e2)
  cases e3 with
  | @tup t xs _ ht hds =>
    cases e4
    obtain ⟨its2, rv2, p, _⟩ := I.tuple (SqT.of (S.fz.same _ _ ht))
    obtain ⟨w, hw, dw⟩ := dpAll_getD hds he
    obtain ⟨z, hz, rz⟩ := rv2.get hw
    have hlen : n < its2.length := (List.getElem?_eq_some_iff.mp hz).1
    refine wpAny_Compare1 (Subscript_ (wpAny_Name (wpAny_loadName_local (by rw [c1]; exact hk) (show cenv.scope.names.lookup x = some .local by rw [c1]; exact hl) hn hm ?_) hd)) (nomark _)
    refine wpAny_Constant_int ?_
    refine item_tuple (items := its2.toArray) (j := n) (x := z) (K.tup I p) (by omega) (by omega) ?_ (by simpa using hz) ?_
    · rw [List.size_toArray]
      exact PySem.StrLaws.seqIndex_nonneg (by omega) (by omega)
    · refine Constant_none ?_
      refine isnot_none_gen ⟨?_, GxR.keeps_tok _ _⟩
      show Value.bool (!(z == Value.none)) = Value.bool (nnT n (ds.getD i .none))
      rw [List.getD_eq_getElem?_getD, e2]
      show Value.bool _ = Value.bool (nn (es.getD n .none))
      rw [List.getD_eq_getElem?_getD, he]
      show Value.bool _ = Value.bool (nn e)
      cases dw <;> first
        | (cases rz; rfl)
        | (obtain ⟨tt, rfl⟩ := rz; rfl)
/-- x in VIEWS -/
theorem elt_inViews {p1 p2 p3 : Pos} {gv : Str} {av : Addr} {us : List Str} {l : List Str} (TH : TabH G P) (hk : scope.kind = .function) (hl : scope.names.lookup x = some .local) (hg : scope.names.lookup gv = some .globalImplicit) (hmg : X.mg gv = some (.ref av)) (hK : ∀ H, SqT X.K H av (us.map V.str))
    (hds : ds = dSt l) (hdv : (gv == ("__debug__" : Str)) = false := by decide) (hd : (x == ("__debug__" : Str)) = false := by decide) (hmk : behindInMarks .In (.Name gv p2) = false := by rfl) :
    EltD G X ρ P scope x (.Compare (.Name x p1) [.In] [.Name gv p2] p3) ds (fun i => us.contains (l.getD i "")) := by
  intro H0 F0 γ σ H F pins s its vs S I a r cenv A' E' i u s₂ m₂ c1 c2 c3 hA hdp hun hi hn hm hkp
  have K : Kp X s H P s₂ := ⟨TH.is _ S.tab, hkp⟩
  obtain ⟨v, d, e1, e2, e3, e4⟩ := item_at a r hi
  subst hds
  unfold dSt at e2
  rw [List.getElem?_map] at e2
  cases hl2 : l[i]? with
  | none => rw [hl2] at e2; cases e2
  | some y =>
    rw [hl2] at e2
    cases e2
    cases e3
    refine wpAny_Compare1 (wpAny_Name (wpAny_loadName_local (by rw [c1]; exact hk) (show cenv.scope.names.lookup x = some .local by rw [c1]; exact hl) hn hm ?_) hd) hmk
    refine Calls.Name_function_global (by rw [c1]; exact hk) (show cenv.scope.names.lookup gv = some .globalImplicit by rw [c1]; exact hg) (Calls.loadGlobal_global (by rw [c2]; exact K.glob I) hmg ?_) hdv
    obtain ⟨its2, rv2, p, _⟩ := I.tuple (hK H)
    refine SeqAt.in_tupleAt (eqU (.str y)) (K.tup I p) (fun w hw => mem_eqAt e4 rfl rv2 (flat_strs us) w (by simpa using hw)) ⟨?_, GxR.keeps_refl _⟩
    show Value.bool _ = Value.bool (us.contains (l.getD i ""))
    rw [show its2.toArray.any (eqU (.str y)) = its2.any (eqU (.str y)) by simp, any_eqU rv2 (flat_strs us), List.getD_eq_getElem?_getD, hl2]
    show Value.bool ((us.map V.str).any fun z => eqV z (.str y)) = Value.bool (us.contains y)
    congr 1
    rw [List.any_map, List.contains_eq_any_beq]
    congr 1
    funext z
    show eqV (.str z) (.str y) = (y == z)
    rw [eqV_str]
    by_cases h : z = y
    · simp [h]
    · simp [h, Ne.symm h]
end
end LC
namespace LC
open PySem PySem.Spec PyProof.Rows L2

/-! ### the program's data, and what its defs compute -/
structure Rl where
  st : Int
  item : Str
  tgt : Option Int
  conds : List (Int × Str × Int)
  resets : List Int
  sigs : List (Int × Str)
structure Mc where
  names : List Str
  clocks : List Str
  chans : List (Str × List Str)
  states : List Str
  rules : List Rl
structure Cs where
  prog : Mc
  views : List Str
  traf : Mc
  quiet : Int
abbrev Cf := Int × List Int
abbrev Df := List Str × List Str
structure Sc where
  snd : Option Cf
  wait : List Str
  phase : Int
  a : Cf
  b : Cf
  ds : List Df
inductive Ev where
  | stopped
  | tick
  | sent (n : Str)
abbrev dI (l : List Int) : List PyData := l.map PyData.int
abbrev dS (l : List Str) : List PyData := l.map PyData.str
def eO : Option Int → PyData
  | none => .none
  | some i => .int i
abbrev eC (c : Int × Str × Int) : PyData := .tuple [.int c.1, .str c.2.1, .int c.2.2]
abbrev eG (c : Int × Str) : PyData := .tuple [.int c.1, .str c.2]
abbrev eR (r : Rl) : PyData := .tuple [.int r.st, .str r.item, eO r.tgt, .tuple (r.conds.map eC), .tuple (dI r.resets), .tuple (r.sigs.map eG)]
abbrev eH (c : Str × List Str) : PyData := .tuple [.str c.1, .tuple (dS c.2)]
abbrev eM (m : Mc) : MachD := ⟨.tuple (dS m.names), .tuple (dS m.clocks), .tuple (m.chans.map eH), .tuple (dS m.states), .tuple (m.rules.map eR)⟩
/-- the parts as the law's defs make them -/
abbrev eP (m : Mc) : PyData := .list [.tuple (dS m.names), .tuple (dS m.clocks), .tuple (m.chans.map eH), .tuple (dS m.states), .tuple (m.rules.map eR)]
abbrev eK (c : Cs) : CaseD := ⟨eM c.prog, .tuple (dS c.views), eM c.traf, .int c.quiet⟩
abbrev eF (c : Cf) : PyData := .tuple [.int c.1, .tuple (dI c.2)]
def eFo : Option Cf → PyData
  | none => .none
  | some c => eF c
abbrev eD (d : Df) : PyData := .tuple [.tuple (dS d.1), .tuple (dS d.2)]
abbrev eQ (w : List Str) (p : Int) : PyData := .tuple [.tuple (dS w), .int p]
abbrev eSc (s : Sc) : PyData := .tuple [eFo s.snd, eQ s.wait s.phase, eF s.a, eF s.b, .tuple (s.ds.map eD)]
def eSo : Option Sc → PyData
  | none => .none
  | some s => eSc s
def eE : Ev → PyData
  | .stopped => .tuple [.str "stopped"]
  | .tick => .tuple [.str "tick"]
  | .sent n => .tuple [.str "sent", .str n]
abbrev TICK : Str := "tick"
/-! what is asked of a machine -/
structure Mc.Ok (m : Mc) : Prop where
  nc : m.clocks.length ≤ 1000
  nh : m.chans.length ≤ 1000
  nr : m.rules.length ≤ 1000
  cl : ∀ r ∈ m.rules, ∀ c ∈ r.conds, 0 ≤ c.1 ∧ c.1 < m.clocks.length
  ns : ∀ r ∈ m.rules, r.sigs.length ≤ 8
  nt : ∀ r ∈ m.rules, r.resets.length ≤ 8
  nk : ∀ c ∈ m.chans, c.2.length ≤ 8
  rs : ∀ r ∈ m.rules, ∀ k ∈ r.resets, 0 ≤ k ∧ k < m.clocks.length
  si : ∀ r ∈ m.rules, ∀ x ∈ r.sigs, 0 ≤ x.1 ∧ x.1 < m.chans.length
  so : ∀ r ∈ m.rules, ∀ x ∈ r.sigs, PyData.strOk x.2 = true
  co : ∀ c ∈ m.chans, ∀ x ∈ c.2, PyData.strOk x = true
  no : ∀ x ∈ m.names, PyData.strOk x = true
  nl : m.names.length ≤ 1000
/-- caps -/
def capC (res : List Int) (c : Int × Str × Int) : List Int := res.set c.1.toNat (if c.2.2 > res.getD c.1.toNat 0 then c.2.2 else res.getD c.1.toNat 0)
def capsF (m : Mc) : List Int := m.rules.foldl (fun res r => r.conds.foldl capC res) (m.clocks.map fun _ => 0)
def startF (m : Mc) : Cf := (0, m.clocks.map fun _ => 0)
def holdsF (cl : List Int) (c : Int × Str × Int) : Bool := if c.2.1 = ("under" : Str) then decide (cl.getD c.1.toNat 0 < c.2.2) else decide (c.2.2 ≤ cl.getD c.1.toNat 0)
def tickC (cl caps : List Int) : List Int := (cl.zip caps).map fun p => if p.2 < p.1 + 1 then p.2 else p.1 + 1
def clocksF (m : Mc) (cl : List Int) (item : Str) : List Int := if item = TICK then tickC cl (capsF m) else cl
def ruleIs (st : Int) (cl : List Int) (item : Str) (r : Rl) : Bool := decide (r.st = st) && decide (r.item = item) && r.conds.all (holdsF cl)
def ruleF (m : Mc) (st : Int) (cl : List Int) (item : Str) : Option Rl := m.rules.find? (ruleIs st cl item)
def eRo : Option Rl → PyData
  | none => .none
  | some r => eR r
def forbidsF (m : Mc) (c : Cf) (item : Str) : Bool := match ruleF m c.1 (clocksF m c.2 item) item with
  | none => false
  | some r => r.tgt.isNone
def resetC (cl : List Int) (rs : List Int) : List Int := (List.range cl.length).map fun (k : Nat) => if (k : Int) ∈ rs then 0 else cl.getD k 0
def stepF (m : Mc) (c : Cf) (item : Str) : Cf × List (Int × Str) := match ruleF m c.1 (clocksF m c.2 item) item with
  | none => ((c.1, clocksF m c.2 item), [])
  | some r => match r.tgt with
    | none => ((c.1, clocksF m c.2 item), [])
    | some t => ((t, resetC (clocksF m c.2 item) r.resets), r.sigs)
def Cf.Ok (m : Mc) (c : Cf) : Prop := c.2.length = m.clocks.length
theorem capC_length (res : List Int) (c : Int × Str × Int) : (capC res c).length = res.length := List.length_set
theorem capCs_length : ∀ (cs : List (Int × Str × Int)) (res : List Int), (cs.foldl capC res).length = res.length
  | [], _ => rfl
  | c :: cs, res => (capCs_length cs _).trans (capC_length res c)
theorem capRs_length : ∀ (rs : List Rl) (res : List Int), (rs.foldl (fun res r => r.conds.foldl capC res) res).length = res.length
  | [], _ => rfl
  | r :: rs, res => (capRs_length rs _).trans (capCs_length r.conds res)
theorem capsF_length (m : Mc) : (capsF m).length = m.clocks.length := (capRs_length m.rules _).trans (List.length_map _)
theorem clocksF_length {m : Mc} {cl : List Int} (h : cl.length = m.clocks.length) (item : Str) : (clocksF m cl item).length = m.clocks.length := by
  unfold clocksF
  split
  · unfold tickC
    rw [List.length_map, List.length_zip, capsF_length, h, Nat.min_self]
  · exact h
theorem resetC_length (cl rs : List Int) : (resetC cl rs).length = cl.length := by
  unfold resetC
  rw [List.length_map, List.length_range]
theorem ruleF_mem {m : Mc} {st : Int} {cl : List Int} {item : Str} {r : Rl} (h : ruleF m st cl item = some r) : r ∈ m.rules := List.mem_of_find?_eq_some h
theorem stepF_ok {m : Mc} {c : Cf} (h : c.Ok m) (item : Str) : (stepF m c item).1.Ok m := by
  unfold stepF
  have hl := clocksF_length (m := m) h item
  split
  · exact hl
  · split
    · exact hl
    · exact (resetC_length _ _).trans hl
theorem stepF_sigs {m : Mc} (M : m.Ok) (c : Cf) (item : Str) : (stepF m c item).2.length ≤ 8 := by
  unfold stepF
  split
  · exact Nat.zero_le _
  · rename_i r hr
    split
    · exact Nat.zero_le _
    · exact M.ns _ (ruleF_mem hr)
/-- in_excess .. -/
def excessF (sg a b : List Str) : List Str := sg.flatMap fun s => List.replicate ((a.count s : Int) - (b.count s : Int)).toNat s
def lcp : List Str → List Str → Nat
  | x :: xs, y :: ys => if x = y then lcp xs ys + 1 else 0
  | _, _ => 0
def diffF (view : Str) (sg a b : List Str) : Df := if view = ("ignored" : Str) then ([], []) else if view = ("unordered" : Str) then (excessF sg a b, excessF sg b a) else (a.drop (lcp a b), b.drop (lcp a b))
def extF (view : Str) (sg : List Str) (p : Df) (a b : List Str) : Df := diffF view sg (p.1 ++ a) (p.2 ++ b)
def sigsOf (k : Int) (l : List (Int × Str)) : List Str := (l.filter fun s => decide (s.1 = k)).map (·.2)
def extDs (c : Cs) (ds : List Df) (sa sb : List (Int × Str)) : List Df := (List.range ds.length).map fun (k : Nat) => extF (c.views.getD k "") (c.prog.chans.getD k ("", [])).2 (ds.getD k ([], [])) (sigsOf k sa) (sigsOf k sb)
def runF (m : Mc) : Cf → List Str → Cf × List (Int × Str)
  | c, [] => (c, [])
  | c, i :: is => ((runF m (stepF m c i).1 is).1, (stepF m c i).2 ++ (runF m (stepF m c i).1 is).2)
def heardF (c : Cs) (s : Sc) (si ri : List Str) : Sc := { s with a := (runF c.prog s.a si).1, b := (runF c.prog s.b ri).1, ds := extDs c s.ds (runF c.prog s.a si).2 (runF c.prog s.b ri).2 }
def maySendF (c : Cs) (snd : Option Cf) (item : Str) : Bool := match snd with
  | none => false
  | some cf => !forbidsF c.traf cf item
def quietL (c : Cs) : List Str := List.replicate c.quiet.toNat TICK
def harmF (c : Cs) (s : Sc) : Bool := (heardF c s (quietL c) (quietL c)).ds.any fun d => !decide (d = ([], []))
def firstF (c : Cs) : Sc := ⟨some (startF c.traf), [], 0, startF c.prog, startF c.prog, c.views.map fun _ => ([], [])⟩
def polledF (w : List Str) (ph per off : Int) : List Str × List Str × Int := if (ph + 1) % per = off then (w ++ [TICK], [], (ph + 1) % per) else ([TICK], w, (ph + 1) % per)
def stopF (s : Sc) : List (Ev × Option Sc) := match s.snd with
  | none => []
  | some _ => [(.stopped, some { s with snd := none })]
def behindF (c : Cs) (snd : Option Cf) (item : Str) : Option Cf := match snd with
  | none => none
  | some cf => some (stepF c.traf cf item).1
def tickF (c : Cs) (per off : Int) (s : Sc) : List (Ev × Option Sc) :=
  if maySendF c s.snd TICK || (s.snd.isNone && !s.wait.isEmpty) then
    [(.tick, some (heardF c { s with snd := behindF c s.snd TICK, wait := (polledF s.wait s.phase per off).2.1, phase := (polledF s.wait s.phase per off).2.2 } [TICK] (polledF s.wait s.phase per off).1))]
  else []
def sendF (c : Cs) (s : Sc) (n : Str) : List (Ev × Option Sc) :=
  if maySendF c s.snd n then [(.sent n, if s.wait.length < 6 then some (heardF c { s with snd := behindF c s.snd n, wait := s.wait ++ [n] } [n] []) else none)] else []
def followF (c : Cs) (per off : Int) (s : Sc) : List (Ev × Option Sc) := stopF s ++ tickF c per off s ++ c.prog.names.flatMap (sendF c s)
def endF (c : Cs) (s : Sc) : Bool := s.snd.isNone && s.wait.isEmpty && harmF c s
end LC
namespace LC
open PySem PySem.Spec PyProof.Rows L2

/-! ### what the top has left -/
structure Wd (K : PySem.W.Frag) (mg : Str → Option Value) : Prop where
  fact : ∀ f ∈ fa, f.ok K = true
  defs : ∀ d ∈ fn, ∃ fd, FunD K d.name d.qual d.params d.body d.scope (d.dvs K) (d.kws K) (He.fAd K d.at_) fd
  ns : ∃ h : Heap, K.In h ∧ h.Ns mainGlobals mg
section
variable {K : PySem.W.Frag} {mg : Str → Option Value}
theorem Wd.glo (T : Wd K mg) (i : Nat) {x : Str} (e : fa[i]? = some (.glo x) := by rfl) : mg x = some (.ref (He.ga K x)) := let ⟨_, X, G⟩ := T.ns; He.glo_ok X G (T.fact _ (List.mem_of_getElem? e))
theorem Wd.free (T : Wd K mg) (i : Nat) {x : Str} (e : fa[i]? = some (.free x) := by rfl) : mg x = none := let ⟨_, X, G⟩ := T.ns; He.free_ok X G (T.fact _ (List.mem_of_getElem? e))
theorem Wd.int (T : Wd K mg) (i : Nat) {x : Str} {n : Int} (e : fa[i]? = some (.int x n) := by rfl) : ∃ t, mg x = some (.int n t) := let ⟨_, X, G⟩ := T.ns; He.int_ok X G (T.fact _ (List.mem_of_getElem? e))
theorem Wd.str (T : Wd K mg) (i : Nat) {x z : Str} (e : fa[i]? = some (.str x z) := by rfl) : ∃ t, mg x = some (.str z t) := let ⟨_, X, G⟩ := T.ns; He.str_ok X G (T.fact _ (List.mem_of_getElem? e))
theorem Wd.noat (T : Wd K mg) (i : Nat) {x f : Str} (e : fa[i]? = some (.noat x f) := by rfl) : NoAttr K (He.ga K x) f := He.noat_ok (T.fact _ (List.mem_of_getElem? e))
theorem Wd.cls (T : Wd K mg) (i : Nat) {x : Str} (e : fa[i]? = some (.cls x) := by rfl) : Cls K (He.ga K x) := He.cls_ok (T.fact _ (List.mem_of_getElem? e))
theorem Wd.df (T : Wd K mg) (i : Nat) {d : He.DefD} (e : fn[i]? = some d := by rfl) : ∃ fd, FunD K d.name d.qual d.params d.body d.scope (d.dvs K) (d.kws K) (He.fAd K d.at_) fd := T.defs d (List.mem_of_getElem? e)
end
/-! ### code objects and their tables -/
/-- the object at c is a code object, q its name, its table at T -/
def CdX (c T : Addr) (q : Str) : HO := .ext fun h => h.CodeRec (.ref c) q ∧ PySem.W.CodeHd h c T
def T1 (H : Hp) (T : Addr) (nm : Nat → Nat → Str) : Prop := ∃ ps : Array Value, H T = some (.tbl ps) ∧ TriplesOk ps.toList ∧ ∀ (pos : Pos) (cv : Value), codeAmong pos ps.toList = some cv → ∃ c T', cv = .ref c ∧ H c = some (CdX c T' (nm pos.line pos.col))
def T2 (H : Hp) (T : Addr) (nm : Nat → Nat → Str) (fl : Nat → Nat → Bool) (nm2 : Nat → Nat → Str) (av : List Addr) : Prop := ∃ ps : Array Value, H T = some (.tbl ps) ∧ TriplesOk ps.toList ∧ ∀ (pos : Pos) (cv : Value), codeAmong pos ps.toList = some cv →
  ∃ c T', cv = .ref c ∧ H c = some (CdX c T' (nm pos.line pos.col)) ∧ (fl pos.line pos.col = true → T1 H T' nm2 ∧ T' ∉ av)
theorem T1.go {H H' : Hp} {T : Addr} {nm : Nat → Nat → Str} (h : T1 H T nm) (k : ∀ c T' q, H c = some (CdX c T' q) → H' c = some (CdX c T' q)) (e : ∀ ps, H T = some (.tbl ps) → H' T = some (.tbl ps)) : T1 H' T nm := by
  obtain ⟨ps, h1, h2, h3⟩ := h
  refine ⟨ps, e _ h1, h2, fun pos cv hc => ?_⟩
  obtain ⟨c, T', e1, e2⟩ := h3 pos cv hc
  exact ⟨c, T', e1, k _ _ _ e2⟩
theorem T2.go {H H' : Hp} {T : Addr} {nm nm2 : Nat → Nat → Str} {fl : Nat → Nat → Bool} {av : List Addr} (h : T2 H T nm fl nm2 av) (k : ∀ c T' q, H c = some (CdX c T' q) → H' c = some (CdX c T' q)) (e : ∀ ps, H T = some (.tbl ps) → H' T = some (.tbl ps)) (e' : ∀ T', T' ∉ av → ∀ ps, H T' = some (.tbl ps) → H' T' = some (.tbl ps)) : T2 H' T nm fl nm2 av := by
  obtain ⟨ps, h1, h2, h3⟩ := h
  refine ⟨ps, e _ h1, h2, fun pos cv hc => ?_⟩
  obtain ⟨c, T', e1, e2, e3⟩ := h3 pos cv hc
  exact ⟨c, T', e1, k _ _ _ e2, fun f => ⟨(e3 f).1.go k (e' T' (e3 f).2), (e3 f).2⟩⟩
abbrev tf3 : List He.Defn := [("Case", some "__init__"), ("first_rule", none), ("is_harmful", none)]
/-- where `follow` is made -/
def posF : Pos := match s_first_polling_harm with
  | .FunctionDef _ _ (.FunctionDef _ _ _ _ _ _ _ _ _ p :: _) _ _ _ _ _ _ _ => p
  | _ => default
abbrev qE : Str := "first_end.<locals>.is_end"
abbrev qF : Str := "first_polling_harm.<locals>.follow"
abbrev qS : Str := "first_polling_harm.<locals>.<lambda>"
abbrev qN : Str := "first_polling_harm.<locals>.follow.<locals>.<lambda>"
def nmE (_ _ : Nat) : Str := qE
def nmN (_ _ : Nat) : Str := qN
def flF (l c : Nat) : Bool := l == posF.line && c == posF.col
def nmF (l c : Nat) : Str := if flF l c = true then qF else qS
abbrev tabE (K : PySem.W.Frag) : Addr := (He.cT K ("first_end", none)).2
abbrev tabF (K : PySem.W.Frag) : Addr := (He.cT K ("first_polling_harm", none)).2
def tfs (K : PySem.W.Frag) : List Addr := tf.map fun p => (He.cT K p).2
structure TabAll (K : PySem.W.Frag) (H : Hp) : Prop where
  nd : (tfs K).Nodup
  g : ∀ p ∈ tf3, GxR.TabG H (He.cT K p).2
  e : T1 H (tabE K) nmE
  f : T2 H (tabF K) nmF flF nmN (tfs K)
theorem TabAll.go {K : PySem.W.Frag} {H H' : Hp} (h : TabAll K H) (k : ∀ c T' q, H c = some (CdX c T' q) → H' c = some (CdX c T' q)) (e : ∀ T ps, H T = some (.tbl ps) → H' T = some (.tbl ps)) : TabAll K H' :=
  ⟨h.nd, fun p hp => let ⟨ps, q, r⟩ := h.g p hp; ⟨ps, e _ _ q, r⟩, h.e.go k (e _), h.f.go k (e _) fun T' _ => e T'⟩
/-- classes, tables -/
def gd (K : PySem.W.Frag) : Gd where
  cm := He.ga K "Machine"
  cc := He.ga K "Case"
  tab := TabAll K
  mono := fun e h => h.go (fun _ _ _ q => e _ _ q fun _ z => (nomatch z)) fun _ _ q => e _ _ q fun _ z => (nomatch z)
  obj := fun _ _ _ _ => False
  omono := fun _ h => h
theorem ex_tup {K : PySem.W.Frag} (h : ex K = true) : He.tupB K "VIEWS" [.str "ordered", .str "unordered", .str "ignored"] = true := by
  unfold ex at h
  exact (He.ba h).1
theorem ex_nd {K : PySem.W.Frag} (h : ex K = true) : (tfs K).Nodup := by
  unfold ex at h
  exact of_decide_eq_true (He.ba h).2
theorem tf_ne {K : PySem.W.Frag} (h : (tfs K).Nodup) {p : He.Defn} (hp : p ∈ tf3) : tabE K ≠ (He.cT K p).2 ∧ tabF K ≠ (He.cT K p).2 ∧ tabE K ≠ tabF K ∧ (He.cT K p).2 ∈ tfs K := by
  simp only [tfs, tf, List.map_cons, List.map_nil, List.nodup_cons, List.mem_cons, List.not_mem_nil, or_false, not_or, not_false_iff, and_true, List.nodup_nil] at h
  simp only [List.mem_cons, List.not_mem_nil, or_false] at hp
  obtain ⟨⟨_, _, a1, a2⟩, ⟨_, b1, b2⟩, ⟨c1, c2⟩, d1⟩ := h
  rcases hp with rfl | rfl | rfl
  · exact ⟨fun z => a1 z.symm, fun z => a2 z.symm, d1, by simp [tfs, tf]⟩
  · exact ⟨fun z => b1 z.symm, fun z => b2 z.symm, d1, by simp [tfs, tf]⟩
  · exact ⟨fun z => c1 z.symm, fun z => c2 z.symm, d1, by simp [tfs, tf]⟩
theorem gd_tab {K : PySem.W.Frag} {p : He.Defn} (hp : p ∈ tf3) : TabH (gd K) (He.cT K p).2 where
  is := fun H h => h.g p hp
  go := fun H H' h t => by
    obtain ⟨n1, n2, n3, n4⟩ := tf_ne h.nd hp
    obtain ⟨ps0, q0, _⟩ := h.g p hp
    have k : ∀ c T' q, H c = some (CdX c T' q) → H' c = some (CdX c T' q) := fun c T' q e => by
      rw [t.2 c fun z => by rw [z, q0] at e; cases e]
      exact e
    refine ⟨h.nd, fun p' hp' => ?_, h.e.go k fun ps e => by rw [t.2 _ n1]; exact e, h.f.go k (fun ps e => by rw [t.2 _ n2]; exact e) fun T' hT ps e => by rw [t.2 _ fun z => hT (by rw [z]; exact n4)]; exact e⟩
    by_cases e : (He.cT K p').2 = (He.cT K p).2
    · rw [e]
      exact t.1
    · obtain ⟨ps, q, r⟩ := h.g p' hp'
      exact ⟨ps, by rw [t.2 _ e]; exact q, r⟩
/-- the tables of code objects, too -/
structure Wt (K : PySem.W.Frag) (mg : Str → Option Value) (base : Heap) : Prop where
  w : Wd K mg
  tb : ∀ p ∈ tf, GxR.TabB base mg (He.cT K p).1 (He.cT K p).2
section
variable {K : PySem.W.Frag} {mg : Str → Option Value}
theorem Wd.isinstance (T : Wd K mg) : mg "isinstance" = none := T.free 53
theorem Wd.int_ (T : Wd K mg) : mg "int" = none := T.free 54
theorem Wd.bool_ (T : Wd K mg) : mg "bool" = none := T.free 55
theorem Wd.len (T : Wd K mg) : mg "len" = none := T.free 56
theorem Wd.all_ (T : Wd K mg) : mg "all" = none := T.free 57
theorem Wd.any_ (T : Wd K mg) : mg "any" = none := T.free 58
theorem Wd.tuple (T : Wd K mg) : mg "tuple" = none := T.free 59
theorem Wd.list (T : Wd K mg) : mg "list" = none := T.free 60
theorem Wd.max (T : Wd K mg) : mg "max" = none := T.free 61
theorem Wd.min (T : Wd K mg) : mg "min" = none := T.free 62
theorem Wd.zip (T : Wd K mg) : mg "zip" = none := T.free 63
theorem Wd.enumerate (T : Wd K mg) : mg "enumerate" = none := T.free 64
theorem Wd.range (T : Wd K mg) : mg "range" = none := T.free 65
theorem Wd.set_ (T : Wd K mg) : mg "set" = none := T.free 66
theorem Wd.sorted (T : Wd K mg) : mg "sorted" = none := T.free 67
theorem Wd.tick (T : Wd K mg) : ∃ t, mg "TICK" = some (.str "tick" t) := T.str 68
theorem Wd.transit (T : Wd K mg) : ∃ t, mg "MOST_IN_TRANSIT" = some (.int 6 t) := T.int 69
theorem Wd.kept (T : Wd K mg) : ∃ t, mg "MOST_KEPT" = some (.int 1000 t) := T.int 70
theorem Wd.quiet (T : Wd K mg) : ∃ t, mg "MOST_QUIET" = some (.int 60 t) := T.int 71
end
section
variable {K : PySem.W.Frag} {X : Cx} {ρ : Ro} {e : Expr} {pos : Pos} {m : MachD} {c : CaseD} {mg : Str → Option Value} {d : PyData} {m' : MachD}
theorem xe_clocks (T : Wd K mg) (he : XE (gd K) X e ρ (.rs (.mach m))) (hd : m.clocks = d := by rfl) (hK : X.K = K := by rfl) (hb : attributeBase e "clocks" X.env (eval e X.env) = eval e X.env := by rfl) : XE (gd K) X (.Attribute e "clocks" pos) ρ (dat_ d) := by
  subst hd
  subst hK
  exact xe_fldM he (T.cls 72) (T.noat 75) (fun _ _ _ h _ _ _ => h) hb
theorem xe_names (T : Wd K mg) (he : XE (gd K) X e ρ (.rs (.mach m))) (hd : m.names = d := by rfl) (hK : X.K = K := by rfl) (hb : attributeBase e "names" X.env (eval e X.env) = eval e X.env := by rfl) : XE (gd K) X (.Attribute e "names" pos) ρ (dat_ d) := by
  subst hd
  subst hK
  exact xe_fldM he (T.cls 72) (T.noat 74) (fun _ _ h _ _ _ _ => h) hb
theorem xe_channels (T : Wd K mg) (he : XE (gd K) X e ρ (.rs (.mach m))) (hd : m.channels = d := by rfl) (hK : X.K = K := by rfl) (hb : attributeBase e "channels" X.env (eval e X.env) = eval e X.env := by rfl) : XE (gd K) X (.Attribute e "channels" pos) ρ (dat_ d) := by
  subst hd
  subst hK
  exact xe_fldM he (T.cls 72) (T.noat 76) (fun _ _ _ _ h _ _ => h) hb
theorem xe_rules (T : Wd K mg) (he : XE (gd K) X e ρ (.rs (.mach m))) (hd : m.rules = d := by rfl) (hK : X.K = K := by rfl) (hb : attributeBase e "rules" X.env (eval e X.env) = eval e X.env := by rfl) : XE (gd K) X (.Attribute e "rules" pos) ρ (dat_ d) := by
  subst hd
  subst hK
  exact xe_fldM he (T.cls 72) (T.noat 78) (fun _ _ _ _ _ _ h => h) hb
theorem xe_prog (T : Wd K mg) (he : XE (gd K) X e ρ (.rs (.cas c))) (hd : c.program = m' := by rfl) (hK : X.K = K := by rfl) (hb : attributeBase e "program" X.env (eval e X.env) = eval e X.env := by rfl) : XE (gd K) X (.Attribute e "program" pos) ρ (.rs (.mach m')) := by
  subst hd
  subst hK
  exact xe_program he (T.cls 79) (T.noat 81) hb
theorem xe_traf (T : Wd K mg) (he : XE (gd K) X e ρ (.rs (.cas c))) (hd : c.traffic = m' := by rfl) (hK : X.K = K := by rfl) (hb : attributeBase e "traffic" X.env (eval e X.env) = eval e X.env := by rfl) : XE (gd K) X (.Attribute e "traffic" pos) ρ (.rs (.mach m')) := by
  subst hd
  subst hK
  exact xe_traffic he (T.cls 79) (T.noat 83) hb
theorem xe_vws (T : Wd K mg) (he : XE (gd K) X e ρ (.rs (.cas c))) (hd : c.views = d := by rfl) (hK : X.K = K := by rfl) (hb : attributeBase e "views" X.env (eval e X.env) = eval e X.env := by rfl) : XE (gd K) X (.Attribute e "views" pos) ρ (dat_ d) := by
  subst hd
  subst hK
  exact xe_views he (T.cls 79) (T.noat 82) hb
theorem xe_qt (T : Wd K mg) (he : XE (gd K) X e ρ (.rs (.cas c))) (hd : c.quiet = d := by rfl) (hK : X.K = K := by rfl) (hb : attributeBase e "quiet" X.env (eval e X.env) = eval e X.env := by rfl) : XE (gd K) X (.Attribute e "quiet" pos) ρ (dat_ d) := by
  subst hd
  subst hK
  exact xe_quiet he (T.cls 79) (T.noat 84) hb
end
theorem bk (N : List Str) (st : Stmt) {scope : Scope} {own : List (Str × Nat)} (h : blkC N (defScope st) scope own = true := by decide +kernel) : BlkOk N (defScope st) scope own := blkOk_by h
/-! ### sizes, comprehensions -/
theorem lcR_map {G : Gd} {X : Cx} {scope : Scope} {tg elt : Expr} {is : List Nat} {ρ : Ro} {α : Type} (h : α → Rs) (f : α → PyData) : ∀ (l : List α), (∀ a ∈ l, ∃ ρ1, (∀ X', IsBlk X scope X' → XGo G X' tg (h a) ρ ρ1 is) ∧ ∀ X', IsBlk X scope X' → XE G X' elt ρ1 (dat_ (f a))) → LcR G X scope tg elt [] is ρ (l.map h) (l.map f)
  | [], _ => rfl
  | a :: l, H => by
    obtain ⟨ρ1, h1, h2⟩ := H a (List.mem_cons_self ..)
    exact ⟨ρ1, h1, .inl ⟨.inl ⟨rfl, rfl⟩, f a, l.map f, rfl, h2, lcR_map h f l fun b hb => H b (List.mem_cons_of_mem _ hb)⟩⟩
theorem lcR_filter {G : Gd} {X : Cx} {scope : Scope} {tg elt c : Expr} {is : List Nat} {ρ : Ro} {α : Type} (h : α → Rs) (p : α → Bool) (f : α → PyData) : ∀ (l : List α), (∀ a ∈ l, ∃ ρ1, (∀ X', IsBlk X scope X' → XGo G X' tg (h a) ρ ρ1 is) ∧ (∀ X', IsBlk X scope X' → XT G X' c ρ1 (p a)) ∧ (p a = true → ∀ X', IsBlk X scope X' → XE G X' elt ρ1 (dat_ (f a)))) → LcR G X scope tg elt [c] is ρ (l.map h) ((l.filter p).map f)
  | [], _ => rfl
  | a :: l, H => by
    obtain ⟨ρ1, h1, h2, h3⟩ := H a (List.mem_cons_self ..)
    have ih := lcR_filter h p f l fun b hb => H b (List.mem_cons_of_mem _ hb)
    refine ⟨ρ1, h1, ?_⟩
    cases e : p a with
    | true =>
      refine .inl ⟨.inr ⟨c, rfl, fun X' b => (h2 X' b).is e⟩, f a, (l.filter p).map f, ?_, h3 e, ih⟩
      rw [List.filter_cons_of_pos e, List.map_cons]
    | false =>
      refine .inr ⟨.inr ⟨c, rfl, fun X' b => (h2 X' b).is e⟩, ?_⟩
      rw [List.filter_cons_of_neg (by rw [e]; exact Bool.false_ne_true)]
      exact ih
theorem map_dat {α : Type} (f : α → PyData) (l : List α) : (l.map f).map Rs.dat = l.map fun a => Rs.dat (f a) := List.map_map ..
theorem LcR.rs {G : Gd} {X : Cx} {scope : Scope} {tg elt : Expr} {ifs : List Expr} {is : List Nat} {ρ : Ro} {rs rs' : List Rs} {ds ds' : List PyData} (h : LcR G X scope tg elt ifs is ρ rs ds) (e : rs' = rs) (e' : ds = ds') : LcR G X scope tg elt ifs is ρ rs' ds' := by rw [e, ← e']; exact h
/-! ### loops by an invariant of what is left -/
theorem forR_inv {G : Gd} {X : Cx} {Ex : Hp → Prop} {tg : Expr} {body : List Stmt} {α : Type} {o : Out} (f : α → Rs) (I : List α → Ro → Prop) {l : List α} {rs : List Rs} {ρ : Ro} (e : rs = l.map f) (h : I l ρ)
    (hnil : ∀ ρ, I [] ρ → ∃ ρ', Le ρ' ρ ∧ o = .nx ρ')
    (hcons : ∀ a l ρ, I (a :: l) ρ → ∃ ρ0 ρ1 is, Le ρ0 ρ ∧ XGo G X tg (f a) ρ0 ρ1 is ∧ ((∃ ρ2, XSs G X Ex body ρ1 (.nx ρ2) ∧ I l ρ2) ∨ (XSs G X Ex body ρ1 o ∧ ∀ ρ', o ≠ .nx ρ'))) : ForR G X Ex tg body rs ρ o := by
  subst e
  induction l generalizing ρ with
  | nil => exact hnil ρ h
  | cons a l ih =>
    obtain ⟨ρ0, ρ1, is, l1, x1, h2⟩ := hcons a l ρ h
    refine ⟨ρ0, ρ1, is, l1, x1, ?_⟩
    rcases h2 with ⟨ρ2, h3, h4⟩ | h2
    · exact .inl ⟨ρ2, h3, ih h4⟩
    · exact .inr h2
theorem whR_count {G : Gd} {X : Cx} {Ex : Hp → Prop} {c : Expr} {body : List Stmt} (env : Nat → Ro) (p : Nat → Bool) (n : Nat) (hp : ∀ i, i < n → p i = true) (hn : p n = false) (ht : ∀ i, i ≤ n → XT G X c (env i) (p i)) (hb : ∀ i, i < n → XSs G X Ex body (env i) (.nx (env (i + 1)))) :
    WhR G X Ex c body n (env 0) (.nx (env n)) := by
  have key : ∀ m k, k + m = n → WhR G X Ex c body m (env k) (.nx (env n)) := by
    intro m
    induction m with
    | zero =>
      intro k e
      have e : k = n := e
      subst e
      exact ⟨_, Le.refl _, .inl ⟨(ht k (Nat.le_refl _)).is hn, rfl⟩⟩
    | succ m ih =>
      intro k e
      exact ⟨_, _, Le.refl _, (ht k (by omega)).is (hp k (by omega)), hb k (by omega), ih (k + 1) (by omega)⟩
  exact key n 0 (Nat.zero_add n)

/-- a def whose code object is asked for -/
theorem fnG_ofC {G : Gd} {P : Program} {w : World} {K : PySem.W.Frag} {mg : Str → Option Value} {base : Heap} {x qual : Str} {params : Arguments} {body : List Stmt} {scope : Scope} {kws : List (Str × V)} {fd : FuncData} {N ps : List Str} {k : Nat} {Φ : List Rs → En → Prop} {at_ : Str × Option Str}
    (F : FunD K x qual params body scope [] kws (He.fAd K at_) fd) (S : FnScope N ps scope) (hm : mg x = some (.ref (He.fAd K at_))) (hb : ∀ (kV doc pm : Value) (an : Option Addr) (cdv ct : Value) (us : List Value), us.length = ps.length → bindArgs (PySem.W.fnOf x qual params body scope .none kV doc pm an cdv ct) ⟨us, []⟩ = pure (ps.zip us))
    (hbody : ∀ (A : Around) (outer : List Env) (s : Shared) (H : Hp) (E : XK), Room k (A.deeper (envOfC qual scope s.heap.objs.size (He.fAd K at_) (.ref (He.codeOf K at_)))) → ∀ rs en, rs.length = ps.length → Φ rs en →
      ∃ o, Ends0 en o ∧ XSs G (bx P w K mg base N qual scope (He.fAd K at_) (.ref (He.codeOf K at_)) A outer s H E) (fun _ => False) body (ro N rs) o) : FnG G P w K mg base (k + 1) x ps.length Φ := by
  have hbn := F.bindsN hb
  have hkp := F.kp
  obtain ⟨oc, od, dV, kV, doc, pm, an, cdv, ct, osl, rfl, lk, hcd, _, _⟩ := F.ex
  obtain ⟨c, rfl⟩ := He.codeIn_ref hcd
  have ec := He.codeOf_eq lk (c := c) rfl
  refine ⟨_, _, ps, fn_of lk hcd S (fun vs H Q E ⟨F, rs, en, _, _, a, hl, _⟩ => a.length.trans hl) fun A outer s H vs Q E hr ⟨F1, rs, en, z, t, a, hl, hφ, q⟩ => ?_, hm, hkp, hbn⟩
  rw [← ec] at hr ⊢
  obtain ⟨o, ho, hx⟩ := hbody A outer s H E hr rs en hl hφ
  refine ⟨_, (pss_s (X := bx P w K mg base N qual scope (He.fAd K at_) (.ref (He.codeOf K at_)) A outer s H E)).nox, hx _ _ _ _ _ _ (sta_ro z t a) _ ?_⟩
  rcases ho with e | ⟨ρ', e, e'⟩
  · subst e
    exact fun v H1 F2 n => q v H1 F2 n
  · subst e e'
    exact fun σ1 H1 F2 S1 => q .non H1 F2 (.from S1.grow (Nx.rs0 (r := Rs.dat .none) S1 Dt.non))
end LC
namespace LC
open PySem PySem.Spec PyProof.Rows L2

section
variable {P : Program} {w : World} {K : PySem.W.Frag} {mg : Str → Option Value} {base : Heap}
theorem sc_with_queue : FnScope ["scene", "sender", "queue"] ["scene", "sender", "queue"] (defScope s_with_queue) := ⟨rfl, rfl, rfl, by decide +kernel, rfl, by decide +kernel, by decide +kernel⟩
theorem C_with_queue (T : Wd K mg) : FnG (gd K) P w K mg base 1 "with_queue" 3 (fun rs en => ∃ d0 d1 d2 d3 d4 s q, rs = [.dat (.tuple [d0, d1, d2, d3, d4]), .dat s, .dat q] ∧ en = tup_ [s, q, d2, d3, d4]) := by
  obtain ⟨fd, F⟩ := T.df 21 (d := d_with_queue)
  refine fnG_of F sc_with_queue (T.glo 21) (fun _ _ _ _ _ _ us hl => match us, hl with | [_, _, _], _ => rfl) fun cdv A outer s H E hr rs en hl hφ => ⟨_, .inl rfl, ?_⟩
  obtain ⟨d0, d1, d2, d3, d4, s, q, rfl, rfl⟩ := hφ
  exact xss_one (xs_ret (xe_tup (xd_cons (xe_var 1) (xd_cons (xe_var 2) (xd_cons (xe_ix (xe_var 0) xe_int (ixo_tup rfl)) (xd_cons (xe_ix (xe_var 0) xe_int (ixo_tup rfl)) (xd_cons (xe_ix (xe_var 0) xe_int (ixo_tup rfl)) xd_nil)))))))
theorem sc_start : FnScope ["machine", "clock"] ["machine"] (defScope s_start) := ⟨rfl, rfl, rfl, by decide +kernel, rfl, by decide +kernel, by decide +kernel⟩
theorem C_start (T : Wd K mg) : FnG (gd K) P w K mg base 1 "start" 1 (fun rs en => ∃ m : Mc, m.Ok ∧ rs = [.mach (eM m)] ∧ en = dat_ (eF (startF m))) := by
  obtain ⟨fd, F⟩ := T.df 7 (d := d_start)
  refine fnG_of F sc_start (T.glo 7) (fun _ _ _ _ _ _ us hl => match us, hl with | [_], _ => rfl) fun cdv A outer s H E hr rs en hl hφ => ⟨_, .inl rfl, ?_⟩
  obtain ⟨m, M, rfl, rfl⟩ := hφ
  refine xss_one (xs_ret (xe_tup (xd_cons xe_int (xd_cons (xe_callT T.tuple (xa_cons (xe_fr (xe_lc [("clock", 1)] rfl sc_start.nd (bk ["machine", "clock"] s_start) (xi_tup (xe_clocks T (xe_var 0))) (ds := (dI (m.clocks.map fun _ => 0))) ?_ ?_)) xa_nil) co_tupL) xd_nil))))
  · rw [map_dat, show dI (m.clocks.map fun _ => 0) = m.clocks.map fun _ => PyData.int 0 from List.map_map ..]
    exact lcR_map _ _ _ fun a _ => ⟨_, fun X' ⟨_, _, _, _, _, e⟩ => by subst e; exact xg_name 1 sc_start.nd, fun X' ⟨_, _, _, _, _, e⟩ => by subst e; exact xe_int⟩
  · rw [List.length_map, List.length_map]
    exact Nat.le_trans M.nc (by decide)
end
end LC
namespace LC
open PySem PySem.Spec PyProof.Rows L2

theorem flat_rep {α : Type} (n : Nat) (x : α) : (List.replicate n [x]).flatten = List.replicate n x := by
  induction n with
  | zero => rfl
  | succ n ih => rw [List.replicate_succ, List.flatten_cons, ih, List.replicate_succ, List.singleton_append]
theorem excess_cons (s : Str) (sg a b : List Str) : excessF (s :: sg) a b = List.replicate ((a.count s : Int) - (b.count s : Int)).toNat s ++ excessF sg a b := rfl
theorem excess_le (sg a b : List Str) : (excessF sg a b).length ≤ sg.length * a.length := by
  induction sg with
  | nil => simp [excessF]
  | cons s sg ih =>
    rw [excess_cons, List.length_append, List.length_replicate, List.length_cons, Nat.add_mul, Nat.one_mul]
    have h1 : a.count s ≤ a.length := List.count_le_length
    omega
section
variable {P : Program} {w : World} {K : PySem.W.Frag} {mg : Str → Option Value} {base : Heap}
theorem sc_in_excess : FnScope ["signals", "first", "second", "result", "signal"] ["signals", "first", "second"] (defScope s_in_excess) := ⟨rfl, rfl, rfl, by decide +kernel, rfl, by decide +kernel, by decide +kernel⟩
theorem C_in_excess (T : Wd K mg) : FnG (gd K) P w K mg base 1 "in_excess" 3 (fun rs en => ∃ sg a b : List Str, sg.length ≤ 8 ∧ a.length ≤ 200000 ∧ b.length ≤ 200000 ∧ rs = [.dat (.tuple (dS sg)), .dat (.list (dS a)), .dat (.list (dS b))] ∧ en = tup_ (dS (excessF sg a b))) := by
  obtain ⟨fd, F⟩ := T.df 2 (d := d_in_excess)
  refine fnG_of F sc_in_excess (T.glo 2) (fun _ _ _ _ _ _ us hl => match us, hl with | [_, _, _], _ => rfl) fun cdv A outer s H E hr rs en hl hφ => ⟨_, .inl rfl, ?_⟩
  obtain ⟨sg, a, b, z1, z2, z3, rfl, rfl⟩ := hφ
  refine xss_cons (xs_set 3 (xe_fr (xe_lst xd_nil)) sc_in_excess.nd) <|
    xss_cons (xs_for PassesOwn.never rfl (xi_tup (xe_var 0)) (o := .nx [some (tup_ (dS sg)), some (lst_ (dS a)), some (lst_ (dS b)), some (lst_ (dS (excessF sg a b))), none]) ?_) <|
    xss_one (xs_ret (xe_callT T.tuple (xa_cons (xe_var 3) xa_nil) co_tupL))
  refine forR_inv (fun s => Rs.dat (.str s)) (fun l ρ => ∃ res o, res ++ excessF l a b = excessF sg a b ∧ res.length + l.length * a.length ≤ 8 * 200000 ∧ ρ = [some (tup_ (dS sg)), some (lst_ (dS a)), some (lst_ (dS b)), some (lst_ (dS res)), o])
    (map_dat _ sg) ⟨[], none, rfl, by
      have : sg.length * a.length ≤ 8 * 200000 := Nat.mul_le_mul z1 z2
      simpa using this, rfl⟩ ?_ ?_
  · rintro ρ ⟨res, o, e, _, rfl⟩
    rw [show excessF [] a b = [] from rfl, List.append_nil] at e
    subst e
    exact ⟨_, by repeat constructor, rfl⟩
  · rintro x l ρ ⟨res, o, e, hz, rfl⟩
    have h1 : a.count x ≤ a.length := List.count_le_length
    have h2 : b.count x ≤ b.length := List.count_le_length
    have h3 : (x :: l).length * a.length = l.length * a.length + a.length := by rw [List.length_cons, Nat.add_mul, Nat.one_mul]
    refine ⟨_, _, _, Le.refl _, xg_name 4 sc_in_excess.nd, .inl ⟨_, xss_one (xs_set 3 (XE.is (xe_fr (xe_bin (xe_var 3) (xe_fr (xe_bin (xe_fr (xe_lst (xd_cons (xe_var 4) xd_nil)))
      (xe_bin (xe_count (xe_fr (xe_callT T.list (xa_cons (xe_var 1) xa_nil) co_listL)) (xe_var 4)) (xe_count (xe_fr (xe_callT T.list (xa_cons (xe_var 2) xa_nil) co_listL)) (xe_var 4)) bin_sub) (bin_rep (by omega) (by omega) ?_)))
      (bin_cat ?_))) (en' := lst_ (dS (res ++ List.replicate ((a.count x : Int) - (b.count x : Int)).toNat x))) ?_) sc_in_excess.nd), res ++ List.replicate ((a.count x : Int) - (b.count x : Int)).toNat x, _, ?_, ?_, rfl⟩⟩
    · simp only [List.length_cons, List.length_nil]
      omega
    · rw [flat_rep, List.length_map, List.length_replicate]
      omega
    · simp only [dS, flat_rep, List.map_append, List.map_replicate]
    · rw [List.append_assoc, ← excess_cons]
      exact e
    · rw [List.length_append, List.length_replicate]
      omega
end
end LC
namespace LC
open PySem PySem.Spec PyProof.Rows L2

section
variable {P : Program} {w : World} {K : PySem.W.Frag} {mg : Str → Option Value} {base : Heap}
theorem atI_some {α : Type} {l : List α} {k : Nat} {x : α} (h : l[k]? = some x) : atI l ((k : Nat) : Int) = some x := atI_nat h
theorem cutD_drop (l : List PyData) (k : Nat) : cutD l (some (k : Int)) none = l.drop k := by
  unfold cutD
  rw [HT.sIx_nat, HT.sIx_none]
  by_cases h : k ≤ l.length
  · rw [Nat.min_eq_left h, List.take_of_length_le]
    rw [List.length_drop]
    exact Nat.le_refl _
  · rw [Nat.min_eq_right (by omega), List.drop_eq_nil_of_le (by omega), List.drop_eq_nil_of_le (by omega), List.take_nil]
theorem dS_get {l : List Str} {k : Nat} (h : k < l.length) : (dS l)[k]? = some (.str l[k]) := by
  rw [List.getElem?_map, List.getElem?_eq_getElem h]
  rfl
theorem lcp_lt : ∀ {a b : List Str} {i : Nat}, i < lcp a b → ∃ x, a[i]? = some x ∧ b[i]? = some x
  | [], _, _, h => by simp [lcp] at h
  | _ :: _, [], _, h => by simp [lcp] at h
  | x :: xs, y :: ys, i, h => by
    unfold lcp at h
    by_cases e : x = y
    · rw [if_pos e] at h
      cases i with
      | zero => exact ⟨x, rfl, by rw [e]; rfl⟩
      | succ i =>
        obtain ⟨z, h1, h2⟩ := lcp_lt (a := xs) (b := ys) (i := i) (by omega)
        exact ⟨z, by simpa using h1, by simpa using h2⟩
    · rw [if_neg e] at h
      omega
theorem lcp_end : ∀ (a b : List Str), lcp a b < a.length → lcp a b < b.length → a.getD (lcp a b) "" = b.getD (lcp a b) "" → False
  | [], _, h, _, _ => by simp at h
  | _ :: _, [], _, h, _ => by simp at h
  | x :: xs, y :: ys, h1, h2, h3 => by
    unfold lcp at h1 h2 h3
    by_cases e : x = y
    · rw [if_pos e] at h1 h2 h3
      exact lcp_end xs ys (by simpa using h1) (by simpa using h2) (by simpa using h3)
    · rw [if_neg e] at h3
      exact e (by simpa using h3)
theorem sc_difference : FnScope ["view", "signals", "first", "second", "k"] ["view", "signals", "first", "second"] (defScope s_difference) := ⟨rfl, rfl, rfl, by decide +kernel, rfl, by decide +kernel, by decide +kernel⟩
theorem C_difference (T : Wd K mg) : FnG (gd K) P w K mg base 2 "difference" 4 (fun rs en => ∃ (v : Str) (sg a b : List Str), sg.length ≤ 8 ∧ a.length ≤ 200000 ∧ b.length ≤ 200000 ∧ rs = [.dat (.str v), .dat (.tuple (dS sg)), .dat (.list (dS a)), .dat (.list (dS b))] ∧ en = dat_ (eD (diffF v sg a b))) := by
  obtain ⟨fd, F⟩ := T.df 3 (d := d_difference)
  refine fnG_of F sc_difference (T.glo 3) (fun _ _ _ _ _ _ us hl => match us, hl with | [_, _, _, _], _ => rfl) fun cdv A outer s H E hr rs en hl hφ => ⟨_, .inl rfl, ?_⟩
  obtain ⟨v, sg, a, b, z1, z2, z3, rfl, rfl⟩ := hφ
  by_cases h1 : v = ("ignored" : Str)
  · refine xss_ret (xs_if (xt_cmp (xe_var 0) xe_str bin_eqS) (fun h => xss_one (xs_ret (XE.is (xe_tup (xd_cons (xe_tup xd_nil) (xd_cons (xe_tup xd_nil) xd_nil))) ?_))) (fun h => absurd h1 (of_decide_eq_false h)))
    unfold diffF
    rw [if_pos h1]
    rfl
  refine xss_cons (xs_if (xt_cmp (xe_var 0) xe_str bin_eqS) (fun h => absurd (of_decide_eq_true h) h1) (fun h => xss_nil)) ?_
  by_cases h2 : v = ("unordered" : Str)
  · refine xss_ret (xs_if (xt_cmp (xe_var 0) xe_str bin_eqS) (fun h => xss_one (xs_ret (XE.is (xe_tup (xd_cons (xe_call (C_in_excess T) (hr.mono (by decide)) (xa_cons (xe_var 1) (xa_cons (xe_var 2) (xa_cons (xe_var 3) xa_nil))) ⟨sg, a, b, z1, z2, z3, rfl, rfl⟩)
      (xd_cons (xe_call (C_in_excess T) (hr.mono (by decide)) (xa_cons (xe_var 1) (xa_cons (xe_var 3) (xa_cons (xe_var 2) xa_nil))) ⟨sg, b, a, z1, z3, z2, rfl, rfl⟩) xd_nil))) ?_))) (fun h => absurd h2 (of_decide_eq_false h)))
    unfold diffF
    rw [if_neg h1, if_pos h2]
  refine xss_cons (xs_if (xt_cmp (xe_var 0) xe_str bin_eqS) (fun h => absurd (of_decide_eq_true h) h2) (fun h => xss_nil)) ?_
  refine xss_cons (xs_set 4 xe_int sc_difference.nd) <|
    xss_cons (xs_while (lcp a b) PassesOwn.never (o := .nx [some (str_ v), some (tup_ (dS sg)), some (lst_ (dS a)), some (lst_ (dS b)), some (int_ (lcp a b))]) ?_) <|
    xss_one (xs_ret (XE.is (xe_tup (xd_cons (xe_callT T.tuple (xa_cons (xe_fr (xe_slice (xe_var 2) (xo_some (xe_var 4)) xo_none slo_list)) xa_nil) co_tupL) (xd_cons (xe_callT T.tuple (xa_cons (xe_fr (xe_slice (xe_var 3) (xo_some (xe_var 4)) xo_none slo_list)) xa_nil) co_tupL) xd_nil))) ?_))
  · refine whR_count (fun k => [some (str_ v), some (tup_ (dS sg)), some (lst_ (dS a)), some (lst_ (dS b)), some (int_ (k : Int))]) (fun k => decide ((k : Int) < ((dS a).length : Nat)) && (decide ((k : Int) < ((dS b).length : Nat)) && decide (a.getD k "" = b.getD k ""))) (lcp a b) (fun k hk => ?_) ?_ (fun k hk => ?_) (fun k hk => ?_)
    · obtain ⟨x, e1, e2⟩ := lcp_lt hk
      obtain ⟨l1, _⟩ := List.getElem?_eq_some_iff.mp e1
      obtain ⟨l2, _⟩ := List.getElem?_eq_some_iff.mp e2
      rw [List.getD_eq_getElem?_getD, List.getD_eq_getElem?_getD, e1, e2]
      simp [l1, l2]
    · cases h : (decide (((lcp a b : Nat) : Int) < ((dS a).length : Nat)) && (decide (((lcp a b : Nat) : Int) < ((dS b).length : Nat)) && decide (a.getD (lcp a b) "" = b.getD (lcp a b) ""))) with
      | false => rfl
      | true =>
        simp only [Bool.and_eq_true, decide_eq_true_eq, List.length_map] at h
        exact (lcp_end a b (by omega) (by omega) h.2.2).elim
    · refine XW.t (xw_and (xt_cmp (xe_var 4) (xe_callB T.len (xa_cons (xe_var 2) xa_nil) co_lenL) bin_lt) fun g1 => xw_and (xt_cmp (xe_var 4) (xe_callB T.len (xa_cons (xe_var 3) xa_nil) co_lenL) bin_lt) fun g2 => xw_and1 (xt_cmp (xe_ix (xe_var 2) (xe_var 4) (ixo_list ?_)) (xe_ix (xe_var 3) (xe_var 4) (ixo_list ?_)) bin_eqS))
      · have g1 := of_decide_eq_true g1
        rw [List.length_map] at g1
        have g1 : k < a.length := by omega
        refine atI_some ?_
        rw [dS_get g1, List.getD_eq_getElem?_getD, List.getElem?_eq_getElem g1]
        rfl
      · have g2 := of_decide_eq_true g2
        rw [List.length_map] at g2
        have g2 : k < b.length := by omega
        refine atI_some ?_
        rw [dS_get g2, List.getD_eq_getElem?_getD, List.getElem?_eq_getElem g2]
        rfl
    · exact xss_one (XS.is (xe_aug 4 rfl xe_int sc_difference.nd) rfl)
  · unfold diffF
    rw [if_neg h1, if_neg h2, cutD_drop, cutD_drop]
    simp only [eD, dS, List.map_drop]
theorem sc_extended : FnScope ["view", "signals", "pair", "first", "second"] ["view", "signals", "pair", "first", "second"] (defScope s_extended) := ⟨rfl, rfl, rfl, by decide +kernel, rfl, by decide +kernel, by decide +kernel⟩
theorem C_extended (T : Wd K mg) : FnG (gd K) P w K mg base 3 "extended" 5 (fun rs en => ∃ (v : Str) (sg : List Str) (p : Df) (a b : List Str), sg.length ≤ 8 ∧ p.1.length + a.length ≤ 200000 ∧ p.2.length + b.length ≤ 200000 ∧ rs = [.dat (.str v), .dat (.tuple (dS sg)), .dat (eD p), .dat (.list (dS a)), .dat (.list (dS b))] ∧ en = dat_ (eD (extF v sg p a b))) := by
  obtain ⟨fd, F⟩ := T.df 4 (d := d_extended)
  refine fnG_of F sc_extended (T.glo 4) (fun _ _ _ _ _ _ us hl => match us, hl with | [_, _, _, _, _], _ => rfl) fun cdv A outer s H E hr rs en hl hφ => ⟨_, .inl rfl, ?_⟩
  obtain ⟨v, sg, p, a, b, z1, z2, z3, rfl, rfl⟩ := hφ
  refine xss_one (xs_ret (xe_call (C_difference T) (hr.mono (by decide)) (xa_cons (xe_var 0) (xa_cons (xe_var 1) (xa_cons (xe_fr (xe_bin (xe_fr (xe_callT T.list (xa_cons (xe_ix (xe_var 2) xe_int (ixo_tup rfl)) xa_nil) co_listT)) (xe_fr (xe_callT T.list (xa_cons (xe_var 3) xa_nil) co_listL)) (bin_cat ?_)))
    (xa_cons (xe_fr (xe_bin (xe_fr (xe_callT T.list (xa_cons (xe_ix (xe_var 2) xe_int (ixo_tup rfl)) xa_nil) co_listT)) (xe_fr (xe_callT T.list (xa_cons (xe_var 4) xa_nil) co_listL)) (bin_cat ?_))) xa_nil)))) ⟨v, sg, p.1 ++ a, p.2 ++ b, z1, ?_, ?_, ?_, rfl⟩))
  · simp only [List.length_map]
    omega
  · simp only [List.length_map]
    omega
  · rw [List.length_append]
    exact z2
  · rw [List.length_append]
    exact z3
  · simp only [dS, List.map_append]
end
end LC
namespace LC
open PySem PySem.Spec PyProof.Rows L2

theorem ixN_ok {n : Nat} {i : Int} (h0 : 0 ≤ i) (h1 : i < n) : ixN n i = some i.toNat := by
  unfold ixN
  rw [if_pos h0, if_pos h1]
theorem atI_ok {l : List PyData} {i : Int} {d : PyData} (h0 : 0 ≤ i) (h1 : i < l.length) (h : l[i.toNat]? = some d) : atI l i = some d := by
  unfold atI
  rw [ixN_ok h0 h1]
  exact h
theorem dI_get {l : List Int} {k : Nat} (h : k < l.length) : (dI l)[k]? = some (.int (l.getD k 0)) := by
  rw [List.getElem?_map, List.getElem?_eq_getElem h, List.getD_eq_getElem?_getD, List.getElem?_eq_getElem h]
  rfl
theorem atI_dI {l : List Int} {i : Int} (h0 : 0 ≤ i) (h1 : i < l.length) : atI (dI l) i = some (.int (l.getD i.toNat 0)) := atI_ok h0 (by rw [List.length_map]; exact h1) (dI_get (by omega))
section
variable {P : Program} {w : World} {K : PySem.W.Frag} {mg : Str → Option Value} {base : Heap}
theorem sc_caps : FnScope ["machine", "result", "clock", "rule", "comparison", "limit"] ["machine"] (defScope s_caps) := ⟨rfl, rfl, rfl, by decide +kernel, rfl, by decide +kernel, by decide +kernel⟩
theorem C_caps (T : Wd K mg) : FnG (gd K) P w K mg base 1 "caps" 1 (fun rs en => ∃ m : Mc, m.Ok ∧ rs = [.mach (eM m)] ∧ en = tup_ (dI (capsF m))) := by
  obtain ⟨fd, F⟩ := T.df 6 (d := d_caps)
  refine fnG_of F sc_caps (T.glo 6) (fun _ _ _ _ _ _ us hl => match us, hl with | [_], _ => rfl) fun cdv A outer s H E hr rs en hl hφ => ⟨_, .inl rfl, ?_⟩
  obtain ⟨m, M, rfl, rfl⟩ := hφ
  refine xss_cons (xs_setLc 1 [("clock", 2)] rfl sc_caps.nd (bk ["machine", "result", "clock", "rule", "comparison", "limit"] s_caps) (xi_tup (xe_clocks T (xe_var 0))) (ds := dI (m.clocks.map fun _ => 0)) ?_ ?_ (sw_true rfl rfl rfl (by decide +kernel))) <|
    xss_cons (xs_for PassesOwn.never rfl (xi_tup (xe_rules T (xe_var 0))) (o := .nx [some (.rs (.mach (eM m))), some (.own (dI (capsF m))), none, none, none, none]) ?_) <|
    xss_freeze 1 <| xss_one (xs_ret (xe_callT T.tuple (xa_cons (xe_var 1) xa_nil) co_tupL))
  · rw [map_dat, show dI (m.clocks.map fun _ => 0) = m.clocks.map fun _ => PyData.int 0 from List.map_map ..]
    exact lcR_map _ _ _ fun a _ => ⟨_, fun X' ⟨_, _, _, _, _, e⟩ => by subst e; exact xg_name 2 sc_caps.nd, fun X' ⟨_, _, _, _, _, e⟩ => by subst e; exact xe_int⟩
  · rw [List.length_map, List.length_map]
    exact Nat.le_trans M.nc (by decide)
  refine forR_inv (fun r => Rs.dat (eR r)) (fun l ρ => ∃ res o2 o3 o4 o5, res.length = m.clocks.length ∧ (∀ r ∈ l, r ∈ m.rules) ∧ l.foldl (fun res r => r.conds.foldl capC res) res = capsF m ∧ ρ = [some (.rs (.mach (eM m))), some (.own (dI res)), o2, o3, o4, o5])
    (map_dat _ _) ⟨_, _, _, _, _, List.length_map _, fun r h => h, rfl, rfl⟩ ?_ ?_
  · rintro ρ ⟨res, o2, o3, o4, o5, _, _, e, rfl⟩
    have e : res = capsF m := e
    subst e
    exact ⟨_, by repeat constructor, rfl⟩
  rintro r l ρ ⟨res, o2, o3, o4, o5, hl, hm, e, rfl⟩
  have hr' := hm r (List.mem_cons_self ..)
  refine ⟨_, _, _, Le.refl _, xg_name 3 sc_caps.nd, .inl ⟨[some (.rs (.mach (eM m))), some (.own (dI (r.conds.foldl capC res))), none, some (dat_ (eR r)), none, none], ?_, _, _, _, _, _, (capCs_length _ _).trans hl, fun x hx => hm x (List.mem_cons_of_mem _ hx), e, rfl⟩⟩
  refine xss_one (xs_for PassesOwn.never rfl (xi_tup (xe_ix (xe_var 3) xe_int (ixo_tup rfl))) ?_)
  refine forR_inv (fun c => Rs.dat (eC c)) (fun l ρ => ∃ res' o2 o4 o5, res'.length = m.clocks.length ∧ (∀ c ∈ l, c ∈ r.conds) ∧ l.foldl capC res' = r.conds.foldl capC res ∧ ρ = [some (.rs (.mach (eM m))), some (.own (dI res')), o2, some (dat_ (eR r)), o4, o5])
    (map_dat _ _) ⟨res, _, _, _, hl, fun c h => h, rfl, rfl⟩ ?_ ?_
  · rintro ρ ⟨res', o2, o4, o5, _, _, e, rfl⟩
    have e : res' = r.conds.foldl capC res := e
    subst e
    exact ⟨_, by repeat constructor, rfl⟩
  rintro c l' ρ ⟨res', o2, o4, o5, hl', hm', e', rfl⟩
  obtain ⟨c0, c1⟩ := M.cl r hr' c (hm' c (List.mem_cons_self ..))
  have c2 : c.1 < (res'.length : Int) := by rw [hl']; exact c1
  refine ⟨_, _, _, Le.refl _, xg_tup rfl (xgs_cons (xg_name 2 sc_caps.nd) (xgs_cons (xg_name 4 sc_caps.nd) (xgs_cons (xg_name 5 sc_caps.nd) xgs_nil))), .inl ⟨_, xss_one (xs_setOwn 1 (xe_lend 1 (xe_callB T.max (xa_cons (xe_ix (xe_var 1) (xe_var 2) (ixo_list (atI_dI c0 c2))) (xa_cons (xe_var 5) xa_nil)) (co_max rfl)) rfl) (xe_var 2) (ixN_ok (n := (dI res').length) c0 (by rw [List.length_map]; exact c2))), capC res' c, some (int_ c.1), some (str_ c.2.1), some (int_ c.2.2), (capC_length _ _).trans hl', fun x hx => hm' x (List.mem_cons_of_mem _ hx), e', ?_⟩⟩
  simp only [capC, dI, List.map_set]
  rfl
theorem sc_clocks_at : FnScope ["machine", "clocks", "item", "value", "cap"] ["machine", "clocks", "item"] (defScope s_clocks_at) := ⟨rfl, rfl, rfl, by decide +kernel, rfl, by decide +kernel, by decide +kernel⟩
theorem C_clocks_at (T : Wd K mg) : FnG (gd K) P w K mg base 2 "clocks_at" 3 (fun rs en => ∃ (m : Mc) (cl : List Int) (item : Str), m.Ok ∧ cl.length = m.clocks.length ∧ rs = [.mach (eM m), .dat (.tuple (dI cl)), .dat (.str item)] ∧ en = tup_ (dI (clocksF m cl item))) := by
  obtain ⟨fd, F⟩ := T.df 9 (d := d_clocks_at)
  refine fnG_of F sc_clocks_at (T.glo 9) (fun _ _ _ _ _ _ us hl => match us, hl with | [_, _, _], _ => rfl) fun cdv A outer s H E hr rs en hl hφ => ⟨_, .inl rfl, ?_⟩
  obtain ⟨m, cl, item, M, hc, rfl, rfl⟩ := hφ
  by_cases h1 : item = TICK
  · refine xss_cons (xs_if (xt_cmp (xe_var 2) (xe_gstr T.tick) bin_neS) (fun h => absurd h (by rw [decide_eq_true h1]; exact Bool.false_ne_true)) (fun h => xss_nil)) ?_
    refine xss_one (xs_ret (xe_callT T.tuple (xa_cons (xe_fr (xe_lc [("value", 3), ("cap", 4)] rfl sc_clocks_at.nd (bk ["machine", "clocks", "item", "value", "cap"] s_clocks_at) (xi_zip (xe_var 1) (xe_call (C_caps T) (hr.mono (by decide)) (xa_cons (xe_var 0) xa_nil) ⟨m, M, rfl, rfl⟩) T.zip) (ds := dI (clocksF m cl item)) ?_ ?_)) xa_nil) co_tupL))
    · unfold clocksF
      rw [if_pos h1]
      refine LcR.rs (lcR_map (fun p : Int × Int => Rs.dat (.tuple [.int p.1, .int p.2])) (fun p => .int (if p.2 < p.1 + 1 then p.2 else p.1 + 1)) (cl.zip (capsF m)) fun p _ => ⟨_, fun X' ⟨_, _, _, _, _, e⟩ => by subst e; exact xg_tup rfl (xgs_cons (xg_name 3 sc_clocks_at.nd) (xgs_cons (xg_name 4 sc_clocks_at.nd) xgs_nil)),
        fun X' ⟨_, _, _, _, _, e⟩ => by subst e; exact xe_callB T.min (xa_cons (xe_bin (xe_var 3) xe_int bin_add) (xa_cons (xe_var 4) xa_nil)) (co_min rfl)⟩) ?_ ?_
      · rw [List.zip_map, List.map_map]
        rfl
      · unfold tickC
        simp only [dI, List.map_map]
        rfl
    · rw [List.length_map, clocksF_length hc]
      exact Nat.le_trans M.nc (by decide)
  · refine xss_ret (xs_if (xt_cmp (xe_var 2) (xe_gstr T.tick) bin_neS) (fun h => xss_one (xs_ret (XE.is (xe_var 1) ?_))) (fun h => absurd h (by rw [decide_eq_false h1]; exact fun z => Bool.noConfusion z)))
    unfold clocksF
    rw [if_neg h1]
end
end LC
namespace LC
open PySem PySem.Spec PyProof.Rows L2

/-! ### a small def called where a generator runs: it keeps the heap -/
section
variable {prog : Program} {w : World} {K : PySem.W.Frag} {x qual : Str} {params : Arguments} {body : List Stmt} {scope : Scope} {kws : List (Str × V)} {f : Addr} {fd : FuncData} {N ps : List Str}
theorem call_quiet {A : Around} {s : Shared} {E : Value → Shared → Prop} {us : List Value} {R : Value → Prop} (F : FunD K x qual params body scope [] kws f fd) (S : FnScope N ps scope) (hroom : A.depth < recursionLimit) (KX : K.In s.heap) (lim : s.heap.NoLimit)
    (hps : ∀ y ∈ ps, scope.names.lookup y = some .local)
    (hb : ∀ (kV doc pm : Value) (an : Option Addr) (cdv ct : Value) (us : List Value), us.length = ps.length → bindArgs (PySem.W.fnOf x qual params body scope .none kV doc pm an cdv ct) ⟨us, []⟩ = pure (ps.zip us)) (hl : us.length = ps.length)
    (hbody : ∀ (cdv : Value) (h1 : Heap) (tk : Nat) (m : Str → Option Value), h1.Ns s.heap.objs.size m → (∀ (i : Nat) (y : Str) (v : Value), ps[i]? = some y → us[i]? = some v → m y = some v) → (∀ b o, s.heap.get? b = some o → h1.get? b = some o) → ∀ E',
      wpAny (model prog w) (A.deeper (envOfC qual scope s.heap.objs.size f cdv)) (execs body (envOfC qual scope s.heap.objs.size f cdv)) (fun fl s' => ∃ u, fl = .ret u ∧ R u ∧ Keeps s s') E' { s with heap := h1, toks := tk }) :
    wpAny (model prog w) A (call (.ref f) us) (fun y s₃ => R y ∧ Keeps s s₃) E s := by
  have hbt := F.bindsA hb s us hl
  obtain ⟨oc, od, dV, kV, doc, pm, an, cdv, ct, osl, rfl, lk, hcd, _, _⟩ := F.ex
  have hkind : ∀ y ∈ ps.zip us, scope.names.lookup y.1 = some .local ∨ (scope.names.lookup y.1 = some .cell ∧ ((cellsFrom (s.heap.objs.size + 1) scope.names []).lookup y.1).isSome = true) := fun ⟨n, v⟩ hy => .inl (hps n (List.of_mem_zip hy).1)
  refine wpAny_call (codeAny_call_function hroom (KX _ _ lk) rfl S.co S.gen rfl (PySem.W.codeRec_of KX hcd) (hbt _ _ _ _ ?_))
  refine wpAny_newFunctionEnv_cells S.kind hkind fun env he s1 x => ?_
  subst he
  refine ⟨lim.keeps x.toInCall.keep, codeAny_func ?_⟩
  obtain ⟨h1, tk, rfl, hk⟩ := x.done
  have ndP : ps.Nodup := by rw [← S.pre]; exact S.nd.sublist (List.take_sublist _ _)
  refine wpAny_mono (hbody cdv h1 tk _ x.toInCall.ns (fun i y v h1 h2 => bindL_get ndP h1 h2 (hps y (List.mem_of_getElem? h1))) hk (fun _ _ => False)) (fun fl s' ⟨u, e, r, k⟩ => ?_) fun _ _ z => z.elim
  subst e
  exact ⟨r, k⟩
end
theorem cloFrom_lookup {cells : List (Str × Addr)} {names : List (Str × NameKind)} {n : Str} {c : Addr} (h : (n, NameKind.free) ∈ names) (hc : cells.lookup n = some c) : (cloFrom cells names []).lookup n = some c := by
  have m := cloFrom_has (cells := cells) (acc := []) h
  rw [hc] at m
  have hs : ∃ c', (cloFrom cells names []).lookup n = some c' := by
    cases e : (cloFrom cells names []).lookup n with
    | some c' => exact ⟨c', rfl⟩
    | none =>
      exfalso
      have := List.lookup_eq_none_iff.mp e _ m
      simp at this
  obtain ⟨c', e⟩ := hs
  rcases cloFrom_mem (PySem.mem_of_lookup e) with z | ⟨_, z⟩
  · cases z
  · rw [e, z, hc]
    rfl
section
variable {prog : Program} {w : World} {K : PySem.W.Frag} {kws : List (Str × V)} {f : Addr} {fd : FuncData}
theorem sc_holds : FnScope ["condition", "clocks", "clock", "comparison", "limit"] ["condition", "clocks"] (defScope s_holds) := ⟨rfl, rfl, rfl, by decide +kernel, rfl, by decide +kernel, by decide +kernel⟩
theorem holds_call {A : Around} {s : Shared} {E : Value → Shared → Prop} (F : FunD K "holds" "holds" (defArgs s_holds) (defBody s_holds) (defScope s_holds) [] kws f fd) (hA : A.handled = none) (hroom : A.depth < recursionLimit) (KX : K.In s.heap) (lim : s.heap.NoLimit)
    {t c : Addr} {k lm v : Int} {cmp : Str} {t1 t2 t3 t4 : Tok} {its : List Value} (ht : s.heap.IsTuple t #[.int k t1, .str cmp t2, .int lm t3]) (hc : s.heap.IsTuple c its.toArray) (hlo : 0 ≤ k) (hhi : k < 2 ^ 62) (hk : its[k.toNat]? = some (.int v t4)) :
    wpAny (model prog w) A (call (.ref f) [.ref t, .ref c]) (fun y s₃ => y = .bool (if cmp = ("under" : Str) then decide (v < lm) else decide (lm ≤ v)) ∧ Keeps s s₃) E s := by
  refine call_quiet F sc_holds hroom KX lim (by decide +kernel) (fun _ _ _ _ _ _ us hl => match us, hl with | [_, _], _ => rfl) rfl fun cdv h1 tk m hn hm hkp E' => ?_
  obtain ⟨hp, g, d, tk0, os⟩ := s
  have m0 : m "condition" = some (.ref t) := hm 0 _ _ rfl rfl
  have m1 : m "clocks" = some (.ref c) := hm 1 _ _ rfl rfl
  have hh : (A.deeper (envOfC "holds" (defScope s_holds) hp.objs.size f cdv)).handled = none := hA
  have tup1 : ∀ {a its} {h : Heap}, (∀ b o, hp.get? b = some o → h.get? b = some o) → hp.IsTuple a its → h.IsTuple a its := fun k ⟨o, e, r⟩ => ⟨o, k _ _ e, r⟩
  have hklt : k.toNat < its.length := (List.getElem?_eq_some_iff.mp hk).1
  have hL : ∀ b o, hp.get? b = some o → b ≠ hp.objs.size := fun b o e => Nat.ne_of_lt (Heap.lt_size e)
  refine wpAny_execs_cons (wpAny_Assign_stores (wpAny_Name (wpAny_loadName_local rfl rfl hn m0 ?_) (by decide)) rfl rfl)
  refine assign_Tuple_tuple (x1 := 0) hh (tup1 hkp ht) rfl rfl fun h2 hx2 => ?_
  have k2 : ∀ b o, hp.get? b = some o → h2.get? b = some o := fun b o e => hx2 b o (Nat.ne_of_lt (Heap.lt_size (hkp b o e))) (hkp b o e)
  have hn2 : h2.Ns hp.objs.size m := hn.extBut hx2 (Nat.ne_of_lt hn.lt)
  refine assignInOrder_cons (wpAny_assign_Name (wpAny_storeName_local rfl hn2 (fun h3 hn3 hs3 => ?_) rfl))
  refine assignInOrder_cons (wpAny_assign_Name (wpAny_storeName_local rfl hn3 (fun h4 hn4 hs4 => ?_) rfl))
  refine assignInOrder_cons (wpAny_assign_Name (wpAny_storeName_local rfl hn4 (fun h5 hn5 hs5 => ?_) rfl))
  refine assignInOrder_nil ?_
  show wpAny _ _ (execs _ _) _ _ (⟨h5, g, d, tk + 1 + 1 + 1, os⟩ : Shared)
  have k5 : ∀ b o, hp.get? b = some o → h5.get? b = some o := fun b o e => (hs5.2 b (hL b o e)).trans ((hs4.2 b (hL b o e)).trans ((hs3.2 b (hL b o e)).trans (k2 b o e)))
  have kp5 : ∀ tk', Keeps ⟨hp, g, d, tk0, os⟩ ⟨h5, g, d, tk', os⟩ := fun tk' => ⟨h5, tk', rfl, k5⟩
  have item : ∀ {Q : Value → Shared → Prop} {value slice : Expr} {tk'} {E' : Value → Shared → Prop}, Q (.int v t4) (⟨h5, g, d, tk', os⟩ : Shared) → (hs : subscripted slice false (.ref c) (.int k t1) = operate [.ref c, .int k t1] (getItem (.ref c) (.int k t1))) → (hg : ∀ r, letTemporaryGo value (.ref c) r = pure ()) →
      wpAny (model prog w) (A.deeper (envOfC "holds" (defScope s_holds) hp.objs.size f cdv)) (subscriptTail value slice (.ref c) (.int k t1)) Q E' (⟨h5, g, d, tk', os⟩ : Shared) := fun q hs hg =>
    item_tupleL (j := k.toNat) (tup1 k5 hc) (by omega) (by omega) (PySem.StrLaws.seqIndex_nonneg hlo (by omega)) hk q hs hg
  refine wpAny_execs_cons (wpAny_If (wpAny_isTrue_Compare1 (wpAny_Name (wpAny_loadName_local rfl rfl hn5 rfl ?_) (by decide)) (nomark _)))
  refine Calls.Constant_str (eq_str (wpAny_truthy_bool ?_))
  by_cases hu : cmp = ("under" : Str)
  · rw [if_pos (show (cmp == ("under" : Str)) = true by rw [hu]; exact beq_self_eq_true _)]
    refine wpAny_execs_cons (wpAny_Return_some (wpAny_Compare1 (Subscript_ (wpAny_Name (wpAny_loadName_local rfl rfl hn5 m1 ?_) (by decide))) (nomark _)))
    refine wpAny_Name (wpAny_loadName_local rfl rfl hn5 rfl ?_) (by decide)
    refine item ?_ (by with_unfolding_all rfl) (by intro _; with_unfolding_all rfl)
    refine wpAny_Name (wpAny_loadName_local rfl rfl hn5 rfl ?_) (by decide)
    refine lt_int ⟨_, rfl, ?_, kp5 _⟩
    rw [if_pos hu]
  · rw [if_neg (show ¬ (cmp == ("under" : Str)) = true from fun z => hu (eq_of_beq z))]
    refine wpAny_execs_nil ?_
    refine wpAny_execs_cons (wpAny_Return_some (wpAny_Compare1 (Subscript_ (wpAny_Name (wpAny_loadName_local rfl rfl hn5 m1 ?_) (by decide))) (nomark _)))
    refine wpAny_Name (wpAny_loadName_local rfl rfl hn5 rfl ?_) (by decide)
    refine item ?_ (by with_unfolding_all rfl) (by intro _; with_unfolding_all rfl)
    refine wpAny_Name (wpAny_loadName_local rfl rfl hn5 rfl ?_) (by decide)
    refine ge_int ⟨_, rfl, ?_, kp5 _⟩
    rw [if_neg hu]
end
theorem dt_ints {F : Hp} : ∀ {l : List Int} {vs : List V}, DtAll F vs (dI l) → vs = l.map V.int
  | [], _, .nil => rfl
  | a :: l, _, .cons h t => by
    cases h
    rw [dt_ints t]
    rfl
section
variable {G : Gd} {X : Cx} {ρ : Ro} {P : Addr} {scope : Scope} {x : Str} {kws : List (Str × V)} {f : Addr} {fd : FuncData} {k j : Nat}
/-- holds(condition, clocks), clocks captured -/
theorem elt_holds {p1 p2 p3 p4 : Pos} {cl : List Int} {cs : List (Int × Str × Int)} (TH : TabH G P) (hr : Room (k + 1) X.A) (F : FunD X.K "holds" "holds" (defArgs s_holds) (defBody s_holds) (defScope s_holds) [] kws f fd) (hmg : X.mg "holds" = some (.ref f)) (hk : scope.kind = .function) (hl : scope.names.lookup x = some .local)
    (hg : scope.names.lookup ("holds" : Str) = some .globalImplicit) (hfr : scope.names.lookup ("clocks" : Str) = some .free) (hN : X.N[j]? = some ("clocks" : Str)) (hcl : X.env.scope.names.lookup ("clocks" : Str) = some .cell) (hρ : ρ[j]? = some (some (tup_ (dI cl)))) (hc : ∀ c ∈ cs, 0 ≤ c.1 ∧ c.1 < cl.length) (hz : cl.length ≤ 1000) (hd : (x == ("__debug__" : Str)) = false := by decide) :
    EltD G X ρ P scope x (.Call (.Name "holds" p1) [.Name x p2, .Name "clocks" p3] [] p4) (cs.map eC) (fun i => holdsF cl (cs.getD i (0, "", 0))) := by
  intro H0 F0 γ σ H F1 pins s its vs S I a r cenv A' E' i u s₂ m₂ c1 c2 c3 hA hdp hun hi hn hm hkp
  have K : Kp X s H P s₂ := ⟨TH.is _ S.tab, hkp⟩
  obtain ⟨v, d, e1, e2, e3, e4⟩ := item_at a r hi
  rw [List.getElem?_map] at e2
  cases hq : cs[i]? with
  | none => rw [hq] at e2; cases e2
  | some q =>
    rw [hq] at e2
    cases e2
    obtain ⟨k0, cmp, lm⟩ := q
    obtain ⟨q1, q2⟩ := hc _ (List.mem_of_getElem? hq)
    cases e3 with
    | @tup t xs _ ht hds =>
      cases e4
      obtain ⟨its2, rv2, pt, _⟩ := I.tuple (SqT.of (S.fz.same _ _ ht))
      cases hds with
      | cons d1 hds =>
        cases hds with
        | cons d2 hds =>
          cases hds with
          | cons d3 hds =>
            cases hds
            cases d1
            cases d2
            cases d3
            cases rv2 with
            | cons r1 rv2 =>
              cases rv2 with
              | cons r2 rv2 =>
                cases rv2 with
                | cons r3 rv2 =>
                  cases rv2
                  obtain ⟨t1, rfl⟩ := r1
                  obtain ⟨t2, rfl⟩ := r2
                  obtain ⟨t3, rfl⟩ := r3
                  obtain ⟨vc, g1, g2⟩ := S.slot hρ
                  cases g2 with
                  | @tup tc ys _ htc hdc =>
                    have ey := dt_ints hdc
                    subst ey
                    obtain ⟨its3, rv3, pc, _⟩ := I.tuple (SqT.of (S.fz.same _ _ htc))
                    obtain ⟨m, hnL, hlook⟩ := I.loc
                    obtain ⟨uc, ruc, lk⟩ := hlook j _ _ hN g1 (.inr (.inl hcl))
                    cases ruc
                    rcases lk with ⟨lk, _⟩ | ⟨_, cc, hcc, hcell⟩
                    · rw [show X.env.kindOf "clocks" = some .cell from hcl] at lk
                      cases lk
                    · have hcell2 : s₂.heap.IsCell cc (some (.ref tc)) := by
                        obtain ⟨o, ho, hod⟩ := hcell
                        obtain ⟨ps, hP, _⟩ := K.tab
                        refine ⟨o, K.kp _ _ (fun z => ?_) ho, hod⟩
                        have q : s.heap.get? P = some { cls := .none, data := .fields ps } := I.hok P _ hP
                        rw [z, q] at ho
                        cases ho
                        cases hod
                      have hlt : k0.toNat < cl.length := by omega
                      have hv : (cl.map V.int)[k0.toNat]? = some (.int (cl.getD k0.toNat 0)) := by
                        rw [List.getElem?_map, List.getElem?_eq_getElem hlt, List.getD_eq_getElem?_getD, List.getElem?_eq_getElem hlt]
                        rfl
                      obtain ⟨uv, hu1, hu2⟩ := rv3.get hv
                      obtain ⟨t4, rfl⟩ := hu2
                      refine wpAny_Call_Name_kw (Calls.Name_function_global (by rw [c1]; exact hk) (show cenv.scope.names.lookup ("holds" : Str) = some .globalImplicit by rw [c1]; exact hg) (Calls.loadGlobal_global (by rw [c2]; exact K.glob I) hmg ?_) (by decide))
                      refine PySem.W.callWith_K (h₀ := X.base) I.ok.mod.kin F.kp ?_ (by rfl) (by rfl)
                      show wpAny _ _ (spliced ((false, eval (.Name x p2) cenv) :: [(false, eval (.Name "clocks" p3) cenv)])) _ _ s₂
                      refine Calls.spliced_cons (wpAny_Name (wpAny_loadName_local (by rw [c1]; exact hk) (show cenv.scope.names.lookup x = some .local by rw [c1]; exact hl) hn hm ?_) hd)
                      refine Calls.spliced_cons (wpAny_Name (wpAny_loadName_free (by rw [c1]; exact hk) (show cenv.scope.names.lookup ("clocks" : Str) = some .free by rw [c1]; exact hfr) (by rw [c3]; exact cloFrom_lookup (PySem.mem_of_lookup hfr) hcc) hcell2 ?_ (by decide)) (by decide))
                      refine Calls.spliced_nil ⟨I.ok.mod.kin.keeps (K.base I), ?_⟩
                      refine wpAny_mono (holds_call F hA (by have := hr.dp; omega) (I.ok.mod.kin.keeps (K.base I)) (I.ok.mod.nolimit.keeps (K.base I)) (K.tup I pt) (K.tup I pc) q1 (by have q2 : k0 < (cl.length : Int) := q2; omega) hu1) (fun y s3 ⟨h1, h2⟩ => ⟨?_, h2⟩) fun _ _ z => z
                      have ee : cs.getD i (0, "", 0) = (k0, cmp, lm) := by
                        rw [List.getD_eq_getElem?_getD, hq]
                        rfl
                      show y = Value.bool (holdsF cl (cs.getD i (0, "", 0)))
                      rw [h1, ee]
                      rfl
end
end LC
namespace LC
open PySem PySem.Spec PyProof.Rows L2

theorem range_all {α : Type} (f : α → Bool) (d : α) (l : List α) : (List.range l.length).all (fun i => f (l.getD i d)) = l.all f := by
  rw [Bool.eq_iff_iff, List.all_eq_true, List.all_eq_true]
  constructor
  · intro h x hx
    obtain ⟨j, hj, e⟩ := List.getElem_of_mem hx
    have q := h j (List.mem_range.mpr hj)
    rw [List.getD_eq_getElem?_getD, List.getElem?_eq_getElem hj, e] at q
    exact q
  · intro h j hj
    have hj' := List.mem_range.mp hj
    rw [List.getD_eq_getElem?_getD, List.getElem?_eq_getElem hj']
    exact h _ (List.getElem_mem hj')
theorem range_any {α : Type} (f : α → Bool) (d : α) (l : List α) : (List.range l.length).any (fun i => f (l.getD i d)) = l.any f := by
  rw [Bool.eq_iff_iff, List.any_eq_true, List.any_eq_true]
  constructor
  · rintro ⟨j, hj, h⟩
    have hj' := List.mem_range.mp hj
    rw [List.getD_eq_getElem?_getD, List.getElem?_eq_getElem hj'] at h
    exact ⟨_, List.getElem_mem hj', h⟩
  · rintro ⟨x, hx, h⟩
    obtain ⟨j, hj, e⟩ := List.getElem_of_mem hx
    exact ⟨j, List.mem_range.mpr hj, by rw [List.getD_eq_getElem?_getD, List.getElem?_eq_getElem hj, e]; exact h⟩
/-- a generator expression's scope within a def's -/
def genC (dsc scope : Scope) (x : Str) : Bool := (match scope.kind with | .function => true | _ => false) && (!scope.isCoroutine && ((scope.names.all fun y => match y.2 with | .cell => false | .free => (match dsc.names.lookup y.1 with | some .cell => true | _ => false) | _ => true) &&
  (decide (scope.names.lookup (".0" : Str) = some NameKind.local) && decide (scope.names.lookup x = some NameKind.local))))
theorem genS {env : Env} {dsc scope : Scope} {x : Str} {n : Nat} (he : env.cells = cellsFrom n dsc.names []) (h : genC dsc scope x = true) : GxR.GenS env scope x := by
  unfold genC at h
  simp only [Bool.and_eq_true, Bool.not_eq_true', List.all_eq_true, decide_eq_true_eq] at h
  obtain ⟨h1, h2, h3, h4, h5⟩ := h
  refine ⟨?_, h2, fun y hy e => ?_, h4, h5, fun y hy e => ?_⟩
  · split at h1
    · assumption
    · cases h1
  · have q := h3 y hy
    rw [e] at q
    cases q
  · have q := h3 y hy
    rw [e] at q
    simp only at q
    split at q
    · rename_i hc
      rw [he]
      exact cell_has hc
    · cases q
section
variable {P : Program} {w : World} {K : PySem.W.Frag} {mg : Str → Option Value} {base : Heap}
theorem sc_first_rule : FnScope ["machine", "state", "clocks", "item", "rule", "condition"] ["machine", "state", "clocks", "item"] (defScope s_first_rule) := ⟨rfl, rfl, rfl, by decide +kernel, rfl, by decide +kernel, by decide +kernel⟩
theorem C_first_rule (T : Wt K mg base) : FnG (gd K) P w K mg base 4 "first_rule" 4 (fun rs en => ∃ (m : Mc) (st : Int) (cl : List Int) (item : Str), m.Ok ∧ cl.length = m.clocks.length ∧ rs = [.mach (eM m), .dat (.int st), .dat (.tuple (dI cl)), .dat (.str item)] ∧ en = dat_ (eRo (ruleF m st cl item))) := by
  obtain ⟨fd, F⟩ := T.w.df 10 (d := d_first_rule)
  refine fnG_ofC (at_ := ("first_rule", none)) F sc_first_rule (T.w.glo 10) (fun _ _ _ _ _ _ us hl => match us, hl with | [_, _, _, _], _ => rfl) fun A outer s H E hr rs en hl hφ => ⟨_, .inl rfl, ?_⟩
  obtain ⟨m, st, cl, item, M, hc, rfl, rfl⟩ := hφ
  obtain ⟨fdh, Fh⟩ := T.w.df 8 (d := d_holds)
  have body : ∀ (r : Rl) (o4 o5 : Option En) (o : Out), r ∈ m.rules → (ruleIs st cl item r = true → o = .rt (dat_ (eR r))) → (ruleIs st cl item r = false → o = .nx [some (.rs (.mach (eM m))), some (int_ st), some (tup_ (dI cl)), some (str_ item), some (dat_ (eR r)), o5]) →
      XSs (gd K) (bx P w K mg base ["machine", "state", "clocks", "item", "rule", "condition"] d_first_rule.qual d_first_rule.scope (He.fAd K ("first_rule", none)) (.ref (He.codeOf K ("first_rule", none))) A outer s H E) (fun _ => False)
        (match s_first_rule with | .FunctionDef _ _ (.For _ _ b _ _ :: _) _ _ _ _ _ _ _ => b | _ => []) [some (.rs (.mach (eM m))), some (int_ st), some (tup_ (dI cl)), some (str_ item), some (dat_ (eR r)), o5] o := by
    intro r o4 o5 o hr' ht hf
    refine xss_one (xs_if (XW.t (xw_and (xt_cmp (xe_ix (xe_var 4) xe_int (ixo_tup rfl)) (xe_var 1) bin_eqI) fun h => xw_and1 (xt_cmp (xe_ix (xe_var 4) xe_int (ixo_tup rfl)) (xe_var 3) bin_eqS))) (fun h => ?_) (fun h => ?_))
    · refine xss_one (xs_if (xt_val (xe_all hr (gd_tab (p := ("first_rule", none)) (by decide +kernel)) (T.tb ("first_rule", none) (by decide +kernel)) rfl (genS (dsc := defScope s_first_rule) rfl (by decide +kernel)) T.w.all_ (xe_ix (xe_var 4) xe_int (ixo_tup (d := .tuple (r.conds.map eC)) rfl))
          (elt_holds (j := 2) (cs := r.conds) (cl := cl) (gd_tab (p := ("first_rule", none)) (by decide +kernel)) hr Fh (T.w.glo 8) rfl rfl rfl rfl rfl rfl rfl (fun c hcc => by rw [hc]; exact M.cl r hr' c hcc) (by rw [hc]; exact M.nc)))) (fun h2 => ?_) (fun h2 => ?_))
      · refine xss_one (XS.is (xs_ret (xe_var 4)) ?_)
        refine (ht ?_).symm
        rw [List.length_map, range_all (holdsF cl)] at h2
        unfold ruleIs
        rw [h, h2]
        rfl
      · refine XSs.is xss_nil ?_
        refine (hf ?_).symm
        rw [List.length_map, range_all (holdsF cl)] at h2
        unfold ruleIs
        rw [h, h2]
        rfl
    · refine XSs.is xss_nil ?_
      refine (hf ?_).symm
      unfold ruleIs
      rw [h]
      rfl
  cases hq : ruleF m st cl item with
  | none =>
    refine xss_cons (xs_for PassesOwn.never rfl (xi_tup (xe_rules T.w (xe_var 0))) (o := .nx [some (.rs (.mach (eM m))), some (int_ st), some (tup_ (dI cl)), some (str_ item), none, none]) ?_) <| xss_one (xs_ret xe_non)
    refine forR_inv (fun r => Rs.dat (eR r)) (fun l ρ => ∃ o4 o5, (∀ r ∈ l, r ∈ m.rules) ∧ l.find? (ruleIs st cl item) = none ∧ ρ = [some (.rs (.mach (eM m))), some (int_ st), some (tup_ (dI cl)), some (str_ item), o4, o5]) (map_dat _ _) ⟨none, none, fun r h => h, hq, rfl⟩ ?_ ?_
    · rintro ρ ⟨o4, o5, _, _, rfl⟩
      exact ⟨_, by repeat constructor, rfl⟩
    · rintro r l ρ ⟨o4, o5, hm, hn, rfl⟩
      have hp : ruleIs st cl item r = false := by
        have := List.find?_eq_none.mp hn r (List.mem_cons_self ..)
        simpa using this
      refine ⟨_, _, _, Le.refl _, xg_name 4 sc_first_rule.nd, .inl ⟨_, body r o4 o5 _ (hm r (List.mem_cons_self ..)) (fun h => by rw [hp] at h; cases h) (fun _ => rfl), _, o5, fun x hx => hm x (List.mem_cons_of_mem _ hx), ?_, rfl⟩⟩
      rw [List.find?_cons_of_neg (by rw [hp]; exact Bool.false_ne_true)] at hn
      exact hn
  | some r0 =>
    refine xss_ret (xs_for PassesOwn.never rfl (xi_tup (xe_rules T.w (xe_var 0))) ?_)
    refine forR_inv (fun r => Rs.dat (eR r)) (fun l ρ => ∃ o4 o5, (∀ r ∈ l, r ∈ m.rules) ∧ l.find? (ruleIs st cl item) = some r0 ∧ ρ = [some (.rs (.mach (eM m))), some (int_ st), some (tup_ (dI cl)), some (str_ item), o4, o5]) (map_dat _ _) ⟨none, none, fun r h => h, hq, rfl⟩ ?_ ?_
    · rintro ρ ⟨o4, o5, _, h, rfl⟩
      cases h
    · rintro r l ρ ⟨o4, o5, hm, hn, rfl⟩
      refine ⟨_, _, _, Le.refl _, xg_name 4 sc_first_rule.nd, ?_⟩
      cases hp : ruleIs st cl item r with
      | true =>
        rw [List.find?_cons_of_pos hp] at hn
        have e : r0 = r := (Option.some.inj hn).symm
        subst e
        exact .inr ⟨body _ o4 o5 _ (hm _ (List.mem_cons_self ..)) (fun _ => rfl) (fun h => by rw [hp] at h; cases h), fun ρ' z => nomatch z⟩
      | false =>
        rw [List.find?_cons_of_neg (by rw [hp]; exact Bool.false_ne_true)] at hn
        exact .inl ⟨_, body r o4 o5 _ (hm r (List.mem_cons_self ..)) (fun h => by rw [hp] at h; cases h) (fun _ => rfl), _, o5, fun x hx => hm x (List.mem_cons_of_mem _ hx), hn, rfl⟩
end
end LC
namespace LC
open PySem PySem.Spec PyProof.Rows L2

theorem inV_ints (i : Int) : ∀ l : List Int, inV (.int i) (l.map V.int) = decide (i ∈ l)
  | [] => rfl
  | a :: l => by
    show (eqV (.int a) (.int i) || inV (.int i) (l.map V.int)) = decide (i ∈ a :: l)
    rw [inV_ints i l, show eqV (.int a) (.int i) = (a == i) from rfl]
    by_cases h : a = i
    · rw [h, beq_self_eq_true, Bool.true_or]
      exact (decide_eq_true (List.mem_cons_self ..)).symm
    · rw [beq_eq_false_iff_ne.mpr h, Bool.false_or]
      exact decide_eq_decide.mpr ⟨fun m => List.mem_cons_of_mem _ m, fun m => (List.mem_cons.mp m).resolve_left fun z => h z.symm⟩
theorem fl_ints (l : List Int) : (dI l).map fl = (l.map V.int).map some := by
  simp only [dI, List.map_map]
  rfl
theorem flat_ints : ∀ l : List Int, (l.map V.int).all flatV = true
  | [] => rfl
  | _ :: l => flat_ints l
theorem dI_getD {l : List Int} {k : Nat} (h : k < l.length) : (dI l).getD k .none = .int (l.getD k 0) := by
  rw [List.getD_eq_getElem?_getD, dI_get h]
  rfl
theorem isN_eO (o : Option Int) : isNoneR (.dat (eO o)) = o.isNone := by cases o <;> rfl
section
variable {P : Program} {w : World} {K : PySem.W.Frag} {mg : Str → Option Value} {base : Heap}
theorem sc_forbids : FnScope ["machine", "configuration", "item", "clocks", "rule"] ["machine", "configuration", "item"] (defScope s_forbids) := ⟨rfl, rfl, rfl, by decide +kernel, rfl, by decide +kernel, by decide +kernel⟩
theorem C_forbids (T : Wt K mg base) : FnG (gd K) P w K mg base 5 "forbids" 3 (fun rs en => ∃ (m : Mc) (c : Cf) (item : Str), m.Ok ∧ c.Ok m ∧ rs = [.mach (eM m), .dat (eF c), .dat (.str item)] ∧ en = bl_ (forbidsF m c item)) := by
  obtain ⟨fd, F⟩ := T.w.df 11 (d := d_forbids)
  refine fnG_of F sc_forbids (T.w.glo 11) (fun _ _ _ _ _ _ us hl => match us, hl with | [_, _, _], _ => rfl) fun cdv A outer s H E hr rs en hl hφ => ⟨_, .inl rfl, ?_⟩
  obtain ⟨m, c, item, M, C, rfl, rfl⟩ := hφ
  have hl2 := clocksF_length (m := m) C item
  refine xss_cons (xs_set 3 (xe_call (C_clocks_at T.w) (hr.mono (by decide)) (xa_cons (xe_var 0) (xa_cons (xe_ix (xe_var 1) xe_int (ixo_tup rfl)) (xa_cons (xe_var 2) xa_nil))) ⟨m, c.2, item, M, C, rfl, rfl⟩) sc_forbids.nd) ?_
  unfold forbidsF
  cases hq : ruleF m c.1 (clocksF m c.2 item) item with
  | none =>
    refine xss_cons (xs_set 4 (xe_call (C_first_rule T) (hr.mono (by decide)) (xa_cons (xe_var 0) (xa_cons (xe_ix (xe_var 1) xe_int (ixo_tup rfl)) (xa_cons (xe_var 3) (xa_cons (xe_var 2) xa_nil)))) ⟨m, c.1, clocksF m c.2 item, item, M, hl2, rfl, by rw [hq]⟩) sc_forbids.nd) ?_
    exact xss_one (xs_ret (xe_and (k := false) (j := false) (XE.is (xe_cmp (xe_var 4) xe_non bin_notN) rfl) fun h => absurd h Bool.false_ne_true))
  | some r =>
    refine xss_cons (xs_set 4 (xe_call (C_first_rule T) (hr.mono (by decide)) (xa_cons (xe_var 0) (xa_cons (xe_ix (xe_var 1) xe_int (ixo_tup rfl)) (xa_cons (xe_var 3) (xa_cons (xe_var 2) xa_nil)))) (en := dat_ (eR r)) ⟨m, c.1, clocksF m c.2 item, item, M, hl2, rfl, by rw [hq]; rfl⟩) sc_forbids.nd) ?_
    refine xss_one (xs_ret (XE.is (xe_and (xe_cmp (xe_var 4) xe_non bin_notN) fun h => xe_one (xe_cmp (xe_ix (xe_var 4) xe_int (ixo_tup (d := eO r.tgt) rfl)) xe_non bin_isN)) ?_))
    rw [isN_eO]
    rfl
theorem sc_step : FnScope ["machine", "configuration", "item", "clocks", "rule", "values", "k", "value"] ["machine", "configuration", "item"] (defScope s_step) := ⟨rfl, rfl, rfl, by decide +kernel, rfl, by decide +kernel, by decide +kernel⟩
theorem C_step (T : Wt K mg base) : FnG (gd K) P w K mg base 5 "step" 3 (fun rs en => ∃ (m : Mc) (c : Cf) (item : Str), m.Ok ∧ c.Ok m ∧ rs = [.mach (eM m), .dat (eF c), .dat (.str item)] ∧ en = tup_ [eF (stepF m c item).1, .tuple ((stepF m c item).2.map eG)]) := by
  obtain ⟨fd, F⟩ := T.w.df 12 (d := d_step)
  refine fnG_of F sc_step (T.w.glo 12) (fun _ _ _ _ _ _ us hl => match us, hl with | [_, _, _], _ => rfl) fun cdv A outer s H E hr rs en hl hφ => ⟨_, .inl rfl, ?_⟩
  obtain ⟨m, c, item, M, C, rfl, rfl⟩ := hφ
  have hl2 := clocksF_length (m := m) C item
  refine xss_cons (xs_set 3 (xe_call (C_clocks_at T.w) (hr.mono (by decide)) (xa_cons (xe_var 0) (xa_cons (xe_ix (xe_var 1) xe_int (ixo_tup rfl)) (xa_cons (xe_var 2) xa_nil))) ⟨m, c.2, item, M, C, rfl, rfl⟩) sc_step.nd) ?_
  unfold stepF
  cases hq : ruleF m c.1 (clocksF m c.2 item) item with
  | none =>
    refine xss_cons (xs_set 4 (xe_call (C_first_rule T) (hr.mono (by decide)) (xa_cons (xe_var 0) (xa_cons (xe_ix (xe_var 1) xe_int (ixo_tup rfl)) (xa_cons (xe_var 3) (xa_cons (xe_var 2) xa_nil)))) ⟨m, c.1, clocksF m c.2 item, item, M, hl2, rfl, by rw [hq]⟩) sc_step.nd) ?_
    exact xss_ret (xs_if (XW.t (xw_or (k := true) (j := false) (XT.is (xt_cmp (xe_var 4) xe_non bin_isN) rfl) fun h => absurd (show true = false from h) Bool.noConfusion)) (fun h => xss_one (xs_ret (XE.is (xe_tup (xd_cons (xe_tup (xd_cons (xe_ix (xe_var 1) xe_int (ixo_tup rfl)) (xd_cons (xe_var 3) xd_nil))) (xd_cons (xe_tup xd_nil) xd_nil))) rfl))) (fun h => absurd (show true = false from h) Bool.noConfusion))
  | some r =>
    refine xss_cons (xs_set 4 (xe_call (C_first_rule T) (hr.mono (by decide)) (xa_cons (xe_var 0) (xa_cons (xe_ix (xe_var 1) xe_int (ixo_tup rfl)) (xa_cons (xe_var 3) (xa_cons (xe_var 2) xa_nil)))) (en := dat_ (eR r)) ⟨m, c.1, clocksF m c.2 item, item, M, hl2, rfl, by rw [hq]; rfl⟩) sc_step.nd) ?_
    cases hg : r.tgt with
    | none =>
      simp only [hg]
      exact xss_ret (xs_if (XW.t (xw_or (xt_cmp (xe_var 4) xe_non bin_isN) fun h => xw_or1 (xt_cmp (xe_ix (xe_var 4) xe_int (ixo_tup (d := eO r.tgt) rfl)) xe_non bin_isN))) (fun h => xss_one (xs_ret (XE.is (xe_tup (xd_cons (xe_tup (xd_cons (xe_ix (xe_var 1) xe_int (ixo_tup rfl)) (xd_cons (xe_var 3) xd_nil))) (xd_cons (xe_tup xd_nil) xd_nil))) rfl)))
        (fun h => by rw [isN_eO, hg] at h; exact absurd h (fun z => Bool.noConfusion z)))
    | some t =>
      simp only [hg]
      refine xss_cons (xs_if (XW.t (xw_or (xt_cmp (xe_var 4) xe_non bin_isN) fun h => xw_or1 (xt_cmp (xe_ix (xe_var 4) xe_int (ixo_tup (d := eO r.tgt) rfl)) xe_non bin_isN))) (fun h => by rw [isN_eO, hg] at h; exact absurd h (fun z => Bool.noConfusion z)) (fun h => xss_nil)) ?_
      refine xss_cons (xs_setLc 5 [("k", 6), ("value", 7)] rfl sc_step.nd (bk ["machine", "configuration", "item", "clocks", "rule", "values", "k", "value"] s_step) (xi_enum (xe_var 3) T.w.enumerate) (ds := dI (resetC (clocksF m c.2 item) r.resets)) ?_ ?_ (sw_true rfl rfl rfl (by decide +kernel))) <|
        xss_freeze 5 <| xss_one (xs_ret (xe_tup (xd_cons (xe_tup (xd_cons (xe_ix (xe_var 4) xe_int (ixo_tup (by rw [hg]; rfl))) (xd_cons (xe_callT T.w.tuple (xa_cons (xe_var 5) xa_nil) co_tupL) xd_nil))) (xd_cons (xe_ix (xe_var 4) xe_int (ixo_tup rfl)) xd_nil))))
      · refine LcR.rs (lcR_map (fun (i : Nat) => Rs.dat (.tuple [.int (i : Int), (dI (clocksF m c.2 item)).getD i .none])) (fun (i : Nat) => .int (if (i : Int) ∈ r.resets then 0 else (clocksF m c.2 item).getD i 0)) (List.range (dI (clocksF m c.2 item)).length) fun i hi => ?_) rfl ?_
        · have hi' : i < (clocksF m c.2 item).length := by
            have := List.mem_range.mp hi
            rwa [List.length_map] at this
          rw [dI_getD hi']
          refine ⟨_, fun X' ⟨_, _, _, _, _, e⟩ => by subst e; exact xg_tup rfl (xgs_cons (xg_name 6 sc_step.nd) (xgs_cons (xg_name 7 sc_step.nd) xgs_nil)), fun X' ⟨_, _, _, _, _, e⟩ => ?_⟩
          subst e
          refine xe_ifExp (xt_cmp (xe_var 6) (xe_ix (xe_var 4) xe_int (ixo_tup rfl)) (bin_inT (u := .int (i : Int)) (us := r.resets.map V.int) rfl (fl_ints _) rfl (flat_ints _))) (fun h => XE.is xe_int ?_) (fun h => XE.is (xe_var 7) ?_)
          · rw [inV_ints] at h
            rw [if_pos (of_decide_eq_true h)]
          · rw [inV_ints] at h
            rw [if_neg (of_decide_eq_false h)]
        · unfold resetC
          rw [List.length_map]
          simp only [dI, List.map_map]
          rfl
      · rw [List.length_map, resetC_length, hl2]
        exact Nat.le_trans M.nc (by decide)
end
end LC
namespace LC
open PySem PySem.Spec PyProof.Rows L2

structure Cs.Ok (c : Cs) : Prop where
  p : c.prog.Ok
  t : c.traf.Ok
  v : c.views.length = c.prog.chans.length
  q0 : 0 ≤ c.quiet
  q1 : c.quiet ≤ 60
theorem getD_map {α : Type} (f : α → PyData) (l : List α) (k : Nat) (d : α) (h : k < l.length) : (l.map f).getD k .none = f (l.getD k d) := by
  rw [List.getD_eq_getElem?_getD, List.getD_eq_getElem?_getD, List.getElem?_map, List.getElem?_eq_getElem h]
  rfl
theorem atI_map {α : Type} (f : α → PyData) (l : List α) (k : Nat) (d : α) (h : k < l.length) : atI (l.map f) (k : Int) = some (f (l.getD k d)) := by
  refine atI_some ?_
  rw [List.getElem?_map, List.getElem?_eq_getElem h, List.getD_eq_getElem?_getD, List.getElem?_eq_getElem h]
  rfl
theorem sigsOf_le (k : Int) (l : List (Int × Str)) : (sigsOf k l).length ≤ l.length := by
  unfold sigsOf
  rw [List.length_map]
  exact List.length_filter_le _ _
theorem mem_getD {α : Type} {l : List α} {k : Nat} {d : α} (h : k < l.length) : l.getD k d ∈ l := by
  rw [List.getD_eq_getElem?_getD, List.getElem?_eq_getElem h]
  exact List.getElem_mem h
/-- one channel's difference -/
def ext1 (c : Cs) (ds : List Df) (sa sb : List (Int × Str)) (k : Nat) : Df := extF (c.views.getD k "") (c.prog.chans.getD k ("", [])).2 (ds.getD k ([], [])) (sigsOf k sa) (sigsOf k sb)
theorem extDs_eq (c : Cs) (ds : List Df) (sa sb : List (Int × Str)) : extDs c ds sa sb = (List.range ds.length).map (ext1 c ds sa sb) := rfl
section
variable {P : Program} {w : World} {K : PySem.W.Frag} {mg : Str → Option Value} {base : Heap}
theorem sc_first_scene : FnScope ["case", "begin", "differences", "view"] ["case"] (defScope s_first_scene) := ⟨rfl, rfl, rfl, by decide +kernel, rfl, by decide +kernel, by decide +kernel⟩
theorem C_first_scene (T : Wd K mg) : FnG (gd K) P w K mg base 2 "first_scene" 1 (fun rs en => ∃ c : Cs, c.Ok ∧ rs = [.cas (eK c)] ∧ en = tup_ [eF (startF c.traf), .tuple [], eF (startF c.prog), eF (startF c.prog), .tuple ((c.views.map fun _ => (([], []) : Df)).map eD)]) := by
  obtain ⟨fd, F⟩ := T.df 13 (d := d_first_scene)
  refine fnG_of F sc_first_scene (T.glo 13) (fun _ _ _ _ _ _ us hl => match us, hl with | [_], _ => rfl) fun cdv A outer s H E hr rs en hl hφ => ⟨_, .inl rfl, ?_⟩
  obtain ⟨c, C, rfl, rfl⟩ := hφ
  refine xss_cons (xs_set 1 (xe_call (C_start T) (hr.mono (by decide)) (xa_cons (xe_prog T (xe_var 0)) xa_nil) ⟨c.prog, C.p, rfl, rfl⟩) sc_first_scene.nd) <|
    xss_cons (xs_set 2 (xe_callT T.tuple (xa_cons (xe_fr (xe_lc [("view", 3)] rfl sc_first_scene.nd (bk ["case", "begin", "differences", "view"] s_first_scene) (xi_tup (xe_vws T (xe_var 0))) (ds := (c.views.map fun _ => (([], []) : Df)).map eD) ?_ ?_)) xa_nil) co_tupL) sc_first_scene.nd) <|
    xss_one (xs_ret (xe_tup (xd_cons (xe_call (C_start T) (hr.mono (by decide)) (xa_cons (xe_traf T (xe_var 0)) xa_nil) ⟨c.traf, C.t, rfl, rfl⟩) (xd_cons (xe_tup xd_nil) (xd_cons (xe_var 1) (xd_cons (xe_var 1) (xd_cons (xe_var 2) xd_nil)))))))
  · rw [map_dat, show (c.views.map fun _ => (([], []) : Df)).map eD = c.views.map fun _ => eD ([], []) from List.map_map ..]
    exact lcR_map _ _ _ fun a _ => ⟨_, fun X' ⟨_, _, _, _, _, e⟩ => by subst e; exact xg_name 3 sc_first_scene.nd, fun X' ⟨_, _, _, _, _, e⟩ => by subst e; exact xe_tup (xd_cons (xe_tup xd_nil) (xd_cons (xe_tup xd_nil) xd_nil))⟩
  · rw [List.length_map, List.length_map, C.v]
    exact Nat.le_trans C.p.nh (by decide)
theorem sc_extended_differences : FnScope ["case", "differences", "sent_signals", "received_signals", "result", "k", "pair", "first", "channel", "signal", "second", "signals"] ["case", "differences", "sent_signals", "received_signals"] (defScope s_extended_differences) := ⟨rfl, rfl, rfl, by decide +kernel, rfl, by decide +kernel, by decide +kernel⟩
theorem C_extended_differences (T : Wd K mg) : FnG (gd K) P w K mg base 4 "extended_differences" 4 (fun rs en => ∃ (c : Cs) (ds : List Df) (sa sb : List (Int × Str)), c.Ok ∧ ds.length = c.prog.chans.length ∧ sa.length ≤ 100000 ∧ sb.length ≤ 100000 ∧ (∀ d ∈ ds, d.1.length + sa.length ≤ 200000 ∧ d.2.length + sb.length ≤ 200000) ∧ rs = [.cas (eK c), .dat (.tuple (ds.map eD)), .dat (.list (sa.map eG)), .dat (.list (sb.map eG))] ∧ en = tup_ ((extDs c ds sa sb).map eD)) := by
  obtain ⟨fd, F⟩ := T.df 14 (d := d_extended_differences)
  refine fnG_of F sc_extended_differences (T.glo 14) (fun _ _ _ _ _ _ us hl => match us, hl with | [_, _, _, _], _ => rfl) fun cdv A outer s H E hr rs en hl hφ => ⟨_, .inl rfl, ?_⟩
  obtain ⟨c, ds, sa, sb, C, hd, ha, hb, hz, rfl, rfl⟩ := hφ
  refine xss_cons (xs_set 4 (xe_lst xd_nil) sc_extended_differences.nd) <|
    xss_cons (xs_for PassesOwn.never rfl (xi_enum (xe_var 1) T.enumerate) (o := .nx [some (.rs (.cas (eK c))), some (tup_ (ds.map eD)), some (lst_ (sa.map eG)), some (lst_ (sb.map eG)), some (.own ((extDs c ds sa sb).map eD)), none, none, none, none, none, none, none]) ?_) <|
    xss_freeze 4 <| xss_one (xs_ret (xe_callT T.tuple (xa_cons (xe_var 4) xa_nil) co_tupL))
  refine forR_inv (fun (i : Nat) => Rs.dat (.tuple [.int (i : Int), (ds.map eD).getD i .none])) (fun l ρ => ∃ res o5 o6 o7 o8 o9 o10 o11, (∀ i ∈ l, i < ds.length) ∧ res ++ l.map (ext1 c ds sa sb) = extDs c ds sa sb ∧
      ρ = [some (.rs (.cas (eK c))), some (tup_ (ds.map eD)), some (lst_ (sa.map eG)), some (lst_ (sb.map eG)), some (.own (res.map eD)), o5, o6, o7, o8, o9, o10, o11])
    (l := List.range ds.length) (by unfold enumD; rw [List.length_map]) ⟨[], _, _, _, _, _, _, _, fun i hi => List.mem_range.mp hi, (extDs_eq c ds sa sb).symm, rfl⟩ ?_ ?_
  · rintro ρ ⟨res, o5, o6, o7, o8, o9, o10, o11, _, e, rfl⟩
    have e : res = extDs c ds sa sb := by simpa using e
    subst e
    exact ⟨_, by repeat constructor, rfl⟩
  rintro i l ρ ⟨res, o5, o6, o7, o8, o9, o10, o11, hl', e, rfl⟩
  have hi := hl' i (List.mem_cons_self ..)
  have hz' := hz _ (mem_getD (d := ([], [])) hi)
  have hlen : res.length ≤ ds.length := by
    have := congrArg List.length e
    rw [List.length_append, extDs_eq, List.length_map, List.length_map, List.length_range] at this
    omega
  rw [getD_map eD ds i ([], []) hi]
  refine ⟨[some (.rs (.cas (eK c))), some (tup_ (ds.map eD)), some (lst_ (sa.map eG)), some (lst_ (sb.map eG)), some (.own (res.map eD)), none, none, none, none, none, none, none], _, _, by repeat constructor, xg_tup rfl (xgs_cons (xg_name 5 sc_extended_differences.nd) (xgs_cons (xg_name 6 sc_extended_differences.nd) xgs_nil)), .inl ⟨_, ?_, res ++ [ext1 c ds sa sb i], some (int_ (i : Int)), some (dat_ (eD (ds.getD i ([], [])))), some (lst_ (dS (sigsOf i sa))), none, none, some (lst_ (dS (sigsOf i sb))), some (tup_ (dS (c.prog.chans.getD i ("", [])).2)), fun j hj => hl' j (List.mem_cons_of_mem _ hj), by rw [List.append_assoc, List.singleton_append, ← List.map_cons]; exact e, rfl⟩⟩
  have flt : ∀ (s : List (Int × Str)), dS (sigsOf i s) = (s.filter fun x => decide (x.1 = (i : Int))).map fun x => PyData.str x.2 := fun s => by
    unfold sigsOf
    simp only [dS, List.map_map]
    rfl
  have hi2 : i < c.prog.chans.length := by omega
  have hi3 : i < c.views.length := by rw [C.v]; exact hi2
  refine xss_cons (xs_setLc 7 [("channel", 8), ("signal", 9)] rfl sc_extended_differences.nd (bk ["case", "differences", "sent_signals", "received_signals", "result", "k", "pair", "first", "channel", "signal", "second", "signals"] s_extended_differences) (xi_list (xe_var 2)) (ds := dS (sigsOf i sa)) ?_ ?_ (sw_true rfl rfl rfl (by decide +kernel))) <| xss_freeze 7 <|
    xss_cons (xs_setLc 10 [("channel", 8), ("signal", 9)] rfl sc_extended_differences.nd (bk ["case", "differences", "sent_signals", "received_signals", "result", "k", "pair", "first", "channel", "signal", "second", "signals"] s_extended_differences) (xi_list (xe_var 3)) (ds := dS (sigsOf i sb)) ?_ ?_ (sw_true rfl rfl rfl (by decide +kernel))) <| xss_freeze 10 <|
    xss_cons (xs_set 11 (xe_ix (xe_ix (xe_channels T (xe_prog T (xe_var 0))) (xe_var 5) (ixo_tup (atI_map eH _ _ ("", []) hi2))) xe_int (ixo_tup rfl)) sc_extended_differences.nd) <|
    xss_one (XS.is (xs_append 4 (xe_call (C_extended T) (hr.mono (by decide)) (xa_cons (xe_ix (xe_vws T (xe_var 0)) (xe_var 5) (ixo_tup (atI_map PyData.str _ _ "" hi3))) (xa_cons (xe_var 11) (xa_cons (xe_var 6) (xa_cons (xe_var 7) (xa_cons (xe_var 10) xa_nil)))))
      ⟨c.views.getD i "", (c.prog.chans.getD i ("", [])).2, ds.getD i ([], []), sigsOf i sa, sigsOf i sb, C.p.nk _ (mem_getD hi2), ?_, ?_, rfl, rfl⟩) rfl ?_) ?_)
  · refine LcR.rs (lcR_filter (fun s : Int × Str => Rs.dat (eG s)) (fun x => decide (x.1 = (i : Int))) (fun x => PyData.str x.2) sa fun a _ => ⟨_, fun X' ⟨_, _, _, _, _, e⟩ => by subst e; exact xg_tup rfl (xgs_cons (xg_name 8 sc_extended_differences.nd) (xgs_cons (xg_name 9 sc_extended_differences.nd) xgs_nil)), fun X' ⟨_, _, _, _, _, e⟩ => by subst e; exact xt_cmp (xe_var 8) (xe_var 5) bin_eqI, fun _ X' ⟨_, _, _, _, _, e⟩ => by subst e; exact xe_var 9⟩) (map_dat _ _) (flt sa).symm
  · rw [List.length_map]
    have := sigsOf_le i sa
    omega
  · refine LcR.rs (lcR_filter (fun s : Int × Str => Rs.dat (eG s)) (fun x => decide (x.1 = (i : Int))) (fun x => PyData.str x.2) sb fun a _ => ⟨_, fun X' ⟨_, _, _, _, _, e⟩ => by subst e; exact xg_tup rfl (xgs_cons (xg_name 8 sc_extended_differences.nd) (xgs_cons (xg_name 9 sc_extended_differences.nd) xgs_nil)), fun X' ⟨_, _, _, _, _, e⟩ => by subst e; exact xt_cmp (xe_var 8) (xe_var 5) bin_eqI, fun _ X' ⟨_, _, _, _, _, e⟩ => by subst e; exact xe_var 9⟩) (map_dat _ _) (flt sb).symm
  · rw [List.length_map]
    have := sigsOf_le i sb
    omega
  · have := sigsOf_le i sa
    omega
  · have := sigsOf_le i sb
    omega
  · rw [List.length_map]
    have := C.p.nh
    omega
  · simp only [List.map_append, List.map_cons, List.map_nil]
    rfl
end
end LC
namespace LC
open PySem PySem.Spec PyProof.Rows L2

theorem runF_le {m : Mc} (M : m.Ok) : ∀ (l : List Str) (c : Cf), (runF m c l).2.length ≤ 8 * l.length
  | [], _ => Nat.zero_le _
  | i :: l, c => by
    show ((stepF m c i).2 ++ (runF m (stepF m c i).1 l).2).length ≤ 8 * (l.length + 1)
    rw [List.length_append]
    have h1 := stepF_sigs M c i
    have h2 := runF_le M l (stepF m c i).1
    omega
theorem runF_ok {m : Mc} : ∀ (l : List Str) {c : Cf}, c.Ok m → (runF m c l).1.Ok m
  | [], _, h => h
  | i :: l, _, h => runF_ok l (stepF_ok h i)
theorem eqv_strs : ∀ l : List Str, PyData.eqv (.tuple (dS l)) (.tuple []) = decide (l = [])
  | [] => rfl
  | _ :: _ => rfl
theorem eqv_pair (d : Df) : PyData.eqv (eD d) (.tuple [.tuple [], .tuple []]) = decide (d = ([], [])) := by
  obtain ⟨a, b⟩ := d
  cases a <;> cases b <;> rfl
def Shp (n : Nat) (d : PyData) : Prop := d.canLay0 = true ∧ d.depth ≤ n
theorem shp_all {n : Nat} : ∀ {ds : List PyData}, (∀ d ∈ ds, Shp n d) → PyData.canLayAll0 ds = true ∧ PyData.depthAll ds ≤ n
  | [], _ => by simp [PyData.canLayAll0, PyData.depthAll]
  | d :: ds, h => by
    obtain ⟨h1, h2⟩ := h d (List.mem_cons_self ..)
    obtain ⟨h3, h4⟩ := shp_all (n := n) (ds := ds) fun x hx => h x (List.mem_cons_of_mem _ hx)
    simp only [PyData.canLayAll0, PyData.depthAll, h1, h3, Bool.and_self, true_and]
    omega
theorem shp_tup {n : Nat} {ds : List PyData} (h : ∀ d ∈ ds, Shp n d) : Shp (n + 1) (.tuple ds) := by
  obtain ⟨h1, h2⟩ := shp_all h
  refine ⟨by simpa [PyData.canLay0] using h1, ?_⟩
  simp only [PyData.depth]
  omega
theorem shp_lst {n : Nat} {ds : List PyData} (h : ∀ d ∈ ds, Shp n d) : Shp (n + 1) (.list ds) := by
  obtain ⟨h1, h2⟩ := shp_all h
  refine ⟨by simpa [PyData.canLay0] using h1, ?_⟩
  simp only [PyData.depth]
  omega
theorem shp_str {s : Str} (h : PyData.strOk s = true) (n : Nat) : Shp (n + 1) (.str s) := ⟨h, by simp [PyData.depth]⟩
theorem shp_int (s : Int) (n : Nat) : Shp (n + 1) (.int s) := ⟨rfl, by simp [PyData.depth]⟩
theorem shp_none (n : Nat) : Shp (n + 1) .none := ⟨rfl, by simp [PyData.depth]⟩
theorem shp_bool (b : Bool) (n : Nat) : Shp (n + 1) (.bool b) := ⟨rfl, by simp [PyData.depth]⟩
theorem Shp.ok {n : Nat} {d : PyData} (h : Shp n d) (hn : n ≤ 64 := by decide) : SeqAt.shaped d = true := by
  unfold SeqAt.shaped
  rw [h.1, decide_eq_true (Nat.le_trans h.2 hn)]
  rfl
def okS (l : List Str) : Prop := ∀ s ∈ l, PyData.strOk s = true
theorem shp_dS {l : List Str} (h : okS l) (n : Nat) : ∀ d ∈ dS l, Shp (n + 1) d := fun d hd => by
  obtain ⟨s, hs, rfl⟩ := List.mem_map.mp hd
  exact shp_str (h s hs) n
theorem shp_dI (l : List Int) (n : Nat) : ∀ d ∈ dI l, Shp (n + 1) d := fun d hd => by
  obtain ⟨s, _, rfl⟩ := List.mem_map.mp hd
  exact shp_int s n
theorem shp_cons {n : Nat} {d : PyData} {ds : List PyData} (h : Shp n d) (h' : ∀ x ∈ ds, Shp n x) : ∀ x ∈ d :: ds, Shp n x := fun x hx => (List.mem_cons.mp hx).elim (fun e => e ▸ h) (h' x)
theorem shp_nil {n : Nat} : ∀ x ∈ ([] : List PyData), Shp n x := fun _ h => nomatch h
def okD (d : Df) : Prop := okS d.1 ∧ okS d.2
theorem shp_eD {d : Df} (h : okD d) : Shp 3 (eD d) := shp_tup (shp_cons (shp_tup (shp_dS h.1 0)) (shp_cons (shp_tup (shp_dS h.2 0)) shp_nil))
section
variable {P : Program} {w : World} {K : PySem.W.Frag} {mg : Str → Option Value} {base : Heap}
theorem sc_heard : FnScope ["case", "scene", "sent_items", "received_items", "sender", "transit", "sent_side", "received_side", "differences", "sent_signals", "received_signals", "item", "signals"] ["case", "scene", "sent_items", "received_items"] (defScope s_heard) := ⟨rfl, rfl, rfl, by decide +kernel, rfl, by decide +kernel, by decide +kernel⟩
theorem C_heard (T : Wt K mg base) : FnG (gd K) P w K mg base 6 "heard" 4 (fun rs en => ∃ (c : Cs) (s : Sc) (si ri : List Str), c.Ok ∧ s.a.Ok c.prog ∧ s.b.Ok c.prog ∧ s.ds.length = c.prog.chans.length ∧ si.length ≤ 10000 ∧ ri.length ≤ 10000 ∧ (∀ d ∈ s.ds, d.1.length + 8 * si.length ≤ 200000 ∧ d.2.length + 8 * ri.length ≤ 200000) ∧ rs = [.cas (eK c), .dat (eSc s), .dat (.list (dS si)), .dat (.list (dS ri))] ∧ en = dat_ (eSc (heardF c s si ri))) := by
  obtain ⟨fd, F⟩ := T.w.df 15 (d := d_heard)
  refine fnG_of F sc_heard (T.w.glo 15) (fun _ _ _ _ _ _ us hl => match us, hl with | [_, _, _, _], _ => rfl) fun cdv A outer s H E hr rs en hl hφ => ⟨_, .inl rfl, ?_⟩
  obtain ⟨c, sc, si, ri, C, ha, hb, hd, z1, z2, z3, rfl, rfl⟩ := hφ
  refine xss_cons (xs_asg (xe_var 1) (xg_tup rfl (xgs_cons (xg_name 4 sc_heard.nd) (xgs_cons (xg_name 5 sc_heard.nd) (xgs_cons (xg_name 6 sc_heard.nd) (xgs_cons (xg_name 7 sc_heard.nd) (xgs_cons (xg_name 8 sc_heard.nd) xgs_nil))))))) <|
    xss_cons (xs_set 9 (xe_fr (xe_lst xd_nil)) sc_heard.nd) <| xss_cons (xs_set 10 (xe_fr (xe_lst xd_nil)) sc_heard.nd) <|
    xss_cons (xs_for PassesOwn.never rfl (xi_list (xe_var 2)) (o := .nx [some (.rs (.cas (eK c))), some (dat_ (eSc sc)), some (lst_ (dS si)), some (lst_ (dS ri)), some (dat_ (eFo sc.snd)), some (dat_ (eQ sc.wait sc.phase)), some (dat_ (eF (runF c.prog sc.a si).1)), some (dat_ (eF sc.b)), some (tup_ (sc.ds.map eD)), some (lst_ ((runF c.prog sc.a si).2.map eG)), some (lst_ []), none, none]) ?_) <|
    xss_cons (xs_for PassesOwn.never rfl (xi_list (xe_var 3)) (o := .nx [some (.rs (.cas (eK c))), some (dat_ (eSc sc)), some (lst_ (dS si)), some (lst_ (dS ri)), some (dat_ (eFo sc.snd)), some (dat_ (eQ sc.wait sc.phase)), some (dat_ (eF (runF c.prog sc.a si).1)), some (dat_ (eF (runF c.prog sc.b ri).1)), some (tup_ (sc.ds.map eD)), some (lst_ ((runF c.prog sc.a si).2.map eG)), some (lst_ ((runF c.prog sc.b ri).2.map eG)), none, none]) ?_) <|
    xss_cons (xs_set 8 (xe_call (C_extended_differences T.w) (hr.mono (by decide)) (xa_cons (xe_var 0) (xa_cons (xe_var 8) (xa_cons (xe_var 9) (xa_cons (xe_var 10) xa_nil)))) ⟨c, sc.ds, (runF c.prog sc.a si).2, (runF c.prog sc.b ri).2, C, hd, ?_, ?_, ?_, rfl, rfl⟩) sc_heard.nd) <|
    xss_one (xs_ret (xe_tup (xd_cons (xe_var 4) (xd_cons (xe_var 5) (xd_cons (xe_var 6) (xd_cons (xe_var 7) (xd_cons (xe_var 8) xd_nil)))))))
  · refine forR_inv (fun x => Rs.dat (.str x)) (fun l ρ => ∃ cf acc o11 o12, Cf.Ok c.prog cf ∧ (runF c.prog cf l).1 = (runF c.prog sc.a si).1 ∧ acc ++ (runF c.prog cf l).2 = (runF c.prog sc.a si).2 ∧ acc.length + 8 * l.length ≤ 80000 ∧
      ρ = [some (.rs (.cas (eK c))), some (dat_ (eSc sc)), some (lst_ (dS si)), some (lst_ (dS ri)), some (dat_ (eFo sc.snd)), some (dat_ (eQ sc.wait sc.phase)), some (dat_ (eF cf)), some (dat_ (eF sc.b)), some (tup_ (sc.ds.map eD)), some (lst_ (acc.map eG)), some (lst_ []), o11, o12])
      (map_dat _ _) ⟨sc.a, [], none, none, ha, rfl, rfl, by simpa using (by omega : 8 * si.length ≤ 80000), rfl⟩ ?_ ?_
    · rintro ρ ⟨cf, acc, o11, o12, _, e1, e2, _, rfl⟩
      have e1 : cf = (runF c.prog sc.a si).1 := e1
      have e3 : acc = (runF c.prog sc.a si).2 := by rw [← e2]; exact (List.append_nil _).symm
      rw [← e1, ← e3]
      exact ⟨_, by repeat constructor, rfl⟩
    · rintro x l ρ ⟨cf, acc, o11, o12, hcf, e1, e2, hz, rfl⟩
      have hs := stepF_sigs C.p cf x
      rw [List.length_cons] at hz
      refine ⟨_, _, _, Le.refl _, xg_name 11 sc_heard.nd, .inl ⟨_, xss_cons (xs_asg (xe_call (C_step T) (hr.mono (by decide)) (xa_cons (xe_prog T.w (xe_var 0)) (xa_cons (xe_var 6) (xa_cons (xe_var 11) xa_nil))) ⟨c.prog, cf, x, C.p, hcf, rfl, rfl⟩) (xg_tup rfl (xgs_cons (xg_name 6 sc_heard.nd) (xgs_cons (xg_name 12 sc_heard.nd) xgs_nil)))) <|
        xss_one (xs_set 9 (XE.is (xe_fr (xe_bin (xe_var 9) (xe_fr (xe_callT T.w.list (xa_cons (xe_var 12) xa_nil) co_listT)) (bin_cat ?_))) (en' := lst_ ((acc ++ (stepF c.prog cf x).2).map eG)) ?_) sc_heard.nd), (stepF c.prog cf x).1, acc ++ (stepF c.prog cf x).2, some (str_ x), some (tup_ ((stepF c.prog cf x).2.map eG)), stepF_ok hcf x, e1, ?_, ?_, rfl⟩⟩
      · rw [List.length_map, List.length_map]
        omega
      · rw [List.map_append]
      · rw [List.append_assoc]
        exact e2
      · rw [List.length_append]
        omega
  · refine forR_inv (fun x => Rs.dat (.str x)) (fun l ρ => ∃ cf acc o11 o12, Cf.Ok c.prog cf ∧ (runF c.prog cf l).1 = (runF c.prog sc.b ri).1 ∧ acc ++ (runF c.prog cf l).2 = (runF c.prog sc.b ri).2 ∧ acc.length + 8 * l.length ≤ 80000 ∧
      ρ = [some (.rs (.cas (eK c))), some (dat_ (eSc sc)), some (lst_ (dS si)), some (lst_ (dS ri)), some (dat_ (eFo sc.snd)), some (dat_ (eQ sc.wait sc.phase)), some (dat_ (eF (runF c.prog sc.a si).1)), some (dat_ (eF cf)), some (tup_ (sc.ds.map eD)), some (lst_ ((runF c.prog sc.a si).2.map eG)), some (lst_ (acc.map eG)), o11, o12])
      (map_dat _ _) ⟨sc.b, [], none, none, hb, rfl, rfl, by simpa using (by omega : 8 * ri.length ≤ 80000), rfl⟩ ?_ ?_
    · rintro ρ ⟨cf, acc, o11, o12, _, e1, e2, _, rfl⟩
      have e1 : cf = (runF c.prog sc.b ri).1 := e1
      have e3 : acc = (runF c.prog sc.b ri).2 := by rw [← e2]; exact (List.append_nil _).symm
      rw [← e1, ← e3]
      exact ⟨_, by repeat constructor, rfl⟩
    · rintro x l ρ ⟨cf, acc, o11, o12, hcf, e1, e2, hz, rfl⟩
      have hs := stepF_sigs C.p cf x
      rw [List.length_cons] at hz
      refine ⟨_, _, _, Le.refl _, xg_name 11 sc_heard.nd, .inl ⟨_, xss_cons (xs_asg (xe_call (C_step T) (hr.mono (by decide)) (xa_cons (xe_prog T.w (xe_var 0)) (xa_cons (xe_var 7) (xa_cons (xe_var 11) xa_nil))) ⟨c.prog, cf, x, C.p, hcf, rfl, rfl⟩) (xg_tup rfl (xgs_cons (xg_name 7 sc_heard.nd) (xgs_cons (xg_name 12 sc_heard.nd) xgs_nil)))) <|
        xss_one (xs_set 10 (XE.is (xe_fr (xe_bin (xe_var 10) (xe_fr (xe_callT T.w.list (xa_cons (xe_var 12) xa_nil) co_listT)) (bin_cat ?_))) (en' := lst_ ((acc ++ (stepF c.prog cf x).2).map eG)) ?_) sc_heard.nd), (stepF c.prog cf x).1, acc ++ (stepF c.prog cf x).2, some (str_ x), some (tup_ ((stepF c.prog cf x).2.map eG)), stepF_ok hcf x, e1, ?_, ?_, rfl⟩⟩
      · rw [List.length_map, List.length_map]
        omega
      · rw [List.map_append]
      · rw [List.append_assoc]
        exact e2
      · rw [List.length_append]
        omega
  · have := runF_le C.p si sc.a
    omega
  · have := runF_le C.p ri sc.b
    omega
  · intro d hd'
    have h1 := runF_le C.p si sc.a
    have h2 := runF_le C.p ri sc.b
    have h3 := z3 d hd'
    exact ⟨by omega, by omega⟩
theorem sc_may_send : FnScope ["case", "sender", "item"] ["case", "sender", "item"] (defScope s_may_send) := ⟨rfl, rfl, rfl, by decide +kernel, rfl, by decide +kernel, by decide +kernel⟩
theorem C_may_send (T : Wt K mg base) : FnG (gd K) P w K mg base 6 "may_send" 3 (fun rs en => ∃ (c : Cs) (snd : Option Cf) (item : Str), c.Ok ∧ (∀ cf, snd = some cf → cf.Ok c.traf) ∧ rs = [.cas (eK c), .dat (eFo snd), .dat (.str item)] ∧ en = bl_ (maySendF c snd item)) := by
  obtain ⟨fd, F⟩ := T.w.df 16 (d := d_may_send)
  refine fnG_of F sc_may_send (T.w.glo 16) (fun _ _ _ _ _ _ us hl => match us, hl with | [_, _, _], _ => rfl) fun cdv A outer s H E hr rs en hl hφ => ⟨_, .inl rfl, ?_⟩
  obtain ⟨c, snd, item, C, hs, rfl, rfl⟩ := hφ
  cases snd with
  | none => exact xss_one (xs_ret (xe_and (k := false) (j := false) (XE.is (xe_cmp (xe_var 1) xe_non bin_notN) rfl) fun h => absurd h Bool.false_ne_true))
  | some cf => exact xss_one (xs_ret (XE.is (xe_and (k := true) (XE.is (xe_cmp (xe_var 1) xe_non bin_notN) rfl) fun h => xe_one (xe_not (xe_call (C_forbids T) (hr.mono (by decide)) (xa_cons (xe_traf T.w (xe_var 0)) (xa_cons (xe_var 1) (xa_cons (xe_var 2) xa_nil))) ⟨c.traf, cf, item, C.t, hs cf rfl, rfl, rfl⟩))) rfl))
theorem sc_polled : FnScope ["waiting", "phase", "period", "offset"] ["waiting", "phase", "period", "offset"] (defScope s_polled) := ⟨rfl, rfl, rfl, by decide +kernel, rfl, by decide +kernel, by decide +kernel⟩
theorem C_polled (T : Wd K mg) : FnG (gd K) P w K mg base 1 "polled" 4 (fun rs en => ∃ (wt : List Str) (ph per off : Int), 0 < per ∧ wt.length ≤ 1000 ∧ rs = [.dat (.tuple (dS wt)), .dat (.int ph), .dat (.int per), .dat (.int off)] ∧ en = tup_ [.list (dS (polledF wt ph per off).1), .tuple (dS (polledF wt ph per off).2.1), .int (polledF wt ph per off).2.2]) := by
  obtain ⟨fd, F⟩ := T.df 20 (d := d_polled)
  refine fnG_of F sc_polled (T.glo 20) (fun _ _ _ _ _ _ us hl => match us, hl with | [_, _, _, _], _ => rfl) fun cdv A outer s H E hr rs en hl hφ => ⟨_, .inl rfl, ?_⟩
  obtain ⟨wt, ph, per, off, hp, hz, rfl, rfl⟩ := hφ
  refine xss_cons (xs_set 1 (xe_bin (xe_bin (xe_var 1) xe_int bin_add) (xe_var 2) (bin_mod hp)) sc_polled.nd) ?_
  unfold polledF
  by_cases h : (ph + 1) % per = off
  · rw [if_pos h]
    refine xss_ret (xs_if (xt_cmp (xe_var 1) (xe_var 3) bin_eqI) (fun _ => xss_one (xs_ret (XE.is (xe_tup (xd_cons (xe_fr (xe_bin (xe_fr (xe_callT T.list (xa_cons (xe_var 0) xa_nil) co_listT)) (xe_fr (xe_lst (xd_cons (xe_gstr T.tick) xd_nil))) (bin_cat ?_))) (xd_cons (xe_tup xd_nil) (xd_cons (xe_var 1) xd_nil)))) ?_))) (fun h' => absurd h (of_decide_eq_false h')))
    · rw [List.length_map]
      show wt.length + 1 ≤ _
      omega
    · simp only [dS, List.map_append, List.map_cons, List.map_nil]
  · rw [if_neg h]
    exact xss_cons (xs_if (xt_cmp (xe_var 1) (xe_var 3) bin_eqI) (fun h' => absurd (of_decide_eq_true h') h) (fun _ => xss_nil)) <| xss_one (xs_ret (xe_tup (xd_cons (xe_fr (xe_lst (xd_cons (xe_gstr T.tick) xd_nil))) (xd_cons (xe_var 0) (xd_cons (xe_var 1) xd_nil)))))
end
end LC
namespace LC
open PySem PySem.Spec PyProof.Rows L2

theorem set_same {α : Type} : ∀ {l : List α} {i : Nat} {a : α}, l[i]? = some a → l.set i a = l
  | [], _, _, h => by simp at h
  | x :: l, 0, a, h => by simp at h; subst h; rfl
  | x :: l, i + 1, a, h => by
    rw [List.set_cons_succ, set_same (l := l) (i := i) (by simpa using h)]
/-- if c: x = e, of texts -/
theorem xs_ifStr {G : Gd} {X : Cx} {Ex : Hp → Prop} {ρ : Ro} {c : Expr} {st : Stmt} {pos : Pos} {k : Bool} {s1 s2 : Str} (i : Nat) (hc : XT G X c ρ k) (h1 : k = true → XS G X Ex st ρ (.nx (ρ.set i (some (str_ s1))))) (h0 : ρ[i]? = some (some (str_ s2)) := by rfl) :
    XS G X Ex (.If c [st] [] pos) ρ (.nx (ρ.set i (some (str_ (if k = true then s1 else s2))))) := by
  cases k with
  | true => exact xs_if hc (fun h => xss_one (h1 rfl)) (fun h => nomatch h)
  | false => exact xs_if hc (fun h => nomatch h) (fun h => XSs.is xss_nil (by rw [if_neg Bool.false_ne_true, set_same h0]))
def ltr (i : Int) : Str := ⟨#[97 + i.toNat]⟩
def letters : Str := "abcdefghijklmnopqrstuvwxyz"
theorem ltr_at {i : Int} (h0 : 0 ≤ i) (h1 : i < 26) : atI letters.cps.toList i = some (97 + i.toNat) := by
  have key : ∀ n : Nat, n < 26 → letters.cps.toList[n]? = some (97 + n) := by decide +kernel
  have hl : letters.cps.toList.length = 26 := by decide +kernel
  unfold atI
  rw [hl, ixN_ok h0 h1]
  exact key i.toNat (by omega)
def wordF (n : Int) : Str :=
  if decide (n / 26 % 3 = 2) = true then (if decide (0 < n / 26 % 3) = true then ltr (n % 26) ++ ltr (n / 3 % 26) else ltr (n % 26)) ++ ltr (n / 5 % 26) ++ ltr (n / 11 % 26) ++ ltr (n / 2 % 26)
  else (if decide (0 < n / 26 % 3) = true then ltr (n % 26) ++ ltr (n / 3 % 26) else ltr (n % 26))
theorem ltr_len (i : Int) : (ltr i).length = 1 := rfl
theorem word_len (n : Int) : (wordF n).length ≤ 5 := by
  unfold wordF
  split <;> split <;> simp only [PySem.Str.length_append, ltr_len] <;> decide
def rowStep (c : Int) (st : List Int × Int × Int) (k : Nat) : List Int × Int × Int :=
  if decide (((10 : Int) ^ (18 : Int).toNat) ≤ c) = true then (st.1 ++ [st.2.1 % 840], st.2.1 / 840, st.2.2)
  else (st.1 ++ [(st.2.2 * 48271 + (k : Int)) % 2147483647 * 69621 % 2147483629 / 7 % 840], st.2.1, (st.2.2 * 48271 + (k : Int)) % 2147483647)
def rowF (c : Int) (n : Nat) : List Int := ((List.range n).foldl (rowStep c) ([], c, c % 2147483629 + 1)).1
theorem rowStep_len (c : Int) (st : List Int × Int × Int) (k : Nat) : (rowStep c st k).1.length = st.1.length + 1 := by
  unfold rowStep
  split <;> simp
theorem rowFold_len (c : Int) : ∀ (l : List Nat) (st : List Int × Int × Int), (l.foldl (rowStep c) st).1.length = st.1.length + l.length
  | [], st => rfl
  | k :: l, st => by
    rw [List.foldl_cons, rowFold_len c l, rowStep_len, List.length_cons]
    omega
theorem rowF_len (c : Int) (n : Nat) : (rowF c n).length = n := by
  unfold rowF
  rw [rowFold_len, List.length_range]
  exact Nat.zero_add n
theorem rowStep_in (c : Int) (st : List Int × Int × Int) (k : Nat) (h : ∀ x ∈ st.1, 0 ≤ x ∧ x < 840) : ∀ x ∈ (rowStep c st k).1, 0 ≤ x ∧ x < 840 := by
  unfold rowStep
  split
  · intro x hx
    rcases List.mem_append.mp hx with hx | hx
    · exact h x hx
    · rw [List.mem_singleton.mp hx]
      exact ⟨Int.emod_nonneg _ (by decide), Int.emod_lt_of_pos _ (by decide)⟩
  · intro x hx
    rcases List.mem_append.mp hx with hx | hx
    · exact h x hx
    · rw [List.mem_singleton.mp hx]
      exact ⟨Int.emod_nonneg _ (by decide), Int.emod_lt_of_pos _ (by decide)⟩
theorem rowFold_in (c : Int) : ∀ (l : List Nat) (st : List Int × Int × Int), (∀ x ∈ st.1, 0 ≤ x ∧ x < 840) → ∀ x ∈ (l.foldl (rowStep c) st).1, 0 ≤ x ∧ x < 840
  | [], _, h => h
  | k :: l, st, h => rowFold_in c l _ (rowStep_in c st k h)
theorem rowF_in (c : Int) (n : Nat) : ∀ x ∈ rowF c n, 0 ≤ x ∧ x < 840 := rowFold_in c _ _ (fun _ h => nomatch h)
/-- a row: so many numbers below 840 -/
structure Rw (row : List Int) (n : Nat) : Prop where
  len : row.length = n
  nn : ∀ x ∈ row, 0 ≤ x ∧ x < 840
theorem rowF_rw (c : Int) (n : Nat) : Rw (rowF c n) n := ⟨rowF_len c n, rowF_in c n⟩
theorem Rw.at {row : List Int} {n : Nat} (R : Rw row n) (k : Nat) (h : k < n) : atI (dI row) (k : Int) = some (.int (row.getD k 0)) := atI_some (dI_get (by rw [R.len]; exact h))
theorem Rw.nn' {row : List Int} {n : Nat} (R : Rw row n) (k : Nat) (h : k < n) : 0 ≤ row.getD k 0 ∧ row.getD k 0 < 840 := R.nn _ (mem_getD (by rw [R.len]; exact h))
def secondF (row : List Int) : Str := if decide (wordF (row.getD 1 0) = wordF (row.getD 0 0)) = true then wordF (row.getD 1 0) ++ "q" else wordF (row.getD 1 0)
def third0 (row : List Int) : Str := ("z" : Str) ++ cutS (wordF (row.getD 0 0)) none (some 3) ++ cutS (secondF row) none (some 3)
def thirdF (row : List Int) : Str := if (decide (third0 row = wordF (row.getD 0 0)) || decide (third0 row = secondF row)) = true then third0 row ++ "q" else third0 row
def namesF (row : List Int) : List Str := if row.getD 2 0 % 3 = 0 then [wordF (row.getD 0 0)] else if row.getD 2 0 % 12 = 1 then [wordF (row.getD 0 0), secondF row, thirdF row] else [wordF (row.getD 0 0), secondF row]
theorem second_len (row : List Int) : (secondF row).length ≤ 6 := by
  have := word_len (row.getD 1 0)
  unfold secondF
  split
  · rw [PySem.Str.length_append]
    have q1 : ("q" : Str).length = 1 := by decide
    omega
  · omega
theorem cutS_len (z : Str) (lo hi : Option Int) : (cutS z lo hi).length ≤ z.length := by
  unfold cutS
  simp only [PySem.Str.length]
  rw [List.size_toArray, List.length_take, List.length_drop, Array.length_toList]
  omega
theorem third_len (row : List Int) : (third0 row).length ≤ 12 := by
  have h1 := cutS_len (wordF (row.getD 0 0)) none (some 3)
  have h2 := cutS_len (secondF row) none (some 3)
  have h3 := word_len (row.getD 0 0)
  have h4 := second_len row
  unfold third0
  rw [PySem.Str.length_append, PySem.Str.length_append]
  have : ("z" : Str).length = 1 := by decide
  omega
section
variable {P : Program} {w : World} {K : PySem.W.Frag} {mg : Str → Option Value} {base : Heap}
theorem sc__law_cell : FnScope ["_law_script", "_law_k"] ["_law_script", "_law_k"] (defScope s__law_cell) := ⟨rfl, rfl, rfl, by decide +kernel, rfl, by decide +kernel, by decide +kernel⟩
theorem C__law_cell (T : Wd K mg) : FnG (gd K) P w K mg base 1 "_law_cell" 2 (fun rs en => ∃ (ns : List Int) (k : Nat), rs = [.scr ns, .dat (.int (k : Int))] ∧ en = int_ (ns.getD k 0)) := by
  obtain ⟨fd, F⟩ := T.df 25 (d := d__law_cell)
  refine fnG_of F sc__law_cell (T.glo 25) (fun _ _ _ _ _ _ us hl => match us, hl with | [_, _], _ => rfl) fun cdv A outer s H E hr rs en hl hφ => ⟨_, .inl rfl, ?_⟩
  obtain ⟨ns, k, rfl, rfl⟩ := hφ
  by_cases h : k < ns.length
  · refine xss_ret (xs_if (xt_cmp (xe_var 1) (xe_callB T.len (xa_cons (xe_var 0) xa_nil) co_lenR) bin_lt) (fun _ => xss_one (xs_ret (xe_ix (xe_var 0) (xe_var 1) (ixo_scr (atI_nat ?_))))) (fun h' => absurd (of_decide_eq_false h') (by omega)))
    rw [List.getD_eq_getElem?_getD, List.getElem?_eq_getElem h]
    rfl
  · refine xss_cons (xs_if (xt_cmp (xe_var 1) (xe_callB T.len (xa_cons (xe_var 0) xa_nil) co_lenR) bin_lt) (fun h' => absurd (of_decide_eq_true h') (by omega)) (fun _ => xss_nil)) <| xss_one (xs_ret (XE.is xe_int ?_))
    rw [List.getD_eq_getElem?_getD, List.getElem?_eq_none (by omega)]
    rfl
theorem sc__law_row : FnScope ["_law_cell_here", "_law_count", "_law_row_here", "_law_rest", "_law_seed", "_law_k"] ["_law_cell_here", "_law_count"] (defScope s__law_row) := ⟨rfl, rfl, rfl, by decide +kernel, rfl, by decide +kernel, by decide +kernel⟩
theorem C__law_row (T : Wd K mg) : FnG (gd K) P w K mg base 1 "_law_row" 2 (fun rs en => ∃ (c : Int) (n : Nat), n ≤ 1000 ∧ rs = [.dat (.int c), .dat (.int (n : Int))] ∧ en = .own (dI (rowF c n))) := by
  obtain ⟨fd, F⟩ := T.df 26 (d := d__law_row)
  refine fnG_of F sc__law_row (T.glo 26) (fun _ _ _ _ _ _ us hl => match us, hl with | [_, _], _ => rfl) fun cdv A outer s H E hr rs en hl hφ => ⟨_, .inl rfl, ?_⟩
  obtain ⟨c, n, hn, rfl, rfl⟩ := hφ
  refine xss_cons (xs_set 2 (xe_lst xd_nil) sc__law_row.nd) <| xss_cons (xs_set 3 (xe_var 0) sc__law_row.nd) <|
    xss_cons (xs_set 4 (xe_bin (xe_bin (xe_callT T.int_ (xa_cons (xe_var 0) xa_nil) co_int) xe_int (bin_mod (by decide))) xe_int bin_add) sc__law_row.nd) <|
    xss_cons (xs_for PassesOwn.never rfl (xi_range (xe_var 1) (by omega) (by omega) T.range) (o := .nx [some (int_ c), some (int_ (n : Int)), some (.own (dI (rowF c n))), none, none, none]) ?_) <| xss_one (xs_retOwn 2)
  refine forR_inv (fun (i : Nat) => Rs.dat (.int (i : Int))) (fun l ρ => ∃ st o5, (l.foldl (rowStep c) st).1 = rowF c n ∧ st.1.length + l.length = n ∧ ρ = [some (int_ c), some (int_ (n : Int)), some (.own (dI st.1)), some (int_ st.2.1), some (int_ st.2.2), o5])
    (l := List.range n) rfl ⟨([], c, c % 2147483629 + 1), none, rfl, by simp, rfl⟩ ?_ ?_
  · rintro ρ ⟨st, o5, e, _, rfl⟩
    have e : st.1 = rowF c n := e
    rw [← e]
    exact ⟨_, by repeat constructor, rfl⟩
  rintro k l ρ ⟨st, o5, e, hl, rfl⟩
  rw [List.length_cons] at hl
  refine ⟨_, _, _, Le.refl _, xg_name 5 sc__law_row.nd, .inl ⟨[some (int_ c), some (int_ (n : Int)), some (.own (dI (rowStep c st k).1)), some (int_ (rowStep c st k).2.1), some (int_ (rowStep c st k).2.2), some (int_ (k : Int))], ?_, rowStep c st k, _, e, by rw [rowStep_len]; omega, rfl⟩⟩
  have hz : (dI st.1).length < 16777216 := by
    rw [List.length_map]
    omega
  refine xss_one (xs_if (xt_cmp (xe_var 0) (xe_bin xe_int xe_int (bin_pow ⟨by decide, by decide, by decide⟩)) bin_ge) (fun h => ?_) (fun h => ?_))
  · refine XSs.is (xss_cons (xs_append 2 (xe_bin (xe_callT T.int_ (xa_cons (xe_var 3) xa_nil) co_int) xe_int (bin_mod (by decide))) rfl hz) <| xss_one (xs_set 3 (xe_bin (xe_var 3) xe_int (bin_fdiv ⟨by decide, by decide⟩)) sc__law_row.nd)) ?_
    unfold rowStep
    rw [if_pos h]
    simp only [dI, List.map_append, List.map_cons, List.map_nil]
    rfl
  · refine XSs.is (xss_cons (xs_set 4 (xe_bin (xe_callT T.int_ (xa_cons (xe_bin (xe_bin (xe_var 4) xe_int (bin_mul (.inr ⟨by decide, by decide⟩))) (xe_var 5) bin_add) xa_nil) co_int) xe_int (bin_mod (by decide))) sc__law_row.nd) <|
      xss_one (xs_append 2 (xe_bin (xe_bin (xe_bin (xe_callT T.int_ (xa_cons (xe_bin (xe_var 4) xe_int (bin_mul (.inr ⟨by decide, by decide⟩))) xa_nil) co_int) xe_int (bin_mod (by decide))) xe_int (bin_fdiv ⟨by decide, by decide⟩)) xe_int (bin_mod (by decide))) rfl hz)) ?_
    unfold rowStep
    rw [if_neg (by rw [h]; exact Bool.false_ne_true)]
    simp only [dI, List.map_append, List.map_cons, List.map_nil]
    rfl
theorem sc__law_word : FnScope ["_law_number", "_law_letters", "_law_word_here"] ["_law_number"] (defScope s__law_word) := ⟨rfl, rfl, rfl, by decide +kernel, rfl, by decide +kernel, by decide +kernel⟩
theorem C__law_word (T : Wd K mg) : FnG (gd K) P w K mg base 1 "_law_word" 1 (fun rs en => ∃ n : Int, 0 ≤ n ∧ rs = [.dat (.int n)] ∧ en = str_ (wordF n)) := by
  obtain ⟨fd, F⟩ := T.df 27 (d := d__law_word)
  refine fnG_of F sc__law_word (T.glo 27) (fun _ _ _ _ _ _ us hl => match us, hl with | [_], _ => rfl) fun cdv A outer s H E hr rs en hl hφ => ⟨_, .inl rfl, ?_⟩
  obtain ⟨n, hn, rfl, rfl⟩ := hφ
  have la : ∀ i : Int, IxOk (gd K) (bx P w K mg base ["_law_number", "_law_letters", "_law_word_here"] d__law_word.qual d__law_word.scope (He.fAd K d__law_word.at_) cdv A outer s H E) (.dat (.str letters)) (.dat (.int (i % 26))) (str_ (ltr (i % 26))) :=
    fun i => ixo_str (by decide +kernel) (ltr_at (Int.emod_nonneg _ (by decide)) (Int.emod_lt_of_pos _ (by decide)))
  have l2 : ((if decide (0 < n / 26 % 3) = true then ltr (n % 26) ++ ltr (n / 3 % 26) else ltr (n % 26)) : Str).length ≤ 2 := by
    split <;> simp only [PySem.Str.length_append, ltr_len] <;> decide
  refine xss_cons (xs_set 1 (XE.is xe_str (show _ = str_ letters from rfl)) sc__law_word.nd) <| xss_cons (xs_set 2 (xe_ix (xe_var 1) (xe_bin (xe_var 0) xe_int (bin_mod (by decide))) (la _)) sc__law_word.nd) <|
    xss_cons (xs_ifStr 2 (xt_cmp (xe_bin (xe_bin (xe_var 0) xe_int (bin_fdiv ⟨by decide, by decide⟩)) xe_int (bin_mod (by decide))) xe_int bin_gt) (fun _ => xs_set 2 (xe_bin (xe_var 2) (xe_ix (xe_var 1) (xe_bin (xe_bin (xe_var 0) xe_int (bin_fdiv ⟨by decide, by decide⟩)) xe_int (bin_mod (by decide))) (la _)) (bin_addS (by rw [ltr_len, ltr_len]; decide))) sc__law_word.nd)) <|
    xss_cons (xs_ifStr 2 (xt_cmp (xe_bin (xe_bin (xe_var 0) xe_int (bin_fdiv ⟨by decide, by decide⟩)) xe_int (bin_mod (by decide))) xe_int bin_eqI) (fun _ => xs_set 2 (xe_bin (xe_bin (xe_bin (xe_var 2) (xe_ix (xe_var 1) (xe_bin (xe_bin (xe_var 0) xe_int (bin_fdiv ⟨by decide, by decide⟩)) xe_int (bin_mod (by decide))) (la _)) (bin_addS ?_)) (xe_ix (xe_var 1) (xe_bin (xe_bin (xe_var 0) xe_int (bin_fdiv ⟨by decide, by decide⟩)) xe_int (bin_mod (by decide))) (la _)) (bin_addS ?_)) (xe_ix (xe_var 1) (xe_bin (xe_bin (xe_var 0) xe_int (bin_fdiv ⟨by decide, by decide⟩)) xe_int (bin_mod (by decide))) (la _)) (bin_addS ?_)) sc__law_word.nd)) <|
    xss_one (xs_ret (XE.is (xe_var 2) rfl))
  · rw [ltr_len]
    omega
  · rw [PySem.Str.length_append, ltr_len, ltr_len]
    omega
  · rw [PySem.Str.length_append, PySem.Str.length_append, ltr_len, ltr_len, ltr_len]
    omega
theorem sc__law_names : FnScope ["_law_row_here", "_law_first", "_law_second", "_law_third"] ["_law_row_here"] (defScope s__law_names) := ⟨rfl, rfl, rfl, by decide +kernel, rfl, by decide +kernel, by decide +kernel⟩
theorem C__law_names (T : Wd K mg) : FnG (gd K) P w K mg base 2 "_law_names" 1 (fun rs en => ∃ (row : List Int) (n : Nat), Rw row n ∧ 3 ≤ n ∧ rs = [.dat (.list (dI row))] ∧ en = .own (dS (namesF row))) := by
  obtain ⟨fd, F⟩ := T.df 28 (d := d__law_names)
  refine fnG_of F sc__law_names (T.glo 28) (fun _ _ _ _ _ _ us hl => match us, hl with | [_], _ => rfl) fun cdv A outer s H E hr rs en hl hφ => ⟨_, .inl rfl, ?_⟩
  obtain ⟨row, n, R, hn, rfl, rfl⟩ := hφ
  have l1 := word_len (row.getD 0 0)
  have l2 := word_len (row.getD 1 0)
  have l3 := second_len row
  have l4 := third_len row
  have r0 := (R.nn' 0 (by omega)).1
  have r1 := (R.nn' 1 (by omega)).1
  have a0 := R.at 0 (by omega)
  have a1 := R.at 1 (by omega)
  have a2 := R.at 2 (by omega)
  have q1 : ("q" : Str).length = 1 := by decide
  refine xss_cons (xs_set 1 (xe_call (C__law_word T) (hr.mono (by decide)) (xa_cons (xe_ix (xe_var 0) xe_int (ixo_list a0)) xa_nil) ⟨_, r0, rfl, rfl⟩) sc__law_names.nd) <|
    xss_cons (xs_set 2 (xe_call (C__law_word T) (hr.mono (by decide)) (xa_cons (xe_ix (xe_var 0) xe_int (ixo_list a1)) xa_nil) ⟨_, r1, rfl, rfl⟩) sc__law_names.nd) <|
    xss_cons (XS.is (xs_ifStr 2 (xt_cmp (xe_var 2) (xe_var 1) bin_eqS) (fun _ => xs_set 2 (xe_bin (xe_var 2) xe_str (bin_addS (by rw [q1]; omega))) sc__law_names.nd)) (show _ = Out.nx [some (lst_ (dI row)), some (str_ (wordF (row.getD 0 0))), some (str_ (secondF row)), none] from rfl)) ?_
  unfold namesF
  by_cases h0 : row.getD 2 0 % 3 = 0
  · rw [if_pos h0]
    exact xss_ret (xs_if (xt_cmp (xe_bin (xe_ix (xe_var 0) xe_int (ixo_list a2)) xe_int (bin_mod (by decide))) xe_int bin_eqI) (fun _ => xss_one (xs_ret (xe_lst (xd_cons (xe_var 1) xd_nil)))) (fun h => absurd h0 (of_decide_eq_false h)))
  rw [if_neg h0]
  refine xss_cons (xs_if (xt_cmp (xe_bin (xe_ix (xe_var 0) xe_int (ixo_list a2)) xe_int (bin_mod (by decide))) xe_int bin_eqI) (fun h => absurd (of_decide_eq_true h) h0) (fun _ => xss_nil)) ?_
  refine xss_cons (XS.is (xs_set 3 (xe_bin (xe_bin xe_str (xe_slice (xe_var 1) xo_none (xo_some xe_int) (slo_str (by omega))) (bin_addS ?_)) (xe_slice (xe_var 2) xo_none (xo_some xe_int) (slo_str (by omega))) (bin_addS ?_)) sc__law_names.nd) (show _ = Out.nx [some (lst_ (dI row)), some (str_ (wordF (row.getD 0 0))), some (str_ (secondF row)), some (str_ (third0 row))] from rfl)) ?_
  · have h1 := cutS_len (wordF (row.getD 0 0)) none (some 3)
    have : ("z" : Str).length = 1 := by decide
    omega
  · have h1 := cutS_len (wordF (row.getD 0 0)) none (some 3)
    have h2 := cutS_len (secondF row) none (some 3)
    have : ("z" : Str).length = 1 := by decide
    rw [PySem.Str.length_append]
    omega
  refine xss_cons (XS.is (xs_ifStr 3 (XW.t (xw_or (xt_cmp (xe_var 3) (xe_var 1) bin_eqS) fun _ => xw_or1 (xt_cmp (xe_var 3) (xe_var 2) bin_eqS))) (fun _ => xs_set 3 (xe_bin (xe_var 3) xe_str (bin_addS (by rw [q1]; omega))) sc__law_names.nd)) (show _ = Out.nx [some (lst_ (dI row)), some (str_ (wordF (row.getD 0 0))), some (str_ (secondF row)), some (str_ (thirdF row))] from rfl)) ?_
  by_cases h1 : row.getD 2 0 % 12 = 1
  · rw [if_pos h1]
    exact xss_ret (xs_if (xt_cmp (xe_bin (xe_ix (xe_var 0) xe_int (ixo_list a2)) xe_int (bin_mod (by decide))) xe_int bin_eqI) (fun _ => xss_one (xs_ret (xe_lst (xd_cons (xe_var 1) (xd_cons (xe_var 2) (xd_cons (xe_var 3) xd_nil)))))) (fun h => absurd h1 (of_decide_eq_false h)))
  · rw [if_neg h1]
    exact xss_cons (xs_if (xt_cmp (xe_bin (xe_ix (xe_var 0) xe_int (ixo_list a2)) xe_int (bin_mod (by decide))) xe_int bin_eqI) (fun h => absurd (of_decide_eq_true h) h1) (fun _ => xss_nil)) <| xss_one (xs_ret (xe_lst (xd_cons (xe_var 1) (xd_cons (xe_var 2) xd_nil))))
end
end LC
namespace LC
open PySem PySem.Spec PyProof.Rows L2

/-- if c: x = e, of data -/
theorem xs_ifDat {G : Gd} {X : Cx} {Ex : Hp → Prop} {ρ : Ro} {c : Expr} {st : Stmt} {pos : Pos} {k : Bool} {s1 s2 : PyData} (i : Nat) (hc : XT G X c ρ k) (h1 : k = true → XS G X Ex st ρ (.nx (ρ.set i (some (dat_ s1))))) (h0 : ρ[i]? = some (some (dat_ s2)) := by rfl) :
    XS G X Ex (.If c [st] [] pos) ρ (.nx (ρ.set i (some (dat_ (if k = true then s1 else s2))))) := by
  cases k with
  | true => exact xs_if hc (fun h => xss_one (h1 rfl)) (fun h => nomatch h)
  | false => exact xs_if hc (fun h => nomatch h) (fun h => XSs.is xss_nil (by rw [if_neg Bool.false_ne_true, set_same h0]))
theorem cutD_take (l : List PyData) {j : Int} (h : 0 ≤ j) : cutD l none (some j) = l.take j.toNat := by
  obtain ⟨n, rfl⟩ := Int.eq_ofNat_of_zero_le h
  unfold cutD
  rw [HT.sIx_none, HT.sIx_nat, List.drop_zero, Nat.sub_zero]
  by_cases hn : n ≤ l.length
  · rw [Nat.min_eq_left hn]
    rfl
  · rw [Nat.min_eq_right (by omega), List.take_length]
    exact (List.take_of_length_le (by show l.length ≤ n; omega)).symm
def sigTab : List (List Str) := [["x", "y"], ["y", "z"], ["z", "far", "x", "y"]]
structure Sz where
  n0 : Int
  n1 : Int
  n2 : Int
  n3 : Int
structure Sz.Ok (z : Sz) : Prop where
  a0 : 1 ≤ z.n0
  b0 : z.n0 ≤ 3
  a1 : 0 ≤ z.n1
  b1 : z.n1 ≤ 2
  a2 : 0 ≤ z.n2
  b2 : z.n2 ≤ 3
  a3 : 2 ≤ z.n3
  b3 : z.n3 ≤ 3
abbrev Sz.l (z : Sz) : List Int := [z.n0, z.n1, z.n2, z.n3]
def tb1 : List Int := [0, 1, 0, 1, 1, 2, 3, 0]
def tb2 : List Int := [0, 1, 2, 0, 1, 2, 3, 4]
def condF (r : List Int) (z : Sz) (k : Nat) : Int × Str × Int :=
  ((r.getD 4 0 / 8 + (k : Int) * (1 + r.getD 3 0 / 3)) % z.n1, (["under", "from"] : List Str).getD (r.getD 5 0 / (1 + 2 * (k : Int)) % 2).toNat "", 1 + (r.getD 5 0 / 2 + (k : Int) * r.getD 6 0) % z.n3)
def chanF (r : List Int) (z : Sz) (k : Nat) : Int := r.getD 7 0 / (8 + 4 * (k : Int)) % z.n2
def toldF (r : List Int) (z : Sz) (k : Nat) : List Str := sigTab.getD (chanF r z k).toNat []
def sigF (r : List Int) (z : Sz) (k : Nat) : Int × Str := (chanF r z k, (toldF r z k).getD (r.getD 8 0 / (1 + (k : Int)) % ((toldF r z k).length : Int)).toNat "")
def tgtF (r : List Int) (z : Sz) (tr : Bool) : Option Int := if (tr && decide (r.getD 3 0 % 3 = 0)) = true then none else some (r.getD 2 0 % z.n0)
def ncond (r : List Int) (z : Sz) : Int := tb1.getD (r.getD 4 0 % 8).toNat 0 * (if decide (0 < z.n1) = true then 1 else 0)
def ruleG (r : List Int) (nm : List Str) (z : Sz) (tr : Bool) : Rl where
  st := r.getD 0 0 % z.n0
  item := (nm ++ [TICK]).getD (r.getD 1 0 % ((nm ++ [TICK]).length : Int)).toNat ""
  tgt := tgtF r z tr
  conds := (List.range (ncond r z).toNat).map (condF r z)
  resets := if (decide (0 < z.n1) && (decide (r.getD 6 0 % 3 = 0) && !(tgtF r z tr).isNone)) = true then [r.getD 6 0 / 3 % z.n1, r.getD 6 0 / 9 % z.n1, r.getD 6 0 / 27 % z.n1].take (1 + r.getD 3 0 / 3 % 5 / 2).toNat else []
  sigs := if (!tr && decide (0 < z.n2)) = true then (List.range (tb2.getD (r.getD 7 0 % 8).toNat 0).toNat).map (sigF r z) else []
theorem tb1_le : ∀ n : Nat, n < 8 → 0 ≤ tb1.getD n 0 ∧ tb1.getD n 0 ≤ 3 := by decide
theorem tb2_le : ∀ n : Nat, n < 8 → 0 ≤ tb2.getD n 0 ∧ tb2.getD n 0 ≤ 4 := by decide
theorem mod8 (i : Int) : 0 ≤ i % 8 ∧ i % 8 < 8 := ⟨Int.emod_nonneg _ (by decide), Int.emod_lt_of_pos _ (by decide)⟩
theorem ncond_le (r : List Int) (z : Sz) : 0 ≤ ncond r z ∧ ncond r z ≤ 3 ∧ (0 < ncond r z → 0 < z.n1) := by
  have h8 := mod8 (r.getD 4 0)
  obtain ⟨h1, h2⟩ := tb1_le (r.getD 4 0 % 8).toNat (by omega)
  unfold ncond
  split
  · rename_i h
    have := of_decide_eq_true h
    rw [Int.mul_one]
    exact ⟨h1, h2, fun _ => this⟩
  · rw [Int.mul_zero]
    exact ⟨by decide, by decide, fun h => absurd h (by decide)⟩
theorem dS_at {l : List Str} {i : Int} (h0 : 0 ≤ i) (h1 : i < l.length) : atI (dS l) i = some (.str (l.getD i.toNat "")) := atI_ok h0 (by rw [List.length_map]; exact h1) (by
  have h : i.toNat < l.length := by omega
  rw [List.getElem?_map, List.getElem?_eq_getElem h, List.getD_eq_getElem?_getD, List.getElem?_eq_getElem h]
  rfl)
section
variable {P : Program} {w : World} {K : PySem.W.Frag} {mg : Str → Option Value} {base : Heap}
theorem sc__law_signals : FnScope [] [] (defScope s__law_signals) := ⟨rfl, rfl, rfl, by decide +kernel, rfl, by decide +kernel, by decide +kernel⟩
theorem C__law_signals (T : Wd K mg) : FnG (gd K) P w K mg base 1 "_law_signals" 0 (fun rs en => rs = [] ∧ en = .own (sigTab.map fun l => .tuple (dS l))) := by
  obtain ⟨fd, F⟩ := T.df 30 (d := d__law_signals)
  refine fnG_of F sc__law_signals (T.glo 30) (fun _ _ _ _ _ _ us hl => match us, hl with | [], _ => rfl) fun cdv A outer s H E hr rs en hl hφ => ⟨_, .inl rfl, ?_⟩
  obtain ⟨rfl, rfl⟩ := hφ
  exact xss_one (xs_ret (XE.is (xe_lst (xd_cons (xe_tup (xd_cons xe_str (xd_cons xe_str xd_nil))) (xd_cons (xe_tup (xd_cons xe_str (xd_cons xe_str xd_nil))) (xd_cons (xe_tup (xd_cons xe_str (xd_cons xe_str (xd_cons xe_str (xd_cons xe_str xd_nil))))) xd_nil)))) rfl))
theorem sc__law_rule : FnScope ["_law_row_here", "_law_names_here", "_law_sizes", "_law_traffic_here", "_law_items", "_law_target", "_law_conditions", "_law_k", "_law_clock", "_law_resets", "_law_signals_here", "_law_channel", "_law_told"] ["_law_row_here", "_law_names_here", "_law_sizes", "_law_traffic_here"] (defScope s__law_rule) := ⟨rfl, rfl, rfl, by decide +kernel, rfl, by decide +kernel, by decide +kernel⟩
theorem C__law_rule (T : Wd K mg) : FnG (gd K) P w K mg base 2 "_law_rule" 4 (fun rs en => ∃ (r : List Int) (nm : List Str) (z : Sz) (tr : Bool), Rw r 9 ∧ nm.length ≤ 1000 ∧ z.Ok ∧ rs = [.dat (.list (dI r)), .dat (.list (dS nm)), .dat (.list (dI z.l)), .dat (.bool tr)] ∧ en = dat_ (eR (ruleG r nm z tr))) := by
  obtain ⟨fd, F⟩ := T.df 29 (d := d__law_rule)
  refine fnG_of F sc__law_rule (T.glo 29) (fun _ _ _ _ _ _ us hl => match us, hl with | [_, _, _, _], _ => rfl) fun cdv A outer s H E hr rs en hl hφ => ⟨_, .inl rfl, ?_⟩
  obtain ⟨r, nm, z, tr, R, hnm, Z, rfl, rfl⟩ := hφ
  have ra := fun (k : Nat) (h : k < 9) => ixo_list (G := gd K) (X := bx P w K mg base ["_law_row_here", "_law_names_here", "_law_sizes", "_law_traffic_here", "_law_items", "_law_target", "_law_conditions", "_law_k", "_law_clock", "_law_resets", "_law_signals_here", "_law_channel", "_law_told"] d__law_rule.qual d__law_rule.scope (He.fAd K d__law_rule.at_) cdv A outer s H E) (R.at k h)
  have rn := fun (k : Nat) (h : k < 9) => R.nn' k h
  have z0 : 0 < z.n0 := by have := Z.a0; omega
  have z3 : 0 < z.n3 := by have := Z.a3; omega
  have li : (nm ++ [TICK]).length = nm.length + 1 := List.length_append
  have lm : (0 : Int) < ((nm ++ [TICK]).length : Int) := by omega
  have n3 := rn 3 (by decide)
  have n4 := rn 4 (by decide)
  have n5 := rn 5 (by decide)
  have n6 := rn 6 (by decide)
  have n7 := rn 7 (by decide)
  have n8 := rn 8 (by decide)
  obtain ⟨c0, c3, c1⟩ := ncond_le r z
  have h4 := mod8 (r.getD 4 0)
  have h7 := mod8 (r.getD 7 0)
  obtain ⟨t0, t4⟩ := tb2_le (r.getD 7 0 % 8).toNat (by omega)
  refine xss_cons (xs_set 4 (XE.is (xe_fr (xe_bin (xe_var 1) (xe_fr (xe_lst (xd_cons xe_str xd_nil))) (bin_cat ?_))) (en' := lst_ (dS (nm ++ [TICK]))) ?_) sc__law_rule.nd) <|
    xss_cons (xs_set 5 (xe_bin (xe_ix (xe_var 0) xe_int (ra 2 (by decide))) (xe_ix (xe_var 2) xe_int (ixo_list rfl)) (bin_mod z0)) sc__law_rule.nd) <|
    xss_cons (XS.is (xs_ifDat 5 (XW.t (xw_and (xt_val (xe_var 3)) fun h => xw_and1 (xt_cmp (xe_bin (xe_ix (xe_var 0) xe_int (ra 3 (by decide))) xe_int (bin_mod (by decide))) xe_int bin_eqI))) (fun _ => xs_set 5 xe_non sc__law_rule.nd)) (o' := .nx [some (lst_ (dI r)), some (lst_ (dS nm)), some (lst_ (dI z.l)), some (bl_ tr), some (lst_ (dS (nm ++ [TICK]))), some (dat_ (eO (tgtF r z tr))), none, none, none, none, none, none, none]) ?_) <|
    xss_cons (xs_set 6 (xe_lst xd_nil) sc__law_rule.nd) <|
    xss_cons (xs_for PassesOwn.never rfl (xi_range (n := ncond r z) (xe_bin (xe_ix (xe_fr (xe_lst (xd_cons xe_int (xd_cons xe_int (xd_cons xe_int (xd_cons xe_int (xd_cons xe_int (xd_cons xe_int (xd_cons xe_int (xd_cons xe_int xd_nil)))))))))) (xe_bin (xe_ix (xe_var 0) xe_int (ra 4 (by decide))) xe_int (bin_mod (by decide))) (ixo_list (atI_dI (l := tb1) h4.1 h4.2))) (xe_callT T.int_ (xa_cons (xe_cmp (xe_ix (xe_var 2) xe_int (ixo_list rfl)) xe_int bin_gt) xa_nil) co_intB) (bin_mul (.inr ?_))) (by omega) (by omega) T.range)
      (o := .nx [some (lst_ (dI r)), some (lst_ (dS nm)), some (lst_ (dI z.l)), some (bl_ tr), some (lst_ (dS (nm ++ [TICK]))), some (dat_ (eO (tgtF r z tr))), some (.own ((ruleG r nm z tr).conds.map eC)), none, none, none, none, none, none]) ?_) <|
    xss_cons (xs_set 9 (xe_fr (xe_lst xd_nil)) sc__law_rule.nd) <|
    xss_cons (XS.is (xs_ifDat 9 (XW.t (xw_and (xt_cmp (xe_ix (xe_var 2) xe_int (ixo_list rfl)) xe_int bin_gt) fun _ => xw_and (xt_cmp (xe_bin (xe_ix (xe_var 0) xe_int (ra 6 (by decide))) xe_int (bin_mod (by decide))) xe_int bin_eqI) fun _ => xw_and1 (xt_cmp (xe_var 5) xe_non bin_notN)))
      (s1 := .list (cutD (dI [r.getD 6 0 / 3 % z.n1, r.getD 6 0 / 9 % z.n1, r.getD 6 0 / 27 % z.n1]) none (some (1 + r.getD 3 0 / 3 % 5 / 2)))) (fun h => ?_))
      (o' := .nx [some (lst_ (dI r)), some (lst_ (dS nm)), some (lst_ (dI z.l)), some (bl_ tr), some (lst_ (dS (nm ++ [TICK]))), some (dat_ (eO (tgtF r z tr))), some (.own ((ruleG r nm z tr).conds.map eC)), none, none, some (lst_ (dI (ruleG r nm z tr).resets)), none, none, none]) ?_) <|
    xss_cons (xs_set 10 (xe_lst xd_nil) sc__law_rule.nd) <|
    xss_cons (xs_if (o := .nx [some (lst_ (dI r)), some (lst_ (dS nm)), some (lst_ (dI z.l)), some (bl_ tr), some (lst_ (dS (nm ++ [TICK]))), some (dat_ (eO (tgtF r z tr))), some (.own ((ruleG r nm z tr).conds.map eC)), none, none, some (lst_ (dI (ruleG r nm z tr).resets)), some (.own ((ruleG r nm z tr).sigs.map eG)), none, none]) (XW.t (xw_and (xt_not (xt_val (xe_var 3))) fun h => xw_and1 (xt_cmp (xe_ix (xe_var 2) xe_int (ixo_list rfl)) xe_int bin_gt))) (fun h => xss_one ?_) (fun h => XSs.is xss_nil ?_)) <|
    xss_freeze 6 <| xss_freeze 10 <|
    xss_one (xs_ret (XE.is (xe_tup (xd_cons (xe_bin (xe_ix (xe_var 0) xe_int (ra 0 (by decide))) (xe_ix (xe_var 2) xe_int (ixo_list rfl)) (bin_mod z0)) (xd_cons (xe_ix (xe_var 4) (xe_bin (xe_ix (xe_var 0) xe_int (ra 1 (by decide))) (xe_callB T.len (xa_cons (xe_var 4) xa_nil) co_lenL) (bin_mod ?_)) (ixo_list (dS_at ?_ ?_))) (xd_cons (xe_var 5) (xd_cons (xe_callT T.tuple (xa_cons (xe_var 6) xa_nil) co_tupL) (xd_cons (xe_callT T.tuple (xa_cons (xe_var 9) xa_nil) co_tupL) (xd_cons (xe_callT T.tuple (xa_cons (xe_var 10) xa_nil) co_tupL) xd_nil))))))) ?_))
  · rw [List.length_map]
    show nm.length + 1 ≤ _
    omega
  · simp only [dS, List.map_append, List.map_cons, List.map_nil]
  · unfold tgtF
    split <;> rfl
  · split <;> exact ⟨by decide, by decide⟩
  · refine forR_inv (fun (i : Nat) => Rs.dat (.int (i : Int))) (fun l ρ => ∃ res o7 o8, (∀ i ∈ l, (i : Int) < ncond r z) ∧ res ++ l.map (condF r z) = (ruleG r nm z tr).conds ∧ ρ = [some (lst_ (dI r)), some (lst_ (dS nm)), some (lst_ (dI z.l)), some (bl_ tr), some (lst_ (dS (nm ++ [TICK]))), some (dat_ (eO (tgtF r z tr))), some (.own (res.map eC)), o7, o8, none, none, none, none])
      (l := List.range (ncond r z).toNat) rfl ⟨[], none, none, fun i hi => by have := List.mem_range.mp hi; omega, rfl, rfl⟩ ?_ ?_
    · rintro ρ ⟨res, o7, o8, _, e, rfl⟩
      have e : res = (ruleG r nm z tr).conds := by rw [← e]; exact (List.append_nil _).symm
      rw [← e]
      exact ⟨_, by repeat constructor, rfl⟩
    · rintro k l ρ ⟨res, o7, o8, hl', e, rfl⟩
      have hk := hl' k (List.mem_cons_self ..)
      have z1 : 0 < z.n1 := c1 (by omega)
      have hres : res.length ≤ 3 := by
        have := congrArg List.length e
        rw [List.length_append] at this
        have h2 : (ruleG r nm z tr).conds.length = (ncond r z).toNat := by
          show ((List.range (ncond r z).toNat).map (condF r z)).length = _
          rw [List.length_map, List.length_range]
        omega
      refine ⟨_, _, _, Le.refl _, xg_name 7 sc__law_rule.nd, .inl ⟨_, xss_cons (xs_set 8 (xe_bin (xe_bin (xe_bin (xe_ix (xe_var 0) xe_int (ra 4 (by decide))) xe_int (bin_fdiv ⟨by decide, by decide⟩)) (xe_bin (xe_var 7) (xe_bin xe_int (xe_bin (xe_ix (xe_var 0) xe_int (ra 3 (by decide))) xe_int (bin_fdiv ⟨by decide, by decide⟩)) bin_add) (bin_mul (.inl ⟨by omega, by omega⟩))) bin_add) (xe_ix (xe_var 2) xe_int (ixo_list rfl)) (bin_mod z1)) sc__law_rule.nd) <|
        xss_one (XS.is (xs_append 6 (xe_tup (xd_cons (xe_var 8) (xd_cons (xe_ix (xe_fr (xe_lst (xd_cons xe_str (xd_cons xe_str xd_nil)))) (xe_bin (xe_bin (xe_ix (xe_var 0) xe_int (ra 5 (by decide))) (xe_bin xe_int (xe_bin xe_int (xe_var 7) (bin_mul (.inl ⟨by decide, by decide⟩))) bin_add) (bin_fdiv ⟨by omega, by omega⟩)) xe_int (bin_mod (by decide))) (ixo_list (dS_at (l := ["under", "from"]) (Int.emod_nonneg _ (by decide)) (Int.emod_lt_of_pos _ (by decide)))))
          (xd_cons (xe_bin xe_int (xe_bin (xe_bin (xe_bin (xe_ix (xe_var 0) xe_int (ra 5 (by decide))) xe_int (bin_fdiv ⟨by decide, by decide⟩)) (xe_bin (xe_var 7) (xe_ix (xe_var 0) xe_int (ra 6 (by decide))) (bin_mul (.inl ⟨by omega, by omega⟩))) bin_add) (xe_ix (xe_var 2) xe_int (ixo_list rfl)) (bin_mod z3)) bin_add) xd_nil)))) rfl (by rw [List.length_map]; omega)) (o' := .nx [some (lst_ (dI r)), some (lst_ (dS nm)), some (lst_ (dI z.l)), some (bl_ tr), some (lst_ (dS (nm ++ [TICK]))), some (dat_ (eO (tgtF r z tr))), some (.own ((res ++ [condF r z k]).map eC)), some (int_ (k : Int)), some (int_ (condF r z k).1), none, none, none, none]) ?_), res ++ [condF r z k], _, _, fun j hj => hl' j (List.mem_cons_of_mem _ hj), by rw [List.append_assoc, List.singleton_append, ← List.map_cons]; exact e, rfl⟩⟩
      simp only [List.map_append, List.map_cons, List.map_nil]
      rfl
  · have z1 : 0 < z.n1 := by
      have := (Bool.and_eq_true_iff.mp h).1
      exact of_decide_eq_true this
    exact xs_set 9 (xe_fr (xe_slice (xe_fr (xe_lst (xd_cons (xe_bin (xe_bin (xe_ix (xe_var 0) xe_int (ra 6 (by decide))) xe_int (bin_fdiv ⟨by decide, by decide⟩)) (xe_ix (xe_var 2) xe_int (ixo_list rfl)) (bin_mod z1)) (xd_cons (xe_bin (xe_bin (xe_ix (xe_var 0) xe_int (ra 6 (by decide))) xe_int (bin_fdiv ⟨by decide, by decide⟩)) (xe_ix (xe_var 2) xe_int (ixo_list rfl)) (bin_mod z1)) (xd_cons (xe_bin (xe_bin (xe_ix (xe_var 0) xe_int (ra 6 (by decide))) xe_int (bin_fdiv ⟨by decide, by decide⟩)) (xe_ix (xe_var 2) xe_int (ixo_list rfl)) (bin_mod z1)) xd_nil))))) xo_none (xo_some (xe_bin xe_int (xe_bin (xe_bin (xe_bin (xe_ix (xe_var 0) xe_int (ra 3 (by decide))) xe_int (bin_fdiv ⟨by decide, by decide⟩)) xe_int (bin_mod (by decide))) xe_int (bin_fdiv ⟨by decide, by decide⟩)) bin_add)) slo_list)) sc__law_rule.nd
  · have hN : isNoneR (.dat (eO (tgtF r z tr))) = (tgtF r z tr).isNone := isN_eO _
    rw [hN, cutD_take _ (by omega)]
    unfold ruleG
    simp only
    split <;> simp only [dI, List.map_take, List.map_nil] <;> rfl
  · have z2 : 0 < z.n2 := of_decide_eq_true (Bool.and_eq_true_iff.mp h).2
    have hs : (ruleG r nm z tr).sigs = (List.range (tb2.getD (r.getD 7 0 % 8).toNat 0).toNat).map (sigF r z) := if_pos h
    refine xs_for PassesOwn.never rfl (xi_range (xe_ix (xe_fr (xe_lst (xd_cons xe_int (xd_cons xe_int (xd_cons xe_int (xd_cons xe_int (xd_cons xe_int (xd_cons xe_int (xd_cons xe_int (xd_cons xe_int xd_nil)))))))))) (xe_bin (xe_ix (xe_var 0) xe_int (ra 7 (by decide))) xe_int (bin_mod (by decide))) (ixo_list (atI_dI (l := tb2) h7.1 h7.2))) (by omega) (by omega) T.range) ?_
    refine forR_inv (fun (i : Nat) => Rs.dat (.int (i : Int))) (fun l ρ => ∃ res o7 o11 o12, (∀ i ∈ l, (i : Int) < 4) ∧ res ++ l.map (sigF r z) = (ruleG r nm z tr).sigs ∧ ρ = [some (lst_ (dI r)), some (lst_ (dS nm)), some (lst_ (dI z.l)), some (bl_ tr), some (lst_ (dS (nm ++ [TICK]))), some (dat_ (eO (tgtF r z tr))), some (.own ((ruleG r nm z tr).conds.map eC)), o7, none, some (lst_ (dI (ruleG r nm z tr).resets)), some (.own (res.map eG)), o11, o12])
      (l := List.range (tb2.getD (r.getD 7 0 % 8).toNat 0).toNat) rfl ⟨[], none, none, none, fun i hi => by have := List.mem_range.mp hi; omega, hs.symm, rfl⟩ ?_ ?_
    · rintro ρ ⟨res, o7, o11, o12, _, e, rfl⟩
      have e : res = (ruleG r nm z tr).sigs := by rw [← e]; exact (List.append_nil _).symm
      rw [← e]
      exact ⟨_, by repeat constructor, rfl⟩
    · rintro k l ρ ⟨res, o7, o11, o12, hl', e, rfl⟩
      have hk := hl' k (List.mem_cons_self ..)
      have ch0 : 0 ≤ chanF r z k := Int.emod_nonneg _ (by omega)
      have ch1 : chanF r z k < z.n2 := Int.emod_lt_of_pos _ z2
      have b2 := Z.b2
      have hres : res.length ≤ 4 := by
        have := congrArg List.length e
        rw [hs, List.length_append, List.length_map, List.length_map, List.length_range] at this
        omega
      have hc3 : (chanF r z k).toNat < sigTab.length := by show _ < 3; omega
      have tl : 0 < (toldF r z k).length := by
        have : ∀ n, n < 3 → 0 < (sigTab.getD n []).length := by decide
        exact this _ hc3
      have it : atI (sigTab.map fun l => PyData.tuple (dS l)) (chanF r z k) = some (.tuple (dS (toldF r z k))) := atI_ok ch0 (by show _ < (3 : Int); omega) (by
        rw [List.getElem?_map, List.getElem?_eq_getElem hc3]
        show some _ = some (PyData.tuple (dS (sigTab.getD _ [])))
        rw [List.getD_eq_getElem?_getD, List.getElem?_eq_getElem hc3]
        rfl)
      refine ⟨_, _, _, Le.refl _, xg_name 7 sc__law_rule.nd, .inl ⟨_, xss_cons (xs_set 11 (xe_bin (xe_bin (xe_ix (xe_var 0) xe_int (ra 7 (by decide))) (xe_bin xe_int (xe_bin xe_int (xe_var 7) (bin_mul (.inl ⟨by decide, by decide⟩))) bin_add) (bin_fdiv ⟨by omega, by omega⟩)) (xe_ix (xe_var 2) xe_int (ixo_list rfl)) (bin_mod z2)) sc__law_rule.nd) <|
        xss_cons (xs_set 12 (xe_ix (xe_fr (xe_call0 (C__law_signals T) (hr.mono (by decide)) ⟨rfl, rfl⟩)) (xe_var 11) (ixo_list it)) sc__law_rule.nd) <|
        xss_one (XS.is (xs_append 10 (xe_tup (xd_cons (xe_var 11) (xd_cons (xe_ix (xe_var 12) (xe_bin (xe_bin (xe_ix (xe_var 0) xe_int (ra 8 (by decide))) (xe_bin xe_int (xe_var 7) bin_add) (bin_fdiv ⟨by omega, by omega⟩)) (xe_callB T.len (xa_cons (xe_var 12) xa_nil) co_lenT) (bin_mod (by rw [List.length_map]; omega))) (ixo_tup (dS_at (Int.emod_nonneg _ (by rw [List.length_map]; omega)) (by rw [List.length_map]; exact Int.emod_lt_of_pos _ (by omega))))) xd_nil))) rfl (by rw [List.length_map]; omega)) (o' := .nx [some (lst_ (dI r)), some (lst_ (dS nm)), some (lst_ (dI z.l)), some (bl_ tr), some (lst_ (dS (nm ++ [TICK]))), some (dat_ (eO (tgtF r z tr))), some (.own ((ruleG r nm z tr).conds.map eC)), some (int_ (k : Int)), none, some (lst_ (dI (ruleG r nm z tr).resets)), some (.own ((res ++ [sigF r z k]).map eG)), some (int_ (chanF r z k)), some (tup_ (dS (toldF r z k)))]) ?_), res ++ [sigF r z k], _, _, _, fun j hj => hl' j (List.mem_cons_of_mem _ hj), by rw [List.append_assoc, List.singleton_append, ← List.map_cons]; exact e, rfl⟩⟩
      rw [List.length_map]
      simp only [List.map_append, List.map_cons, List.map_nil]
      rfl
  · have hs : (ruleG r nm z tr).sigs = [] := if_neg (by rw [h]; exact Bool.false_ne_true)
    rw [hs]
    rfl
  · rw [List.length_map]
    exact lm
  · rw [List.length_map]
    exact Int.emod_nonneg _ (by omega)
  · rw [List.length_map]
    exact Int.emod_lt_of_pos _ lm
  · rw [List.length_map]
    rfl
end
end LC
namespace LC
open PySem PySem.Spec PyProof.Rows L2

def chTab : List (Str × List Str) := [("out", ["x", "y"]), ("more", ["y", "z"]), ("far", ["z", "far", "x", "y"])]
abbrev ePl (m : Mc) : List PyData := [.tuple (dS m.names), .tuple (dS m.clocks), .tuple (m.chans.map eH), .tuple (dS m.states), .tuple (m.rules.map eR)]
def clkTab : List Str := ["t", "u", "far"]
def stTab : List Str := ["p", "q1", "r", "out", "s2"]
def rowK (row : List Int) (k : Nat) : List Int := (row.drop (4 + 9 * k)).take 9
def sizedF (cell : Int) (nm : List Str) (tr : Bool) (z : Sz) : Mc where
  names := nm
  clocks := clkTab.take z.n1.toNat
  chans := if tr = true then [] else chTab.take z.n2.toNat
  states := stTab.take z.n0.toNat
  rules := (List.range ((rowF cell 60).getD 3 0 % 7).toNat).map fun k => ruleG (rowK (rowF cell 60) k) nm z tr
def tbA : List Int := [0, 1, 0, 1, 0, 1, 2, 1]
def tbB : List Int := [1, 2, 1, 2, 1, 2, 3, 0]
def szF (r : List Int) : Sz := ⟨1 + r.getD 0 0 % 3, tbA.getD (r.getD 1 0 % 8).toNat 0, tbB.getD (r.getD 2 0 % 8).toNat 0, if tbA.getD (r.getD 1 0 % 8).toNat 0 = 2 then 2 else 3⟩
def partsF (cell : Int) (nm : List Str) (tr : Bool) : Mc := sizedF cell nm tr (szF (rowF cell 60))
theorem tbA_le : ∀ n : Nat, n < 8 → 0 ≤ tbA.getD n 0 ∧ tbA.getD n 0 ≤ 2 := by decide
theorem tbB_le : ∀ n : Nat, n < 8 → 0 ≤ tbB.getD n 0 ∧ tbB.getD n 0 ≤ 3 := by decide
theorem szF_ok (r : List Int) : (szF r).Ok := by
  have h1 := mod8 (r.getD 1 0)
  have h2 := mod8 (r.getD 2 0)
  obtain ⟨a1, a2⟩ := tbA_le (r.getD 1 0 % 8).toNat (by omega)
  obtain ⟨b1, b2⟩ := tbB_le (r.getD 2 0 % 8).toNat (by omega)
  have h0 : 0 ≤ r.getD 0 0 % 3 := Int.emod_nonneg _ (by decide)
  have h3 : r.getD 0 0 % 3 < 3 := Int.emod_lt_of_pos _ (by decide)
  unfold szF
  refine ⟨?_, ?_, a1, a2, b1, b2, ?_, ?_⟩
  · show 1 ≤ 1 + r.getD 0 0 % 3
    omega
  · show 1 + r.getD 0 0 % 3 ≤ 3
    omega
  · show (2 : Int) ≤ (if _ then 2 else 3)
    split <;> decide
  · show (if _ then (2 : Int) else 3) ≤ 3
    split <;> decide
theorem rowK_rw {row : List Int} (R : Rw row 60) {k : Nat} (h : k < 6) : Rw (rowK row k) 9 := by
  refine ⟨?_, fun x hx => R.nn x (List.mem_of_mem_drop (List.mem_of_mem_take hx))⟩
  unfold rowK
  rw [List.length_take, List.length_drop, R.len]
  omega
theorem cutD_mid (l : List PyData) {a b : Nat} (h1 : a ≤ b) (h2 : b ≤ l.length) : cutD l (some (a : Int)) (some (b : Int)) = (l.drop a).take (b - a) := by
  unfold cutD
  rw [HT.sIx_nat, HT.sIx_nat, Nat.min_eq_left h2, Nat.min_eq_left (Nat.le_trans h1 h2)]
section
variable {P : Program} {w : World} {K : PySem.W.Frag} {mg : Str → Option Value} {base : Heap}
theorem sc__law_sized : FnScope ["_law_cell_here", "_law_names_here", "_law_traffic_here", "_law_sizes", "_law_row_here", "_law_channels", "_law_rules", "_law_k", "_law_states"] ["_law_cell_here", "_law_names_here", "_law_traffic_here", "_law_sizes"] (defScope s__law_sized) := ⟨rfl, rfl, rfl, by decide +kernel, rfl, by decide +kernel, by decide +kernel⟩
theorem C__law_sized (T : Wd K mg) : FnG (gd K) P w K mg base 3 "_law_sized" 4 (fun rs en => ∃ (cell : Int) (nm : List Str) (tr : Bool) (z : Sz), nm.length ≤ 1000 ∧ z.Ok ∧ rs = [.dat (.int cell), .dat (.list (dS nm)), .dat (.bool tr), .dat (.list (dI z.l))] ∧ en = .own (ePl (sizedF cell nm tr z))) := by
  obtain ⟨fd, F⟩ := T.df 31 (d := d__law_sized)
  refine fnG_of F sc__law_sized (T.glo 31) (fun _ _ _ _ _ _ us hl => match us, hl with | [_, _, _, _], _ => rfl) fun cdv A outer s H E hr rs en hl hφ => ⟨_, .inl rfl, ?_⟩
  obtain ⟨cell, nm, tr, z, hnm, Z, rfl, rfl⟩ := hφ
  have R := rowF_rw cell 60
  have a3 := R.at 3 (by decide)
  have z0 := Z.a0
  have z1 := Z.a1
  have z2 := Z.a2
  have m0 : 0 ≤ (rowF cell 60).getD 3 0 % 7 := Int.emod_nonneg _ (by decide)
  have m1 : (rowF cell 60).getD 3 0 % 7 < 7 := Int.emod_lt_of_pos _ (by decide)
  refine xss_cons (xs_set 4 (xe_fr (xe_call (C__law_row T) (hr.mono (by decide)) (xa_cons (xe_var 0) (xa_cons xe_int xa_nil)) ⟨cell, 60, by decide, rfl, rfl⟩)) sc__law_sized.nd) <|
    xss_cons (xs_set 5 (xe_fr (xe_slice (xe_fr (xe_lst (xd_cons (xe_tup (xd_cons xe_str (xd_cons (xe_tup (xd_cons xe_str (xd_cons xe_str xd_nil))) xd_nil))) (xd_cons (xe_tup (xd_cons xe_str (xd_cons (xe_tup (xd_cons xe_str (xd_cons xe_str xd_nil))) xd_nil))) (xd_cons (xe_tup (xd_cons xe_str (xd_cons (xe_tup (xd_cons xe_str (xd_cons xe_str (xd_cons xe_str (xd_cons xe_str xd_nil))))) xd_nil))) xd_nil))))) xo_none (xo_some (xe_ix (xe_var 3) xe_int (ixo_list rfl))) slo_list)) sc__law_sized.nd) <|
    xss_cons (XS.is (xs_ifDat 5 (xt_val (xe_var 2)) (fun _ => xs_set 5 (xe_fr (xe_lst xd_nil)) sc__law_sized.nd)) (o' := .nx [some (int_ cell), some (lst_ (dS nm)), some (bl_ tr), some (lst_ (dI z.l)), some (lst_ (dI (rowF cell 60))), some (lst_ ((sizedF cell nm tr z).chans.map eH)), none, none, none]) ?_) <|
    xss_cons (xs_setLc 6 [("_law_k", 7)] rfl sc__law_sized.nd (bk ["_law_cell_here", "_law_names_here", "_law_traffic_here", "_law_sizes", "_law_row_here", "_law_channels", "_law_rules", "_law_k", "_law_states"] s__law_sized) (xi_range (xe_bin (xe_ix (xe_var 4) xe_int (ixo_list a3)) xe_int (bin_mod (by decide))) (by omega) (by omega) T.range) (ds := (sizedF cell nm tr z).rules.map eR) ?_ ?_ (sw_true rfl rfl rfl (by decide +kernel))) <| xss_freeze 6 <|
    xss_cons (xs_set 8 (xe_slice (xe_tup (xd_cons xe_str (xd_cons xe_str (xd_cons xe_str (xd_cons xe_str (xd_cons xe_str xd_nil)))))) xo_none (xo_some (xe_ix (xe_var 3) xe_int (ixo_list rfl))) slo_tup) sc__law_sized.nd) <|
    xss_one (xs_ret (XE.is (xe_lst (xd_cons (xe_callT T.tuple (xa_cons (xe_var 1) xa_nil) co_tupL) (xd_cons (xe_slice (xe_tup (xd_cons xe_str (xd_cons xe_str (xd_cons xe_str xd_nil)))) xo_none (xo_some (xe_ix (xe_var 3) xe_int (ixo_list rfl))) slo_tup) (xd_cons (xe_callT T.tuple (xa_cons (xe_var 5) xa_nil) co_tupL) (xd_cons (xe_var 8) (xd_cons (xe_callT T.tuple (xa_cons (xe_var 6) xa_nil) co_tupL) xd_nil)))))) ?_))
  · rw [cutD_take _ z2]
    unfold sizedF
    simp only
    split
    · rfl
    · rw [List.map_take]
      rfl
  · refine LcR.rs (lcR_map (fun (i : Nat) => Rs.dat (.int (i : Int))) (fun (i : Nat) => eR (ruleG (rowK (rowF cell 60) i) nm z tr)) (List.range ((rowF cell 60).getD 3 0 % 7).toNat) fun i hi => ?_) rfl ?_
    · have hi6 : i < 6 := by
        have := List.mem_range.mp hi
        omega
      refine ⟨_, fun X' ⟨_, _, _, _, _, e⟩ => by subst e; exact xg_name 7 sc__law_sized.nd, fun X' ⟨_, _, _, _, _, e⟩ => ?_⟩
      subst e
      refine xe_call (C__law_rule T) (hr.mono (by decide)) (xa_cons (XE.is (xe_fr (xe_slice (xe_var 4) (xo_some (xe_bin xe_int (xe_bin xe_int (xe_var 7) (bin_mul (.inl ⟨by decide, by decide⟩))) bin_add)) (xo_some (xe_bin xe_int (xe_bin xe_int (xe_var 7) (bin_mul (.inl ⟨by decide, by decide⟩))) bin_add)) slo_list)) (en' := lst_ (dI (rowK (rowF cell 60) i))) ?_) (xa_cons (xe_var 1) (xa_cons (xe_var 3) (xa_cons (xe_var 2) xa_nil)))) ⟨rowK (rowF cell 60) i, nm, z, tr, rowK_rw R hi6, hnm, Z, rfl, rfl⟩
      have e1 : (4 : Int) + 9 * (i : Int) = ((4 + 9 * i : Nat) : Int) := by omega
      have e2 : (13 : Int) + 9 * (i : Int) = ((13 + 9 * i : Nat) : Int) := by omega
      rw [e1, e2, cutD_mid _ (by omega) (by rw [List.length_map, R.len]; omega)]
      unfold rowK
      rw [show 13 + 9 * i - (4 + 9 * i) = 9 by omega]
      simp only [dI, List.map_take, List.map_drop]
    · unfold sizedF
      simp only [List.map_map]
      rfl
  · rw [List.length_map]
    unfold sizedF
    simp only [List.length_map, List.length_range]
    omega
  · rw [cutD_take _ (show 0 ≤ z.n0 by omega), cutD_take _ z1]
    unfold sizedF ePl
    simp only [dS, List.map_take]
    rfl
theorem sc__law_parts : FnScope ["_law_cell_here", "_law_names_here", "_law_traffic_here", "_law_row_here", "_law_sizes"] ["_law_cell_here", "_law_names_here", "_law_traffic_here"] (defScope s__law_parts) := ⟨rfl, rfl, rfl, by decide +kernel, rfl, by decide +kernel, by decide +kernel⟩
theorem C__law_parts (T : Wd K mg) : FnG (gd K) P w K mg base 4 "_law_parts" 3 (fun rs en => ∃ (cell : Int) (nm : List Str) (tr : Bool), nm.length ≤ 1000 ∧ rs = [.dat (.int cell), .dat (.list (dS nm)), .dat (.bool tr)] ∧ en = .own (ePl (partsF cell nm tr))) := by
  obtain ⟨fd, F⟩ := T.df 32 (d := d__law_parts)
  refine fnG_of F sc__law_parts (T.glo 32) (fun _ _ _ _ _ _ us hl => match us, hl with | [_, _, _], _ => rfl) fun cdv A outer s H E hr rs en hl hφ => ⟨_, .inl rfl, ?_⟩
  obtain ⟨cell, nm, tr, hnm, rfl, rfl⟩ := hφ
  have R := rowF_rw cell 60
  have h1 := mod8 ((rowF cell 60).getD 1 0)
  have h2 := mod8 ((rowF cell 60).getD 2 0)
  refine xss_cons (xs_set 3 (xe_fr (xe_call (C__law_row T) (hr.mono (by decide)) (xa_cons (xe_var 0) (xa_cons xe_int xa_nil)) ⟨cell, 60, by decide, rfl, rfl⟩)) sc__law_parts.nd) <|
    xss_cons (xs_set 4 (xe_lst (xd_cons (xe_bin xe_int (xe_bin (xe_ix (xe_var 3) xe_int (ixo_list (R.at 0 (by decide)))) xe_int (bin_mod (by decide))) bin_add) (xd_cons (xe_ix (xe_fr (xe_lst (xd_cons xe_int (xd_cons xe_int (xd_cons xe_int (xd_cons xe_int (xd_cons xe_int (xd_cons xe_int (xd_cons xe_int (xd_cons xe_int xd_nil)))))))))) (xe_bin (xe_ix (xe_var 3) xe_int (ixo_list (R.at 1 (by decide)))) xe_int (bin_mod (by decide))) (ixo_list (atI_dI (l := tbA) h1.1 h1.2))) (xd_cons (xe_ix (xe_fr (xe_lst (xd_cons xe_int (xd_cons xe_int (xd_cons xe_int (xd_cons xe_int (xd_cons xe_int (xd_cons xe_int (xd_cons xe_int (xd_cons xe_int xd_nil)))))))))) (xe_bin (xe_ix (xe_var 3) xe_int (ixo_list (R.at 2 (by decide)))) xe_int (bin_mod (by decide))) (ixo_list (atI_dI (l := tbB) h2.1 h2.2))) (xd_cons xe_int xd_nil))))) sc__law_parts.nd) <|
    xss_cons (xs_if (o := .nx [some (int_ cell), some (lst_ (dS nm)), some (bl_ tr), some (lst_ (dI (rowF cell 60))), some (.own (dI (szF (rowF cell 60)).l))]) (xt_lend 4 (xt_cmp (xe_ix (xe_var 4) xe_int (ixo_list rfl)) xe_int bin_eqI)) (fun h => XSs.is (xss_one (xs_setOwn 4 xe_int xe_int rfl)) ?_) (fun h => XSs.is xss_nil ?_)) <| xss_freeze 4 <|
    xss_one (xs_ret (xe_call (C__law_sized T) (hr.mono (by decide)) (xa_cons (xe_var 0) (xa_cons (xe_var 1) (xa_cons (xe_var 2) (xa_cons (xe_var 4) xa_nil)))) ⟨cell, nm, tr, szF (rowF cell 60), hnm, szF_ok _, rfl, rfl⟩))
  · unfold szF
    simp only [Sz.l]
    rw [if_pos (of_decide_eq_true h)]
    rfl
  · unfold szF
    simp only [Sz.l]
    rw [if_neg (of_decide_eq_false h)]
    rfl
end
end LC
namespace LC
open PySem PySem.Spec PyProof.Rows L2

def tr1 (gap : Int) (n : Str) : List Rl := [⟨0, n, some 1, [], [0], []⟩, ⟨1, n, none, [(0, "under", gap)], [], []⟩, ⟨1, n, some 1, [], [0], []⟩]
def tr2b (k : Int) (n : Str) : Rl := ⟨k, n, none, [], [], []⟩
def tr2 (nm : List Str) (k : Nat) : List Rl := ⟨(k : Int), nm.getD k "", some (((k : Int) + 1) % (nm.length : Int)), [], [], []⟩ :: (nm.filter fun n => !decide (n = nm.getD k "")).map (tr2b k)
def tr3b (count : Int) (k : Int) (n : Str) : Rl := ⟨k, n, if decide (k = count) = true then none else some (k + 1), [], [], []⟩
def tr3 (nm : List Str) (count : Int) (k : Nat) : List Rl := nm.map (tr3b count k)
def trafF (cell : Int) (nm : List Str) : Mc :=
  if (rowF cell 4).getD 0 0 % 4 = 0 then partsF (cell / 4) nm true
  else if (rowF cell 4).getD 0 0 % 4 = 1 then ⟨nm, ["t"], [], ["p", "q1"], nm.flatMap (tr1 (1 + (rowF cell 4).getD 1 0 % 3))⟩
  else if (rowF cell 4).getD 0 0 % 4 = 2 then ⟨nm, [], [], (["p", "q1", "r"] : List Str).take nm.length, (List.range nm.length).flatMap (tr2 nm)⟩
  else ⟨nm, [], [], (["p", "q1", "r", "s"] : List Str).take (1 + (rowF cell 4).getD 1 0 % 3 + 1).toNat, (List.range (1 + (rowF cell 4).getD 1 0 % 3 + 1).toNat).flatMap (tr3 nm (1 + (rowF cell 4).getD 1 0 % 3))⟩
theorem tr1_len (gap : Int) : ∀ l : List Str, (l.flatMap (tr1 gap)).length = 3 * l.length
  | [] => rfl
  | a :: l => by
    rw [List.flatMap_cons, List.length_append, tr1_len gap l, List.length_cons]
    show 3 + _ = _
    omega
theorem tr2_len (nm : List Str) (k : Nat) : (tr2 nm k).length ≤ nm.length + 1 := by
  unfold tr2
  rw [List.length_cons, List.length_map]
  have := List.length_filter_le (fun n => !decide (n = nm.getD k "")) nm
  omega
theorem fm_len {α : Type} (f : α → List Rl) (b : Nat) (h : ∀ a, (f a).length ≤ b) : ∀ l : List α, (l.flatMap f).length ≤ l.length * b
  | [] => by simp
  | a :: l => by
    rw [List.flatMap_cons, List.length_append, List.length_cons, Nat.add_mul, Nat.one_mul]
    have := fm_len f b h l
    have := h a
    omega
section
variable {P : Program} {w : World} {K : PySem.W.Frag} {mg : Str → Option Value} {base : Heap}
theorem sc__law_traffic : FnScope ["_law_cell_here", "_law_names_here", "_law_row_here", "_law_rules", "_law_gap", "_law_name", "_law_k", "_law_count", "_law_target"] ["_law_cell_here", "_law_names_here"] (defScope s__law_traffic) := ⟨rfl, rfl, rfl, by decide +kernel, rfl, by decide +kernel, by decide +kernel⟩
theorem C__law_traffic (T : Wd K mg) : FnG (gd K) P w K mg base 5 "_law_traffic" 2 (fun rs en => ∃ (cell : Int) (nm : List Str), 0 < nm.length ∧ nm.length ≤ 3 ∧ rs = [.dat (.int cell), .dat (.list (dS nm))] ∧ en = .own (ePl (trafF cell nm))) := by
  obtain ⟨fd, F⟩ := T.df 33 (d := d__law_traffic)
  refine fnG_of F sc__law_traffic (T.glo 33) (fun _ _ _ _ _ _ us hl => match us, hl with | [_, _], _ => rfl) fun cdv A outer s H E hr rs en hl hφ => ⟨_, .inl rfl, ?_⟩
  obtain ⟨cell, nm, hn0, hnm, rfl, rfl⟩ := hφ
  have R := rowF_rw cell 4
  have a0 := R.at 0 (by decide)
  have a1 := R.at 1 (by decide)
  have m0 : 0 ≤ (rowF cell 4).getD 1 0 % 3 := Int.emod_nonneg _ (by decide)
  have m1 : (rowF cell 4).getD 1 0 % 3 < 3 := Int.emod_lt_of_pos _ (by decide)
  refine xss_cons (xs_set 2 (xe_fr (xe_call (C__law_row T) (hr.mono (by decide)) (xa_cons (xe_var 0) (xa_cons xe_int xa_nil)) ⟨cell, 4, by decide, rfl, rfl⟩)) sc__law_traffic.nd) <| xss_cons (xs_set 3 (xe_lst xd_nil) sc__law_traffic.nd) ?_
  unfold trafF
  by_cases h0 : (rowF cell 4).getD 0 0 % 4 = 0
  · rw [if_pos h0]
    exact xss_ret (xs_if (xt_cmp (xe_bin (xe_ix (xe_var 2) xe_int (ixo_list a0)) xe_int (bin_mod (by decide))) xe_int bin_eqI) (fun _ => xss_one (xs_ret (xe_call (C__law_parts T) (hr.mono (by decide)) (xa_cons (xe_bin (xe_var 0) xe_int (bin_fdiv ⟨by decide, by decide⟩)) (xa_cons (xe_var 1) (xa_cons xe_bl xa_nil))) ⟨cell / 4, nm, true, by omega, rfl, rfl⟩))) (fun h => absurd h0 (of_decide_eq_false h)))
  rw [if_neg h0]
  refine xss_cons (xs_if (xt_cmp (xe_bin (xe_ix (xe_var 2) xe_int (ixo_list a0)) xe_int (bin_mod (by decide))) xe_int bin_eqI) (fun h => absurd (of_decide_eq_true h) h0) (fun _ => xss_nil)) ?_
  by_cases h1 : (rowF cell 4).getD 0 0 % 4 = 1
  · rw [if_pos h1]
    refine xss_ret (xs_if (xt_cmp (xe_bin (xe_ix (xe_var 2) xe_int (ixo_list a0)) xe_int (bin_mod (by decide))) xe_int bin_eqI) (fun _ => xss_cons (xs_set 4 (xe_bin xe_int (xe_bin (xe_ix (xe_var 2) xe_int (ixo_list a1)) xe_int (bin_mod (by decide))) bin_add) sc__law_traffic.nd) <|
      xss_cons (xs_for PassesOwn.never rfl (xi_list (xe_var 1)) (o := .nx [some (int_ cell), some (lst_ (dS nm)), some (lst_ (dI (rowF cell 4))), some (.own ((nm.flatMap (tr1 (1 + (rowF cell 4).getD 1 0 % 3))).map eR)), some (int_ (1 + (rowF cell 4).getD 1 0 % 3)), none, none, none, none]) ?_) <| xss_freeze 3 <|
      xss_one (xs_ret (XE.is (xe_lst (xd_cons (xe_callT T.tuple (xa_cons (xe_var 1) xa_nil) co_tupL) (xd_cons (xe_tup (xd_cons xe_str xd_nil)) (xd_cons (xe_tup xd_nil) (xd_cons (xe_tup (xd_cons xe_str (xd_cons xe_str xd_nil))) (xd_cons (xe_callT T.tuple (xa_cons (xe_var 3) xa_nil) co_tupL) xd_nil)))))) rfl))) (fun h => absurd h1 (of_decide_eq_false h)))
    refine forR_inv (fun s => Rs.dat (.str s)) (fun l ρ => ∃ res o5, res ++ l.flatMap (tr1 (1 + (rowF cell 4).getD 1 0 % 3)) = nm.flatMap (tr1 (1 + (rowF cell 4).getD 1 0 % 3)) ∧ ρ = [some (int_ cell), some (lst_ (dS nm)), some (lst_ (dI (rowF cell 4))), some (.own (res.map eR)), some (int_ (1 + (rowF cell 4).getD 1 0 % 3)), o5, none, none, none]) (map_dat _ _) ⟨[], none, rfl, rfl⟩ ?_ ?_
    · rintro ρ ⟨res, o5, e, rfl⟩
      rw [List.flatMap_nil, List.append_nil] at e
      rw [← e]
      exact ⟨_, by repeat constructor, rfl⟩
    · rintro x l ρ ⟨res, o5, e, rfl⟩
      have hz : res.length ≤ 9 := by
        have := congrArg List.length e
        rw [List.length_append, tr1_len, tr1_len] at this
        omega
      refine ⟨_, _, _, Le.refl _, xg_name 5 sc__law_traffic.nd, .inl ⟨_, xss_cons (xs_append 3 (xe_tup (xd_cons xe_int (xd_cons (xe_var 5) (xd_cons xe_int (xd_cons (xe_tup xd_nil) (xd_cons (xe_tup (xd_cons xe_int xd_nil)) (xd_cons (xe_tup xd_nil) xd_nil))))))) rfl (by rw [List.length_map]; omega)) <|
        xss_cons (xs_append 3 (xe_tup (xd_cons xe_int (xd_cons (xe_var 5) (xd_cons xe_non (xd_cons (xe_tup (xd_cons (xe_tup (xd_cons xe_int (xd_cons xe_str (xd_cons (xe_var 4) xd_nil)))) xd_nil)) (xd_cons (xe_tup xd_nil) (xd_cons (xe_tup xd_nil) xd_nil))))))) rfl (by rw [List.length_append, List.length_map]; show _ + 1 < _; omega)) <|
        xss_one (XS.is (xs_append 3 (xe_tup (xd_cons xe_int (xd_cons (xe_var 5) (xd_cons xe_int (xd_cons (xe_tup xd_nil) (xd_cons (xe_tup (xd_cons xe_int xd_nil)) (xd_cons (xe_tup xd_nil) xd_nil))))))) rfl (by rw [List.length_append, List.length_append, List.length_map]; show _ + 1 + 1 < _; omega)) (o' := .nx [some (int_ cell), some (lst_ (dS nm)), some (lst_ (dI (rowF cell 4))), some (.own ((res ++ tr1 (1 + (rowF cell 4).getD 1 0 % 3) x).map eR)), some (int_ (1 + (rowF cell 4).getD 1 0 % 3)), some (str_ x), none, none, none]) ?_), res ++ tr1 (1 + (rowF cell 4).getD 1 0 % 3) x, _, by rw [List.append_assoc, ← List.flatMap_cons]; exact e, rfl⟩⟩
      unfold tr1
      simp only [List.map_append, List.map_cons, List.map_nil, List.append_assoc, List.cons_append, List.nil_append]
      rfl
  rw [if_neg h1]
  refine xss_cons (xs_if (xt_cmp (xe_bin (xe_ix (xe_var 2) xe_int (ixo_list a0)) xe_int (bin_mod (by decide))) xe_int bin_eqI) (fun h => absurd (of_decide_eq_true h) h1) (fun _ => xss_nil)) ?_
  by_cases h2 : (rowF cell 4).getD 0 0 % 4 = 2
  · rw [if_pos h2]
    have lz : ∀ l : List Nat, (l.flatMap (tr2 nm)).length ≤ l.length * 4 := fun l => fm_len _ 4 (fun k => Nat.le_trans (tr2_len nm k) (by omega)) l
    have lz2 : ((List.range nm.length).flatMap (tr2 nm)).length ≤ 12 := by
      have := lz (List.range nm.length)
      rw [List.length_range] at this
      omega
    refine xss_ret (xs_if (xt_cmp (xe_bin (xe_ix (xe_var 2) xe_int (ixo_list a0)) xe_int (bin_mod (by decide))) xe_int bin_eqI) (fun _ =>
      xss_cons (xs_for PassesOwn.never rfl (xi_range (xe_callB T.len (xa_cons (xe_var 1) xa_nil) co_lenL) (by omega) (by rw [List.length_map]; omega) T.range) (o := .nx [some (int_ cell), some (lst_ (dS nm)), some (lst_ (dI (rowF cell 4))), some (.own (((List.range nm.length).flatMap (tr2 nm)).map eR)), none, none, none, none, none]) ?_) <| xss_freeze 3 <|
      xss_one (xs_ret (XE.is (xe_lst (xd_cons (xe_callT T.tuple (xa_cons (xe_var 1) xa_nil) co_tupL) (xd_cons (xe_tup xd_nil) (xd_cons (xe_tup xd_nil) (xd_cons (xe_slice (xe_tup (xd_cons xe_str (xd_cons xe_str (xd_cons xe_str xd_nil)))) xo_none (xo_some (xe_callB T.len (xa_cons (xe_var 1) xa_nil) co_lenL)) slo_tup) (xd_cons (xe_callT T.tuple (xa_cons (xe_var 3) xa_nil) co_tupL) xd_nil)))))) ?_))) (fun h => absurd h2 (of_decide_eq_false h)))
    · refine forR_inv (fun (i : Nat) => Rs.dat (.int (i : Int))) (fun l ρ => ∃ res o5 o6, (∀ i ∈ l, i < nm.length) ∧ res ++ l.flatMap (tr2 nm) = (List.range nm.length).flatMap (tr2 nm) ∧ ρ = [some (int_ cell), some (lst_ (dS nm)), some (lst_ (dI (rowF cell 4))), some (.own (res.map eR)), none, o5, o6, none, none])
        (l := List.range nm.length) (by rw [List.length_map]; rfl) ⟨[], none, none, fun i hi => List.mem_range.mp hi, rfl, rfl⟩ ?_ ?_
      · rintro ρ ⟨res, o5, o6, _, e, rfl⟩
        rw [List.flatMap_nil, List.append_nil] at e
        rw [← e]
        exact ⟨_, by repeat constructor, rfl⟩
      · rintro k l ρ ⟨res, o5, o6, hl', e, rfl⟩
        have hk := hl' k (List.mem_cons_self ..)
        have hz : res.length ≤ 12 := by
          have := congrArg List.length e
          rw [List.length_append] at this
          omega
        have ik : atI (dS nm) (k : Int) = some (.str (nm.getD k "")) := dS_at (by omega) (by omega)
        refine ⟨[some (int_ cell), some (lst_ (dS nm)), some (lst_ (dI (rowF cell 4))), some (.own (res.map eR)), none, none, none, none, none], _, _, by repeat constructor, xg_name 6 sc__law_traffic.nd, .inl ⟨[some (int_ cell), some (lst_ (dS nm)), some (lst_ (dI (rowF cell 4))), some (.own ((res ++ tr2 nm k).map eR)), none, none, some (int_ (k : Int)), none, none], xss_cons (xs_append 3 (xe_tup (xd_cons (xe_var 6) (xd_cons (xe_ix (xe_var 1) (xe_var 6) (ixo_list ik)) (xd_cons (xe_bin (xe_bin (xe_var 6) xe_int bin_add) (xe_callB T.len (xa_cons (xe_var 1) xa_nil) co_lenL) (bin_mod (by rw [List.length_map]; omega))) (xd_cons (xe_tup xd_nil) (xd_cons (xe_tup xd_nil) (xd_cons (xe_tup xd_nil) xd_nil))))))) rfl (by rw [List.length_map]; omega)) <|
          xss_one (xs_for PassesOwn.never rfl (xi_list (xe_var 1)) ?_), res ++ tr2 nm k, _, _, fun j hj => hl' j (List.mem_cons_of_mem _ hj), by rw [List.append_assoc, ← List.flatMap_cons]; exact e, rfl⟩⟩
        refine forR_inv (fun s => Rs.dat (.str s)) (fun l ρ => ∃ res' o5, res' ++ (l.filter fun n => !decide (n = nm.getD k "")).map (tr2b k) = res ++ tr2 nm k ∧ ρ = [some (int_ cell), some (lst_ (dS nm)), some (lst_ (dI (rowF cell 4))), some (.own (res'.map eR)), none, o5, some (int_ (k : Int)), none, none]) (map_dat _ _) ⟨res ++ [⟨(k : Int), nm.getD k "", some (((k : Int) + 1) % (nm.length : Int)), [], [], []⟩], none, ?_, ?_⟩ ?_ ?_
        · unfold tr2
          rw [List.append_assoc]
          rfl
        · rw [List.length_map]
          simp only [List.map_append, List.map_cons, List.map_nil]
          rfl
        · rintro ρ ⟨res', o5, e', rfl⟩
          rw [List.filter_nil, List.map_nil, List.append_nil] at e'
          rw [← e']
          exact ⟨_, by repeat constructor, rfl⟩
        · rintro x l' ρ ⟨res', o5, e', rfl⟩
          have hz' : res'.length ≤ 16 := by
            have := congrArg List.length e'
            rw [List.length_append, List.length_append] at this
            have h4 := tr2_len nm k
            omega
          by_cases hx : x = nm.getD k ""
          · have hf : (!decide (x = nm.getD k "")) = false := by rw [decide_eq_true hx]; rfl
            refine ⟨_, _, _, Le.refl _, xg_name 5 sc__law_traffic.nd, .inl ⟨_, xss_one (xs_if (xt_cmp (xe_var 5) (xe_ix (xe_var 1) (xe_var 6) (ixo_list ik)) bin_neS) (fun h => by rw [hf] at h; cases h) (fun _ => xss_nil)), res', _, ?_, rfl⟩⟩
            rw [List.filter_cons_of_neg (by rw [hf]; exact Bool.false_ne_true)] at e'
            exact e'
          · have hf : (!decide (x = nm.getD k "")) = true := by rw [decide_eq_false hx]; rfl
            refine ⟨_, _, _, Le.refl _, xg_name 5 sc__law_traffic.nd, .inl ⟨_, xss_one (xs_if (xt_cmp (xe_var 5) (xe_ix (xe_var 1) (xe_var 6) (ixo_list ik)) bin_neS) (fun _ => xss_one (XS.is (xs_append 3 (xe_tup (xd_cons (xe_var 6) (xd_cons (xe_var 5) (xd_cons xe_non (xd_cons (xe_tup xd_nil) (xd_cons (xe_tup xd_nil) (xd_cons (xe_tup xd_nil) xd_nil))))))) rfl (by rw [List.length_map]; omega)) (o' := .nx [some (int_ cell), some (lst_ (dS nm)), some (lst_ (dI (rowF cell 4))), some (.own ((res' ++ [tr2b k x]).map eR)), none, some (str_ x), some (int_ (k : Int)), none, none]) ?_)) (fun h => by rw [hf] at h; cases h)), res' ++ [tr2b k x], _, ?_, rfl⟩⟩
            · simp only [List.map_append, List.map_cons, List.map_nil]
              rfl
            · rw [List.filter_cons_of_pos (p := fun n => !decide (n = nm.getD k "")) hf, List.map_cons] at e'
              rw [List.append_assoc, List.singleton_append]
              exact e'
    · rw [List.length_map, cutD_take _ (by omega)]
      unfold ePl
      simp only [dS, List.map_take, Int.toNat_natCast]
      rfl
  rw [if_neg h2]
  refine xss_cons (xs_if (xt_cmp (xe_bin (xe_ix (xe_var 2) xe_int (ixo_list a0)) xe_int (bin_mod (by decide))) xe_int bin_eqI) (fun h => absurd (of_decide_eq_true h) h2) (fun _ => xss_nil)) ?_
  generalize hct : 1 + (rowF cell 4).getD 1 0 % 3 = ct
  have c0 : 1 ≤ ct := by omega
  have c1 : ct ≤ 3 := by omega
  have lz : ∀ l : List Nat, (l.flatMap (tr3 nm ct)).length ≤ l.length * 3 := fun l => fm_len _ 3 (fun k => by unfold tr3; rw [List.length_map]; exact hnm) l
  have lz2 : ((List.range (ct + 1).toNat).flatMap (tr3 nm ct)).length ≤ 12 := by
    have := lz (List.range (ct + 1).toNat)
    rw [List.length_range] at this
    omega
  refine xss_cons (xs_set 7 (XE.is (xe_bin xe_int (xe_bin (xe_ix (xe_var 2) xe_int (ixo_list a1)) xe_int (bin_mod (by decide))) bin_add) (en' := int_ ct) (by rw [hct])) sc__law_traffic.nd) <|
    xss_cons (xs_for PassesOwn.never rfl (xi_range (xe_bin (xe_var 7) xe_int bin_add) (by omega) (by omega) T.range) (o := .nx [some (int_ cell), some (lst_ (dS nm)), some (lst_ (dI (rowF cell 4))), some (.own (((List.range (ct + 1).toNat).flatMap (tr3 nm ct)).map eR)), none, none, none, some (int_ ct), none]) ?_) <| xss_freeze 3 <|
    xss_one (xs_ret (XE.is (xe_lst (xd_cons (xe_callT T.tuple (xa_cons (xe_var 1) xa_nil) co_tupL) (xd_cons (xe_tup xd_nil) (xd_cons (xe_tup xd_nil) (xd_cons (xe_slice (xe_tup (xd_cons xe_str (xd_cons xe_str (xd_cons xe_str (xd_cons xe_str xd_nil))))) xo_none (xo_some (xe_bin (xe_var 7) xe_int bin_add)) slo_tup) (xd_cons (xe_callT T.tuple (xa_cons (xe_var 3) xa_nil) co_tupL) xd_nil)))))) ?_))
  · refine forR_inv (fun (i : Nat) => Rs.dat (.int (i : Int))) (fun l ρ => ∃ res o5 o6 o8, res ++ l.flatMap (tr3 nm ct) = (List.range (ct + 1).toNat).flatMap (tr3 nm ct) ∧ ρ = [some (int_ cell), some (lst_ (dS nm)), some (lst_ (dI (rowF cell 4))), some (.own (res.map eR)), none, o5, o6, some (int_ ct), o8])
      (l := List.range (ct + 1).toNat) rfl ⟨[], none, none, none, rfl, rfl⟩ ?_ ?_
    · rintro ρ ⟨res, o5, o6, o8, e, rfl⟩
      rw [List.flatMap_nil, List.append_nil] at e
      rw [← e]
      exact ⟨_, by repeat constructor, rfl⟩
    · rintro k l ρ ⟨res, o5, o6, o8, e, rfl⟩
      have hz : res.length + (tr3 nm ct k).length ≤ 12 := by
        have := congrArg List.length e
        rw [List.length_append, List.flatMap_cons, List.length_append] at this
        omega
      refine ⟨[some (int_ cell), some (lst_ (dS nm)), some (lst_ (dI (rowF cell 4))), some (.own (res.map eR)), none, none, none, some (int_ ct), none], _, _, by repeat constructor, xg_name 6 sc__law_traffic.nd, .inl ⟨[some (int_ cell), some (lst_ (dS nm)), some (lst_ (dI (rowF cell 4))), some (.own ((res ++ tr3 nm ct k).map eR)), none, none, some (int_ (k : Int)), some (int_ ct), none],
        xss_one (xs_for PassesOwn.never rfl (xi_list (xe_var 1)) ?_), res ++ tr3 nm ct k, _, _, _, by rw [List.append_assoc, ← List.flatMap_cons]; exact e, rfl⟩⟩
      refine forR_inv (fun s => Rs.dat (.str s)) (fun l ρ => ∃ res' o5 o8, res' ++ l.map (tr3b ct k) = res ++ tr3 nm ct k ∧ ρ = [some (int_ cell), some (lst_ (dS nm)), some (lst_ (dI (rowF cell 4))), some (.own (res'.map eR)), none, o5, some (int_ (k : Int)), some (int_ ct), o8]) (map_dat _ _) ⟨res, none, none, rfl, rfl⟩ ?_ ?_
      · rintro ρ ⟨res', o5, o8, e', rfl⟩
        rw [List.map_nil, List.append_nil] at e'
        rw [← e']
        exact ⟨_, by repeat constructor, rfl⟩
      · rintro x l' ρ ⟨res', o5, o8, e', rfl⟩
        have hz' : res'.length ≤ 12 := by
          have := congrArg List.length e'
          rw [List.length_append, List.length_append] at this
          omega
        refine ⟨_, _, _, Le.refl _, xg_name 5 sc__law_traffic.nd, .inl ⟨_, xss_cons (xs_set 8 (xe_bin (xe_var 6) xe_int bin_add) sc__law_traffic.nd) <|
          xss_cons (XS.is (xs_ifDat 8 (xt_cmp (xe_var 6) (xe_var 7) bin_eqI) (fun _ => xs_set 8 xe_non sc__law_traffic.nd)) (o' := .nx [some (int_ cell), some (lst_ (dS nm)), some (lst_ (dI (rowF cell 4))), some (.own (res'.map eR)), none, some (str_ x), some (int_ (k : Int)), some (int_ ct), some (dat_ (eO (tr3b ct k x).tgt))]) ?_) <|
          xss_one (XS.is (xs_append 3 (xe_tup (xd_cons (xe_var 6) (xd_cons (xe_var 5) (xd_cons (xe_var 8) (xd_cons (xe_tup xd_nil) (xd_cons (xe_tup xd_nil) (xd_cons (xe_tup xd_nil) xd_nil))))))) rfl (by rw [List.length_map]; omega)) (o' := .nx [some (int_ cell), some (lst_ (dS nm)), some (lst_ (dI (rowF cell 4))), some (.own ((res' ++ [tr3b ct k x]).map eR)), none, some (str_ x), some (int_ (k : Int)), some (int_ ct), some (dat_ (eO (tr3b ct k x).tgt))]) ?_), res' ++ [tr3b ct k x], _, _, ?_, rfl⟩⟩
        · unfold tr3b
          simp only
          split <;> rfl
        · simp only [List.map_append, List.map_cons, List.map_nil]
          rfl
        · rw [List.append_assoc, List.singleton_append, ← List.map_cons]
          exact e'
  · rw [cutD_take _ (by omega)]
    unfold ePl
    simp only [dS, List.map_take]
    rfl
end
end LC
namespace LC
open PySem PySem.Spec PyProof.Rows L2

def vwTab : List Str := ["ordered", "unordered", "ordered", "ignored", "unordered"]
def ltTab : List Int := [0, 1, 2, 1, 0, 3]
def qtTab : List Int := [0, 0, 3]
structure Pl where
  prog : Mc
  traf : Mc
  views : List Str
  quiet : Int
  late : List Int
  lost : List Str
  twice : List Str
abbrev ePlan (p : Pl) : PyData := .list [eP p.prog, eP p.traf, .list (dS p.views), .int p.quiet, .list (dI p.late), .list (dS p.lost), .list (dS p.twice)]
def planRow (ns : List Int) : List Int := rowF (ns.getD 0 0) 16
def pickF (row : List Int) (nm : List Str) (b : Nat) : List Str := ((List.range nm.length).filter fun (k : Nat) => decide (row.getD (b + k) 0 % 5 = 0)).map fun k => nm.getD k ""
def planF (ns : List Int) : Pl where
  prog := partsF (ns.getD 1 0) (namesF (planRow ns)) false
  traf := trafF (ns.getD 2 0) (namesF (planRow ns))
  views := (List.range (partsF (ns.getD 1 0) (namesF (planRow ns)) false).chans.length).map fun (k : Nat) => vwTab.getD ((planRow ns).getD (3 + k) 0 % 5).toNat ""
  quiet := qtTab.getD ((planRow ns).getD 5 0 % 3).toNat 0
  late := (List.range (namesF (planRow ns)).length).map fun (k : Nat) => ltTab.getD ((planRow ns).getD (6 + k) 0 % 6).toNat 0
  lost := pickF (planRow ns) (namesF (planRow ns)) 8
  twice := pickF (planRow ns) (namesF (planRow ns)) 10
theorem names_len (row : List Int) : 0 < (namesF row).length ∧ (namesF row).length ≤ 3 := by
  unfold namesF
  split
  · exact ⟨Nat.le_of_ble_eq_true rfl, Nat.le_of_ble_eq_true rfl⟩
  · split
    · exact ⟨Nat.le_of_ble_eq_true rfl, Nat.le_of_ble_eq_true rfl⟩
    · exact ⟨Nat.le_of_ble_eq_true rfl, Nat.le_of_ble_eq_true rfl⟩
theorem parts_chans (cell : Int) (nm : List Str) (tr : Bool) : (partsF cell nm tr).chans.length ≤ 3 := by
  unfold partsF sizedF
  simp only
  split
  · exact Nat.zero_le _
  · rw [List.length_take]
    exact Nat.min_le_right _ _
section
variable {P : Program} {w : World} {K : PySem.W.Frag} {mg : Str → Option Value} {base : Heap}
theorem sc__law_plan : FnScope ["_law_script", "_law_row_here", "_law_names_here", "_law_program", "_law_traffic_here", "_law_views", "_law_k", "_law_late", "_law_lost", "_law_twice"] ["_law_script"] (defScope s__law_plan) := ⟨rfl, rfl, rfl, by decide +kernel, rfl, by decide +kernel, by decide +kernel⟩
theorem C__law_plan (T : Wd K mg) : FnG (gd K) P w K mg base 6 "_law_plan" 1 (fun rs en => ∃ ns : List Int, rs = [.scr ns] ∧ en = .rs (.dat (ePlan (planF ns)))) := by
  obtain ⟨fd, F⟩ := T.df 38 (d := d__law_plan)
  refine fnG_of F sc__law_plan (T.glo 38) (fun _ _ _ _ _ _ us hl => match us, hl with | [_], _ => rfl) fun cdv A outer s H E hr rs en hl hφ => ⟨_, .inl rfl, ?_⟩
  obtain ⟨ns, rfl, rfl⟩ := hφ
  have R : Rw (planRow ns) 16 := rowF_rw _ 16
  obtain ⟨nl0, nl3⟩ := names_len (planRow ns)
  have cl3 := parts_chans (ns.getD 1 0) (namesF (planRow ns)) false
  have md := fun (i : Int) (n : Int) (h : 0 < n) => And.intro (Int.emod_nonneg i (show n ≠ 0 by omega)) (Int.emod_lt_of_pos i h)
  have ra : ∀ (b k : Nat), b + k < 16 → atI (dI (planRow ns)) ((b : Int) + (k : Int)) = some (.int ((planRow ns).getD (b + k) 0)) := fun b k h => by
    have := R.at (b + k) h
    rw [show ((b : Int) + (k : Int)) = ((b + k : Nat) : Int) by omega]
    exact this
  have na : ∀ k : Nat, k < (namesF (planRow ns)).length → atI (dS (namesF (planRow ns))) (k : Int) = some (.str ((namesF (planRow ns)).getD k "")) := fun k h => dS_at (by omega) (by omega)
  refine xss_cons (xs_set 1 (XE.is (xe_fr (xe_call (C__law_row T) (hr.mono (by decide)) (xa_cons (xe_call (C__law_cell T) (hr.mono (by decide)) (xa_cons (xe_var 0) (xa_cons xe_int xa_nil)) ⟨ns, 0, rfl, rfl⟩) (xa_cons xe_int xa_nil)) ⟨ns.getD 0 0, 16, by decide, rfl, rfl⟩)) (show _ = lst_ (dI (planRow ns)) from rfl)) sc__law_plan.nd) <|
    xss_cons (xs_set 2 (xe_fr (xe_call (C__law_names T) (hr.mono (by decide)) (xa_cons (xe_var 1) xa_nil) ⟨planRow ns, 16, R, by decide, rfl, rfl⟩)) sc__law_plan.nd) <|
    xss_cons (xs_set 3 (xe_fr (xe_call (C__law_parts T) (hr.mono (by decide)) (xa_cons (xe_call (C__law_cell T) (hr.mono (by decide)) (xa_cons (xe_var 0) (xa_cons xe_int xa_nil)) ⟨ns, 1, rfl, rfl⟩) (xa_cons (xe_var 2) (xa_cons xe_bl xa_nil))) ⟨ns.getD 1 0, namesF (planRow ns), false, by omega, rfl, rfl⟩)) sc__law_plan.nd) <|
    xss_cons (xs_set 4 (xe_fr (xe_call (C__law_traffic T) (hr.mono (by decide)) (xa_cons (xe_call (C__law_cell T) (hr.mono (by decide)) (xa_cons (xe_var 0) (xa_cons xe_int xa_nil)) ⟨ns, 2, rfl, rfl⟩) (xa_cons (xe_var 2) xa_nil)) ⟨ns.getD 2 0, namesF (planRow ns), nl0, nl3, rfl, rfl⟩)) sc__law_plan.nd) <|
    xss_cons (xs_setLc 5 [("_law_k", 6)] rfl sc__law_plan.nd (bk ["_law_script", "_law_row_here", "_law_names_here", "_law_program", "_law_traffic_here", "_law_views", "_law_k", "_law_late", "_law_lost", "_law_twice"] s__law_plan) (xi_range (xe_callB T.len (xa_cons (xe_ix (xe_var 3) xe_int (ixo_list rfl)) xa_nil) co_lenT) (by omega) (by rw [List.length_map]; omega) T.range) (ds := dS (planF ns).views) ?_ ?_ (sw_true rfl rfl rfl (by decide +kernel))) <| xss_freeze 5 <|
    xss_cons (xs_setLc 7 [("_law_k", 6)] rfl sc__law_plan.nd (bk ["_law_script", "_law_row_here", "_law_names_here", "_law_program", "_law_traffic_here", "_law_views", "_law_k", "_law_late", "_law_lost", "_law_twice"] s__law_plan) (xi_range (xe_callB T.len (xa_cons (xe_var 2) xa_nil) co_lenL) (by omega) (by rw [List.length_map]; omega) T.range) (ds := dI (planF ns).late) ?_ ?_ (sw_true rfl rfl rfl (by decide +kernel))) <| xss_freeze 7 <|
    xss_cons (xs_setLc 8 [("_law_k", 6)] rfl sc__law_plan.nd (bk ["_law_script", "_law_row_here", "_law_names_here", "_law_program", "_law_traffic_here", "_law_views", "_law_k", "_law_late", "_law_lost", "_law_twice"] s__law_plan) (xi_range (xe_callB T.len (xa_cons (xe_var 2) xa_nil) co_lenL) (by omega) (by rw [List.length_map]; omega) T.range) (ds := dS (planF ns).lost) ?_ ?_ (sw_true rfl rfl rfl (by decide +kernel))) <| xss_freeze 8 <|
    xss_cons (xs_setLc 9 [("_law_k", 6)] rfl sc__law_plan.nd (bk ["_law_script", "_law_row_here", "_law_names_here", "_law_program", "_law_traffic_here", "_law_views", "_law_k", "_law_late", "_law_lost", "_law_twice"] s__law_plan) (xi_range (xe_callB T.len (xa_cons (xe_var 2) xa_nil) co_lenL) (by omega) (by rw [List.length_map]; omega) T.range) (ds := dS (planF ns).twice) ?_ ?_ (sw_true rfl rfl rfl (by decide +kernel))) <| xss_freeze 9 <|
    xss_one (xs_ret (xe_fr (XE.is (xe_lst (xd_cons (xe_var 3) (xd_cons (xe_var 4) (xd_cons (xe_var 5) (xd_cons (xe_ix (xe_fr (xe_lst (xd_cons xe_int (xd_cons xe_int (xd_cons xe_int xd_nil))))) (xe_bin (xe_ix (xe_var 1) xe_int (ixo_list (R.at 5 (by decide)))) xe_int (bin_mod (by decide))) (ixo_list (atI_dI (l := qtTab) (md _ 3 (by decide)).1 (md _ 3 (by decide)).2))) (xd_cons (xe_var 7) (xd_cons (xe_var 8) (xd_cons (xe_var 9) xd_nil)))))))) rfl)))
  · refine LcR.rs (lcR_map (fun (i : Nat) => Rs.dat (.int (i : Int))) (fun (k : Nat) => PyData.str (vwTab.getD ((planRow ns).getD (3 + k) 0 % 5).toNat "")) (List.range (partsF (ns.getD 1 0) (namesF (planRow ns)) false).chans.length) fun i hi => ?_) (by rw [List.length_map]; rfl) ?_
    · have hi := List.mem_range.mp hi
      refine ⟨_, fun X' ⟨_, _, _, _, _, e⟩ => by subst e; exact xg_name 6 sc__law_plan.nd, fun X' ⟨_, _, _, _, _, e⟩ => ?_⟩
      subst e
      exact xe_ix (xe_fr (xe_lst (xd_cons xe_str (xd_cons xe_str (xd_cons xe_str (xd_cons xe_str (xd_cons xe_str xd_nil))))))) (xe_bin (xe_ix (xe_var 1) (xe_bin xe_int (xe_var 6) bin_add) (ixo_list (ra 3 i (by omega)))) xe_int (bin_mod (by decide))) (ixo_list (dS_at (l := vwTab) (md _ 5 (by decide)).1 (md _ 5 (by decide)).2))
    · unfold planF
      simp only [dS, List.map_map]
      rfl
  · rw [List.length_map]
    unfold planF
    simp only [List.length_map, List.length_range]
    omega
  · refine LcR.rs (lcR_map (fun (i : Nat) => Rs.dat (.int (i : Int))) (fun (k : Nat) => PyData.int (ltTab.getD ((planRow ns).getD (6 + k) 0 % 6).toNat 0)) (List.range (namesF (planRow ns)).length) fun i hi => ?_) (by rw [List.length_map]; rfl) ?_
    · have hi := List.mem_range.mp hi
      refine ⟨_, fun X' ⟨_, _, _, _, _, e⟩ => by subst e; exact xg_name 6 sc__law_plan.nd, fun X' ⟨_, _, _, _, _, e⟩ => ?_⟩
      subst e
      exact xe_ix (xe_fr (xe_lst (xd_cons xe_int (xd_cons xe_int (xd_cons xe_int (xd_cons xe_int (xd_cons xe_int (xd_cons xe_int xd_nil)))))))) (xe_bin (xe_ix (xe_var 1) (xe_bin xe_int (xe_var 6) bin_add) (ixo_list (ra 6 i (by omega)))) xe_int (bin_mod (by decide))) (ixo_list (atI_dI (l := ltTab) (md _ 6 (by decide)).1 (md _ 6 (by decide)).2))
    · unfold planF
      simp only [dI, List.map_map]
      rfl
  · rw [List.length_map]
    unfold planF
    simp only [List.length_map, List.length_range]
    omega
  · refine LcR.rs (lcR_filter (fun (i : Nat) => Rs.dat (.int (i : Int))) (fun (k : Nat) => decide ((planRow ns).getD (8 + k) 0 % 5 = 0)) (fun (k : Nat) => PyData.str ((namesF (planRow ns)).getD k "")) (List.range (namesF (planRow ns)).length) fun i hi => ?_) (by rw [List.length_map]; rfl) ?_
    · have hi := List.mem_range.mp hi
      refine ⟨_, fun X' ⟨_, _, _, _, _, e⟩ => by subst e; exact xg_name 6 sc__law_plan.nd, fun X' ⟨_, _, _, _, _, e⟩ => ?_, fun _ X' ⟨_, _, _, _, _, e⟩ => ?_⟩
      · subst e
        exact xt_cmp (xe_bin (xe_ix (xe_var 1) (xe_bin xe_int (xe_var 6) bin_add) (ixo_list (ra 8 i (by omega)))) xe_int (bin_mod (by decide))) xe_int bin_eqI
      · subst e
        exact xe_ix (xe_var 2) (xe_var 6) (ixo_list (na i hi))
    · show _ = dS (pickF _ _ 8)
      unfold pickF
      simp only [dS, List.map_map]
      rfl
  · rw [List.length_map]
    show (pickF _ _ 8).length ≤ _
    unfold pickF
    rw [List.length_map]
    have := List.length_filter_le (fun (k : Nat) => decide ((planRow ns).getD (8 + k) 0 % 5 = 0)) (List.range (namesF (planRow ns)).length)
    rw [List.length_range] at this
    omega
  · refine LcR.rs (lcR_filter (fun (i : Nat) => Rs.dat (.int (i : Int))) (fun (k : Nat) => decide ((planRow ns).getD (10 + k) 0 % 5 = 0)) (fun (k : Nat) => PyData.str ((namesF (planRow ns)).getD k "")) (List.range (namesF (planRow ns)).length) fun i hi => ?_) (by rw [List.length_map]; rfl) ?_
    · have hi := List.mem_range.mp hi
      refine ⟨_, fun X' ⟨_, _, _, _, _, e⟩ => by subst e; exact xg_name 6 sc__law_plan.nd, fun X' ⟨_, _, _, _, _, e⟩ => ?_, fun _ X' ⟨_, _, _, _, _, e⟩ => ?_⟩
      · subst e
        exact xt_cmp (xe_bin (xe_ix (xe_var 1) (xe_bin xe_int (xe_var 6) bin_add) (ixo_list (ra 10 i (by omega)))) xe_int (bin_mod (by decide))) xe_int bin_eqI
      · subst e
        exact xe_ix (xe_var 2) (xe_var 6) (ixo_list (na i hi))
    · show _ = dS (pickF _ _ 10)
      unfold pickF
      simp only [dS, List.map_map]
      rfl
  · rw [List.length_map]
    show (pickF _ _ 10).length ≤ _
    unfold pickF
    rw [List.length_map]
    have := List.length_filter_le (fun (k : Nat) => decide ((planRow ns).getD (10 + k) 0 % 5 = 0)) (List.range (namesF (planRow ns)).length)
    rw [List.length_range] at this
    omega
end
end LC
namespace LC
open PySem PySem.Spec PyProof.Rows L2

/-! ### a list of own lists -/
section
variable {G : Gd} {X : Cx} {Ex : Hp → Prop} {ρ ρ1 ρ2 ρ' : Ro} {e a b : Expr} {es : List Expr} {st : Stmt} {sts : List Stmt} {pos : Pos} {H0 F0 H F H' F' : Hp} {γ : Gh} {σ : L2.St} {o : Out} {D : Ends}
theorem innAt_upd {a : Addr} {ob : HO} : ∀ {as : List Addr} {dss : List (List PyData)}, a ∉ as → InnAt F H as dss → InnAt F (upd H a ob) as dss
  | [], [], _, _ => True.intro
  | [], _ :: _, _, h => h
  | _ :: _, [], _, h => h
  | c :: as, ds :: dss, n, ⟨⟨vs, h1, h2⟩, h3⟩ => ⟨⟨vs, by rw [upd_ne (fun z => n (by rw [z]; exact List.mem_cons_self ..))]; exact h1, h2⟩, innAt_upd (fun z => n (List.mem_cons_of_mem _ z)) h3⟩
theorem innAt_length : ∀ {as : List Addr} {dss : List (List PyData)}, InnAt F H as dss → as.length = dss.length
  | [], [], _ => rfl
  | [], _ :: _, h => h.elim
  | _ :: _, [], h => h.elim
  | c :: as, ds :: dss, h => congrArg Nat.succ (innAt_length h.2)
theorem En.At.upd {K : PySem.W.Frag} {a : Addr} {ob : HO} {v : V} {fp : List Addr} (n : a ∉ fp) : ∀ {en : En}, en.At G K F H v fp → en.At G K F (upd H a ob) v fp
  | .rs r, h => h
  | .own ds, ⟨b, vs, h1, h2, h3, h4⟩ => ⟨b, vs, h1, h2, by rw [upd_ne (fun z => n (by rw [h2, z]; simp))]; exact h3, h4⟩
  | .own2 dss, ⟨b, as, h1, h2, h3, h4⟩ => ⟨b, as, h1, h2, by rw [upd_ne (fun z => n (by rw [h2, z]; simp))]; exact h3, innAt_upd (fun z => n (by rw [h2]; exact List.mem_cons_of_mem _ z)) h4⟩
  | .res k none, ⟨b, h1, h2, h3⟩ => ⟨b, h1, h2, by rw [upd_ne (fun z => n (by rw [h2, z]; simp))]; exact h3⟩
  | .res k (some ds), ⟨b, c, vs, h1, h2, h3, h4, h5⟩ => ⟨b, c, vs, h1, h2, by rw [upd_ne (fun z => n (by rw [h2, z]; simp))]; exact h3, by rw [upd_ne (fun z => n (by rw [h2, z]; simp))]; exact h4, h5⟩
  | .obj ds, ⟨b, u, h1, h2, h3, h4, h5⟩ => ⟨b, u, h1, h2, by rw [upd_ne (fun z => n (by rw [h2, z]; simp))]; exact h3, h4, h5⟩
theorem SlotsAt.upd {K : PySem.W.Frag} {a : Addr} {ob : HO} : ∀ {σ : L2.St} {ρ : Ro} {fs : List (List Addr)}, a ∉ fs.flatten → SlotsAt G K F H σ ρ fs → SlotsAt G K F (L2.upd H a ob) σ ρ fs
  | _, _, _, _, .nil => .nil
  | _, _, _, n, .skip t => .skip (t.upd (by simpa using n))
  | _, _, _, n, .cons x t => .cons (x.upd fun z => n (by rw [List.flatten_cons]; exact List.mem_append_left _ z)) (t.upd fun z => n (by rw [List.flatten_cons]; exact List.mem_append_right _ z))
theorem flat_split {α : Type} : ∀ {fs : List (List α)} {i : Nat} {fp : List α}, fs[i]? = some fp → fs.flatten.Nodup → fp.Nodup ∧ (∀ b ∈ fp, b ∉ (fs.set i []).flatten) ∧ (fs.set i []).flatten.Sublist fs.flatten ∧ fp.Sublist fs.flatten
  | [], _, _, h, _ => by simp at h
  | x :: fs, 0, fp, h, nd => by
    simp at h
    subst h
    rw [List.flatten_cons] at nd
    obtain ⟨n1, n2, n3⟩ := List.nodup_append.mp nd
    rw [List.set_cons_zero, List.flatten_cons, List.flatten_cons, List.nil_append]
    exact ⟨n1, fun b hb m => n3 b hb b m rfl, List.sublist_append_right _ _, List.sublist_append_left _ _⟩
  | x :: fs, i + 1, fp, h, nd => by
    rw [List.flatten_cons] at nd
    obtain ⟨n1, n2, n3⟩ := List.nodup_append.mp nd
    have h : fs[i]? = some fp := by simpa using h
    obtain ⟨k1, k2, k3, k4⟩ := flat_split h n2
    rw [List.set_cons_succ, List.flatten_cons, List.flatten_cons]
    exact ⟨k1, fun b hb m => (List.mem_append.mp m).elim (fun m => n3 b m b (k4.subset hb) rfl) (k2 b hb), k3.append_left x, k4.trans (List.sublist_append_right _ _)⟩
theorem innAt_get : ∀ {as : List Addr} {dss : List (List PyData)} {j : Nat} {ds : List PyData}, InnAt F H as dss → dss[j]? = some ds → ∃ a vs, as[j]? = some a ∧ H a = some (.lst vs) ∧ DtAll F vs ds
  | [], [], _, _, _, e => by simp at e
  | [], _ :: _, _, _, h, _ => h.elim
  | _ :: _, [], _, _, h, _ => h.elim
  | c :: as, ds :: dss, 0, _, ⟨⟨vs, h1, h2⟩, h3⟩, e => by simp at e; subst e; exact ⟨c, vs, rfl, h1, h2⟩
  | c :: as, _ :: dss, j + 1, ds, ⟨_, h3⟩, e => by
    obtain ⟨a, vs, k1, k2, k3⟩ := innAt_get (j := j) (ds := ds) h3 (by simpa using e)
    exact ⟨a, vs, by simpa using k1, k2, k3⟩
theorem innAt_set {a : Addr} {vs' : List V} {ds' : List PyData} (d : DtAll F vs' ds') : ∀ {as : List Addr} {dss : List (List PyData)} {j : Nat}, InnAt F H as dss → as.Nodup → as[j]? = some a → InnAt F (upd H a (.lst vs')) as (dss.set j ds')
  | [], [], _, _, _, e => by simp at e
  | [], _ :: _, _, h, _, _ => h.elim
  | _ :: _, [], _, h, _, _ => h.elim
  | c :: as, ds :: dss, 0, ⟨⟨vs, h1, h2⟩, h3⟩, nd, e => by
    simp at e
    subst e
    exact ⟨⟨vs', upd_same, d⟩, innAt_upd (List.nodup_cons.mp nd).1 h3⟩
  | c :: as, ds :: dss, j + 1, ⟨⟨vs, h1, h2⟩, h3⟩, nd, e => by
    have e : as[j]? = some a := by simpa using e
    exact ⟨⟨vs, by rw [upd_ne (fun z => (List.nodup_cons.mp nd).1 (by rw [z]; exact List.mem_of_getElem? e))]; exact h1, h2⟩, innAt_set d h3 (List.nodup_cons.mp nd).2 e⟩
theorem set_get {α : Type} {l : List α} {i : Nat} {x : α} (h : l[i]? = some x) : l.set i x = l := by
  apply List.ext_getElem?
  intro k
  by_cases hk : i = k
  · subst hk
    have hl : i < l.length := by
      rcases Nat.lt_or_ge i l.length with q | q
      · exact q
      · rw [List.getElem?_eq_none q] at h; cases h
    rw [List.getElem?_set_self hl, h]
  · rw [List.getElem?_set_ne hk]
theorem Sta.wr2 {i j : Nat} {K : PySem.W.Frag} {dss : List (List PyData)} {ds : List PyData} (S : Sta G K H0 F0 γ σ H F ρ) (h : ρ[i]? = some (some (.own2 dss))) (hj : dss[j]? = some ds) : ∃ (c : Addr) (as : List Addr) (a : Addr) (vs : List V), σ[i]? = some (some (.ref c)) ∧ H c = some (.lst (as.map V.ref)) ∧ as.length = dss.length ∧ as[j]? = some a ∧ H a = some (.lst vs) ∧ DtAll F vs ds ∧
    ∀ vs' ds', DtAll F vs' ds' → Sta G K H0 F0 γ σ (upd H a (.lst vs')) F (ρ.set i (some (.own2 (dss.set j ds')))) := by
  obtain ⟨fs, h1, h2, h3⟩ := S.ex
  obtain ⟨v, fp, e1, e2, c, as, rfl, rfl, e3, e4⟩ := h1.get h
  obtain ⟨n1, n2, n3, n4⟩ := flat_split e2 h2
  obtain ⟨a, vs, q1, q2, q3⟩ := innAt_get e4 hj
  have ma : a ∈ as := List.mem_of_getElem? q1
  have m : a ∈ fs.flatten := n4.subset (List.mem_cons_of_mem _ ma)
  have nc : c ≠ a := fun z => (List.nodup_cons.mp n1).1 (by rw [z]; exact ma)
  refine ⟨c, as, a, vs, e1, e3, innAt_length e4, q1, q2, q3, fun vs' ds' d' => ⟨fun b u q => ?_, ⟨fun b u q n => ?_, fun b q => ?_, S.grow.fro⟩, G.mono (extL_lst q2) S.tab, S.gh, fs, ?_, h2, h3⟩⟩
  · have z := S.fz b u q
    rw [upd_ne (ne_of_none q (h3 a m).1)]
    exact z
  · rw [upd_ne (ne_of_none q (h3 a m).2)]
    exact S.grow.keep b u q n
  · by_cases hb : b = a
    · rw [hb]; exact (h3 a m).2
    · rw [upd_ne hb] at q
      exact S.grow.live b q
  · have w := (h1.wipe1 i).upd (ob := .lst vs') (n2 a (List.mem_cons_of_mem _ ma))
    have w := w.set (v := .ref c) (e := .own2 (dss.set j ds')) (fp := c :: as) ⟨c, as, rfl, rfl, by rw [upd_ne nc]; exact e3, innAt_set d' e4 (List.nodup_cons.mp n1).2 q1⟩ i
    rw [List.set_set, List.set_set, List.set_set, set_get e1, set_get e2] at w
    exact w
theorem atI_mapI {α β : Type} {f : α → β} {l : List α} {i : Int} {j : Nat} (h : ixN l.length i = some j) : atI (l.map f) i = (l[j]?).map f := by
  unfold atI
  rw [List.length_map, h]
  show (l.map f)[j]? = _
  rw [List.getElem?_map]
/-- x[k].append(e), x a list of own lists -/
theorem xs_append2 (i : Nat) {dss : List (List PyData)} {ds : List PyData} {d : PyData} {x : Str} {k : Int} {j : Nat} {ie : Expr} {px ps pa pos' : Pos} (he : XE G X e ρ (dat_ d)) (hk : XE G X ie ρ (int_ k)) (hj : ixN dss.length k = some j) (hd2 : dss[j]? = some ds) (hl : ds.length < 16777216) (h : ρ[i]? = some (some (.own2 dss)) := by rfl) (hN : X.N[i]? = some x := by rfl) (hv : Vis X.env.scope x := by first | exact Or.inl rfl | exact Or.inr (Or.inl rfl) | exact Or.inr (Or.inr rfl))
    (hd : (x == ("__debug__" : Str)) = false := by decide) (hcd : (x == ("__classdict__" : Str)) = false := by decide) (hpi : PlainIx ie := by exact fun _ _ => rfl)
    (hs : swapsWith (.Call (.Attribute (.Subscript (.Name x px) ie ps) "append" pa) [e] [] pos) none pos'.line X.env = pure false := by rfl)
    (hbase : attributeBase (.Subscript (.Name x px) ie ps) ("append" : Str) X.env (eval (.Subscript (.Name x px) ie ps) X.env) = eval (.Subscript (.Name x px) ie ps) X.env := by rfl)
    (hfew : ((backTo pos (starEach [e] X.env)).all (fun x => !x.1) && (backToKw pos (keywordEach [] X.env)).all (fun x => x.1.isSome)
      && decide ([e].length + ([] : List Keyword).length + (if ([] : List Keyword).isEmpty then 0 else 1) < 30)) = true := by rfl)
    (hline : (pa.endLine == pos.line) = true := by rfl) (hst : starEach [e] X.env = (false, eval e X.env) :: starEach [] X.env := by rfl) (hplain : (backTo pos (starEach [] X.env)).any (·.1) = false := by rfl) : XS G X Ex (.Expr (.Call (.Attribute (.Subscript (.Name x px) ie ps) "append" pa) [e] [] pos) pos') ρ (.nx (ρ.set i (some (.own2 (dss.set j (ds ++ [d])))))) := fun H0 F0 γ σ H F S D q => by
  obtain ⟨c0, as0, a0, vs0, e1, _⟩ := S.wr2 h hd2
  refine ⟨_, ps_expr (pe_bm PySem.F.plainAttrs_list PySem.F.slot_list_append PySem.F.type_list_append mt_append (pe_ix ix_list (pe_var hN hv hd hcd) pe_s hpi) (pa_cons pe_s pa_nil hst) hbase hfew hline hst hplain) hs, _, e1, hk.s S fun w H1 F1 m => ?_⟩
  have S1 := S.nx m
  obtain ⟨c, as, a, vs, f1, f2, f3, f4, f5, f6, _⟩ := S1.wr2 h hd2
  rw [e1] at f1
  cases f1
  have mw := m.rsAt
  cases mw
  refine ⟨_, _, _, .ref a, rfl, rfl, SqL.of f2, ?_, .inl ⟨rfl, _, SqL.of f5⟩, he.s S1 fun v H2 F2 n => ?_⟩
  · rw [atI_mapI (by rw [f3]; exact hj), f4]
    rfl
  have S2 := S1.nx n
  obtain ⟨c', as', a', vs', g1, g2, g3, g4, g5, g6, g7⟩ := S2.wr2 h hd2
  rw [e1] at g1
  cases g1
  have k := n.grow.keep _ _ f2 nt_lst
  rw [g2] at k
  have k : as' = as := by
    have := HO.lst.inj (Option.some.inj k)
    exact List.map_inj_right (fun x y h => V.ref.inj h) |>.mp this
  subst k
  rw [f4] at g4
  cases g4
  exact ⟨a, vs', v, rfl, rfl, g5, by rw [dpAll_length g6]; exact Nat.lt_of_lt_of_le hl (line_ok (Nat.le_refl _)), q _ _ _ (g7 _ _ (dpAll_append g6 (.cons n.rsAt .nil)))⟩
/-- a list of own lists is frozen -/
def frz (H F : Hp) (L : List Addr) : Hp := fun b => if b ∈ L then H b else F b
theorem frz_in {L : List Addr} {b : Addr} (h : b ∈ L) : frz H F L b = H b := if_pos h
theorem frz_out {L : List Addr} {b : Addr} (h : b ∉ L) : frz H F L b = F b := if_neg h
theorem innAt_frz {L : List Addr} (s : Same F (frz H F L)) : ∀ {as : List Addr} {dss : List (List PyData)}, (∀ b ∈ as, b ∈ L) → InnAt F H as dss → DtAll (frz H F L) (as.map V.ref) (dss.map PyData.list)
  | [], [], _, _ => .nil
  | [], _ :: _, _, h => h.elim
  | _ :: _, [], _, h => h.elim
  | c :: as, ds :: dss, hm, ⟨⟨vs, h1, h2⟩, h3⟩ => .cons (.lst (by rw [frz_in (hm c (List.mem_cons_self ..))]; exact h1) (dpAll_mono s _ _ h2)) (innAt_frz s (fun b hb => hm b (List.mem_cons_of_mem _ hb)) h3)
theorem innAt_lst : ∀ {as : List Addr} {dss : List (List PyData)}, InnAt F H as dss → ∀ b ∈ as, ∃ vs, H b = some (.lst vs)
  | [], _, _, b, hb => nomatch hb
  | _ :: _, [], h, _, _ => h.elim
  | c :: as, ds :: dss, ⟨⟨vs, h1, h2⟩, h3⟩, b, hb => by
    rcases List.mem_cons.mp hb with e | hb
    · rw [e]; exact ⟨vs, h1⟩
    · exact innAt_lst h3 b hb
theorem Sta.freeze2 {K : PySem.W.Frag} {i : Nat} {dss : List (List PyData)} (S : Sta G K H0 F0 γ σ H F ρ) (h : ρ[i]? = some (some (.own2 dss))) : ∃ F', Sta G K H0 F0 γ σ H F' (ρ.set i (some (.rs (.dat (.list (dss.map PyData.list)))))) := by
  obtain ⟨fs, h1, h2, h3⟩ := S.ex
  obtain ⟨v, fp, e1, e2, c, as, rfl, rfl, e3, e4⟩ := h1.get h
  obtain ⟨n1, n2, n3, n4⟩ := flat_split e2 h2
  have fr : ∀ b ∈ c :: as, F b = none ∧ H0 b = none := fun b hb => h3 b (n4.subset hb)
  have s : Same F (frz H F (c :: as)) := fun b o e => by rw [frz_out (fun z => by rw [(fr b z).1] at e; cases e)]; exact e
  refine ⟨frz H F (c :: as), fun b o e => ?_, ⟨S.grow.keep, S.grow.live, fun b hb => ?_⟩, S.tab, fun p hp => (S.gh p hp).mono s, fs.set i [], (h1.mono s fun _ _ e _ => e).unown e1 (.lst (by rw [frz_in (List.mem_cons_self ..)]; exact e3) (innAt_frz s (fun b hb => List.mem_cons_of_mem _ hb) e4)), n3.nodup h2, fun b hb => ?_⟩
  · by_cases hm : b ∈ c :: as
    · rw [frz_in hm] at e
      refine ⟨e, ?_⟩
      rcases List.mem_cons.mp hm with z | z
      · rw [z, e3] at e; cases e; exact nt_lst
      · obtain ⟨vs, q⟩ := innAt_lst e4 b z
        rw [q] at e; cases e; exact nt_lst
    · rw [frz_out hm] at e
      exact S.fz b o e
  · rw [frz_out (fun z => hb (fr b z).2)]
    exact S.grow.fro b hb
  · have hb' := h3 b (n3.subset hb)
    exact ⟨by rw [frz_out (fun z => n2 b z hb)]; exact hb'.1, hb'.2⟩
theorem xss_freeze2 (i : Nat) {dss : List (List PyData)} (hx : XSs G X Ex sts (ρ.set i (some (.rs (.dat (.list (dss.map PyData.list)))))) o) (h : ρ[i]? = some (some (.own2 dss)) := by rfl) : XSs G X Ex sts ρ o := fun H0 F0 γ σ H F S D q => by
  obtain ⟨F', S'⟩ := S.freeze2 h
  exact hx _ _ _ _ _ _ S' D q
/-- [[] for tg in iter] -/
def LcR2 (G : Gd) (X : Cx) (scope : Scope) (tg elt : Expr) (is : List Nat) (ρ : Ro) (rs : List Rs) : Prop :=
  ∀ r ∈ rs, ∃ ρ1, (∀ X', IsBlk X scope X' → XGo G X' tg r ρ ρ1 is) ∧ ∀ X', IsBlk X scope X' → XE G X' elt ρ1 (.own [])
theorem innAt_append : ∀ {as : List Addr} {dss : List (List PyData)} {c : Addr} {ds : List PyData}, InnAt F H as dss → (∃ vs, H c = some (.lst vs) ∧ DtAll F vs ds) → InnAt F H (as ++ [c]) (dss ++ [ds])
  | [], [], _, _, _, h => ⟨h, True.intro⟩
  | [], _ :: _, _, _, h, _ => h.elim
  | _ :: _, [], _, _, h, _ => h.elim
  | _ :: _, _ :: _, _, _, ⟨h1, h2⟩, h => ⟨h1, innAt_append h2 h⟩
theorem lc_ok2 {tg iter elt : Expr} {scope : Scope} {is : List Nat} {rs : List Rs} {wi : TI} (h2 : ∀ H0 F0 γ σ H F, Sta G X.K H0 F0 γ σ H F ρ → ∀ R : It → Hp → Prop,
  (∀ J H' F' γ1, Grow H F H' F' → Fz F' H' → G.tab H' → (∀ p ∈ γ1, p.2.At G X.K F' p.1) → ItOk G X.K J rs γ1 → R J H') → wi σ H R) (hb : LcR2 G X scope tg elt is (wipeR ρ is) rs) (hz : rs.length ≤ 16777216)
    (S : Sta G X.K H0 F0 γ σ H F ρ) {Q : VK} (q : ∀ v H' F', Nx G X.K H F H' F' v (.own2 (List.replicate rs.length [])) → Q v H') : tLc wi (bG X scope tg) (bT X scope []) (bE X scope elt) is σ H Q := by
  refine h2 _ _ _ _ _ _ S _ fun J H1 F1 γ1 g z t hg ok D hD => ?_
  have FD : F1 D = none := z.non hD
  have hHD : H D = none := g.live D hD
  refine ⟨fun i m H' => m + i = rs.length ∧ ∃ F' as, Grow H1 F1 H' F' ∧ Fz F' H' ∧ G.tab H' ∧ H' D = some (.lst (as.map V.ref)) ∧ F' D = none ∧ as.length = i ∧ InnAt F' H' as (List.replicate i []) ∧ (D :: as).Nodup ∧ ∀ b ∈ as, H1 b = none ∧ F' b = none,
    ⟨rs.length, rfl, F1, [], .new hD, z.new hD, G.mono (extL_new hD) t, upd_same, FD, rfl, True.intro, by simp, fun b hb => nomatch hb⟩, ?_⟩
  rintro i m H2 ⟨hm, F2, as, g2, z2, t2, d2, f2, la, a2, nd, fr⟩
  have hg2 : ∀ p ∈ γ1, p.2.At G X.K F2 p.1 := fun p hp => (hg p hp).mono (g2.same z)
  by_cases hlt : i < rs.length
  · refine .inr ?_
    obtain ⟨ρ1, xg, xe⟩ := hb rs[i] (List.getElem_mem hlt)
    obtain ⟨go, yl⟩ := ok.go i _ H2 F2 (List.getElem?_eq_getElem hlt) z2 t2 hg2
    refine ⟨go, fun H' => ∃ F' as, Grow H1 F1 H' F' ∧ Fz F' H' ∧ G.tab H' ∧ H' D = some (.lst (as.map V.ref)) ∧ F' D = none ∧ as.length = i + 1 ∧ InnAt F' H' as (List.replicate (i + 1) []) ∧ (D :: as).Nodup ∧ ∀ b ∈ as, H1 b = none ∧ F' b = none,
      fun H' h' => ⟨m - 1, by omega, by omega, h'⟩, fun x H' y => ?_⟩
    obtain ⟨F3, n⟩ := yl x H' y
    have S3 : Sta G X.K H0 F0 γ (L2.wipe σ is) H' F3 (wipeR ρ is) := (((S.go g z t).go g2 z2 t2).nx n).wipe is
    intro X' bX
    have xg' := xg X' bX
    have hK : X'.K = X.K := by
      obtain ⟨s, Hx, C, cl, fp, rfl⟩ := bX
      rfl
    have S3' : Sta G X'.K H0 F0 γ (L2.wipe σ is) H' F3 (wipeR ρ is) := by rw [hK]; exact S3
    refine xg' _ _ _ _ _ _ S3' x (by rw [hK]; exact n.rsAt) _ fun σ4 S4 o4 => ⟨(wipe_eq o4).trans (wipe_eq (out1_wipe σ is)), ?_⟩
    rw [hK] at S4
    have step : ∀ {Qb : Bool → Hp → Prop}, Qb true H' → bT X scope [] σ4 H' Qb := fun h => h
    refine step ?_
    rw [if_pos rfl]
    intro X2 bX2
    have hK2 : X2.K = X.K := by
      obtain ⟨s, Hx, C, cl, fp, rfl⟩ := bX2
      rfl
    refine (xe X2 bX2).s (by rw [hK2]; exact S4) fun v Hy Fy ny => ?_
    rw [hK2] at ny
    have gy : Grow H2 F2 Hy Fy := n.grow.trans ny.grow
    have k1 := gy.keep D _ d2 nt_lst
    have k2 : Fy D = none := by rw [gy.fro D (by rw [d2]; exact fun q => nomatch q)]; exact f2
    obtain ⟨fp, ⟨c, vs, rfl, rfl, c1, c2⟩, _, c3⟩ := ny.at_
    obtain ⟨c3, c4⟩ := c3 c (List.mem_singleton.mpr rfl)
    have c5 : H2 c = none := n.grow.live c c3
    have c6 : H1 c = none := (g2.live c c5)
    have cD : c ≠ D := fun z => by rw [z, d2] at c5; cases c5
    have cas : c ∉ as := fun z => innAt_live a2 c z c5
    refine ⟨as.map V.ref, k1, by rw [List.length_map, la, sizeLine_eq]; omega, Fy, as ++ [c], ⟨fun b u e nt => ?_, fun b e => ?_, fun b e => (gy.fro b ?_).trans (g2.fro b e)⟩, fun b u e => ?_, G.mono (extL_lst k1) ny.tab, by rw [List.map_append]; exact upd_same, k2, by rw [List.length_append, la]; rfl, ?_, ?_, ?_⟩
    · rw [upd_ne (ne_of_none e hD)]
      exact gy.keep b u (g2.keep b u e nt) nt
    · by_cases hb : b = D
      · rw [hb]; exact hD
      · rw [upd_ne hb] at e
        exact g2.live b (gy.live b e)
    · intro h2b
      exact e (g2.live b h2b)
    · rw [upd_ne (ne_of_none e k2)]
      exact ny.fz b u e
    · rw [List.replicate_succ']
      refine innAt_upd (fun m => ?_) (innAt_append (innAt_mono (gy.same z2) gy.keep a2) ⟨vs, c1, c2⟩)
      rcases List.mem_append.mp m with m | m
      · exact (List.nodup_cons.mp nd).1 m
      · exact cD (List.mem_singleton.mp m).symm
    · refine List.nodup_cons.mpr ⟨fun m => ?_, List.nodup_append.mpr ⟨(List.nodup_cons.mp nd).2, by simp, fun x hx y hy e => cas (by rw [← List.mem_singleton.mp hy, ← e]; exact hx)⟩⟩
      rcases List.mem_append.mp m with m | m
      · exact (List.nodup_cons.mp nd).1 m
      · exact cD (List.mem_singleton.mp m).symm
    · intro b hb
      rcases List.mem_append.mp hb with hb | hb
      · exact ⟨(fr b hb).1, by rw [gy.fro b (innAt_live a2 b hb)]; exact (fr b hb).2⟩
      · rw [List.mem_singleton.mp hb]
        exact ⟨c6, c4⟩
  · refine .inl ?_
    have e : i = rs.length := by omega
    subst e
    refine ⟨ok.stop H2 F2 z2 hg2, q _ _ F2 ⟨z2, g.trans g2, t2, D :: as, ⟨D, as, rfl, rfl, d2, a2⟩, nd, fun b hb => ?_⟩⟩
    rcases List.mem_cons.mp hb with z | z
    · rw [z]
      exact ⟨hHD, f2⟩
    · exact ⟨g.live b (fr b z).1, (fr b z).2⟩
/-- name = [[] for ..] -/
theorem xs_setLc2 {tg iter elt : Expr} {scope : Scope} {rs : List Rs} {y : Str} {py spos : Pos} {dss : List (List PyData)} (hdss : List.replicate rs.length [] = dss) (i : Nat) (own : List (Str × Nat)) (hc : X.calm = true) (hN : X.N.Nodup) (ok : BlkOk X.N X.env.scope scope own) (hi : XI G X tg iter ρ rs)
    (hb : LcR2 G X scope tg elt (own.map (·.2)) (wipeR ρ (own.map (·.2))) rs) (hz : rs.length ≤ 16777216) (hsw : swapsWith (.ListComp elt [⟨tg, iter, [], 0⟩] scope pos) (some (.Name y py)) spos.line X.env = pure true) (hy : X.N[i]? = some y := by rfl) (hyl : X.env.scope.names.lookup y = some .local := by rfl)
    (hs : ∀ x, foldedSetIterable iter X.env x = pure x := by intro _; rfl) : XS G X Ex (.Assign [.Name y py] (.ListComp elt [⟨tg, iter, [], 0⟩] scope pos) spos) ρ (.nx (ρ.set i (some (.own2 dss)))) := fun H0 F0 γ σ H F S D q => by
  subst hdss
  obtain ⟨wi, hw, h2⟩ := hi
  exact ⟨_, ps_setLc (i := i) hc hN hy hyl hsw hw ok bG_pg (bT_pt (.inl rfl)) bE_pe hs, lc_ok2 (iter := iter) h2 hb hz S fun v H1 F1 n => q _ _ _ (S.set i n)⟩
theorem xe_lc2 {tg iter elt : Expr} {scope : Scope} {rs : List Rs} (own : List (Str × Nat)) (hc : X.calm = true) (hN : X.N.Nodup) (ok : BlkOk X.N X.env.scope scope own) (hi : XI G X tg iter ρ rs) (hb : LcR2 G X scope tg elt (own.map (·.2)) (wipeR ρ (own.map (·.2))) rs)
    (hz : rs.length ≤ 16777216) (hs : ∀ x, foldedSetIterable iter X.env x = pure x := by intro _; rfl) : XE G X (.ListComp elt [⟨tg, iter, [], 0⟩] scope pos) ρ (.own2 (List.replicate rs.length [])) := by
  obtain ⟨wi, hw, h2⟩ := hi
  exact ⟨_, pe_lc hc hN hw ok bG_pg (bT_pt (.inl rfl)) bE_pe hs, fun H0 F0 γ σ H F S Q q => lc_ok2 (iter := iter) h2 hb hz S q⟩
end
end LC
namespace LC
open PySem PySem.Spec PyProof.Rows L2

theorem setz_get (cl : List Int) : ∀ (ks : List Int) (l : List Int), l.length = cl.length → (∀ k ∈ ks, 0 ≤ k ∧ k < cl.length) → (ks.foldl (fun a k => a.set k.toNat 0) l).length = cl.length ∧ ∀ i, i < cl.length → (ks.foldl (fun a k => a.set k.toNat 0) l).getD i 0 = if (i : Int) ∈ ks then 0 else l.getD i 0
  | [], l, h, _ => ⟨h, fun i _ => by simp⟩
  | k :: ks, l, h, hk => by
    obtain ⟨k0, k1⟩ := hk k (List.mem_cons_self ..)
    have h' : (l.set k.toNat 0).length = cl.length := by rw [List.length_set]; exact h
    obtain ⟨e1, e2⟩ := setz_get cl ks (l.set k.toNat 0) h' fun x hx => hk x (List.mem_cons_of_mem _ hx)
    refine ⟨e1, fun i hi => ?_⟩
    rw [List.foldl_cons, e2 i hi]
    by_cases hm : (i : Int) ∈ ks
    · rw [if_pos hm, if_pos (List.mem_cons_of_mem _ hm)]
    · rw [if_neg hm]
      by_cases hik : (i : Int) = k
      · rw [if_pos (by rw [hik]; exact List.mem_cons_self ..)]
        have : k.toNat = i := by omega
        rw [this, List.getD_eq_getElem?_getD, List.getElem?_set_self (by omega)]
        rfl
      · rw [if_neg (fun z => (List.mem_cons.mp z).elim hik hm)]
        have : k.toNat ≠ i := by omega
        rw [List.getD_eq_getElem?_getD, List.getElem?_set_ne this, ← List.getD_eq_getElem?_getD]
theorem setz_reset (cl ks : List Int) (hk : ∀ k ∈ ks, 0 ≤ k ∧ k < cl.length) : ks.foldl (fun a k => a.set k.toNat 0) cl = resetC cl ks := by
  obtain ⟨h1, h2⟩ := setz_get cl ks cl rfl hk
  apply List.ext_getElem?
  intro i
  by_cases hi : i < cl.length
  · have e := h2 i hi
    rw [List.getD_eq_getElem?_getD, List.getElem?_eq_getElem (by rw [h1]; exact hi)] at e
    rw [List.getElem?_eq_getElem (by rw [h1]; exact hi)]
    unfold resetC
    rw [List.getElem?_map, List.getElem?_range hi]
    exact congrArg some e
  · rw [List.getElem?_eq_none (by omega), List.getElem?_eq_none (by rw [resetC_length]; omega)]
def moveL (m : Mc) (c : Cf) (item : Str) : List PyData := [eF (stepF m c item).1, .tuple ((stepF m c item).2.map eG), .bool (forbidsF m c item)]
section
variable {P : Program} {w : World} {K : PySem.W.Frag} {mg : Str → Option Value} {base : Heap}
theorem sc__law_begin : FnScope ["_law_parts_here", "_law_clock"] ["_law_parts_here"] (defScope s__law_begin) := ⟨rfl, rfl, rfl, by decide +kernel, rfl, by decide +kernel, by decide +kernel⟩
theorem C__law_begin (T : Wd K mg) : FnG (gd K) P w K mg base 1 "_law_begin" 1 (fun rs en => ∃ m : Mc, m.Ok ∧ rs = [.dat (eP m)] ∧ en = dat_ (eF (startF m))) := by
  obtain ⟨fd, F⟩ := T.df 37 (d := d__law_begin)
  refine fnG_of F sc__law_begin (T.glo 37) (fun _ _ _ _ _ _ us hl => match us, hl with | [_], _ => rfl) fun cdv A outer s H E hr rs en hl hφ => ⟨_, .inl rfl, ?_⟩
  obtain ⟨m, M, rfl, rfl⟩ := hφ
  refine xss_one (xs_ret (xe_tup (xd_cons xe_int (xd_cons (xe_callT T.tuple (xa_cons (xe_fr (xe_lc [("_law_clock", 1)] rfl sc__law_begin.nd (bk ["_law_parts_here", "_law_clock"] s__law_begin) (xi_tup (xe_ix (xe_var 0) xe_int (ixo_list rfl))) (ds := (dI (m.clocks.map fun _ => 0))) ?_ ?_)) xa_nil) co_tupL) xd_nil))))
  · rw [map_dat, show dI (m.clocks.map fun _ => 0) = m.clocks.map fun _ => PyData.int 0 from List.map_map ..]
    exact lcR_map _ _ _ fun a _ => ⟨_, fun X' ⟨_, _, _, _, _, e⟩ => by subst e; exact xg_name 1 sc__law_begin.nd, fun X' ⟨_, _, _, _, _, e⟩ => by subst e; exact xe_int⟩
  · rw [List.length_map, List.length_map]
    exact Nat.le_trans M.nc (by decide)
theorem sc__law_caps : FnScope ["_law_parts_here", "_law_limits", "_law_clock", "_law_rule_here", "_law_condition"] ["_law_parts_here"] (defScope s__law_caps) := ⟨rfl, rfl, rfl, by decide +kernel, rfl, by decide +kernel, by decide +kernel⟩
theorem C__law_caps (T : Wd K mg) : FnG (gd K) P w K mg base 1 "_law_caps" 1 (fun rs en => ∃ m : Mc, m.Ok ∧ rs = [.dat (eP m)] ∧ en = .own (dI (capsF m))) := by
  obtain ⟨fd, F⟩ := T.df 34 (d := d__law_caps)
  refine fnG_of F sc__law_caps (T.glo 34) (fun _ _ _ _ _ _ us hl => match us, hl with | [_], _ => rfl) fun cdv A outer s H E hr rs en hl hφ => ⟨_, .inl rfl, ?_⟩
  obtain ⟨m, M, rfl, rfl⟩ := hφ
  refine xss_cons (xs_setLc 1 [("_law_clock", 2)] rfl sc__law_caps.nd (bk ["_law_parts_here", "_law_limits", "_law_clock", "_law_rule_here", "_law_condition"] s__law_caps) (xi_tup (xe_ix (xe_var 0) xe_int (ixo_list rfl))) (ds := dI (m.clocks.map fun _ => 0)) ?_ ?_ (sw_true rfl rfl rfl (by decide +kernel))) <|
    xss_cons (xs_for PassesOwn.never rfl (xi_tup (xe_ix (xe_var 0) xe_int (ixo_list rfl))) (o := .nx [some (dat_ (eP m)), some (.own (dI (capsF m))), none, none, none]) ?_) <|
    xss_one (xs_retOwn 1)
  · rw [map_dat, show dI (m.clocks.map fun _ => 0) = m.clocks.map fun _ => PyData.int 0 from List.map_map ..]
    exact lcR_map _ _ _ fun a _ => ⟨_, fun X' ⟨_, _, _, _, _, e⟩ => by subst e; exact xg_name 2 sc__law_caps.nd, fun X' ⟨_, _, _, _, _, e⟩ => by subst e; exact xe_int⟩
  · rw [List.length_map, List.length_map]
    exact Nat.le_trans M.nc (by decide)
  refine forR_inv (fun r => Rs.dat (eR r)) (fun l ρ => ∃ res o2 o3 o4, res.length = m.clocks.length ∧ (∀ r ∈ l, r ∈ m.rules) ∧ l.foldl (fun res r => r.conds.foldl capC res) res = capsF m ∧ ρ = [some (dat_ (eP m)), some (.own (dI res)), o2, o3, o4])
    (map_dat _ _) ⟨_, _, _, _, List.length_map _, fun r h => h, rfl, rfl⟩ ?_ ?_
  · rintro ρ ⟨res, o2, o3, o4, _, _, e, rfl⟩
    have e : res = capsF m := e
    subst e
    exact ⟨_, by repeat constructor, rfl⟩
  rintro r l ρ ⟨res, o2, o3, o4, hl, hm, e, rfl⟩
  have hr' := hm r (List.mem_cons_self ..)
  refine ⟨_, _, _, Le.refl _, xg_name 3 sc__law_caps.nd, .inl ⟨[some (dat_ (eP m)), some (.own (dI (r.conds.foldl capC res))), none, some (dat_ (eR r)), none], ?_, _, _, _, _, (capCs_length _ _).trans hl, fun x hx => hm x (List.mem_cons_of_mem _ hx), e, rfl⟩⟩
  refine xss_one (xs_for PassesOwn.never rfl (xi_tup (xe_ix (xe_var 3) xe_int (ixo_tup rfl))) ?_)
  refine forR_inv (fun c => Rs.dat (eC c)) (fun l ρ => ∃ res' o2 o4, res'.length = m.clocks.length ∧ (∀ c ∈ l, c ∈ r.conds) ∧ l.foldl capC res' = r.conds.foldl capC res ∧ ρ = [some (dat_ (eP m)), some (.own (dI res')), o2, some (dat_ (eR r)), o4])
    (map_dat _ _) ⟨res, _, _, hl, fun c h => h, rfl, rfl⟩ ?_ ?_
  · rintro ρ ⟨res', o2, o4, _, _, e, rfl⟩
    have e : res' = r.conds.foldl capC res := e
    subst e
    exact ⟨_, by repeat constructor, rfl⟩
  rintro c l' ρ ⟨res', o2, o4, hl', hm', e', rfl⟩
  obtain ⟨c0, c1⟩ := M.cl r hr' c (hm' c (List.mem_cons_self ..))
  have c2 : c.1 < (res'.length : Int) := by rw [hl']; exact c1
  refine ⟨_, _, _, Le.refl _, xg_name 4 sc__law_caps.nd, .inl ⟨_, xss_one (xs_setOwn 1 (xe_lend 1 (xe_callB T.max (xa_cons (xe_ix (xe_var 1) (xe_ix (xe_var 4) xe_int (ixo_tup rfl)) (ixo_list (atI_dI c0 c2))) (xa_cons (xe_ix (xe_var 4) xe_int (ixo_tup rfl)) xa_nil)) (co_max rfl)) rfl) (xe_ix (xe_var 4) xe_int (ixo_tup rfl)) (ixN_ok (n := (dI res').length) c0 (by rw [List.length_map]; exact c2))), capC res' c, o2, some (dat_ (eC c)), (capC_length _ _).trans hl', fun x hx => hm' x (List.mem_cons_of_mem _ hx), e', ?_⟩⟩
  simp only [capC, dI, List.map_set]
  rfl
theorem sc__law_all_hold : FnScope ["_law_conditions", "_law_clocks", "_law_condition"] ["_law_conditions", "_law_clocks"] (defScope s__law_all_hold) := ⟨rfl, rfl, rfl, by decide +kernel, rfl, by decide +kernel, by decide +kernel⟩
theorem C__law_all_hold (T : Wd K mg) : FnG (gd K) P w K mg base 1 "_law_all_hold" 2 (fun rs en => ∃ (cs : List (Int × Str × Int)) (cl : List Int), (∀ c ∈ cs, 0 ≤ c.1 ∧ c.1 < cl.length) ∧ rs = [.dat (.tuple (cs.map eC)), .dat (.list (dI cl))] ∧ en = bl_ (cs.all (holdsF cl))) := by
  obtain ⟨fd, F⟩ := T.df 35 (d := d__law_all_hold)
  refine fnG_of F sc__law_all_hold (T.glo 35) (fun _ _ _ _ _ _ us hl => match us, hl with | [_, _], _ => rfl) fun cdv A outer s H E hr rs en hl hφ => ⟨_, .inl rfl, ?_⟩
  obtain ⟨cs, cl, hc, rfl, rfl⟩ := hφ
  have test : ∀ c : Int × Str × Int, (!decide (decide (cl.getD c.1.toNat 0 < c.2.2) = decide (c.2.1 = ("under" : Str)))) = !holdsF cl c := by
    intro c
    unfold holdsF
    by_cases h : c.2.1 = ("under" : Str)
    · rw [if_pos h, decide_eq_true h]
      by_cases h2 : cl.getD c.1.toNat 0 < c.2.2
      · rw [decide_eq_true h2]; rfl
      · rw [decide_eq_false h2]; rfl
    · rw [if_neg h, decide_eq_false h]
      by_cases h2 : cl.getD c.1.toNat 0 < c.2.2
      · have e : decide (c.2.2 ≤ cl.getD c.1.toNat 0) = false := decide_eq_false (by omega)
        rw [decide_eq_true h2, e]; rfl
      · have e : decide (c.2.2 ≤ cl.getD c.1.toNat 0) = true := decide_eq_true (by omega)
        rw [decide_eq_false h2, e]; rfl
  cases ha : cs.all (holdsF cl) with
  | true =>
    refine xss_cons (xs_for PassesOwn.never rfl (xi_tup (xe_var 0)) (o := .nx [some (tup_ (cs.map eC)), some (lst_ (dI cl)), none]) ?_) <| xss_one (xs_ret xe_bl)
    refine forR_inv (fun c => Rs.dat (eC c)) (fun l ρ => ∃ o2, (∀ c ∈ l, c ∈ cs) ∧ ρ = [some (tup_ (cs.map eC)), some (lst_ (dI cl)), o2]) (map_dat _ _) ⟨none, fun c h => h, rfl⟩ ?_ ?_
    · rintro ρ ⟨o2, _, rfl⟩
      exact ⟨_, by repeat constructor, rfl⟩
    · rintro c l ρ ⟨o2, hm, rfl⟩
      have hcm := hm c (List.mem_cons_self ..)
      obtain ⟨c0, c1⟩ := hc c hcm
      have hh := List.all_eq_true.mp ha c hcm
      refine ⟨_, _, _, Le.refl _, xg_name 2 sc__law_all_hold.nd, .inl ⟨_, xss_one (xs_if (xt_cmp (xe_cmp (xe_ix (xe_var 1) (xe_ix (xe_var 2) xe_int (ixo_tup rfl)) (ixo_list (atI_dI c0 c1))) (xe_ix (xe_var 2) xe_int (ixo_tup rfl)) bin_lt) (xe_cmp (xe_ix (xe_var 2) xe_int (ixo_tup rfl)) xe_str bin_eqS) bin_neB) (fun h => ?_) (fun h => xss_nil)), _, fun x hx => hm x (List.mem_cons_of_mem _ hx), rfl⟩⟩
      have h : (!decide (decide (cl.getD c.1.toNat 0 < c.2.2) = decide (c.2.1 = ("under" : Str)))) = true := h
      rw [test c, hh] at h
      cases h
  | false =>
    refine xss_ret (xs_for PassesOwn.never rfl (xi_tup (xe_var 0)) ?_)
    refine forR_inv (fun c => Rs.dat (eC c)) (fun l ρ => ∃ o2, (∀ c ∈ l, c ∈ cs) ∧ l.all (holdsF cl) = false ∧ ρ = [some (tup_ (cs.map eC)), some (lst_ (dI cl)), o2]) (map_dat _ _) ⟨none, fun c h => h, ha, rfl⟩ ?_ ?_
    · rintro ρ ⟨o2, _, h, rfl⟩
      cases h
    · rintro c l ρ ⟨o2, hm, hf, rfl⟩
      have hcm := hm c (List.mem_cons_self ..)
      obtain ⟨c0, c1⟩ := hc c hcm
      refine ⟨_, _, _, Le.refl _, xg_name 2 sc__law_all_hold.nd, ?_⟩
      cases hh : holdsF cl c with
      | true =>
        refine .inl ⟨_, xss_one (xs_if (xt_cmp (xe_cmp (xe_ix (xe_var 1) (xe_ix (xe_var 2) xe_int (ixo_tup rfl)) (ixo_list (atI_dI c0 c1))) (xe_ix (xe_var 2) xe_int (ixo_tup rfl)) bin_lt) (xe_cmp (xe_ix (xe_var 2) xe_int (ixo_tup rfl)) xe_str bin_eqS) bin_neB) (fun h => ?_) (fun h => xss_nil)), _, fun x hx => hm x (List.mem_cons_of_mem _ hx), ?_, rfl⟩
        · have h : (!decide (decide (cl.getD c.1.toNat 0 < c.2.2) = decide (c.2.1 = ("under" : Str)))) = true := h
          rw [test c, hh] at h
          cases h
        · rw [List.all_cons, hh, Bool.true_and] at hf
          exact hf
      | false =>
        refine .inr ⟨xss_one (xs_if (xt_cmp (xe_cmp (xe_ix (xe_var 1) (xe_ix (xe_var 2) xe_int (ixo_tup rfl)) (ixo_list (atI_dI c0 c1))) (xe_ix (xe_var 2) xe_int (ixo_tup rfl)) bin_lt) (xe_cmp (xe_ix (xe_var 2) xe_int (ixo_tup rfl)) xe_str bin_eqS) bin_neB) (fun h => xss_one (xs_ret xe_bl)) (fun h => ?_)), fun ρ' z => nomatch z⟩
        have h : (!decide (decide (cl.getD c.1.toNat 0 < c.2.2) = decide (c.2.1 = ("under" : Str)))) = false := h
        rw [test c, hh] at h
        cases h
theorem sc__law_move : FnScope ["_law_parts_here", "_law_configuration", "_law_item", "_law_clocks", "_law_limits", "_law_k", "_law_rule_here"] ["_law_parts_here", "_law_configuration", "_law_item"] (defScope s__law_move) := ⟨rfl, rfl, rfl, by decide +kernel, rfl, by decide +kernel, by decide +kernel⟩
theorem C__law_move (T : Wd K mg) : FnG (gd K) P w K mg base 2 "_law_move" 3 (fun rs en => ∃ (m : Mc) (c : Cf) (item : Str), m.Ok ∧ c.Ok m ∧ rs = [.dat (eP m), .dat (eF c), .dat (.str item)] ∧ en = .own (moveL m c item)) := by
  obtain ⟨fd, F⟩ := T.df 36 (d := d__law_move)
  refine fnG_of F sc__law_move (T.glo 36) (fun _ _ _ _ _ _ us hl => match us, hl with | [_, _, _], _ => rfl) fun cdv A outer s H E hr rs en hl hφ => ⟨_, .inl rfl, ?_⟩
  obtain ⟨m, c, item, M, C, rfl, rfl⟩ := hφ
  have hl2 := clocksF_length (m := m) C item
  generalize hcl : clocksF m c.2 item = cl at hl2
  have body : ∀ (r : Rl) (o6 : Option En) (o : Out), r ∈ m.rules → (ruleIs c.1 cl item r = true → r.tgt = none → o = .rt (.own [eF (c.1, cl), .tuple [], .bool true])) → (∀ t, ruleIs c.1 cl item r = true → r.tgt = some t → o = .rt (.own [eF (t, resetC cl r.resets), .tuple (r.sigs.map eG), .bool false])) → (ruleIs c.1 cl item r = false → o = .nx [some (dat_ (eP m)), some (dat_ (eF c)), some (str_ item), some (.own (dI cl)), none, none, some (dat_ (eR r))]) →
      XSs (gd K) (bx P w K mg base ["_law_parts_here", "_law_configuration", "_law_item", "_law_clocks", "_law_limits", "_law_k", "_law_rule_here"] d__law_move.qual d__law_move.scope (He.fAd K d__law_move.at_) cdv A outer s H E) (fun _ => False)
        (match s__law_move with | .FunctionDef _ _ (_ :: _ :: .For _ _ b _ _ :: _) _ _ _ _ _ _ _ => b | _ => []) [some (dat_ (eP m)), some (dat_ (eF c)), some (str_ item), some (.own (dI cl)), none, none, some (dat_ (eR r))] o := by
    intro r o6 o hr' h1 h2 h3
    refine xss_one (xs_if (xt_lend 3 (XW.t (xw_and (xt_cmp (xe_ix (xe_var 6) xe_int (ixo_tup rfl)) (xe_ix (xe_var 1) xe_int (ixo_tup rfl)) bin_eqI) fun _ => xw_and (xt_cmp (xe_ix (xe_var 6) xe_int (ixo_tup rfl)) (xe_var 2) bin_eqS) fun _ => xw_and1 (xt_val (xe_call (C__law_all_hold T) (hr.mono (by decide)) (xa_cons (xe_ix (xe_var 6) xe_int (ixo_tup rfl)) (xa_cons (xe_var 3) xa_nil)) ⟨r.conds, cl, fun x hx => by rw [hl2]; exact M.cl r hr' x hx, rfl, rfl⟩))))) (fun h => ?_) (fun h => ?_))
    · have hi : ruleIs c.1 cl item r = true := by
        unfold ruleIs
        rw [Bool.and_assoc]
        exact h
      cases ht : r.tgt with
      | none =>
        rw [h1 hi ht]
        exact xss_ret (xs_if (xt_cmp (xe_ix (xe_var 6) xe_int (ixo_tup (d := eO r.tgt) rfl)) xe_non bin_isN) (fun _ => xss_freeze 3 <| xss_one (xs_ret (xe_lst (xd_cons (xe_tup (xd_cons (xe_ix (xe_var 1) xe_int (ixo_tup rfl)) (xd_cons (xe_callT T.tuple (xa_cons (xe_var 3) xa_nil) co_tupL) xd_nil))) (xd_cons (xe_tup xd_nil) (xd_cons xe_bl xd_nil)))))) (fun h => by rw [isN_eO, ht] at h; cases h))
      | some t =>
        rw [h2 t hi ht]
        refine xss_cons (xs_if (xt_cmp (xe_ix (xe_var 6) xe_int (ixo_tup (d := eO r.tgt) rfl)) xe_non bin_isN) (fun h => by rw [isN_eO, ht] at h; cases h) (fun _ => xss_nil)) ?_
        refine xss_cons (xs_for PassesOwn.never rfl (xi_tup (xe_ix (xe_var 6) xe_int (ixo_tup (d := .tuple (dI r.resets)) rfl))) (o := .nx [some (dat_ (eP m)), some (dat_ (eF c)), some (str_ item), some (.own (dI (resetC cl r.resets))), none, none, some (dat_ (eR r))]) ?_) <| xss_freeze 3 <|
          xss_one (xs_ret (xe_lst (xd_cons (xe_tup (xd_cons (xe_ix (xe_var 6) xe_int (ixo_tup (by rw [ht]; rfl))) (xd_cons (xe_callT T.tuple (xa_cons (xe_var 3) xa_nil) co_tupL) xd_nil))) (xd_cons (xe_ix (xe_var 6) xe_int (ixo_tup rfl)) (xd_cons xe_bl xd_nil)))))
        have hrs := M.rs r hr'
        refine forR_inv (fun k => Rs.dat (.int k)) (fun l ρ => ∃ res o5, res.length = m.clocks.length ∧ (∀ k ∈ l, k ∈ r.resets) ∧ l.foldl (fun a k => a.set k.toNat 0) res = resetC cl r.resets ∧ ρ = [some (dat_ (eP m)), some (dat_ (eF c)), some (str_ item), some (.own (dI res)), none, o5, some (dat_ (eR r))]) (map_dat _ _) ⟨cl, none, hl2, fun k h => h, setz_reset cl r.resets (by rw [hl2]; exact hrs), rfl⟩ ?_ ?_
        · rintro ρ ⟨res, o5, _, _, e, rfl⟩
          have e : res = resetC cl r.resets := e
          subst e
          exact ⟨_, by repeat constructor, rfl⟩
        · rintro k l ρ ⟨res, o5, hrl, hm, e, rfl⟩
          obtain ⟨k0, k1⟩ := hrs k (hm k (List.mem_cons_self ..))
          refine ⟨_, _, _, Le.refl _, xg_name 5 sc__law_move.nd, .inl ⟨_, xss_one (xs_setOwn 3 xe_int (xe_var 5) (ixN_ok (n := (dI res).length) k0 (by rw [List.length_map, hrl]; exact k1))), res.set k.toNat 0, some (int_ k), by rw [List.length_set]; exact hrl, fun x hx => hm x (List.mem_cons_of_mem _ hx), e, ?_⟩⟩
          simp only [dI, List.map_set]
          rfl
    · refine XSs.is xss_nil (h3 ?_).symm
      unfold ruleIs
      rw [Bool.and_assoc]
      exact h
  have hst : ∀ (o : Out), XSs (gd K) (bx P w K mg base ["_law_parts_here", "_law_configuration", "_law_item", "_law_clocks", "_law_limits", "_law_k", "_law_rule_here"] d__law_move.qual d__law_move.scope (He.fAd K d__law_move.at_) cdv A outer s H E) (fun _ => False)
        (match s__law_move with | .FunctionDef _ _ (_ :: _ :: b) _ _ _ _ _ _ _ => b | _ => []) [some (dat_ (eP m)), some (dat_ (eF c)), some (str_ item), some (.own (dI cl)), none, none, none] o →
      XSs (gd K) (bx P w K mg base ["_law_parts_here", "_law_configuration", "_law_item", "_law_clocks", "_law_limits", "_law_k", "_law_rule_here"] d__law_move.qual d__law_move.scope (He.fAd K d__law_move.at_) cdv A outer s H E) (fun _ => False)
        (match s__law_move with | .FunctionDef _ _ b _ _ _ _ _ _ _ => b | _ => []) (ro ["_law_parts_here", "_law_configuration", "_law_item", "_law_clocks", "_law_limits", "_law_k", "_law_rule_here"] [.dat (eP m), .dat (eF c), .dat (.str item)]) o := by
    intro o h
    refine xss_cons (xs_set 3 (xe_callT T.list (xa_cons (xe_ix (xe_var 1) xe_int (ixo_tup rfl)) xa_nil) co_listT) sc__law_move.nd) <| xss_cons (xs_if (o := .nx [some (dat_ (eP m)), some (dat_ (eF c)), some (str_ item), some (.own (dI cl)), none, none, none]) (xt_cmp (xe_var 2) xe_str bin_eqS) (fun h1 => ?_) (fun h1 => ?_)) h
    · have ht : item = TICK := of_decide_eq_true h1
      have hcl' : tickC c.2 (capsF m) = cl := by
        rw [← hcl]
        unfold clocksF
        rw [if_pos ht]
      refine xss_cons (xs_set 4 (xe_fr (xe_call (C__law_caps T) (hr.mono (by decide)) (xa_cons (xe_var 0) xa_nil) ⟨m, M, rfl, rfl⟩)) sc__law_move.nd) <| xss_freeze 3 (ds := dI c.2) <| XSs.weak (xss_one (xs_set 3 (xe_lc [("_law_k", 5)] rfl sc__law_move.nd (bk ["_law_parts_here", "_law_configuration", "_law_item", "_law_clocks", "_law_limits", "_law_k", "_law_rule_here"] s__law_move) (xi_range (xe_callB T.len (xa_cons (xe_var 3) xa_nil) co_lenL) (by omega) (by rw [List.length_map]; have := M.nc; have : c.2.length = m.clocks.length := C; omega) T.range) (ds := dI cl) ?_ ?_) sc__law_move.nd)) (by repeat constructor)
      · refine LcR.rs (lcR_map (fun (i : Nat) => Rs.dat (.int (i : Int))) (fun (k : Nat) => PyData.int (if (capsF m).getD k 0 < c.2.getD k 0 + 1 then (capsF m).getD k 0 else c.2.getD k 0 + 1)) (List.range c.2.length) fun i hi => ?_) (by rw [List.length_map]; rfl) ?_
        · have hi := List.mem_range.mp hi
          have hi2 : i < (capsF m).length := by rw [capsF_length]; have : c.2.length = m.clocks.length := C; omega
          refine ⟨_, fun X' ⟨_, _, _, _, _, e⟩ => by subst e; exact xg_name 5 sc__law_move.nd, fun X' ⟨_, _, _, _, _, e⟩ => ?_⟩
          subst e
          exact xe_callB T.min (xa_cons (xe_bin (xe_ix (xe_var 3) (xe_var 5) (ixo_list (atI_some (dI_get hi)))) xe_int bin_add) (xa_cons (xe_ix (xe_var 4) (xe_var 5) (ixo_list (atI_some (dI_get hi2)))) xa_nil)) (co_min rfl)
        · rw [← hcl']
          unfold tickC
          have hle : c.2.length = (capsF m).length := by rw [capsF_length]; exact C
          apply List.ext_getElem?
          intro i
          simp only [dI, List.map_map, List.getElem?_map]
          by_cases hi : i < c.2.length
          · rw [List.getElem?_range hi, List.getElem?_zip_eq_some (z := (c.2[i], (capsF m)[i]'(hle ▸ hi))) |>.mpr ⟨List.getElem?_eq_getElem hi, List.getElem?_eq_getElem (hle ▸ hi)⟩]
            simp only [Option.map_some, Function.comp]
            rw [List.getD_eq_getElem?_getD, List.getD_eq_getElem?_getD, List.getElem?_eq_getElem hi, List.getElem?_eq_getElem (hle ▸ hi)]
            rfl
          · rw [List.getElem?_eq_none (by rw [List.length_range]; omega), List.getElem?_eq_none (by rw [List.length_zip]; omega)]
            rfl
      · rw [List.length_map, hl2]
        exact Nat.le_trans M.nc (by decide)
    · have ht : item ≠ TICK := of_decide_eq_false h1
      refine XSs.is xss_nil ?_
      rw [← hcl]
      unfold clocksF
      rw [if_neg ht]
      rfl
  refine hst _ ?_
  unfold moveL stepF forbidsF
  rw [hcl]
  cases hq : ruleF m c.1 cl item with
  | none =>
    refine xss_cons (xs_for PassesOwn.never rfl (xi_tup (xe_ix (xe_var 0) xe_int (ixo_list rfl))) (o := .nx [some (dat_ (eP m)), some (dat_ (eF c)), some (str_ item), some (.own (dI cl)), none, none, none]) ?_) <| xss_freeze 3 <|
      xss_one (xs_ret (XE.is (xe_lst (xd_cons (xe_tup (xd_cons (xe_ix (xe_var 1) xe_int (ixo_tup rfl)) (xd_cons (xe_callT T.tuple (xa_cons (xe_var 3) xa_nil) co_tupL) xd_nil))) (xd_cons (xe_tup xd_nil) (xd_cons xe_bl xd_nil)))) rfl))
    refine forR_inv (fun r => Rs.dat (eR r)) (fun l ρ => ∃ o6, (∀ r ∈ l, r ∈ m.rules) ∧ l.find? (ruleIs c.1 cl item) = none ∧ ρ = [some (dat_ (eP m)), some (dat_ (eF c)), some (str_ item), some (.own (dI cl)), none, none, o6]) (map_dat _ _) ⟨none, fun r h => h, hq, rfl⟩ ?_ ?_
    · rintro ρ ⟨o6, _, _, rfl⟩
      exact ⟨_, by repeat constructor, rfl⟩
    · rintro r l ρ ⟨o6, hm, hn, rfl⟩
      have hp : ruleIs c.1 cl item r = false := by
        have := List.find?_eq_none.mp hn r (List.mem_cons_self ..)
        simpa using this
      refine ⟨_, _, _, Le.refl _, xg_name 6 sc__law_move.nd, .inl ⟨_, body r o6 _ (hm r (List.mem_cons_self ..)) (fun h => by rw [hp] at h; cases h) (fun t h => by rw [hp] at h; cases h) (fun _ => rfl), _, fun x hx => hm x (List.mem_cons_of_mem _ hx), ?_, rfl⟩⟩
      rw [List.find?_cons_of_neg (by rw [hp]; exact Bool.false_ne_true)] at hn
      exact hn
  | some r0 =>
    refine xss_ret (xs_for PassesOwn.never rfl (xi_tup (xe_ix (xe_var 0) xe_int (ixo_list rfl))) ?_)
    refine forR_inv (fun r => Rs.dat (eR r)) (fun l ρ => ∃ o6, (∀ r ∈ l, r ∈ m.rules) ∧ l.find? (ruleIs c.1 cl item) = some r0 ∧ ρ = [some (dat_ (eP m)), some (dat_ (eF c)), some (str_ item), some (.own (dI cl)), none, none, o6]) (map_dat _ _) ⟨none, fun r h => h, hq, rfl⟩ ?_ ?_
    · rintro ρ ⟨o6, _, h, rfl⟩
      cases h
    · rintro r l ρ ⟨o6, hm, hn, rfl⟩
      refine ⟨_, _, _, Le.refl _, xg_name 6 sc__law_move.nd, ?_⟩
      cases hp : ruleIs c.1 cl item r with
      | true =>
        rw [List.find?_cons_of_pos hp] at hn
        have e : r0 = r := (Option.some.inj hn).symm
        subst e
        exact .inr ⟨body r0 o6 _ (hm r0 (List.mem_cons_self ..)) (fun _ ht => by simp only [ht]; rfl) (fun t _ ht => by simp only [ht]; rfl) (fun h => by rw [hp] at h; cases h), fun ρ' z => nomatch z⟩
      | false =>
        rw [List.find?_cons_of_neg (by rw [hp]; exact Bool.false_ne_true)] at hn
        exact .inl ⟨_, body r o6 _ (hm r (List.mem_cons_self ..)) (fun h => by rw [hp] at h; cases h) (fun t h => by rw [hp] at h; cases h) (fun _ => rfl), _, fun x hx => hm x (List.mem_cons_of_mem _ hx), hn, rfl⟩
end
end LC
namespace LC
open PySem PySem.Spec PyProof.Rows L2

/-! ### sorted -/
def sLe (a b : Str) : Bool := !ltCps b.cps.toList a.cps.toList
theorem sLe_iff (a b : Str) : sLe a b = true ↔ a.cps.toList ≤ b.cps.toList := by
  unfold sLe
  rw [ltCps_eq, Bool.not_eq_true', decide_eq_false_iff_not, List.not_lt]
theorem sLe_trans (a b c : Str) (h : sLe a b = true) (h' : sLe b c = true) : sLe a c = true := (sLe_iff _ _).mpr (List.le_trans ((sLe_iff _ _).mp h) ((sLe_iff _ _).mp h'))
theorem sLe_total (a b : Str) : (sLe a b || sLe b a) = true := by
  rcases List.le_total a.cps.toList b.cps.toList with h | h
  · rw [(sLe_iff a b).mpr h]; rfl
  · rw [(sLe_iff b a).mpr h, Bool.or_true]
theorem sLe_anti (a b : Str) (h : sLe a b = true) (h' : sLe b a = true) : a = b := by
  have e := List.le_antisymm ((sLe_iff _ _).mp h) ((sLe_iff _ _).mp h')
  obtain ⟨⟨x⟩⟩ := a
  obtain ⟨⟨y⟩⟩ := b
  have e : x = y := e
  rw [e]
def srtS (xs : List Str) : List Str := xs.mergeSort sLe
theorem rising_pw : ∀ (l : List Str) (p : Str), risingS p l = true → (p :: l).Pairwise fun a b => sLe a b = true
  | [], p, _ => by simp
  | x :: r, p, h => by
    have h : sLe p x = true ∧ risingS x r = true := by
      have h : (sLe p x && risingS x r) = true := h
      simpa using h
    have q := rising_pw r x h.2
    refine List.pairwise_cons.mpr ⟨fun y hy => ?_, q⟩
    rcases List.mem_cons.mp hy with e | hy
    · rw [e]; exact h.1
    · exact sLe_trans _ _ _ h.1 ((List.pairwise_cons.mp q).1 y hy)
theorem sorted_pw : ∀ (l : List Str), sortedS l = true → l.Pairwise fun a b => sLe a b = true
  | [], _ => by simp
  | x :: r, h => rising_pw r x h
theorem srtS_uniq {xs ys : List Str} (p : ys.Perm xs) (h : sortedS ys = true) : ys = srtS xs :=
  List.Perm.eq_of_pairwise (le := fun a b => sLe a b = true) (fun a b _ _ => sLe_anti a b) (sorted_pw _ h) (List.pairwise_mergeSort sLe_trans sLe_total xs) (p.trans (List.mergeSort_perm xs sLe).symm)
theorem srtS_perm (xs : List Str) : (srtS xs).Perm xs := List.mergeSort_perm xs sLe
theorem srtS_eq {xs ys : List Str} : srtS xs = srtS ys ↔ xs.Perm ys := by
  refine ⟨fun h => (srtS_perm xs).symm.trans (h ▸ srtS_perm ys), fun h => ?_⟩
  exact List.Perm.eq_of_pairwise (le := fun a b => sLe a b = true) (fun a b _ _ => sLe_anti a b) (List.pairwise_mergeSort sLe_trans sLe_total xs) (List.pairwise_mergeSort sLe_trans sLe_total ys) ((srtS_perm xs).trans (h.trans (srtS_perm ys).symm))
theorem dt_strL {F : Hp} : ∀ {vs : List V} {xs : List Str}, DtAll F vs (dS xs) → vs = xs.map V.str
  | _, [], h => by cases h; rfl
  | _, x :: xs, h => by
    cases h with
    | cons a t =>
      cases a
      rw [dt_strL t]
      rfl
theorem dt_of_strL {F : Hp} : ∀ xs : List Str, DtAll F (xs.map V.str) (dS xs)
  | [] => .nil
  | x :: xs => .cons (.str x) (dt_of_strL xs)
theorem co_srtS {G : Gd} {X : Cx} {xs : List Str} : CallOk G X (.builtin "sorted") [.dat (.list (dS xs))] (.own (dS (srtS xs))) := ⟨_, cr_srtS, fun vs H F z t h Q k => by
  obtain ⟨v, rfl, a⟩ := rsAll1 h
  cases a with
  | lst hs ha =>
    rw [dt_strL ha] at hs
    refine ⟨_, xs, rfl, SqL.of (z.same _ _ hs), fun ys p hp hsr hn => ?_⟩
    rw [srtS_uniq hp hsr]
    exact k _ _ _ (.lst z t hn (dt_of_strL _))⟩
theorem eqvAll_strs : ∀ a b : List Str, PyData.eqvAll (dS a) (dS b) = decide (a = b)
  | [], [] => rfl
  | [], _ :: _ => rfl
  | _ :: _, [] => rfl
  | x :: a, y :: b => by
    show (PyData.eqv (.str x) (.str y) && PyData.eqvAll (dS a) (dS b)) = _
    rw [eqvAll_strs a b]
    have e : PyData.eqv (.str x) (.str y) = decide (x = y) := by
      unfold PyData.eqv
      by_cases h : x = y
      · subst h; simp
      · rw [decide_eq_false h]; simp [h]
    rw [e]
    by_cases h : x = y
    · subst h
      simp
    · simp [h]
theorem eqv_listS (a b : List Str) : PyData.eqv (.list (dS a)) (.list (dS b)) = decide (a = b) := (by unfold PyData.eqv; rfl : PyData.eqv (.list (dS a)) (.list (dS b)) = PyData.eqvAll (dS a) (dS b)).trans (eqvAll_strs a b)
theorem okS_perm {a b : List Str} (h : okS a) (p : b.Perm a) : okS b := fun s hs => h s (p.subset hs)
def lookF (v : Str) (a b : List Str) : Bool := if v = ("ignored" : Str) then true else if v = ("unordered" : Str) then decide (srtS a = srtS b) else decide (a = b)
/-! ### written -/
def wr1 (acc : List (List Str)) (g : Int × Str) : List (List Str) := acc.set g.1.toNat (acc.getD g.1.toNat [] ++ [g.2])
def wrFrom (m : Mc) : Cf → List (List Str) → List Str → List (List Str)
  | _, acc, [] => acc
  | c, acc, i :: is => wrFrom m (stepF m c i).1 ((stepF m c i).2.foldl wr1 acc) is
def writtenF (m : Mc) (items : List Str) : List (List Str) := wrFrom m (startF m) (List.replicate m.chans.length []) items
theorem stepF_si {m : Mc} (M : m.Ok) (c : Cf) (item : Str) : ∀ x ∈ (stepF m c item).2, 0 ≤ x.1 ∧ x.1 < (m.chans.length : Int) := by
  unfold stepF
  split
  · intro x h; cases h
  · rename_i r hr
    split
    · intro x h; cases h
    · exact M.si _ (ruleF_mem hr)
theorem stepF_so {m : Mc} (M : m.Ok) (c : Cf) (item : Str) : ∀ x ∈ (stepF m c item).2, PyData.strOk x.2 = true := by
  unfold stepF
  split
  · intro x h; cases h
  · rename_i r hr
    split
    · intro x h; cases h
    · exact M.so _ (ruleF_mem hr)
theorem wr1_length (acc : List (List Str)) (g : Int × Str) : (wr1 acc g).length = acc.length := List.length_set
theorem wr1_mem {acc : List (List Str)} {g : Int × Str} {n : Nat} (h : ∀ x ∈ acc, x.length ≤ n) : ∀ x ∈ wr1 acc g, x.length ≤ n + 1 := fun x hx => by
  unfold wr1 at hx
  rcases List.mem_or_eq_of_mem_set hx with hx | e
  · exact Nat.le_succ_of_le (h x hx)
  · rw [e, List.length_append, List.length_singleton, List.getD_eq_getElem?_getD]
    cases e2 : acc[g.1.toNat]? with
    | none => exact Nat.succ_le_succ (Nat.zero_le _)
    | some y => exact Nat.succ_le_succ (h y (List.mem_of_getElem? e2))
section
variable {P : Program} {w : World} {K : PySem.W.Frag} {mg : Str → Option Value} {base : Heap}
theorem sc__law_looks_same : FnScope ["_law_view", "_law_first", "_law_second"] ["_law_view", "_law_first", "_law_second"] (defScope s__law_looks_same) := ⟨rfl, rfl, rfl, by decide +kernel, rfl, by decide +kernel, by decide +kernel⟩
theorem C__law_looks_same (T : Wd K mg) : FnG (gd K) P w K mg base 1 "_law_looks_same" 3 (fun rs en => ∃ (v : Str) (a b : List Str), okS a ∧ okS b ∧ rs = [.dat (.str v), .dat (.list (dS a)), .dat (.list (dS b))] ∧ en = bl_ (lookF v a b)) := by
  obtain ⟨fd, F⟩ := T.df 41 (d := d__law_looks_same)
  refine fnG_of F sc__law_looks_same (T.glo 41) (fun _ _ _ _ _ _ us hl => match us, hl with | [_, _, _], _ => rfl) fun cdv A outer s H E hr rs en hl hφ => ⟨_, .inl rfl, ?_⟩
  obtain ⟨v, a, b, ha, hb, rfl, rfl⟩ := hφ
  unfold lookF
  by_cases h1 : v = ("ignored" : Str)
  · rw [if_pos h1]
    exact xss_ret (xs_if (xt_cmp (xe_var 0) xe_str bin_eqS) (fun h => xss_one (xs_ret xe_bl)) (fun h => absurd h1 (of_decide_eq_false h)))
  rw [if_neg h1]
  refine xss_cons (xs_if (xt_cmp (xe_var 0) xe_str bin_eqS) (fun h => absurd (of_decide_eq_true h) h1) (fun h => xss_nil)) ?_
  by_cases h2 : v = ("unordered" : Str)
  · rw [if_pos h2]
    exact xss_ret (xs_if (xt_cmp (xe_var 0) xe_str bin_eqS) (fun h => xss_one (xs_ret (XE.is (xe_cmp (xe_fr (xe_callB T.sorted (xa_cons (xe_var 1) xa_nil) co_srtS)) (xe_fr (xe_callB T.sorted (xa_cons (xe_var 2) xa_nil) co_srtS)) (bin_eqD hr.units (shp_lst (shp_dS (okS_perm ha (srtS_perm a)) 0)).ok (shp_lst (shp_dS (okS_perm hb (srtS_perm b)) 0)).ok)) (by rw [eqv_listS])))) (fun h => absurd h2 (of_decide_eq_false h)))
  rw [if_neg h2]
  refine xss_cons (xs_if (xt_cmp (xe_var 0) xe_str bin_eqS) (fun h => absurd (of_decide_eq_true h) h2) (fun h => xss_nil)) ?_
  exact xss_one (xs_ret (XE.is (xe_cmp (xe_var 1) (xe_var 2) (bin_eqD hr.units (shp_lst (shp_dS ha 0)).ok (shp_lst (shp_dS hb 0)).ok)) (by rw [eqv_listS])))
theorem sc__law_written : FnScope ["_law_parts_here", "_law_items", "_law_place", "_law_written_here", "_law_channel", "_law_item", "_law_moved", "_law_signal"] ["_law_parts_here", "_law_items"] (defScope s__law_written) := ⟨rfl, rfl, rfl, by decide +kernel, rfl, by decide +kernel, by decide +kernel⟩
theorem C__law_written (T : Wd K mg) : FnG (gd K) P w K mg base 3 "_law_written" 2 (fun rs en => ∃ (m : Mc) (items : List Str), m.Ok ∧ items.length ≤ 5000 ∧ rs = [.dat (eP m), .dat (.list (dS items))] ∧ en = .rs (.dat (.list ((writtenF m items).map fun l => .list (dS l))))) := by
  obtain ⟨fd, F⟩ := T.df 40 (d := d__law_written)
  refine fnG_of F sc__law_written (T.glo 40) (fun _ _ _ _ _ _ us hl => match us, hl with | [_, _], _ => rfl) fun cdv A outer s H E hr rs en hl hφ => ⟨_, .inl rfl, ?_⟩
  obtain ⟨m, items, M, z, rfl, rfl⟩ := hφ
  refine xss_cons (xs_set 2 (xe_call (C__law_begin T) (hr.mono (by decide)) (xa_cons (xe_var 0) xa_nil) ⟨m, M, rfl, rfl⟩) sc__law_written.nd) <|
    xss_cons (xs_setLc2 (dss := (List.replicate m.chans.length ([] : List Str)).map dS) ?_ 3 [("_law_channel", 4)] rfl sc__law_written.nd (bk ["_law_parts_here", "_law_items", "_law_place", "_law_written_here", "_law_channel", "_law_item", "_law_moved", "_law_signal"] s__law_written) (xi_tup (xe_ix (xe_var 0) xe_int (ixo_list rfl))) ?_ ?_ (sw_true rfl rfl rfl (by decide +kernel))) <|
    xss_cons (xs_for PassesOwn.never rfl (xi_list (xe_var 1)) (o := .nx [some (dat_ (eP m)), some (lst_ (dS items)), none, some (.own2 ((writtenF m items).map dS)), none, none, none, none]) ?_) <|
    xss_freeze2 3 <| xss_one (xs_ret (XE.is (xe_var 3) ?_))
  · simp
  · exact fun r hr => ⟨_, fun X' ⟨_, _, _, _, _, e⟩ => by subst e; exact xg_name 4 sc__law_written.nd, fun X' ⟨_, _, _, _, _, e⟩ => by subst e; exact xe_lst xd_nil⟩
  · rw [List.length_map, List.length_map]
    exact Nat.le_trans M.nh (by decide)
  · refine forR_inv (fun x => Rs.dat (.str x)) (fun l ρ => ∃ c acc o4 o5 o6 o7, Cf.Ok m c ∧ acc.length = m.chans.length ∧ (∀ x ∈ acc, x.length + 8 * l.length ≤ 40000) ∧ wrFrom m c acc l = writtenF m items ∧ ρ = [some (dat_ (eP m)), some (lst_ (dS items)), some (dat_ (eF c)), some (.own2 (acc.map dS)), o4, o5, o6, o7])
      (map_dat _ _) ⟨startF m, List.replicate m.chans.length [], none, none, none, none, List.length_map _, List.length_replicate, fun x hx => ?_, rfl, rfl⟩ ?_ ?_
    · rw [(List.mem_replicate.mp hx).2]
      simp only [List.length_nil]
      omega
    · rintro ρ ⟨c, acc, o4, o5, o6, o7, _, _, _, e, rfl⟩
      have e : acc = writtenF m items := e
      subst e
      exact ⟨_, by repeat constructor, rfl⟩
    · rintro it l ρ ⟨c, acc, o4, o5, o6, o7, hc, hl, hz, e, rfl⟩
      refine ⟨_, _, _, Le.refl _, xg_name 5 sc__law_written.nd, .inl ⟨[some (dat_ (eP m)), some (lst_ (dS items)), some (dat_ (eF (stepF m c it).1)), some (.own2 (((stepF m c it).2.foldl wr1 acc).map dS)), none, none, none, none], ?_, _, _, _, _, _, _, stepF_ok hc it, ?_, ?_, e, rfl⟩⟩
      · refine xss_cons (xs_set 6 (xe_call (C__law_move T) (hr.mono (by decide)) (xa_cons (xe_var 0) (xa_cons (xe_var 2) (xa_cons (xe_var 5) xa_nil))) ⟨m, c, it, M, hc, rfl, rfl⟩) sc__law_written.nd) <| xss_freeze 6 <|
          xss_cons (xs_set 2 (xe_ix (xe_var 6) xe_int (ixo_list rfl)) sc__law_written.nd) <|
          xss_one (xs_for PassesOwn.never rfl (xi_tup (xe_ix (xe_var 6) xe_int (ixo_list (d := .tuple ((stepF m c it).2.map eG)) rfl))) ?_)
        refine forR_inv (fun x => Rs.dat (eG x)) (fun l' ρ => ∃ acc' o4 o5 o6 o7, acc'.length = m.chans.length ∧ (∀ x ∈ acc', x.length + l'.length + 8 * l.length ≤ 40000) ∧ l'.foldl wr1 acc' = (stepF m c it).2.foldl wr1 acc ∧ (∀ g ∈ l', g ∈ (stepF m c it).2) ∧ ρ = [some (dat_ (eP m)), some (lst_ (dS items)), some (dat_ (eF (stepF m c it).1)), some (.own2 (acc'.map dS)), o4, o5, o6, o7])
          (map_dat _ _) ⟨acc, o4, some (dat_ (.str it)), some (lst_ (moveL m c it)), o7, hl, fun x hx => ?_, rfl, fun g h => h, rfl⟩ ?_ ?_
        · have h1 := hz x hx
          have h2 := stepF_sigs M c it
          rw [List.length_cons] at h1
          omega
        · rintro ρ ⟨acc', o4, o5, o6, o7, _, _, e', _, rfl⟩
          have e' : acc' = (stepF m c it).2.foldl wr1 acc := e'
          subst e'
          exact ⟨_, by repeat constructor, rfl⟩
        · rintro g l' ρ ⟨acc', o4, o5, o6, o7, hl', hz', e', hm', rfl⟩
          obtain ⟨g0, g1⟩ := stepF_si M c it g (hm' g (List.mem_cons_self ..))
          have gl : g.1.toNat < acc'.length := by rw [hl']; omega
          refine ⟨_, _, _, Le.refl _, xg_name 7 sc__law_written.nd, .inl ⟨_, xss_one (xs_append2 3 (ds := dS (acc'.getD g.1.toNat [])) (xe_ix (xe_var 7) xe_int (ixo_tup rfl)) (xe_ix (xe_var 7) xe_int (ixo_tup rfl)) (ixN_ok (n := (acc'.map dS).length) g0 (by rw [List.length_map]; omega)) ?_ ?_), wr1 acc' g, o4, o5, o6, some (dat_ (eG g)), (wr1_length _ _).trans hl', fun x hx => ?_, e', fun x hx => hm' x (List.mem_cons_of_mem _ hx), ?_⟩⟩
          · rw [List.getElem?_map, List.getD_eq_getElem?_getD, List.getElem?_eq_getElem gl]
            rfl
          · rw [List.length_map, List.getD_eq_getElem?_getD, List.getElem?_eq_getElem gl]
            have := hz' _ (List.getElem_mem gl)
            show (acc'[g.1.toNat]).length < _
            omega
          · have := wr1_mem (g := g) (n := 40000 - (l'.length + 1 + 8 * l.length)) (fun y hy => by have := hz' y hy; rw [List.length_cons] at this; omega) x hx
            have h9 := hz' _ (List.getElem_mem gl)
            rw [List.length_cons] at h9
            omega
          · simp only [wr1, List.map_set, List.map_append]
            rfl
      · have : ∀ (gs : List (Int × Str)) (a : List (List Str)), (gs.foldl wr1 a).length = a.length := by
          intro gs
          induction gs with
          | nil => intro a; rfl
          | cons g gs ih => intro a; exact (ih _).trans (wr1_length _ _)
        rw [this]
        exact hl
      · have : ∀ (gs : List (Int × Str)) (a : List (List Str)) (n : Nat), (∀ x ∈ a, x.length ≤ n) → ∀ x ∈ gs.foldl wr1 a, x.length ≤ n + gs.length := by
          intro gs
          induction gs with
          | nil => intro a n h; exact h
          | cons g gs ih =>
            intro a n h x hx
            have := ih _ (n + 1) (wr1_mem h) x hx
            rw [List.length_cons]
            omega
        intro x hx
        have h1 := this (stepF m c it).2 acc (40000 - (8 * l.length + 8)) (fun y hy => by have := hz y hy; rw [List.length_cons] at this; omega) x hx
        have h2 := stepF_sigs M c it
        by_cases h0 : acc = []
        · subst h0
          have : ∀ (gs : List (Int × Str)), gs.foldl wr1 [] = [] := by
            intro gs
            induction gs with
            | nil => rfl
            | cons g gs ih => exact ih
          rw [this] at hx
          cases hx
        · obtain ⟨y, ys, rfl⟩ := List.exists_cons_of_ne_nil h0
          have := hz y (List.mem_cons_self ..)
          rw [List.length_cons] at this
          omega
  · rw [List.map_map]
    rfl
end
end LC
namespace LC
open PySem PySem.Spec PyProof.Rows L2

structure Pl.Ok (q : Pl) : Prop where
  p : q.prog.Ok
  t : q.traf.Ok
  v : q.views.length = q.prog.chans.length
  q0 : 0 ≤ q.quiet
  q1 : q.quiet ≤ 60
theorem lfs_dS : ∀ l : List Str, lf.lfs (dS l) = true
  | [] => rfl
  | _ :: l => lfs_dS l
theorem ticks_rng (n : Nat) : ((List.range n).map fun _ => PyData.str TICK) = dS (List.replicate n TICK) := by
  rw [List.map_const', List.length_range]
  exact List.map_replicate.symm
theorem wrFrom_length (m : Mc) : ∀ (l : List Str) (c : Cf) (acc : List (List Str)), (wrFrom m c acc l).length = acc.length
  | [], _, _ => rfl
  | i :: l, c, acc => by
    show (wrFrom m _ _ l).length = _
    rw [wrFrom_length m l]
    generalize (stepF m c i).2 = gs
    induction gs generalizing acc with
    | nil => rfl
    | cons g gs ih => exact (ih _).trans (wr1_length _ _)
theorem writtenF_length (m : Mc) (l : List Str) : (writtenF m l).length = m.chans.length := (wrFrom_length m l _ _).trans List.length_replicate
theorem wr1_okS {acc : List (List Str)} {g : Int × Str} (hg : PyData.strOk g.2 = true) (h : ∀ x ∈ acc, okS x) : ∀ x ∈ wr1 acc g, okS x := fun x hx => by
  unfold wr1 at hx
  rcases List.mem_or_eq_of_mem_set hx with hx | e
  · exact h x hx
  · rw [e]
    intro s hs
    rcases List.mem_append.mp hs with hs | hs
    · rw [List.getD_eq_getElem?_getD] at hs
      cases e2 : acc[g.1.toNat]? with
      | none => rw [e2] at hs; cases hs
      | some y => rw [e2] at hs; exact h y (List.mem_of_getElem? e2) s hs
    · rw [List.mem_singleton.mp hs]; exact hg
theorem wrs_okS : ∀ (gs : List (Int × Str)) {acc : List (List Str)}, (∀ g ∈ gs, PyData.strOk g.2 = true) → (∀ x ∈ acc, okS x) → ∀ x ∈ gs.foldl wr1 acc, okS x
  | [], _, _, h => h
  | g :: gs, _, hg, h => wrs_okS gs (fun x hx => hg x (List.mem_cons_of_mem _ hx)) (wr1_okS (hg g (List.mem_cons_self ..)) h)
theorem wrFrom_okS {m : Mc} (M : m.Ok) : ∀ (l : List Str) (c : Cf) (acc : List (List Str)), (∀ x ∈ acc, okS x) → ∀ x ∈ wrFrom m c acc l, okS x
  | [], _, _, h => h
  | i :: l, c, acc, h => wrFrom_okS M l _ _ (wrs_okS _ (stepF_so M c i) h)
theorem writtenF_okS {m : Mc} (M : m.Ok) (l : List Str) : ∀ x ∈ writtenF m l, okS x := wrFrom_okS M l _ _ fun x hx => by
  rw [(List.mem_replicate.mp hx).2]
  intro s hs
  cases hs
def sameF (p : Pl) (a b : List Str) : Bool := (List.range p.views.length).all fun k => lookF (p.views.getD k "") ((writtenF p.prog (a ++ List.replicate p.quiet.toNat TICK)).getD k []) ((writtenF p.prog (b ++ List.replicate p.quiet.toNat TICK)).getD k [])
/-! ### polled -/
abbrev LpS := List Str × List Str × Int
def lpStep (n : Nat) (per off : Int) (s : LpS) (x : Str × Nat) : LpS :=
  if x.1 = TICK then
    (if x.2 < n ∨ 0 < s.2.1.length then (if (s.2.2 + 1 - off) % per = 0 then (s.1 ++ s.2.1 ++ [TICK], [], s.2.2 + 1) else (s.1 ++ [TICK], s.2.1, s.2.2 + 1)) else s)
  else (s.1, s.2.1 ++ [x.1], s.2.2)
def lawPolledF (items : List Str) (per off : Int) : List Str := ((items ++ List.replicate 62 TICK).zipIdx.foldl (lpStep items.length per off) ([], [], 0)).1
def permF (m : Mc) : Cf → List Str → Bool
  | _, [] => true
  | c, i :: is => !forbidsF m c i && permF m (stepF m c i).1 is
section
variable {P : Program} {w : World} {K : PySem.W.Frag} {mg : Str → Option Value} {base : Heap}
theorem sc__law_same : FnScope ["_law_plan_here", "_law_sent_here", "_law_received", "_law_quiet", "_law_k", "_law_first", "_law_second"] ["_law_plan_here", "_law_sent_here", "_law_received"] (defScope s__law_same) := ⟨rfl, rfl, rfl, by decide +kernel, rfl, by decide +kernel, by decide +kernel⟩
theorem C__law_same (T : Wd K mg) : FnG (gd K) P w K mg base 4 "_law_same" 3 (fun rs en => ∃ (p : Pl) (a b : List Str), p.Ok ∧ a.length ≤ 4000 ∧ b.length ≤ 4000 ∧ rs = [.dat (ePlan p), .dat (.list (dS a)), .dat (.list (dS b))] ∧ en = bl_ (sameF p a b)) := by
  obtain ⟨fd, F⟩ := T.df 42 (d := d__law_same)
  refine fnG_of F sc__law_same (T.glo 42) (fun _ _ _ _ _ _ us hl => match us, hl with | [_, _, _], _ => rfl) fun cdv A outer s H E hr rs en hl hφ => ⟨_, .inl rfl, ?_⟩
  obtain ⟨p, a, b, O, za, zb, rfl, rfl⟩ := hφ
  have hq0 := O.q0
  have hq1 := O.q1
  have hv := Nat.le_trans (Nat.le_of_eq O.v) O.p.nh
  generalize hA : writtenF p.prog (a ++ List.replicate p.quiet.toNat TICK) = A1
  generalize hB : writtenF p.prog (b ++ List.replicate p.quiet.toNat TICK) = B1
  have lA : A1.length = p.views.length := by rw [← hA, writtenF_length, O.v]
  have lB : B1.length = p.views.length := by rw [← hB, writtenF_length, O.v]
  have oA : ∀ x ∈ A1, okS x := hA ▸ writtenF_okS O.p _
  have oB : ∀ x ∈ B1, okS x := hB ▸ writtenF_okS O.p _
  have pre : ∀ (o : Out), XSs (gd K) (bx P w K mg base ["_law_plan_here", "_law_sent_here", "_law_received", "_law_quiet", "_law_k", "_law_first", "_law_second"] d__law_same.qual d__law_same.scope (He.fAd K d__law_same.at_) cdv A outer s H E) (fun _ => False)
        (match s__law_same with | .FunctionDef _ _ (_ :: _ :: _ :: b) _ _ _ _ _ _ _ => b | _ => []) [some (dat_ (ePlan p)), some (lst_ (dS a)), some (lst_ (dS b)), some (lst_ (dS (List.replicate p.quiet.toNat TICK))), none, some (lst_ (A1.map fun l => .list (dS l))), some (lst_ (B1.map fun l => .list (dS l)))] o →
      XSs (gd K) (bx P w K mg base ["_law_plan_here", "_law_sent_here", "_law_received", "_law_quiet", "_law_k", "_law_first", "_law_second"] d__law_same.qual d__law_same.scope (He.fAd K d__law_same.at_) cdv A outer s H E) (fun _ => False)
        (match s__law_same with | .FunctionDef _ _ b _ _ _ _ _ _ _ => b | _ => []) (ro ["_law_plan_here", "_law_sent_here", "_law_received", "_law_quiet", "_law_k", "_law_first", "_law_second"] [.dat (ePlan p), .dat (.list (dS a)), .dat (.list (dS b))]) o := by
    intro o h
    refine xss_cons (xs_setLc 3 [("_law_k", 4)] rfl sc__law_same.nd (bk ["_law_plan_here", "_law_sent_here", "_law_received", "_law_quiet", "_law_k", "_law_first", "_law_second"] s__law_same) (xi_range (xe_ix (xe_var 0) xe_int (ixo_list rfl)) (by omega) (by omega) T.range) (ds := dS (List.replicate p.quiet.toNat TICK)) ?_ ?_ (sw_true rfl rfl rfl (by decide +kernel))) <| xss_freeze 3 <|
      xss_cons (xs_set 5 (xe_call (C__law_written T) (hr.mono (by decide)) (xa_cons (xe_ix (xe_var 0) xe_int (ixo_list rfl)) (xa_cons (xe_fr (XE.is (xe_bin (xe_var 1) (xe_var 3) (bin_cat ?_)) (congrArg En.own (List.map_append ..).symm))) xa_nil)) ⟨p.prog, a ++ List.replicate p.quiet.toNat TICK, O.p, ?_, rfl, by rw [hA]⟩) sc__law_same.nd) <|
      xss_cons (xs_set 6 (xe_call (C__law_written T) (hr.mono (by decide)) (xa_cons (xe_ix (xe_var 0) xe_int (ixo_list rfl)) (xa_cons (xe_fr (XE.is (xe_bin (xe_var 2) (xe_var 3) (bin_cat ?_)) (congrArg En.own (List.map_append ..).symm))) xa_nil)) ⟨p.prog, b ++ List.replicate p.quiet.toNat TICK, O.p, ?_, rfl, by rw [hB]⟩) sc__law_same.nd) <| h
    · refine LcR.rs (lcR_map (fun (i : Nat) => Rs.dat (.int (i : Int))) (fun (_ : Nat) => PyData.str TICK) (List.range p.quiet.toNat) fun i hi => ?_) rfl (ticks_rng _)
      exact ⟨_, fun X' ⟨_, _, _, _, _, e⟩ => by subst e; exact xg_name 4 sc__law_same.nd, fun X' ⟨_, _, _, _, _, e⟩ => by subst e; exact xe_str⟩
    · rw [List.length_map, List.length_replicate]; omega
    · rw [List.length_map, List.length_map, List.length_replicate]; omega
    · rw [List.length_append, List.length_replicate]; omega
    · rw [List.length_map, List.length_map, List.length_replicate]; omega
    · rw [List.length_append, List.length_replicate]; omega
  refine pre _ ?_
  have hsame : sameF p a b = (List.range p.views.length).all fun k => lookF (p.views.getD k "") (A1.getD k []) (B1.getD k []) := by
    unfold sameF
    rw [hA, hB]
  rw [hsame]
  have test : ∀ k < p.views.length, XT (gd K) (bx P w K mg base ["_law_plan_here", "_law_sent_here", "_law_received", "_law_quiet", "_law_k", "_law_first", "_law_second"] d__law_same.qual d__law_same.scope (He.fAd K d__law_same.at_) cdv A outer s H E)
      (match s__law_same with | .FunctionDef _ _ (_ :: _ :: _ :: .For _ _ (.If c _ _ _ :: _) _ _ :: _) _ _ _ _ _ _ _ => c | _ => .Constant .none 0 default) [some (dat_ (ePlan p)), some (lst_ (dS a)), some (lst_ (dS b)), some (lst_ (dS (List.replicate p.quiet.toNat TICK))), some (int_ (k : Int)), some (lst_ (A1.map fun l => .list (dS l))), some (lst_ (B1.map fun l => .list (dS l)))]
      (!lookF (p.views.getD k "") (A1.getD k []) (B1.getD k [])) := by
    intro k hk
    refine xt_not (xt_val (xe_call (C__law_looks_same T) (hr.mono (by decide)) (xa_cons (xe_ix (xe_ix (xe_var 0) xe_int (ixo_list rfl)) (xe_var 4) (ixo_list (atI_map PyData.str p.views k "" hk))) (xa_cons (xe_ix (xe_var 5) (xe_var 4) (ixo_list (atI_map (fun l => PyData.list (dS l)) A1 k [] (by omega)))) (xa_cons (xe_ix (xe_var 6) (xe_var 4) (ixo_list (atI_map (fun l => PyData.list (dS l)) B1 k [] (by omega)))) xa_nil))) ⟨_, _, _, ?_, ?_, rfl, rfl⟩))
    · rw [List.getD_eq_getElem?_getD, List.getElem?_eq_getElem (by omega)]
      exact oA _ (List.getElem_mem _)
    · rw [List.getD_eq_getElem?_getD, List.getElem?_eq_getElem (by omega)]
      exact oB _ (List.getElem_mem _)
  have hrng : rng ((dS p.views).length : Int) = (List.range p.views.length).map fun (i : Nat) => Rs.dat (.int (i : Int)) := by
    unfold rng
    rw [List.length_map]
    rfl
  cases ha : (List.range p.views.length).all fun k => lookF (p.views.getD k "") (A1.getD k []) (B1.getD k []) with
  | true =>
    refine xss_cons (xs_for PassesOwn.never rfl (xi_range (xe_callB T.len (xa_cons (xe_ix (xe_var 0) xe_int (ixo_list rfl)) xa_nil) co_lenL) (by omega) (by rw [List.length_map]; omega) T.range) (o := .nx [some (dat_ (ePlan p)), some (lst_ (dS a)), some (lst_ (dS b)), some (lst_ (dS (List.replicate p.quiet.toNat TICK))), none, some (lst_ (A1.map fun l => .list (dS l))), some (lst_ (B1.map fun l => .list (dS l)))]) ?_) <| xss_one (xs_ret xe_bl)
    refine forR_inv (fun (i : Nat) => Rs.dat (.int (i : Int))) (fun l ρ => ∃ o4, (∀ k ∈ l, k < p.views.length) ∧ ρ = [some (dat_ (ePlan p)), some (lst_ (dS a)), some (lst_ (dS b)), some (lst_ (dS (List.replicate p.quiet.toNat TICK))), o4, some (lst_ (A1.map fun l => .list (dS l))), some (lst_ (B1.map fun l => .list (dS l)))]) hrng ⟨none, fun k hk => List.mem_range.mp hk, rfl⟩ ?_ ?_
    · rintro ρ ⟨o4, _, rfl⟩
      exact ⟨_, by repeat constructor, rfl⟩
    · rintro k l ρ ⟨o4, hm, rfl⟩
      have hk := hm k (List.mem_cons_self ..)
      refine ⟨_, _, _, Le.refl _, xg_name 4 sc__law_same.nd, .inl ⟨_, xss_one (xs_if (test k hk) (fun h => ?_) (fun h => xss_nil)), _, fun x hx => hm x (List.mem_cons_of_mem _ hx), rfl⟩⟩
      rw [List.all_eq_true.mp ha k (List.mem_range.mpr hk)] at h
      cases h
  | false =>
    refine xss_ret (xs_for PassesOwn.never rfl (xi_range (xe_callB T.len (xa_cons (xe_ix (xe_var 0) xe_int (ixo_list rfl)) xa_nil) co_lenL) (by omega) (by rw [List.length_map]; omega) T.range) ?_)
    refine forR_inv (fun (i : Nat) => Rs.dat (.int (i : Int))) (fun l ρ => ∃ o4, (∀ k ∈ l, k < p.views.length) ∧ (l.all fun k => lookF (p.views.getD k "") (A1.getD k []) (B1.getD k [])) = false ∧ ρ = [some (dat_ (ePlan p)), some (lst_ (dS a)), some (lst_ (dS b)), some (lst_ (dS (List.replicate p.quiet.toNat TICK))), o4, some (lst_ (A1.map fun l => .list (dS l))), some (lst_ (B1.map fun l => .list (dS l)))]) hrng ⟨none, fun k hk => List.mem_range.mp hk, ha, rfl⟩ ?_ ?_
    · rintro ρ ⟨o4, _, h, rfl⟩
      cases h
    · rintro k l ρ ⟨o4, hm, hf, rfl⟩
      have hk := hm k (List.mem_cons_self ..)
      refine ⟨_, _, _, Le.refl _, xg_name 4 sc__law_same.nd, ?_⟩
      cases hh : lookF (p.views.getD k "") (A1.getD k []) (B1.getD k []) with
      | true =>
        refine .inl ⟨_, xss_one (xs_if (test k hk) (fun h => ?_) (fun h => xss_nil)), _, fun x hx => hm x (List.mem_cons_of_mem _ hx), ?_, rfl⟩
        · rw [hh] at h
          cases h
        · rw [List.all_cons, hh, Bool.true_and] at hf
          exact hf
      | false =>
        refine .inr ⟨xss_one (xs_if (test k hk) (fun h => xss_one (xs_ret xe_bl)) (fun h => ?_)), fun ρ' z => nomatch z⟩
        rw [hh] at h
        cases h
end
end LC
namespace LC
open PySem PySem.Spec PyProof.Rows L2

theorem dS_snoc (l : List Str) (x : Str) : dS l ++ [PyData.str x] = dS (l ++ [x]) := (List.map_append (f := PyData.str) (l₁ := l) (l₂ := [x])).symm
theorem lpFold_le (n : Nat) (per off : Int) : ∀ (l : List (Str × Nat)) (s : LpS), (l.foldl (lpStep n per off) s).1.length + (l.foldl (lpStep n per off) s).2.1.length ≤ s.1.length + s.2.1.length + l.length
  | [], s => Nat.le_refl _
  | x :: l, s => by
    have h := lpFold_le n per off l (lpStep n per off s x)
    have h2 : (lpStep n per off s x).1.length + (lpStep n per off s x).2.1.length ≤ s.1.length + s.2.1.length + 1 := by
      unfold lpStep
      repeat' split
      all_goals (try simp only [List.length_append, List.length_singleton, List.length_nil])
      all_goals omega
    rw [List.foldl_cons, List.length_cons]
    omega
theorem lawPolledF_le (items : List Str) (per off : Int) : (lawPolledF items per off).length ≤ items.length + 62 := by
  have h := lpFold_le items.length per off (items ++ List.replicate 62 TICK).zipIdx ([], [], 0)
  rw [List.length_zipIdx, List.length_append, List.length_replicate] at h
  simp only [List.length_nil] at h
  unfold lawPolledF
  omega
section
variable {P : Program} {w : World} {K : PySem.W.Frag} {mg : Str → Option Value} {base : Heap}
theorem sc__law_polled : FnScope ["_law_items", "_law_period", "_law_offset", "_law_heard", "_law_waiting", "_law_ticks", "_law_rest", "_law_k"] ["_law_items", "_law_period", "_law_offset"] (defScope s__law_polled) := ⟨rfl, rfl, rfl, by decide +kernel, rfl, by decide +kernel, by decide +kernel⟩
theorem C__law_polled (T : Wd K mg) : FnG (gd K) P w K mg base 1 "_law_polled" 3 (fun rs en => ∃ (items : List Str) (per off : Int), 0 < per ∧ items.length ≤ 4000 ∧ rs = [.dat (.list (dS items)), .dat (.int per), .dat (.int off)] ∧ en = .own (dS (lawPolledF items per off))) := by
  obtain ⟨fd, F⟩ := T.df 43 (d := d__law_polled)
  refine fnG_of F sc__law_polled (T.glo 43) (fun _ _ _ _ _ _ us hl => match us, hl with | [_, _, _], _ => rfl) fun cdv A outer s H E hr rs en hl hφ => ⟨_, .inl rfl, ?_⟩
  obtain ⟨items, per, off, hp, z, rfl, rfl⟩ := hφ
  generalize hR : items ++ List.replicate 62 TICK = rest
  have lR : rest.length = items.length + 62 := by rw [← hR, List.length_append, List.length_replicate]
  refine xss_cons (xs_set 3 (xe_lst xd_nil) sc__law_polled.nd) <| xss_cons (xs_set 4 (xe_lst xd_nil) sc__law_polled.nd) <| xss_cons (xs_set 5 xe_int sc__law_polled.nd) <|
    xss_cons (xs_set 6 (XE.is (xe_bin (xe_fr (xe_callT T.list (xa_cons (xe_var 0) xa_nil) co_listL)) (xe_fr (xe_lc [("_law_k", 7)] rfl sc__law_polled.nd (bk ["_law_items", "_law_period", "_law_offset", "_law_heard", "_law_waiting", "_law_ticks", "_law_rest", "_law_k"] s__law_polled) (xi_range xe_int (by decide) (by decide) T.range) (ds := dS (List.replicate 62 TICK)) ?_ ?_)) (bin_cat ?_)) (en' := .own (dS rest)) ?_) sc__law_polled.nd) <| xss_freeze 6 (ds := dS rest) <|
    xss_cons (xs_for PassesOwn.never rfl (xi_range (xe_callB T.len (xa_cons (xe_var 6) xa_nil) co_lenL) (by omega) (by rw [List.length_map]; omega) T.range) (o := .nx [some (lst_ (dS items)), some (int_ per), some (int_ off), some (.own (dS (lawPolledF items per off))), none, none, some (lst_ (dS rest)), none]) ?_) <|
    xss_one (xs_retOwn 3)
  · refine LcR.rs (lcR_map (fun (i : Nat) => Rs.dat (.int (i : Int))) (fun (_ : Nat) => PyData.str TICK) (List.range 62) fun i hi => ?_) rfl (ticks_rng _)
    exact ⟨_, fun X' ⟨_, _, _, _, _, e⟩ => by subst e; exact xg_name 7 sc__law_polled.nd, fun X' ⟨_, _, _, _, _, e⟩ => by subst e; exact xe_str⟩
  · rw [List.length_map, List.length_replicate]; decide
  · rw [List.length_map, List.length_map, List.length_replicate]; omega
  · rw [← hR]
    exact congrArg En.own (List.map_append ..).symm
  have hrng : rng ((dS rest).length : Int) = rest.zipIdx.map fun (x : Str × Nat) => Rs.dat (.int (x.2 : Int)) := by
    unfold rng
    rw [List.length_map]
    show (List.range rest.length).map _ = _
    have e : rest.zipIdx.map Prod.snd = List.range rest.length := by
      rw [List.zipIdx_map_snd, List.range_eq_range']
    rw [← e, List.map_map]
    rfl
  refine forR_inv (fun (x : Str × Nat) => Rs.dat (.int (x.2 : Int))) (fun l ρ => ∃ (s : LpS) (o7 : Option En), s.1.length + s.2.1.length + l.length ≤ 5000 ∧ (∀ x ∈ l, x ∈ rest.zipIdx) ∧ (l.foldl (lpStep items.length per off) s).1 = lawPolledF items per off ∧ ρ = [some (lst_ (dS items)), some (int_ per), some (int_ off), some (.own (dS s.1)), some (.own (dS s.2.1)), some (int_ s.2.2), some (lst_ (dS rest)), o7])
    hrng ⟨([], [], 0), none, ?_, fun x h => h, by unfold lawPolledF; rw [hR], rfl⟩ ?_ ?_
  · rw [List.length_zipIdx, lR]
    simp only [List.length_nil]
    omega
  · rintro ρ ⟨s, o7, _, _, e, rfl⟩
    have e : s.1 = lawPolledF items per off := e
    rw [← e]
    exact ⟨_, by repeat constructor, rfl⟩
  rintro x l ρ ⟨s, o7, hz, hm, e, rfl⟩
  have hx := hm x (List.mem_cons_self ..)
  have hget : rest[x.2]? = some x.1 := List.mem_zipIdx_iff_getElem?.mp hx
  have hix : atI (dS rest) (x.2 : Int) = some (.str x.1) := atI_some (by rw [List.getElem?_map, hget]; rfl)
  rw [List.length_cons] at hz
  refine ⟨_, _, _, Le.refl _, xg_name 7 sc__law_polled.nd, .inl ⟨[some (lst_ (dS items)), some (int_ per), some (int_ off), some (.own (dS (lpStep items.length per off s x).1)), some (.own (dS (lpStep items.length per off s x).2.1)), some (int_ (lpStep items.length per off s x).2.2), some (lst_ (dS rest)), some (int_ (x.2 : Int))], ?_, lpStep items.length per off s x, _, ?_, fun y hy => hm y (List.mem_cons_of_mem _ hy), e, rfl⟩⟩
  · refine xss_one (xs_if (xt_cmp (xe_ix (xe_var 6) (xe_var 7) (ixo_list hix)) xe_str bin_neS) (fun h => ?_) (fun h => ?_))
    · have ht : x.1 ≠ TICK := by simpa using h
      refine XSs.is (xss_one (xs_append 4 (xe_ix (xe_var 6) (xe_var 7) (ixo_list hix)) (hl := (by rw [List.length_map]; omega)))) ?_
      unfold lpStep
      rw [if_neg ht]
      show Out.nx [_, _, _, _, some (En.own (dS s.2.1 ++ [PyData.str x.1])), _, _, _] = _
      rw [dS_snoc]
    · have ht : x.1 = TICK := by simpa using h
      refine xss_one (xs_if (xt_lend 4 (XW.t (xw_or (xt_cmp (xe_var 7) (xe_callB T.len (xa_cons (xe_var 0) xa_nil) co_lenL) bin_lt) fun h => (xw_or1 (xt_cmp (xe_callB T.len (xa_cons (xe_var 4) xa_nil) co_lenL) xe_int bin_gt))))) (fun h => ?_) (fun h => ?_))
      · have hc : x.2 < items.length ∨ 0 < s.2.1.length := by
          simp only [List.length_map, Bool.or_eq_true, decide_eq_true_eq] at h
          omega
        refine xss_cons (xs_set 5 (xe_bin (xe_var 5) xe_int bin_add) sc__law_polled.nd) <| xss_cons (xs_if (o := .nx [some (lst_ (dS items)), some (int_ per), some (int_ off), some (.own (dS (if (s.2.2 + 1 - off) % per = 0 then s.1 ++ s.2.1 else s.1))), some (.own (dS (if (s.2.2 + 1 - off) % per = 0 then [] else s.2.1))), some (int_ (s.2.2 + 1)), some (lst_ (dS rest)), some (int_ (x.2 : Int))]) (xt_cmp (xe_bin (xe_bin (xe_var 5) (xe_var 2) bin_sub) (xe_var 1) (bin_mod hp)) xe_int bin_eqI) (fun h2 => ?_) (fun h2 => ?_)) <|
          XSs.is (xss_one (xs_append 3 xe_str (hl := ?_))) ?_
        · have h2 := of_decide_eq_true h2
          rw [if_pos h2, if_pos h2]
          refine XSs.is (xss_cons (xs_set 3 (xe_lend 3 (xe_lend 4 (XE.is (xe_bin (xe_var 3) (xe_var 4) (bin_cat ?_)) (congrArg En.own (List.map_append ..).symm)) (lfs_dS _)) (lfs_dS _)) sc__law_polled.nd) <| xss_one (xs_set 4 (xe_lst xd_nil) sc__law_polled.nd)) rfl
          rw [List.length_map, List.length_map]
          omega
        · have h2 := of_decide_eq_false h2
          rw [if_neg h2, if_neg h2]
          exact xss_nil
        · rw [List.length_map]
          split
          · rw [List.length_append]; omega
          · omega
        · unfold lpStep
          rw [if_pos ht, if_pos hc]
          by_cases h2 : (s.2.2 + 1 - off) % per = 0
          · simp only [if_pos h2]
            show Out.nx [_, _, _, some (En.own (dS (s.1 ++ s.2.1) ++ [PyData.str TICK])), _, _, _, _] = _
            rw [dS_snoc]
          · simp only [if_neg h2]
            show Out.nx [_, _, _, some (En.own (dS s.1 ++ [PyData.str TICK])), _, _, _, _] = _
            rw [dS_snoc]
      · have hc : ¬(x.2 < items.length ∨ 0 < s.2.1.length) := by
          simp only [List.length_map, Bool.or_eq_false_iff, decide_eq_false_iff_not] at h
          omega
        refine XSs.is xss_nil ?_
        unfold lpStep
        rw [if_pos ht, if_neg hc]
        rfl
  · have h := lpFold_le items.length per off [x] s
    simp only [List.foldl_cons, List.foldl_nil, List.length_singleton] at h
    omega
theorem sc__law_permitted : FnScope ["_law_plan_here", "_law_items", "_law_place", "_law_item", "_law_moved"] ["_law_plan_here", "_law_items"] (defScope s__law_permitted) := ⟨rfl, rfl, rfl, by decide +kernel, rfl, by decide +kernel, by decide +kernel⟩
theorem C__law_permitted (T : Wd K mg) : FnG (gd K) P w K mg base 3 "_law_permitted" 2 (fun rs en => ∃ (p : Pl) (items : List Str), p.traf.Ok ∧ rs = [.dat (ePlan p), .dat (.list (dS items))] ∧ en = bl_ (permF p.traf (startF p.traf) items)) := by
  obtain ⟨fd, F⟩ := T.df 44 (d := d__law_permitted)
  refine fnG_of F sc__law_permitted (T.glo 44) (fun _ _ _ _ _ _ us hl => match us, hl with | [_, _], _ => rfl) fun cdv A outer s H E hr rs en hl hφ => ⟨_, .inl rfl, ?_⟩
  obtain ⟨p, items, M, rfl, rfl⟩ := hφ
  refine xss_cons (xs_set 2 (xe_call (C__law_begin T) (hr.mono (by decide)) (xa_cons (xe_ix (xe_var 0) xe_int (ixo_list rfl)) xa_nil) ⟨p.traf, M, rfl, rfl⟩) sc__law_permitted.nd) ?_
  have step : ∀ (c : Cf) (it : Str) (o4 : Option En), c.Ok p.traf → ∀ o, (forbidsF p.traf c it = true → o = .rt (bl_ false)) → (forbidsF p.traf c it = false → o = .nx [some (dat_ (ePlan p)), some (lst_ (dS items)), some (dat_ (eF (stepF p.traf c it).1)), some (str_ it), some (lst_ (moveL p.traf c it))]) →
      XSs (gd K) (bx P w K mg base ["_law_plan_here", "_law_items", "_law_place", "_law_item", "_law_moved"] d__law_permitted.qual d__law_permitted.scope (He.fAd K d__law_permitted.at_) cdv A outer s H E) (fun _ => False)
        (match s__law_permitted with | .FunctionDef _ _ (_ :: .For _ _ b _ _ :: _) _ _ _ _ _ _ _ => b | _ => []) [some (dat_ (ePlan p)), some (lst_ (dS items)), some (dat_ (eF c)), some (str_ it), o4] o := by
    intro c it o4 hc o h1 h2
    refine xss_cons (xs_set 4 (xe_call (C__law_move T) (hr.mono (by decide)) (xa_cons (xe_ix (xe_var 0) xe_int (ixo_list rfl)) (xa_cons (xe_var 2) (xa_cons (xe_var 3) xa_nil))) ⟨p.traf, c, it, M, hc, rfl, rfl⟩) sc__law_permitted.nd) <| xss_freeze 4 ?_
    cases hf : forbidsF p.traf c it with
    | true =>
      rw [h1 hf]
      exact xss_ret (xs_if (xt_val (xe_ix (xe_var 4) xe_int (ixo_list (d := .bool (forbidsF p.traf c it)) rfl))) (fun _ => xss_one (xs_ret xe_bl)) (fun h => by rw [hf] at h; cases h))
    | false =>
      rw [h2 hf]
      exact xss_cons (xs_if (xt_val (xe_ix (xe_var 4) xe_int (ixo_list (d := .bool (forbidsF p.traf c it)) rfl))) (fun h => by rw [hf] at h; cases h) (fun _ => xss_nil)) (xss_one (xs_set 2 (xe_ix (xe_var 4) xe_int (ixo_list rfl)) sc__law_permitted.nd))
  cases ha : permF p.traf (startF p.traf) items with
  | true =>
    refine xss_cons (xs_for PassesOwn.never rfl (xi_list (xe_var 1)) (o := .nx [some (dat_ (ePlan p)), some (lst_ (dS items)), none, none, none]) ?_) <| xss_one (xs_ret xe_bl)
    refine forR_inv (fun x => Rs.dat (.str x)) (fun l ρ => ∃ c o3 o4, Cf.Ok p.traf c ∧ permF p.traf c l = true ∧ ρ = [some (dat_ (ePlan p)), some (lst_ (dS items)), some (dat_ (eF c)), o3, o4]) (map_dat _ _) ⟨startF p.traf, _, _, List.length_map _, ha, rfl⟩ ?_ ?_
    · rintro ρ ⟨c, o3, o4, _, _, rfl⟩
      exact ⟨_, by repeat constructor, rfl⟩
    · rintro it l ρ ⟨c, o3, o4, hc, hp, rfl⟩
      have hp : (!forbidsF p.traf c it && permF p.traf (stepF p.traf c it).1 l) = true := hp
      have hp2 : forbidsF p.traf c it = false ∧ permF p.traf (stepF p.traf c it).1 l = true := by simpa using hp
      exact ⟨_, _, _, Le.refl _, xg_name 3 sc__law_permitted.nd, .inl ⟨_, step c it o4 hc _ (fun h => by rw [hp2.1] at h; cases h) (fun _ => rfl), _, _, _, stepF_ok hc it, hp2.2, rfl⟩⟩
  | false =>
    refine xss_ret (xs_for PassesOwn.never rfl (xi_list (xe_var 1)) ?_)
    refine forR_inv (fun x => Rs.dat (.str x)) (fun l ρ => ∃ c o3 o4, Cf.Ok p.traf c ∧ permF p.traf c l = false ∧ ρ = [some (dat_ (ePlan p)), some (lst_ (dS items)), some (dat_ (eF c)), o3, o4]) (map_dat _ _) ⟨startF p.traf, _, _, List.length_map _, ha, rfl⟩ ?_ ?_
    · rintro ρ ⟨c, o3, o4, _, h, rfl⟩
      cases h
    · rintro it l ρ ⟨c, o3, o4, hc, hp, rfl⟩
      have hp : (!forbidsF p.traf c it && permF p.traf (stepF p.traf c it).1 l) = false := hp
      refine ⟨_, _, _, Le.refl _, xg_name 3 sc__law_permitted.nd, ?_⟩
      cases hf : forbidsF p.traf c it with
      | true => exact .inr ⟨step c it o4 hc _ (fun _ => rfl) (fun h => by rw [hf] at h; cases h), fun ρ' z => nomatch z⟩
      | false =>
        rw [hf] at hp
        exact .inl ⟨_, step c it o4 hc _ (fun h => by rw [hf] at h; cases h) (fun _ => rfl), _, _, _, stepF_ok hc it, hp, rfl⟩
end
end LC
namespace LC
open PySem PySem.Spec PyProof.Rows L2

theorem xe_neg {G : Gd} {X : Cx} {a : Expr} {pos : Pos} {ρ : Ro} {i : Int} (h : XE G X a ρ (int_ i)) : XE G X (.UnaryOp .USub a pos) ρ (int_ (-i)) := by
  obtain ⟨t, h1, h2⟩ := h
  exact ⟨_, pe_un un_neg h1, fun H0 F0 γ σ H F S Q q => h2 _ _ _ _ _ _ S _ fun v H1 F1 n => by
    have d := n.rsAt
    cases d
    exact ⟨i, rfl, q _ _ F1 (.from n.grow (.at0 n.fz n.tab (.int _)))⟩⟩
def evDec : ∀ a b : Ev, Decidable (a = b)
  | .stopped, .stopped => .isTrue rfl
  | .stopped, .tick => .isFalse fun h => nomatch h
  | .stopped, .sent _ => .isFalse fun h => nomatch h
  | .tick, .stopped => .isFalse fun h => nomatch h
  | .tick, .tick => .isTrue rfl
  | .tick, .sent _ => .isFalse fun h => nomatch h
  | .sent _, .stopped => .isFalse fun h => nomatch h
  | .sent _, .tick => .isFalse fun h => nomatch h
  | .sent m, .sent n => if h : m = n then .isTrue (congrArg Ev.sent h) else .isFalse fun z => h (Ev.sent.inj z)
instance : DecidableEq Ev := evDec
/-! ### sent -/
def stopE : Ev → Bool
  | .stopped => true
  | _ => false
def itemE : Ev → Str
  | .sent n => n
  | .stopped => "stopped"
  | .tick => TICK
def sentF : List Ev → List Str
  | [] => []
  | .stopped :: _ => []
  | e :: l => itemE e :: sentF l
def okE (e : Ev) : Prop := PyData.strOk (itemE e) = true
theorem sentF_le : ∀ l : List Ev, (sentF l).length ≤ l.length
  | [] => Nat.le_refl _
  | .stopped :: _ => Nat.zero_le _
  | .tick :: l => Nat.succ_le_succ (sentF_le l)
  | .sent _ :: l => Nat.succ_le_succ (sentF_le l)
theorem eqv_stop (e : Ev) : PyData.eqv (eE e) (.tuple [.str "stopped"]) = stopE e := by
  cases e with
  | stopped => decide +kernel
  | tick => decide +kernel
  | sent n =>
    show (PyData.eqv (.str "sent") (.str "stopped") && false) = false
    rw [Bool.and_false]
theorem shp_eE {e : Ev} (h : okE e) : Shp 2 (eE e) := by
  cases e with
  | stopped => exact shp_tup (shp_cons (shp_str (by decide +kernel) 0) shp_nil)
  | tick => exact shp_tup (shp_cons (shp_str (by decide +kernel) 0) shp_nil)
  | sent n => exact shp_tup (shp_cons (shp_str (by decide +kernel) 0) (shp_cons (shp_str h 0) shp_nil))
theorem eqv_str (x y : Str) : PyData.eqv (.str x) (.str y) = decide (x = y) := by
  unfold PyData.eqv
  by_cases h : x = y
  · subst h; simp
  · rw [decide_eq_false h]; simp [h]
theorem eqv_eE (a b : Ev) : PyData.eqv (eE a) (eE b) = decide (a = b) := by
  cases a with
  | stopped => cases b with
    | stopped => decide +kernel
    | tick => decide +kernel
    | sent n =>
      show (PyData.eqv (.str "stopped") (.str "sent") && false) = _
      rw [Bool.and_false]; rfl
  | tick => cases b with
    | stopped => decide +kernel
    | tick => decide +kernel
    | sent n =>
      show (PyData.eqv (.str "tick") (.str "sent") && false) = _
      rw [Bool.and_false]; rfl
  | sent m => cases b with
    | stopped =>
      show (PyData.eqv (.str "sent") (.str "stopped") && false) = _
      rw [Bool.and_false]; rfl
    | tick =>
      show (PyData.eqv (.str "sent") (.str "tick") && false) = _
      rw [Bool.and_false]; rfl
    | sent n =>
      show (PyData.eqv (.str "sent") (.str "sent") && (PyData.eqv (.str m) (.str n) && true)) = _
      rw [eqv_str, eqv_str, Bool.and_true]
      by_cases h : m = n
      · subst h
        rw [decide_eq_true rfl, decide_eq_true rfl, decide_eq_true rfl]; rfl
      · rw [decide_eq_false h, Bool.and_false, decide_eq_false (fun z => h (by cases z; rfl))]
theorem eqvAll_eE : ∀ a b : List Ev, PyData.eqvAll (a.map eE) (b.map eE) = decide (a = b)
  | [], [] => rfl
  | [], _ :: _ => rfl
  | _ :: _, [] => rfl
  | x :: a, y :: b => by
    show (PyData.eqv (eE x) (eE y) && PyData.eqvAll (a.map eE) (b.map eE)) = _
    rw [eqvAll_eE a b, eqv_eE]
    by_cases h : x = y
    · subst h
      simp
    · simp [h]
theorem eqv_listE (a b : List Ev) : PyData.eqv (.list (a.map eE)) (.list (b.map eE)) = decide (a = b) := (by unfold PyData.eqv; rfl : PyData.eqv (.list (a.map eE)) (.list (b.map eE)) = PyData.eqvAll (a.map eE) (b.map eE)).trans (eqvAll_eE a b)
theorem shp_listE {l : List Ev} (h : ∀ e ∈ l, okE e) : Shp 3 (.list (l.map eE)) := shp_lst fun d hd => by
  obtain ⟨e, he, rfl⟩ := List.mem_map.mp hd
  exact shp_eE (h e he)
def cntT (l : List Str) : Int := ((l.filter fun x => decide (x = TICK)).length : Int)
def extraT (items rec : List Str) : Nat := (cntT rec - cntT items).toNat
def drawStep (p : Pl) (items : List Str) (num : Int) : List Str :=
  if 0 < ((p.prog.names ++ [TICK]).filter fun n => permF p.traf (startF p.traf) (items ++ [n])).length then
    items ++ [((p.prog.names ++ [TICK]).filter fun n => permF p.traf (startF p.traf) (items ++ [n])).getD (num % (((p.prog.names ++ [TICK]).filter fun n => permF p.traf (startF p.traf) (items ++ [n])).length : Int)).toNat ""]
  else items
def drawnF (p : Pl) (cell : Int) (n : Nat) : List Str := (rowF cell n).foldl (drawStep p) []
def harmfulF (p : Pl) (items : List Str) (per off : Int) : Bool := !sameF p (items ++ List.replicate (extraT items (lawPolledF items per off)) TICK) (lawPolledF items per off)
def dueE (x : Str) : Ev := if x = TICK then .tick else .sent x
def isRowF (p : Pl) (evs : List Ev) (per off : Int) : Bool :=
  decide (evs = (sentF evs).map dueE ++ [.stopped] ++ List.replicate (extraT (sentF evs) (lawPolledF (sentF evs) per off)) .tick) && permF p.traf (startF p.traf) (sentF evs)
section
variable {P : Program} {w : World} {K : PySem.W.Frag} {mg : Str → Option Value} {base : Heap}
theorem xe_cntT {X : Cx} {ρ : Ro} {l : List Str} {scope : Scope} {y iter : Expr} {tg elt : Expr} {p1 p2 p3 : Pos} {x : Str} (T : Wd K mg) (hX : X.mg = mg) (i : Nat) (hc : X.calm = true) (hN : X.N.Nodup) (hi : XI (gd K) X tg iter ρ ((dS l).map Rs.dat)) (ok : BlkOk X.N X.env.scope scope [(x, i)]) (hz : l.length ≤ 16777216)
    (h1 : ∀ s : Str, ∃ ρ1, (∀ X', IsBlk X scope X' → XGo (gd K) X' tg (.dat (.str s)) (wipeR ρ [i]) ρ1 [i]) ∧ (∀ X', IsBlk X scope X' → XT (gd K) X' y ρ1 (decide (s = TICK))) ∧ ∀ X', IsBlk X scope X' → XE (gd K) X' elt ρ1 (str_ s))
    (hg : Gl X "len" := by rfl) (hs : ∀ x, foldedSetIterable iter X.env x = pure x := by intro _; rfl) (he : starEach [.ListComp elt [⟨tg, iter, [y], 0⟩] scope p2] X.env = (false, eval (.ListComp elt [⟨tg, iter, [y], 0⟩] scope p2) X.env) :: starEach [] X.env := by rfl) (hpl : (backTo p3 (starEach [] X.env)).any (·.1) = false := by rfl) :
    XE (gd K) X (.Call (.Name "len" p1) [.ListComp elt [⟨tg, iter, [y], 0⟩] scope p2] [] p3) ρ (int_ (cntT l)) := by
  refine XE.is (xe_callB (by rw [hX]; exact T.len) (xa_cons (xe_fr (xe_lc (ds := dS (l.filter fun x => decide (x = TICK))) [(x, i)] hc hN ok hi ?_ ?_ (.inr ⟨_, rfl⟩) hs)) xa_nil he) co_lenL (hg := hg) (he := he) (hpl := hpl)) ?_
  · refine LcR.rs (lcR_filter (fun x => Rs.dat (.str x)) (fun x => decide (x = TICK)) (fun x => PyData.str x) l fun s _ => ?_) (map_dat _ _) rfl
    obtain ⟨ρ1, a, b, c⟩ := h1 s
    exact ⟨ρ1, a, b, fun _ => c⟩
  · rw [List.length_map]
    exact Nat.le_trans (List.length_filter_le _ _) hz
  · rw [List.length_map]
    rfl
theorem sc__law_sent : FnScope ["_law_events", "_law_items", "_law_event"] ["_law_events"] (defScope s__law_sent) := ⟨rfl, rfl, rfl, by decide +kernel, rfl, by decide +kernel, by decide +kernel⟩
theorem C__law_sent (T : Wd K mg) : FnG (gd K) P w K mg base 1 "_law_sent" 1 (fun rs en => ∃ (evs : List Ev), (∀ e ∈ evs, okE e) ∧ evs.length ≤ 10000 ∧ rs = [.dat (.list (evs.map eE))] ∧ en = .own (dS (sentF evs))) := by
  obtain ⟨fd, F⟩ := T.df 48 (d := d__law_sent)
  refine fnG_of F sc__law_sent (T.glo 48) (fun _ _ _ _ _ _ us hl => match us, hl with | [_], _ => rfl) fun cdv A outer s H E hr rs en hl hφ => ⟨_, .inl rfl, ?_⟩
  obtain ⟨evs, hok, hz, rfl, rfl⟩ := hφ
  refine xss_cons (xs_set 1 (xe_lst xd_nil) sc__law_sent.nd) ?_
  have test : ∀ (e : Ev) (o1 : Option En), e ∈ evs → XT (gd K) (bx P w K mg base ["_law_events", "_law_items", "_law_event"] d__law_sent.qual d__law_sent.scope (He.fAd K d__law_sent.at_) cdv A outer s H E)
      (match s__law_sent with | .FunctionDef _ _ (_ :: .For _ _ (.If c _ _ _ :: _) _ _ :: _) _ _ _ _ _ _ _ => c | _ => .Constant .none 0 default) [some (lst_ (evs.map eE)), o1, some (dat_ (eE e))] (stopE e) := by
    intro e o1 he
    exact XT.is (xt_cmp (xe_var 2) (xe_tup (xd_cons xe_str xd_nil)) (bin_eqD hr.units (shp_eE (hok e he)).ok (shp_tup (shp_cons (shp_str (by decide +kernel) 0) shp_nil) : Shp 2 _).ok)) (eqv_stop e)
  have app : ∀ (e : Ev) (acc : List Str), acc.length ≤ 10000 → XS (gd K) (bx P w K mg base ["_law_events", "_law_items", "_law_event"] d__law_sent.qual d__law_sent.scope (He.fAd K d__law_sent.at_) cdv A outer s H E) (fun _ => False)
      (match s__law_sent with | .FunctionDef _ _ (_ :: .For _ _ (_ :: c :: _) _ _ :: _) _ _ _ _ _ _ _ => c | _ => .Pass default) [some (lst_ (evs.map eE)), some (.own (dS acc)), some (dat_ (eE e))] (.nx [some (lst_ (evs.map eE)), some (.own (dS (acc ++ [itemE e]))), some (dat_ (eE e))]) := by
    intro e acc hl
    have hix : IxOk (gd K) (bx P w K mg base ["_law_events", "_law_items", "_law_event"] d__law_sent.qual d__law_sent.scope (He.fAd K d__law_sent.at_) cdv A outer s H E) (.dat (eE e)) (.dat (.int (-1))) (str_ (itemE e)) := by
      cases e with
      | stopped => exact ixo_tup rfl
      | tick => exact ixo_tup rfl
      | sent n => exact ixo_tup rfl
    refine XS.is (xs_append 1 (xe_ix (xe_var 2) (xe_neg xe_int) hix) (hl := by rw [List.length_map]; omega)) ?_
    show Out.nx [_, some (En.own (dS acc ++ [PyData.str (itemE e)])), _] = _
    rw [dS_snoc]
  have inv : ∀ (o : Out) (hst : evs.any stopE = true → o = .rt (.own (dS (sentF evs)))) (hns : evs.any stopE = false → o = .nx [some (lst_ (evs.map eE)), some (.own (dS (sentF evs))), none]),
      ForR (gd K) (bx P w K mg base ["_law_events", "_law_items", "_law_event"] d__law_sent.qual d__law_sent.scope (He.fAd K d__law_sent.at_) cdv A outer s H E) (fun _ => False)
      (match s__law_sent with | .FunctionDef _ _ (_ :: .For t _ _ _ _ :: _) _ _ _ _ _ _ _ => t | _ => .Constant .none 0 default) (match s__law_sent with | .FunctionDef _ _ (_ :: .For _ _ b _ _ :: _) _ _ _ _ _ _ _ => b | _ => []) ((evs.map eE).map Rs.dat) [some (lst_ (evs.map eE)), some (.own (dS [])), none] o := by
    intro o hst hns
    refine forR_inv (fun x => Rs.dat (eE x)) (fun l ρ => ∃ acc o2, acc.length + l.length ≤ 10000 ∧ (∀ e ∈ l, e ∈ evs) ∧ l.any stopE = evs.any stopE ∧ acc ++ sentF l = sentF evs ∧ ρ = [some (lst_ (evs.map eE)), some (.own (dS acc)), o2]) (map_dat _ _) ⟨[], none, by simpa using hz, fun e h => h, rfl, rfl, rfl⟩ ?_ ?_
    · rintro ρ ⟨acc, o2, _, _, h1, h2, rfl⟩
      have h2 : acc = sentF evs := by rw [← h2]; exact (List.append_nil _).symm
      subst h2
      exact ⟨_, by repeat constructor, hns h1.symm⟩
    · rintro e l ρ ⟨acc, o2, h0, hm, h1, h2, rfl⟩
      have he := hm e (List.mem_cons_self ..)
      rw [List.length_cons] at h0
      refine ⟨_, _, _, Le.refl _, xg_name 2 sc__law_sent.nd, ?_⟩
      cases hs : stopE e with
      | true =>
        have hany : evs.any stopE = true := by rw [← h1, List.any_cons, hs]; rfl
        rw [hst hany]
        have : e = .stopped := by cases e <;> first | rfl | cases hs
        subst this
        have h2 : acc = sentF evs := by rw [← h2]; exact (List.append_nil _).symm
        subst h2
        exact .inr ⟨xss_ret (xs_if (test _ _ he) (fun _ => xss_one (xs_retOwn 1)) (fun h => by rw [hs] at h; cases h)), fun ρ' z => nomatch z⟩
      | false =>
        refine .inl ⟨_, xss_cons (xs_if (test _ _ he) (fun h => by rw [hs] at h; cases h) (fun _ => xss_nil)) (xss_one (app e acc (by omega))), acc ++ [itemE e], _, ?_, fun x hx => hm x (List.mem_cons_of_mem _ hx), ?_, ?_, rfl⟩
        · rw [List.length_append, List.length_singleton]; omega
        · rw [← h1, List.any_cons, hs, Bool.false_or]
        · rw [← h2, List.append_assoc]
          cases e with
          | stopped => cases hs
          | tick => rfl
          | sent n => rfl
  cases ha : evs.any stopE with
  | true => exact xss_ret (xs_for PassesOwn.never rfl (xi_list (xe_var 0)) (inv _ (fun _ => rfl) (fun h => by rw [ha] at h; cases h)))
  | false => exact xss_cons (xs_for PassesOwn.never rfl (xi_list (xe_var 0)) (inv _ (fun h => by rw [ha] at h; cases h) (fun _ => rfl))) (xss_one (xs_retOwn 1))
end
end LC
namespace LC
open PySem PySem.Spec PyProof.Rows L2

theorem lfs_dI : ∀ l : List Int, lf.lfs (dI l) = true
  | [] => rfl
  | _ :: l => lfs_dI l
theorem evs_rng (n : Nat) : ((List.range n).map fun _ => eE .tick) = (List.replicate n Ev.tick).map eE := by
  rw [List.map_const', List.length_range]
  exact List.map_replicate.symm
theorem cntT_le (l : List Str) : 0 ≤ cntT l ∧ cntT l ≤ l.length := by
  unfold cntT
  have := List.length_filter_le (fun x => decide (x = TICK)) l
  omega
theorem extraT_le (a b : List Str) : extraT a b ≤ b.length := by
  unfold extraT
  have h1 := cntT_le a
  have h2 := cntT_le b
  omega
theorem drawStep_le (p : Pl) (items : List Str) (num : Int) : (drawStep p items num).length ≤ items.length + 1 := by
  unfold drawStep
  split
  · rw [List.length_append, List.length_singleton]; exact Nat.le_refl _
  · exact Nat.le_succ _
theorem sent_ok : ∀ {l : List Ev}, (∀ e ∈ l, okE e) → ∀ x ∈ sentF l, PyData.strOk x = true
  | [], _, x, h => nomatch h
  | .stopped :: _, _, x, h => nomatch h
  | .tick :: l, H, x, h => by
    rcases List.mem_cons.mp h with e | h
    · rw [e]; exact H _ (List.mem_cons_self ..)
    · exact sent_ok (fun e he => H e (List.mem_cons_of_mem _ he)) x h
  | .sent _ :: l, H, x, h => by
    rcases List.mem_cons.mp h with e | h
    · rw [e]; exact H _ (List.mem_cons_self ..)
    · exact sent_ok (fun e he => H e (List.mem_cons_of_mem _ he)) x h
section
variable {P : Program} {w : World} {K : PySem.W.Frag} {mg : Str → Option Value} {base : Heap}
theorem sc__law_drawn : FnScope ["_law_plan_here", "_law_cell_here", "_law_size", "_law_items", "_law_number", "_law_possible", "_law_name"] ["_law_plan_here", "_law_cell_here", "_law_size"] (defScope s__law_drawn) := ⟨rfl, rfl, rfl, by decide +kernel, rfl, by decide +kernel, by decide +kernel⟩
theorem C__law_drawn (T : Wd K mg) : FnG (gd K) P w K mg base 4 "_law_drawn" 3 (fun rs en => ∃ (p : Pl) (cell : Int) (n : Nat), p.Ok ∧ n ≤ 900 ∧ rs = [.dat (ePlan p), .dat (.int cell), .dat (.int (n : Int))] ∧ en = .own (dS (drawnF p cell n))) := by
  obtain ⟨fd, F⟩ := T.df 45 (d := d__law_drawn)
  refine fnG_of F sc__law_drawn (T.glo 45) (fun _ _ _ _ _ _ us hl => match us, hl with | [_, _, _], _ => rfl) fun cdv A outer s H E hr rs en hl hφ => ⟨_, .inl rfl, ?_⟩
  obtain ⟨p, cell, n, O, hn, rfl, rfl⟩ := hφ
  have hnl := O.p.nl
  refine xss_cons (xs_set 3 (xe_lst xd_nil) sc__law_drawn.nd) <|
    xss_cons (xs_for PassesOwn.never rfl (xi_list (xe_fr (xe_call (C__law_row T) (hr.mono (by decide)) (xa_cons (xe_var 1) (xa_cons (xe_var 2) xa_nil)) ⟨cell, n, by omega, rfl, rfl⟩))) (o := .nx [some (dat_ (ePlan p)), some (int_ cell), some (int_ (n : Int)), some (.own (dS (drawnF p cell n))), none, none, none]) ?_) <|
    xss_one (xs_retOwn 3)
  refine forR_inv (fun x => Rs.dat (.int x)) (fun l ρ => ∃ items o4 o5 o6, items.length + l.length ≤ 1000 ∧ l.foldl (drawStep p) items = drawnF p cell n ∧ ρ = [some (dat_ (ePlan p)), some (int_ cell), some (int_ (n : Int)), some (.own (dS items)), o4, o5, o6]) (map_dat _ _) ⟨[], none, none, none, ?_, rfl, rfl⟩ ?_ ?_
  · rw [rowF_len]
    simp only [List.length_nil]
    omega
  · rintro ρ ⟨items, o4, o5, o6, _, e, rfl⟩
    have e : items = drawnF p cell n := e
    subst e
    exact ⟨_, by repeat constructor, rfl⟩
  rintro num l ρ ⟨items, o4, o5, o6, hz, e, rfl⟩
  rw [List.length_cons] at hz
  refine ⟨_, _, _, Le.refl _, xg_name 4 sc__law_drawn.nd, .inl ⟨[some (dat_ (ePlan p)), some (int_ cell), some (int_ (n : Int)), some (.own (dS (drawStep p items num))), some (int_ num), none, none], ?_, drawStep p items num, _, _, _, by have := drawStep_le p items num; omega, e, rfl⟩⟩
  unfold drawStep
  generalize hP : ((p.prog.names ++ [TICK]).filter fun n => permF p.traf (startF p.traf) (items ++ [n])) = poss
  have pl : poss.length ≤ p.prog.names.length + 1 := by
    rw [← hP]
    refine Nat.le_trans (List.length_filter_le _ _) ?_
    rw [List.length_append, List.length_singleton]
    exact Nat.le_refl _
  refine xss_cons (xs_setLc 5 [("_law_name", 6)] rfl sc__law_drawn.nd (bk ["_law_plan_here", "_law_cell_here", "_law_size", "_law_items", "_law_number", "_law_possible", "_law_name"] s__law_drawn) (xi_list (xe_fr (XE.is (xe_bin (xe_fr (xe_callT T.list (xa_cons (xe_ix (xe_ix (xe_var 0) xe_int (ixo_list rfl)) xe_int (ixo_list rfl)) xa_nil) co_listT)) (xe_fr (xe_lst (xd_cons xe_str xd_nil))) (bin_cat (by simp only [List.length_map, List.length_singleton]; omega))) (en' := .own (dS (p.prog.names ++ [TICK]))) (congrArg En.own (dS_snoc _ _))))) (ds := dS poss) ?_ ?_ (sw_true rfl rfl rfl (by decide +kernel))) <| xss_freeze 5 (ds := dS poss) <|
    XSs.weak (xss_one (xs_if (xt_cmp (xe_callB T.len (xa_cons (xe_var 5) xa_nil) co_lenL) xe_int bin_gt) (fun h => ?_) (fun h => ?_))) (by repeat constructor) (ρ1 := [some (dat_ (ePlan p)), some (int_ cell), some (int_ (n : Int)), some (.own (dS (if 0 < poss.length then items ++ [poss.getD (num % (poss.length : Int)).toNat ""] else items))), some (int_ num), some (lst_ (dS poss)), o6])
  · refine LcR.rs (lcR_filter (fun x => Rs.dat (.str x)) (fun n => permF p.traf (startF p.traf) (items ++ [n])) (fun x => PyData.str x) (p.prog.names ++ [TICK]) fun s _ => ?_) (map_dat _ _) (by rw [hP])
    refine ⟨_, fun X' ⟨_, _, _, _, _, e⟩ => by subst e; exact xg_name 6 sc__law_drawn.nd, fun X' ⟨_, _, _, _, _, e⟩ => ?_, fun _ X' ⟨_, _, _, _, _, e⟩ => by subst e; exact xe_var 6⟩
    subst e
    exact xt_lend 3 (xt_val (xe_call (C__law_permitted T) (hr.mono (by decide)) (xa_cons (xe_var 0) (xa_cons (xe_fr (XE.is (xe_bin (xe_var 3) (xe_fr (xe_lst (xd_cons (xe_var 6) xd_nil))) (bin_cat (by simp only [List.length_map, List.length_singleton]; omega))) (en' := .own (dS (items ++ [s]))) (congrArg En.own (dS_snoc _ _)))) xa_nil)) ⟨p, items ++ [s], O.t, rfl, rfl⟩))
  · rw [List.length_map]
    omega
  · have hp0 : 0 < poss.length := by simpa using h
    rw [if_pos hp0]
    have m0 := Int.emod_nonneg num (b := (poss.length : Int)) (by omega)
    have m1 := Int.emod_lt_of_pos num (b := (poss.length : Int)) (by omega)
    have hix : atI (dS poss) (num % ((dS poss).length : Int)) = some (.str (poss.getD (num % (poss.length : Int)).toNat "")) := by
      rw [List.length_map]
      have := atI_map PyData.str poss (num % (poss.length : Int)).toNat "" (by omega)
      rwa [Int.toNat_of_nonneg m0] at this
    refine XSs.is (xss_one (xs_append 3 (xe_ix (xe_var 5) (xe_bin (xe_var 4) (xe_callB T.len (xa_cons (xe_var 5) xa_nil) co_lenL) (bin_mod (by rw [List.length_map]; omega))) (ixo_list hix)) (hl := by rw [List.length_map]; omega))) ?_
    show Out.nx [_, _, _, some (En.own (dS items ++ [PyData.str (poss.getD (num % (poss.length : Int)).toNat "")])), _, _, _] = _
    rw [dS_snoc]
  · have hp0 : ¬0 < poss.length := by simpa using h
    rw [if_neg hp0]
    exact xss_nil
theorem sc__law_harmful : FnScope ["_law_plan_here", "_law_items", "_law_numbers", "_law_received", "_law_ticks", "_law_item", "_law_k"] ["_law_plan_here", "_law_items", "_law_numbers"] (defScope s__law_harmful) := ⟨rfl, rfl, rfl, by decide +kernel, rfl, by decide +kernel, by decide +kernel⟩
theorem C__law_harmful (T : Wd K mg) : FnG (gd K) P w K mg base 5 "_law_harmful" 3 (fun rs en => ∃ (p : Pl) (items : List Str) (per off : Int), p.Ok ∧ 0 < per ∧ items.length ≤ 1500 ∧ rs = [.dat (ePlan p), .dat (.list (dS items)), .dat (.list (dI [per, off]))] ∧ en = bl_ (harmfulF p items per off)) := by
  obtain ⟨fd, F⟩ := T.df 46 (d := d__law_harmful)
  refine fnG_of F sc__law_harmful (T.glo 46) (fun _ _ _ _ _ _ us hl => match us, hl with | [_, _, _], _ => rfl) fun cdv A outer s H E hr rs en hl hφ => ⟨_, .inl rfl, ?_⟩
  obtain ⟨p, items, per, off, O, hp, hz, rfl, rfl⟩ := hφ
  generalize hR : lawPolledF items per off = rec
  have lR : rec.length ≤ items.length + 62 := hR ▸ lawPolledF_le items per off
  have hx := extraT_le items rec
  have h1 := cntT_le items
  have h2 := cntT_le rec
  refine xss_cons (xs_set 3 (XE.is (xe_call (C__law_polled T) (hr.mono (by decide)) (xa_cons (xe_var 1) (xa_cons (xe_ix (xe_var 2) xe_int (ixo_list rfl)) (xa_cons (xe_ix (xe_var 2) xe_int (ixo_list rfl)) xa_nil))) ⟨items, per, off, hp, by omega, rfl, rfl⟩) (en' := .own (dS rec)) (by rw [hR])) sc__law_harmful.nd) <| xss_freeze 3 (ds := dS rec) <|
    xss_cons (xs_set 4 (xe_bin (xe_cntT (x := "_law_item") T rfl 5 rfl sc__law_harmful.nd (xi_list (xe_var 3)) (bk ["_law_plan_here", "_law_items", "_law_numbers", "_law_received", "_law_ticks", "_law_item", "_law_k"] s__law_harmful) (by omega) ?_) (xe_cntT (x := "_law_item") T rfl 5 rfl sc__law_harmful.nd (xi_list (xe_var 1)) (bk ["_law_plan_here", "_law_items", "_law_numbers", "_law_received", "_law_ticks", "_law_item", "_law_k"] s__law_harmful) (by omega) ?_) bin_sub) sc__law_harmful.nd) <|
    xss_one (xs_ret (XE.is (xe_not (xe_call (C__law_same T) (hr.mono (by decide)) (xa_cons (xe_var 0) (xa_cons (xe_fr (XE.is (xe_bin (xe_var 1) (xe_fr (xe_lc [("_law_k", 6)] rfl sc__law_harmful.nd (bk ["_law_plan_here", "_law_items", "_law_numbers", "_law_received", "_law_ticks", "_law_item", "_law_k"] s__law_harmful) (xi_range (xe_var 4) (by omega) (by omega) T.range) (ds := dS (List.replicate (extraT items rec) TICK)) ?_ ?_)) (bin_cat ?_)) (en' := .own (dS (items ++ List.replicate (extraT items rec) TICK))) (congrArg En.own (List.map_append ..).symm))) (xa_cons (xe_var 3) xa_nil))) ⟨p, items ++ List.replicate (extraT items rec) TICK, rec, O, ?_, ?_, rfl, rfl⟩)) ?_))
  · exact fun s => ⟨_, fun X' ⟨_, _, _, _, _, e⟩ => by subst e; exact xg_name 5 sc__law_harmful.nd, fun X' ⟨_, _, _, _, _, e⟩ => by subst e; exact xt_cmp (xe_var 5) xe_str bin_eqS, fun X' ⟨_, _, _, _, _, e⟩ => by subst e; exact xe_var 5⟩
  · exact fun s => ⟨_, fun X' ⟨_, _, _, _, _, e⟩ => by subst e; exact xg_name 5 sc__law_harmful.nd, fun X' ⟨_, _, _, _, _, e⟩ => by subst e; exact xt_cmp (xe_var 5) xe_str bin_eqS, fun X' ⟨_, _, _, _, _, e⟩ => by subst e; exact xe_var 5⟩
  · refine LcR.rs (lcR_map (fun (i : Nat) => Rs.dat (.int (i : Int))) (fun (_ : Nat) => PyData.str TICK) (List.range (extraT items rec)) fun i hi => ?_) rfl (ticks_rng _)
    exact ⟨_, fun X' ⟨_, _, _, _, _, e⟩ => by subst e; exact xg_name 6 sc__law_harmful.nd, fun X' ⟨_, _, _, _, _, e⟩ => by subst e; exact xe_str⟩
  · rw [List.length_map, List.length_replicate]; omega
  · rw [List.length_map, List.length_map, List.length_replicate]; omega
  · rw [List.length_append, List.length_replicate]; omega
  · omega
  · unfold harmfulF
    rw [hR]
theorem sc__law_is_row : FnScope ["_law_plan_here", "_law_events", "_law_numbers", "_law_items", "_law_received", "_law_ticks", "_law_item", "_law_due", "_law_k"] ["_law_plan_here", "_law_events", "_law_numbers"] (defScope s__law_is_row) := ⟨rfl, rfl, rfl, by decide +kernel, rfl, by decide +kernel, by decide +kernel⟩
theorem C__law_is_row (T : Wd K mg) : FnG (gd K) P w K mg base 4 "_law_is_row" 3 (fun rs en => ∃ (p : Pl) (evs : List Ev) (per off : Int), p.Ok ∧ 0 < per ∧ (∀ e ∈ evs, okE e) ∧ evs.length ≤ 1500 ∧ rs = [.dat (ePlan p), .dat (.list (evs.map eE)), .dat (.list (dI [per, off]))] ∧ en = bl_ (isRowF p evs per off)) := by
  obtain ⟨fd, F⟩ := T.df 49 (d := d__law_is_row)
  refine fnG_of F sc__law_is_row (T.glo 49) (fun _ _ _ _ _ _ us hl => match us, hl with | [_, _, _], _ => rfl) fun cdv A outer s H E hr rs en hl hφ => ⟨_, .inl rfl, ?_⟩
  obtain ⟨p, evs, per, off, O, hp, hok, hz, rfl, rfl⟩ := hφ
  have hl0 := sentF_le evs
  generalize hI : sentF evs = items at hl0
  generalize hR : lawPolledF items per off = rec
  have lR : rec.length ≤ items.length + 62 := hR ▸ lawPolledF_le items per off
  have hx := extraT_le items rec
  have h1 := cntT_le items
  have h2 := cntT_le rec
  refine xss_cons (xs_set 3 (XE.is (xe_call (C__law_sent T) (hr.mono (by decide)) (xa_cons (xe_var 1) xa_nil) ⟨evs, hok, by omega, rfl, rfl⟩) (en' := .own (dS items)) (by rw [hI])) sc__law_is_row.nd) <| xss_freeze 3 (ds := dS items) <|
    xss_cons (xs_set 4 (XE.is (xe_call (C__law_polled T) (hr.mono (by decide)) (xa_cons (xe_var 3) (xa_cons (xe_ix (xe_var 2) xe_int (ixo_list rfl)) (xa_cons (xe_ix (xe_var 2) xe_int (ixo_list rfl)) xa_nil))) ⟨items, per, off, hp, by omega, rfl, rfl⟩) (en' := .own (dS rec)) (by rw [hR])) sc__law_is_row.nd) <| xss_freeze 4 (ds := dS rec) <|
    xss_cons (xs_set 5 (xe_bin (xe_cntT (x := "_law_item") T rfl 6 rfl sc__law_is_row.nd (xi_list (xe_var 4)) (bk ["_law_plan_here", "_law_events", "_law_numbers", "_law_items", "_law_received", "_law_ticks", "_law_item", "_law_due", "_law_k"] s__law_is_row) (by omega) ?_) (xe_cntT (x := "_law_item") T rfl 6 rfl sc__law_is_row.nd (xi_list (xe_var 3)) (bk ["_law_plan_here", "_law_events", "_law_numbers", "_law_items", "_law_received", "_law_ticks", "_law_item", "_law_due", "_law_k"] s__law_is_row) (by omega) ?_) bin_sub) sc__law_is_row.nd) <|
    xss_cons (xs_set 7 (xe_lst xd_nil) sc__law_is_row.nd) <|
    xss_cons (xs_for PassesOwn.never rfl (xi_list (xe_var 3)) (o := .nx [some (dat_ (ePlan p)), some (lst_ (evs.map eE)), some (lst_ (dI [per, off])), some (lst_ (dS items)), some (lst_ (dS rec)), some (int_ (cntT rec - cntT items)), none, some (.own ((items.map dueE).map eE)), none]) ?_) <| xss_freeze 7 <|
    xss_one (xs_ret (XE.is (xe_and (xe_cmp (xe_var 1) (xe_fr (XE.is (xe_bin (xe_fr (xe_bin (xe_var 7) (xe_fr (xe_lst (xd_cons (xe_tup (xd_cons xe_str xd_nil)) xd_nil))) (bin_cat ?_))) (xe_fr (xe_lc [("_law_k", 8)] rfl sc__law_is_row.nd (bk ["_law_plan_here", "_law_events", "_law_numbers", "_law_items", "_law_received", "_law_ticks", "_law_item", "_law_due", "_law_k"] s__law_is_row) (xi_range (xe_var 5) (by omega) (by omega) T.range) (ds := (List.replicate (extraT items rec) Ev.tick).map eE) ?_ ?_)) (bin_cat ?_)) (en' := .own ((items.map dueE ++ [Ev.stopped] ++ List.replicate (extraT items rec) Ev.tick).map eE)) ?_)) (bin_eqD hr.units ?_ ?_)) fun _ => xe_one (xe_call (C__law_permitted T) (hr.mono (by decide)) (xa_cons (xe_var 0) (xa_cons (xe_var 3) xa_nil)) ⟨p, items, O.t, rfl, rfl⟩)) ?_))
  · exact fun s => ⟨_, fun X' ⟨_, _, _, _, _, e⟩ => by subst e; exact xg_name 6 sc__law_is_row.nd, fun X' ⟨_, _, _, _, _, e⟩ => by subst e; exact xt_cmp (xe_var 6) xe_str bin_eqS, fun X' ⟨_, _, _, _, _, e⟩ => by subst e; exact xe_var 6⟩
  · exact fun s => ⟨_, fun X' ⟨_, _, _, _, _, e⟩ => by subst e; exact xg_name 6 sc__law_is_row.nd, fun X' ⟨_, _, _, _, _, e⟩ => by subst e; exact xt_cmp (xe_var 6) xe_str bin_eqS, fun X' ⟨_, _, _, _, _, e⟩ => by subst e; exact xe_var 6⟩
  · refine forR_inv (fun x => Rs.dat (.str x)) (fun l ρ => ∃ acc o6 o8, acc.length + l.length ≤ 2000 ∧ acc ++ l.map dueE = items.map dueE ∧ ρ = [some (dat_ (ePlan p)), some (lst_ (evs.map eE)), some (lst_ (dI [per, off])), some (lst_ (dS items)), some (lst_ (dS rec)), some (int_ (cntT rec - cntT items)), o6, some (.own (acc.map eE)), o8]) (map_dat _ _) ⟨[], none, none, by simp only [List.length_nil]; omega, rfl, rfl⟩ ?_ ?_
    · rintro ρ ⟨acc, o6, o8, _, e, rfl⟩
      have e : acc = items.map dueE := by rw [← e]; exact (List.append_nil _).symm
      subst e
      exact ⟨_, by repeat constructor, rfl⟩
    · rintro it l ρ ⟨acc, o6, o8, h0, e, rfl⟩
      rw [List.length_cons] at h0
      refine ⟨_, _, _, Le.refl _, xg_name 6 sc__law_is_row.nd, .inl ⟨[some (dat_ (ePlan p)), some (lst_ (evs.map eE)), some (lst_ (dI [per, off])), some (lst_ (dS items)), some (lst_ (dS rec)), some (int_ (cntT rec - cntT items)), some (str_ it), some (.own ((acc ++ [dueE it]).map eE)), o8], ?_, acc ++ [dueE it], _, _, by rw [List.length_append, List.length_singleton]; omega, by rw [List.append_assoc]; exact e, rfl⟩⟩
      refine xss_one (xs_if (xt_cmp (xe_var 6) xe_str bin_eqS) (fun h => ?_) (fun h => ?_))
      · have ht := of_decide_eq_true h
        refine XSs.is (xss_one (xs_append 7 (xe_tup (xd_cons xe_str xd_nil)) (hl := by rw [List.length_map]; omega))) ?_
        rw [List.map_append]
        unfold dueE
        rw [if_pos ht]
        rfl
      · have ht := of_decide_eq_false h
        refine XSs.is (xss_one (xs_append 7 (xe_tup (xd_cons xe_str (xd_cons (xe_var 6) xd_nil))) (hl := by rw [List.length_map]; omega))) ?_
        rw [List.map_append]
        unfold dueE
        rw [if_neg ht]
        rfl
  · simp only [List.length_map, List.length_singleton]; omega
  · refine LcR.rs (lcR_map (fun (i : Nat) => Rs.dat (.int (i : Int))) (fun (_ : Nat) => eE .tick) (List.range (extraT items rec)) fun i hi => ?_) rfl (evs_rng _)
    exact ⟨_, fun X' ⟨_, _, _, _, _, e⟩ => by subst e; exact xg_name 8 sc__law_is_row.nd, fun X' ⟨_, _, _, _, _, e⟩ => by subst e; exact xe_tup (xd_cons xe_str xd_nil)⟩
  · rw [List.length_map, List.length_replicate]; omega
  · simp only [List.length_map, List.length_append, List.length_replicate, List.length_singleton]; omega
  · rw [List.map_append, List.map_append]
    rfl
  · exact (shp_listE hok).ok
  · refine (shp_listE fun e he => ?_).ok
    rcases List.mem_append.mp he with he | he
    · rcases List.mem_append.mp he with he | he
      · obtain ⟨x, hx, rfl⟩ := List.mem_map.mp he
        have hxk : PyData.strOk x = true := sent_ok hok x (hI ▸ hx)
        unfold dueE
        split
        · exact (by decide +kernel : PyData.strOk TICK = true)
        · exact hxk
      · rw [List.mem_singleton.mp he]
        exact (by decide +kernel : PyData.strOk "stopped" = true)
    · rw [(List.mem_replicate.mp he).2]
      exact (by decide +kernel : PyData.strOk TICK = true)
  · unfold isRowF
    rw [hI, hR, eqv_listE]
end
end LC
namespace LC
open PySem PySem.Spec PyProof.Rows L2

theorem okS_app {a b : List Str} (h : okS a) (h' : okS b) : okS (a ++ b) := fun s hs => (List.mem_append.mp hs).elim (h s) (h' s)
theorem excessF_sub (sg a b : List Str) : ∀ x ∈ excessF sg a b, x ∈ a := fun x hx => by
  unfold excessF at hx
  obtain ⟨s, _, h⟩ := List.mem_flatMap.mp hx
  obtain ⟨h1, h2⟩ := List.mem_replicate.mp h
  rw [h2]
  refine List.count_pos_iff.mp ?_
  omega
theorem diffF_okD {view : Str} {sg a b : List Str} (ha : okS a) (hb : okS b) : okD (diffF view sg a b) := by
  unfold diffF
  split
  · exact ⟨fun s hs => (nomatch hs), fun s hs => (nomatch hs)⟩
  · split
    · exact ⟨fun s hs => ha s (excessF_sub sg a b s hs), fun s hs => hb s (excessF_sub sg b a s hs)⟩
    · exact ⟨fun s hs => ha s (List.mem_of_mem_drop hs), fun s hs => hb s (List.mem_of_mem_drop hs)⟩
theorem sigsOf_okS {k : Int} {l : List (Int × Str)} (h : ∀ g ∈ l, PyData.strOk g.2 = true) : okS (sigsOf k l) := fun s hs => by
  unfold sigsOf at hs
  obtain ⟨g, hg, rfl⟩ := List.mem_map.mp hs
  exact h g (List.mem_filter.mp hg).1
theorem runF_so {m : Mc} (M : m.Ok) : ∀ (l : List Str) (c : Cf), ∀ g ∈ (runF m c l).2, PyData.strOk g.2 = true
  | [], _, g, h => nomatch h
  | i :: l, c, g, h => by
    rcases List.mem_append.mp (show g ∈ (stepF m c i).2 ++ (runF m (stepF m c i).1 l).2 from h) with h | h
    · exact stepF_so M c i g h
    · exact runF_so M l _ g h
theorem extDs_okD {c : Cs} {ds : List Df} {sa sb : List (Int × Str)} (h : ∀ d ∈ ds, okD d) (ha : ∀ g ∈ sa, PyData.strOk g.2 = true) (hb : ∀ g ∈ sb, PyData.strOk g.2 = true) : ∀ d ∈ extDs c ds sa sb, okD d := fun d hd => by
  unfold extDs at hd
  obtain ⟨k, hk, rfl⟩ := List.mem_map.mp hd
  have hk := List.mem_range.mp hk
  have hg : okD (ds.getD k ([], [])) := by
    rw [List.getD_eq_getElem?_getD, List.getElem?_eq_getElem hk]
    exact h _ (List.getElem_mem hk)
  exact diffF_okD (okS_app hg.1 (sigsOf_okS ha)) (okS_app hg.2 (sigsOf_okS hb))
theorem heardF_okD {c : Cs} (C : c.Ok) {s : Sc} (h : ∀ d ∈ s.ds, okD d) (si ri : List Str) : ∀ d ∈ (heardF c s si ri).ds, okD d := extDs_okD h (runF_so C.p _ _) (runF_so C.p _ _)
theorem quietL_len {c : Cs} (C : c.Ok) : (quietL c).length ≤ 60 := by
  unfold quietL
  rw [List.length_replicate]
  have := C.q1
  omega
theorem rep_tick (n : Nat) : (List.replicate n [PyData.str TICK]).flatten = dS (List.replicate n TICK) := by
  induction n with
  | zero => rfl
  | succ n ih => rw [List.replicate_succ, List.replicate_succ, List.flatten_cons, ih]; rfl
/-! ### the path to a scene -/
abbrev Nd := Sc × Nat × Option Ev
def eEo : Option Ev → PyData
  | none => .none
  | some e => eE e
abbrev eN (n : Nd) : PyData := .tuple [eSc n.1, .int (n.2.1 : Int), eEo n.2.2]
def ndD : Nd := (⟨none, [], 0, (0, []), (0, []), []⟩, 0, none)
def upF (kept : List Nd) : Nat → Nat → List PyData
  | 0, _ => []
  | n + 1, i => if i = 0 then [] else eEo (kept.getD i ndD).2.2 :: upF kept n (kept.getD i ndD).2.1
def Kept (kept : List Nd) : Prop := ∀ i, 0 < i → i < kept.length → (kept.getD i ndD).2.1 < i
section
variable {P : Program} {w : World} {K : PySem.W.Frag} {mg : Str → Option Value} {base : Heap}
theorem sc_is_harmful : FnScope ["case", "scene", "quiet", "differences", "pair"] ["case", "scene"] (defScope s_is_harmful) := ⟨rfl, rfl, rfl, by decide +kernel, rfl, by decide +kernel, by decide +kernel⟩
theorem C_is_harmful (T : Wt K mg base) : FnG (gd K) P w K mg base 7 "is_harmful" 2 (fun rs en => ∃ (c : Cs) (s : Sc), c.Ok ∧ s.a.Ok c.prog ∧ s.b.Ok c.prog ∧ s.ds.length = c.prog.chans.length ∧ (∀ d ∈ s.ds, okD d ∧ d.1.length ≤ 190000 ∧ d.2.length ≤ 190000) ∧ rs = [.cas (eK c), .dat (eSc s)] ∧ en = bl_ (harmF c s)) := by
  obtain ⟨fd, F⟩ := T.w.df 17 (d := d_is_harmful)
  refine fnG_ofC (at_ := ("is_harmful", none)) F sc_is_harmful (T.w.glo 17) (fun _ _ _ _ _ _ us hl => match us, hl with | [_, _], _ => rfl) fun A outer s H E hr rs en hl hφ => ⟨_, .inl rfl, ?_⟩
  obtain ⟨c, sc, C, ha, hb, hd, hds, rfl, rfl⟩ := hφ
  have hq := quietL_len C
  have q0 := C.q0
  have q1 := C.q1
  have hu : ∀ u : Nat, u + 16 * 6 + 200 < cLine → u + 100 < cLine := fun u h => by omega
  have hq' : (dS (quietL c)).length ≤ 60 := by rw [List.length_map]; exact hq
  refine xss_cons (xs_set 2 (xe_fr (XE.is (xe_bin (xe_fr (xe_lst (xd_cons (xe_gstr T.w.tick) xd_nil))) (xe_qt T.w (xe_var 0)) (bin_rep (by omega) (by omega) (by simp only [List.length_singleton]; omega))) (en' := .own (dS (quietL c))) (congrArg En.own (rep_tick _)))) sc_is_harmful.nd) <|
    xss_cons (xs_set 3 (xe_ix (xe_call (C_heard T) (hr.mono (by decide)) (xa_cons (xe_var 0) (xa_cons (xe_var 1) (xa_cons (xe_var 2) (xa_cons (xe_var 2) xa_nil)))) ⟨c, sc, quietL c, quietL c, C, ha, hb, hd, by omega, by omega, fun d hd' => ?_, rfl, rfl⟩) xe_int (ixo_tup (d := .tuple ((heardF c sc (quietL c) (quietL c)).ds.map eD)) rfl)) sc_is_harmful.nd) <|
    xss_one (xs_ret (XE.is (xe_any hr (gd_tab (p := ("is_harmful", none)) (by decide +kernel)) (T.tb ("is_harmful", none) (by decide +kernel)) rfl (genS (n := 0) (dsc := defScope s_is_harmful) rfl (by decide +kernel)) T.w.any_ (xe_var 3) (elt_nonempty (gd_tab (p := ("is_harmful", none)) (by decide +kernel)) (hu _ hr.un) rfl (by decide +kernel) ?_)) ?_))
  · obtain ⟨_, h1, h2⟩ := hds d hd'
    omega
  · intro d hd'
    obtain ⟨x, hx, rfl⟩ := List.mem_map.mp hd'
    exact (shp_eD (heardF_okD C (fun d hd => (hds d hd).1) _ _ x hx)).ok
  · unfold harmF
    rw [List.length_map, ← range_any (fun d => !decide (d = ([], []))) ([], [])]
    refine congrArg bl_ ?_
    rw [Bool.eq_iff_iff, List.any_eq_true, List.any_eq_true]
    refine exists_congr fun k => and_congr_right fun hk => ?_
    have hk := List.mem_range.mp hk
    rw [getD_map eD _ k ([], []) hk, eqv_pair]
theorem sc_events_to : FnScope ["kept", "index", "events"] ["kept", "index"] (defScope s_events_to) := ⟨rfl, rfl, rfl, by decide +kernel, rfl, by decide +kernel, by decide +kernel⟩
theorem C_events_to (T : Wd K mg) : FnG (gd K) P w K mg base 1 "events_to" 2 (fun rs en => ∃ (kept : List Nd) (i : Nat), Kept kept ∧ i < kept.length ∧ kept.length ≤ 1000 ∧ rs = [.dat (.list (kept.map eN)), .dat (.int (i : Int))] ∧ en = .own (upF kept i i).reverse) := by
  obtain ⟨fd, F⟩ := T.df 19 (d := d_events_to)
  refine fnG_of F sc_events_to (T.glo 19) (fun _ _ _ _ _ _ us hl => match us, hl with | [_, _], _ => rfl) fun cdv A outer s H E hr rs en hl hφ => ⟨_, .inl rfl, ?_⟩
  obtain ⟨kept, i, hk, hi, hz, rfl, rfl⟩ := hφ
  have up : ∀ (n j : Nat) (acc : List PyData), j < kept.length → j ≤ n → acc.length + n ≤ 2000 → ∃ m, WhR (gd K) (bx P w K mg base ["kept", "index", "events"] d_events_to.qual d_events_to.scope (He.fAd K d_events_to.at_) cdv A outer s H E) (fun _ => False)
      (match s_events_to with | .FunctionDef _ _ (_ :: .While c _ _ _ :: _) _ _ _ _ _ _ _ => c | _ => .Constant .none 0 default) (match s_events_to with | .FunctionDef _ _ (_ :: .While _ b _ _ :: _) _ _ _ _ _ _ _ => b | _ => []) m
      [some (lst_ (kept.map eN)), some (int_ (j : Int)), some (.own acc)] (.nx [some (lst_ (kept.map eN)), some (int_ 0), some (.own (acc ++ upF kept n j))]) := by
    intro n
    induction n with
    | zero =>
      intro j acc hj hn ha
      have : j = 0 := by omega
      subst this
      refine ⟨0, _, Le.refl _, .inl ⟨XT.is (xt_cmp (xe_var 1) xe_int bin_gt) (by simp), ?_⟩⟩
      show Out.nx [_, _, some (En.own (acc ++ []))] = _
      rw [List.append_nil]
      rfl
    | succ n ih =>
      intro j acc hj hn ha
      by_cases h0 : j = 0
      · subst h0
        refine ⟨0, _, Le.refl _, .inl ⟨XT.is (xt_cmp (xe_var 1) xe_int bin_gt) (by simp), ?_⟩⟩
        show Out.nx [_, _, some (En.own (acc ++ upF kept (n + 1) 0))] = _
        rw [show upF kept (n + 1) 0 = [] from if_pos rfl, List.append_nil]
        rfl
      · have hp := hk j (by omega) hj
        obtain ⟨m, hm⟩ := ih (kept.getD j ndD).2.1 (acc ++ [eEo (kept.getD j ndD).2.2]) (by omega) (by omega) (by rw [List.length_append, List.length_singleton]; omega)
        refine ⟨m + 1, _, _, Le.refl _, XT.is (xt_cmp (xe_var 1) xe_int bin_gt) (decide_eq_true (by omega)), ?_, by
          rw [show upF kept (n + 1) j = eEo (kept.getD j ndD).2.2 :: upF kept n (kept.getD j ndD).2.1 from if_neg h0]
          rw [List.append_assoc] at hm
          exact hm⟩
        exact xss_cons (xs_append 2 (xe_ix (xe_ix (xe_var 0) (xe_var 1) (ixo_list (atI_map eN kept j ndD hj))) xe_int (ixo_tup (d := eEo (kept.getD j ndD).2.2) rfl)) (hl := by omega)) <|
          xss_one (xs_set 1 (xe_ix (xe_ix (xe_var 0) (xe_var 1) (ixo_list (atI_map eN kept j ndD hj))) xe_int (ixo_tup (d := .int ((kept.getD j ndD).2.1 : Int)) rfl)) sc_events_to.nd)
  obtain ⟨m, hm⟩ := up i i [] hi (Nat.le_refl _) (by simp only [List.length_nil]; omega)
  exact xss_cons (xs_set 2 (xe_lst xd_nil) sc_events_to.nd) <| xss_cons (xs_while m PassesOwn.never hm) <| xss_freeze 2 <| xss_one (xs_ret (xe_rev (xe_var 2)))
end
end LC
namespace LC
open PySem PySem.Spec PyProof.Rows L2

/-! ### more is known of the heap -/
def NoL (o : HO) : Prop := (∀ xs, o ≠ .lst xs) ∧ NoTbl o
def Gd.plus (G : Gd) (fs : List (Addr × HO)) (hn : ∀ p ∈ fs, NoL p.2) : Gd where
  cm := G.cm
  cc := G.cc
  tab := fun H => G.tab H ∧ ∀ p ∈ fs, H p.1 = some p.2
  mono := fun e h => ⟨G.mono e h.1, fun p hp => e _ _ (h.2 p hp) (hn p hp).1⟩
  obj := G.obj
  omono := G.omono
structure Sub (G G' : Gd) : Prop where
  cm : G'.cm = G.cm
  cc : G'.cc = G.cc
  tab : ∀ H, G'.tab H → G.tab H
  back : ∀ H H', G'.tab H → (∀ b o, H b = some o → NoTbl o → H' b = some o) → G.tab H' → G'.tab H'
  obj : ∀ F a u ds, G.obj F a u ds → G'.obj F a u ds
theorem Sub.plus {G : Gd} {fs : List (Addr × HO)} {hn : ∀ p ∈ fs, NoL p.2} : Sub G (G.plus fs hn) := ⟨rfl, rfl, fun _ h => h.1, fun H H' h k h' => ⟨h', fun p hp => k _ _ (h.2 p hp) (hn p hp).2⟩, fun _ _ _ _ h => h⟩
theorem Sub.trans {G G' G'' : Gd} (a : Sub G G') (b : Sub G' G'') : Sub G G'' := ⟨b.cm.trans a.cm, b.cc.trans a.cc, fun H h => a.tab H (b.tab H h), fun H H' h k h' => b.back H H' h k (a.back H H' (b.tab H h) k h'), fun F c u ds h => b.obj F c u ds (a.obj F c u ds h)⟩
theorem machAt_sub {G G' : Gd} (s : Sub G G') {F : Hp} {v : V} {m : MachD} : MachAt G F v m ↔ MachAt G' F v m := by
  constructor
  · intro ⟨a, dx, fs, h1, h2, h⟩
    exact ⟨a, dx, fs, h1, by rw [s.cm]; exact h2, h⟩
  · intro ⟨a, dx, fs, h1, h2, h⟩
    exact ⟨a, dx, fs, h1, by rw [← s.cm]; exact h2, h⟩
theorem caseAt_sub {G G' : Gd} (s : Sub G G') {F : Hp} {v : V} {c : CaseD} : CaseAt G F v c ↔ CaseAt G' F v c := by
  constructor
  · intro ⟨a, dx, fs, h1, h2, ⟨u, l1, m1⟩, f2, ⟨u', l2, m2⟩, f4⟩
    exact ⟨a, dx, fs, h1, by rw [s.cc]; exact h2, ⟨u, l1, (machAt_sub s).mp m1⟩, f2, ⟨u', l2, (machAt_sub s).mp m2⟩, f4⟩
  · intro ⟨a, dx, fs, h1, h2, ⟨u, l1, m1⟩, f2, ⟨u', l2, m2⟩, f4⟩
    exact ⟨a, dx, fs, h1, by rw [← s.cc]; exact h2, ⟨u, l1, (machAt_sub s).mpr m1⟩, f2, ⟨u', l2, (machAt_sub s).mpr m2⟩, f4⟩
theorem rsAt_sub {G G' : Gd} (s : Sub G G') {K : PySem.W.Frag} {F : Hp} {v : V} : ∀ {r : Rs}, r.At G K F v ↔ r.At G' K F v
  | .dat _ => Iff.rfl
  | .scr _ => Iff.rfl
  | .mach _ => machAt_sub s
  | .cas _ => caseAt_sub s
  | .raw _ => Iff.rfl
  | .clo _ _ _ => ⟨fun h => ⟨h.1, h.2.1, fun p hp => (caseAt_sub s).mp (h.2.2 p hp)⟩, fun h => ⟨h.1, h.2.1, fun p hp => (caseAt_sub s).mpr (h.2.2 p hp)⟩⟩
theorem rsAll_sub {G G' : Gd} (s : Sub G G') {K : PySem.W.Frag} {F : Hp} : ∀ {vs : List V} {rs : List Rs}, RsAll G' K F vs rs → RsAll G K F vs rs
  | _, _, .nil => .nil
  | _, _, .cons a t => .cons ((rsAt_sub s).mpr a) (rsAll_sub s t)
theorem enAt_sub {G G' : Gd} (s : Sub G G') {K : PySem.W.Frag} {F H : Hp} {v : V} {fp : List Addr} : ∀ {en : En}, en.At G K F H v fp → en.At G' K F H v fp
  | .rs _, h => ⟨h.1, (rsAt_sub s).mp h.2⟩
  | .own _, h => h
  | .own2 _, h => h
  | .res _ none, h => h
  | .res _ (some _), h => h
  | .obj _, ⟨a, u, h1, h2, h3, h4, h5⟩ => ⟨a, u, h1, h2, h3, h4, s.obj _ _ _ _ h5⟩
theorem spD_sub {G G' : Gd} (s : Sub G G') {K : PySem.W.Frag} {n : Nat} {Φ : List Rs → En → Prop} {vs : List V} {H : Hp} {Q : VK} {E E' : XK} (h : spD G' K n Φ vs H Q E) : spD G K n Φ vs H Q E' := by
  obtain ⟨F, rs, en, z, t, a, hl, hφ, q⟩ := h
  refine ⟨F, rs, en, z, s.tab H t, rsAll_sub s a, hl, hφ, fun v H' F' m => q v H' F' ⟨m.fz, m.grow, s.back H H' t m.grow.keep m.tab, ?_⟩⟩
  obtain ⟨fp, k1, k2, k3⟩ := m.at_
  exact ⟨fp, enAt_sub s k1, k2, k3⟩
theorem FnG.sub {G G' : Gd} (s : Sub G G') {P : Program} {w : World} {K : PySem.W.Frag} {mg : Str → Option Value} {base : Heap} {k : Nat} {x : Str} {n : Nat} {Φ : List Rs → En → Prop} (h : FnG G P w K mg base k x n Φ) : FnG G' P w K mg base k x n Φ := by
  obtain ⟨f, fd, ps, F, h1, h2, h3⟩ := h.ex
  exact ⟨f, fd, ps, F.imp fun vs H Q E q => spD_sub s q, h1, h2, h3⟩
/-! ### a function that stands in a slot: c = .clo f .., what its cells hold -/
def spV (G : Gd) (K : PySem.W.Frag) (f : Addr) (c : Rs) (n : Nat) (Φ : List Rs → En → Prop) : Sp := fun vs H Q _ => ∃ F rs en, Fz F H ∧ G.tab H ∧ c.At G K F (.ref f) ∧ RsAll G K F vs rs ∧ rs.length = n ∧ Φ rs en ∧ ∀ v H' F', Nx G K H F H' F' v en → Q v H'
theorem spV_sub {G G' : Gd} (s : Sub G G') {K : PySem.W.Frag} {f : Addr} {c : Rs} {n : Nat} {Φ : List Rs → En → Prop} {vs : List V} {H : Hp} {Q : VK} {E E' : XK} (h : spV G' K f c n Φ vs H Q E) : spV G K f c n Φ vs H Q E' := by
  obtain ⟨F, rs, en, z, t, c', a, hl, hφ, q⟩ := h
  refine ⟨F, rs, en, z, s.tab H t, (rsAt_sub s).mpr c', rsAll_sub s a, hl, hφ, fun v H' F' m => q v H' F' ⟨m.fz, m.grow, s.back H H' t m.grow.keep m.tab, ?_⟩⟩
  obtain ⟨fp, k1, k2, k3⟩ := m.at_
  exact ⟨fp, enAt_sub s k1, k2, k3⟩
structure FnV (G : Gd) (P : Program) (w : World) (K : PySem.W.Frag) (mg : Str → Option Value) (base : Heap) (k : Nat) (f : Addr) (c : Rs) (n : Nat) (Φ : List Rs → En → Prop) : Prop where
  at_ : ∀ (H : Hp) (h : Heap), G.tab H → HOk P w H h → PySem.W.FnAt f h
  run : ∀ (A : Around) (outer : List Env) (s : Shared) (H : Hp) (us : List Value) (vs : List V) (Q : VK) (E : XK), Room k A → Env0 P w K mg base A outer s H → Vals vs us → spV G K f c n Φ vs H Q E →
    codeAny (model P w) A (.call (.ref f) ⟨us, []⟩) (CR CX0 outer P w H s Q E) s
theorem FnV.sub {G G' : Gd} (s : Sub G G') {P : Program} {w : World} {K : PySem.W.Frag} {mg : Str → Option Value} {base : Heap} {k : Nat} {f : Addr} {c : Rs} {n : Nat} {Φ : List Rs → En → Prop} (h : FnV G P w K mg base k f c n Φ) : FnV G' P w K mg base k f c n Φ :=
  ⟨fun H hh t => h.at_ H hh (s.tab H t), fun A outer s' H us vs Q E hr e0 r q => h.run A outer s' H us vs Q E hr e0 r (spV_sub s q)⟩
def tCallV (G : Gd) (K : PySem.W.Frag) (c : Rs) (n : Nat) (Φ : List Rs → En → Prop) (f : Addr) (i : Nat) (t : TA) : TE := fun σ H Q => σ[i]? = some (some (.ref f)) ∧ G.tab H ∧ t σ H fun vs H1 => G.tab H1 ∧ spV G K f c n Φ vs H1 Q fun _ _ _ => False
section
variable {G : Gd} {X : Cx} {Ex : Hp → Prop} {ρ ρ1 ρ2 ρ' : Ro} {e a b : Expr} {es : List Expr} {st : Stmt} {sts : List Stmt} {p pos : Pos} {H0 F0 H F H' F' : Hp} {γ : Gh} {σ : L2.St} {o : Out} {D : Ends} {t : TA} {x : Str}
theorem pe_callV {i k n : Nat} {f : Addr} {c : Rs} {Φ : List Rs → En → Prop} (h : FnV G X.prog X.w X.K X.mg X.base k f c n Φ) (hr : Room k X.A) (hN : X.N[i]? = some x) (hv : Vis X.env.scope x) (ha : PA X (e :: es) t)
    (hd : (x == ("__debug__" : Str)) = false := by decide) (hcd : (x == ("__classdict__" : Str)) = false := by decide)
    (he : starEach (e :: es) X.env = (false, eval e X.env) :: starEach es X.env := by rfl) (hpl : (backTo pos (starEach es X.env)).any (·.1) = false := by rfl) :
    PE X (.Call (.Name x p) (e :: es) [] pos) (tCallV G X.K c n Φ f i t) := by
  refine ⟨fun pins s σ H Q I h' => ?_⟩
  obtain ⟨hs, ht0, ht⟩ := h'
  refine wpAny_Call_Name_kw (thn ((pe_var (pos := p) hN hv hd hcd).run pins s σ H (fun v H1 => v = .ref f ∧ H1 = H) I ⟨.ref f, hs, rfl, rfl⟩) fun u s1 ⟨v, H1, I1, r1, q1⟩ => ?_)
  obtain ⟨ev, eH⟩ := q1
  subst ev
  rw [eH] at I1
  obtain rfl : u = Value.ref f := r1
  refine PySem.W.callWith_F (first := []) (h.at_ _ _ ht0 I1.hok) (thn (ha.run pos pins s1 σ H _ I1 ht) fun us s2 ⟨vs, H2, I2, r, h1, q⟩ => ⟨h.at_ _ _ h1 I2.hok, ?_⟩) he hpl
  show wpAny _ _ (call (.ref f) us) _ _ _
  refine wpAny_call (codeAny_mono (h.run X.A X.stack s2 H2 us vs Q (fun _ _ _ => False) hr I2.env0 r q) fun r s' hq => ?_)
  cases r with
  | error e => exact pass0 pins σ H2 s2 e s' I2 hq
  | ok fl =>
    cases fl with
    | ret u => exact I2.after hq
    | next => exact False.elim hq
    | brk => exact False.elim hq
    | cont => exact False.elim hq
theorem xe_callV (i : Nat) {k n : Nat} {f : Addr} {ps : List (V × PyData)} {cs : List (V × CaseD)} {Φ : List Rs → En → Prop} {rs : List Rs} {en : En} (h : FnV G X.prog X.w X.K X.mg X.base k f (.clo f ps cs) n Φ) (hr : Room k X.A) (ha : XA G X (e :: es) ρ rs) (hφ : Φ rs en) (hn : rs.length = n := by rfl) (hi : ρ[i]? = some (some (.rs (.clo f ps cs))) := by rfl) (hN : X.N[i]? = some x := by rfl)
    (hv : Vis X.env.scope x := by first | exact Or.inl rfl | exact Or.inr (Or.inl rfl) | exact Or.inr (Or.inr rfl)) (hd : (x == ("__debug__" : Str)) = false := by decide) (hcd : (x == ("__classdict__" : Str)) = false := by decide)
    (he : starEach (e :: es) X.env = (false, eval e X.env) :: starEach es X.env := by rfl) (hpl : (backTo pos (starEach es X.env)).any (·.1) = false := by rfl) : XE G X (.Call (.Name x p) (e :: es) [] pos) ρ en := by
  obtain ⟨t, h1, h2⟩ := ha
  refine ⟨_, pe_callV (i := i) h hr hN hv h1 hd hcd he hpl, fun H0 F0 γ σ H F S Q q => ?_⟩
  obtain ⟨v, hs, hv'⟩ := S.slot hi
  obtain ⟨ev, hv2⟩ := hv'
  subst ev
  exact ⟨hs, S.tab, h2 _ _ _ _ _ _ S _ fun vs H1 F1 g z t a => ⟨t, F1, rs, en, z, t, Rs.At.mono (g.same S.fz) (r := .clo f ps cs) ⟨rfl, hv2⟩, a, hn, hφ, fun v H2 F2 m => q v H2 F2 (.from g m)⟩⟩
end
end LC
namespace LC
open PySem PySem.Spec PyProof.Rows L2

/-! ### a call with some cells put aside -/
def dele (H : Hp) (L : List Addr) : Hp := fun b => if b ∈ L then none else H b
def bck (H H' : Hp) (L : List Addr) : Hp := fun b => if b ∈ L then H b else H' b
theorem dele_in {H : Hp} {L : List Addr} {b : Addr} (h : b ∈ L) : dele H L b = none := if_pos h
theorem dele_out {H : Hp} {L : List Addr} {b : Addr} (h : b ∉ L) : dele H L b = H b := if_neg h
theorem bck_in {H H' : Hp} {L : List Addr} {b : Addr} (h : b ∈ L) : bck H H' L b = H b := if_pos h
theorem bck_out {H H' : Hp} {L : List Addr} {b : Addr} (h : b ∉ L) : bck H H' L b = H' b := if_neg h
theorem dele_some {H : Hp} {L : List Addr} {b : Addr} {o : HO} (h : dele H L b = some o) : b ∉ L ∧ H b = some o := by
  by_cases m : b ∈ L
  · rw [dele_in m] at h; cases h
  · rw [dele_out m] at h; exact ⟨m, h⟩
/-- the cell at c holds v -/
def CellO (c : Addr) (v : V) : HO := .ext fun h => ∃ u, RelV v u ∧ h.IsCell c (some u)
theorem cellO_nol {c : Addr} {v : V} : NoL (CellO c v) := ⟨fun _ z => (nomatch z), fun _ z => (nomatch z)⟩
def Ext1 (H : Hp) (L : List Addr) : Prop := ∀ c ∈ L, ∃ φ, H c = some (.ext φ)
section
variable {P : Program} {w : World} {H H' : Hp} {h h' : Heap} {L : List Addr}
theorem objOk_ch {a : Addr} : ∀ {o : HO}, (∀ b u, H b = some u → (∀ φ, u ≠ .ext φ) → H' b = some u) → ObjOk P w H h a o → ObjOk P w H' h a o
  | .lst _, _, x => x
  | .tup _, _, x => x
  | .dK _, _, x => x
  | .dT _, e, ⟨h1, h2, xs, h3, h4⟩ => ⟨h1, h2, xs, L2.Paired.mapP h3 fun p q ⟨k1, k2, k3⟩ => ⟨k1, e _ _ k2 fun _ z => (nomatch z), k3⟩, h4⟩
  | .set _ _, _, x => x
  | .ins _ _ _, e, ⟨h1, h2⟩ => ⟨e _ _ h1 fun _ z => (nomatch z), h2⟩
  | .own _, _, x => x
  | .xd _, _, x => x
  | .met _ _, _, x => x
  | .rng _ _, _, x => x
  | .frz _ _, e, ⟨h1, h2⟩ => ⟨h1, objOk_ch e h2⟩
  | .tbl _, _, x => x
  | .ext _, _, x => x
theorem hok_dele (x : Ext1 H L) (k : HOk P w H h) : HOk P w (dele H L) h := fun a o e => by
  obtain ⟨m, e⟩ := dele_some e
  refine objOk_ch (fun b u hb n => ?_) (k a o e)
  rw [dele_out fun z => ?_]
  · exact hb
  · obtain ⟨φ, q⟩ := x b z
    rw [hb] at q
    cases q
    exact n φ rfl
theorem env0_dele {K : PySem.W.Frag} {mg : Str → Option Value} {base : Heap} {A : Around} {outer : List Env} {s : Shared} (x : Ext1 H L) (e : Env0 P w K mg base A outer s H) : Env0 P w K mg base A outer s (dele H L) :=
  ⟨e.frames, e.mod, fun b o q => ⟨(e.bs b o q).1, by
    by_cases m : b ∈ L
    · exact dele_in m
    · rw [dele_out m]; exact (e.bs b o q).2⟩, e.bsz, e.funs, fun b hb => by
    by_cases m : b ∈ L
    · exact dele_in m
    · rw [dele_out m]; exact e.frf b hb, hok_dele x e.hok, e.bare⟩
theorem ce_bck {outer : List Env} {s s' : Shared} {Q Q' : VK} {u : Value} (x : Ext1 H L) (k : HOk P w H s.heap) (frf : ∀ b ∈ frs outer, H b = none) (c : CE outer P w (dele H L) s Q' u s') (q : ∀ v H', Q' v H' → (∀ c ∈ L, H' c = none) → Q v (bck H H' L)) : CE outer P w H s Q u s' := by
  obtain ⟨v, H', os, bare, un, hok, r, q'⟩ := c
  have there : ∀ c ∈ L, ∃ o φ, s.heap.get? c = some o ∧ H c = some (.ext φ) ∧ ObjOk P w H s.heap c (.ext φ) := fun c hc => by
    obtain ⟨φ, e⟩ := x c hc
    have z := k c _ e
    obtain ⟨o, ho⟩ := z.2.1
    exact ⟨o, φ, ho, e, z⟩
  have hn : ∀ c ∈ L, H' c = none := fun c hc => by
    obtain ⟨o, φ, h1, _, _⟩ := there c hc
    exact un.free c o h1 (dele_in hc) (by simp)
  refine ⟨v, bck H H' L, os, bare, ⟨fun b o e n m1 m2 => ?_, fun b o e n m1 m2 => ?_, fun b o e n m => ?_, un.there, fun b xs e => ?_, fun b o u e => ?_, fun b ps e => ?_⟩, fun a o e => ?_, r, q v H' q' hn⟩
  · refine un.keep b o e ?_ m1 m2
    by_cases m : b ∈ L
    · exact dele_in m
    · rw [dele_out m]; exact n
  · refine un.slot b o e ?_ m1 m2
    by_cases m : b ∈ L
    · exact dele_in m
    · rw [dele_out m]; exact n
  · by_cases m' : b ∈ L
    · rw [bck_in m']; exact n
    · rw [bck_out m']
      exact un.free b o e (by rw [dele_out m']; exact n) m
  · have m' : b ∉ L := fun z => by obtain ⟨φ, q⟩ := x b z; rw [e] at q; cases q
    rw [bck_out m']
    exact un.tups b xs (by rw [dele_out m']; exact e)
  · have m' : b ∉ L := fun z => by obtain ⟨φ, q⟩ := x b z; rw [e] at q; cases q
    rw [bck_out m']
    exact un.frzs b o u (by rw [dele_out m']; exact e)
  · have m' : b ∉ L := fun z => by obtain ⟨φ, q⟩ := x b z; rw [e] at q; cases q
    rw [bck_out m']
    exact un.tbls b ps (by rw [dele_out m']; exact e)
  · by_cases m' : a ∈ L
    · rw [bck_in m'] at e
      obtain ⟨o', φ, h1, h2, z1, _, z3⟩ := there a m'
      rw [h2] at e
      cases e
      have kp : s'.heap.get? a = some o' := un.keep a o' h1 (dele_in m') (fun z => by rw [frf a z] at h2; cases h2) (by simp)
      exact ⟨z3 _ _ z1 fun o e => by rw [h1] at e; cases e; exact kp, ⟨o', kp⟩, z3⟩
    · rw [bck_out m'] at e
      refine objOk_ch (fun b u hb _ => ?_) (hok a o e)
      rw [bck_out fun z => by rw [hn b z] at hb; cases hb]
      exact hb
end
/-! ### what a frame knows, with the cells put aside -/
mutual
theorem dt_ch {F F' : Hp} (e : ∀ b u, F b = some u → (∀ φ, u ≠ .ext φ) → F' b = some u) : ∀ (d : PyData) (v : V), Dt F v d → Dt F' v d
  | .none, _, h => by cases h; exact .non
  | .bool b, _, h => by cases h; exact .bl b
  | .int i, _, h => by cases h; exact .int i
  | .str x, _, h => by cases h; exact .str x
  | .list ds, _, h => by
    cases h with
    | lst hs ha => exact .lst (e _ _ hs fun _ z => nomatch z) (dtAll_ch e ds _ ha)
  | .tuple ds, _, h => by
    cases h with
    | tup hs ha => exact .tup (e _ _ hs fun _ z => nomatch z) (dtAll_ch e ds _ ha)
  | .dict _, _, h => by cases h
theorem dtAll_ch {F F' : Hp} (e : ∀ b u, F b = some u → (∀ φ, u ≠ .ext φ) → F' b = some u) : ∀ (ds : List PyData) (vs : List V), DtAll F vs ds → DtAll F' vs ds
  | [], _, h => by cases h; exact .nil
  | d :: ds, _, h => by
    cases h with
    | cons h1 h2 => exact .cons (dt_ch e d _ h1) (dtAll_ch e ds _ h2)
end
theorem machAt_ch {G : Gd} {F F' : Hp} (e : ∀ b u, F b = some u → (∀ φ, u ≠ .ext φ) → F' b = some u) {v : V} {m : MachD} (h : MachAt G F v m) : MachAt G F' v m := by
  obtain ⟨a, dx, fs, e1, h1, ⟨u1, a1, b1⟩, ⟨u2, a2, b2⟩, ⟨u3, a3, b3⟩, ⟨u4, a4, b4⟩, ⟨u5, a5, b5⟩⟩ := h.ex
  exact ⟨a, dx, fs, e1, e _ _ h1 fun _ z => (nomatch z), ⟨u1, a1, dt_ch e _ _ b1⟩, ⟨u2, a2, dt_ch e _ _ b2⟩, ⟨u3, a3, dt_ch e _ _ b3⟩, ⟨u4, a4, dt_ch e _ _ b4⟩, ⟨u5, a5, dt_ch e _ _ b5⟩⟩
theorem caseAt_ch {G : Gd} {F F' : Hp} (e : ∀ b u, F b = some u → (∀ φ, u ≠ .ext φ) → F' b = some u) {v : V} {c : CaseD} (h : CaseAt G F v c) : CaseAt G F' v c := by
  obtain ⟨a, dx, fs, e1, h1, ⟨u, l1, m1⟩, ⟨u2, a2, b2⟩, ⟨u', l2, m2⟩, ⟨u4, a4, b4⟩⟩ := h.ex
  exact ⟨a, dx, fs, e1, e _ _ h1 fun _ z => (nomatch z), ⟨u, l1, machAt_ch e m1⟩, ⟨u2, a2, dt_ch e _ _ b2⟩, ⟨u', l2, machAt_ch e m2⟩, ⟨u4, a4, dt_ch e _ _ b4⟩⟩
theorem rsAt_ch {G : Gd} {K : PySem.W.Frag} {F F' : Hp} (e : ∀ b u, F b = some u → (∀ φ, u ≠ .ext φ) → F' b = some u) {v : V} : ∀ {r : Rs}, r.At G K F v → r.At G K F' v
  | .dat d, h => dt_ch e d v h
  | .scr _, ⟨a, h1, h2⟩ => by
    refine ⟨a, h1, ?_⟩
    rcases h2 with (h2 | ⟨o, h2⟩) | h2
    · exact .inl (.inl (e _ _ h2 fun _ z => nomatch z))
    · exact .inl (.inr ⟨o, e _ _ h2 fun _ z => nomatch z⟩)
    · exact .inr h2
  | .mach _, h => machAt_ch e h
  | .cas _, h => caseAt_ch e h
  | .raw _, h => h
  | .clo _ _ _, h => ⟨h.1, fun p hp => dt_ch e _ _ (h.2.1 p hp), fun p hp => caseAt_ch e (h.2.2 p hp)⟩
theorem rsAll_ch {G : Gd} {K : PySem.W.Frag} {F F' : Hp} (e : ∀ b u, F b = some u → (∀ φ, u ≠ .ext φ) → F' b = some u) : ∀ {vs : List V} {rs : List Rs}, RsAll G K F vs rs → RsAll G K F' vs rs
  | _, _, .nil => .nil
  | _, _, .cons a t => .cons (rsAt_ch e a) (rsAll_ch e t)
/-- Go: what is known outside; Gi: within, the cells L put aside -/
structure Aside (Gi Go : Gd) (L : List Addr) : Prop where
  sub : Sub Gi Go
  ext : ∀ H, Go.tab H → Ext1 H L
  tab : ∀ H, Go.tab H → Gi.tab (dele H L)
theorem nx_bck {Gi Go : Gd} {L : List Addr} (S : Aside Gi Go L) {K : PySem.W.Frag} {H F H' F' : Hp} {v : V} {en : En} (z : Fz F H) (t : Go.tab H) (n : Nx Gi K (dele H L) (dele F L) H' F' v en) (hn : ∀ c ∈ L, H' c = none) : Nx Go K H F (bck H H' L) (bck F F' L) v en := by
  have x := S.ext H t
  have hF : ∀ c ∈ L, F' c = none := fun c hc => n.fz.non (hn c hc)
  have eH : ∀ b u, H' b = some u → bck H H' L b = some u := fun b u e => by rw [bck_out fun m => by rw [hn b m] at e; cases e]; exact e
  have eF : Same F' (bck F F' L) := fun b u e => by rw [bck_out fun m => by rw [hF b m] at e; cases e]; exact e
  have keep : ∀ b o, H b = some o → NoTbl o → bck H H' L b = some o := fun b o e nt => by
    by_cases m : b ∈ L
    · rw [bck_in m]; exact e
    · rw [bck_out m]; exact n.grow.keep b o (by rw [dele_out m]; exact e) nt
  refine ⟨fun b o e => ?_, ⟨keep, fun b e => ?_, fun b e => ?_⟩, ?_, ?_⟩
  · by_cases m : b ∈ L
    · rw [bck_in m] at e ⊢
      exact z b o e
    · rw [bck_out m] at e ⊢
      exact n.fz b o e
  · by_cases m : b ∈ L
    · rw [bck_in m] at e; exact e
    · rw [bck_out m] at e
      have := n.grow.live b e
      rwa [dele_out m] at this
  · by_cases m : b ∈ L
    · rw [bck_in m]
    · rw [bck_out m]
      have := n.grow.fro b (by rw [dele_out m]; exact e)
      rwa [dele_out m] at this
  · exact S.sub.back H _ t keep (Gi.mono (fun b u e _ => eH b u e) n.tab)
  · obtain ⟨fp, k1, k2, k3⟩ := n.at_
    refine ⟨fp, enAt_sub S.sub (k1.mono eF fun b u e _ => eH b u e), k2, fun b hb => ?_⟩
    have m : b ∉ L := fun m => k1.live b hb (hn b m)
    obtain ⟨q1, q2⟩ := k3 b hb
    rw [dele_out m] at q1
    rw [bck_out m]
    exact ⟨q1, q2⟩
theorem fz_dele {F H : Hp} {L : List Addr} (z : Fz F H) : Fz (dele F L) (dele H L) := fun b o e => by
  obtain ⟨m, e⟩ := dele_some e
  rw [dele_out m]
  exact z b o e
theorem dele_ch {F : Hp} {H : Hp} {L : List Addr} (z : Fz F H) (x : Ext1 H L) : ∀ b u, F b = some u → (∀ φ, u ≠ .ext φ) → dele F L b = some u := fun b u e n => by
  rw [dele_out fun m => ?_]
  · exact e
  · obtain ⟨φ, q⟩ := x b m
    rw [(z b u e).1] at q
    cases q
    exact n φ rfl
end LC
namespace LC
open PySem PySem.Spec PyProof.Rows L2

/-! ### an instance in the making -/
def AllRs (ρ : Ro) : Prop := ∀ en, some en ∈ ρ → ∃ r, en = .rs r
section
variable {G : Gd} {X : Cx} {Ex : Hp → Prop} {ρ ρ1 ρ2 ρ' : Ro} {e a b : Expr} {es : List Expr} {st : Stmt} {sts : List Stmt} {p pos : Pos} {H0 F0 H F H' F' : Hp} {γ : Gh} {σ : L2.St} {o : Out} {D : Ends} {K : PySem.W.Frag}
theorem slots_nofp : ∀ {σ : L2.St} {ρ : Ro} {fs : List (List Addr)}, SlotsAt G K F H σ ρ fs → AllRs ρ → fs.flatten = []
  | _, _, _, .nil, _ => rfl
  | _, _, _, .skip t, h => by
    rw [List.flatten_cons, List.nil_append]
    exact slots_nofp t fun en m => h en (List.mem_cons_of_mem _ m)
  | _, _, _, .cons (e := en) x t, h => by
    obtain ⟨r, rfl⟩ := h en (List.mem_cons_self ..)
    rw [List.flatten_cons, slots_nofp t fun en m => h en (List.mem_cons_of_mem _ m), x.1]
    rfl
structure Mk1 (G : Gd) (K : PySem.W.Frag) (H0 F0 : Hp) (x dx C : Addr) (σ : L2.St) (H F : Hp) (ρ : Ro) (fs : List (Str × V)) : Prop where
  fz : Fz F H
  tab : G.tab H
  sl : ∃ fp, SlotsAt G K F H σ ρ fp
  all : AllRs ρ
  g : Grow H0 F0 H F
  hx : H x = some (.ins C dx fs)
  fx : F x = none
  x0 : H0 x = none
theorem Mk1.sta {x dx C : Addr} {fs : List (Str × V)} (m : Mk1 G K H0 F0 x dx C σ H F ρ fs) : Sta G K H F [] σ H F ρ := by
  obtain ⟨fp, h⟩ := m.sl
  have e := slots_nofp h m.all
  exact ⟨m.fz, .refl _ _, m.tab, fun _ h => (nomatch h), fp, h, by rw [e]; exact List.nodup_nil, fun b hb => by rw [e] at hb; cases hb⟩
theorem nt_ins {C dx : Addr} {fs : List (Str × V)} : NoTbl (.ins C dx fs) := fun _ z => nomatch z
theorem Mk1.sta' {x dx C : Addr} {fs : List (Str × V)} {σ' : L2.St} (m : Mk1 G K H0 F0 x dx C σ H F ρ fs) (S : Sta G K H F [] σ' H' F' ρ') (a : AllRs ρ') : Mk1 G K H0 F0 x dx C σ' H' F' ρ' fs := by
  obtain ⟨fp, h, _, _⟩ := S.ex
  exact ⟨S.fz, S.tab, ⟨fp, h⟩, a, m.g.trans S.grow, S.grow.keep _ _ m.hx nt_ins, by rw [S.grow.fro x (by rw [m.hx]; exact fun z => nomatch z)]; exact m.fx, m.x0⟩
/-- the field is written -/
theorem ys_fld {x dx C : Addr} {fs : List (Str × V)} {f : Str} {self : Expr} {r : Rs} {p2 : Pos} (hlst : ∀ o y, G.tab o → (∃ z, o x = some (.ins C dx z)) → G.tab (upd o x (.ins C dx y))) (hs : XE G X self ρ (.rs (.raw (.ref x)))) (he : XE G X e ρ (.rs r)) (hc : Cls X.K C) (hn : NoAttr X.K C f)
    (m : Mk1 G X.K H0 F0 x dx C σ H F ρ fs) (hl : fs.length < 1000) (q : ∀ v H' F', Mk1 G X.K H0 F0 x dx C σ H' F' ρ (putF f v fs) → r.At G X.K F' v → Same F F' → D.nx σ H')
    (hsw : swapsWith e (some (.Attribute self f p2)) pos.line X.env = pure false := by rfl) : sS X (.Assign [.Attribute self f p2] e pos) D σ H := by
  obtain ⟨t1, h1, h2⟩ := he
  obtain ⟨t2, h3, h4⟩ := hs
  refine ⟨_, ps_fld h3 h1 hsw, h2 _ _ _ _ _ _ m.sta _ fun v H1 F1 n => h4 _ _ _ _ _ _ (m.sta.nx n) _ fun w H2 F2 n2 => ?_⟩
  have m2 := m.sta' ((m.sta.nx n).nx n2) m.all
  have ew : w = .ref x := n2.rsAt
  subst ew
  refine ⟨x, C, dx, fs, rfl, m2.hx, hc, hn, hl, q v _ F2 ?_ (n.rsAt.mono (n2.grow.same n.fz)) ((n.grow.trans n2.grow).same m.fz)⟩
  obtain ⟨fp, h⟩ := m2.sl
  have e := slots_nofp h m2.all
  refine ⟨fun b u q => ?_, hlst _ _ m2.tab ⟨_, m2.hx⟩, ⟨fp, h.upd (by rw [e]; exact fun z => nomatch z)⟩, m2.all, ⟨fun b u q n => ?_, fun b q => ?_, m2.g.fro⟩, upd_same, m2.fx, m2.x0⟩
  · have z := m2.fz b u q
    rw [upd_ne (ne_of_none q m2.fx)]
    exact z
  · rw [upd_ne (ne_of_none q m2.x0)]
    exact m2.g.keep b u q n
  · by_cases hb : b = x
    · rw [hb]; exact m2.x0
    · rw [upd_ne hb] at q
      exact m2.g.live b q
theorem ys_xs {x dx C : Addr} {fs : List (Str × V)} (hx : XS G X (fun _ => False) st ρ (.nx ρ')) (a : AllRs ρ') (m : Mk1 G X.K H0 F0 x dx C σ H F ρ fs) (q : ∀ σ' H' F', Mk1 G X.K H0 F0 x dx C σ' H' F' ρ' fs → Same F F' → D.nx σ' H') : sS X st D σ H :=
  hx _ _ _ _ _ _ m.sta D fun σ' H' F' S => q σ' H' F' (m.sta' S a) (S.grow.same m.fz)
theorem yss_cons (h : sS X st { D with nx := fun σ1 H1 => sSs X sts D σ1 H1 } σ H) : sSs X (st :: sts) D σ H := ⟨_, pss_cons ps_s pss_s, h⟩
theorem yss_one (h : sS X st D σ H) : sSs X [st] D σ H := ⟨_, pss_one ps_s, h⟩
end
end LC
namespace LC
open PySem PySem.Spec PyProof.Rows L2

theorem putF_lt {f : Str} {v : V} {fs : List (Str × V)} {n : Nat} (h : fs.length < n) : (putF f v fs).length < n + 1 := by
  have := length_putF f v fs
  omega
theorem tab_ins {K : PySem.W.Frag} {x C dx : Addr} (o : Hp) (y : List (Str × V)) (h : (gd K).tab o) (e : ∃ z, o x = some (.ins C dx z)) : (gd K).tab (upd o x (.ins C dx y)) := by
  obtain ⟨z, e⟩ := e
  exact TabAll.go h (fun c T' q r => by rw [upd_ne (fun k => by rw [k, e] at r; unfold CdX at r; cases r)]; exact r) fun T ps r => by rw [upd_ne (fun k => by rw [k, e] at r; cases r)]; exact r
theorem fldD_put {F : Hp} {fs : List (Str × V)} {f g : Str} {v : V} {d : PyData} (h : FldD F fs g d) (n : g ≠ f) : FldD F (putF f v fs) g d := by
  obtain ⟨u, h1, h2⟩ := h
  exact ⟨u, by rw [lookup_putF, if_neg n]; exact h1, h2⟩
theorem fldD_new {F : Hp} {fs : List (Str × V)} {f : Str} {v : V} {d : PyData} (h : Dt F v d) : FldD F (putF f v fs) f d := ⟨v, by rw [lookup_putF, if_pos rfl], h⟩
section
variable {P : Program} {w : World} {K : PySem.W.Frag} {mg : Str → Option Value} {base : Heap}
theorem Wd.cm (T : Wd K mg) : Cls K (He.ga K "Machine") := T.cls 72
theorem Wd.mm (T : Wd K mg) : Mk K (He.ga K "Machine") (He.ma K (He.ga K "Machine") "__init__") := He.mkr_ok (T.fact _ (List.mem_of_getElem? (show fa[73]? = some (.mkr "Machine") from rfl)))
theorem sc_Machine : FnScope ["self", "names", "clocks", "channels", "states", "rules"] ["self", "names", "clocks", "channels", "states", "rules"] (defScope s_Machine) := ⟨rfl, rfl, rfl, by decide +kernel, rfl, by decide +kernel, by decide +kernel⟩
abbrev spM (K : PySem.W.Frag) : Sp := fun vs H Q _ => ∃ (x dx : Addr) (ws : List V) (H0 F0 F : Hp) (d1 d2 d3 d4 d5 : List PyData), vs = .ref x :: ws ∧ Fz F H ∧ (gd K).tab H ∧ Grow H0 F0 H F ∧ H x = some (.ins (He.ga K "Machine") dx []) ∧ F x = none ∧ H0 x = none ∧
  RsAll (gd K) K F ws [.dat (.tuple d1), .dat (.tuple d2), .dat (.tuple d3), .dat (.tuple d4), .dat (.tuple d5)] ∧
  ∀ H' F' fs, Fz F' H' → (gd K).tab H' → Grow H0 F0 H' F' → H' x = some (.ins (He.ga K "Machine") dx fs) → F' x = none → FldD F' fs "names" (.tuple d1) → FldD F' fs "clocks" (.tuple d2) → FldD F' fs "channels" (.tuple d3) → FldD F' fs "states" (.tuple d4) → FldD F' fs "rules" (.tuple d5) → Q .non H'
theorem ok_Machine (T : Wd K mg) : ∃ fd, FnOk P w K mg base CX0 1 (He.fAd K d_Machine.at_) fd ["self", "names", "clocks", "channels", "states", "rules"] (spM K) ∧ Binds K fd ["self", "names", "clocks", "channels", "states", "rules"] [] := by
  obtain ⟨fd, F⟩ := T.df 5 (d := d_Machine)
  refine ⟨fd, F.ok sc_Machine (fun vs H Q E ⟨x, dx, ws, _, _, _, _, _, _, _, _, e, _, _, _, _, _, _, a, _⟩ => by rw [e, List.length_cons, a.length]; rfl) fun cdv A outer s H vs Q E hr ⟨x, dx, ws, H0, F0, F1, d1, d2, d3, d4, d5, e, z, t, g, hx, fx, x0, a, q⟩ => ?_, F.bindsN (fun _ _ _ _ _ _ us hl => match us, hl with | [_, _, _, _, _, _], _ => rfl)⟩
  subst e
  refine ⟨_, (pss_s (X := bx P w K mg base ["self", "names", "clocks", "channels", "states", "rules"] d_Machine.qual d_Machine.scope (He.fAd K d_Machine.at_) cdv A outer s H E)).nox, ?_⟩
  have a' : RsAll (gd K) K F1 (.ref x :: ws) [.raw (.ref x), .dat (.tuple d1), .dat (.tuple d2), .dat (.tuple d3), .dat (.tuple d4), .dat (.tuple d5)] := .cons rfl a
  have S := sta_ro (N := ["self", "names", "clocks", "channels", "states", "rules"]) z t a'
  obtain ⟨fp, sl, _, _⟩ := S.ex
  have m : Mk1 (gd K) K H0 F0 x dx (He.ga K "Machine") (L2.start ["self", "names", "clocks", "channels", "states", "rules"] (.ref x :: ws)) H F1 (ro ["self", "names", "clocks", "channels", "states", "rules"] [.raw (.ref x), .dat (.tuple d1), .dat (.tuple d2), .dat (.tuple d3), .dat (.tuple d4), .dat (.tuple d5)]) [] :=
    ⟨z, t, ⟨fp, sl⟩, (fun en h => by
      have h : some en ∈ [some (En.rs (.raw (.ref x))), some (En.rs (.dat (.tuple d1))), some (En.rs (.dat (.tuple d2))), some (En.rs (.dat (.tuple d3))), some (En.rs (.dat (.tuple d4))), some (En.rs (.dat (.tuple d5)))] := h
      simp only [List.mem_cons, Option.some.injEq, List.not_mem_nil, or_false] at h
      rcases h with h | h | h | h | h | h <;> exact ⟨_, h⟩), g, hx, fx, x0⟩
  refine yss_cons (ys_fld tab_ins (xe_var 0) (xe_callT T.tuple (xa_cons (xe_var 1) xa_nil) co_tupT) T.cm (T.noat 74) m (by decide) fun v1 H1 F1 m1 a1 _ => ?_)
  refine yss_cons (ys_fld tab_ins (xe_var 0) (xe_callT T.tuple (xa_cons (xe_var 2) xa_nil) co_tupT) T.cm (T.noat 75) m1 (Nat.lt_of_le_of_lt (length_putF ..) (by decide)) fun v2 H2 F2 m2 a2 s2 => ?_)
  refine yss_cons (ys_fld tab_ins (xe_var 0) (xe_callT T.tuple (xa_cons (xe_var 3) xa_nil) co_tupT) T.cm (T.noat 76) m2 (Nat.lt_of_lt_of_le (putF_lt (putF_lt (n := 1) (by decide))) (by decide)) fun v3 H3 F3 m3 a3 s3 => ?_)
  refine yss_cons (ys_fld tab_ins (xe_var 0) (xe_callT T.tuple (xa_cons (xe_var 4) xa_nil) co_tupT) T.cm (T.noat 77) m3 (Nat.lt_of_lt_of_le (putF_lt (putF_lt (putF_lt (n := 1) (by decide)))) (by decide)) fun v4 H4 F4 m4 a4 s4 => ?_)
  refine yss_one (ys_fld tab_ins (xe_var 0) (xe_callT T.tuple (xa_cons (xe_var 5) xa_nil) co_tupT) T.cm (T.noat 78) m4 (Nat.lt_of_lt_of_le (putF_lt (putF_lt (putF_lt (putF_lt (n := 1) (by decide))))) (by decide)) fun v5 H5 F5 m5 a5 s5 => ?_)
  have b1 : Dt F1 v1 (.tuple d1) := a1
  have b2 : Dt F2 v2 (.tuple d2) := a2
  have b3 : Dt F3 v3 (.tuple d3) := a3
  have b4 : Dt F4 v4 (.tuple d4) := a4
  have b5 : Dt F5 v5 (.tuple d5) := a5
  have s45 := s5
  have s35 : Same F3 F5 := fun b o e => s5 b o (s4 b o e)
  have s25 : Same F2 F5 := fun b o e => s35 b o (s3 b o e)
  have s15 : Same F1 F5 := fun b o e => s25 b o (s2 b o e)
  exact q H5 F5 _ m5.fz m5.tab m5.g m5.hx m5.fx (fldD_put (fldD_put (fldD_put (fldD_put (fldD_new (dp_mono s15 _ _ b1)) (by decide)) (by decide)) (by decide)) (by decide)) (fldD_put (fldD_put (fldD_put (fldD_new (dp_mono s25 _ _ b2)) (by decide)) (by decide)) (by decide)) (fldD_put (fldD_put (fldD_new (dp_mono s35 _ _ b3)) (by decide)) (by decide)) (fldD_put (fldD_new (dp_mono s45 _ _ b4)) (by decide)) (fldD_new b5)
theorem xe_Machine {X : Cx} {ρ : Ro} {e : Expr} {es : List Expr} {p pos : Pos} {d1 d2 d3 d4 d5 : List PyData} (T : Wd K mg) (hK : X.K = K) (hm : X.mg = mg) (hr : Room 2 X.A) (ha : XA (gd K) X (e :: es) ρ [.dat (.tuple d1), .dat (.tuple d2), .dat (.tuple d3), .dat (.tuple d4), .dat (.tuple d5)]) (hg : Gl X "Machine" := by rfl)
    (he : starEach (e :: es) X.env = (false, eval e X.env) :: starEach es X.env := by rfl) (hpl : (backTo pos (starEach es X.env)).any (·.1) = false := by rfl) : XE (gd K) X (.Call (.Name "Machine" p) (e :: es) [] pos) ρ (.rs (.mach ⟨.tuple d1, .tuple d2, .tuple d3, .tuple d4, .tuple d5⟩)) := by
  subst hK hm
  obtain ⟨fd, F, B⟩ := ok_Machine (P := X.prog) (w := X.w) (base := X.base) T
  obtain ⟨t, h1, h2⟩ := ha
  refine ⟨_, pe_make T.mm F hr hg (T.glo 5) B .nil pass0 h1 (by decide) he hpl, fun H0 F0 γ σ H F S Q q => h2 _ _ _ _ _ _ S _ fun vs H1 F1 g z t a x dx nx nd ne => ?_⟩
  have hnn : ∀ b u, H1 b = some u → b ≠ x ∧ b ≠ dx := fun b u e => ⟨fun k => (by rw [k, nx] at e; cases e), fun k => (by rw [k, nd] at e; cases e)⟩
  have kp : ∀ b u, H1 b = some u → (upd (upd H1 dx (.own x)) x (.ins (He.ga X.K "Machine") dx [])) b = some u := fun b u e => by rw [upd_ne (hnn b u e).1, upd_ne (hnn b u e).2]; exact e
  refine ⟨x, dx, vs, H1, F1, F1, d1, d2, d3, d4, d5, by rw [List.append_nil], fun b u e => ⟨kp b u (z b u e).1, (z b u e).2⟩, (gd X.K).mono (fun b u e _ => kp b u e) t, ⟨fun b u e _ => kp b u e, fun b e => ?_, fun b _ => rfl⟩, upd_same, z.non nx, nx, a, fun H' F' fs fz tb g' hx fx f1 f2 f3 f4 f5 => ⟨rfl, ?_⟩⟩
  · by_cases k : b = x
    · rw [k]; exact nx
    · rw [upd_ne k] at e
      by_cases k2 : b = dx
      · rw [k2]; exact nd
      · rw [upd_ne k2] at e; exact e
  · have sm : Same F' (upd F' x (.ins (He.ga X.K "Machine") dx fs)) := fun b o e => by rw [upd_ne (ne_of_none e fx)]; exact e
    refine q (.ref x) H' (upd F' x (.ins (He.ga X.K "Machine") dx fs)) (.from g ⟨fz.freeze hx nt_ins, ⟨g'.keep, g'.live, fun b hb => ?_⟩, tb, [], ⟨rfl, ?_⟩, List.nodup_nil, fun b hb => nomatch hb⟩)
    · rw [upd_ne (fun k => hb (by rw [k]; exact nx))]
      exact g'.fro b hb
    · exact ⟨x, dx, fs, rfl, upd_same, fldD_mono sm f1, fldD_mono sm f2, fldD_mono sm f3, fldD_mono sm f4, fldD_mono sm f5⟩
end
end LC
namespace LC
open PySem PySem.Spec PyProof.Rows L2

section
variable {G : Gd} {X : Cx} {ρ : Ro} {pos : Pos}
theorem xe_ty {x : Str} {n : String} (hm : X.mg x = none) (hg : Gl X x := by rfl) (hv : bootBuiltins x = some (.type n) := by decide +kernel) (hn : x ≠ "__name__" := by decide) (hd : (x == ("__debug__" : Str)) = false := by decide) : XE G X (.Name x pos) ρ (.rs (.raw (.ty n))) :=
  ⟨_, pe_bltn (v := .ty n) hg hm hv rfl hn hd, fun H0 F0 γ σ H F S Q q => q _ H F (.rs0 (r := Rs.raw (.ty n)) S rfl)⟩
theorem co_isi {i : Int} {n : String} {b : Bool} (h : kitB "int" n = some b) : CallOk G X (.builtin "isinstance") [.dat (.int i), .raw (.ty n)] (bl_ b) := ⟨_, call_isi, fun vs H F z t a Q k => by
  obtain ⟨v, v', rfl, a, b'⟩ := rsAll2 a
  cases a
  have b' : v' = .ty n := b'
  subst b'
  exact ⟨_, _, _, _, b, rfl, .ty n, .base (.int i), kit_ty h, k _ H F (.at0 z t (.bl b))⟩⟩
end
section
variable {P : Program} {w : World} {K : PySem.W.Frag} {mg : Str → Option Value} {base : Heap}
theorem sc_is_between : FnScope ["value", "least", "most"] ["value", "least", "most"] (defScope s_is_between) := ⟨rfl, rfl, rfl, by decide +kernel, rfl, by decide +kernel, by decide +kernel⟩
theorem C_is_between (T : Wd K mg) : FnG (gd K) P w K mg base 1 "is_between" 3 (fun rs en => ∃ (v a b : Int), rs = [.dat (.int v), .dat (.int a), .dat (.int b)] ∧ en = bl_ (decide (a ≤ v) && decide (v ≤ b))) := by
  obtain ⟨fd, F⟩ := T.df 0 (d := d_is_between)
  refine fnG_of F sc_is_between (T.glo 0) (fun _ _ _ _ _ _ us hl => match us, hl with | [_, _, _], _ => rfl) fun cdv A outer s H E hr rs en hl hφ => ⟨_, .inl rfl, ?_⟩
  obtain ⟨v, a, b, rfl, rfl⟩ := hφ
  refine xss_cons (xs_if (XW.t (xw_or (xt_not (xt_val (xe_callB T.isinstance (xa_cons (xe_var 0) (xa_cons (xe_ty (n := "int") T.int_) xa_nil)) (co_isi (b := true) (by decide +kernel))))) fun h => xw_or1 (xt_val (xe_callB T.isinstance (xa_cons (xe_var 0) (xa_cons (xe_ty (n := "bool") T.bool_) xa_nil)) (co_isi (b := false) (by decide +kernel)))))) (fun h => by cases h) (fun h => xss_nil)) <|
    xss_one (xs_ret (xe_chain (xe_var 1) (xe_var 0) (xe_var 2) bin_le bin_le))
end
end LC
namespace LC
open PySem PySem.Spec PyProof.Rows L2

structure CaseIn (c : Cs) : Prop where
  v : c.views.length = c.prog.chans.length
  vi : ∀ x ∈ c.views, (["ordered", "unordered", "ignored"] : List Str).contains x = true
  nm : c.prog.names = c.traf.names
  ok : okS c.prog.names
  tc : c.traf.chans = []
  tg : ∀ r ∈ c.prog.rules, r.tgt ≠ none
  q0 : 0 ≤ c.quiet
  q1 : c.quiet ≤ 60
theorem eqv_tupS (a b : List Str) : PyData.eqv (.tuple (dS a)) (.tuple (dS b)) = decide (a = b) := (by unfold PyData.eqv; rfl : PyData.eqv (.tuple (dS a)) (.tuple (dS b)) = PyData.eqvAll (dS a) (dS b)).trans (eqvAll_strs a b)
section
variable {P : Program} {w : World} {K : PySem.W.Frag} {mg : Str → Option Value} {base : Heap}
theorem Wd.cc (T : Wd K mg) : Cls K (He.ga K "Case") := T.cls 79
theorem Wd.mc (T : Wd K mg) : Mk K (He.ga K "Case") (He.ma K (He.ga K "Case") "__init__") := He.mkr_ok (T.fact _ (List.mem_of_getElem? (show fa[80]? = some (.mkr "Case") from rfl)))
theorem sc_Case : FnScope ["self", "program", "views", "traffic", "quiet"] ["self", "program", "views", "traffic", "quiet"] (defScope s_Case) := ⟨rfl, rfl, rfl, by decide +kernel, rfl, by decide +kernel, by decide +kernel⟩
abbrev spC (K : PySem.W.Frag) : Sp := fun vs H Q _ => ∃ (x dx : Addr) (ws : List V) (H0 F0 F : Hp) (c : Cs), CaseIn c ∧ vs = .ref x :: ws ∧ Fz F H ∧ (gd K).tab H ∧ Grow H0 F0 H F ∧ H x = some (.ins (He.ga K "Case") dx []) ∧ F x = none ∧ H0 x = none ∧
  RsAll (gd K) K F ws [.mach (eM c.prog), .dat (.list (dS c.views)), .mach (eM c.traf), .dat (.int c.quiet)] ∧
  ∀ H' F' fs, Fz F' H' → (gd K).tab H' → Grow H0 F0 H' F' → H' x = some (.ins (He.ga K "Case") dx fs) → F' x = none → (∃ u, fs.lookup ("program" : Str) = some u ∧ MachAt (gd K) F' u (eM c.prog)) → FldD F' fs "views" (.tuple (dS c.views)) → (∃ u, fs.lookup ("traffic" : Str) = some u ∧ MachAt (gd K) F' u (eM c.traf)) → FldD F' fs "quiet" (.int c.quiet) → Q .non H'
theorem ok_Case (T : Wt K mg base) (hex : ex K = true) : ∃ fd, FnOk P w K mg base CX0 3 (He.fAd K d_Case.at_) fd ["self", "program", "views", "traffic", "quiet"] (spC K) ∧ ∃ ds, Vals [] ds ∧ Binds K fd ["self", "program", "views", "traffic", "quiet"] ds := by
  obtain ⟨fd, F⟩ := T.w.df 1 (d := d_Case)
  have B := F.binds1 5 1 (ps := ["self", "program", "views", "traffic", "quiet"]) (fun z => nomatch z) rfl (fun Tt kV doc pm an cdv ct us its h1 h2 => match us, its, h1, h2 with | [_, _, _, _, _], [_], _, _ => ⟨_, rfl, rfl⟩)
  obtain ⟨oc, od, dV, kV, doc, pm, an, cdv, ct, osl, rfl, lk, hcd, _, _⟩ := F.ex
  obtain ⟨c0, rfl⟩ := He.codeIn_ref hcd
  have ec := He.codeOf_eq (p := ("Case", some "__init__")) lk (c := c0) rfl
  refine ⟨_, fn_of (N := ["self", "program", "views", "traffic", "quiet"]) lk hcd sc_Case (fun vs H Q E ⟨x, dx, ws, _, _, _, _, _, e, _, _, _, _, _, _, a, _⟩ => by rw [e, List.length_cons, a.length]; rfl) fun A outer s H vs Q E hr ⟨x, dx, ws, H0, F0, F1, c, C, e, z, t, g, hx, fx, x0, a, q⟩ => ?_, B⟩
  subst e
  rw [← ec] at hr ⊢
  refine ⟨_, (pss_s (X := bx P w K mg base ["self", "program", "views", "traffic", "quiet"] d_Case.qual d_Case.scope (He.fAd K d_Case.at_) (.ref (He.codeOf K ("Case", some "__init__"))) A outer s H E)).nox, ?_⟩
  have a' : RsAll (gd K) K F1 (.ref x :: ws) [.raw (.ref x), .mach (eM c.prog), .dat (.list (dS c.views)), .mach (eM c.traf), .dat (.int c.quiet)] := .cons rfl a
  obtain ⟨fp, sl, _, _⟩ := (sta_ro (N := ["self", "program", "views", "traffic", "quiet"]) z t a').ex
  have m : Mk1 (gd K) K H0 F0 x dx (He.ga K "Case") (L2.start ["self", "program", "views", "traffic", "quiet"] (.ref x :: ws)) H F1 (ro ["self", "program", "views", "traffic", "quiet"] [.raw (.ref x), .mach (eM c.prog), .dat (.list (dS c.views)), .mach (eM c.traf), .dat (.int c.quiet)]) [] :=
    ⟨z, t, ⟨fp, sl⟩, (fun en h => by
      have h : some en ∈ [some (En.rs (.raw (.ref x))), some (En.rs (.mach (eM c.prog))), some (En.rs (.dat (.list (dS c.views)))), some (En.rs (.mach (eM c.traf))), some (En.rs (.dat (.int c.quiet)))] := h
      simp only [List.mem_cons, Option.some.injEq, List.not_mem_nil, or_false] at h
      rcases h with h | h | h | h | h <;> exact ⟨_, h⟩), g, hx, fx, x0⟩
  have aR : AllRs [some (En.rs (.raw (.ref x))), some (En.rs (.mach (eM c.prog))), some (En.rs (.dat (.tuple (dS c.views)))), some (En.rs (.mach (eM c.traf))), some (En.rs (.dat (.int c.quiet)))] := fun en h => by
    simp only [List.mem_cons, Option.some.injEq, List.not_mem_nil, or_false] at h
    rcases h with h | h | h | h | h <;> exact ⟨_, h⟩
  refine yss_cons (ys_xs (ρ' := [some (En.rs (.raw (.ref x))), some (En.rs (.mach (eM c.prog))), some (En.rs (.dat (.tuple (dS c.views)))), some (En.rs (.mach (eM c.traf))), some (En.rs (.dat (.int c.quiet)))]) (xs_set 2 (xe_callT T.w.tuple (xa_cons (xe_var 2) xa_nil) co_tupL) sc_Case.nd) aR m fun σ1 H1 F2 m1 s1 => ?_)
  refine yss_cons (ys_xs (xs_if (XW.t (xw_or (k := false) (j := false) (XT.is (xt_cmp (xe_callB T.w.len (xa_cons (xe_var 2) xa_nil) co_lenT) (xe_callB T.w.len (xa_cons (xe_channels T.w (xe_var 1)) xa_nil) co_lenT) bin_neI) (by simp [C.v])) fun _ => xw_or1 (XT.is (xt_not (xt_val (xe_all hr (gd_tab (p := ("Case", some "__init__")) (by decide +kernel)) (T.tb ("Case", some "__init__") (by decide +kernel)) rfl (genS (n := 0) (dsc := defScope s_Case) rfl (by decide +kernel)) T.w.all_ (xe_var 2) (elt_inViews (us := ["ordered", "unordered", "ignored"]) (l := c.views) (gd_tab (p := ("Case", some "__init__")) (by decide +kernel)) rfl (by decide +kernel) (by decide +kernel) (T.w.glo 51) (He.tupB_ok (ex_tup hex)) rfl)))) ?_))) (fun h => by cases h) (fun _ => xss_nil)) aR m1 fun σ2 H2 F3 m2 s2 => ?_)
  · have h : ((List.range (dS c.views).length).all fun i => (["ordered", "unordered", "ignored"] : List Str).contains (c.views.getD i "")) = true := by
      rw [List.all_eq_true]
      intro k hk
      have hk := List.mem_range.mp hk
      rw [List.length_map] at hk
      rw [List.getD_eq_getElem?_getD, List.getElem?_eq_getElem hk]
      exact C.vi _ (List.getElem_mem hk)
    exact congrArg Bool.not h
  refine yss_cons (ys_xs (xs_if (XT.is (xt_cmp (xe_names T.w (xe_var 1)) (xe_names T.w (xe_var 3)) (bin_neD hr.units (shp_tup (shp_dS C.ok 0)).ok (shp_tup (shp_dS (C.nm ▸ C.ok) 0)).ok)) (b' := false) ?_) (fun h => by cases h) (fun _ => xss_nil)) aR m2 fun σ3 H3 F4 m3 s3 => ?_)
  · rw [eqv_tupS, C.nm, decide_eq_true rfl]
    rfl
  refine yss_cons (ys_xs (xs_if (XW.t (xw_or (k := false) (j := false) (XT.is (xt_truth (xe_channels T.w (xe_var 3) (d := .tuple (c.traf.chans.map eH)) rfl) ?_) ?_) fun _ => xw_or1 (XT.is (xt_not (xt_val (xe_all hr (gd_tab (p := ("Case", some "__init__")) (by decide +kernel)) (T.tb ("Case", some "__init__") (by decide +kernel)) rfl (genS (n := 0) (dsc := defScope s_Case) rfl (by decide +kernel)) T.w.all_ (xe_rules T.w (xe_var 1) (d := .tuple (c.prog.rules.map eR)) rfl) (elt_notNone (n := 2) (gd_tab (p := ("Case", some "__init__")) (by decide +kernel)) rfl (by decide +kernel) ?_ (by decide))))) ?_))) (fun h => by cases h) (fun _ => xss_nil)) aR m3 fun σ4 H4 F5 m4 s4 => ?_)
  · rw [C.tc]; trivial
  · rw [C.tc]; rfl
  · intro d hd
    obtain ⟨r, _, rfl⟩ := List.mem_map.mp hd
    exact ⟨_, _, rfl, rfl⟩
  · have h : ((List.range (c.prog.rules.map eR).length).all fun i => nnT 2 ((c.prog.rules.map eR).getD i .none)) = true := by
      rw [List.all_eq_true]
      intro k hk
      have hk := List.mem_range.mp hk
      rw [List.getD_eq_getElem?_getD, List.getElem?_eq_getElem hk]
      obtain ⟨r, hr, e⟩ := List.mem_map.mp (List.getElem_mem hk)
      show nnT 2 ((c.prog.rules.map eR)[k]) = true
      rw [← e]
      have := C.tg r hr
      show nn (eO r.tgt) = true
      cases ht : r.tgt with
      | none => exact absurd ht this
      | some i => rfl
    exact congrArg Bool.not h
  refine yss_cons (ys_xs (xs_if (XT.is (xt_not (xt_val (xe_call (C_is_between T.w) (hr.mono (by decide)) (xa_cons (xe_var 4) (xa_cons xe_int (xa_cons (xe_gint T.w.quiet) xa_nil))) ⟨_, _, _, rfl, rfl⟩))) (b' := false) ?_) (fun h => by cases h) (fun _ => xss_nil)) aR m4 fun σ5 H5 F6 m5 s5 => ?_)
  · rw [decide_eq_true C.q0, decide_eq_true C.q1]
    rfl
  refine yss_cons (ys_fld tab_ins (xe_var 0) (xe_var 1) T.w.cc (T.w.noat 81) m5 (by decide) fun v1 H6 F7 m6 a6 s6 => ?_)
  refine yss_cons (ys_fld tab_ins (xe_var 0) (xe_var 2) T.w.cc (T.w.noat 82) m6 (Nat.lt_of_lt_of_le (putF_lt (n := 1) (by decide)) (by decide)) fun v2 H7 F8 m7 a7 s7 => ?_)
  refine yss_cons (ys_fld tab_ins (xe_var 0) (xe_var 3) T.w.cc (T.w.noat 83) m7 (Nat.lt_of_lt_of_le (putF_lt (putF_lt (n := 1) (by decide))) (by decide)) fun v3 H8 F9 m8 a8 s8 => ?_)
  refine yss_one (ys_fld tab_ins (xe_var 0) (xe_var 4) T.w.cc (T.w.noat 84) m8 (Nat.lt_of_lt_of_le (putF_lt (putF_lt (putF_lt (n := 1) (by decide)))) (by decide)) fun v4 H9 Fa m9 a9 s9 => ?_)
  have b1 : MachAt (gd K) F7 v1 (eM c.prog) := a6
  have b2 : Dt F8 v2 (.tuple (dS c.views)) := a7
  have b3 : MachAt (gd K) F9 v3 (eM c.traf) := a8
  have b4 : Dt Fa v4 (.int c.quiet) := a9
  have s89 : Same F8 Fa := fun b o e => s9 b o (s8 b o e)
  have s79 : Same F7 Fa := fun b o e => s89 b o (s7 b o e)
  refine q H9 Fa _ m9.fz m9.tab m9.g m9.hx m9.fx ⟨v1, ?_, machAt_mono s79 b1⟩ (fldD_put (fldD_put (fldD_new (dp_mono s89 _ _ b2)) (by decide)) (by decide)) ⟨v3, ?_, machAt_mono s9 b3⟩ (fldD_new b4)
  · rw [lookup_putF, if_neg (by decide), lookup_putF, if_neg (by decide), lookup_putF, if_neg (by decide), lookup_putF, if_pos rfl]
  · rw [lookup_putF, if_neg (by decide), lookup_putF, if_pos rfl]
end
end LC
namespace LC
open PySem PySem.Spec PyProof.Rows L2

def csOf (p : Pl) : Cs := ⟨p.prog, p.views, p.traf, p.quiet⟩
section
variable {P : Program} {w : World} {K : PySem.W.Frag} {mg : Str → Option Value} {base : Heap}
theorem xe_Case {X : Cx} {ρ : Ro} {e : Expr} {es : List Expr} {p pos : Pos} {c : Cs} (T : Wt K mg X.base) (hex : ex K = true) (hK : X.K = K) (hm : X.mg = mg) (C : CaseIn c) (hr : Room 4 X.A) (ha : XA (gd K) X (e :: es) ρ [.mach (eM c.prog), .dat (.list (dS c.views)), .mach (eM c.traf), .dat (.int c.quiet)]) (hg : Gl X "Case" := by rfl)
    (he : starEach (e :: es) X.env = (false, eval e X.env) :: starEach es X.env := by rfl) (hpl : (backTo pos (starEach es X.env)).any (·.1) = false := by rfl) : XE (gd K) X (.Call (.Name "Case" p) (e :: es) [] pos) ρ (.rs (.cas (eK c))) := by
  subst hK hm
  obtain ⟨fd, F, ds, hds, B⟩ := ok_Case (P := X.prog) (w := X.w) T hex
  obtain ⟨t, h1, h2⟩ := ha
  refine ⟨_, pe_make T.w.mc F hr hg (T.w.glo 1) B hds pass0 h1 (by decide) he hpl, fun H0 F0 γ σ H F S Q q => h2 _ _ _ _ _ _ S _ fun vs H1 F1 g z t a x dx nx nd ne => ?_⟩
  have hnn : ∀ b u, H1 b = some u → b ≠ x ∧ b ≠ dx := fun b u e => ⟨fun k => (by rw [k, nx] at e; cases e), fun k => (by rw [k, nd] at e; cases e)⟩
  have kp : ∀ b u, H1 b = some u → (upd (upd H1 dx (.own x)) x (.ins (He.ga X.K "Case") dx [])) b = some u := fun b u e => by rw [upd_ne (hnn b u e).1, upd_ne (hnn b u e).2]; exact e
  refine ⟨x, dx, vs, H1, F1, F1, c, C, by rw [List.append_nil], fun b u e => ⟨kp b u (z b u e).1, (z b u e).2⟩, (gd X.K).mono (fun b u e _ => kp b u e) t, ⟨fun b u e _ => kp b u e, fun b e => ?_, fun b _ => rfl⟩, upd_same, z.non nx, nx, a, fun H' F' fs fz tb g' hx fx f1 f2 f3 f4 => ⟨rfl, ?_⟩⟩
  · by_cases k : b = x
    · rw [k]; exact nx
    · rw [upd_ne k] at e
      by_cases k2 : b = dx
      · rw [k2]; exact nd
      · rw [upd_ne k2] at e; exact e
  · have sm : Same F' (upd F' x (.ins (He.ga X.K "Case") dx fs)) := fun b o e => by rw [upd_ne (ne_of_none e fx)]; exact e
    refine q (.ref x) H' (upd F' x (.ins (He.ga X.K "Case") dx fs)) (.from g ⟨fz.freeze hx nt_ins, ⟨g'.keep, g'.live, fun b hb => ?_⟩, tb, [], ⟨rfl, ?_⟩, List.nodup_nil, fun b hb => nomatch hb⟩)
    · rw [upd_ne (fun k => hb (by rw [k]; exact nx))]
      exact g'.fro b hb
    · obtain ⟨u1, l1, m1⟩ := f1
      obtain ⟨u3, l3, m3⟩ := f3
      exact ⟨x, dx, fs, rfl, upd_same, ⟨u1, l1, machAt_mono sm m1⟩, fldD_mono sm f2, ⟨u3, l3, machAt_mono sm m3⟩, fldD_mono sm f4⟩
theorem sc__law_case : FnScope ["_law_plan_here", "_law_program", "_law_traffic_here"] ["_law_plan_here"] (defScope s__law_case) := ⟨rfl, rfl, rfl, by decide +kernel, rfl, by decide +kernel, by decide +kernel⟩
theorem C__law_case (T : Wt K mg base) : FnG (gd K) P w K mg base 5 "_law_case" 1 (fun rs en => ex K = true ∧ ∃ p : Pl, CaseIn (csOf p) ∧ rs = [.dat (ePlan p)] ∧ en = .rs (.cas (eK (csOf p)))) := by
  obtain ⟨fd, F⟩ := T.w.df 39 (d := d__law_case)
  refine fnG_of F sc__law_case (T.w.glo 39) (fun _ _ _ _ _ _ us hl => match us, hl with | [_], _ => rfl) fun cdv A outer s H E hr rs en hl hφ => ⟨_, .inl rfl, ?_⟩
  obtain ⟨hex, p, C, rfl, rfl⟩ := hφ
  refine xss_cons (xs_set 1 (xe_Machine T.w rfl rfl (hr.mono (by decide)) (xa_cons (xe_ix (xe_ix (xe_var 0) xe_int (ixo_list (d := eP p.prog) rfl)) xe_int (ixo_list rfl)) (xa_cons (xe_ix (xe_ix (xe_var 0) xe_int (ixo_list (d := eP p.prog) rfl)) xe_int (ixo_list rfl)) (xa_cons (xe_ix (xe_ix (xe_var 0) xe_int (ixo_list (d := eP p.prog) rfl)) xe_int (ixo_list rfl)) (xa_cons (xe_ix (xe_ix (xe_var 0) xe_int (ixo_list (d := eP p.prog) rfl)) xe_int (ixo_list rfl)) (xa_cons (xe_ix (xe_ix (xe_var 0) xe_int (ixo_list (d := eP p.prog) rfl)) xe_int (ixo_list rfl)) xa_nil)))))) sc__law_case.nd) <|
    xss_cons (xs_set 2 (xe_Machine T.w rfl rfl (hr.mono (by decide)) (xa_cons (xe_ix (xe_ix (xe_var 0) xe_int (ixo_list (d := eP p.traf) rfl)) xe_int (ixo_list rfl)) (xa_cons (xe_ix (xe_ix (xe_var 0) xe_int (ixo_list (d := eP p.traf) rfl)) xe_int (ixo_list rfl)) (xa_cons (xe_ix (xe_ix (xe_var 0) xe_int (ixo_list (d := eP p.traf) rfl)) xe_int (ixo_list rfl)) (xa_cons (xe_ix (xe_ix (xe_var 0) xe_int (ixo_list (d := eP p.traf) rfl)) xe_int (ixo_list rfl)) (xa_cons (xe_ix (xe_ix (xe_var 0) xe_int (ixo_list (d := eP p.traf) rfl)) xe_int (ixo_list rfl)) xa_nil)))))) sc__law_case.nd) <|
    xss_one (xs_ret (xe_Case (c := csOf p) T hex rfl rfl C hr (xa_cons (xe_var 1) (xa_cons (xe_fr (xe_callT T.w.list (xa_cons (xe_ix (xe_var 0) xe_int (ixo_list rfl)) xa_nil) co_listL)) (xa_cons (xe_var 2) (xa_cons (xe_ix (xe_var 0) xe_int (ixo_list rfl)) xa_nil))))))
end
end LC
namespace LC
open PySem PySem.Spec PyProof.Rows L2

/-! ### what may raise TooLarge -/
abbrev TLc (K : PySem.W.Frag) : Value := .ref (He.ga K "TooLarge")
def spE (G : Gd) (K : PySem.W.Frag) (n : Nat) (Φ : List Rs → Option En → Prop) : Sp := fun vs H Q E => ∃ F rs oe, Fz F H ∧ G.tab H ∧ RsAll G K F vs rs ∧ rs.length = n ∧ Φ rs oe ∧ (∀ en, oe = some en → ∀ v H' F', Nx G K H F H' F' v en → Q v H') ∧ (oe = none → ∀ d H' F', Grow H F H' F' → Fz F' H' → G.tab H' → E (TLc K) d H')
structure FnE (G : Gd) (P : Program) (w : World) (K : PySem.W.Frag) (mg : Str → Option Value) (base : Heap) (k : Nat) (x : Str) (n : Nat) (Φ : List Rs → Option En → Prop) : Prop where
  ex : ∃ f fd ps, FnOk P w K mg base (L2.CX P w) k f fd ps (spE G K n Φ) ∧ mg x = some (.ref f) ∧ PySem.W.keepIn K (.ref f) = true ∧ Binds K fd ps []
/-- the context of a def's body that may raise -/
abbrev bxE (P : Program) (w : World) (K : PySem.W.Frag) (mg : Str → Option Value) (base : Heap) (N : List Str) (qual : Str) (scope : Scope) (f : Addr) (cd : Value) (A : Around) (outer : List Env) (s : Shared) (H : Hp) (E : XK) : Cx := cxOf (L2.CX P w) P w K mg base N qual scope f cd A outer s H E
/-- what X wishes of TooLarge -/
def Tk (X : Cx) (Ex : Hp → Prop) : Prop := L2.Takes X fun cls _ _ H => cls = TLc X.K ∧ Ex H
theorem tk_bxE {P : Program} {w : World} {K : PySem.W.Frag} {mg : Str → Option Value} {base : Heap} {N : List Str} {qual : Str} {scope : Scope} {f : Addr} {cd : Value} {A : Around} {outer : List Env} {s : Shared} {H : Hp} {E : XK} {Ex : Hp → Prop} (h : ∀ d H, Ex H → E (TLc K) d H) : Tk (bxE P w K mg base N qual scope f cd A outer s H E) Ex :=
  (L2.takes_of (X := bxE P w K mg base N qual scope f cd A outer s H E) (E := E) rfl rfl rfl rfl).imp fun c d σ H ⟨e, q⟩ => e ▸ h d H q
theorem po_bxE {P : Program} {w : World} {K : PySem.W.Frag} {mg : Str → Option Value} {base : Heap} {N : List Str} {qual : Str} {scope : Scope} {f : Addr} {cd : Value} {A : Around} {outer : List Env} {s : Shared} {H : Hp} {E : XK} :
    PassesOwn (model P w) (bxE P w K mg base N qual scope f cd A outer s H E).A (bxE P w K mg base N qual scope f cd A outer s H E).env (bxE P w K mg base N qual scope f cd A outer s H E).xe := PassesOwn.leaving
def EndsE (oe : Option En) (o : Out) : Prop := match oe with
  | none => o = .xc
  | some en => Ends0 en o
section
variable {G : Gd} {P : Program} {w : World} {K : PySem.W.Frag} {mg : Str → Option Value} {base : Heap} {x qual : Str} {params : Arguments} {body : List Stmt} {scope : Scope} {dvs : List V} {kws : List (Str × V)} {f : Addr} {fd : FuncData} {N ps : List Str} {k : Nat} {Φ : List Rs → Option En → Prop}
theorem fnE_of (F : FunD K x qual params body scope dvs kws f fd) (S : FnScope N ps scope) (hm : mg x = some (.ref f)) (hb : Binds K fd ps [])
    (hbody : ∀ (cdv : Value) (A : Around) (outer : List Env) (s : Shared) (H : Hp) (E : XK), Room k (A.deeper (envOfC qual scope s.heap.objs.size f cdv)) → ∀ rs oe, rs.length = ps.length → Φ rs oe → ∀ Ex : Hp → Prop, Tk (bxE P w K mg base N qual scope f cdv A outer s H E) Ex →
      ∃ o, EndsE oe o ∧ XSs G (bxE P w K mg base N qual scope f cdv A outer s H E) Ex body (ro N rs) o) : FnE G P w K mg base (k + 1) x ps.length Φ := by
  refine ⟨f, fd, ps, F.ok S (fun vs H Q E ⟨F, rs, en, _, _, a, hl, _⟩ => a.length.trans hl) fun cdv A outer s H vs Q E hr ⟨F1, rs, oe, z, t, a, hl, hφ, q, qe⟩ => ?_, hm, F.kp, hb⟩
  obtain ⟨o, ho, hx⟩ := hbody cdv A outer s H E hr rs oe hl hφ (fun H' => ∀ d, E (TLc K) d H') (tk_bxE fun d H h => h d)
  refine ⟨_, pss_s (X := bxE P w K mg base N qual scope f cdv A outer s H E), hx _ _ _ _ _ _ (sta_ro z t a) _ ?_⟩
  cases oe with
  | none =>
    have ho : o = .xc := ho
    subst ho
    exact fun H' F' g z' t' d => qe rfl d H' F' g z' t'
  | some en =>
    rcases ho with e | ⟨ρ', e, e'⟩
    · subst e
      exact fun v H1 F2 n => q en rfl v H1 F2 n
    · subst e e'
      exact fun σ1 H1 F2 S1 => q _ rfl .non H1 F2 (.from S1.grow (Nx.rs0 (r := Rs.dat .none) S1 Dt.non))
end
section
variable {G : Gd} {X : Cx} {Ex : Hp → Prop} {ρ ρ1 ρ2 ρ' : Ro} {e a b : Expr} {es : List Expr} {st : Stmt} {sts : List Stmt} {p pos : Pos} {H0 F0 H F H' F' : Hp} {γ : Gh} {σ : L2.St} {o : Out} {D : Ends} {x : Str}
/-- raise TooLarge('..') -/
theorem xs_raise {m : Str} {j : Nat} {p2 p3 : Pos} {bmB : List Value} {B newId initId : String} (hc : X.calm = true) (tk : Tk X Ex) (FB : ExcBaseFacts B newId initId bmB) (qe : PySem.W.excIn X.K (He.ga X.K "TooLarge") bmB newId = true) (gC : X.mg "TooLarge" = some (TLc X.K)) (kC : PySem.W.keepIn X.K (TLc X.K) = true) (r : L2.Raises X (TLc X.K)) (hg : Gl X "TooLarge" := by rfl) :
    XS G X Ex (.Raise (some (.Call (.Name "TooLarge" p) [.Constant (.str m) j p2] [] p3)) none pos) ρ .xc := fun H0 F0 γ σ H F S D qx =>
  ⟨_, L2.ps_raise hc tk (L2.pmk_own FB qe gC kC r hg), ⟨rfl, qx H F S.grow S.fz S.tab⟩⟩
/-- the call of a def that may raise: oe = none says that it does -/
theorem pe_callE {k n : Nat} {Φ : List Rs → Option En → Prop} {rs : List Rs} {oe : Option En} (h : FnE G X.prog X.w X.K X.mg X.base k x n Φ) (tk : Tk X Ex) (hr : Room k X.A) (ha : XA G X (e :: es) ρ rs) (hφ : Φ rs oe) (hn : rs.length = n := by rfl) (hg : Gl X x := by rfl) (hdb : (x == ("__debug__" : Str)) = false := by decide)
    (he : starEach (e :: es) X.env = (false, eval e X.env) :: starEach es X.env := by rfl) (hpl : (backTo pos (starEach es X.env)).any (·.1) = false := by rfl) :
    ∃ t, PE X (.Call (.Name x p) (e :: es) [] pos) t ∧ ∀ H0 F0 γ σ H F, Sta G X.K H0 F0 γ σ H F ρ → ∀ Q : VK, (∀ en, oe = some en → ∀ v H' F', Nx G X.K H F H' F' v en → Q v H') → (oe = none → ∀ H' F', Grow H0 F0 H' F' → Fz F' H' → G.tab H' → Ex H') → t σ H Q := by
  obtain ⟨t, h1, h2⟩ := ha
  obtain ⟨f, fd, ps, F, hm, hk, hb⟩ := h.ex
  refine ⟨_, L2.pe_callS (E := L2.WE fun cls _ _ H => cls = TLc X.K ∧ Ex H) F hr hg hm hk hb (L2.passAt tk) h1 hdb he hpl, fun H0 F0 γ σ H F S Q q qe => h2 _ _ _ _ _ _ S _ fun vs H1 F1 g z t a => ?_⟩
  exact ⟨F1, rs, oe, z, t, a, hn, hφ, fun en e v H2 F2 m => q en e v H2 F2 (.from g m), fun e d H2 F2 g2 z2 t2 => ⟨rfl, qe e H2 F2 (S.grow.trans (g.trans g2)) z2 t2⟩⟩
/-- return f(..) -/
theorem xs_retE {k n : Nat} {Φ : List Rs → Option En → Prop} {rs : List Rs} {oe : Option En} {pos' : Pos} (h : FnE G X.prog X.w X.K X.mg X.base k x n Φ) (tk : Tk X Ex) (hr : Room k X.A) (ha : XA G X (e :: es) ρ rs) (hφ : Φ rs oe) (hn : rs.length = n := by rfl) (hg : Gl X x := by rfl) (hdb : (x == ("__debug__" : Str)) = false := by decide)
    (he : starEach (e :: es) X.env = (false, eval e X.env) :: starEach es X.env := by rfl) (hpl : (backTo pos (starEach es X.env)).any (·.1) = false := by rfl) : XS G X Ex (.Return (some (.Call (.Name x p) (e :: es) [] pos)) pos') ρ (match oe with | some en => .rt en | none => .xc) := fun H0 F0 γ σ H F S D q => by
  obtain ⟨t, h1, h2⟩ := pe_callE (p := p) (pos := pos) h tk hr ha hφ hn hg hdb he hpl
  refine ⟨_, ps_ret h1, h2 _ _ _ _ _ _ S _ (fun en e v H' F' m => ?_) fun e H' F' g z t => ?_⟩
  · subst e
    exact q v H' F' (.from S.grow m)
  · subst e
    exact q H' F' g z t
/-- target = f(..) -/
theorem xs_asgE {k n : Nat} {Φ : List Rs → Option En → Prop} {rs : List Rs} {or : Option Rs} {tg : Expr} {is : List Nat} {pos' : Pos} (h : FnE G X.prog X.w X.K X.mg X.base k x n Φ) (tk : Tk X Ex) (hr : Room k X.A) (ha : XA G X (e :: es) ρ rs) (hφ : Φ rs (or.map En.rs)) (hgo : ∀ r, or = some r → XGo G X tg r ρ ρ' is) (hn : rs.length = n := by rfl) (hg : Gl X x := by rfl) (hdb : (x == ("__debug__" : Str)) = false := by decide)
    (he : starEach (e :: es) X.env = (false, eval e X.env) :: starEach es X.env := by rfl) (hpl : (backTo pos (starEach es X.env)).any (·.1) = false := by rfl)
    (hs : swapsWithSole [tg] (.Call (.Name x p) (e :: es) [] pos) pos'.line X.env = pure false := by rfl) (hw : swappedStores [tg] (.Call (.Name x p) (e :: es) [] pos) X.env = pure none := by rfl)
    (h1' : (assignEach [tg] X.env).map (·.2) = [assign tg X.env] := by rfl) : XS G X Ex (.Assign [tg] (.Call (.Name x p) (e :: es) [] pos) pos') ρ (match or with | some _ => .nx ρ' | none => .xc) := fun H0 F0 γ σ H F S D q => by
  obtain ⟨t, h1, h2⟩ := pe_callE (p := p) (pos := pos) h tk hr ha hφ hn hg hdb he hpl
  refine ⟨_, ps_asg h1 pg_s hs hw (h1 := h1'), h2 _ _ _ _ _ _ S _ (fun en e v H' F' m => ?_) fun e H' F' g z t => ?_⟩
  · cases or with
    | none => cases e
    | some r =>
      cases e
      exact hgo r rfl _ _ _ _ _ _ (S.nx m) v m.rsAt _ fun σ' S' _ => q _ _ _ S'
  · cases or with
    | some r => cases e
    | none => exact q H' F' g z t
end
end LC
namespace LC
open PySem PySem.Spec PyProof.Rows L2

/-! ### the masks of a set that grows to 1000 members: the round of i -> 5 i + 1 meets every slot -/
def MaskG (m : Nat) : Prop := m = 7 ∨ m = 31 ∨ m = 127 ∨ m = 511 ∨ m = 2047
/-- the slots met in k steps, as bits; the slot reached -/
def orbB (m : Nat) : Nat → Nat × Nat
  | 0 => (0, 0)
  | k + 1 => ((orbB m k).1 ||| (1 <<< (orbB m k).2), ((orbB m k).2 * 5 + 1) % (m + 1))
theorem orbB_snd (m : Nat) : ∀ k, (orbB m k).2 = L2.lcgN m k
  | 0 => rfl
  | k + 1 => by
    show ((orbB m k).2 * 5 + 1) % (m + 1) = (L2.lcgN m k * 5 + 1) % (m + 1)
    rw [orbB_snd m k]
theorem orbB_fst (m : Nat) : ∀ k j, (orbB m k).1.testBit j = true → ∃ b, b < k ∧ L2.lcgN m b = j
  | 0, j, h => by simp [orbB] at h
  | k + 1, j, h => by
    have h : ((orbB m k).1 ||| (1 <<< (orbB m k).2)).testBit j = true := h
    rw [Nat.testBit_or, Bool.or_eq_true] at h
    rcases h with h | h
    · obtain ⟨b, hb, e⟩ := orbB_fst m k j h
      exact ⟨b, Nat.lt_succ_of_lt hb, e⟩
    · rw [Nat.one_shiftLeft, Nat.testBit_two_pow] at h
      exact ⟨k, Nat.lt_succ_self k, by rw [← orbB_snd]; exact of_decide_eq_true h⟩
theorem orb7 : orbB 7 8 = (2 ^ 8 - 1, 0) := by decide +kernel
theorem orb31 : orbB 31 32 = (2 ^ 32 - 1, 0) := by decide +kernel
theorem orb127 : orbB 127 128 = (2 ^ 128 - 1, 0) := by decide +kernel
/-- the same, by a fold that carries the pair -/
def orbS (m : Nat) : Nat → Nat → Nat → Nat × Nat
  | 0, a, x => (a, x)
  | k + 1, a, x => orbS m k (a ||| (1 <<< x)) ((x * 5 + 1) % (m + 1))
theorem orbS_eq (m : Nat) : ∀ k i, orbS m k (orbB m i).1 (orbB m i).2 = orbB m (i + k)
  | 0, _ => rfl
  | k + 1, i => by
    show orbS m k (orbB m (i + 1)).1 (orbB m (i + 1)).2 = _
    rw [orbS_eq m k (i + 1), Nat.add_assoc, Nat.add_comm 1 k]
theorem orb511 : orbS 511 512 0 0 = (2 ^ 512 - 1, 0) := by decide +kernel
theorem orb2047 : orbS 2047 2048 0 0 = (2 ^ 2048 - 1, 0) := by decide +kernel
theorem orb_all {m : Nat} (h : MaskG m) : orbB m (m + 1) = (2 ^ (m + 1) - 1, 0) := by
  have k : ∀ n, orbB m n = orbS m n 0 0 := fun n => by
    have := orbS_eq m n 0
    rw [Nat.zero_add] at this
    exact this.symm
  rcases h with e | e | e | e | e
  · subst e; exact orb7
  · subst e; exact orb31
  · subst e; exact orb127
  · subst e; rw [k]; exact orb511
  · subst e; rw [k]; exact orb2047
theorem lcg_allG {m : Nat} (hm : MaskG m) {j : Nat} (hj : j ≤ m) : ∃ b, b ≤ m ∧ L2.lcgN m b = j := by
  obtain ⟨b, hb, e⟩ := orbB_fst m (m + 1) j (by
    rw [orb_all hm]
    show (2 ^ (m + 1) - 1).testBit j = true
    rw [Nat.testBit_two_pow_sub_one]
    exact decide_eq_true (by omega))
  exact ⟨b, by omega, e⟩
theorem lcg_roundG {m : Nat} (hm : MaskG m) : L2.lcgN m (m + 1) = 0 := by
  rw [← orbB_snd, orb_all hm]
theorem lcgN_modG {m : Nat} (hm : MaskG m) : ∀ k, L2.lcgN m (m + 1 + k) = L2.lcgN m k
  | 0 => lcg_roundG hm
  | k + 1 => congrArg (fun z => (z * 5 + 1) % (m + 1)) (lcgN_modG hm k)
theorem lcgI_allG {m : Nat} (hm : MaskG m) {i j : Nat} (hi : i ≤ m) (hj : j ≤ m) : ∃ k, k ≤ m ∧ L2.lcgI m i k = j := by
  obtain ⟨a, ha, rfl⟩ := lcg_allG hm hi
  obtain ⟨b, hb, rfl⟩ := lcg_allG hm hj
  by_cases c : a ≤ b
  · exact ⟨b - a, by omega, by rw [L2.lcgN_add]; congr 1; omega⟩
  · refine ⟨m + 1 + b - a, by omega, ?_⟩
    rw [L2.lcgN_add, ← lcgN_modG hm b]
    congr 1
    omega
theorem run_meetsG {m : Nat} (hm : MaskG m) (h : Int) {j : Nat} (hj : j ≤ m) : ∃ n, n ≤ 12 + m ∧ L2.runI m (SetTable.bits h) n = j := by
  obtain ⟨k, h1, h2⟩ := lcgI_allG hm (L2.runI_le m (SetTable.bits h) 12) hj
  refine ⟨12 + k, by omega, ?_⟩
  rw [← h2]
  exact L2.runI_tail (L2.bits_lt h) k
theorem nth_meetsG {m : Nat} (hm : MaskG m) (h : Int) {j : Nat} (hj : j ≤ m) : ∃ k, k < 10 * SetTable.turns m ∧ L2.way m h k = j := by
  obtain ⟨n, h1, h2⟩ := run_meetsG hm h hj
  obtain ⟨k, h3, h4⟩ := L2.run_nth m (SetTable.bits h) n
  have h5 : k < 10 * SetTable.turns m := by
    unfold SetTable.turns
    omega
  exact ⟨k, h5, by unfold L2.way; rw [h4]; exact h2⟩
/-- a table without dummies whose members lie on their ways -/
structure TabQ (t : SetTable) (hs : List Int) : Prop where
  ris : L2.Ris t.place.toList
  dm : t.dummies = #[]
  sz : t.place.size = hs.length
  mg : MaskG t.mask
  le : ∀ j ∈ t.place.toList, j ≤ t.mask
  lies : ∀ (i : Nat) (h : Int) (j : Nat), hs[i]? = some h → t.place.toList[i]? = some j → ∃ k, L2.way t.mask h k = j ∧ ∀ l, l < k → L2.way t.mask h l ∈ t.place.toList
theorem TabQ.free {t : SetTable} {hs : List Int} (T : TabQ t hs) (few : hs.length ≤ t.mask) (h : Int) : ∃ K, K < 10 * SetTable.turns t.mask ∧ L2.way t.mask h K ∉ t.place.toList ∧ ∀ k, k < K → L2.way t.mask h k ∈ t.place.toList := by
  have hl : t.place.toList.length < t.mask + 1 := by
    rw [Array.length_toList, T.sz]
    omega
  obtain ⟨j, h1, h2⟩ := L2.st_missing _ _ hl
  obtain ⟨n, h3, h4⟩ := nth_meetsG T.mg h (Nat.le_of_lt_succ h1)
  obtain ⟨K, k1, k2, k3⟩ := L2.st_least (p := fun k => L2.way t.mask h k ∉ t.place.toList) n (by rw [h4]; exact h2)
  exact ⟨K, Nat.lt_of_le_of_lt k1 h3, k2, fun k hk => Classical.not_not.mp (k3 k hk)⟩
theorem TabQ.ahead {t : SetTable} {hs : List Int} (T : TabQ t hs) {h : Int} {K i j : Nat} (fr : L2.way t.mask h K ∉ t.place.toList) (e1 : hs[i]? = some h) (e2 : t.place.toList[i]? = some j) : ∃ k, k < K ∧ L2.way t.mask h k = j := by
  obtain ⟨k, k1, k2⟩ := T.lies i h j e1 e2
  by_cases c : k < K
  · exact ⟨k, c, k1⟩
  · exfalso
    by_cases d : K < k
    · exact fr (k2 K d)
    · have : k = K := by omega
      subst this
      exact fr (k1 ▸ List.mem_of_getElem? e2)
theorem way_leG (m : Nat) (h : Int) (k : Nat) : L2.way m h k ≤ m := by
  have a := Nat.mod_lt (SetTable.bits h) (Nat.succ_pos m)
  have a : SetTable.bits h % (m + 1) < m + 1 := a
  have b := L2.runEnd_bd (m := m) (i := SetTable.bits h % (m + 1)) (by omega)
  have c : (L2.runAt m (SetTable.bits h % (m + 1)) (SetTable.bits h)).j + (L2.runAt m (SetTable.bits h % (m + 1)) (SetTable.bits h)).more ≤ m := by
    unfold L2.runAt
    simp only
    omega
  have d := L2.nth_in k _ c
  unfold L2.way
  omega
theorem TabQ.put {t : SetTable} {hs : List Int} (T : TabQ t hs) {h : Int} {K : Nat} (fr : L2.way t.mask h K ∉ t.place.toList) (bf : ∀ k, k < K → L2.way t.mask h k ∈ t.place.toList) {j p : Nat} (ej : L2.way t.mask h K = j) (ep : SetTable.below t.place j = p) :
    p ≤ hs.length ∧ TabQ (t.put j).1 (hs.take p ++ h :: hs.drop p) ∧ (t.put j).1.mask = t.mask ∧ (t.put j).1.fill = hs.length + 1 := by
  subst ej
  have cut := (L2.below_cut T.ris (L2.way t.mask h K)).1
  rw [ep] at cut
  have len : t.place.toList.length = hs.length := Array.length_toList.trans T.sz
  have p1 : p ≤ t.place.toList.length := by
    rw [len, ← T.sz]
    exact cut
  have p2 : p ≤ hs.length := len ▸ p1
  have pl := L2.put_place t (L2.way t.mask h K)
  rw [ep] at pl
  have size : (t.put (L2.way t.mask h K)).1.place.size = hs.length + 1 := by
    rw [← Array.length_toList, pl, L2.len_ins _ p1, len]
  have grow : ∀ x, x ∈ t.place.toList → x ∈ (t.put (L2.way t.mask h K)).1.place.toList := fun x m => by
    rw [pl]
    exact L2.mem_ins.mpr (.inr m)
  have dm := L2.put_dm T.dm (L2.way t.mask h K)
  have ris := L2.ris_insert (xs := t.place) (j := L2.way t.mask h K) T.ris (fun z => fr (List.mem_of_getElem? (by rw [Array.getElem?_toList]; exact z)))
  refine ⟨p2, ⟨ris, dm, by rw [size, L2.len_ins _ p2], T.mg, fun x m => ?_, fun i g l h1 h2 => ?_⟩, rfl, ?_⟩
  · rw [pl] at m
    rcases L2.mem_ins.mp m with z | z
    · subst z
      exact way_leG t.mask h K
    · exact T.le x z
  · rw [L2.tins_get hs p2] at h1
    rw [pl, L2.tins_get _ p1] at h2
    suffices q : ∃ k, L2.way t.mask g k = l ∧ ∀ n, n < k → L2.way t.mask g n ∈ t.place.toList from let ⟨k, a, b⟩ := q; ⟨k, a, fun n hn => grow _ (b n hn)⟩
    by_cases c : i < p
    · rw [if_pos c] at h1 h2
      exact T.lies i g l h1 h2
    · rw [if_neg c] at h1 h2
      by_cases d : i = p
      · rw [if_pos d] at h1 h2
        cases h1
        cases h2
        exact ⟨K, rfl, bf⟩
      · rw [if_neg d] at h1 h2
        exact T.lies (i - 1) g l h1 h2
  · have : (t.put (L2.way t.mask h K)).1.place.size + (t.put (L2.way t.mask h K)).1.dummies.size = hs.length + 1 := by
      rw [size, dm]
      rfl
    exact this
/-! ### a table laid anew -/
theorem freeG {m : Nat} (hm : MaskG m) (ow : Array (Option Nat)) (h : Int) {j : Nat} (jm : j ≤ m) (jn : L2.oAt ow j = none) :
    ∃ K, SetTable.layClean.free m ow (SetTable.turns m) (SetTable.bits h % (m + 1)) (SetTable.bits h) = some (L2.way m h K) ∧ L2.oAt ow (L2.way m h K) = none ∧ ∀ k, k < K → L2.oAt ow (L2.way m h k) ≠ none := by
  obtain ⟨n, n1, n2⟩ := run_meetsG hm h jm
  generalize hB : SetTable.bits h = b at n2
  generalize hO : L2.off m (b % (m + 1)) b n = z
  have wz : L2.way m h z = j := by
    unfold L2.way
    rw [hB, ← hO, L2.nth_off, L2.itL_run]
    exact n2
  obtain ⟨K, k1, k2, k3⟩ := L2.st_least (p := fun k => L2.oAt ow (L2.way m h k) = none) z (by rw [wz]; exact jn)
  have some_ne : ∀ o : Option Nat, o ≠ none → o.isNone = false := fun o ho => by
    cases o with
    | none => exact absurd rfl ho
    | some _ => rfl
  refine ⟨K, ?_, k2, k3⟩
  have q := L2.free_spec m ow (SetTable.turns m) n (b % (m + 1)) b K (by unfold SetTable.turns; omega) (hO ▸ k1) (fun k hk => some_ne _ (by
    have := k3 k hk
    unfold L2.way at this
    rw [hB] at this
    exact this)) (by
    have := k2
    unfold L2.way at this
    rw [hB] at this
    rw [this]
    rfl)
  rw [q]
  unfold L2.way
  rw [hB]
theorem ownG {m : Nat} (hm : MaskG m) {dn : List Int} {ow : Array (Option Nat)} (W : L2.Own m dn ow) (few : dn.length ≤ m) (h : Int) :
    ∃ j, SetTable.layClean.free m ow (SetTable.turns m) (SetTable.bits h % (m + 1)) (SetTable.bits h) = some j ∧ L2.Own m (dn ++ [h]) (ow.setIfInBounds j (some dn.length)) := by
  obtain ⟨qs, q1, q2⟩ := W.ps
  obtain ⟨a, a1, a2⟩ := L2.st_missing qs (m + 1) (by omega)
  have a1 : a ≤ m := Nat.le_of_lt_succ a1
  have an : L2.oAt ow a = none := by
    by_cases z : L2.oAt ow a = none
    · exact z
    · exact absurd (q2 a a1 z) a2
  obtain ⟨K, k1, k2, k3⟩ := freeG hm ow h a1 an
  generalize hw : L2.way m h K = y at k1 k2
  have ym : y ≤ m := hw ▸ way_leG m h K
  have self : L2.oAt (ow.setIfInBounds y (some dn.length)) y = some dn.length := L2.oAt_set_self _ (by rw [W.sz]; omega)
  have other : ∀ i, i ≠ y → L2.oAt (ow.setIfInBounds y (some dn.length)) i = L2.oAt ow i := fun i hi => L2.oAt_set_ne _ hi
  have stay : ∀ i, L2.oAt ow i ≠ none → L2.oAt (ow.setIfInBounds y (some dn.length)) i ≠ none := fun i hi => by
    by_cases c : i = y
    · subst c; exact absurd k2 hi
    · rw [other i c]; exact hi
  refine ⟨y, k1, ⟨(Array.size_setIfInBounds ..).trans W.sz, ?_, ?_, y :: qs, ?_, ?_⟩⟩
  · intro i n im e
    by_cases c : i = y
    · subst c
      rw [self] at e
      cases e
      exact ⟨h, K, by simp, hw, fun k hk => stay _ (k3 k hk)⟩
    · rw [other i c] at e
      obtain ⟨g, L, l1, l2, l3⟩ := W.at_ i n im e
      have nl : n < dn.length := by
        rcases Nat.lt_or_ge n dn.length with z | z
        · exact z
        · rw [List.getElem?_eq_none z] at l1; cases l1
      exact ⟨g, L, by rw [List.getElem?_append_left nl]; exact l1, l2, fun k hk => stay _ (l3 k hk)⟩
  · intro n hn
    rw [List.length_append, List.length_singleton] at hn
    rcases Nat.lt_or_ge n dn.length with z | z
    · obtain ⟨i, i1, i2⟩ := W.all n z
      exact ⟨i, i1, by rw [other i fun c => by rw [c, k2] at i2; cases i2]; exact i2⟩
    · have : n = dn.length := by omega
      subst this
      exact ⟨y, ym, self⟩
  · rw [List.length_cons, q1, List.length_append]
    rfl
  · intro i im e
    by_cases c : i = y
    · rw [c]; exact List.mem_cons_self ..
    · rw [other i c] at e
      exact List.mem_cons_of_mem _ (q2 i im e)
theorem foldG {m : Nat} (hm : MaskG m) : ∀ (l dn : List Int) (ow : Array (Option Nat)), L2.Own m dn ow → dn.length + l.length ≤ m → ∃ ow', l.foldl (L2.stepF m) (some (ow, dn.length)) = some (ow', dn.length + l.length) ∧ L2.Own m (dn ++ l) ow' := by
  intro l
  induction l with
  | nil => exact fun dn ow W _ => ⟨ow, rfl, (List.append_nil dn).symm ▸ W⟩
  | cons h l ih =>
    intro dn ow W few
    rw [List.length_cons] at few
    obtain ⟨j, e, W1⟩ := ownG hm W (by omega) h
    have len1 : (dn ++ [h]).length = dn.length + 1 := by simp
    obtain ⟨ow', e2, W2⟩ := ih (dn ++ [h]) _ W1 (by omega)
    refine ⟨ow', ?_, ?_⟩
    · rw [List.foldl_cons, L2.stepF_some e, List.length_cons, show dn.length + (l.length + 1) = (dn ++ [h]).length + l.length by omega, ← e2, len1]
    · rw [List.append_assoc] at W2
      exact W2
theorem layG {m : Nat} (hm : MaskG m) {hs : Array Int} (few : hs.size ≤ m) : ∃ ow, SetTable.layClean m hs = some ow ∧ L2.Own m hs.toList ow := by
  obtain ⟨ow, e, W⟩ := foldG hm hs.toList [] _ (L2.Own.init m) (by simpa using few)
  refine ⟨ow, ?_, by simpa using W⟩
  rw [L2.layClean_eq]
  have e : hs.toList.foldl (L2.stepF m) (some (Array.replicate (m + 1) none, 0)) = some (ow, 0 + hs.toList.length) := e
  rw [e]
  rfl
theorem relaidG (t : SetTable) {hs : Array Int} {wn M : Nat} (hw : SetTable.sizeAbove wn - 1 = M) (hM : MaskG M) (few : hs.size ≤ M) :
    ∃ t' od, t.relaid hs wn = some (t', od) ∧ od.toList.Perm (List.range hs.size) ∧ TabQ t' (od.toList.map fun i => hs.getD i 0) ∧ t' = L2.tabOf t M (Classical.choose (layG hM few)) := by
  have sp := Classical.choose_spec (layG hM few)
  generalize Classical.choose (layG hM few) = ow at sp
  obtain ⟨e, W⟩ := sp
  have mem : ∀ j k, (j, k) ∈ L2.liveOf M ow ↔ j ≤ M ∧ L2.oAt ow j = some k := fun j k => L2.mem_live W.sz
  obtain ⟨rs1, rs2⟩ := L2.ris_live (fun j => ow.getD j none) (List.range (M + 1)) (by unfold L2.Ris; exact List.pairwise_lt_range)
  have rs1 : L2.Ris ((L2.liveOf M ow).map Prod.fst) := rs1
  have rs2 : ∀ x ∈ (L2.liveOf M ow).map Prod.fst, x ∈ List.range (M + 1) := rs2
  have few1 : (L2.liveOf M ow).length ≤ hs.size := by
    obtain ⟨qs, q1, q2⟩ := W.ps
    have := L2.nat_nodup_len ((L2.liveOf M ow).map Prod.fst) qs (rs1.imp fun h => Nat.ne_of_lt h) (fun x hx => by
      obtain ⟨⟨y, k⟩, hy, rfl⟩ := List.mem_map.mp hx
      obtain ⟨y1, y2⟩ := (mem y k).mp hy
      exact q2 y y1 (by rw [y2]; exact fun z => nomatch z))
    rw [List.length_map, q1, Array.length_toList] at this
    exact this
  have few2 : hs.size ≤ (L2.liveOf M ow).length := by
    have := L2.nat_nodup_len (List.range hs.size) ((L2.liveOf M ow).map Prod.snd) List.nodup_range (fun k hk => by
      obtain ⟨j, j1, j2⟩ := W.all k (by rw [Array.length_toList]; exact List.mem_range.mp hk)
      exact List.mem_map.mpr ⟨(j, k), (mem j k).mpr ⟨j1, j2⟩, rfl⟩)
    rw [List.length_range, List.length_map] at this
    exact this
  refine ⟨L2.tabOf t M ow, ((L2.liveOf M ow).map Prod.snd).toArray, ?_, ?_, ⟨rs1, rfl, ?_, hM, fun x hx => ?_, fun i h j h1 h2 => ?_⟩, rfl⟩
  · rw [L2.relaid_eq, hw, e]
    rfl
  · refine L2.perm_range hs.size _ ?_ fun k hk => ?_
    · show ((L2.liveOf M ow).map Prod.snd).length = hs.size
      rw [List.length_map]
      omega
    · obtain ⟨j, j1, j2⟩ := W.all k (by rw [Array.length_toList]; exact hk)
      exact List.mem_map.mpr ⟨(j, k), (mem j k).mpr ⟨j1, j2⟩, rfl⟩
  · show ((L2.liveOf M ow).map Prod.fst).toArray.size = (((L2.liveOf M ow).map Prod.snd).map fun i => hs.getD i 0).length
    simp
  · exact Nat.le_of_lt_succ (List.mem_range.mp (rs2 x hx))
  · have h1 : (((L2.liveOf M ow).map Prod.snd).map fun i => hs.getD i 0)[i]? = some h := h1
    have h2 : ((L2.liveOf M ow).map Prod.fst)[i]? = some j := h2
    simp only [List.getElem?_map, Option.map_eq_some_iff] at h1 h2
    obtain ⟨k, ⟨⟨y, k'⟩, g1, rfl⟩, rfl⟩ := h1
    obtain ⟨⟨y2, k2⟩, g2, rfl⟩ := h2
    rw [g1] at g2
    cases g2
    obtain ⟨y1, y2⟩ := (mem y k').mp (List.mem_of_getElem? g1)
    obtain ⟨g, K, l1, l2, l3⟩ := W.at_ y k' y1 y2
    have eg : hs.getD k' 0 = g := by
      rw [Array.getD_eq_getD_getElem?, ← Array.getElem?_toList, l1]
      rfl
    refine ⟨K, by show L2.way M (hs.getD k' 0) K = y; rw [eg]; exact l2, fun n hn => ?_⟩
    show L2.way M (hs.getD k' 0) n ∈ (L2.liveOf M ow).map Prod.fst
    rw [eg]
    have ne := l3 n hn
    obtain ⟨k3, e3⟩ : ∃ k3, L2.oAt ow (L2.way M g n) = some k3 := Option.ne_none_iff_exists'.mp ne
    exact List.mem_map.mpr ⟨(L2.way M g n, k3), (mem _ _).mpr ⟨way_leG M g n, e3⟩, rfl⟩

end LC
namespace LC
open PySem PySem.Spec PyProof.Rows L2

/-! ### small questions asked of nested keys -/
section
variable {P : Program} {w : World}
def AskA (P : Program) (w : World) (n : Nat) (s : Shared) (v : Value) : Prop := ∀ (A : Around) (E : Value → Shared → Prop) (Q : Bool → Shared → Prop), Q false s → wpAny (model P w) A (ofAClassStatement n v) Q E s
def AskH (P : Program) (w : World) (n : Nat) (s : Shared) (v : Value) : Prop := ∀ (A : Around) (E : Value → Shared → Prop) (Q : Bool → Shared → Prop), (∀ b, Q b s) → wpAny (model P w) A (hashByValue n v) Q E s
theorem askA_tup {n : Nat} {s : Shared} {a : Addr} {o : Obj} {vs : Array Value} {m : Nat} (oAt : s.heap.get? a = some o) (hc : o.cls = .type "tuple") (oDat : o.data = .seq vs m) (hq : ∀ v ∈ vs.toList, AskA P w n s v) : AskA P w (n + 1) s (.ref a) := fun A E Q h => by
  have isTup : s.TypeIs (.ref a) "tuple" := ⟨o, oAt, hc⟩
  unfold ofAClassStatement
  refine wpAny_bind (wpAny_typeOf isTup ?_)
  dsimp only
  have e : (("tuple" : String) == "tuple") = true := by decide
  simp only [e, if_true]
  refine wpAny_bind (wpAny_pure ?_)
  simp only [Bool.not_true, Bool.false_eq_true, if_false]
  refine wpAny_bind (wpAny_seqItems oAt oDat ?_)
  dsimp only
  refine wpAny_bind ?_
  rw [← Array.forIn_toList]
  refine wpAny_forIn_list _ (fun rest r s' => r.1 = none ∧ s' = s ∧ ∀ v ∈ rest, AskA P w n s v) _ ?_ ?_ _ _ ⟨rfl, rfl, hq⟩
  · rintro v rest r s' ⟨hr, rfl, all⟩
    refine wpAny_bind (all v List.mem_cons_self _ _ _ ?_)
    simp only [Bool.false_eq_true, if_false]
    exact wpAny_pure ⟨rfl, rfl, fun u hu => all u (List.mem_cons_of_mem _ hu)⟩
  · rintro ⟨r1, r2⟩ s' ⟨hr, rfl, _⟩
    simp only at hr
    subst hr
    exact wpAny_pure h
mutual
theorem askA_key : ∀ (k : NestedKey) (v : Value) (n : Nat) (s : Shared), NestedIs s.heap k v → k.depth ≤ n → AskA P w n s v
  | .none, _, n, s, x, _ => by cases x; cases n <;> exact fun A E Q h => wpAny_pure h
  | .num i, _, n, s, x, _ => by cases x <;> cases n <;> exact fun A E Q h => wpAny_pure h
  | .text y, _, n, s, x, _ => by cases x; cases n <;> exact fun A E Q h => wpAny_pure h
  | .tup ks, _, n, s, x, deep => by
    cases x with
    | tup hg hc oDat hk =>
      simp only [NestedKey.depth] at deep
      cases n with
      | zero => omega
      | succ n => exact askA_tup hg hc oDat (askA_keys ks _ n s hk (by omega))
theorem askA_keys : ∀ (ks : List NestedKey) (vs : List Value) (n : Nat) (s : Shared), NestedAll s.heap ks vs → NestedKey.depthAll ks ≤ n → ∀ v ∈ vs, AskA P w n s v
  | [], _, n, s, x, _, v, hv => by cases x; cases hv
  | k :: ks, _, n, s, x, deep, v, hv => by
    cases x with
    | cons x1 x2 =>
      simp only [NestedKey.depthAll] at deep
      rcases List.mem_cons.mp hv with e | hv
      · rw [e]; exact askA_key k _ n s x1 (by omega)
      · exact askA_keys ks _ n s x2 (by omega) v hv
end
end
section
variable {P : Program} {w : World}
theorem askH_tup {n : Nat} {s : Shared} {a : Addr} {o : Obj} {vs : Array Value} {m : Nat} (oAt : s.heap.get? a = some o) (hc : o.cls = .type "tuple") (oDat : o.data = .seq vs m) (hq : ∀ v ∈ vs.toList, AskH P w n s v) : AskH P w (n + 1) s (.ref a) := fun A E Q h => by
  have isTup : s.TypeIs (.ref a) "tuple" := ⟨o, oAt, hc⟩
  unfold hashByValue
  refine wpAny_bind (wpAny_specialOf isTup F.slot_tuple_hash.lookup ?_)
  dsimp only
  refine wpAny_bind (wpAny_seqItems oAt oDat ?_)
  simp only [Option.getD_some]
  refine wpAny_bind ?_
  rw [← Array.forIn_toList]
  refine wpAny_forIn_list _ (fun rest r s' => s' = s ∧ ((r.1 = none ∧ ∀ v ∈ rest, AskH P w n s v) ∨ ∃ b, r.1 = some b ∧ rest = [])) _ ?_ ?_ _ _ ⟨rfl, .inl ⟨rfl, hq⟩⟩
  · rintro v rest r s' ⟨rfl, ⟨hr, all⟩ | ⟨b, hr, e⟩⟩
    · refine wpAny_bind (all v List.mem_cons_self _ _ _ fun b => ?_)
      cases b with
      | true =>
        simp only [Bool.not_true, Bool.false_eq_true, if_false]
        exact wpAny_pure ⟨rfl, .inl ⟨rfl, fun u hu => all u (List.mem_cons_of_mem _ hu)⟩⟩
      | false =>
        simp only [Bool.not_false, if_true]
        exact wpAny_pure (wpAny_pure (h false))
    · cases e
  · rintro ⟨r1, r2⟩ s' ⟨rfl, ⟨hr, _⟩ | ⟨b, hr, _⟩⟩
    · simp only at hr
      subst hr
      exact wpAny_pure (h _)
    · simp only at hr
      subst hr
      exact wpAny_pure (h _)
end
section
variable {P : Program} {w : World}
mutual
theorem askH_key : ∀ (k : NestedKey) (v : Value) (n : Nat) (s : Shared), NestedIs s.heap k v → k.depth ≤ n → AskH P w n s v
  | .none, _, n, s, x, _ => by cases x; cases n <;> exact fun A E Q h => wpAny_pure (h _)
  | .num i, _, n, s, x, _ => by cases x <;> cases n <;> exact fun A E Q h => wpAny_pure (h _)
  | .text y, _, n, s, x, _ => by cases x; cases n <;> exact fun A E Q h => wpAny_pure (h _)
  | .tup ks, _, n, s, x, deep => by
    cases x with
    | tup hg hc oDat hk =>
      simp only [NestedKey.depth] at deep
      cases n with
      | zero => omega
      | succ n => exact askH_tup hg hc oDat (askH_keys ks _ n s hk (by omega))
theorem askH_keys : ∀ (ks : List NestedKey) (vs : List Value) (n : Nat) (s : Shared), NestedAll s.heap ks vs → NestedKey.depthAll ks ≤ n → ∀ v ∈ vs, AskH P w n s v
  | [], _, n, s, x, _, v, hv => by cases x; cases hv
  | k :: ks, _, n, s, x, deep, v, hv => by
    cases x with
    | cons x1 x2 =>
      simp only [NestedKey.depthAll] at deep
      rcases List.mem_cons.mp hv with e | hv
      · rw [e]; exact askH_key k _ n s x1 (by omega)
      · exact askH_keys ks _ n s x2 (by omega) v hv
end
/-- the key that stands at b -/
abbrev IsN (h : Heap) (k : NestedKey) (b : Addr) : Prop := NestedIs h k (.ref b) ∧ k.depth ≤ 8
/-- a search among nested keys shows nothing -/
theorem seenN {A : Around} {E : Value → Shared → Prop} {s : Shared} {k : NestedKey} {b : Addr} {Q : Bool → Shared → Prop} (hk : IsN s.heap k b) {ys : List Value} (hy : ∀ y ∈ ys, ∃ k' c, y = Value.ref c ∧ IsN s.heap k' c) (h : Q false s) :
    wpAny (model P w) A (searchCouldBeSeen (.ref b) ys) Q E s := by
  unfold searchCouldBeSeen
  refine wpAny_bind ?_
  refine wpAny_forIn_list _ (fun rest r s' => r.1 = none ∧ s' = s ∧ ∀ y ∈ rest, ∃ k' c, y = Value.ref c ∧ IsN s.heap k' c) _ ?_ ?_ _ _ ⟨rfl, rfl, hy⟩
  · rintro v rest r s' ⟨hr, rfl, all⟩
    obtain ⟨k', c, rfl, hc⟩ := all v List.mem_cons_self
    have more : ∀ y ∈ rest, ∃ k' c, y = Value.ref c ∧ IsN s'.heap k' c := fun u hu => all u (List.mem_cons_of_mem _ hu)
    dsimp only
    by_cases hv : (b == c || (carriedByValue (.ref b) && carriedByValue (.ref c))) = true
    · refine wp_if_pos hv ?_
      exact wpAny_pure ⟨rfl, rfl, more⟩
    · refine wp_if_neg hv ?_
      refine wpAny_bind (quiet_key k _ 8 _ hk.1 hk.2 _ _ _ ?_)
      simp only [Bool.not_true, Bool.false_eq_true, if_false]
      refine wpAny_bind (quiet_key k' _ 8 _ hc.1 hc.2 _ _ _ ?_)
      simp only [Bool.not_true, Bool.false_eq_true, if_false]
      refine wpAny_bind (askA_key k _ 8 _ hk.1 hk.2 _ _ _ ?_)
      simp only [Bool.false_eq_true, if_false]
      refine wpAny_bind (askA_key k' _ 8 _ hc.1 hc.2 _ _ _ ?_)
      simp only [Bool.false_eq_true, if_false]
      exact wpAny_pure ⟨rfl, rfl, more⟩
  · rintro ⟨r1, r2⟩ s' ⟨hr, rfl, _⟩
    simp only at hr
    subst hr
    exact wpAny_pure h
end
/-! ### a set of nested keys -/
def rowsN (w : World) (L : List (Addr × NestedKey)) : List (Int × Value) := L.map fun p => (p.2.hash w, Value.ref p.1)
def hashN (w : World) (L : List (Addr × NestedKey)) : List Int := L.map fun p => p.2.hash w
structure SetN (w : World) (h : Heap) (a : Addr) (L : List (Addr × NestedKey)) (es : Array (Int × Value)) (ep : Nat) (t : SetTable) : Prop where
  ob : ∃ o, h.get? a = some o ∧ o.ExactSet ∧ o.data = .set es ep t
  rows : es.toList = rowsN w L
  tab : TabQ t (hashN w L)
  nd : (L.map (·.2)).Nodup
  keys : ∀ p ∈ L, IsN h p.2 p.1
  room : L.length * 5 < t.mask * 3
section
variable {P : Program} {w : World} {A : Around} {E : Value → Shared → Prop} {s : Shared} {a : Addr} {L : List (Addr × NestedKey)} {es : Array (Int × Value)} {ep : Nat} {t : SetTable}
theorem hashN_len : (hashN w L).length = L.length := List.length_map _
theorem SetN.len (R : SetN w s.heap a L es ep t) : es.size = L.length := by
  rw [← Array.length_toList, R.rows]
  exact List.length_map _
theorem SetN.fits (R : SetN w s.heap a L es ep t) : t.fits es.size = true := by
  have z := R.tab.sz
  rw [hashN_len] at z
  have m := R.room
  have d : t.dummies.size = 0 := by rw [R.tab.dm]; rfl
  unfold SetTable.fits SetTable.fill
  rw [R.len, Bool.and_eq_true]
  exact ⟨beq_iff_eq.mpr z, decide_eq_true (by omega)⟩
theorem SetN.row (R : SetN w s.heap a L es ep t) {i : Nat} {p : Addr × NestedKey} (e : L[i]? = some p) : es[i]? = some (p.2.hash w, Value.ref p.1) := by
  have : es.toList[i]? = some (p.2.hash w, Value.ref p.1) := by
    rw [R.rows]
    unfold rowsN
    rw [List.getElem?_map, e]
    rfl
  rwa [Array.getElem?_toList] at this
theorem maskG_odd {m : Nat} (h : MaskG m) : m % 2 = 1 := by
  unfold MaskG at h
  omega
theorem SetN.stays (R : SetN w s.heap a L es ep t) : ¬ t.gaveWay = true := by
  have := maskG_odd R.tab.mg
  unfold SetTable.gaveWay
  rw [this]
  decide
end
section
variable {P : Program} {w : World} {A : Around} {E : Value → Shared → Prop} {s : Shared} {a : Addr} {L : List (Addr × NestedKey)} {es : Array (Int × Value)} {ep : Nat} {t : SetTable}
theorem dummy_none (m : Nat) : ∀ (n : Nat) (p : SetTable.Probe), p.dummy = none → (L2.nth m p n).dummy = none
  | 0, _, h => h
  | n + 1, p, h => dummy_none m n (L2.adv m p) (by unfold L2.adv; split <;> exact h)
theorem seekN (R : SetN w s.heap a L es ep t) {x : Addr} {k : NestedKey} (hx : IsN s.heap k x) (hu : A.units + 8 < cLine) {K : Nat} (K1 : K < 10 * SetTable.turns t.mask) (K2 : L2.way t.mask (k.hash w) K ∉ t.place.toList) (K3 : ∀ c, c < K → L2.way t.mask (k.hash w) c ∈ t.place.toList)
    {Q : SetFound → Shared → Prop} (yes : k ∈ L.map (·.2) → Q (.there none) s) (no : k ∉ L.map (·.2) → Q (.free (L2.way t.mask (k.hash w) K) false) s) (p0 : SetTable.Probe) (hp0 : p0 = L2.runAt t.mask (SetTable.bits (k.hash w) % (t.mask + 1)) (SetTable.bits (k.hash w))) :
    ∀ (f c : Nat) (sd : Option SetTable.Probe), sd.getD (t.probeStart (k.hash w)) = L2.nth t.mask p0 c → c ≤ K → K < f + c → (∀ (i : Nat) p, L[i]? = some p → p.2 = k → ∃ c', c ≤ c' ∧ c' < K ∧ t.place.toList[i]? = some (L2.way t.mask (k.hash w) c')) →
      wpAny (model P w) A (setSearchFrom a (.ref x) (k.hash w) true f sd) Q E s := by
  have wy : ∀ n, (L2.nth t.mask p0 n).j = L2.way t.mask (k.hash w) n := fun n => by rw [hp0] <;> rfl
  obtain ⟨o, oAt, oSet, oDat⟩ := R.ob
  let ha : Nat → Int := fun i => (es[i]?.map (·.1)).getD 0
  have hrow : ∀ (i : Nat) p, L[i]? = some p → ha i = p.2.hash w := fun i p e => by
    show (es[i]?.map (·.1)).getD 0 = _
    rw [R.row e]
    rfl
  intro f
  induction f with
  | zero => intro c sd _ h1 h2 _; omega
  | succ f ih =>
    intro c sd est h1 h2 left
    rw [L2.setSearchFrom_succ]
    refine wpAny_bind (wpAny_setState_of oAt oDat R.fits ?_)
    dsimp only
    refine wp_if_neg R.stays ?_
    try refine wpAny_bind (wpAny_pure ?_)
    have jj : ∀ n, (L2.nth t.mask (L2.nth t.mask p0 c) n).j = L2.way t.mask (k.hash w) (c + n) := fun n => by rw [← L2.nth_add, wy]
    have sp := L2.go_spec t R.tab.ris R.tab.dm ha (k.hash w) (10 * SetTable.turns t.mask) (K - c) (L2.nth t.mask p0 c) (dummy_none _ _ _ (by rw [hp0]; rfl)) (by omega) (fun n deep => by rw [jj]; exact K3 _ (by omega)) (by rw [jj, show c + (K - c) = K by omega]; exact K2)
    rcases sp with ⟨n, i, n1, n2, n3, n4, n5⟩ | ⟨n4, n5⟩
    · have pr : t.probe ha (k.hash w) (sd.getD (t.probeStart (k.hash w))) = some (.candidate (L2.way t.mask (k.hash w) (c + n)) i (L2.nth t.mask p0 (c + (n + 1)))) := by
        rw [est, ← jj, L2.nth_add]
        exact n5
      rw [pr]
      dsimp only
      rw [jj] at n2
      have il : i < L.length := by
        have z := (List.getElem?_eq_some_iff.mp n2).1
        rw [Array.length_toList, R.tab.sz, hashN_len] at z
        exact z
      obtain ⟨p, ep'⟩ : ∃ p, L[i]? = some p := ⟨_, List.getElem?_eq_getElem il⟩
      have pm : p ∈ L := List.mem_of_getElem? ep'
      have sl := L2.slot_live R.tab.ris n2
      have go : wpAny (model P w) A (L2.searchRest a (.ref x) (k.hash w) true f es t (L2.way t.mask (k.hash w) (c + n)) i (L2.nth t.mask p0 (c + (n + 1)))) Q E s := by
        unfold L2.searchRest
        rw [R.row ep']
        dsimp only
        refine wpAny_bind (wpAny_holding ((nestedKind P w).eqBool hu (R.keys p pm) hx ?_))
        refine wpAny_bind (wpAny_setState_of oAt oDat R.fits ?_)
        dsimp only
        by_cases q : p.2 = k
        · refine wp_if_pos (by simp [q]) ?_
          exact wpAny_pure (yes (List.mem_map.mpr ⟨p, pm, q⟩))
        · refine wp_if_neg (by simp [q]) ?_
          try refine wpAny_bind (wpAny_pure ?_)
          rw [L2.sameMem]
          dsimp only
          simp only [if_true, sl, R.row ep']
          refine wpAny_bind (wpAny_isSame_ref_self (wpAny_bind (wpAny_pure ?_)))
          simp only [if_true]
          refine wp_if_neg (by simp [q]) ?_
          refine ih (c + (n + 1)) _ rfl (by omega) (by omega) fun i0 r0 e0 k0 => ?_
          obtain ⟨c', c1, c2, c3⟩ := left i0 r0 e0 k0
          refine ⟨c', ?_, c2, c3⟩
          have hk0 : ha i0 = k.hash w := (hrow i0 r0 e0).trans (congrArg _ k0)
          by_cases z1 : c' < c + n
          · exact absurd hk0 (n4 (c' - c) i0 (by omega) (by rw [jj, show c + (c' - c) = c' by omega]; exact c3))
          · by_cases z2 : c' = c + n
            · subst z2
              have := L2.slot_live R.tab.ris c3
              rw [sl] at this
              injection this with this
              subst this
              rw [ep'] at e0
              cases e0
              exact absurd k0 q
            · omega
      by_cases l : t.led = true
      · refine wp_if_neg (by simp [l]) ?_
        try refine wpAny_bind (wpAny_pure ?_)
        exact go
      · refine wp_if_pos (by simp [l]) ?_
        refine wpAny_bind (seenN hx (fun y hy => ?_) ?_)
        · obtain ⟨r, hr, rfl⟩ := List.mem_map.mp hy
          have hr2 : r ∈ es.toList := by
            have z : r ∈ es ∧ r.1 = k.hash w := by simpa using hr
            simpa using z.1
          rw [R.rows] at hr2
          obtain ⟨p2, p3, rfl⟩ := List.mem_map.mp hr2
          exact ⟨p2.2, p2.1, rfl, R.keys p2 p3⟩
        · refine wp_if_neg (by decide) ?_
          try refine wpAny_bind (wpAny_pure ?_)
          exact go
    · have pr : t.probe ha (k.hash w) (sd.getD (t.probeStart (k.hash w))) = some (.empty (L2.way t.mask (k.hash w) K) none) := by
        have z : L2.way t.mask (k.hash w) K = (L2.nth t.mask (L2.nth t.mask p0 c) (K - c)).j := by rw [jj, show c + (K - c) = K by omega]
        rw [est, z]
        exact n5
      rw [pr]
      dsimp only
      refine wpAny_pure (no fun m => ?_)
      obtain ⟨r0, r1, k0⟩ := List.mem_map.mp m
      obtain ⟨i0, i1, rfl⟩ := List.getElem_of_mem r1
      have e0 : L[i0]? = some L[i0] := List.getElem?_eq_getElem i1
      obtain ⟨c', c1, c2, c3⟩ := left i0 _ e0 k0
      exact n4 (c' - c) i0 (by omega) (by rw [jj, show c + (c' - c) = c' by omega]; exact c3) ((hrow i0 _ e0).trans (congrArg _ k0))
end
section
variable {P : Program} {w : World} {A : Around} {E : Value → Shared → Prop} {s : Shared} {a : Addr} {L : List (Addr × NestedKey)} {es : Array (Int × Value)} {ep : Nat} {t : SetTable}
theorem findN (R : SetN w s.heap a L es ep t) {x : Addr} {k : NestedKey} (hx : IsN s.heap k x) (hu : A.units + 8 < cLine) {Q : SetFound → Shared → Prop} (yes : k ∈ L.map (·.2) → Q (.there none) s)
    (no : ∀ K, k ∉ L.map (·.2) → L2.way t.mask (k.hash w) K ∉ t.place.toList → (∀ c, c < K → L2.way t.mask (k.hash w) c ∈ t.place.toList) → Q (.free (L2.way t.mask (k.hash w) K) false) s) :
    wpAny (model P w) A (setSearch a (.ref x) (k.hash w) true) Q E s := by
  have room := R.room
  obtain ⟨K, K1, K2, K3⟩ := R.tab.free (by rw [hashN_len]; omega) (k.hash w)
  have small : K < 100000 := by
    have g := R.tab.mg
    unfold MaskG at g
    unfold SetTable.turns at K1
    omega
  unfold setSearch
  refine seekN R hx hu K1 K2 K3 yes (fun n => no K n K2 K3) _ rfl 100000 0 none rfl (Nat.zero_le _) (by omega) fun i p e1 e2 => ?_
  have il : i < t.place.toList.length := by
    have z := (List.getElem?_eq_some_iff.mp e1).1
    rw [Array.length_toList, R.tab.sz, hashN_len]
    exact z
  have pj : t.place.toList[i]? = some t.place.toList[i] := List.getElem?_eq_getElem il
  have hi : (hashN w L)[i]? = some (k.hash w) := by
    unfold hashN
    rw [List.getElem?_map, e1, ← e2]
    rfl
  obtain ⟨c, c1, c2⟩ := R.tab.ahead K2 hi pj
  exact ⟨c, Nat.zero_le _, c1, by rw [pj, c2]⟩
/-- the key is not the set -/
theorem isN_same {h h' : Heap} {k : NestedKey} {b : Addr} {o : Obj} (hb : IsN h k b) (oAt : h.get? a = some o) (oDat : o.data = .set es ep t) (sb : Heap.SameBut a h h') : IsN h' k b :=
  ⟨NestedIs.at (fun b ob vs n e1 e2 => (sb.2 b fun e => by
    subst e
    rw [e1] at oAt
    cases oAt
    rw [oDat] at e2
    cases e2).trans e1) k _ hb.1, hb.2⟩
theorem rowsN_put (w : World) (p : Nat) (x : Addr) (k : NestedKey) : rowsN w (L.take p ++ (x, k) :: L.drop p) = (rowsN w L).take p ++ (k.hash w, Value.ref x) :: (rowsN w L).drop p := by
  simp only [rowsN, List.map_append, List.map_cons, List.map_take, List.map_drop]
theorem hashN_put (w : World) (p : Nat) (x : Addr) (k : NestedKey) : hashN w (L.take p ++ (x, k) :: L.drop p) = (hashN w L).take p ++ k.hash w :: (hashN w L).drop p := by
  simp only [hashN, List.map_append, List.map_cons, List.map_take, List.map_drop]
end
theorem range_get {α : Type} (L : List α) : (List.range L.length).filterMap (fun i => L[i]?) = L := by
  induction L with
  | nil => rfl
  | cons x L ih =>
    rw [List.length_cons, List.range_succ_eq_map, List.filterMap_cons, List.filterMap_map]
    show x :: List.filterMap (fun i => L[i]?) (List.range L.length) = x :: L
    rw [ih]
theorem ordN {w : World} {L : List (Addr × NestedKey)} {es : Array (Int × Value)} {od : Array Nat} (hr : es.toList = rowsN w L) (hp : od.toList.Perm (List.range L.length)) :
    ∃ L2, (od.filterMap (es[·]?)).toList = rowsN w L2 ∧ L2.Perm L ∧ hashN w L2 = od.toList.map fun i => (es.map (·.1)).getD i 0 := by
  have get : ∀ i : Nat, es[i]? = (L[i]?).map fun p => (p.2.hash w, Value.ref p.1) := fun i => by
    rw [← Array.getElem?_toList, hr]
    exact List.getElem?_map ..
  have lt : ∀ i ∈ od.toList, i < L.length := fun i hi => List.mem_range.mp (hp.mem_iff.mp hi)
  refine ⟨od.toList.filterMap fun i => L[i]?, ?_, ?_, ?_⟩
  · rw [Array.toList_filterMap]
    unfold rowsN
    rw [List.map_filterMap]
    exact congrArg (fun g => List.filterMap g od.toList) (funext get)
  · have := hp.filterMap fun i => L[i]?
    rw [range_get] at this
    exact this
  · generalize od.toList = l at lt
    induction l with
    | nil => rfl
    | cons i l ih =>
      have i1 := lt i List.mem_cons_self
      have e : L[i]? = some L[i] := List.getElem?_eq_getElem i1
      rw [List.filterMap_cons_some e, List.map_cons, ← ih fun j hj => lt j (List.mem_cons_of_mem _ hj)]
      show (L[i]).2.hash w :: hashN w _ = _
      have g : (es.map (·.1)).getD i 0 = (L[i]).2.hash w := by
        have z : (es.map (·.1))[i]? = some ((L[i]).2.hash w) := by
          rw [Array.getElem?_map, get, e]
          rfl
        rw [Array.getD_eq_getD_getElem?, z]
        rfl
      rw [g]
section
variable {P : Program} {w : World} {A : Around} {E : Value → Shared → Prop} {s : Shared} {a : Addr} {L : List (Addr × NestedKey)} {es : Array (Int × Value)} {ep : Nat} {t : SetTable}
/-- the table is laid anew -/
theorem relayN {o : Obj} (oAt : s.heap.get? a = some o) (oSet : o.ExactSet) (oDat : o.data = .set es ep t) (rows : es.toList = rowsN w L) (sz : t.place.size = es.size) (dm : t.dummies = #[]) (fill : es.size ≤ t.mask) (nd : (L.map (·.2)).Nodup) (keys : ∀ p ∈ L, IsN s.heap p.2 p.1) {wn M : Nat}
    (hw : SetTable.sizeAbove wn - 1 = M) (hM : MaskG M) (deep : L.length * 5 < M * 3) {Q : Unit → Shared → Prop}
    (q : ∀ h' L' es' ep' t', Heap.SameBut a s.heap h' → SetN w h' a L' es' ep' t' → L'.Perm L → Q () { s with heap := h' }) : wpAny (model P w) A (setRelay a wn) Q E s := by
  have len : es.size = L.length := by
    rw [← Array.length_toList, rows]
    exact List.length_map _
  have M4 : M ≤ 2047 := by unfold MaskG at hM; omega
  have fit : t.fits es.size = true := by
    have d : t.dummies.size = 0 := by rw [dm]; rfl
    unfold SetTable.fits SetTable.fill
    rw [Bool.and_eq_true]
    exact ⟨beq_iff_eq.mpr sz, decide_eq_true (by omega)⟩
  obtain ⟨t', od, e, pm, T, et⟩ := relaidG t (hs := es.map (·.1)) (wn := wn) hw hM (by rw [Array.size_map, len]; omega)
  rw [Array.size_map, len] at pm
  obtain ⟨L2, r1, r2, r3⟩ := ordN rows pm
  rw [← r3] at T
  have size2 : (od.filterMap (es[·]?)).size = L.length := by
    rw [← Array.length_toList, r1]
    exact (List.length_map _).trans r2.length_eq
  rw [_root_.L2.setRelay_eq]
  refine wpAny_bind (wpAny_setState_of oAt oDat fit ?_)
  dsimp only
  refine wp_if_neg (by rw [sizeLine_eq]; omega) ?_
  try refine wpAny_bind (wpAny_pure ?_)
  rw [e]
  dsimp only
  refine wpAny_bind ?_
  refine wp_if_neg (by rw [size2, len]; simp) ?_
  try refine wpAny_bind (wpAny_pure ?_)
  refine wpAny_pure ?_
  dsimp only
  refine wpAny_storeSet_of oAt oDat ?_ (by rw [size2, sizeLine_eq]; omega)
  have sb : Heap.SameBut a s.heap (s.heap.update a (Obj.putSet (od.filterMap (es[·]?)) t')) := Heap.SameBut.update ..
  refine q _ L2 (od.filterMap (es[·]?)) (ep + 1) t' sb ⟨⟨_, store_at oAt oDat, ⟨oSet.1, oSet.2.1, oSet.2.2⟩, rfl⟩, r1, T, (r2.map (·.2)).nodup_iff.mpr nd, fun p hp => isN_same (keys p (r2.mem_iff.mp hp)) oAt oDat sb, ?_⟩ r2
  rw [r2.length_eq, et]
  exact deep
end
theorem grow5 : SetTable.sizeAbove (SetTable.grown 5) = 32 := by decide +kernel
theorem grow19 : SetTable.sizeAbove (SetTable.grown 19) = 128 := by decide +kernel
theorem grow77 : SetTable.sizeAbove (SetTable.grown 77) = 512 := by decide +kernel
theorem grow307 : SetTable.sizeAbove (SetTable.grown 307) = 2048 := by decide +kernel
section
variable {P : Program} {w : World} {A : Around} {E : Value → Shared → Prop} {s : Shared} {a : Addr} {L : List (Addr × NestedKey)} {es : Array (Int × Value)} {ep : Nat} {t : SetTable}
theorem addN (R : SetN w s.heap a L es ep t) {x : Addr} {k : NestedKey} (hx : IsN s.heap k x) (hu : A.units + 8 < cLine) (few : L.length < 1100) {Q : Bool → Shared → Prop}
    (q : ∀ b h' L' es' ep' t', Heap.SameBut a s.heap h' → SetN w h' a L' es' ep' t' → (k ∈ L.map (·.2) → L' = L) → (k ∉ L.map (·.2) → L'.Perm ((x, k) :: L)) → Q b { s with heap := h' }) :
    wpAny (model P w) A (setAddHashed a (.ref x) (k.hash w)) Q E s := by
  obtain ⟨o, oAt, oSet, oDat⟩ := R.ob
  have len := R.len
  have room := R.room
  unfold setAddHashed
  refine wpAny_holding ?_
  rw [show (100000 : Nat) = 99999 + 1 from rfl, _root_.L2.setAddHashedIn_succ]
  refine wpAny_bind (wpAny_setState_of oAt oDat R.fits ?_)
  dsimp only
  refine wp_if_neg (by simp [byScan, Value.scannable]) ?_
  try refine wpAny_bind (wpAny_pure ?_)
  refine wpAny_bind (findN R hx hu (fun m => ?_) fun K m fr bf => ?_)
  · dsimp only
    exact wpAny_pure (q false s.heap L es ep t (Heap.SameBut.refl a s.heap) R (fun _ => rfl) fun z => absurd m z)
  · dsimp only
    refine wpAny_bind (wpAny_setState_of oAt oDat R.fits ?_)
    dsimp only
    obtain ⟨j, ej⟩ : ∃ j, L2.way t.mask (k.hash w) K = j := ⟨_, rfl⟩
    obtain ⟨p, ep'⟩ : ∃ p, SetTable.below t.place j = p := ⟨_, rfl⟩
    obtain ⟨c1, T1, m1, f1⟩ := R.tab.put fr bf ej ep'
    rw [ej]
    have put2 : (t.put j).2 = p := ep'
    generalize t.put j = pt at T1 m1 f1 put2
    obtain ⟨t1, p'⟩ := pt
    have put2 : p' = p := put2
    subst put2
    dsimp only at T1 m1 f1 ⊢
    rw [hashN_len] at c1 f1
    rw [← hashN_put w p' x k] at T1
    have rows1 : (SetTable.insertAt es p' (k.hash w, Value.ref x)).toList = rowsN w (L.take p' ++ (x, k) :: L.drop p') := by
      rw [SetTable.toList_insertAt, R.rows, rowsN_put]
    have pm := L2.put_perm L p' (x, k)
    generalize L.take p' ++ (x, k) :: L.drop p' = L1 at T1 rows1 pm
    have len1 : L1.length = L.length + 1 := pm.length_eq
    generalize SetTable.insertAt es p' (k.hash w, Value.ref x) = es1 at rows1 ⊢
    have size1 : es1.size = L.length + 1 := by
      rw [← Array.length_toList, rows1]
      exact (List.length_map _).trans len1
    have nd1 : (L1.map (·.2)).Nodup := (pm.map (·.2)).nodup_iff.mpr (List.nodup_cons.mpr ⟨m, R.nd⟩)
    have fin : ∀ t2 : SetTable, TabQ t2 (hashN w L1) → t2.mask = t.mask → t2.fill = L.length + 1 → wpAny (model P w) A (do
        storeSet a es1 t2
        if !false && t2.tooFull then setRelay a (SetTable.grown (es.size + 1))
        return true) Q E s := by
      intro t2 T2 m2 f2
      refine wpAny_bind (wpAny_storeSet_of oAt oDat ?_ (by rw [size1, sizeLine_eq]; omega))
      have sb : Heap.SameBut a s.heap (s.heap.update a (Obj.putSet es1 t2)) := Heap.SameBut.update ..
      have oAt1 := store_at (es' := es1) (t' := t2) oAt oDat
      generalize s.heap.update a (Obj.putSet es1 t2) = h1 at sb oAt1 ⊢
      have keys1 : ∀ r ∈ L1, IsN h1 r.2 r.1 := fun r hr => by
        rcases List.mem_cons.mp (pm.mem_iff.mp hr) with e | hr
        · rw [e]; exact isN_same hx oAt oDat sb
        · exact isN_same (R.keys r hr) oAt oDat sb
      have sz1 : t2.place.size = es1.size := by rw [T2.sz, hashN_len, len1, size1]
      by_cases full : t2.tooFull = true
      · have big : t2.mask * 3 ≤ (L.length + 1) * 5 := by
          have z := full
          unfold SetTable.tooFull at z
          rw [decide_eq_true_eq, f2] at z
          exact z
        rw [m2] at big
        have go : ∀ M, SetTable.sizeAbove (SetTable.grown (L.length + 1)) - 1 = M → MaskG M → (L.length + 1) * 5 < M * 3 → wpAny (model P w) A (setRelay a (SetTable.grown (L.length + 1))) (fun _ s' => wpAny (model P w) A (pure true) Q E s') E { s with heap := h1 } := fun M g1 g2 g3 =>
          relayN (s := { s with heap := h1 }) oAt1 ⟨oSet.1, oSet.2.1, oSet.2.2⟩ rfl rows1 sz1 T2.dm (by rw [size1, m2]; have := R.tab.mg; unfold MaskG at this; omega) nd1 keys1 g1 g2 (by rw [len1]; exact g3) fun h2 L2 es2 ep2 t3 sb2 R2 pm2 => wpAny_pure (q true h2 L2 es2 ep2 t3 (sb.trans sb2) R2 (fun z => absurd z m) fun _ => pm2.trans pm)
        rw [len]
        first
          | (refine wpAny_bind ?_; refine wp_if_pos (by simp [full]) ?_)
          | (refine wp_if_pos (by simp [full]) ?_; refine wpAny_bind ?_)
        rcases R.tab.mg with g | g | g | g | g
        · have z : L.length = 4 := by rw [g] at big room; omega
          exact go 31 (by rw [z, grow5]) (.inr (.inl rfl)) (by omega)
        · have z : L.length = 18 := by rw [g] at big room; omega
          exact go 127 (by rw [z, grow19]) (.inr (.inr (.inl rfl))) (by omega)
        · have z : L.length = 76 := by rw [g] at big room; omega
          exact go 511 (by rw [z, grow77]) (.inr (.inr (.inr (.inl rfl)))) (by omega)
        · have z : L.length = 306 := by rw [g] at big room; omega
          exact go 2047 (by rw [z, grow307]) (.inr (.inr (.inr (.inr rfl)))) (by omega)
        · exfalso
          rw [g] at big
          omega
      · first
          | refine wp_if_neg (by simp [full]) ?_
          | (refine wpAny_bind ?_; refine wp_if_neg (by simp [full]) ?_; refine wpAny_pure ?_)
        refine wpAny_pure (q true h1 L1 es1 (ep + 1) t2 sb ⟨⟨_, oAt1, ⟨oSet.1, oSet.2.1, oSet.2.2⟩, rfl⟩, rows1, T2, nd1, keys1, ?_⟩ (fun z => absurd z m) fun _ => pm)
        have z := full
        unfold SetTable.tooFull at z
        rw [decide_eq_true_eq, f2] at z
        rw [len1]
        omega
    by_cases pl : t1.plain = true
    · first
        | (refine wpAny_bind ?_; refine wp_if_pos pl ?_; refine askH_key k _ 8 s hx.1 hx.2 _ _ _ fun b => ?_)
        | refine wp_if_pos pl (wpAny_bind (askH_key k _ 8 s hx.1 hx.2 _ _ _ fun b => ?_))
      cases b with
      | true => exact fin t1 T1 m1 f1
      | false => exact fin { t1 with plain := false } ⟨T1.ris, T1.dm, T1.sz, T1.mg, T1.le, T1.lies⟩ m1 f1
    · first
        | (refine wpAny_bind ?_; refine wp_if_neg pl ?_; refine wpAny_pure ?_)
        | refine wp_if_neg pl ?_
      exact fin t1 T1 m1 f1
end
section
variable {P : Program} {w : World} {A : Around} {E : Value → Shared → Prop} {s : Shared} {a : Addr} {L : List (Addr × NestedKey)} {es : Array (Int × Value)} {ep : Nat} {t : SetTable}
theorem seekF (R : SetN w s.heap a L es ep t) {x : Addr} {k : NestedKey} (hx : IsN s.heap k x) (hu : A.units + 8 < cLine) {K : Nat} (K1 : K < 10 * SetTable.turns t.mask) (K2 : L2.way t.mask (k.hash w) K ∉ t.place.toList) (K3 : ∀ c, c < K → L2.way t.mask (k.hash w) c ∈ t.place.toList)
    {Q : SetFound → Shared → Prop} (yes : k ∈ L.map (·.2) → ∀ i, Q (.there (some i)) s) (no : k ∉ L.map (·.2) → Q (.free (L2.way t.mask (k.hash w) K) false) s) (p0 : SetTable.Probe) (hp0 : p0 = L2.runAt t.mask (SetTable.bits (k.hash w) % (t.mask + 1)) (SetTable.bits (k.hash w))) :
    ∀ (f c : Nat) (sd : Option SetTable.Probe), sd.getD (t.probeStart (k.hash w)) = L2.nth t.mask p0 c → c ≤ K → K < f + c → (∀ (i : Nat) p, L[i]? = some p → p.2 = k → ∃ c', c ≤ c' ∧ c' < K ∧ t.place.toList[i]? = some (L2.way t.mask (k.hash w) c')) →
      wpAny (model P w) A (setSearchFrom a (.ref x) (k.hash w) false f sd) Q E s := by
  have wy : ∀ n, (L2.nth t.mask p0 n).j = L2.way t.mask (k.hash w) n := fun n => by rw [hp0] <;> rfl
  obtain ⟨o, oAt, oSet, oDat⟩ := R.ob
  let ha : Nat → Int := fun i => (es[i]?.map (·.1)).getD 0
  have hrow : ∀ (i : Nat) p, L[i]? = some p → ha i = p.2.hash w := fun i p e => by
    show (es[i]?.map (·.1)).getD 0 = _
    rw [R.row e]
    rfl
  intro f
  induction f with
  | zero => intro c sd _ h1 h2 _; omega
  | succ f ih =>
    intro c sd est h1 h2 left
    rw [L2.setSearchFrom_succ]
    refine wpAny_bind (wpAny_setState_of oAt oDat R.fits ?_)
    dsimp only
    refine wp_if_neg R.stays ?_
    try refine wpAny_bind (wpAny_pure ?_)
    have jj : ∀ n, (L2.nth t.mask (L2.nth t.mask p0 c) n).j = L2.way t.mask (k.hash w) (c + n) := fun n => by rw [← L2.nth_add, wy]
    have sp := L2.go_spec t R.tab.ris R.tab.dm ha (k.hash w) (10 * SetTable.turns t.mask) (K - c) (L2.nth t.mask p0 c) (dummy_none _ _ _ (by rw [hp0]; rfl)) (by omega) (fun n deep => by rw [jj]; exact K3 _ (by omega)) (by rw [jj, show c + (K - c) = K by omega]; exact K2)
    rcases sp with ⟨n, i, n1, n2, n3, n4, n5⟩ | ⟨n4, n5⟩
    · have pr : t.probe ha (k.hash w) (sd.getD (t.probeStart (k.hash w))) = some (.candidate (L2.way t.mask (k.hash w) (c + n)) i (L2.nth t.mask p0 (c + (n + 1)))) := by
        rw [est, ← jj, L2.nth_add]
        exact n5
      rw [pr]
      dsimp only
      rw [jj] at n2
      have il : i < L.length := by
        have z := (List.getElem?_eq_some_iff.mp n2).1
        rw [Array.length_toList, R.tab.sz, hashN_len] at z
        exact z
      obtain ⟨p, ep'⟩ : ∃ p, L[i]? = some p := ⟨_, List.getElem?_eq_getElem il⟩
      have pm : p ∈ L := List.mem_of_getElem? ep'
      have sl := L2.slot_live R.tab.ris n2
      have go : wpAny (model P w) A (L2.searchRest a (.ref x) (k.hash w) false f es t (L2.way t.mask (k.hash w) (c + n)) i (L2.nth t.mask p0 (c + (n + 1)))) Q E s := by
        unfold L2.searchRest
        rw [R.row ep']
        dsimp only
        refine wpAny_bind (wpAny_holding ((nestedKind P w).eqBool hu (R.keys p pm) hx ?_))
        refine wpAny_bind (wpAny_setState_of oAt oDat R.fits ?_)
        dsimp only
        refine wp_if_neg (by simp) ?_
        try refine wpAny_bind (wpAny_pure ?_)
        rw [L2.sameMem]
        dsimp only
        simp only [if_true, sl, R.row ep']
        refine wpAny_bind (wpAny_isSame_ref_self (wpAny_bind (wpAny_pure ?_)))
        simp only [if_true]
        by_cases q : p.2 = k
        · refine wp_if_pos (by simp [q]) ?_
          exact wpAny_pure (yes (List.mem_map.mpr ⟨p, pm, q⟩) _)
        · refine wp_if_neg (by simp [q]) ?_
          refine ih (c + (n + 1)) _ rfl (by omega) (by omega) fun i0 r0 e0 k0 => ?_
          obtain ⟨c', c1, c2, c3⟩ := left i0 r0 e0 k0
          refine ⟨c', ?_, c2, c3⟩
          have hk0 : ha i0 = k.hash w := (hrow i0 r0 e0).trans (congrArg _ k0)
          by_cases z1 : c' < c + n
          · exact absurd hk0 (n4 (c' - c) i0 (by omega) (by rw [jj, show c + (c' - c) = c' by omega]; exact c3))
          · by_cases z2 : c' = c + n
            · subst z2
              have := L2.slot_live R.tab.ris c3
              rw [sl] at this
              injection this with this
              subst this
              rw [ep'] at e0
              cases e0
              exact absurd k0 q
            · omega
      by_cases l : t.led = true
      · refine wp_if_neg (by simp [l]) ?_
        try refine wpAny_bind (wpAny_pure ?_)
        exact go
      · refine wp_if_pos (by simp [l]) ?_
        refine wpAny_bind (seenN hx (fun y hy => ?_) ?_)
        · obtain ⟨r, hr, rfl⟩ := List.mem_map.mp hy
          have hr2 : r ∈ es.toList := by
            have z : r ∈ es ∧ r.1 = k.hash w := by simpa using hr
            simpa using z.1
          rw [R.rows] at hr2
          obtain ⟨p2, p3, rfl⟩ := List.mem_map.mp hr2
          exact ⟨p2.2, p2.1, rfl, R.keys p2 p3⟩
        · refine wp_if_neg (by decide) ?_
          try refine wpAny_bind (wpAny_pure ?_)
          exact go
    · have pr : t.probe ha (k.hash w) (sd.getD (t.probeStart (k.hash w))) = some (.empty (L2.way t.mask (k.hash w) K) none) := by
        have z : L2.way t.mask (k.hash w) K = (L2.nth t.mask (L2.nth t.mask p0 c) (K - c)).j := by rw [jj, show c + (K - c) = K by omega]
        rw [est, z]
        exact n5
      rw [pr]
      dsimp only
      refine wpAny_pure (no fun m => ?_)
      obtain ⟨r0, r1, k0⟩ := List.mem_map.mp m
      obtain ⟨i0, i1, rfl⟩ := List.getElem_of_mem r1
      have e0 : L[i0]? = some L[i0] := List.getElem?_eq_getElem i1
      obtain ⟨c', c1, c2, c3⟩ := left i0 _ e0 k0
      exact n4 (c' - c) i0 (by omega) (by rw [jj, show c + (c' - c) = c' by omega]; exact c3) ((hrow i0 _ e0).trans (congrArg _ k0))
end
section
variable {P : Program} {w : World} {A : Around} {E : Value → Shared → Prop} {s : Shared} {a : Addr} {L : List (Addr × NestedKey)} {es : Array (Int × Value)} {ep : Nat} {t : SetTable}
theorem hasN (R : SetN w s.heap a L es ep t) {x : Addr} {k : NestedKey} (hx : IsN s.heap k x) (hu : A.units + 8 < cLine) {Q : Option Nat → Shared → Prop} (q : ∀ r : Option Nat, r.isSome = decide (k ∈ L.map (·.2)) → Q r s) :
    wpAny (model P w) A (setFind a (.ref x) (k.hash w)) Q E s := by
  obtain ⟨o, oAt, oSet, oDat⟩ := R.ob
  have room := R.room
  unfold setFind
  rw [show (100000 : Nat) = 99999 + 1 from rfl]
  unfold setFindIn
  refine wpAny_bind (wpAny_setState_of oAt oDat R.fits ?_)
  dsimp only
  refine wp_if_neg (by simp [byScan, Value.scannable]) ?_
  try refine wpAny_bind (wpAny_pure ?_)
  obtain ⟨K, K1, K2, K3⟩ := R.tab.free (by rw [hashN_len]; omega) (k.hash w)
  have small : K < 100000 := by
    have g := R.tab.mg
    unfold MaskG at g
    unfold SetTable.turns at K1
    omega
  unfold setSearch
  refine wpAny_bind (seekF R hx hu K1 K2 K3 (fun m i => ?_) (fun m => ?_) _ rfl 100000 0 none rfl (Nat.zero_le _) (by omega) fun i p e1 e2 => ?_)
  · exact wpAny_pure (q _ (by rw [decide_eq_true m]; rfl))
  · exact wpAny_pure (q _ (by rw [decide_eq_false m]; rfl))
  · have il : i < t.place.toList.length := by
      have z := (List.getElem?_eq_some_iff.mp e1).1
      rw [Array.length_toList, R.tab.sz, hashN_len]
      exact z
    have pj : t.place.toList[i]? = some t.place.toList[i] := List.getElem?_eq_getElem il
    have hi : (hashN w L)[i]? = some (k.hash w) := by
      unfold hashN
      rw [List.getElem?_map, e1, ← e2]
      rfl
    obtain ⟨c, c1, c2⟩ := R.tab.ahead K2 hi pj
    exact ⟨c, Nat.zero_le _, c1, by rw [pj, c2]⟩
end
section
variable {P : Program} {w : World} {A : Around} {E : Value → Shared → Prop} {s : Shared} {a : Addr} {L : List (Addr × NestedKey)} {es : Array (Int × Value)} {ep : Nat} {t : SetTable}
theorem SetN.keep {h h' : Heap} (R : SetN w h a L es ep t) (kp : ∀ b o, h.get? b = some o → h'.get? b = some o) : SetN w h' a L es ep t :=
  ⟨let ⟨o, e, r⟩ := R.ob; ⟨o, kp _ _ e, r⟩, R.rows, R.tab, R.nd, fun p hp => ⟨NestedIs.at (fun b ob vs n e _ => kp _ _ e) _ _ (R.keys p hp).1, (R.keys p hp).2⟩, R.room⟩
theorem SetN.type (R : SetN w s.heap a L es ep t) : s.TypeIs (.ref a) "set" := let ⟨o, e, r, _⟩ := R.ob; ⟨o, e, r.1⟩
theorem addCallN (R : SetN w s.heap a L es ep t) {x : Addr} {k : NestedKey} (hx : IsN s.heap k x) (hu : A.units + 40 < cLine) (few : L.length < 1100) {Q : Value → Shared → Prop}
    (q : ∀ h' tk L' es' ep' t', Heap.SameBut a s.heap h' → SetN w h' a L' es' ep' t' → (k ∈ L.map (·.2) → L' = L) → (k ∉ L.map (·.2) → L'.Perm ((x, k) :: L)) → Q .none { s with heap := h', toks := tk }) :
    wpAny (model P w) A (call (.builtin "set.add") [.ref a, .ref x]) Q E s := by
  refine wpAny_call_entry F.slot_set_add R.type F.entry_set_add ?_ (F.args_set_add_2 _ _)
  unfold Builtin.«set.add» Builtin.Frozenset.oneOther
  simp only [List.isEmpty_nil, bind_assoc]
  unfold Builtin.Frozenset.addrOf setAdd
  refine wpAny_bind (wpAny_pure ?_)
  try dsimp only
  refine wpAny_bind (wpAny_pure ?_)
  try dsimp only
  refine wpAny_bind ?_
  refine wpAny_holding ?_
  refine wpAny_bind ((nestedKind P w).pyHash (by show _ + 8 < cLine; simp only [Around.in1, Around.under]; omega) hx ?_)
  refine addN (P := P) (R.keep fun b o e => e) (s := { s with toks := s.toks + k.draws }) hx (by simp only [Around.in1, Around.under]; omega) few fun b h' L' es' ep' t' sb R' y n => ?_
  exact wpAny_pure ⟨_, rfl, q h' _ L' es' ep' t' sb R' y n⟩
end
section
variable {P : Program} {w : World} {A : Around} {E : Value → Shared → Prop} {s : Shared} {a : Addr} {L : List (Addr × NestedKey)} {es : Array (Int × Value)} {ep : Nat} {t : SetTable}
theorem notInN (R : SetN w s.heap a L es ep t) {x : Addr} {k : NestedKey} (hx : IsN s.heap k x) (hu : A.units + 40 < cLine) {Q : Value → Shared → Prop} (q : ∀ tk, Q (.bool (!decide (k ∈ L.map (·.2)))) { s with toks := tk }) :
    wpAny (model P w) A (compareOp .NotIn (.ref x) (.ref a)) Q E s := by
  show wpAny _ _ (do return .bool (!(← contains (.ref a) (.ref x)))) Q E s
  refine wpAny_bind ?_
  unfold contains
  try with_reducible refine wpAny_holding ?_
  refine wpAny_bind (wpAny_specialOf R.type F.slot_set_contains.lookup ?_)
  show wpAny _ _ (if (some (Value.builtin "set.__contains__") == some Value.none) = true then _ else _) _ E s
  rw [if_neg (by rw [beq_builtin_none]; exact Bool.false_ne_true)]
  refine wpAny_bind (wpAny_callSpecialUnlessNone?_slot (name := Str.ofString "__contains__") R.type F.slot_set_contains
    (wpAny_call_entry F.slot_set_contains R.type entry_set_contains ?_ (F.args_set_contains_2 _ _)))
  unfold Builtin.«frozenset.__contains__» Builtin.Frozenset.oneOther
  simp only [List.isEmpty_nil, bind_assoc]
  unfold Builtin.Frozenset.addrOf Builtin.Frozenset.withSetAsKey setContains
  refine wpAny_bind (wpAny_pure ?_)
  try dsimp only
  refine wpAny_bind (wpAny_pure ?_)
  try dsimp only
  refine wpAny_bind (wpAny_tryCatch ?_)
  refine wpAny_holding ?_
  refine wpAny_bind ((nestedKind P w).pyHash (by show _ + 8 < cLine; simp only [Around.in1, Around.under]; omega) hx ?_)
  refine wpAny_bind (hasN (P := P) (R.keep fun b o e => e) (s := { s with toks := s.toks + k.draws }) hx (by simp only [Around.in1, Around.under]; omega) fun r hr => ?_)
  refine wpAny_pure ?_
  show wpAny _ _ (ret (Value.bool r.isSome)) _ _ _
  rw [hr]
  exact wpAny_pure ⟨_, rfl, wpAny_truthy_bool (wpAny_pure (q _))⟩
end

end LC
namespace LC
open PySem PySem.Spec PyProof.Rows L2

/-! ### data as keys -/
mutual
def keyD : PyData → NestedKey
  | .none => .none
  | .bool b => .num (if b = true then 1 else 0)
  | .int i => .num i
  | .str x => .text x
  | .tuple ds => .tup (keysD ds)
  | .list _ => .none
  | .dict _ => .none
def keysD : List PyData → List NestedKey
  | [] => []
  | d :: ds => keyD d :: keysD ds
end
mutual
/-- ints, texts, None, tuples of such -/
def keyed : PyData → Bool
  | .none => true
  | .int _ => true
  | .str _ => true
  | .tuple ds => keyedAll ds
  | _ => false
def keyedAll : List PyData → Bool
  | [] => true
  | d :: ds => keyed d && keyedAll ds
end
mutual
theorem keyD_inj : ∀ (d e : PyData), keyed d = true → keyed e = true → keyD d = keyD e → d = e
  | .none, e, _, h, k => by cases e <;> simp_all [keyD, keyed]
  | .int i, e, _, h, k => by cases e <;> simp_all [keyD, keyed]
  | .str x, e, _, h, k => by cases e <;> simp_all [keyD, keyed]
  | .tuple ds, .tuple es, h1, h2, k => by
    simp only [keyD, NestedKey.tup.injEq] at k
    rw [keysD_inj ds es (by simpa [keyed] using h1) (by simpa [keyed] using h2) k]
  | .tuple ds, .none, _, _, k => by simp [keyD] at k
  | .tuple ds, .int _, _, _, k => by simp [keyD] at k
  | .tuple ds, .str _, _, _, k => by simp [keyD] at k
  | .tuple ds, .bool _, _, h, _ => by simp [keyed] at h
  | .tuple ds, .list _, _, h, _ => by simp [keyed] at h
  | .tuple ds, .dict _, _, h, _ => by simp [keyed] at h
  | .bool _, _, h, _, _ => by simp [keyed] at h
  | .list _, _, h, _, _ => by simp [keyed] at h
  | .dict _, _, h, _, _ => by simp [keyed] at h
theorem keysD_inj : ∀ (ds es : List PyData), keyedAll ds = true → keyedAll es = true → keysD ds = keysD es → ds = es
  | [], [], _, _, _ => rfl
  | [], _ :: _, _, _, k => by simp [keysD] at k
  | _ :: _, [], _, _, k => by simp [keysD] at k
  | d :: ds, e :: es, h1, h2, k => by
    simp only [keysD, List.cons.injEq] at k
    simp only [keyedAll, Bool.and_eq_true] at h1 h2
    rw [keyD_inj d e h1.1 h2.1 k.1, keysD_inj ds es h1.2 h2.2 k.2]
end
mutual
theorem is_of_dt {P : Program} {w : World} {F H : Hp} {h : Heap} (z : Same F H) (ok : HOk P w H h) : ∀ (d : PyData) (v : V) (u : Value), keyed d = true → Dt F v d → RelV v u → NestedIs h (keyD d) u
  | .none, _, u, _, x, r => by cases x; cases (show u = Value.none from r); exact .none
  | .int i, _, u, _, x, r => by cases x; obtain ⟨t, rfl⟩ := (show ∃ t, u = Value.int i t from r); exact .int i t
  | .str y, _, u, _, x, r => by cases x; obtain ⟨t, rfl⟩ := (show ∃ t, u = Value.str y t from r); exact .text y t
  | .bool _, _, _, k, _, _ => by simp [keyed] at k
  | .list _, _, _, k, _, _ => by simp [keyed] at k
  | .dict _, _, _, k, _, _ => by simp [keyed] at k
  | .tuple ds, _, u, k, x, r => by
    cases x with
    | @tup a xs _ hs ha =>
      obtain rfl : u = Value.ref a := r
      obtain ⟨_, its, rv, o, e1, e2, n, e3⟩ := (show ObjOk P w H h a (.tup xs) from ok a _ (z _ _ hs))
      exact .tup e1 e2 e3 (isAll_of_dt z ok ds xs its (by simpa [keyed] using k) ha rv)
theorem isAll_of_dt {P : Program} {w : World} {F H : Hp} {h : Heap} (z : Same F H) (ok : HOk P w H h) : ∀ (ds : List PyData) (vs : List V) (us : List Value), keyedAll ds = true → DtAll F vs ds → Vals vs us → NestedAll h (keysD ds) us
  | [], _, _, _, x, r => by cases x; cases r; exact .nil
  | d :: ds, _, _, k, x, r => by
    simp only [keyedAll, Bool.and_eq_true] at k
    cases x with
    | cons x1 x2 =>
      cases r with
      | cons r1 r2 => exact .cons (is_of_dt z ok d _ _ k.1 x1 r1) (isAll_of_dt z ok ds _ _ k.2 x2 r2)
end
end LC
namespace LC
open PySem PySem.Spec PyProof.Rows L2

/-! ### the set in a frame -/
def SetX (a : Addr) (o : Obj) : HO := .ext fun h => h.get? a = some o
def SetF (w : World) (F : Hp) (a : Addr) (u : HO) (ds : List PyData) : Prop := ∃ (o : Obj) (L : List (Addr × NestedKey)) (es : Array (Int × Value)) (ep : Nat) (t : SetTable), u = SetX a o ∧ o.ExactSet ∧ o.data = .set es ep t ∧ es.toList = rowsN w L ∧ TabQ t (hashN w L) ∧ (L.map (·.2)).Nodup ∧ L.length * 5 < t.mask * 3 ∧ L.length = ds.length ∧
  (∀ p ∈ L, ∃ d, keyed d = true ∧ (keyD d).depth ≤ 8 ∧ p.2 = keyD d ∧ Dt F (.ref p.1) d) ∧ ∀ d, keyed d = true → (keyD d ∈ L.map (·.2) ↔ d ∈ ds)
theorem SetF.mono {w : World} {F F' : Hp} {a : Addr} {u : HO} {ds : List PyData} (e : ∀ b o, F b = some o → F' b = some o) (h : SetF w F a u ds) : SetF w F' a u ds := by
  obtain ⟨o, L, es, ep, t, h1, h2, h3, h4, h5, h6, h7, h8, h9, h10⟩ := h
  exact ⟨o, L, es, ep, t, h1, h2, h3, h4, h5, h6, h7, h8, fun p hp => let ⟨d, k1, k2, k3, k4⟩ := h9 p hp; ⟨d, k1, k2, k3, dp_mono e _ _ k4⟩, h10⟩
theorem nt_setX {a : Addr} {o : Obj} : NoTbl (SetX a o) := fun _ z => nomatch z
theorem setX_ok {P : Program} {w : World} {H : Hp} {h : Heap} {a : Addr} {o : Obj} (e : h.get? a = some o) : ObjOk P w H h a (SetX a o) := ⟨e, ⟨o, e⟩, fun _ _ p k => k _ p⟩
theorem SetF.toN {P : Program} {w : World} {F H : Hp} {h : Heap} {a : Addr} {u : HO} {ds : List PyData} (ok : HOk P w H h) (z : Fz F H) (e : H a = some u) (s : SetF w F a u ds) : ∃ L es ep t, SetN w h a L es ep t ∧ L.length = ds.length ∧ (∀ p ∈ L, ∃ d, keyed d = true ∧ (keyD d).depth ≤ 8 ∧ p.2 = keyD d ∧ Dt F (.ref p.1) d) ∧ ∀ d, keyed d = true → (keyD d ∈ L.map (·.2) ↔ d ∈ ds) := by
  obtain ⟨o, L, es, ep, t, rfl, h2, h3, h4, h5, h6, h7, h8, h9, h10⟩ := s
  have g : h.get? a = some o := (ok a _ e).1
  exact ⟨L, es, ep, t, ⟨⟨o, g, h2, h3⟩, h4, h5, h6, fun p hp => let ⟨d, k1, k2, k3, k4⟩ := h9 p hp; ⟨k3 ▸ is_of_dt z.same ok d _ (.ref p.1) k1 k4 rfl, k3 ▸ k2⟩, h7⟩, h8, h9, h10⟩
theorem setF_of {w : World} {F : Hp} {h : Heap} {a : Addr} {L : List (Addr × NestedKey)} {es : Array (Int × Value)} {ep : Nat} {t : SetTable} {ds : List PyData} (R : SetN w h a L es ep t) (h8 : L.length = ds.length) (h9 : ∀ p ∈ L, ∃ d, keyed d = true ∧ (keyD d).depth ≤ 8 ∧ p.2 = keyD d ∧ Dt F (.ref p.1) d) (h10 : ∀ d, keyed d = true → (keyD d ∈ L.map (·.2) ↔ d ∈ ds)) :
    ∃ o, h.get? a = some o ∧ SetF w F a (SetX a o) ds := let ⟨o, e, h2, h3⟩ := R.ob; ⟨o, e, o, L, es, ep, t, rfl, h2, h3, R.rows, R.tab, R.nd, R.room, h8, h9, h10⟩
def gdS (w : World) (K : PySem.W.Frag) : Gd where
  cm := (gd K).cm
  cc := (gd K).cc
  tab := (gd K).tab
  mono := (gd K).mono
  obj := SetF w
  omono := SetF.mono
abbrev fresh0 (w : World) : Obj := { cls := .type "set", dict := none, data := .set #[] 0 (.fresh 0 0 (!w.params.followText "set-order")) }
theorem setF_fresh {w : World} {F : Hp} {a : Addr} : SetF w F a (SetX a (fresh0 w)) [] :=
  ⟨fresh0 w, [], #[], 0, _, rfl, ⟨rfl, rfl, rfl⟩, rfl, rfl, ⟨List.Pairwise.nil, rfl, rfl, .inl rfl, fun j h => (nomatch h), fun i h j e => by simp [hashN] at e⟩, List.nodup_nil, by show 0 * 5 < 7 * 3; decide, rfl, fun p h => (nomatch h), fun d _ => by simp⟩
section
variable {X : Cx} {ρ : Ro} {p pos : Pos} {G : Gd} {K : PySem.W.Frag}
def rSetX (w : World) : List V → Hp → VK → Prop := fun xs H Q => xs = [] ∧ ∀ q, H q = none → Q (.ref q) (upd H q (SetX q (fresh0 w)))
theorem cr_setX : CallR X (.type "set") (rSetX X.w) := by
  intro pins s σ H xs us Q I r h
  obtain ⟨rfl, q⟩ := h
  cases r
  refine setR_new fun _ => ?_
  exact ⟨.ref _, upd H s.heap.objs.size (SetX s.heap.objs.size (fresh0 X.w)), I.laid (t' := s.toks) (fun b u e => Heap.get?_push_of_some _ e) (Nat.le_refl _) (setX_ok (Heap.get?_push_size _ rfl)), rfl, q _ (I.hok.fresh (Nat.le_refl _))⟩
/-- set() -/
theorem xe_set0 (hm : X.mg "set" = none) (hg : Gl X "set" := by rfl) (hv : bootBuiltins "set" = some (.type "set") := by decide +kernel) : XE (gdS X.w K) X (.Call (.Name "set" p) [] [] pos) ρ (.obj []) :=
  ⟨_, pe_callTy0 cr_setX hg hm hv, fun H0 F0 γ σ H F S Q q => ⟨rfl, fun a ha => q _ _ F ⟨S.fz.new ha, .new ha, (gdS X.w K).mono (extL_new ha) S.tab, [a], ⟨a, _, rfl, rfl, upd_same, nt_setX, setF_fresh⟩, by simp, fun b hb => by rw [List.mem_singleton.mp hb]; exact ⟨ha, S.fz.non ha⟩⟩⟩⟩
end
section
variable {X : Cx} {ρ : Ro} {p pos apos : Pos} {G : Gd} {Ex : Hp → Prop} {x : Str} {e : Expr} {es : List Expr} {te : TE} {ta : TA}
/-- seen.add(e), e not in it -/
def tSAdd (w : World) (i : Nat) (ta : TA) : TE := fun σ H Q => ∃ (a : Addr) (o : Obj), σ[i]? = some (some (.ref a)) ∧ H a = some (SetX a o) ∧ o.ExactSet ∧ ta σ H fun vs H1 => ∃ (b : Addr) (F : Hp) (u : HO) (ds : List PyData) (d : PyData), vs = [.ref b] ∧ H1 a = some u ∧ Fz F H1 ∧ SetF w F a u ds ∧ Dt F (.ref b) d ∧ keyed d = true ∧ (keyD d).depth ≤ 8 ∧ ds.length < 1100 ∧ d ∉ ds ∧
  ∀ o', SetF w F a (SetX a o') (d :: ds) → Q .non (upd H1 a (SetX a o'))
theorem pe_sadd (i : Nat) (hu : X.A.units + 60 < cLine) (hN : X.N[i]? = some x) (hv : Vis X.env.scope x) (ha : PA X (e :: es) ta) (hd : (x == ("__debug__" : Str)) = false := by decide) (hcd : (x == ("__classdict__" : Str)) = false := by decide)
    (hbase : attributeBase (.Name x p) "add" X.env (eval (.Name x p) X.env) = eval (.Name x p) X.env := by rfl)
    (hfew : ((backTo pos (starEach (e :: es) X.env)).all (fun x => !x.1) && (backToKw pos (keywordEach [] X.env)).all (fun x => x.1.isSome)
      && decide ((e :: es).length + ([] : List Keyword).length + (if ([] : List Keyword).isEmpty then 0 else 1) < 30)) = true := by rfl)
    (hline : (apos.endLine == pos.line) = true := by rfl) (hs : starEach (e :: es) X.env = (false, eval e X.env) :: starEach es X.env := by rfl) (hplain : (backTo pos (starEach es X.env)).any (·.1) = false := by rfl) :
    PE X (.Call (.Attribute (.Name x p) "add" apos) (e :: es) [] pos) (tSAdd X.w i ta) := by
  refine ⟨fun pins s σ H Q I ⟨a, o, h1, h2, h3, h4⟩ => ?_⟩
  refine wpAny_Call_method_late hbase hfew hline rfl (thn ((pe_var (pos := p) hN hv hd hcd).run pins s σ H (fun v H1 => v = .ref a ∧ H1 = H) I ⟨.ref a, h1, rfl, rfl⟩) fun v s1 ⟨y, H1, I1, r1, q1⟩ => ?_)
  obtain ⟨ey, eH⟩ := q1
  subst ey
  rw [eH] at I1
  cases r1
  have g : s1.heap.get? a = some o := (I1.hok a _ h2).1
  refine ⟨"set", "set.add", F.plainAttrs_set, F.slot_set_add, F.type_set_add, ⟨o, g, h3.1⟩, fun c hc => (by cases hc; exact ⟨o, g, h3.2.1⟩), ?_⟩
  have hA := ha.run pos pins s1 σ H _ I1 h4
  rw [hs] at hA ⊢
  refine Calls.callWith_builtin (by show (false || (backTo pos (starEach es X.env)).any (·.1)) = false; rw [hplain] <;> rfl) (Calls.evalArgs_plain ?_)
  refine thn hA fun us s2 ⟨vs, H2, I2, r2, b, F, u, ds, d, ev, k1, k2, k3, k4, k5, k6, k7, k8, k9⟩ => ?_
  subst ev
  cases r2 with
  | cons ra rt =>
    cases rt
    cases ra
    obtain ⟨L, es', ep, t, R, n1, n2, n3⟩ := k3.toN I2.hok k2 k1
    have hb : IsN s2.heap (keyD d) b := ⟨is_of_dt k2.same I2.hok d _ (.ref b) k5 k4 rfl, k6⟩
    refine addCallN R hb (by omega) (by omega) fun h' tk L' es2 ep' t' sb R' y n => ?_
    have nin : keyD d ∉ L.map (·.2) := fun m => k8 ((n3 d k5).mp m)
    have pm := n nin
    obtain ⟨o', e1, e2⟩ := setF_of (F := F) (ds := d :: ds) R' (by rw [pm.length_eq, List.length_cons, List.length_cons, n1]) (fun q hq => by
      rcases List.mem_cons.mp (pm.mem_iff.mp hq) with z | z
      · rw [z]; exact ⟨d, k5, k6, rfl, k4⟩
      · exact n2 q z) (fun d' kd => by
      rw [(pm.map (·.2)).mem_iff, List.map_cons, List.mem_cons, List.mem_cons, n3 d' kd]
      constructor
      · rintro (z | z)
        · exact .inl (keyD_inj d' d kd k5 z)
        · exact .inr z
      · rintro (z | z)
        · exact .inl (by rw [z])
        · exact .inr z)
    obtain ⟨o0, _, _, _, _, eu, _⟩ := k3
    exact ⟨.non, upd H2 a (SetX a o'), I2.write (e := a) (t' := tk) (by rw [k1, eu]; trivial) (.inl rfl) (fun b' u' hb' hu' => (sb.2 b' hb').trans hu') ⟨o', e1⟩ (setX_ok e1), rfl, k9 o' e2⟩
end
/-- the slot's object is written -/
theorem Sta.wrO {G : Gd} {K : PySem.W.Frag} {H0 F0 H F : Hp} {γ : Gh} {σ : L2.St} {ρ : Ro} {i : Nat} {ds : List PyData} (S : Sta G K H0 F0 γ σ H F ρ) (h : ρ[i]? = some (some (.obj ds))) : ∃ a u, σ[i]? = some (some (.ref a)) ∧ H a = some u ∧ NoTbl u ∧ G.obj F a u ds ∧ F a = none ∧
    ∀ u' ds', NoTbl u' → G.obj F a u' ds' → G.tab (upd H a u') → Sta G K H0 F0 γ σ (upd H a u') F (ρ.set i (some (.obj ds'))) := by
  obtain ⟨fs, h1, h2, h3⟩ := S.ex
  obtain ⟨v, fp, e1, e2, a, u, rfl, rfl, e3, e4, e5⟩ := h1.get h
  obtain ⟨n1, n2, n3, n4⟩ := flat_split e2 h2
  have m : a ∈ fs.flatten := n4.subset (List.mem_singleton.mpr rfl)
  refine ⟨a, u, e1, e3, e4, e5, (h3 a m).1, fun u' ds' t' o' tb => ⟨fun b w q => ?_, ⟨fun b w q n => ?_, fun b q => ?_, S.grow.fro⟩, tb, S.gh, fs, ?_, h2, h3⟩⟩
  · rw [upd_ne (ne_of_none q (h3 a m).1)]
    exact S.fz b w q
  · rw [upd_ne (ne_of_none q (h3 a m).2)]
    exact S.grow.keep b w q n
  · by_cases hb : b = a
    · rw [hb]; exact (h3 a m).2
    · rw [upd_ne hb] at q
      exact S.grow.live b q
  · have w := (h1.wipe1 i).upd (ob := u') (n2 a (List.mem_singleton.mpr rfl))
    have w := w.set (v := .ref a) (e := .obj ds') (fp := [a]) ⟨a, u', rfl, rfl, upd_same, t', o'⟩ i
    rw [List.set_set, List.set_set, List.set_set, set_get e1, set_get e2] at w
    exact w
section
variable {X : Cx} {ρ : Ro} {p pos pos' apos : Pos} {G : Gd} {Ex : Hp → Prop} {x : Str} {e : Expr}
/-- G's objects are such sets -/
structure SetG (G : Gd) (w : World) : Prop where
  of : ∀ F a u ds, G.obj F a u ds → SetF w F a u ds
  to : ∀ F a u ds u' ds', G.obj F a u ds → SetF w F a u' ds' → G.obj F a u' ds'
  tab : ∀ H F a u u' ds, G.tab H → H a = some u → G.obj F a u ds → G.tab (upd H a u')
theorem xs_sadd (SG : SetG G X.w) (i : Nat) {d : PyData} {ds : List PyData} (hu : X.A.units + 60 < cLine) (he : XE G X e ρ (dat_ d)) (ht : ∃ es, d = .tuple es) (kd : keyed d = true) (dp : (keyD d).depth ≤ 8) (few : ds.length < 1100) (new : d ∉ ds) (h : ρ[i]? = some (some (.obj ds)) := by rfl) (hN : X.N[i]? = some x := by rfl)
    (hv : Vis X.env.scope x := by first | exact Or.inl rfl | exact Or.inr (Or.inl rfl) | exact Or.inr (Or.inr rfl)) (hd : (x == ("__debug__" : Str)) = false := by decide) (hcd : (x == ("__classdict__" : Str)) = false := by decide)
    (hsw : swapsWith (.Call (.Attribute (.Name x p) "add" apos) [e] [] pos) none pos'.line X.env = pure false := by rfl)
    (hbase : attributeBase (.Name x p) "add" X.env (eval (.Name x p) X.env) = eval (.Name x p) X.env := by rfl)
    (hfew : ((backTo pos (starEach [e] X.env)).all (fun x => !x.1) && (backToKw pos (keywordEach [] X.env)).all (fun x => x.1.isSome)
      && decide ([e].length + ([] : List Keyword).length + (if ([] : List Keyword).isEmpty then 0 else 1) < 30)) = true := by rfl)
    (hline : (apos.endLine == pos.line) = true := by rfl) (hst : starEach [e] X.env = (false, eval e X.env) :: starEach [] X.env := by rfl) (hplain : (backTo pos (starEach [] X.env)).any (·.1) = false := by rfl) :
    XS G X Ex (.Expr (.Call (.Attribute (.Name x p) "add" apos) [e] [] pos) pos') ρ (.nx (ρ.set i (some (.obj (d :: ds))))) := fun H0 F0 γ σ H F S D q => by
  obtain ⟨a, u, e1, e2, e3, e4, e5, _⟩ := S.wrO h
  obtain ⟨o, L, es0, ep0, t0, rfl, x1, x2, x3⟩ := SG.of _ _ _ _ e4
  refine ⟨_, ps_expr (pe_sadd (p := p) (apos := apos) i hu hN hv (pa_cons pe_s pa_nil hst) hd hcd hbase hfew hline hst hplain) hsw, a, o, e1, e2, x1, he.s S fun v H1 F1 n => ?_⟩
  have S1 := S.nx n
  obtain ⟨a', u', f1, f2, f3, f4, f5, f6⟩ := S1.wrO h
  rw [e1] at f1
  cases f1
  obtain ⟨es, rfl⟩ := ht
  have nv : Dt F1 v (.tuple es) := n.rsAt
  obtain ⟨b, rfl⟩ : ∃ b, v = .ref b := by cases nv; exact ⟨_, rfl⟩
  exact ⟨b, F1, u', ds, .tuple es, rfl, f2, S1.fz, SG.of _ _ _ _ f4, nv, kd, dp, few, new, fun o' so => q _ _ _ (f6 _ _ nt_setX (SG.to _ _ _ _ _ _ f4 so) (SG.tab _ _ _ _ _ _ S1.tab f2 f4))⟩
end
section
variable {X : Cx} {ρ : Ro} {p pos : Pos} {G : Gd} {x : Str} {e : Expr}
def rNotInS (w : World) : R2 := fun x y H Q => ∃ (a b : Addr) (F : Hp) (u : HO) (ds : List PyData) (d : PyData) (k : Bool), x = .ref b ∧ y = .ref a ∧ H a = some u ∧ Fz F H ∧ SetF w F a u ds ∧ Dt F (.ref b) d ∧ keyed d = true ∧ (keyD d).depth ≤ 8 ∧ (k = true ↔ d ∈ ds) ∧ Q (.bl (!k)) H
theorem op_notInS (hu : X.A.units + 60 < cLine) : OpR X (compareOp .NotIn) (rNotInS X.w) := by
  intro pins s σ H y z v u Q I ry rz ⟨a, b, F, o, ds, d, k, e1, e2, h1, h2, h3, h4, h5, h6, h7, q⟩
  subst e1 e2
  cases ry
  cases rz
  obtain ⟨L, es, ep, t, R, n1, n2, n3⟩ := h3.toN I.hok h2 h1
  refine notInN R ⟨is_of_dt h2.same I.hok d _ (.ref b) h5 h4 rfl, h6⟩ (by omega) fun tk => ?_
  have ek : decide (keyD d ∈ L.map (·.2)) = k := by
    rw [Bool.eq_iff_iff, decide_eq_true_iff, h7]
    exact n3 d h5
  rw [ek]
  exact ⟨.bl (!k), H, I.tok tk, rfl, q⟩
/-- e not in seen -/
theorem xt_notInS (SG : SetG G X.w) (i : Nat) {d : PyData} {ds : List PyData} {k : Bool} (hu : X.A.units + 60 < cLine) (he : XE G X e ρ (dat_ d)) (ht : ∃ es, d = .tuple es) (kd : keyed d = true) (dp : (keyD d).depth ≤ 8) (hk : k = true ↔ d ∈ ds) (h : ρ[i]? = some (some (.obj ds)) := by rfl) (hN : X.N[i]? = some x := by rfl)
    (hv : Vis X.env.scope x := by first | exact Or.inl rfl | exact Or.inr (Or.inl rfl) | exact Or.inr (Or.inr rfl)) (hd : (x == ("__debug__" : Str)) = false := by decide) (hcd : (x == ("__classdict__" : Str)) = false := by decide) (hm : behindInMarks .NotIn (.Name x p) = false := by rfl) :
    XT G X (.Compare e [.NotIn] [.Name x p] pos) ρ (!k) :=
  ⟨_, pt_cmpR (op_notInS hu) pe_s (pe_var hN hv hd hcd) hm, fun H0 F0 γ σ H F S Q q => he.s S fun v H1 F1 n => by
    have S1 := S.nx n
    obtain ⟨a, u, f1, f2, f3, f4, f5, _⟩ := S1.wrO h
    obtain ⟨es, rfl⟩ := ht
    have nv : Dt F1 v (.tuple es) := n.rsAt
    obtain ⟨b, rfl⟩ : ∃ b, v = .ref b := by cases nv; exact ⟨_, rfl⟩
    exact ⟨.ref a, f1, a, b, F1, u, ds, .tuple es, k, rfl, rfl, f2, S1.fz, SG.of _ _ _ _ f4, nv, kd, dp, hk, !k, rfl, q H1 F1 n.grow n.fz n.tab⟩⟩
end
end LC
namespace LC
open PySem PySem.Spec PyProof.Rows L2

/-! ### what explore's frame knows: facts of the heap, its set -/
/-- what is known of the heap: objects that stand; code objects of `follow` -/
structure Kn where
  fs : List (Addr × HO)
  hn : ∀ p ∈ fs, NoL p.2
  cs : List Addr
def Reg (K : PySem.W.Frag) (H : Hp) (c : Addr) : Prop := ∃ ps : Array Value, H (tabF K) = some (.tbl ps) ∧ codeAmong posF ps.toList = some (.ref c)
/-- tables grow -/
def Gr (H H' : Hp) : Prop := ∀ b ps, H b = some (.tbl ps) → ∃ more, H' b = some (.tbl (ps ++ more))
theorem among_more {pos : Pos} {cv : Value} {more : List Value} : ∀ (l : List Value), codeAmong pos l = some cv → codeAmong pos (l ++ more) = some cv := fun l h => by
  fun_induction codeAmong pos l with
  | case1 line t col u c rest q =>
    simp only [List.cons_append, codeAmong]
    rw [if_pos q]
    exact h
  | case2 line t col u c rest q ih =>
    simp only [List.cons_append, codeAmong]
    rw [if_neg q]
    exact ih h
  | case3 => cases h
theorem Reg.gr {K : PySem.W.Frag} {H H' : Hp} {c : Addr} (r : Reg K H c) (g : Gr H H') : Reg K H' c := by
  obtain ⟨ps, h1, h2⟩ := r
  obtain ⟨more, h3⟩ := g _ _ h1
  exact ⟨_, h3, by rw [Array.toList_append]; exact among_more _ h2⟩
theorem Reg.go {K : PySem.W.Frag} {H H' : Hp} {c : Addr} (r : Reg K H c) (e : ∀ T ps, H T = some (.tbl ps) → H' T = some (.tbl ps)) : Reg K H' c := let ⟨ps, h1, h2⟩ := r; ⟨ps, e _ _ h1, h2⟩
def gdX (w : World) (K : PySem.W.Frag) (kn : Kn) : Gd where
  cm := (gd K).cm
  cc := (gd K).cc
  tab := fun H => (gd K).tab H ∧ (∀ p ∈ kn.fs, H p.1 = some p.2) ∧ ∀ c ∈ kn.cs, Reg K H c
  mono := fun e h => ⟨(gd K).mono e h.1, fun p hp => e _ _ (h.2.1 p hp) (kn.hn p hp).1, fun c hc => (h.2.2 c hc).go fun _ _ q => e _ _ q fun _ z => (nomatch z)⟩
  obj := fun F a u ds => SetF w F a u ds ∧ ∀ p ∈ kn.fs, p.1 ≠ a
  omono := fun e h => ⟨h.1.mono e, h.2⟩
/-- less is known: of what comes of a call (no set) -/
structure SubT (G G' : Gd) : Prop where
  cm : G'.cm = G.cm
  cc : G'.cc = G.cc
  tab : ∀ H, G'.tab H → G.tab H
  back : ∀ H H', G'.tab H → (∀ b o, H b = some o → NoTbl o → H' b = some o) → Gr H H' → G.tab H' → G'.tab H'
theorem subT_gd {w : World} {K : PySem.W.Frag} {kn : Kn} : SubT (gd K) (gdX w K kn) :=
  ⟨rfl, rfl, fun _ h => h.1, fun H H' h k g h' => ⟨h', fun p hp => k _ _ (h.2.1 p hp) (kn.hn p hp).2, fun c hc => (h.2.2 c hc).gr g⟩⟩
theorem subT_gdX {w : World} {K : PySem.W.Frag} {kn kn' : Kn} (h : ∀ p ∈ kn.fs, p ∈ kn'.fs) (h' : ∀ c ∈ kn.cs, c ∈ kn'.cs) : SubT (gdX w K kn) (gdX w K kn') :=
  ⟨rfl, rfl, fun _ t => ⟨t.1, fun p hp => t.2.1 p (h p hp), fun c hc => t.2.2 c (h' c hc)⟩, fun H H' t k g t' => ⟨t'.1, fun p hp => k _ _ (t.2.1 p hp) (kn'.hn p hp).2, fun c hc => (t.2.2 c hc).gr g⟩⟩
theorem setG_gdX {w : World} {K : PySem.W.Frag} {kn : Kn} : SetG (gdX w K kn) w where
  of := fun _ _ _ _ h => h.1
  to := fun _ _ _ _ _ _ h s => ⟨s, h.2⟩
  tab := fun H F a u u' ds t e h => by
    obtain ⟨o, _, es, ep, ts, rfl, _, hd, _⟩ := h.1
    have nc : ∀ c T' q, H c = some (CdX c T' q) → c ≠ a := fun c T' q z za => by
      subst za
      rw [e] at z
      have z2 : (fun h : Heap => h.get? c = some o) = fun h => h.CodeRec (.ref c) q ∧ PySem.W.CodeHd h c T' := by
        have := Option.some.inj z
        unfold SetX CdX at this
        exact HO.ext.inj this
      have e0 : ({ objs := Array.replicate (c + 1) o } : Heap).get? c = some o := by
        have e1 : ({ objs := Array.replicate (c + 1) o } : Heap).objs[c]? = some o := by
          show (Array.replicate (c + 1) o)[c]? = some o
          simp
        unfold Heap.get?
        rw [e1]
        obtain ⟨x1, x2, x3, x4⟩ := o
        have hd : x3 = .set es ep ts := hd
        subst hd
        rfl
      have e1 : (fun h : Heap => h.get? c = some o) ({ objs := Array.replicate (c + 1) o } : Heap) := e0
      rw [z2] at e1
      obtain ⟨⟨c9, oc, vs, t, q9, g1, g2, _⟩, _⟩ := e1
      cases q9
      rw [e0] at g1
      cases g1
      rw [hd] at g2
      cases g2
    have tb : ∀ T ps, H T = some (.tbl ps) → upd H a u' T = some (.tbl ps) := fun T ps z => by
      rw [upd_ne fun za => by rw [za, e] at z; cases z]
      exact z
    exact ⟨t.1.go (fun c T' q z => by rw [upd_ne (nc c T' q z)]; exact z) tb, (fun p hp => by rw [upd_ne (h.2 p hp)]; exact t.2.1 p hp), fun c hc => (t.2.2 c hc).go tb⟩
section
variable {X : Cx} {ρ : Ro} {p pos : Pos} {K : PySem.W.Frag}
theorem xe_setX {kn : Kn} (hm : X.mg "set" = none) (hg : Gl X "set" := by rfl) (hv : bootBuiltins "set" = some (.type "set") := by decide +kernel) : XE (gdX X.w K kn) X (.Call (.Name "set" p) [] [] pos) ρ (.obj []) :=
  ⟨_, pe_callTy0 cr_setX hg hm hv, fun H0 F0 γ σ H F S Q q => ⟨rfl, fun a ha => q _ _ F ⟨S.fz.new ha, .new ha, (gdX X.w K kn).mono (extL_new ha) S.tab, [a], ⟨a, _, rfl, rfl, upd_same, nt_setX, setF_fresh, fun r hr z => by
    have := S.tab.2.1 r hr
    rw [z, ha] at this
    cases this⟩, by simp, fun b hb => by rw [List.mem_singleton.mp hb]; exact ⟨ha, S.fz.non ha⟩⟩⟩⟩
end
def noObj : En → Prop
  | .obj _ => False
  | _ => True
def Gd.nob (G : Gd) : Gd := { G with obj := fun _ _ _ _ => False, omono := fun _ h => h }
theorem sub_nob (G : Gd) : Sub G.nob G := ⟨rfl, rfl, fun _ h => h, fun _ _ _ _ h => h, fun _ _ _ _ h => h.elim⟩
theorem machAt_cm {G G' : Gd} (e : G'.cm = G.cm) {F : Hp} {v : V} {m : MachD} : MachAt G F v m ↔ MachAt G' F v m := by
  constructor
  · intro ⟨a, dx, fs, h1, h2, h⟩
    exact ⟨a, dx, fs, h1, by rw [e]; exact h2, h⟩
  · intro ⟨a, dx, fs, h1, h2, h⟩
    exact ⟨a, dx, fs, h1, by rw [← e]; exact h2, h⟩
theorem caseAt_cm {G G' : Gd} (e : G'.cm = G.cm) (e' : G'.cc = G.cc) {F : Hp} {v : V} {c : CaseD} : CaseAt G F v c ↔ CaseAt G' F v c := by
  constructor
  · intro ⟨a, dx, fs, h1, h2, ⟨u, l1, m1⟩, f2, ⟨u', l2, m2⟩, f4⟩
    exact ⟨a, dx, fs, h1, by rw [e']; exact h2, ⟨u, l1, (machAt_cm e).mp m1⟩, f2, ⟨u', l2, (machAt_cm e).mp m2⟩, f4⟩
  · intro ⟨a, dx, fs, h1, h2, ⟨u, l1, m1⟩, f2, ⟨u', l2, m2⟩, f4⟩
    exact ⟨a, dx, fs, h1, by rw [← e']; exact h2, ⟨u, l1, (machAt_cm e).mpr m1⟩, f2, ⟨u', l2, (machAt_cm e).mpr m2⟩, f4⟩
theorem SubT.rsAt {G G' : Gd} (s : SubT G G') {K : PySem.W.Frag} {F : Hp} {v : V} : ∀ {r : Rs}, r.At G K F v ↔ r.At G' K F v
  | .dat _ => Iff.rfl
  | .scr _ => Iff.rfl
  | .mach _ => machAt_cm s.cm
  | .cas _ => caseAt_cm s.cm s.cc
  | .raw _ => Iff.rfl
  | .clo _ _ _ => ⟨fun h => ⟨h.1, h.2.1, fun p hp => (caseAt_cm s.cm s.cc).mp (h.2.2 p hp)⟩, fun h => ⟨h.1, h.2.1, fun p hp => (caseAt_cm s.cm s.cc).mpr (h.2.2 p hp)⟩⟩
theorem SubT.rsAll {G G' : Gd} (s : SubT G G') {K : PySem.W.Frag} {F : Hp} : ∀ {vs : List V} {rs : List Rs}, RsAll G' K F vs rs ↔ RsAll G K F vs rs := by
  intro vs rs
  constructor
  · intro h
    induction h with
    | nil => exact .nil
    | cons a _ ih => exact .cons (s.rsAt.mpr a) ih
  · intro h
    induction h with
    | nil => exact .nil
    | cons a _ ih => exact .cons (s.rsAt.mp a) ih
theorem SubT.enAt {G G' : Gd} (s : SubT G G') {K : PySem.W.Frag} {F H : Hp} {v : V} {fp : List Addr} {en : En} (n : noObj en) (h : en.At G K F H v fp) : en.At G' K F H v fp := by
  cases en with
  | rs r => exact ⟨h.1, s.rsAt.mp h.2⟩
  | own ds => exact h
  | own2 ds => exact h
  | res b od => cases od <;> exact h
  | obj ds => exact n.elim
theorem SubT.nx {G G' : Gd} (s : SubT G G') {K : PySem.W.Frag} {H F H' F' : Hp} {v : V} {en : En} (n : noObj en) (t : G'.tab H) (g : Gr H H') (m : Nx G K H F H' F' v en) : Nx G' K H F H' F' v en := by
  obtain ⟨fp, k1, k2, k3⟩ := m.at_
  exact ⟨m.fz, m.grow, s.back H H' t m.grow.keep g m.tab, fp, s.enAt n k1, k2, k3⟩
/-- what a call's end tells of the tables -/
theorem cr_more {CX : CXT} {outer : List Env} {P : Program} {w : World} {H : Hp} {s : Shared} {Q : VK} {E : XK} {r : Result} {s' : Shared} (h : CR CX outer P w H s (fun v H' => Gr H H' → Q v H') E r s') : CR CX outer P w H s Q E r s' := by
  cases r with
  | error e => exact h
  | ok fl =>
    cases fl with
    | ret u =>
      obtain ⟨v, H', h1, h2, h3, h4, h5, h6⟩ := h
      exact ⟨v, H', h1, h2, h3, h4, h5, h6 h3.tbls⟩
    | next => exact h
    | brk => exact h
    | cont => exact h
theorem spD_subT {G G' : Gd} (s : SubT G G') {K : PySem.W.Frag} {n : Nat} {Φ : List Rs → En → Prop} (hne : ∀ rs en, Φ rs en → noObj en) {vs : List V} {H : Hp} {Q : VK} {E E' : XK} (h : spD G' K n Φ vs H Q E) : spD G K n Φ vs H (fun v H' => Gr H H' → Q v H') E' := by
  obtain ⟨F, rs, en, z, t, a, hl, hφ, q⟩ := h
  exact ⟨F, rs, en, z, s.tab H t, s.rsAll.mp a, hl, hφ, fun v H' F' m g => q v H' F' (s.nx (hne _ _ hφ) t g m)⟩
theorem FnG.subT {G G' : Gd} (s : SubT G G') {P : Program} {w : World} {K : PySem.W.Frag} {mg : Str → Option Value} {base : Heap} {k : Nat} {x : Str} {n : Nat} {Φ : List Rs → En → Prop} (hne : ∀ rs en, Φ rs en → noObj en) (h : FnG G P w K mg base k x n Φ) : FnG G' P w K mg base k x n Φ := by
  obtain ⟨f, fd, ps, F, h1, h2, h3⟩ := h.ex
  exact ⟨f, fd, ps, ⟨fun vs H Q E q => F.len vs H _ E (spD_subT s hne q), fun A outer s' H args us vs Q E hr e0 b r q => codeAny_mono (F.run A outer s' H args us vs _ E hr e0 b r (spD_subT s hne q)) fun _ _ => cr_more⟩, h1, h2, h3⟩
theorem spV_subT {G G' : Gd} (s : SubT G G') {K : PySem.W.Frag} {f : Addr} {c : Rs} {n : Nat} {Φ : List Rs → En → Prop} (hne : ∀ rs en, Φ rs en → noObj en) {vs : List V} {H : Hp} {Q : VK} {E E' : XK} (h : spV G' K f c n Φ vs H Q E) : spV G K f c n Φ vs H (fun v H' => Gr H H' → Q v H') E' := by
  obtain ⟨F, rs, en, z, t, c', a, hl, hφ, q⟩ := h
  exact ⟨F, rs, en, z, s.tab H t, s.rsAt.mpr c', s.rsAll.mp a, hl, hφ, fun v H' F' m g => q v H' F' (s.nx (hne _ _ hφ) t g m)⟩
theorem FnV.subT {G G' : Gd} (s : SubT G G') {P : Program} {w : World} {K : PySem.W.Frag} {mg : Str → Option Value} {base : Heap} {k : Nat} {f : Addr} {c : Rs} {n : Nat} {Φ : List Rs → En → Prop} (hne : ∀ rs en, Φ rs en → noObj en) (h : FnV G P w K mg base k f c n Φ) : FnV G' P w K mg base k f c n Φ :=
  ⟨fun H hh t => h.at_ H hh (s.tab H t), fun A outer s' H us vs Q E hr e0 r q => codeAny_mono (h.run A outer s' H us vs _ E hr e0 r (spV_subT s hne q)) fun _ _ => cr_more⟩
end LC
namespace LC
open PySem PySem.Spec PyProof.Rows L2

/-! ### functions made by a frame: their words, their code objects, the tables of these -/
structure NX where
  name : Str
  qual : Str
  params : Arguments
  body : FuncBody
  scope : Scope
  cl : List (Str × Addr)
  c : Addr
abbrev NX.fd (F : NX) (doc pm ctv : Value) : FuncData :=
  { name := F.name, qualname := F.qual, params := F.params, body := F.body, scope := F.scope, globals := mainGlobals, closure := F.cl, defaults := .none, kwdefaults := .none, doc := doc, pyModule := pm, annotations := none, code := .ref F.c, closureTuple := ctv, builtins := builtinsNs }
/-- at f lies the function F -/
def FnX (f : Addr) (F : NX) : HO := .ext fun h => ∃ (od : Option Addr) (sl : Array (Option Value)) (doc pm ctv : Value), h.get? f = some (⟨.type "function", od, .func (F.fd doc pm ctv), sl⟩ : Obj)
/-- what is known behind the making of a new code object c': its own table, the maker's table longer by three -/
def NewC (T : Addr) (ps : Array Value) (pos : Pos) (qual : Str) (h : Heap) (c' : Addr) (h' : Heap) : Prop := ∃ T', Heap.ExtBut T h h' ∧ h.objs.size ≤ c' ∧ c' < h'.objs.size ∧ h'.CodeRec (.ref c') qual ∧ h'.get? T = some (PySem.W.tabObj (ps ++ #[rawInt pos.line, rawInt pos.col, .ref c'])) ∧ h.objs.size ≤ T' ∧ PySem.W.CodeHd h' c' T' ∧ h'.get? T' = some (PySem.W.tabObj #[])
theorem nol_FnX {f : Addr} {F : NX} : NoL (FnX f F) := ⟨fun _ z => (nomatch z), fun _ z => (nomatch z)⟩
theorem nol_CdX {c T : Addr} {q : Str} : NoL (CdX c T q) := ⟨fun _ z => (nomatch z), fun _ z => (nomatch z)⟩
theorem nol_SetX {a : Addr} {o : Obj} : NoL (SetX a o) := ⟨fun _ z => (nomatch z), fun _ z => (nomatch z)⟩
theorem nt_FnX {f : Addr} {F : NX} (ps : Array Value) : FnX f F ≠ .tbl ps := nol_FnX.2 ps
theorem nt_CdX {c T : Addr} {q : Str} (ps : Array Value) : CdX c T q ≠ .tbl ps := nol_CdX.2 ps
section
variable {M : Model} {A : Around} {E : Value → Shared → Prop} {s : Shared} {name qual : Str} {params : Arguments} {body : FuncBody} {scope : Scope} {env : Env} {c T : Addr} {ps : Array Value} {pos : Pos} {firstLine : Nat} {mg : Str → Option Value}
  {Q : Value → Shared → Prop} {clos : List (Str × Addr)}
/-- a function is made: `step` gets the code object, W is what is known of it and of the heap behind it -/
theorem mk_any {W : Addr → Heap → Prop} (hcl : closureFor scope env = pure clos) (hge0 : env.globals = mainGlobals)
    (step : ∀ (t : Shared) (Q' : Value → Shared → Prop), (∀ b o, s.heap.get? b = some o → t.heap.get? b = some o) → s.heap.objs.size ≤ t.heap.objs.size → (∀ c' h' tk, W c' h' → Q' (.ref c') { t with heap := h', toks := tk }) →
      wpAny M A (functionCode env pos firstLine name qual params scope body) Q' E t)
    (glob : ∀ c' h', W c' h' → h'.Ns mainGlobals mg) (bu : ∀ c' h', W c' h' → ∃ T0, h'.BuiltinsAt mg T0)
    (out : ∀ c' h' tk doc pm ctv, W c' h' → Q (.ref h'.objs.size) { s with heap := h'.push { cls := .type "function", data := .func ((NX.mk name qual params body scope clos c').fd doc pm ctv) }, toks := tk }) :
    wpAny M A (makeFunction name qual params body scope env [] [] [] pos firstLine) Q E s := by
  rw [makeFunction_eq]
  simp only [List.isEmpty_nil, if_true, List.zip_nil_right, List.filterMap_nil, pure_bind]
  unfold makeTail
  rw [hcl, hge0]
  refine wpAny_bind (wpAny_pure ?_ : wpAny M A (pure clos) _ E s)
  rcases clos with _ | ⟨q, r⟩
  all_goals simp only [List.isEmpty_nil, List.isEmpty_cons, Bool.false_eq_true, if_true, if_false]
  case' nil => refine wpAny_bind (wpAny_pure (wpAny_bind (step s _ (fun _ _ e => e) (Nat.le_refl _) fun c' h' tk know => ?_)))
  case' cons => refine wpAny_bind (wpAny_newTextTuple (wpAny_bind (step _ _ (fun _ _ e => Heap.get?_push_of_some _ e) (by rw [Heap.size_push]; omega) fun c' h' tk know => ?_)))
  all_goals
    have gl := glob c' h' know
    have ⟨_, _, _, b1, b2, _, _, b4, b5, b6, b7⟩ := bu c' h' know
    refine wpAny_bind (wpAny_builtinsFor gl b1 b2 b4 b5 b6 b7 (wpAny_bind (wpAny_nsGet gl ?_)))
    cases body with
    | expr b => exact wpAny_bind (wpAny_pure (wpAny_newObj_type (out c' h' tk _ _ _ know) (by size_fits)))
    | stmts b =>
      dsimp only
      cases docOf b
      · exact wpAny_bind (wpAny_pure (wpAny_newObj_type (out c' h' tk _ _ _ know) (by size_fits)))
      · exact wpAny_bind (wpAny_mkText (wpAny_newObj_type (out c' h' _ _ _ _ know) (by size_fits)))
end
section
variable {X : Cx} {H : Hp} {s : Shared} {pins : List (Addr × Obj)} {σ : L2.St}
/-- the table at T grows, all that is laid is new -/
theorem inv_laid {T : Addr} {ps more : Array Value} {h' : Heap} {t' : Nat} {L : List (Addr × HO)} (I : Inv X pins σ H s) (hP : H T = some (.tbl ps)) (k : ∀ b o, b ≠ T → s.heap.get? b = some o → h'.get? b = some o)
    (hm : h'.get? T = some { cls := .none, data := .fields (ps ++ more) }) (nw : ∀ p ∈ L, s.heap.objs.size ≤ p.1) (nx : ∀ p ∈ L, (∀ φ, p.2 = .ext φ → φ h' ∧ (∃ o, h'.get? p.1 = some o) ∧ ∀ h1 h2 : Heap, φ h1 → (∀ o, h1.get? p.1 = some o → h2.get? p.1 = some o) → φ h2) ∧ ((∃ φ, p.2 = .ext φ) ∨ (∃ qs, p.2 = .tbl qs ∧ h'.get? p.1 = some { cls := .none, data := .fields qs }))) :
    Inv X pins σ (L.foldr (fun p H => upd H p.1 p.2) (upd H T (.tbl (ps ++ more)))) { s with heap := h', toks := t' } := by
  generalize hH : L.foldr (fun p H => upd H p.1 p.2) (upd H T (.tbl (ps ++ more))) = H1
  have at_ : ∀ b, (∀ p ∈ L, b ≠ p.1) → H1 b = upd H T (.tbl (ps ++ more)) b := fun b => by
    rw [← hH]
    clear hH nw nx
    induction L with
    | nil => intro _; rfl
    | cons p L ih =>
      intro h
      rw [List.foldr_cons, upd_ne (h p (List.mem_cons_self ..)), ih fun q hq => h q (List.mem_cons_of_mem _ hq)]
  have or_ : ∀ b, (∀ p ∈ L, b ≠ p.1) ∨ ∃ p ∈ L, b = p.1 ∧ H1 b = some p.2 := fun b => by
    rw [← hH]
    clear hH nw nx at_
    induction L with
    | nil => exact .inl fun _ h => nomatch h
    | cons p L ih =>
      by_cases hb : b = p.1
      · exact .inr ⟨p, List.mem_cons_self .., hb, by rw [List.foldr_cons, hb, upd_same]⟩
      · rcases ih with h | ⟨q, h1, h2, h3⟩
        · exact .inl fun q hq => (List.mem_cons.mp hq).elim (fun e => e ▸ hb) (h q)
        · exact .inr ⟨q, List.mem_cons_of_mem _ h1, h2, by rw [List.foldr_cons, upd_ne hb]; exact h3⟩
  have old : ∀ b o, s.heap.get? b = some o → ∀ p ∈ L, b ≠ p.1 := fun b o e p hp z => by
    exact absurd (Nat.lt_of_lt_of_le (z ▸ Heap.lt_size e) (nw p hp)) (Nat.lt_irrefl _)
  have oldH : ∀ b u, H b = some u → ∀ p ∈ L, b ≠ p.1 := fun b u e p hp z => by
    have := I.hok.fresh (nw p hp)
    rw [← z, e] at this
    cases this
  have nT : ∀ b u, H b = some u → (∀ q, u ≠ .tbl q) → b ≠ T := fun b u e q z => by
    rw [z, hP] at e
    cases e
    exact q ps rfl
  have nN : ∀ b, H b = none → b ≠ T := fun b e z => by
    rw [z, hP] at e
    cases e
  have sm : ∀ b u, H b = some u → b ≠ T → H1 b = some u := fun b u e n => by rw [at_ b (oldH b u e), upd_ne n]; exact e
  refine I.step (g' := s.gens) (d' := s.drawn) (ch := []) (fun b hb => by cases hb) (fun b o _ _ _ e n => k b o (nN b n) e) (fun b o _ _ _ e n => ⟨o.slots, k b o (nN b n) e⟩)
    (fun b o _ e n => by rw [at_ b (old b o e), upd_ne (nN b n)]; exact n) (fun b o _ e => ?_) (fun b xs e => sm b _ e (nT b _ e fun q z => (nomatch z))) (fun b o u e => sm b _ e (nT b _ e fun q z => (nomatch z))) (fun b qs e => ?_) (fun m hn => ?_) (fun b u e => ?_) I.bare
  · by_cases hb : b = T
    · rw [hb]
      exact ⟨_, hm⟩
    · exact ⟨o, k b o hb e⟩
  · by_cases hb : b = T
    · rw [hb, hP] at e
      cases e
      rw [hb, at_ T (oldH T _ hP), upd_same]
      exact ⟨more, rfl⟩
    · exact ⟨#[], by rw [sm b _ e hb]; simp⟩
  · obtain ⟨st, rows, eps, at_, r⟩ := hn
    exact ⟨st, rows, eps, k _ st (nN _ I.free) at_, r⟩
  · rcases or_ b with hb | ⟨p, hp, hb, e2⟩
    · rw [at_ b hb] at e
      by_cases hb2 : b = T
      · rw [hb2, upd_same] at e
        cases e
        rw [hb2]
        exact hm
      · rw [upd_ne hb2] at e
        refine (I.hok b u e).stay (fun d v hd q => k d v ?_ q) (fun d q => sm d _ q (nT d _ q fun q z => (nomatch z))) fun d xs q => sm d _ q (nT d _ q fun q z => (nomatch z))
        rcases hd with z | z
        · rw [z]
          exact hb2
        · exact nT d _ z fun q z => (nomatch z)
    · rw [e2] at e
      cases e
      obtain ⟨x1, x2⟩ := nx p hp
      rw [hb]
      rcases x2 with ⟨φ, z⟩ | ⟨qs, z, x⟩
      · rw [z]
        exact x1 φ z
      · rw [z]
        exact x
/-- the def's (the lambda's) object is made -/
theorem mk_X {c T : Addr} {ps : Array Value} {name qual : Str} {params : Arguments} {body : FuncBody} {scope : Scope} {pos : Pos} {firstLine : Nat} {E : Value → Shared → Prop} {Q : Value → Shared → Prop} (I : Inv X pins σ H s) (hcode : X.env.code = .ref c) (C : PySem.W.CodeHd s.heap c T) (bm : ∃ T0, X.base.BuiltinsAt X.mg T0)
    (hP : H T = some (.tbl ps)) (ht : TriplesOk ps.toList) (hall : ∀ cv, codeAmong pos ps.toList = some cv → ∃ c', cv = .ref c') (hfree : ∀ y ∈ scope.names, y.2 = .free → ∃ c, X.env.cells.lookup y.1 = some c)
    (hnew : codeAmong pos ps.toList = none → ∀ (f c' T' : Addr) (s' : Shared), H f = none → H c' = none → H T' = none → c' ≠ T' → f ≠ c' → f ≠ T' → Inv X pins σ (upd (upd (upd (upd H T (.tbl (ps ++ #[rawInt pos.line, rawInt pos.col, .ref c']))) T' (.tbl #[])) c' (CdX c' T' qual)) f (FnX f ⟨name, qual, params, body, scope, L2.cloFrom X.env.cells scope.names [], c'⟩)) s' → Q (.ref f) s')
    (hhit : ∀ c', codeAmong pos ps.toList = some (.ref c') → ∀ (f : Addr) (s' : Shared), H f = none → Inv X pins σ (upd H f (FnX f ⟨name, qual, params, body, scope, L2.cloFrom X.env.cells scope.names [], c'⟩)) s' → Q (.ref f) s') :
    wpAny (model X.prog X.w) X.A (makeFunction name qual params body scope X.env [] [] [] pos firstLine) Q E s := by
  have hP' : s.heap.get? T = some { cls := .none, data := .fields ps } := I.hok T _ hP
  have bT : X.base.get? T = none := by
    cases e : X.base.get? T with
    | none => rfl
    | some o => rw [(I.bs T o e).2] at hP; cases hP
  have gT : mainGlobals ≠ T := fun z => by
    obtain ⟨o, es, ep, e, _⟩ := I.mod.glob
    rw [z, bT] at e
    cases e
  have bP : s.heap.BuiltinsAt X.mg T := by
    obtain ⟨T0, bm0, o, h1, h2, h3, _, h5, h6⟩ := bm
    exact ⟨bm0, o, h1, h2, h3, (fun z => by rw [z, bT] at h5; cases h5), I.bk _ _ h5, h6⟩
  have old : ∀ {c' h'}, NewC T ps pos qual s.heap c' h' → Heap.ExtBut T s.heap h' := fun ⟨_, z, _⟩ => z
  rcases hc : codeAmong pos ps.toList with _ | cv
  · refine mk_any (W := NewC T ps pos qual s.heap) (L2.closure_ok hfree) I.ok.glob (fun t Q' up grow q => wpAny_functionCodeX hcode ((C.keeps up).code (up _ _ hP') ht) ((C.keeps up).tab (up _ _ hP')) hc fun c' h' tk hx hge hlt _ hrec htb ⟨T', t1, t2, t3⟩ =>
      q c' h' tk ⟨T', fun b o nb e => hx b o nb (up b o e), by omega, hlt, hrec, htb.2, by omega, .of t2 t3, t3.2⟩) (fun c' h' k => (I.mod.glob.keeps I.bk).extBut (old k) gT)
      (fun c' h' k => let ⟨bm0, o, h1, h2, h3, h4, h5, h6⟩ := bP; ⟨T, bm0, o, h1, h2, h3, h4, old k _ _ h4 h5, h6⟩) fun c' h' tk doc pm ctv ⟨T', hx, hge, hlt, hrec, htb, hgt, hcd, ht'⟩ => ?_
    have cT : c' ≠ T' := by obtain ⟨_, _, _, _, _, _, _, _, _, _, _, _, _, _, _, _, _, _, z⟩ := hcd; exact z
    have hltT := Heap.lt_size ht'
    have hsz := Nat.le_of_lt (Nat.lt_of_le_of_lt hge hlt)
    refine hnew hc h'.objs.size c' T' _ (I.hok.fresh hsz) (I.hok.fresh hge) (I.hok.fresh hgt) cT (Nat.ne_of_gt hlt) (Nat.ne_of_gt hltT) ?_
    refine inv_laid (t' := tk) (L := [(h'.objs.size, FnX h'.objs.size ⟨name, qual, params, body, scope, L2.cloFrom X.env.cells scope.names [], c'⟩), (c', CdX c' T' qual), (T', .tbl #[])]) I hP (fun b o hb e => Heap.get?_push_of_some _ (hx b o hb e)) (Heap.get?_push_of_some _ htb) (fun p hp => ?_) (fun p hp => ?_)
    · simp only [List.mem_cons, List.not_mem_nil, or_false] at hp
      rcases hp with rfl | rfl | rfl
      · exact hsz
      · exact hge
      · exact hgt
    · simp only [List.mem_cons, List.not_mem_nil, or_false] at hp
      have up : ∀ b o, h'.get? b = some o → (h'.push ({ cls := .type "function", data := .func ((NX.mk name qual params body scope (L2.cloFrom X.env.cells scope.names []) c').fd doc pm ctv) } : Obj)).get? b = some o := fun b o e => Heap.get?_push_of_some _ e
      rcases hp with rfl | rfl | rfl
      · have e := Heap.get?_push_size h' (o := ({ cls := .type "function", data := .func ((NX.mk name qual params body scope (L2.cloFrom X.env.cells scope.names []) c').fd doc pm ctv) } : Obj)) rfl
        exact ⟨fun φ z => by cases z; exact ⟨⟨_, _, doc, pm, ctv, e⟩, ⟨_, e⟩, fun h1 h2 ⟨od, sl, d, p, t, z⟩ st => ⟨od, sl, d, p, t, st _ z⟩⟩, .inl ⟨_, rfl⟩⟩
      · obtain ⟨c2, oc, vs, t, e2, h1, h2, h3⟩ := hrec
        cases e2
        refine ⟨fun φ z => ?_, .inl ⟨_, rfl⟩⟩
        cases z
        refine ⟨⟨⟨c', oc, vs, t, rfl, up _ _ h1, h2, h3⟩, hcd.keeps up⟩, ⟨_, up _ _ h1⟩, fun g1 g2 ⟨⟨c3, o3, vs3, t3, e3, k1, k2, k3⟩, x⟩ st => ?_⟩
        cases e3
        obtain ⟨o, vs, file, tf, flags, tg, inF, text, tt, e, r⟩ := x
        exact ⟨⟨c', o3, vs3, t3, rfl, st _ k1, k2, k3⟩, o, vs, file, tf, flags, tg, inF, text, tt, st _ e, r⟩
      · exact ⟨fun φ z => (nomatch z), .inr ⟨_, rfl, up _ _ ht'⟩⟩
  · obtain ⟨c', rfl⟩ := hall cv hc
    refine mk_any (W := fun c2 h' => c2 = c' ∧ (∀ b o, s.heap.get? b = some o → h'.get? b = some o) ∧ s.heap.objs.size ≤ h'.objs.size) (L2.closure_ok hfree) I.ok.glob (fun t Q' up grow q => wpAny_functionCode_hit hcode ((C.keeps up).code (up _ _ hP') ht) hc (q c' t.heap t.toks ⟨rfl, up, grow⟩))
      (fun _ h' k => (I.mod.glob.keeps I.bk).keeps k.2.1) (fun _ h' k => let ⟨bm0, o, h1, h2, h3, h4, h5, h6⟩ := bP; ⟨T, bm0, o, h1, h2, h3, h4, k.2.1 _ _ h5, h6⟩) fun c2 h' tk doc pm ctv ⟨e2, hx, hsz⟩ => ?_
    cases e2
    refine hhit c' hc h'.objs.size _ (I.hok.fresh hsz) ?_
    have lies := Heap.get?_push_size h' (o := ({ cls := .type "function", data := .func ((NX.mk name qual params body scope (L2.cloFrom X.env.cells scope.names []) c').fd doc pm ctv) } : Obj)) rfl
    exact (I.kept (t' := tk) hx).laid (a := h'.objs.size) (t' := tk) (fun b u e => Heap.get?_push_of_some _ e) (Nat.le_refl _) ⟨⟨_, _, doc, pm, ctv, lies⟩, ⟨_, lies⟩, fun _ _ ⟨od, sl, d, p, t, z⟩ st => ⟨od, sl, d, p, t, st _ z⟩⟩
end
end LC
namespace LC
open PySem PySem.Spec PyProof.Rows L2

/-! ### a nested function with one parameter: captured cells, cells of its own -/
structure XScope (N : List Str) (p : Str) (fr : List Str) (sc : Scope) : Prop where
  kind : sc.kind = .function
  co : sc.isCoroutine = false
  gen : sc.isGenerator = false
  nd : N.Nodup
  pre : N.take (1 + fr.length) = p :: fr
  par : sc.names.lookup p = some .local
  free : ∀ y ∈ sc.names, y.2 = .free → y.1 ∈ fr
  frk : ∀ x ∈ fr, sc.names.lookup x = some .free
  occ : ∀ y ∈ sc.names, y.2 = .cell → sc.names.lookup y.1 = some .cell
abbrev envXX (F : NX) (f L : Addr) : Env := PySem.W.envX F.qual F.scope L f (.ref F.c) (cellsFrom (L + 1) F.scope.names F.cl)
def xcx (CX : CXT) (P : Program) (w : World) (K : PySem.W.Frag) (mg : Str → Option Value) (base : Heap) (N : List Str) (F : NX) (f : Addr) (A : Around) (outer : List Env) (s : Shared) (H : Hp) (E : XK) : Cx where
  prog := P
  w := w
  K := K
  mg := mg
  base := base
  A := A.deeper (envXX F f s.heap.objs.size)
  N := N
  s_0 := s
  H_0 := H
  env := envXX F f s.heap.objs.size
  outer := outer
  stack := envXX F f s.heap.objs.size :: outer
  ex := []
  calm := true
  fn := fun x => decide (F.scope.names.lookup x = some .cell)
  pn := []
  xe := fun e s' => wpAny (model P w) (A.deeper (envXX F f s.heap.objs.size)) (leaving (envXX F f s.heap.objs.size) e) (fun _ s'' => CX outer H s E e s'') (fun e' s'' => CX outer H s E e' s'') s'
theorem cellsFrom_app : ∀ (names : List (Str × NameKind)) (n : Nat) (acc : List (Str × Addr)), cellsFrom n names acc = cellsFrom n names [] ++ acc
  | [], _, _ => rfl
  | (x, k) :: r, n, acc => by
    unfold cellsFrom
    split
    · rw [cellsFrom_app r (n + 1) ((x, n) :: acc), cellsFrom_app r (n + 1) [(x, n)], List.append_assoc]
      rfl
    · exact cellsFrom_app r n acc
theorem cellsFrom_mem : ∀ (names : List (Str × NameKind)) (n : Nat) {y : Str} {c : Addr}, (y, c) ∈ cellsFrom n names [] → (y, NameKind.cell) ∈ names
  | [], _, _, _, h => nomatch h
  | (x, k) :: r, n, y, c, h => by
    unfold cellsFrom at h
    split at h
    · rename_i hk
      rw [cellsFrom_app] at h
      rcases List.mem_append.mp h with h | h
      · exact List.mem_cons_of_mem _ (cellsFrom_mem r _ h)
      · have e := List.mem_singleton.mp h
        cases e
        rw [beq_iff_eq.mp hk]
        exact List.mem_cons_self ..
    · exact List.mem_cons_of_mem _ (cellsFrom_mem r _ h)
section
variable {M : Model} {A : Around} {E : Value → Shared → Prop} {s : Shared}
theorem wpAny_nfe1 {scope : Scope} {globals : Addr} {cl : List (Str × Addr)} {x : Str} {v : Value} {qual : Str} {func : Option Addr} {code : Value} {builtins : Addr} {Q : Env → Shared → Prop} (hk : scope.kind = .function) (hx : scope.names.lookup x = some .local)
    (h : ∀ h₁ tk, h₁.Ns s.heap.objs.size (fun y => if y = x then some v else none) → Heap.SameBut s.heap.objs.size (pushCells (s.heap.push { cls := .type "frame", data := .dict #[] }) scope.names) h₁ →
      Q (newEnv scope s.heap.objs.size globals (cellsFrom (s.heap.objs.size + 1) scope.names cl) qual func code none builtins) { s with heap := h₁, toks := tk }) :
    wpAny M A (newFunctionEnv scope globals cl [(x, v)] qual func code none builtins) Q E s := by
  simp only [newFunctionEnv, Option.isSome_none, if_false, Bool.false_eq_true]
  refine wpAny_bind (wpAny_alloc (wpAny_bind (wpAny_layCells _ (fun _ kd cs => by cases q : kd == NameKind.cell <;> simp [q]) _ _ _ _ ?_)))
  have sz : (s.heap.push { cls := .type "frame", data := .dict #[] }).objs.size = s.heap.objs.size + 1 := Heap.size_push ..
  show wpAny _ _ (_) _ _ { s with heap := _ }
  rw [sz]
  rw [List.forIn_cons]
  refine wpAny_bind (wpAny_bind (wpAny_bind (wpAny_storeName_local (m := fun _ => none) hx ((Heap.Ns.new s.heap (.type "frame")).keeps (pushCells_keeps _ _)) (fun h' hn hs => ?_) (by show (scope.kind == .class || (scope.kind == .module && _)) = false; rw [hk] <;> rfl))))
  refine wpAny_pure ?_
  dsimp only
  rw [List.forIn_nil]
  exact wpAny_pure (wpAny_pure (h h' _ hn hs))
end
section
variable {CX : CXT} {P : Program} {w : World} {K : PySem.W.Frag} {mg : Str → Option Value} {base : Heap} {N fr : List Str} {p : Str} {F : NX} {f : Addr} {A : Around} {outer : List Env} {s : Shared} {H : Hp} {E : XK} {u : Value} {v : V} {vs : List V}
theorem inv_startX {h₁ : Heap} {tk : Nat} (S : XScope N p fr F.scope) (hd : A.handled = none) (e0 : Env0 P w K mg base A outer s H) (r : RelV v u) (C : NdefX.CellsAt F.cl fr (vs.map some) s.heap H) (hns : h₁.Ns s.heap.objs.size (fun y => if y = p then some u else none))
    (sb : Heap.SameBut s.heap.objs.size (pushCells (s.heap.push { cls := .type "frame", data := .dict #[] }) F.scope.names) h₁) : Inv (xcx CX P w K mg base N F f A outer s H E) [] (L2.start N (v :: vs)) H { s with heap := h₁, toks := tk } := by
  have clen : vs.length = fr.length := by have := C.len; rwa [List.length_map] at this
  have hpl : 1 + fr.length ≤ N.length := by
    have q := congrArg List.length S.pre
    rw [List.length_take, List.length_cons] at q
    omega
  have kp0 : ∀ b o, s.heap.get? b = some o → (pushCells (s.heap.push { cls := .type "frame", data := .dict #[] }) F.scope.names).get? b = some o := fun b o e => pushCells_keeps _ _ b o (Heap.get?_push_of_some _ e)
  have kp : ∀ b o, s.heap.get? b = some o → h₁.get? b = some o := fun b o e => (sb.2 b (Nat.ne_of_lt (Heap.lt_size e))).trans (kp0 b o e)
  have noA : ∀ b : Addr, b ∉ (xcx CX P w K mg base N F f A outer s H E).ex := fun b z => absurd (show b ∈ ([] : List Addr) from z) (by simp)
  have cellK {c : Addr} {v : Option Value} : s.heap.IsCell c v → h₁.IsCell c v := fun ⟨cell, lies, dat⟩ => ⟨cell, kp _ _ lies, dat⟩
  have ok := cellsFrom_ok F.scope.names (s.heap.push { cls := .type "frame", data := .dict #[] }) (s.heap.objs.size + 1) [] ⟨fun _ _ hm => (nomatch hm), List.Pairwise.nil⟩ (by rw [Heap.size_push]; exact Nat.le_refl _)
  rw [Heap.size_push] at ok
  have split : ∀ {x : Str} {c : Addr}, (cellsFrom (s.heap.objs.size + 1) F.scope.names F.cl).lookup x = some c → ((x, c) ∈ cellsFrom (s.heap.objs.size + 1) F.scope.names [] ∧ (x, NameKind.cell) ∈ F.scope.names ∧ s.heap.objs.size + 1 ≤ c ∧ h₁.IsCell c none) ∨ F.cl.lookup x = some c := fun {x c} e => by
    rw [cellsFrom_app, List.lookup_append] at e
    cases e1 : (cellsFrom (s.heap.objs.size + 1) F.scope.names []).lookup x with
    | none => rw [e1] at e; exact .inr e
    | some c' =>
      rw [e1] at e
      cases e
      have m := PySem.mem_of_lookup e1
      obtain ⟨k1, k2⟩ := ok.empty x c m
      exact .inl ⟨m, cellsFrom_mem _ _ m, k2, k1.sameBut sb (Nat.ne_of_gt k2)⟩
  have frl : ∀ {x : Str}, x ∈ fr → (cellsFrom (s.heap.objs.size + 1) F.scope.names F.cl).lookup x = F.cl.lookup x := fun {x} hx => by
    rw [cellsFrom_app, List.lookup_append]
    cases e1 : (cellsFrom (s.heap.objs.size + 1) F.scope.names []).lookup x with
    | none => rfl
    | some c' =>
      have m := S.occ _ (cellsFrom_mem _ _ (PySem.mem_of_lookup e1)) rfl
      rw [show F.scope.names.lookup x = some .free from S.frk x hx] at m
      cases m
  have clB : ∀ {x : Str} {c : Addr}, F.cl.lookup x = some c → c < s.heap.objs.size := fun {x c} e => by
    obtain ⟨_, v, z⟩ := C.all x c e
    exact z.lt
  refine ⟨⟨e0.mod, S.kind, rfl, rfl, Nat.le_refl _, fun x y c e1 e2 => ?_, fun y hy => ?_, fun y c z hc => ?_, fun _ => hd, Around.frames_deeper e0.frames, .inr ⟨rfl, rfl⟩, fun b z => absurd z (noA b), e0.bs, e0.bsz, fun b _ _ => noA b,
      fun b z => absurd z (noA b), e0.funs, e0.frf⟩,
    rfl, e0.bare, Un.kept kp, ⟨_, hns, fun i y v' e1 e2 e3 => ?_⟩, fun y c e => ?_, e0.hok.fresh (Nat.le_refl _), fun y c e => ?_, fun q hq => absurd (show q ∈ ([] : List (Addr × Obj)) ++ [] from hq) (by simp), e0.hok.kept kp, ?_⟩
  · rcases split e1 with ⟨m1, _, g1, _⟩ | k1 <;> rcases split e2 with ⟨m2, _, g2, _⟩ | k2
    · exact name_of_addr ok.apart m1 m2
    · exact absurd (clB k2) (Nat.not_lt.mpr (Nat.le_of_succ_le g1))
    · exact absurd (clB k1) (Nat.not_lt.mpr (Nat.le_of_succ_le g2))
    · exact C.inj x y c k1 k2
  · have hy : F.scope.names.lookup y = some .cell ∨ F.scope.names.lookup y = some .free := hy
    rcases hy with hy | hy
    · exact Option.isSome_iff_exists.mp (PySem.W.cellsFrom_some F.scope.names (s.heap.objs.size + 1) F.cl (.inl hy))
    · have hf := S.free _ (PySem.mem_of_lookup hy) rfl
      obtain ⟨i, hi⟩ := List.mem_iff_getElem?.mp hf
      obtain ⟨c, hc, _⟩ := C.has i y hi
      exact ⟨c, (frl hf).trans hc⟩
  · have z : F.scope.names.lookup y = some .cell := of_decide_eq_true z
    have q := PySem.W.cellsFrom_some F.scope.names (s.heap.objs.size + 1) [] (.inl z)
    obtain ⟨c', hc'⟩ := Option.isSome_iff_exists.mp q
    have hc : (cellsFrom (s.heap.objs.size + 1) F.scope.names F.cl).lookup y = some c := hc
    rw [cellsFrom_app, List.lookup_append, hc'] at hc
    cases hc
    exact Nat.le_of_succ_le (ok.empty y c (PySem.mem_of_lookup hc')).2
  · have e1 : N[i]? = some y := e1
    have e2 : (L2.start N (v :: vs))[i]? = some (some v') := e2
    unfold L2.start at e2
    have prei : ∀ j, j < 1 + fr.length → N[j]? = (p :: fr)[j]? := fun j hj => by rw [← S.pre, List.getElem?_take_of_lt hj]
    rw [List.map_cons, List.cons_append] at e2
    cases i with
    | zero =>
      rw [List.getElem?_cons_zero] at e2
      cases e2
      have : N[0]? = some p := (prei 0 (by omega)).trans rfl
      rw [this] at e1
      cases e1
      exact ⟨u, r, .inl ⟨S.par, by show (if p = p then some u else none) = some u; rw [if_pos rfl]⟩⟩
    | succ i =>
      rw [List.getElem?_cons_succ] at e2
      by_cases h2 : i < vs.length
      · rw [List.getElem?_append_left (by rw [List.length_map]; exact h2)] at e2
        have hq : fr[i]? = some y := by
          have := prei (i + 1) (by omega)
          rw [e1, List.getElem?_cons_succ] at this
          exact this.symm
        have m := List.mem_of_getElem? hq
        obtain ⟨c, hc, hv⟩ := C.has i y hq
        obtain ⟨u', ru, hu⟩ := hv v' e2
        exact ⟨u', ru, .inr ⟨.inr (S.frk y m), c, (frl m).trans hc, cellK hu⟩⟩
      · rw [List.getElem?_append_right (by rw [List.length_map]; omega), List.getElem?_replicate] at e2
        split at e2 <;> cases e2
  · rcases split e with ⟨_, _, _, z⟩ | k
    · exact ⟨_, z⟩
    · obtain ⟨v', z⟩ := (C.all y c k).2
      exact ⟨v', cellK z⟩
  · rcases split e with ⟨_, _, z, _⟩ | k
    · exact e0.hok.fresh (Nat.le_of_succ_le z)
    · exact (C.all y c k).1
  · unfold L2.start
    show _ = N.length
    rw [List.length_append, List.length_map, List.length_replicate, List.length_cons]
    omega
end
end LC
namespace LC
open PySem PySem.Spec PyProof.Rows L2

/-! ### a nested function as a value: by its body -/
structure HeldX (Go : Gd) (F : NX) (f : Addr) (fr : List Str) (cs : List Addr) (vsC : List V) : Prop where
  fn : ∀ H, Go.tab H → H f = some (FnX f F) ∧ ∃ T, H F.c = some (CdX F.c T F.qual)
  len : vsC.length = fr.length
  all : ∀ y a, F.cl.lookup y = some a → a ∈ cs
  inj : ∀ x y a, F.cl.lookup x = some a → F.cl.lookup y = some a → x = y
  cell : ∀ a ∈ cs, ∃ o u, o.data = .cell (some u) ∧ ∀ H, Go.tab H → H a = some (SetX a o)
  has : ∀ (i : Nat) (y : Str), fr[i]? = some y → ∃ a v u o, F.cl.lookup y = some a ∧ a ∈ cs ∧ vsC[i]? = some v ∧ RelV v u ∧ o.data = .cell (some u) ∧ ∀ H, Go.tab H → H a = some (SetX a o)
structure AsideX (P : Program) (w : World) (Gi Go : Gd) (L : List Addr) : Prop where
  sub : SubT Gi Go
  ext : ∀ H, Go.tab H → Ext1 H L
  tab : ∀ H h, HOk P w H h → Go.tab H → Gi.tab (dele H L)
theorem fnX_at {P : Program} {w : World} {H : Hp} {h : Heap} {f : Addr} {F : NX} (hok : HOk P w H h) (e : H f = some (FnX f F)) : ∃ (od : Option Addr) (sl : Array (Option Value)) (doc pm ctv : Value), h.get? f = some (⟨.type "function", od, .func (F.fd doc pm ctv), sl⟩ : Obj) := by
  obtain ⟨z, _, _⟩ := hok f _ e
  exact z
theorem cdX_at {P : Program} {w : World} {H : Hp} {h : Heap} {c T : Addr} {q : Str} (hok : HOk P w H h) (e : H c = some (CdX c T q)) : h.CodeRec (.ref c) q ∧ PySem.W.CodeHd h c T := by
  obtain ⟨z, _, _⟩ := hok c _ e
  exact z
theorem setX_at {P : Program} {w : World} {H : Hp} {h : Heap} {c : Addr} {o : Obj} (hok : HOk P w H h) (e : H c = some (SetX c o)) : h.get? c = some o := by
  obtain ⟨z, _, _⟩ := hok c _ e
  exact z
theorem nx_bckX {P : Program} {w : World} {Gi Go : Gd} {L : List Addr} (S : AsideX P w Gi Go L) {K : PySem.W.Frag} {H F H' F' : Hp} {v : V} {en : En} (ne : noObj en) (z : Fz F H) (t : Go.tab H) (g : Gr (dele H L) H') (n : Nx Gi K (dele H L) (dele F L) H' F' v en) (hn : ∀ c ∈ L, H' c = none) : Nx Go K H F (bck H H' L) (bck F F' L) v en := by
  have x := S.ext H t
  have hF : ∀ c ∈ L, F' c = none := fun c hc => n.fz.non (hn c hc)
  have eH : ∀ b u, H' b = some u → bck H H' L b = some u := fun b u e => by rw [bck_out fun m => by rw [hn b m] at e; cases e]; exact e
  have eF : Same F' (bck F F' L) := fun b u e => by rw [bck_out fun m => by rw [hF b m] at e; cases e]; exact e
  have keep : ∀ b o, H b = some o → NoTbl o → bck H H' L b = some o := fun b o e nt => by
    by_cases m : b ∈ L
    · rw [bck_in m]; exact e
    · rw [bck_out m]; exact n.grow.keep b o (by rw [dele_out m]; exact e) nt
  have gr : Gr H (bck H H' L) := fun b ps e => by
    have m : b ∉ L := fun m => by
      obtain ⟨φ, q⟩ := x b m
      rw [e] at q
      cases q
    rw [bck_out m]
    exact g b ps (by rw [dele_out m]; exact e)
  refine ⟨fun b o e => ?_, ⟨keep, fun b e => ?_, fun b e => ?_⟩, ?_, ?_⟩
  · by_cases m : b ∈ L
    · rw [bck_in m] at e ⊢
      exact z b o e
    · rw [bck_out m] at e ⊢
      exact n.fz b o e
  · by_cases m : b ∈ L
    · rw [bck_in m] at e; exact e
    · rw [bck_out m] at e
      have := n.grow.live b e
      rwa [dele_out m] at this
  · by_cases m : b ∈ L
    · rw [bck_in m]
    · rw [bck_out m]
      have := n.grow.fro b (by rw [dele_out m]; exact e)
      rwa [dele_out m] at this
  · exact S.sub.back H _ t keep gr (Gi.mono (fun b u e _ => eH b u e) n.tab)
  · obtain ⟨fp, k1, k2, k3⟩ := n.at_
    refine ⟨fp, S.sub.enAt ne (k1.mono eF fun b u e _ => eH b u e), k2, fun b hb => ?_⟩
    have m : b ∉ L := fun m => k1.live b hb (hn b m)
    obtain ⟨q1, q2⟩ := k3 b hb
    rw [dele_out m] at q1
    rw [bck_out m]
    exact ⟨q1, q2⟩
def RunsTo (Gi : Gd) (X : Cx) (body : FuncBody) (ρ : Ro) (en : En) : Prop := match body with
  | .stmts b => ∃ o, Ends0 en o ∧ XSs Gi X (fun _ => False) b ρ o
  | .expr e => XE Gi X e ρ en
section
variable {Gi Go : Gd} {P : Program} {w : World} {K : PySem.W.Frag} {mg : Str → Option Value} {base : Heap} {N fr : List Str} {p : Str} {F : NX} {f : Addr} {k : Nat} {Φ : List Rs → En → Prop} {cs : List Addr} {vsC : List V} {crs : List Rs} {c : Rs}
theorem HeldX.cells (h : HeldX Go F f fr cs vsC) {H : Hp} {s : Heap} (t : Go.tab H) (hok : HOk P w H s) : NdefX.CellsAt F.cl fr (vsC.map some) s (dele H cs) where
  len := by rw [List.length_map]; exact h.len
  all := fun y a e => by
    have m := h.all y a e
    obtain ⟨o, u, d, q⟩ := h.cell a m
    exact ⟨dele_in m, some u, o, setX_at hok (q H t), d⟩
  inj := h.inj
  has := fun i y e => by
    obtain ⟨a, v, u, o, h1, _, h2, h3, h4, h5⟩ := h.has i y e
    refine ⟨a, h1, fun v' ev => ?_⟩
    rw [List.getElem?_map, h2] at ev
    cases ev
    exact ⟨u, h3, o, setX_at hok (h5 H t), h4⟩
theorem fnV_ofX (S : XScope N p fr F.scope) (hb : ∀ (doc pm ctv u : Value), bindArgs (F.fd doc pm ctv) ⟨[u], []⟩ = pure [(p, u)]) (As : AsideX P w Gi Go cs) (hh : HeldX Go F f fr cs vsC) (hne : ∀ rs en, Φ rs en → noObj en)
    (hc : ∀ F0, c.At Go K F0 (.ref f) → RsAll Go K F0 vsC crs)
    (hbody : ∀ (A : Around) (outer : List Env) (s : Shared) (H : Hp) (E : XK), Room k (A.deeper (envXX F f s.heap.objs.size)) → ∀ r en, Φ [r] en → RunsTo Gi (xcx CX0 P w K mg base N F f A outer s H E).nox F.body (ro N (r :: crs)) en) :
    FnV Go P w K mg base (k + 1) f c 1 Φ where
  at_ := fun H h t hok => by
    obtain ⟨od, sl, doc, pm, ctv, ho⟩ := fnX_at hok (hh.fn H t).1
    exact ⟨_, od, _, sl, ho⟩
  run := fun A outer s H us vs Q E hr e0 r ⟨F0, rs, en, z, t, cAt, a, hl, hφ, q⟩ => by
    have x : Ext1 H cs := fun a ha => let ⟨o, u, _, e⟩ := hh.cell a ha; ⟨_, e H t⟩
    obtain ⟨m1, T, m2⟩ := hh.fn H t
    have nf : f ∉ cs := fun hf => by
      obtain ⟨o, u, d, e⟩ := hh.cell f hf
      obtain ⟨_, _, _, _, _, ho⟩ := fnX_at e0.hok m1
      rw [setX_at e0.hok (e H t)] at ho
      cases ho
      cases d
    have nc : F.c ∉ cs := fun hf => by
      obtain ⟨o, u, d, e⟩ := hh.cell F.c hf
      obtain ⟨⟨_, oc, _, _, q0, ho, hd, _⟩, _⟩ := cdX_at e0.hok m2
      cases q0
      rw [setX_at e0.hok (e H t)] at ho
      cases ho
      rw [d] at hd
      cases hd
    have hok' := hok_dele x e0.hok
    have e0' := env0_dele x e0
    have lim : s.heap.NoLimit := e0.mod.nolimit.keeps fun b o e => (e0.bs b o e).1
    have dc := dele_ch z x
    obtain ⟨od, sl, doc, pm, ctv, ho⟩ := fnX_at e0.hok m1
    obtain ⟨hcr, _⟩ := cdX_at e0.hok m2
    obtain ⟨r1, rfl⟩ : ∃ r1, rs = [r1] := by
      cases rs with
      | nil => cases hl
      | cons r1 rt =>
        cases rt with
        | nil => exact ⟨r1, rfl⟩
        | cons _ _ => cases hl
    obtain ⟨v1, rfl, a1⟩ := rsAll1 a
    obtain ⟨u1, rfl, ru⟩ : ∃ u1, us = [u1] ∧ RelV v1 u1 := by
      cases r with
      | cons ru rt =>
        cases rt
        exact ⟨_, rfl, ru⟩
    have C := hh.cells (P := P) (w := w) t e0.hok
    have all : RsAll Gi K (dele F0 cs) (_ :: vsC) (r1 :: crs) := .cons (rsAt_ch dc (As.sub.rsAt.mpr a1)) (rsAll_ch dc (As.sub.rsAll.mp (hc F0 cAt)))
    have run : codeAny (model P w) A (.call (.ref f) ⟨[u1], []⟩) (CR CX0 outer P w (dele H cs) s (fun v H' => Gr (dele H cs) H' → ∃ F', Nx Gi K (dele H cs) (dele F0 cs) H' F' v en ∧ Gr (dele H cs) H') E) s := by
      refine codeAny_mono ?_ fun _ _ hq => hq
      have enter : ∀ (h₁ : Heap) (tk : Tok), h₁.Ns s.heap.objs.size (fun y => if y = p then some u1 else none) → Heap.SameBut s.heap.objs.size (pushCells (s.heap.push { cls := .type "frame", data := .dict #[] }) F.scope.names) h₁ →
          ({ s with heap := h₁, toks := tk } : Shared).heap.NoLimit ∧ ∀ (Q' : Value → Shared → Prop), True := fun h₁ tk h1 h2 => ⟨lim.keeps fun b o e => (h2.2 b (Nat.ne_of_lt (Heap.lt_size e))).trans (pushCells_keeps _ _ b o (Heap.get?_push_of_some _ e)), fun _ => trivial⟩
      have hbb := hbody A outer s (dele H cs) E (hr.deeper _) r1 en hφ
      cases hB : F.body with
      | stmts b =>
        rw [hB] at hbb
        obtain ⟨o, ho2, hx⟩ := hbb
        refine codeAny_call_function (body := b) hr.depth ho rfl S.co S.gen hB hcr ?_
        rw [hb doc pm ctv u1]
        refine wpAny_pure (wpAny_nfe1 S.kind S.par fun h₁ tk h1 h2 => ⟨(enter h₁ tk h1 h2).1, ?_⟩)
        show codeAny _ _ (.func b (envXX F f s.heap.objs.size)) _ _
        refine codeAny_func ?_
        have I := inv_startX (CX := CX0) (E := E) (F := F) (f := f) (tk := tk) S hr.hd e0' ru C h1 h2
        have ht := (pss_s (X := xcx CX0 P w K mg base N F f A outer s (dele H cs) E) (sts := b))
        refine wpAny_mono (((pss_s (X := (xcx CX0 P w K mg base N F f A outer s (dele H cs) E).nox) (sts := b)).nox).run [] _ (L2.start N (_ :: vsC)) (dele H cs) { nx := fun _ H' => ∃ F', Nx Gi K (dele H cs) (dele F0 cs) H' F' .non en, rt := fun v H' => ∃ F', Nx Gi K (dele H cs) (dele F0 cs) H' F' v en } I (hx _ _ _ _ _ _ (sta_ro (fz_dele z) (As.tab H s.heap e0.hok t) all) _ ?_)) (fun fl s' hs => ?_) fun e s' hs => hs
        · rcases ho2 with e | ⟨ρ', e, e'⟩
          · subst e
            exact fun v H1 F2 n => ⟨F2, n⟩
          · subst e e'
            exact fun σ1 H1 F2 S1 => ⟨F2, .from S1.grow (Nx.rs0 (r := Rs.dat .none) S1 Dt.non)⟩
        · cases fl with
          | ret u =>
            obtain ⟨v, σ', H', J, rv, F', q⟩ := hs
            exact ⟨v, H', J.os, J.bare, J.base, J.hok, rv, fun g => ⟨F', q, g⟩⟩
          | next =>
            obtain ⟨σ', H', J, F', q⟩ := hs
            exact ⟨.non, H', J.os, J.bare, J.base, J.hok, rfl, fun g => ⟨F', q, g⟩⟩
          | brk =>
            obtain ⟨_, _, _, q⟩ := hs
            exact False.elim q
          | cont =>
            obtain ⟨_, _, _, q⟩ := hs
            exact False.elim q
      | expr e =>
        rw [hB] at hbb
        obtain ⟨te, he, hx⟩ := hbb
        refine PySem.W.kla_callFunE (body := e) hr.depth ho rfl S.co S.gen hB hcr ?_
        rw [hb doc pm ctv u1]
        refine wpAny_pure (wpAny_nfe1 S.kind S.par fun h₁ tk h1 h2 => ⟨(enter h₁ tk h1 h2).1, ?_⟩)
        show codeAny _ _ (.expr e (envXX F f s.heap.objs.size)) _ _
        have I := inv_startX (CX := CX0) (E := E) (F := F) (f := f) (tk := tk) S hr.hd e0' ru C h1 h2
        refine PySem.W.kla_codeExpr (wpAny_mono (he.nox.run [] _ (L2.start N (_ :: vsC)) (dele H cs) (fun v H' => ∃ F', Nx Gi K (dele H cs) (dele F0 cs) H' F' v en) I (hx _ _ _ _ _ _ (sta_ro (fz_dele z) (As.tab H s.heap e0.hok t) all) _ fun v H1 F2 n => ⟨F2, n⟩)) (fun u s' hs => ?_) fun e s' hs => hs)
        obtain ⟨v, H', J, rv, F', q⟩ := hs
        exact ⟨v, H', J.os, J.bare, J.base, J.hok, rv, fun g => ⟨F', q, g⟩⟩
    refine codeAny_mono run fun r' s' hq => ?_
    have hq := cr_more hq
    cases r' with
    | error e => exact hq
    | ok fl =>
      cases fl with
      | ret u => exact ce_bck x e0.hok e0.frf hq fun v H' ⟨F', n, g⟩ hn => q v _ _ (nx_bckX As (hne _ _ hφ) z t g n hn)
      | next => exact hq
      | brk => exact hq
      | cont => exact hq
end
end LC
namespace LC
open PySem PySem.Spec PyProof.Rows L2

/-! ### the frame's cells are shown to a callee -/
def showL (H : Hp) : List (Addr × Obj) → Hp
  | [] => H
  | p :: L => upd (showL H L) p.1 (SetX p.1 p.2)
abbrev adr (L : List (Addr × Obj)) : List Addr := L.map (·.1)
theorem showL_out {H : Hp} {b : Addr} : ∀ {L : List (Addr × Obj)}, b ∉ adr L → showL H L b = H b
  | [], _ => rfl
  | p :: L, h => by
    have h : b ∉ p.1 :: adr L := h
    rw [showL, upd_ne (fun z => h (by rw [z]; exact List.mem_cons_self ..)), showL_out fun z => h (List.mem_cons_of_mem _ z)]
theorem showL_in {H : Hp} {h : Heap} : ∀ {L : List (Addr × Obj)}, (∀ p ∈ L, h.get? p.1 = some p.2) → ∀ p ∈ L, showL H L p.1 = some (SetX p.1 p.2)
  | [], _, _, hp => nomatch hp
  | q :: L, g, p, hp => by
    by_cases e : p.1 = q.1
    · have e2 : p.2 = q.2 := by
        have h1 := g p hp
        rw [e, g q (List.mem_cons_self ..)] at h1
        exact (Option.some.inj h1).symm
      rw [showL, e, e2, upd_same]
    · rcases List.mem_cons.mp hp with z | z
      · exact absurd (by rw [z]) e
      · rw [showL, upd_ne e]
        exact showL_in (fun r hr => g r (List.mem_cons_of_mem _ hr)) p z
theorem showL_none {H : Hp} {L : List (Addr × Obj)} {b : Addr} (n : ∀ p ∈ L, H p.1 = none) (h : showL H L b = none) : H b = none := by
  by_cases m : b ∈ adr L
  · obtain ⟨p, hp, rfl⟩ := List.mem_map.mp m
    exact n p hp
  · rwa [showL_out m] at h
theorem showL_some {H : Hp} {L : List (Addr × Obj)} {b : Addr} {o : HO} (n : ∀ p ∈ L, H p.1 = none) (h : H b = some o) : b ∉ adr L ∧ showL H L b = some o := by
  have m : b ∉ adr L := fun m => by
    obtain ⟨p, hp, rfl⟩ := List.mem_map.mp m
    rw [n p hp] at h
    cases h
  exact ⟨m, by rw [showL_out m]; exact h⟩
section
variable {P : Program} {w : World} {H H' : Hp} {h h' : Heap} {L : List (Addr × Obj)}
theorem hok_show (n : ∀ p ∈ L, H p.1 = none) (g : ∀ p ∈ L, h.get? p.1 = some p.2) (k : HOk P w H h) : HOk P w (showL H L) h := fun a o e => by
  by_cases m : a ∈ adr L
  · obtain ⟨p, hp, rfl⟩ := List.mem_map.mp m
    rw [showL_in g p hp] at e
    cases e
    exact setX_ok (g p hp)
  · rw [showL_out m] at e
    exact objOk_ch (fun b u hb _ => (showL_some n hb).2) (k a o e)
theorem ext1_of {L : List (Addr × Obj)} (x : ∀ p ∈ L, H p.1 = some (SetX p.1 p.2)) : Ext1 H (adr L) := fun c hc => by
  obtain ⟨p, hp, rfl⟩ := List.mem_map.mp hc
  exact ⟨_, x p hp⟩
theorem ce_hide {outer : List Env} {s s' : Shared} {Q Q' : VK} {u : Value} (n : ∀ p ∈ L, H p.1 = none) (g : ∀ p ∈ L, s.heap.get? p.1 = some p.2) (c : CE outer P w (showL H L) s Q' u s')
    (q : ∀ v H', Q' v H' → HOk P w H' s'.heap → (∀ p ∈ L, H' p.1 = some (SetX p.1 p.2)) ∧ Q v (dele H' (adr L))) : CE outer P w H s Q u s' := by
  obtain ⟨v, H', os, bare, un, hok, r, q'⟩ := c
  obtain ⟨x, q2⟩ := q v H' q' hok
  have kp : ∀ b ∈ adr L, ∀ o, s.heap.get? b = some o → s'.heap.get? b = some o := fun b hb o e => by
    obtain ⟨p, hp, rfl⟩ := List.mem_map.mp hb
    rw [g p hp] at e
    cases e
    exact setX_at hok (x p hp)
  refine ⟨v, dele H' (adr L), os, bare, ⟨fun b o e nb m1 m2 => ?_, fun b o e nb m1 m2 => ?_, fun b o e nb m => ?_, un.there, fun b xs e => ?_, fun b o u e => ?_, fun b ps e => ?_⟩, hok_dele (ext1_of x) hok, r, q2⟩
  · by_cases m : b ∈ adr L
    · exact kp b m o e
    · exact un.keep b o e (by rw [showL_out m]; exact nb) m1 m2
  · by_cases m : b ∈ adr L
    · exact ⟨o.slots, kp b m o e⟩
    · exact un.slot b o e (by rw [showL_out m]; exact nb) m1 m2
  · by_cases m' : b ∈ adr L
    · exact dele_in m'
    · rw [dele_out m']
      exact un.free b o e (by rw [showL_out m']; exact nb) m
  · obtain ⟨m, e2⟩ := showL_some n e
    rw [dele_out m]
    exact un.tups b xs e2
  · obtain ⟨m, e2⟩ := showL_some n e
    rw [dele_out m]
    exact un.frzs b o u e2
  · obtain ⟨m, e2⟩ := showL_some n e
    rw [dele_out m]
    exact un.tbls b ps e2
theorem cx_hide {outer : List Env} {s s' : Shared} {E E' : XK} {u : Value} (n : ∀ p ∈ L, H p.1 = none) (g : ∀ p ∈ L, s.heap.get? p.1 = some p.2) (c : L2.CX P w outer (showL H L) s E' u s')
    (q : ∀ cls d H' h', E' cls d H' → HOk P w H' h' → (∀ p ∈ L, H' p.1 = some (SetX p.1 p.2)) ∧ E cls d (dele H' (adr L))) : L2.CX P w outer H s E u s' := by
  obtain ⟨a, B, H', cls, d, eu, fl, hok, un, na, os, bare, q'⟩ := c
  obtain ⟨x, q2⟩ := q cls d H' B q' hok
  refine ⟨a, B, dele H' (adr L), cls, d, eu, fl, hok_dele (ext1_of x) hok, ⟨fun b o e nb m1 => ?_, un.slot, fun b o e nb => ?_, un.there, fun b xs e => ?_, fun b o u e => ?_, fun b ps e => ?_⟩, ?_, os, bare, q2⟩
  · by_cases m : b ∈ adr L
    · obtain ⟨p, hp, rfl⟩ := List.mem_map.mp m
      rw [g p hp] at e
      cases e
      exact setX_at hok (x p hp)
    · exact un.keep b o e (by rw [showL_out m]; exact nb) m1
  · by_cases m' : b ∈ adr L
    · exact dele_in m'
    · rw [dele_out m']
      exact un.free b o e (by rw [showL_out m']; exact nb)
  · obtain ⟨m, e2⟩ := showL_some n e
    rw [dele_out m]
    exact un.tups b xs e2
  · obtain ⟨m, e2⟩ := showL_some n e
    rw [dele_out m]
    exact un.frzs b o u e2
  · obtain ⟨m, e2⟩ := showL_some n e
    rw [dele_out m]
    exact un.tbls b ps e2
  · by_cases m : a ∈ adr L
    · exact dele_in m
    · rw [dele_out m]; exact na
end
/-- what the frame's cells hold -/
inductive ShownAt (X : Cx) (σ : L2.St) : List (Str × Nat) → List (Addr × Obj) → List V → Prop
  | nil : ShownAt X σ [] [] []
  | cons {y : Str} {j : Nat} {a : Addr} {o : Obj} {v : V} {u : Value} {js : List (Str × Nat)} {L : List (Addr × Obj)} {vs : List V} : X.env.cells.lookup y = some a → σ[j]? = some (some v) → RelV v u → o.data = .cell (some u) → ShownAt X σ js L vs → ShownAt X σ ((y, j) :: js) ((a, o) :: L) (v :: vs)
section
variable {X : Cx} {pins : List (Addr × Obj)} {σ : L2.St} {H : Hp} {s : Shared}
theorem shown_at (I : Inv X pins σ H s) : ∀ js : List (Str × Nat), (∀ p ∈ js, X.N[p.2]? = some p.1 ∧ X.env.scope.names.lookup p.1 = some .cell ∧ X.fn p.1 = true ∧ ∃ v, σ[p.2]? = some (some v)) →
    ∃ L vs, ShownAt X σ js L vs ∧ (∀ p ∈ L, s.heap.get? p.1 = some p.2) ∧ (∀ p ∈ L, H p.1 = none) ∧ (∀ p ∈ L, X.s_0.heap.objs.size ≤ p.1) ∧ ∀ p ∈ L, p.1 ≠ X.env.locals
  | [], _ => ⟨[], [], .nil, fun _ h => (nomatch h), fun _ h => (nomatch h), fun _ h => (nomatch h), fun _ h => nomatch h⟩
  | (y, j) :: js, h => by
    obtain ⟨L, vs, h1, h2, h3, h4, h5⟩ := shown_at I js fun p hp => h p (List.mem_cons_of_mem _ hp)
    obtain ⟨k1, k2, k3, v, k4⟩ := h (y, j) (List.mem_cons_self ..)
    obtain ⟨m, hn, hl⟩ := I.loc
    obtain ⟨u, r, l⟩ := hl j y v k1 k4 (.inr (.inl k2))
    rcases l with ⟨z, _⟩ | ⟨_, a, ha, o, ho, hd⟩
    · have z' : X.env.scope.names.lookup y = some .local := z
      rw [k2] at z'
      cases z'
    · exact ⟨(a, o) :: L, v :: vs, .cons ha k4 r hd h1, fun p hp => (List.mem_cons.mp hp).elim (fun e => by rw [e]; exact ho) (h2 p), fun p hp => (List.mem_cons.mp hp).elim (fun e => by rw [e]; exact I.freeC y a ha) (h3 p),
        fun p hp => (List.mem_cons.mp hp).elim (fun e => by rw [e]; exact I.ok.cab y a k3 ha) (h4 p), fun p hp => (List.mem_cons.mp hp).elim (fun e => by rw [e]; exact I.cne y a ha) (h5 p)⟩
theorem env0_show {L : List (Addr × Obj)} (I : Inv X pins σ H s) (g : ∀ p ∈ L, s.heap.get? p.1 = some p.2) (n : ∀ p ∈ L, H p.1 = none) (own : ∀ p ∈ L, X.s_0.heap.objs.size ≤ p.1) (nl : ∀ p ∈ L, p.1 ≠ X.env.locals) : Env0 X.prog X.w X.K X.mg X.base X.A X.stack s (showL H L) := by
  have e := I.env0
  refine ⟨e.frames, e.mod, fun b o q => ⟨(e.bs b o q).1, ?_⟩, e.bsz, e.funs, fun b hb => ?_, hok_show n g e.hok, e.bare⟩
  · rw [showL_out fun m => ?_]
    · exact (e.bs b o q).2
    · obtain ⟨p, hp, rfl⟩ := List.mem_map.mp m
      exact absurd (Nat.lt_of_lt_of_le (Heap.lt_size q) (Nat.le_trans I.ok.bsz (own p hp))) (Nat.lt_irrefl _)
  · rw [showL_out fun m => ?_]
    · exact e.frf b hb
    · obtain ⟨p, hp, rfl⟩ := List.mem_map.mp m
      rcases List.mem_cons.mp (I.stkSub _ hb) with z | z
      · exact nl p hp z
      · obtain ⟨_, o, ho, _⟩ := I.ok.funs.mem z
        exact absurd (Nat.lt_of_lt_of_le (Heap.lt_size ho) (own p hp)) (Nat.lt_irrefl _)
/-- the callee runs, the cells L are shown to it -/
theorem run_show {CX : CXT} {L : List (Addr × Obj)} {Q Q' : VK} {E E' : XK} {k : Nat} {f : Addr} {fd : FuncData} {ps : List Str} {sp : Sp} {us : List Value} {vs : List V} (F : FnOk X.prog X.w X.K X.mg X.base CX k f fd ps sp) (hr : Room k X.A) (hb : Binds X.K fd ps [])
    (hx : ∀ e s', CX X.stack (showL H L) s E' e s' → X.xe e s') (I : Inv X pins σ H s) (g : ∀ p ∈ L, s.heap.get? p.1 = some p.2) (n : ∀ p ∈ L, H p.1 = none) (own : ∀ p ∈ L, X.s_0.heap.objs.size ≤ p.1) (nl : ∀ p ∈ L, p.1 ≠ X.env.locals) (r : Vals vs us)
    (q : ∀ v H' h', Q' v H' → HOk X.prog X.w H' h' → (∀ p ∈ L, H' p.1 = some (SetX p.1 p.2)) ∧ Q v (dele H' (adr L))) (h : sp vs (showL H L) Q' E') : wpAny (model X.prog X.w) X.A (call (.ref f) us) (EP X pins σ Q) X.xe s := by
  have hl : us.length = ps.length := by rw [← r.length]; exact F.len _ _ _ _ h
  have b := hb s us I.kIn (by rw [List.append_nil]; exact hl)
  rw [List.append_nil] at b
  refine wpAny_call (codeAny_mono (F.run X.A X.stack s (showL H L) ⟨us, []⟩ us vs Q' E' hr (env0_show I g n own nl) b r h) fun r s' hq => ?_)
  cases r with
  | error e => exact hx e s' hq
  | ok fl =>
    cases fl with
    | ret u => exact I.after (ce_hide n g hq fun v H' a b => q v H' _ a b)
    | next => exact False.elim hq
    | brk => exact False.elim hq
    | cont => exact False.elim hq
end
end LC
namespace LC
open PySem PySem.Spec PyProof.Rows L2

/-! ### calls that show the frame's cells -/
theorem En.At.ch {G : Gd} {K : PySem.W.Frag} {F H H' : Hp} {v : V} {fp : List Addr} : ∀ {en : En}, (∀ b ∈ fp, H' b = H b) → en.At G K F H v fp → en.At G K F H' v fp
  | .rs r, _, h => h
  | .own ds, e, ⟨a, vs, h1, h2, h3, h4⟩ => ⟨a, vs, h1, h2, by rw [e a (by rw [h2]; simp)]; exact h3, h4⟩
  | .own2 dss, e, ⟨a, as, h1, h2, h3, h4⟩ => ⟨a, as, h1, h2, by rw [e a (by rw [h2]; simp)]; exact h3, by
    have e2 : ∀ b ∈ as, H' b = H b := fun b hb => e b (by rw [h2]; exact List.mem_cons_of_mem _ hb)
    clear h2 h3 e
    induction as generalizing dss with
    | nil => cases dss with
      | nil => trivial
      | cons _ _ => exact h4
    | cons c cs ih => cases dss with
      | nil => exact h4
      | cons d dss =>
        obtain ⟨⟨vs, q1, q2⟩, q3⟩ := h4
        exact ⟨⟨vs, by rw [e2 c (by simp)]; exact q1, q2⟩, ih dss q3 fun x hx => e2 x (List.mem_cons_of_mem _ hx)⟩⟩
  | .res b none, e, ⟨a, h1, h2, h3⟩ => ⟨a, h1, h2, by rw [e a (by rw [h2]; simp)]; exact h3⟩
  | .res b (some ds), e, ⟨a, c, vs, h1, h2, h3, h4, h5⟩ => ⟨a, c, vs, h1, h2, by rw [e a (by rw [h2]; simp)]; exact h3, by rw [e c (by rw [h2]; simp)]; exact h4, h5⟩
  | .obj ds, e, ⟨a, u, h1, h2, h3, h4, h5⟩ => ⟨a, u, h1, h2, by rw [e a (by rw [h2]; simp)]; exact h3, h4, h5⟩
theorem enAt_cm {G G' : Gd} (e : G'.cm = G.cm) (e' : G'.cc = G.cc) {K : PySem.W.Frag} {F H : Hp} {v : V} {fp : List Addr} {en : En} (n : noObj en) (h : en.At G' K F H v fp) : en.At G K F H v fp := by
  cases en with
  | rs r =>
    refine ⟨h.1, ?_⟩
    have h2 := h.2
    cases r with
    | dat d => exact h2
    | scr ns => exact h2
    | mach m => exact (machAt_cm e).mpr h2
    | cas c => exact (caseAt_cm e e').mpr h2
    | raw u => exact h2
    | clo f ps cs => exact ⟨h2.1, h2.2.1, fun p hp => (caseAt_cm e e').mpr (h2.2.2 p hp)⟩
  | own ds => exact h
  | own2 ds => exact h
  | res b od => cases od <;> exact h
  | obj ds => exact n.elim
section
variable {G G' : Gd} {K : PySem.W.Frag} {H F H' F' : Hp} {L : List (Addr × Obj)} {v : V} {en : En}
theorem grow_hide (n : ∀ p ∈ L, H p.1 = none) (g : ∀ p ∈ L, showL H L p.1 = some (SetX p.1 p.2)) (m : Grow (showL H L) F H' F') : Grow H F (dele H' (adr L)) F' :=
  ⟨fun b o e nt => by
    obtain ⟨k1, k2⟩ := showL_some n e
    rw [dele_out k1]
    exact m.keep b o k2 nt, fun b e => by
    by_cases k : b ∈ adr L
    · obtain ⟨p, hp, rfl⟩ := List.mem_map.mp k
      exact n p hp
    · rw [dele_out k] at e
      exact showL_none n (m.live b e), fun b e => m.fro b fun z => e (showL_none n z)⟩
theorem fz_hide (n : ∀ p ∈ L, H p.1 = none) (g : ∀ p ∈ L, showL H L p.1 = some (SetX p.1 p.2)) (z0 : Fz F H) (m : Grow (showL H L) F H' F') (z : Fz F' H') : Fz F' (dele H' (adr L)) := fun b o e => by
  have k : b ∉ adr L := fun k => by
    obtain ⟨p, hp, rfl⟩ := List.mem_map.mp k
    rw [m.fro p.1 (by rw [g p hp]; exact fun q => nomatch q), z0.non (n p hp)] at e
    cases e
  rw [dele_out k]
  exact z b o e
theorem nx_hide (e1 : G'.cm = G.cm) (e2 : G'.cc = G.cc) (n : ∀ p ∈ L, H p.1 = none) (g : ∀ p ∈ L, showL H L p.1 = some (SetX p.1 p.2)) (z0 : Fz F H) (ne : noObj en) (m : Nx G' K (showL H L) F H' F' v en) (t : G.tab (dele H' (adr L))) : Nx G K H F (dele H' (adr L)) F' v en := by
  obtain ⟨fp, k1, k2, k3⟩ := m.at_
  refine ⟨fz_hide n g z0 m.grow m.fz, grow_hide n g m.grow, t, fp, enAt_cm e1 e2 ne (k1.ch fun b hb => dele_out fun k => ?_), k2, fun b hb => ⟨showL_none n (k3 b hb).1, (k3 b hb).2⟩⟩
  obtain ⟨p, hp, rfl⟩ := List.mem_map.mp k
  have := (k3 _ hb).1
  rw [g p hp] at this
  cases this
end
/-- arguments, and what is known of them -/
def XAf (G : Gd) (X : Cx) (es : List Expr) (ρ : Ro) (R : Hp → Hp → List V → Prop) : Prop := ∃ t, PA X es t ∧ ∀ H0 F0 γ σ H F, Sta G X.K H0 F0 γ σ H F ρ → ∀ Q : List V → Hp → Prop, (∀ vs H' F', Grow H F H' F' → Fz F' H' → G.tab H' → R F' H' vs → Q vs H') → t σ H Q
/-- the callee, with the cells L shown -/
structure CalleeO (G : Gd) (X : Cx) (x : Str) (L : List (Addr × Obj)) (H F : Hp) (vs : List V) (oe : Option En) : Prop where
  ex : ∃ (G' : Gd) (k n : Nat) (Φ : List Rs → Option En → Prop) (rs : List Rs), FnE G' X.prog X.w X.K X.mg X.base k x n Φ ∧ Room k X.A ∧ Φ rs oe ∧ rs.length = n ∧ RsAll G' X.K F vs rs ∧ G'.cm = G.cm ∧ G'.cc = G.cc ∧ G'.tab (showL H L) ∧
    (∀ H' h', HOk X.prog X.w H' h' → G'.tab H' → (∀ p ∈ L, H' p.1 = some (SetX p.1 p.2)) → G.tab (dele H' (adr L))) ∧ ∀ en, oe = some en → noObj en
section
variable {G : Gd} {X : Cx} {Ex : Hp → Prop} {ρ ρ' : Ro} {e : Expr} {es : List Expr} {p pos : Pos} {x : Str} {R : Hp → Hp → List V → Prop} {oe : Option En} {f : Addr}
theorem xaf_of {rs : List Rs} (h : XA G X es ρ rs) : XAf G X es ρ (fun F _ vs => RsAll G X.K F vs rs) := let ⟨t, h1, h2⟩ := h; ⟨t, h1, fun H0 F0 γ σ H F S Q q => h2 H0 F0 γ σ H F S Q fun vs H1 F1 g z t a => q vs H1 F1 g z t a⟩
theorem xaf_cons {r : Rs} (he : XE G X e ρ (.rs r)) (ha : XAf G X es ρ R) (hst : starEach (e :: es) X.env = (false, eval e X.env) :: starEach es X.env := by rfl) : XAf G X (e :: es) ρ (fun F H vs => ∃ v vs', vs = v :: vs' ∧ r.At G X.K F v ∧ R F H vs') := by
  obtain ⟨t, h1, h2⟩ := ha
  exact ⟨_, pa_cons pe_s h1 hst, fun H0 F0 γ σ H F S Q q => he.s S fun v H1 F1 n => h2 _ _ _ _ _ _ (S.nx n) _ fun vs H2 F2 g z t a => q _ _ _ (n.grow.trans g) z t ⟨v, vs, rfl, n.rsAt.mono (g.same n.fz), a⟩⟩
theorem pe_callO (js : List (Str × Nat)) (hjs : ∀ p ∈ js, X.N[p.2]? = some p.1 ∧ X.env.scope.names.lookup p.1 = some .cell ∧ X.fn p.1 = true ∧ ∃ r : Rs, ρ[p.2]? = some (some (En.rs r))) (tk : oe = none → Tk X Ex) (hm : X.mg x = some (.ref f)) (hk : PySem.W.keepIn X.K (.ref f) = true)
    (ha : XAf G X (e :: es) ρ R)
    (hcall : ∀ σ L vs0 H1 F1 vs, X.Ok → ShownAt X σ js L vs0 → (∀ p ∈ L, H1 p.1 = none) → (∀ p ∈ L, showL H1 L p.1 = some (SetX p.1 p.2)) → (∀ (i : Nat) (r : Rs), ρ[i]? = some (some (En.rs r)) → ∃ v, σ[i]? = some (some v) ∧ r.At G X.K F1 v) → Fz F1 H1 → G.tab H1 → R F1 H1 vs → CalleeO G X x L H1 F1 vs oe)
    (hg : Gl X x := by rfl) (hdb : (x == ("__debug__" : Str)) = false := by decide)
    (he : starEach (e :: es) X.env = (false, eval e X.env) :: starEach es X.env := by rfl) (hpl : (backTo pos (starEach es X.env)).any (·.1) = false := by rfl) :
    ∃ t, PE X (.Call (.Name x p) (e :: es) [] pos) t ∧ ∀ H0 F0 γ σ H F, Sta G X.K H0 F0 γ σ H F ρ → ∀ Q : VK, (∀ en, oe = some en → ∀ v H' F', Nx G X.K H F H' F' v en → Q v H') → (oe = none → ∀ H' F', Grow H0 F0 H' F' → Fz F' H' → G.tab H' → Ex H') → t σ H Q := by
  obtain ⟨t, h1, h2⟩ := ha
  refine ⟨fun σ H Q => (∀ p ∈ js, ∃ v, σ[p.2]? = some (some v)) ∧ t σ H fun vs H1 => ∀ L vs0, X.Ok → ShownAt X σ js L vs0 → (∀ p ∈ L, H1 p.1 = none) → (∀ p ∈ L, showL H1 L p.1 = some (SetX p.1 p.2)) → ∃ (k : Nat) (fd : FuncData) (ps : List Str) (sp : Sp) (Q' : VK) (E' : XK),
    FnOk X.prog X.w X.K X.mg X.base (L2.CX X.prog X.w) k f fd ps sp ∧ Room k X.A ∧ Binds X.K fd ps [] ∧ sp vs (showL H1 L) Q' E' ∧ (∀ v H' h', Q' v H' → HOk X.prog X.w H' h' → (∀ p ∈ L, H' p.1 = some (SetX p.1 p.2)) ∧ Q v (dele H' (adr L))) ∧
    (∀ pins s e s', Inv X pins σ H1 s → (∀ p ∈ L, s.heap.get? p.1 = some p.2) → L2.CX X.prog X.w X.stack (showL H1 L) s E' e s' → X.xe e s'), ⟨fun pins s σ H Q I h => ?_⟩, fun H0 F0 γ σ H F S Q q qe => ?_⟩
  · obtain ⟨hv, h⟩ := h
    refine wpAny_Call_Name_kw (ld_glob I hg hm ?_ hdb)
    refine PySem.W.callWith_K (h₀ := X.base) I.ok.mod.kin hk (thn (h1.run pos pins s σ H _ I h) fun us s1 ⟨vs, H1, I1, r, q⟩ => ⟨I1.kIn, ?_⟩) he hpl
    obtain ⟨L, vs0, k1, k2, k3, k4, k5⟩ := shown_at I1 js fun p hp => let ⟨a, b, c, _⟩ := hjs p hp; ⟨a, b, c, hv p hp⟩
    obtain ⟨k, fd, ps, sp, Q', E', F, hr, hb, hsp, hq, hx⟩ := q L vs0 I1.ok k1 k3 (showL_in k2)
    exact run_show (E := E') F hr hb (fun e s' c => hx pins s1 e s' I1 k2 c) I1 k2 k3 k4 k5 r hq hsp
  · refine ⟨fun p hp => ?_, h2 _ _ _ _ _ _ S _ fun vs H1 F1 g z t a L vs0 ok sh n sg => ?_⟩
    · obtain ⟨_, _, _, r, hr⟩ := hjs p hp
      obtain ⟨v, e1, _⟩ := S.slot hr
      exact ⟨v, e1⟩
    · have S1 := S.go g z t
      obtain ⟨G', k, nn, Φ, rs, hF, hr, hφ, hn, hrs, e1, e2, t', th, ne⟩ := (hcall σ L vs0 H1 F1 vs ok sh n sg (fun i r hi => by
        obtain ⟨v, e1, e2⟩ := S1.slot hi
        exact ⟨v, e1, e2⟩) z t a).ex
      obtain ⟨f', fd, ps, F, hm', _, hb⟩ := hF.ex
      rw [hm] at hm'
      cases hm'
      have zs : Fz F1 (showL H1 L) := fun b o e => ⟨(showL_some n (z b o e).1).2, (z b o e).2⟩
      refine ⟨k, fd, ps, _, fun v H' => ∃ en F', oe = some en ∧ Nx G' X.K (showL H1 L) F1 H' F' v en, fun cls d H' => cls = TLc X.K ∧ oe = none ∧ ∃ F', Grow (showL H1 L) F1 H' F' ∧ Fz F' H' ∧ G'.tab H', F, hr, hb, ⟨F1, rs, oe, zs, t', hrs, hn, hφ, fun en e v H' F' m => ⟨en, F', e, m⟩, fun e d H' F' g2 z2 t2 => ⟨rfl, e, F', g2, z2, t2⟩⟩, fun v H' h' ⟨en, F', e, m⟩ hok => ?_, fun pins s ev s' I gg c => ?_⟩
      · have x : ∀ p ∈ L, H' p.1 = some (SetX p.1 p.2) := fun p hp => m.grow.keep _ _ (sg p hp) nt_setX
        exact ⟨x, q en e v _ F' (.from g (nx_hide e1 e2 n sg z (ne en e) m (th H' h' hok m.tab x)))⟩
      · cases oe with
        | some en =>
          obtain ⟨_, _, _, _, _, _, _, _, _, _, _, _, _, z, _⟩ := c
          cases z
        | none =>
          have c2 := cx_hide (E := fun cls _ H => cls = TLc X.K ∧ Ex H) n gg c (fun cls d H' h' ⟨ec, _, F', g2, z2, t2⟩ hok => by
            have x : ∀ p ∈ L, H' p.1 = some (SetX p.1 p.2) := fun p hp => g2.keep _ _ (sg p hp) nt_setX
            exact ⟨x, ec, qe rfl _ F' (S.grow.trans (g.trans (grow_hide n sg g2))) (fz_hide n sg z g2 z2) (th H' h' hok t2 x)⟩)
          exact L2.passAt (W := fun cls _ _ H => cls = TLc X.K ∧ Ex H) (tk rfl) σ pins H1 s ev s' I c2
end
/-- a def that raises nothing -/
theorem FnG.toE {G : Gd} {P : Program} {w : World} {K : PySem.W.Frag} {mg : Str → Option Value} {base : Heap} {k : Nat} {x : Str} {n : Nat} {Φ : List Rs → En → Prop} (h : FnG G P w K mg base k x n Φ) : FnE G P w K mg base k x n (fun rs oe => ∃ en, oe = some en ∧ Φ rs en) := by
  obtain ⟨f, fd, ps, F, h1, h2, h3⟩ := h.ex
  have tr : ∀ {vs : List V} {H : Hp} {Q : VK} {E E' : XK}, spE G K n (fun rs oe => ∃ en, oe = some en ∧ Φ rs en) vs H Q E → spD G K n Φ vs H Q E' := fun ⟨F, rs, oe, z, t, a, hl, ⟨en, e, hφ⟩, q, _⟩ => ⟨F, rs, en, z, t, a, hl, hφ, q en e⟩
  exact ⟨f, fd, ps, ⟨fun vs H Q E q => F.len vs H Q E (tr q), fun A outer s' H args us vs Q E hr e0 b r q => codeAny_mono (F.run A outer s' H args us vs Q (fun _ _ _ => False) hr e0 b r (tr q)) fun r s2 hq => by
    cases r with
    | error e => exact (show False from hq).elim
    | ok fl => cases fl <;> exact hq⟩, h1, h2, h3⟩
end LC
namespace LC
open PySem PySem.Spec PyProof.Rows L2

/-! ### tables when a code object is made -/
theorem among_app3 {pos p' : Pos} {c cv : Value} (l : List Value) (h : TriplesOk l) (hc : codeAmong p' (l ++ [rawInt pos.line, rawInt pos.col, c]) = some cv) : codeAmong p' l = some cv ∨ (cv = c ∧ pos.line = p'.line ∧ pos.col = p'.col) := NdefX.among_app2 l h hc
structure Ext2 (H H2 : Hp) (T : Addr) (ps : Array Value) (pos : Pos) (c' T' : Addr) (q : Str) : Prop where
  hT : H T = some (.tbl ps)
  eT : H2 T = some (.tbl (ps ++ #[rawInt pos.line, rawInt pos.col, .ref c']))
  ec : H2 c' = some (CdX c' T' q)
  et : H2 T' = some (.tbl #[])
  nt : H T' = none
  k : ∀ b u, H b = some u → b ≠ T → H2 b = some u
theorem Ext2.of {H : Hp} {T : Addr} {ps : Array Value} {pos : Pos} {c' T' : Addr} {q : Str} (hT : H T = some (.tbl ps)) (n1 : H c' = none) (n2 : H T' = none) (ne : c' ≠ T') : Ext2 H (upd (upd (upd H T (.tbl (ps ++ #[rawInt pos.line, rawInt pos.col, .ref c']))) T' (.tbl #[])) c' (CdX c' T' q)) T ps pos c' T' q where
  hT := hT
  eT := by rw [upd_ne (ne_of_none hT n1), upd_ne (ne_of_none hT n2), upd_same]
  ec := upd_same
  et := by rw [upd_ne (Ne.symm ne), upd_same]
  nt := n2
  k := fun b u e h => by rw [upd_ne (ne_of_none e n1), upd_ne (ne_of_none e n2), upd_ne h]; exact e
section
variable {K : PySem.W.Frag} {H H2 : Hp} {T : Addr} {ps : Array Value} {pos : Pos} {c' T' : Addr} {q : Str}
theorem Ext2.gr (x : Ext2 H H2 T ps pos c' T' q) : Gr H H2 := fun b qs e => by
  by_cases h : b = T
  · subst h
    rw [x.hT] at e
    cases e
    exact ⟨_, x.eT⟩
  · exact ⟨#[], by rw [x.k b _ e h]; simp⟩
theorem Ext2.cd (x : Ext2 H H2 T ps pos c' T' q) : ∀ c T0 q0, H c = some (CdX c T0 q0) → H2 c = some (CdX c T0 q0) := fun c T0 q0 e => x.k _ _ e fun z => by rw [z, x.hT] at e; unfold CdX at e; cases e
theorem Ext2.tb (x : Ext2 H H2 T ps pos c' T' q) {T0 : Addr} (n : T0 ≠ T) : ∀ qs, H T0 = some (.tbl qs) → H2 T0 = some (.tbl qs) := fun qs e => x.k _ _ e n
theorem Ext2.t1 (x : Ext2 H H2 T ps pos c' T' q) {nm : Nat → Nat → Str} (h : T1 H T nm) (hq : nm pos.line pos.col = q) : T1 H2 T nm := by
  obtain ⟨ps0, h1, h2, h3⟩ := h
  rw [x.hT] at h1
  cases h1
  have eL := Array.toList_append (xs := ps) (ys := #[rawInt pos.line, rawInt pos.col, .ref c'])
  refine ⟨_, x.eT, by rw [eL]; exact PySem.TriplesOk_snoc _ _ _ _ h2, fun p' cv hc => ?_⟩
  rw [eL] at hc
  rcases among_app3 _ h2 hc with z | ⟨z, z1, z2⟩
  · obtain ⟨c, T0, e1, e2⟩ := h3 p' cv z
    exact ⟨c, T0, e1, x.cd _ _ _ e2⟩
  · exact ⟨c', T', z, by rw [← z1, ← z2, hq]; exact x.ec⟩
theorem tfs_tbl (t : TabAll K H) : ∀ T0 ∈ tfs K, ∃ qs, H T0 = some (.tbl qs) := fun T0 h => by
  simp only [tfs, tf, List.map_cons, List.map_nil, List.mem_cons, List.not_mem_nil, or_false] at h
  rcases h with rfl | rfl | rfl | rfl | rfl
  · obtain ⟨qs, h, _⟩ := t.g ("Case", some "__init__") (by simp)
    exact ⟨qs, h⟩
  · obtain ⟨qs, h, _⟩ := t.g ("first_rule", none) (by simp)
    exact ⟨qs, h⟩
  · obtain ⟨qs, h, _⟩ := t.g ("is_harmful", none) (by simp)
    exact ⟨qs, h⟩
  · obtain ⟨qs, h, _⟩ := t.e
    exact ⟨qs, h⟩
  · obtain ⟨qs, h, _⟩ := t.f
    exact ⟨qs, h⟩
theorem tabs_g (t : TabAll K H) (x : Ext2 H H2 T ps pos c' T' q) (n : ∀ p ∈ tf3, (He.cT K p).2 ≠ T) : ∀ p ∈ tf3, GxR.TabG H2 (He.cT K p).2 := fun p hp => by
  obtain ⟨qs, h1, h2⟩ := t.g p hp
  exact ⟨qs, x.tb (n p hp) _ h1, h2⟩
theorem tabs_e (t : TabAll K H) (x : Ext2 H H2 (tabE K) ps pos c' T' qE) : TabAll K H2 :=
  ⟨t.nd, tabs_g t x fun p hp => Ne.symm (tf_ne t.nd hp).1, x.t1 t.e rfl, t.f.go x.cd (x.tb (Ne.symm (tf_ne t.nd (p := ("Case", some "__init__")) (by simp)).2.2.1)) fun T0 h => x.tb fun z => h (by rw [z]; simp [tfs, tf])⟩
theorem tabs_n (t : TabAll K H) (hT : T ∉ tfs K) (h1 : T1 H T nmN) (x : Ext2 H H2 T ps pos c' T' qN) : TabAll K H2 := by
  have nT : ∀ T0 ∈ tfs K, T0 ≠ T := fun T0 h z => hT (z ▸ h)
  refine ⟨t.nd, tabs_g t x fun p hp => nT _ (tf_ne t.nd hp).2.2.2, t.e.go x.cd (x.tb (nT _ (by simp [tfs, tf]))), ?_⟩
  obtain ⟨qs, e1, e2, e3⟩ := t.f
  refine ⟨qs, x.tb (nT _ (by simp [tfs, tf])) _ e1, e2, fun p' cv hc => ?_⟩
  obtain ⟨c, T0, k1, k2, k3⟩ := e3 p' cv hc
  refine ⟨c, T0, k1, x.cd _ _ _ k2, fun f => ⟨?_, (k3 f).2⟩⟩
  by_cases z : T0 = T
  · subst z
    exact x.t1 h1 rfl
  · exact (k3 f).1.go x.cd (x.tb z)
theorem tabs_f (t : TabAll K H) (hq : nmF pos.line pos.col = q) (x : Ext2 H H2 (tabF K) ps pos c' T' q) : TabAll K H2 := by
  have nE : tabE K ≠ tabF K := (tf_ne t.nd (p := ("Case", some "__init__")) (by simp)).2.2.1
  refine ⟨t.nd, tabs_g t x fun p hp => Ne.symm (tf_ne t.nd hp).2.1, t.e.go x.cd (x.tb nE), ?_⟩
  obtain ⟨qs, e1, e2, e3⟩ := t.f
  rw [x.hT] at e1
  cases e1
  have eL := Array.toList_append (xs := ps) (ys := #[rawInt pos.line, rawInt pos.col, .ref c'])
  refine ⟨_, x.eT, by rw [eL]; exact PySem.TriplesOk_snoc _ _ _ _ e2, fun p' cv hc => ?_⟩
  rw [eL] at hc
  rcases among_app3 _ e2 hc with z | ⟨z, z1, z2⟩
  · obtain ⟨c, T0, k1, k2, k3⟩ := e3 p' cv z
    exact ⟨c, T0, k1, x.cd _ _ _ k2, fun f => ⟨(k3 f).1.go x.cd (x.tb fun z => (k3 f).2 (by rw [z]; simp [tfs, tf])), (k3 f).2⟩⟩
  · refine ⟨c', T', z, by rw [← z1, ← z2, hq]; exact x.ec, fun _ => ⟨⟨#[], x.et, True.intro, fun p2 cv2 h2 => ?_⟩, fun h => ?_⟩⟩
    · have h2 : codeAmong p2 [] = some cv2 := h2
      simp [codeAmong] at h2
    · obtain ⟨qs, e⟩ := tfs_tbl t _ h
      rw [x.nt] at e
      cases e
theorem reg_f (x : Ext2 H H2 (tabF K) ps posF c' T' q) (ht : TriplesOk ps.toList) (hc : codeAmong posF ps.toList = none) : Reg K H2 c' :=
  ⟨_, x.eT, by
    rw [show (ps ++ #[rawInt posF.line, rawInt posF.col, .ref c']).toList = ps.toList ++ [rawInt posF.line, rawInt posF.col, .ref c'] from by simp]
    exact codeAmong_snoc _ ht hc⟩
theorem tabX_of {w : World} {kn : Kn} (t : (gdX w K kn).tab H) (x : Ext2 H H2 T ps pos c' T' q) (h : TabAll K H2) : (gdX w K kn).tab H2 :=
  ⟨h, fun p hp => x.k _ _ (t.2.1 p hp) fun z => (kn.hn p hp).2 _ (Option.some.inj ((t.2.1 p hp).symm.trans (by rw [z]; exact x.hT))), fun c hc => (t.2.2 c hc).gr x.gr⟩
end
/-- what the frame needs to make functions -/
structure Mkr (G : Gd) (X : Cx) (pos : Pos) (qual : Str) (W : Hp → Addr → Prop) : Prop where
  bm : ∃ T0, X.base.BuiltinsAt X.mg T0
  get : ∀ pins σ H s, Inv X pins σ H s → G.tab H → ∃ c T ps, X.env.code = .ref c ∧ PySem.W.CodeHd s.heap c T ∧ H T = some (.tbl ps) ∧ TriplesOk ps.toList ∧
    (∀ cv, codeAmong pos ps.toList = some cv → ∃ c', cv = .ref c' ∧ (∃ T', H c' = some (CdX c' T' qual)) ∧ W H c') ∧
    (codeAmong pos ps.toList = none → ∀ H2 c' T', Ext2 H H2 T ps pos c' T' qual → G.tab H2 ∧ W H2 c')
  wm : ∀ H H' c, W H c → ExtL H H' → W H' c
section
variable {G : Gd} {X : Cx} {pins : List (Addr × Obj)} {σ : L2.St} {H : Hp} {s : Shared} {name qual : Str} {params : Arguments} {body : FuncBody} {scope : Scope} {pos : Pos} {W : Hp → Addr → Prop}
abbrev MadeF (X : Cx) (name qual : Str) (params : Arguments) (body : FuncBody) (scope : Scope) (c' : Addr) : NX := ⟨name, qual, params, body, scope, L2.cloFrom X.env.cells scope.names [], c'⟩
theorem made {firstLine : Nat} {E : Value → Shared → Prop} {Q : Value → Shared → Prop} (M : Mkr G X pos qual W) (I : Inv X pins σ H s) (t : G.tab H) (hfree : ∀ y ∈ scope.names, y.2 = .free → ∃ c, X.env.cells.lookup y.1 = some c)
    (h : ∀ (f c' T' : Addr) (H1 : Hp) (s' : Shared), Inv X pins σ H1 s' → (∀ b o, H b = some o → NoTbl o → H1 b = some o) → (∀ b, H1 b = none → H b = none) → G.tab H1 → H f = none → H1 f = some (FnX f (MadeF X name qual params body scope c')) → H1 c' = some (CdX c' T' qual) → W H1 c' → Q (.ref f) s') :
    wpAny (model X.prog X.w) X.A (makeFunction name qual params body scope X.env [] [] [] pos firstLine) Q E s := by
  obtain ⟨c, T, ps, hcode, C, hT, ht, hall, hnew⟩ := M.get pins σ H s I t
  refine mk_X I hcode C M.bm hT ht (fun cv hc => let ⟨c', e, _⟩ := hall cv hc; ⟨c', e⟩) hfree (fun hc f c' T' s' nf n1 n2 ne e1 e2 I1 => ?_) fun c' hc f s' nf I1 => ?_
  · have x := Ext2.of (pos := pos) (q := qual) hT n1 n2 ne
    obtain ⟨t2, w2⟩ := hnew hc _ c' T' x
    have f0 : upd (upd (upd H T (.tbl (ps ++ #[rawInt pos.line, rawInt pos.col, .ref c']))) T' (.tbl #[])) c' (CdX c' T' qual) f = none := by
      rw [upd_ne e1, upd_ne e2, upd_ne fun z => by rw [z, hT] at nf; cases nf]
      exact nf
    have g := extL_new (o := FnX f (MadeF X name qual params body scope c')) f0
    refine h f c' T' _ s' I1 (fun b o e no => ?_) (fun b e => ?_) (G.mono g t2) nf upd_same (by rw [upd_ne (Ne.symm e1)]; exact x.ec) (M.wm _ _ _ w2 g)
    · rw [upd_ne (ne_of_none e nf)]
      exact x.k b o e fun z => no ps (Option.some.inj (e.symm.trans (by rw [z]; exact hT)))
    · exact NdefX.upd_none (NdefX.upd_none (NdefX.upd_none (NdefX.upd_none e)))
  · obtain ⟨c2, e, ⟨T', hT'⟩, w2⟩ := hall _ hc
    cases e
    have g := extL_new (o := FnX f (MadeF X name qual params body scope c')) nf
    exact h f c' T' _ s' I1 (fun b o e no => by rw [upd_ne (ne_of_none e nf)]; exact e) (fun b e => NdefX.upd_none e) (G.mono g t) nf upd_same (by rw [upd_ne (ne_of_none hT' nf)]; exact hT') (M.wm _ _ _ w2 g)
/-- the reading of a lambda -/
def tLamX (G : Gd) (X : Cx) (mk : Addr → NX) (W : Hp → Addr → Prop) : TE := fun σ H Q => G.tab H ∧ ∀ (f c' T' : Addr) (H1 : Hp), (∀ b o, H b = some o → NoTbl o → H1 b = some o) → (∀ b, H1 b = none → H b = none) → G.tab H1 → H f = none → H1 f = some (FnX f (mk c')) → H1 c' = some (CdX c' T' (mk c').qual) → W H1 c' → Q (.ref f) H1
theorem pe_lamX {e : Expr} (M : Mkr G X pos (X.env.qual ++ "<lambda>") W) (hfree : X.Ok → ∀ y ∈ scope.names, y.2 = .free → ∃ c, X.env.cells.lookup y.1 = some c) (hdef : defaultsOf params X.env = ([], [])) :
    PE X (.Lambda params e scope pos) (tLamX G X (MadeF X "<lambda>" (X.env.qual ++ "<lambda>") params (.expr e) scope) W) := by
  refine ⟨fun pins s σ H Q I ⟨t, h⟩ => ?_⟩
  refine PySem.W.kla_eval hdef (made M I t (hfree I.ok) fun f c' T' H1 s' I1 k1 k2 t1 nf h1 h2 h3 => ?_)
  exact ⟨.ref f, H1, I1, rfl, h f c' T' H1 k1 k2 t1 nf h1 h2 h3⟩
theorem ps_defX {b : List Stmt} {i : Nat} (M : Mkr G X pos (X.env.qual ++ name) W) (hfree : X.Ok → ∀ y ∈ scope.names, y.2 = .free → ∃ c, X.env.cells.lookup y.1 = some c) (hd0 : params.defaults = []) (hk0 : params.kw_defaults = []) (ha : annTrees params none X.env = [])
    (hN : X.N.Nodup) (hi : X.N[i]? = some name) (hx : Loc X.env.scope name) (hf : X.fn name = true ∨ X.env.scope.names.lookup name = some .local) :
    PS X (.FunctionDef name params b [] none [] scope none name pos) (fun D σ H => G.tab H ∧ ∀ (f c' T' : Addr) (H1 : Hp), (∀ b o, H b = some o → NoTbl o → H1 b = some o) → (∀ b, H1 b = none → H b = none) → G.tab H1 → H f = none → H1 f = some (FnX f (MadeF X name (X.env.qual ++ name) params (.stmts b) scope c')) → H1 c' = some (CdX c' T' (X.env.qual ++ name)) → W H1 c' → D.nx (σ.set i (some (.ref f))) H1) := by
  refine ⟨fun pins s σ H D I ⟨t, h⟩ => ?_⟩
  have local_ : X.env.kindOf name = some .local ∨ X.env.kindOf name = some .cell := hx
  have q : qualnameIn X.env name name = X.env.qual ++ name := by
    unfold qualnameIn
    obtain k | k := local_
    · rw [k]
      first | rfl | exact if_neg (by decide)
    · rw [k]
      first | rfl | exact if_neg (by decide)
  refine PySem.W.nestDef_K hd0 hk0 ha (q ▸ ?_)
  refine made M I t (hfree I.ok) fun f c' T' H1 s' I1 k1 k2 t1 nf h1 h2 h3 => ?_
  exact store_ok I1 hN hi hx (v := .ref f) rfl (fun s'' J => ⟨_, H1, J, h f c' T' H1 k1 k2 t1 nf h1 h2 h3⟩) hf
end
end LC
namespace LC
open PySem PySem.Spec PyProof.Rows L2

/-! ### statements: a def within a def -/
def nobO : Option En → Bool
  | some (.obj _) => false
  | _ => true
def Kn.add (kn : Kn) (fs : List (Addr × HO)) (hn : ∀ p ∈ fs, NoL p.2) (cs : List Addr) : Kn := ⟨fs ++ kn.fs, fun p hp => (List.mem_append.mp hp).elim (hn p) (kn.hn p), cs ++ kn.cs⟩
section
variable {w : World} {K : PySem.W.Frag} {kn kn' : Kn} {H0 F0 H F : Hp} {γ : Gh} {σ : L2.St} {ρ : Ro}
theorem rsAt_kn {v : V} {r : Rs} : r.At (gdX w K kn) K F v ↔ r.At (gdX w K kn') K F v := by
  cases r with
  | dat d => exact Iff.rfl
  | scr ns => exact Iff.rfl
  | mach m => exact machAt_cm (G := gdX w K kn) (G' := gdX w K kn') rfl
  | cas c => exact caseAt_cm (G := gdX w K kn) (G' := gdX w K kn') rfl rfl
  | raw u => exact Iff.rfl
  | clo f ps cs => exact ⟨fun h => ⟨h.1, h.2.1, fun p hp => (caseAt_cm (G := gdX w K kn) (G' := gdX w K kn') rfl rfl).mp (h.2.2 p hp)⟩, fun h => ⟨h.1, h.2.1, fun p hp => (caseAt_cm (G := gdX w K kn) (G' := gdX w K kn') rfl rfl).mpr (h.2.2 p hp)⟩⟩
theorem rsAll_kn {vs : List V} {rs : List Rs} (h : RsAll (gdX w K kn) K F vs rs) : RsAll (gdX w K kn') K F vs rs := by
  induction h with
  | nil => exact .nil
  | cons a _ ih => exact .cons (rsAt_kn.mp a) ih
theorem enAt_low {K' : PySem.W.Frag} (hs : ∀ p ∈ kn.fs, p ∈ kn'.fs) {v : V} {fp : List Addr} {en : En} (h : en.At (gdX w K kn') K' F H v fp) : en.At (gdX w K kn) K' F H v fp := by
  cases en with
  | rs r =>
    refine ⟨h.1, ?_⟩
    have h2 := h.2
    cases r with
    | dat d => exact h2
    | scr ns => exact h2
    | mach m => exact (machAt_cm (G := gdX w K kn) (G' := gdX w K kn') rfl).mpr h2
    | cas c => exact (caseAt_cm (G := gdX w K kn) (G' := gdX w K kn') rfl rfl).mpr h2
    | raw u => exact h2
    | clo f ps cs => exact ⟨h2.1, h2.2.1, fun p hp => (caseAt_cm (G := gdX w K kn) (G' := gdX w K kn') rfl rfl).mpr (h2.2.2 p hp)⟩
  | own ds => exact h
  | own2 ds => exact h
  | res b od => cases od <;> exact h
  | obj ds =>
    obtain ⟨a, u, h1, h2, h3, h4, h5⟩ := h
    exact ⟨a, u, h1, h2, h3, h4, h5.1, fun p hp => h5.2 p (hs p hp)⟩
theorem enAt_up {K' : PySem.W.Frag} {v : V} {fp : List Addr} {en : En} (n : noObj en) (h : en.At (gdX w K kn) K' F H v fp) : en.At (gdX w K kn') K' F H v fp := enAt_cm (G := gdX w K kn') (G' := gdX w K kn) rfl rfl n h
theorem tab_low (hs : ∀ p ∈ kn.fs, p ∈ kn'.fs) (hc : ∀ c ∈ kn.cs, c ∈ kn'.cs) (t : (gdX w K kn').tab H) : (gdX w K kn).tab H := ⟨t.1, fun p hp => t.2.1 p (hs p hp), fun c h => t.2.2 c (hc c h)⟩
theorem Sta.low (hs : ∀ p ∈ kn.fs, p ∈ kn'.fs) (hc : ∀ c ∈ kn.cs, c ∈ kn'.cs) (S : Sta (gdX w K kn') K H0 F0 γ σ H F ρ) : Sta (gdX w K kn) K H0 F0 γ σ H F ρ := by
  obtain ⟨fs, h1, h2, h3⟩ := S.ex
  refine ⟨S.fz, S.grow, tab_low hs hc S.tab, fun p hp => rsAt_kn.mp (S.gh p hp), fs, ?_, h2, h3⟩
  clear h2 h3 S
  induction h1 with
  | nil => exact .nil
  | skip _ ih => exact .skip ih
  | cons x _ ih => exact .cons (enAt_low hs x) ih
theorem Sta.up (n : ρ.all nobO = true) (t : (gdX w K kn').tab H) (S : Sta (gdX w K kn) K H0 F0 γ σ H F ρ) : Sta (gdX w K kn') K H0 F0 γ σ H F ρ := by
  obtain ⟨fs, h1, h2, h3⟩ := S.ex
  refine ⟨S.fz, S.grow, t, fun p hp => rsAt_kn.mp (S.gh p hp), fs, ?_, h2, h3⟩
  clear h2 h3 S
  induction h1 with
  | nil => exact .nil
  | skip _ ih => exact .skip (ih (by simpa [nobO] using n))
  | @cons v e fp σ ρ fs x _ ih =>
    rw [List.all_cons, Bool.and_eq_true] at n
    refine .cons (enAt_up ?_ x) (ih n.2)
    cases e with
    | obj ds => exact absurd n.1 (by simp [nobO])
    | _ => trivial
theorem Post.low {Ex : Hp → Prop} {D : Ends} {o : Out} (hs : ∀ p ∈ kn.fs, p ∈ kn'.fs) (hc : ∀ c ∈ kn.cs, c ∈ kn'.cs) (h : Post (gdX w K kn) K Ex H0 F0 γ D o) : Post (gdX w K kn') K Ex H0 F0 γ D o := by
  cases o with
  | nx ρ' => exact fun σ H F S => h σ H F (S.low hs hc)
  | rt en => exact fun v H F n => h v H F ⟨n.fz, n.grow, tab_low hs hc n.tab, let ⟨fp, k1, k2, k3⟩ := n.at_; ⟨fp, enAt_low hs k1, k2, k3⟩⟩
  | xc => exact fun H F g z t => h H F g z (tab_low hs hc t)
end
theorem grow_of {H F H1 : Hp} (k1 : ∀ b o, H b = some o → NoTbl o → H1 b = some o) (k2 : ∀ b, H1 b = none → H b = none) : Grow H F H1 F := ⟨k1, k2, fun _ _ => rfl⟩
theorem fz_of {H F H1 : Hp} (z : Fz F H) (k1 : ∀ b o, H b = some o → NoTbl o → H1 b = some o) : Fz F H1 := fun b o e => ⟨k1 b o (z b o e).1 (z b o e).2, (z b o e).2⟩
section
variable {w : World} {K : PySem.W.Frag} {kn : Kn} {X : Cx} {Ex : Hp → Prop} {ρ : Ro} {name : Str} {params : Arguments} {scope : Scope} {pos : Pos} {W : Hp → Addr → Prop} {sts : List Stmt} {o : Out} {es : List Expr} {R : Hp → Hp → List V → Prop}
/-- def name(..): .. , then the rest, which knows of it -/
theorem xss_def {b : List Stmt} (i : Nat) (reg : Bool) (hK : X.K = K) (M : Mkr (gdX w K kn) X pos (X.env.qual ++ name) W) (hW : reg = true → ∀ H c, W H c → Reg K H c) (hfree : X.Ok → ∀ y ∈ scope.names, y.2 = .free → ∃ c, X.env.cells.lookup y.1 = some c)
    (h : ∀ f c' T', XSs (gdX w K (kn.add [(f, FnX f (MadeF X name (X.env.qual ++ name) params (.stmts b) scope c')), (c', CdX c' T' (X.env.qual ++ name))] (fun p hp => by
      simp only [List.mem_cons, List.not_mem_nil, or_false] at hp
      rcases hp with rfl | rfl
      · exact nol_FnX
      · exact ⟨fun _ z => (nomatch z), fun _ z => (nomatch z)⟩) (if reg = true then [c'] else []))) X Ex sts (ρ.set i (some (.rs (.clo f [] [])))) o)
    (nob : ρ.all nobO = true := by rfl) (hd0 : params.defaults = [] := by rfl) (hk0 : params.kw_defaults = [] := by rfl) (ha : annTrees params none X.env = [] := by rfl)
    (hN : X.N.Nodup) (hi : X.N[i]? = some name := by rfl) (hx : Loc X.env.scope name := by first | exact .inl rfl | exact .inr rfl) (hf : X.fn name = true ∨ X.env.scope.names.lookup name = some .local := by first | exact .inl rfl | exact .inr rfl) :
    XSs (gdX w K kn) X Ex (.FunctionDef name params b [] none [] scope none name pos :: sts) ρ o := fun H0 F0 γ σ H F S D q => by
  subst hK
  refine ⟨_, pss_cons (ps_defX M hfree hd0 hk0 ha hN hi hx hf) pss_s, S.tab, fun f c' T' H1 k1 k2 t1 nf h1 h2 h3 => ?_⟩
  have z1 := fz_of S.fz k1
  have S1 := S.go (grow_of k1 k2) z1 t1
  have S2 : Sta (gdX w X.K kn) X.K H0 F0 γ (σ.set i (some (.ref f))) H1 F (ρ.set i (some (.rs (.clo f [] [])))) := S1.set i (.at0 z1 t1 (r := .clo f [] []) ⟨rfl, fun _ h => (nomatch h), fun _ h => nomatch h⟩)
  refine h f c' T' H0 F0 γ _ H1 F (S2.up ?_ ⟨t1.1, fun p hp => ?_, fun c hc => ?_⟩) D (Post.low (fun p hp => List.mem_append_right _ hp) (fun c hc => List.mem_append_right _ hc) q)
  · rw [List.all_eq_true] at nob ⊢
    intro e he
    rcases List.mem_or_eq_of_mem_set he with z | z
    · exact nob e z
    · rw [z]; rfl
  · rcases List.mem_append.mp hp with z | z
    · simp only [List.mem_cons, List.not_mem_nil, or_false] at z
      rcases z with rfl | rfl
      · exact h1
      · exact h2
    · exact t1.2.1 p z
  · rcases List.mem_append.mp hc with z | z
    · cases reg with
      | true =>
        rw [if_pos rfl] at z
        rw [List.mem_singleton.mp z]
        exact hW rfl _ _ h3
      | false => cases z
    · exact t1.2.2 c z
/-- a lambda among the arguments -/
theorem xaf_lam {e : Expr} (hK : X.K = K) (M : Mkr (gdX w K kn) X pos (X.env.qual ++ "<lambda>") W) (hfree : X.Ok → ∀ y ∈ scope.names, y.2 = .free → ∃ c, X.env.cells.lookup y.1 = some c) (hR : ∀ vs H F H' F', Fz F H → Grow H F H' F' → R F H vs → R F' H' vs) (ha : XAf (gdX w K kn) X es ρ R) (hdef : defaultsOf params X.env = ([], []) := by rfl)
    (hst : starEach (.Lambda params e scope pos :: es) X.env = (false, eval (.Lambda params e scope pos) X.env) :: starEach es X.env := by rfl) :
    XAf (gdX w K kn) X (.Lambda params e scope pos :: es) ρ (fun F H vs => ∃ f c' T' vs', vs = .ref f :: vs' ∧ H f = some (FnX f (MadeF X "<lambda>" (X.env.qual ++ "<lambda>") params (.expr e) scope c')) ∧ H c' = some (CdX c' T' (X.env.qual ++ "<lambda>")) ∧ R F H vs') := by
  subst hK
  obtain ⟨t, p1, p2⟩ := ha
  refine ⟨_, pa_cons (pe_lamX M hfree hdef) p1 hst, fun H0 F0 γ σ H F S Q q => ⟨S.tab, fun f c' T' H1 k1 k2 t1 nf h1 h2 h3 => ?_⟩⟩
  have z1 := fz_of S.fz k1
  have g1 := grow_of (F := F) k1 k2
  exact p2 _ _ _ _ _ _ (S.go g1 z1 t1) _ fun vs H2 F2 g z t a => q _ _ _ (g1.trans g) z t ⟨f, c', T', vs, rfl, g.keep _ _ h1 nt_FnX, g.keep _ _ h2 nt_CdX, a⟩
end
/-! ### what the frame's tables give -/
theorem mkrE {P : Program} {w : World} {K : PySem.W.Frag} {mg : Str → Option Value} {base : Heap} {kn : Kn} {X : Cx} {pos : Pos} (T : Wt K mg base) (hb : X.base = base) (hm : X.mg = mg) (hc : X.env.code = .ref (He.cT K ("first_end", none)).1) : Mkr (gdX w K kn) X pos qE (fun _ _ => True) := by
  have tb := T.tb ("first_end", none) (by decide +kernel)
  subst hb hm
  refine ⟨⟨_, tb.bm⟩, fun pins σ H s I t => ?_, fun _ _ _ _ _ => trivial⟩
  obtain ⟨ps, h1, h2, h3⟩ := t.1.e
  exact ⟨_, tabE K, ps, hc, tb.code.keeps I.bk, h1, h2, fun cv h => let ⟨c, T', e1, e2⟩ := h3 pos cv h; ⟨c, e1, ⟨T', e2⟩, trivial⟩, fun _ H2 c' T' x => ⟨tabX_of t x (tabs_e t.1 x), trivial⟩⟩
theorem mkrF {P : Program} {w : World} {K : PySem.W.Frag} {mg : Str → Option Value} {base : Heap} {kn : Kn} {X : Cx} {pos : Pos} {q : Str} (T : Wt K mg base) (hb : X.base = base) (hm : X.mg = mg) (hc : X.env.code = .ref (He.cT K ("first_polling_harm", none)).1) (hq : nmF pos.line pos.col = q) (b : Bool) (hp : b = true → pos = posF) :
    Mkr (gdX w K kn) X pos q (fun H c => b = true → Reg K H c) := by
  have tb := T.tb ("first_polling_harm", none) (by decide +kernel)
  subst hb hm
  refine ⟨⟨_, tb.bm⟩, fun pins σ H s I t => ?_, fun H H' c h e r => (h r).go fun _ _ q => e _ _ q fun _ z => (nomatch z)⟩
  obtain ⟨ps, h1, h2, h3⟩ := t.1.f
  refine ⟨_, tabF K, ps, hc, tb.code.keeps I.bk, h1, h2, fun cv h => ?_, fun hn H2 c' T' x => ⟨tabX_of t x (tabs_f t.1 hq x), fun r => ?_⟩⟩
  · obtain ⟨c, T', e1, e2, _⟩ := h3 pos cv h
    refine ⟨c, e1, ⟨T', hq ▸ e2⟩, fun r => ⟨ps, h1, ?_⟩⟩
    rw [← hp r, h, e1]
  · have := hp r
    subst this
    exact reg_f x h2 hn
theorem mkrN {P : Program} {w : World} {K : PySem.W.Frag} {mg : Str → Option Value} {base : Heap} {kn : Kn} {X : Cx} {pos : Pos} {c : Addr} (T : Wt K mg base) (hb : X.base = base) (hm : X.mg = mg) (hc : X.env.code = .ref c) (hk : c ∈ kn.cs) : Mkr (gdX w K kn) X pos qN (fun _ _ => True) := by
  have tb := T.tb ("first_end", none) (by decide +kernel)
  subst hb hm
  refine ⟨⟨_, tb.bm⟩, fun pins σ H s I t => ?_, fun _ _ _ _ _ => trivial⟩
  obtain ⟨qs, r1, r2⟩ := t.2.2 c hk
  obtain ⟨qs', h1, h2, h3⟩ := t.1.f
  rw [r1] at h1
  cases h1
  obtain ⟨c0, T0, e1, e2, e3⟩ := h3 posF _ r2
  cases e1
  have fp : flF posF.line posF.col = true := by simp [flF]
  obtain ⟨t1, nT⟩ := e3 fp
  obtain ⟨ps, k1, k2, k3⟩ := id t1
  exact ⟨c, T0, ps, hc, (cdX_at I.hok e2).2, k1, k2, fun cv h => let ⟨c, T', e1, e2⟩ := k3 pos cv h; ⟨c, e1, ⟨T', e2⟩, trivial⟩, fun _ H2 c' T' x => ⟨tabX_of t x (tabs_n t.1 nT t1 x), trivial⟩⟩
/-! ### the made function holds what the frame's cells hold -/
theorem shown_get {X : Cx} {σ : L2.St} : ∀ {js : List (Str × Nat)} {L : List (Addr × Obj)} {vs : List V}, ShownAt X σ js L vs → vs.length = js.length ∧ ∀ (i : Nat) (y : Str) (j : Nat), js[i]? = some (y, j) → ∃ a o v u, X.env.cells.lookup y = some a ∧ (a, o) ∈ L ∧ vs[i]? = some v ∧ σ[j]? = some (some v) ∧ RelV v u ∧ o.data = .cell (some u)
  | _, _, _, .nil => ⟨rfl, fun i y j h => by simp at h⟩
  | _, _, _, .cons h1 h2 h3 h4 t => by
    obtain ⟨e, k⟩ := shown_get t
    refine ⟨by rw [List.length_cons, List.length_cons, e], fun i y j h => ?_⟩
    cases i with
    | zero =>
      rw [List.getElem?_cons_zero] at h
      cases h
      exact ⟨_, _, _, _, h1, List.mem_cons_self .., rfl, h2, h3, h4⟩
    | succ i =>
      rw [List.getElem?_cons_succ] at h
      obtain ⟨a, o, v, u, k1, k2, k3, k4, k5, k6⟩ := k i y j h
      exact ⟨a, o, v, u, k1, List.mem_cons_of_mem _ k2, k3, k4, k5, k6⟩
theorem shown_cell {X : Cx} {σ : L2.St} : ∀ {js : List (Str × Nat)} {L : List (Addr × Obj)} {vs : List V}, ShownAt X σ js L vs → ∀ p ∈ L, ∃ u, p.2.data = .cell (some u)
  | _, _, _, .nil, _, h => nomatch h
  | _, _, _, .cons _ _ _ h4 t, p, h => (List.mem_cons.mp h).elim (fun e => by rw [e]; exact ⟨_, h4⟩) (shown_cell t p)
theorem heldX_made {G : Gd} {X : Cx} {σ : L2.St} {js : List (Str × Nat)} {L : List (Addr × Obj)} {vs : List V} {name qual : Str} {params : Arguments} {body : FuncBody} {scope : Scope} {c' T' f : Addr} {fr : List Str} (ok : X.Ok) (sh : ShownAt X σ js L vs) (hfr : fr = js.map (·.1))
    (hfree : ∀ y ∈ scope.names, y.2 = .free → y.1 ∈ fr) (hfr2 : ∀ y ∈ fr, (y, NameKind.free) ∈ scope.names) (hf : ∀ H, G.tab H → H f = some (FnX f (MadeF X name qual params body scope c')) ∧ H c' = some (CdX c' T' qual)) (hL : ∀ H, G.tab H → ∀ p ∈ L, H p.1 = some (SetX p.1 p.2)) :
    HeldX G (MadeF X name qual params body scope c') f fr (adr L) vs := by
  obtain ⟨len, get⟩ := shown_get sh
  have cell := shown_cell sh
  have at_ : ∀ y ∈ fr, ∃ a o, X.env.cells.lookup y = some a ∧ (a, o) ∈ L := fun y hy => by
    rw [hfr] at hy
    obtain ⟨p, hp, rfl⟩ := List.mem_map.mp hy
    obtain ⟨i, hi⟩ := List.mem_iff_getElem?.mp hp
    obtain ⟨a, o, v, u, k1, k2, _⟩ := get i p.1 p.2 hi
    exact ⟨a, o, k1, k2⟩
  have hfr3 : ∀ y ∈ scope.names, y.2 = .free → ∃ c, X.env.cells.lookup y.1 = some c := fun y hy e => let ⟨a, _, k, _⟩ := at_ _ (hfree y hy e); ⟨a, k⟩
  refine ⟨fun H t => ⟨(hf H t).1, T', (hf H t).2⟩, by rw [len, hfr, List.length_map], fun y a e => ?_, fun x y a e1 e2 => ok.inj x y a (NdefX.clo_cm hfr3 e1) (NdefX.clo_cm hfr3 e2), fun a ha => ?_, fun i y hi => ?_⟩
  · have e := show (L2.cloFrom X.env.cells scope.names []).lookup y = some a from e
    rcases cloFrom_mem (PySem.mem_of_lookup e) with m | ⟨m, _⟩
    · cases m
    · obtain ⟨a', o, k1, k2⟩ := at_ y (hfree _ m rfl)
      rw [NdefX.clo_cm hfr3 e] at k1
      cases k1
      exact List.mem_map.mpr ⟨_, k2, rfl⟩
  · obtain ⟨p, hp, rfl⟩ := List.mem_map.mp ha
    obtain ⟨u, hu⟩ := cell p hp
    exact ⟨p.2, u, hu, fun H t => hL H t p hp⟩
  · have hy := List.mem_of_getElem? hi
    rw [hfr, List.getElem?_map] at hi
    cases e : js[i]? with
    | none => rw [e] at hi; cases hi
    | some p =>
      rw [e] at hi
      cases hi
      obtain ⟨a, o, v, u, k1, k2, k3, k4, k5, k6⟩ := get i p.1 p.2 e
      exact ⟨a, v, u, o, NdefX.clo_has hfr3 (hfr2 _ hy) k1, List.mem_map.mpr ⟨_, k2, rfl⟩, k3, k5, k6, fun H t => hL H t _ k2⟩
/-- what is known within such a function -/
theorem asideX_of {P : Program} {w : World} {K : PySem.W.Frag} {kn kn' : Kn} {L : List (Addr × Obj)} (hs : ∀ p ∈ kn.fs, p ∈ kn'.fs) (hc : ∀ c ∈ kn.cs, c ∈ kn'.cs) (hL : ∀ p ∈ L, (p.1, SetX p.1 p.2) ∈ kn'.fs) (hcell : ∀ p ∈ L, ∃ u, p.2.data = .cell (some u)) (hn : ∀ p ∈ kn.fs, p.1 ∉ adr L) : AsideX P w (gdX w K kn) (gdX w K kn') (adr L) where
  sub := subT_gdX hs hc
  ext := fun H t => ext1_of fun p hp => t.2.1 _ (hL p hp)
  tab := fun H h hok t => by
    have x : Ext1 H (adr L) := ext1_of fun p hp => t.2.1 _ (hL p hp)
    have tb : ∀ T ps, H T = some (.tbl ps) → dele H (adr L) T = some (.tbl ps) := fun T ps e => by
      rw [dele_out fun m => ?_]
      · exact e
      · obtain ⟨φ, q⟩ := x T m
        rw [e] at q
        cases q
    refine ⟨t.1.go (fun c T q e => ?_) tb, fun p hp => by rw [dele_out (hn p hp)]; exact t.2.1 p (hs p hp), fun c h => (t.2.2 c (hc c h)).go tb⟩
    rw [dele_out fun m => ?_]
    · exact e
    · obtain ⟨p, hp, rfl⟩ := List.mem_map.mp m
      obtain ⟨u, hu⟩ := hcell p hp
      obtain ⟨⟨_, oc, _, _, q0, ho, hd, _⟩, _⟩ := cdX_at hok e
      cases q0
      rw [setX_at hok (t.2.1 _ (hL p hp))] at ho
      cases ho
      rw [hu] at hd
      cases hd
end LC
namespace LC
open PySem PySem.Spec PyProof.Rows L2

/-! ### at a call that shows cells -/
section
variable {G : Gd} {X : Cx} {Ex : Hp → Prop} {ρ ρ' : Ro} {e : Expr} {es : List Expr} {p pos pos' : Pos} {x : Str} {R : Hp → Hp → List V → Prop} {oe : Option En} {f : Addr} {or : Option Rs} {tg : Expr} {is : List Nat}
/-- return x(..) -/
theorem xs_retO (js : List (Str × Nat)) (hjs : ∀ p ∈ js, X.N[p.2]? = some p.1 ∧ X.env.scope.names.lookup p.1 = some .cell ∧ X.fn p.1 = true ∧ ∃ r : Rs, ρ[p.2]? = some (some (En.rs r))) (tk : oe = none → Tk X Ex) (hm : X.mg x = some (.ref f)) (hk : PySem.W.keepIn X.K (.ref f) = true)
    (ha : XAf G X (e :: es) ρ R)
    (hcall : ∀ σ L vs0 H1 F1 vs, X.Ok → ShownAt X σ js L vs0 → (∀ p ∈ L, H1 p.1 = none) → (∀ p ∈ L, showL H1 L p.1 = some (SetX p.1 p.2)) → (∀ (i : Nat) (r : Rs), ρ[i]? = some (some (En.rs r)) → ∃ v, σ[i]? = some (some v) ∧ r.At G X.K F1 v) → Fz F1 H1 → G.tab H1 → R F1 H1 vs → CalleeO G X x L H1 F1 vs oe)
    (hg : Gl X x := by rfl) (hdb : (x == ("__debug__" : Str)) = false := by decide)
    (he : starEach (e :: es) X.env = (false, eval e X.env) :: starEach es X.env := by rfl) (hpl : (backTo pos (starEach es X.env)).any (·.1) = false := by rfl) :
    XS G X Ex (.Return (some (.Call (.Name x p) (e :: es) [] pos)) pos') ρ (match oe with | some en => .rt en | none => .xc) := fun H0 F0 γ σ H F S D q => by
  obtain ⟨t, h1, h2⟩ := pe_callO (p := p) (pos := pos) js hjs tk hm hk ha hcall hg hdb he hpl
  refine ⟨_, ps_ret h1, h2 _ _ _ _ _ _ S _ (fun en e v H' F' m => ?_) fun e H' F' g z t => ?_⟩
  · subst e
    exact q v H' F' (.from S.grow m)
  · subst e
    exact q H' F' g z t
/-- target = x(..) -/
theorem xs_asgO (js : List (Str × Nat)) (hjs : ∀ p ∈ js, X.N[p.2]? = some p.1 ∧ X.env.scope.names.lookup p.1 = some .cell ∧ X.fn p.1 = true ∧ ∃ r : Rs, ρ[p.2]? = some (some (En.rs r))) (tk : or = none → Tk X Ex) (hm : X.mg x = some (.ref f)) (hk : PySem.W.keepIn X.K (.ref f) = true)
    (ha : XAf G X (e :: es) ρ R)
    (hcall : ∀ σ L vs0 H1 F1 vs, X.Ok → ShownAt X σ js L vs0 → (∀ p ∈ L, H1 p.1 = none) → (∀ p ∈ L, showL H1 L p.1 = some (SetX p.1 p.2)) → (∀ (i : Nat) (r : Rs), ρ[i]? = some (some (En.rs r)) → ∃ v, σ[i]? = some (some v) ∧ r.At G X.K F1 v) → Fz F1 H1 → G.tab H1 → R F1 H1 vs → CalleeO G X x L H1 F1 vs (or.map En.rs))
    (hgo : ∀ r, or = some r → XGo G X tg r ρ ρ' is) (hg : Gl X x := by rfl) (hdb : (x == ("__debug__" : Str)) = false := by decide)
    (he : starEach (e :: es) X.env = (false, eval e X.env) :: starEach es X.env := by rfl) (hpl : (backTo pos (starEach es X.env)).any (·.1) = false := by rfl)
    (hs : swapsWithSole [tg] (.Call (.Name x p) (e :: es) [] pos) pos'.line X.env = pure false := by rfl) (hw : swappedStores [tg] (.Call (.Name x p) (e :: es) [] pos) X.env = pure none := by rfl)
    (h1' : (assignEach [tg] X.env).map (·.2) = [assign tg X.env] := by rfl) : XS G X Ex (.Assign [tg] (.Call (.Name x p) (e :: es) [] pos) pos') ρ (match or with | some _ => .nx ρ' | none => .xc) := fun H0 F0 γ σ H F S D q => by
  obtain ⟨t, h1, h2⟩ := pe_callO (p := p) (pos := pos) (oe := or.map En.rs) js hjs (fun z => tk (by cases or with | none => rfl | some r => cases z)) hm hk ha hcall hg hdb he hpl
  refine ⟨_, ps_asg h1 pg_s hs hw (h1 := h1'), h2 _ _ _ _ _ _ S _ (fun en e v H' F' m => ?_) fun e H' F' g z t => ?_⟩
  · cases or with
    | none => cases e
    | some r =>
      cases e
      exact hgo r rfl _ _ _ _ _ _ (S.nx m) v m.rsAt _ fun σ' S' _ => q _ _ _ S'
  · cases or with
    | some r => cases e
    | none => exact q H' F' g z t
end
abbrev facts (L : List (Addr × Obj)) : List (Addr × HO) := L.map fun p => (p.1, SetX p.1 p.2)
theorem nol_facts {L : List (Addr × Obj)} {fs : List (Addr × HO)} (h : ∀ p ∈ fs, NoL p.2) : ∀ p ∈ facts L ++ fs, NoL p.2 := fun p hp => by
  rcases List.mem_append.mp hp with z | z
  · obtain ⟨q, _, rfl⟩ := List.mem_map.mp z
    exact nol_SetX
  · exact h p z
theorem tabX_show {w : World} {K : PySem.W.Frag} {kn : Kn} {H : Hp} {L : List (Addr × Obj)} {fs : List (Addr × HO)} {hn : ∀ p ∈ facts L ++ fs, NoL p.2} (t : (gdX w K kn).tab H) (n : ∀ p ∈ L, H p.1 = none) (sg : ∀ p ∈ L, showL H L p.1 = some (SetX p.1 p.2)) (hf : ∀ p ∈ fs, H p.1 = some p.2) : (gdX w K (kn.add (facts L ++ fs) hn [])).tab (showL H L) := by
  refine ⟨t.1.go (fun _ _ _ e => (showL_some n e).2) fun _ _ e => (showL_some n e).2, fun p hp => ?_, fun c hc => ?_⟩
  · rcases List.mem_append.mp hp with z | z
    · rcases List.mem_append.mp z with z | z
      · obtain ⟨q, hq, rfl⟩ := List.mem_map.mp z
        exact sg q hq
      · exact (showL_some n (hf p z)).2
    · exact (showL_some n (t.2.1 p z)).2
  · exact (t.2.2 c hc).go fun _ _ e => (showL_some n e).2
theorem aside_show {P : Program} {w : World} {K : PySem.W.Frag} {kn : Kn} {H : Hp} {L : List (Addr × Obj)} {fs : List (Addr × HO)} {hn : ∀ p ∈ facts L ++ fs, NoL p.2} (t : (gdX w K kn).tab H) (n : ∀ p ∈ L, H p.1 = none) (hcell : ∀ p ∈ L, ∃ u, p.2.data = .cell (some u)) : AsideX P w (gdX w K kn) (gdX w K (kn.add (facts L ++ fs) hn [])) (adr L) :=
  asideX_of (fun p hp => List.mem_append_right _ hp) (fun c hc => hc) (fun p hp => List.mem_append_left _ (List.mem_append_left _ (List.mem_map.mpr ⟨p, hp, rfl⟩))) hcell fun p hp m => by
    obtain ⟨q, hq, e⟩ := List.mem_map.mp m
    have := t.2.1 p hp
    rw [← e, n q hq] at this
    cases this
theorem callee_show {w : World} {K : PySem.W.Frag} {kn : Kn} {X : Cx} {x : Str} {H F : Hp} {L : List (Addr × Obj)} {fs : List (Addr × HO)} {hn : ∀ p ∈ facts L ++ fs, NoL p.2} {vs : List V} {oe : Option En} {k m : Nat} {Φ : List Rs → Option En → Prop} {rs : List Rs} (hw : X.w = w) (hK : X.K = K) (t : (gdX w K kn).tab H) (n : ∀ p ∈ L, H p.1 = none) (sg : ∀ p ∈ L, showL H L p.1 = some (SetX p.1 p.2)) (hcell : ∀ p ∈ L, ∃ u, p.2.data = .cell (some u)) (hf : ∀ p ∈ fs, H p.1 = some p.2)
    (hF : FnE (gdX w K (kn.add (facts L ++ fs) hn [])) X.prog X.w X.K X.mg X.base k x m Φ) (hr : Room k X.A) (hφ : Φ rs oe) (hl : rs.length = m) (ha : RsAll (gdX w K kn) X.K F vs rs) (ne : ∀ en, oe = some en → noObj en) : CalleeO (gdX w K kn) X x L H F vs oe := by
  subst hw hK
  exact ⟨gdX X.w X.K (kn.add (facts L ++ fs) hn []), k, m, Φ, rs, hF, hr, hφ, hl, rsAll_kn ha, rfl, rfl, tabX_show t n sg hf, fun H' h' hok t' x => (aside_show (P := X.prog) (hn := hn) t n hcell).tab H' h' hok t', ne⟩
end LC
namespace LC
open PySem PySem.Spec PyProof.Rows L2

/-! ### breadth first -/
noncomputable instance : DecidableEq Sc := fun _ _ => Classical.propDecidable _
inductive Fnd where
  | large
  | found (k : List Nd)
  | go (k : List Nd)
noncomputable def visF (isE : Sc → Bool) (i : Nat) : List (Ev × Option Sc) → List Nd → Fnd
  | [], kept => .go kept
  | (_, none) :: _, _ => .large
  | (e, some s) :: l, kept => if s ∈ kept.map (·.1) then visF isE i l kept else if kept.length = 1000 then .large else if isE s = true then .found (kept ++ [(s, i, some e)]) else visF isE i l (kept ++ [(s, i, some e)])
noncomputable def bfsF (fo : Sc → List (Ev × Option Sc)) (isE : Sc → Bool) : Nat → Nat → List Nd → Fnd
  | 0, _, kept => .go kept
  | n + 1, i, kept => if i < kept.length then (match visF isE i (fo (kept.getD i ndD).1) kept with
      | .large => .large
      | .found k => .found k
      | .go k => bfsF fo isE n (i + 1) k) else .go kept
noncomputable def exploreF (fo : Sc → List (Ev × Option Sc)) (isE : Sc → Bool) (s : Sc) : Fnd := bfsF fo isE 1001 0 [(s, 0, none)]
abbrev eEv (p : Ev × Option Sc) : PyData := .tuple [eE p.1, eSo p.2]
def eFnd : Fnd → Option Rs
  | .large => none
  | .found k => some (.dat (.tuple [.list (k.map eN), .int ((k.length : Int) - 1)]))
  | .go k => some (.dat (.tuple [.list (k.map eN), .none]))
theorem keyedAll_map {α : Type} (f : α → PyData) (h : ∀ a, keyed (f a) = true) : ∀ l : List α, keyedAll (l.map f) = true
  | [] => rfl
  | a :: l => by rw [List.map_cons, keyedAll, h a, keyedAll_map f h l]; rfl
theorem keyed_eF (c : Cf) : keyed (eF c) = true := by
  simp only [eF, keyed, keyedAll, keyedAll_map PyData.int (fun _ => rfl), Bool.and_self, Bool.and_true]
theorem keyed_eD (d : Df) : keyed (eD d) = true := by
  simp only [eD, keyed, keyedAll, keyedAll_map PyData.str (fun _ => rfl), Bool.and_self, Bool.and_true]
theorem keyed_eSc (s : Sc) : keyed (eSc s) = true := by
  have h1 : keyed (eFo s.snd) = true := by
    cases s.snd with
    | none => rfl
    | some c => exact keyed_eF c
  have h2 := keyed_eF s.a
  have h3 := keyed_eF s.b
  simp only [eSc, keyed, keyedAll, h1, h2, h3, eQ, keyedAll_map PyData.str (fun _ => rfl), keyedAll_map PyData.int (fun _ => rfl), keyedAll_map eD keyed_eD, Bool.and_self, Bool.and_true]
theorem lfs_map {α : Type} (f : α → PyData) (h : ∀ a, lf (f a) = true) : ∀ l : List α, lf.lfs (l.map f) = true
  | [] => rfl
  | a :: l => by rw [List.map_cons, lf.lfs, h a, lfs_map f h l]; rfl
theorem lf_eF (c : Cf) : lf (eF c) = true := by
  simp only [eF, lf, lf.lfs, lfs_map PyData.int (fun _ => rfl), Bool.and_self, Bool.and_true]
theorem lf_eD (d : Df) : lf (eD d) = true := by
  simp only [eD, lf, lf.lfs, lfs_map PyData.str (fun _ => rfl), Bool.and_self, Bool.and_true]
theorem lf_eSc (s : Sc) : lf (eSc s) = true := by
  have h1 : lf (eFo s.snd) = true := by
    cases s.snd with
    | none => rfl
    | some c => exact lf_eF c
  have h2 := lf_eF s.a
  have h3 := lf_eF s.b
  simp only [eSc, lf, lf.lfs, h1, h2, h3, eQ, lfs_map PyData.str (fun _ => rfl), lfs_map PyData.int (fun _ => rfl), lfs_map eD lf_eD, Bool.and_self, Bool.and_true]
theorem map_inj' {α : Type} {f : α → PyData} (h : ∀ a b, f a = f b → a = b) : ∀ {l m : List α}, l.map f = m.map f → l = m
  | [], [], _ => rfl
  | [], _ :: _, e => by simp at e
  | _ :: _, [], e => by simp at e
  | a :: l, b :: m, e => by
    simp only [List.map_cons, List.cons.injEq] at e
    rw [h a b e.1, map_inj' h e.2]
theorem eF_inj {a b : Cf} (h : eF a = eF b) : a = b := by
  obtain ⟨a1, a2⟩ := a
  obtain ⟨b1, b2⟩ := b
  simp only [eF, PyData.tuple.injEq, List.cons.injEq, PyData.int.injEq, and_true] at h
  rw [h.1, map_inj' (fun a b e => by simpa using e) h.2]
theorem eD_inj {a b : Df} (h : eD a = eD b) : a = b := by
  obtain ⟨a1, a2⟩ := a
  obtain ⟨b1, b2⟩ := b
  simp only [eD, PyData.tuple.injEq, List.cons.injEq, and_true] at h
  rw [map_inj' (fun a b e => by simpa using e) h.1, map_inj' (fun a b e => by simpa using e) h.2]
theorem eFo_inj {a b : Option Cf} (h : eFo a = eFo b) : a = b := by
  cases a <;> cases b
  · rfl
  · cases h
  · cases h
  · rw [eF_inj h]
theorem eSc_inj {a b : Sc} (h : eSc a = eSc b) : a = b := by
  obtain ⟨a1, a2, a3, a4, a5, a6⟩ := a
  obtain ⟨b1, b2, b3, b4, b5, b6⟩ := b
  simp only [eSc, eQ, PyData.tuple.injEq, List.cons.injEq, and_true] at h
  obtain ⟨h1, ⟨h2, h3⟩, h4, h5, h6⟩ := h
  cases eFo_inj h1
  cases map_inj' (fun a b e => by simpa using e) h2
  cases h3
  cases eF_inj (show eF a4 = eF b4 by simp only [eF, PyData.tuple.injEq, List.cons.injEq, and_true]; exact h4)
  cases eF_inj (show eF a5 = eF b5 by simp only [eF, PyData.tuple.injEq, List.cons.injEq, and_true]; exact h5)
  cases map_inj' (fun a b e => eD_inj e) h6
  rfl
theorem depth_all {n : Nat} {l : List NestedKey} (h : ∀ k ∈ l, k.depth ≤ n) : NestedKey.depthAll l ≤ n := by
  induction l with
  | nil => simp [NestedKey.depthAll]
  | cons k l ih =>
    have h1 := h k (List.mem_cons_self ..)
    have h2 := ih fun x hx => h x (List.mem_cons_of_mem _ hx)
    simp only [NestedKey.depthAll]
    omega
theorem keysD_map {α : Type} (f : α → PyData) : ∀ l : List α, keysD (l.map f) = l.map fun a => keyD (f a)
  | [] => rfl
  | a :: l => by rw [List.map_cons, keysD, keysD_map f l, List.map_cons]
def KOk (SOk : Nat → Sc → Prop) (kept : List Nd) : Prop := ∀ j nd, kept[j]? = some nd → SOk j nd.1
theorem visF_ok {isE : Sc → Bool} {SOk : Nat → Sc → Prop} (hM : ∀ d s, SOk d s → SOk (d + 1) s) {i : Nat} : ∀ (l : List (Ev × Option Sc)) (kept k2 : List Nd), visF isE i l kept = .go k2 → (∀ p ∈ l, ∀ t, p.2 = some t → SOk (i + 1) t) → KOk SOk kept → i < kept.length → kept.length ≤ 1000 → kept.length ≤ k2.length ∧ k2.length ≤ 1000 ∧ KOk SOk k2
  | [], kept, k2, h, _, h2, _, h3 => by
    rw [visF] at h
    cases h
    exact ⟨Nat.le_refl _, h3, h2⟩
  | (e, none) :: l, kept, k2, h, _, _, _, _ => by rw [visF] at h; cases h
  | (e, some s) :: l, kept, k2, h, h1, h2, hi, h3 => by
    have h1' : ∀ p ∈ l, ∀ t, p.2 = some t → SOk (i + 1) t := fun p hp => h1 p (List.mem_cons_of_mem _ hp)
    rw [visF] at h
    split at h
    · exact visF_ok hM l kept k2 h h1' h2 hi h3
    · split at h
      · cases h
      · split at h
        · cases h
        · obtain ⟨a, b, c⟩ := visF_ok hM l _ k2 h h1' (fun j nd hnd => by
            by_cases hj : j < kept.length
            · rw [List.getElem?_append_left hj] at hnd
              exact h2 j nd hnd
            · rw [List.getElem?_append_right (by omega)] at hnd
              have e2 : nd = (s, i, some e) := by
                cases hq : j - kept.length with
                | zero => rw [hq] at hnd; exact (Option.some.inj hnd).symm
                | succ q => rw [hq] at hnd; simp at hnd
              rw [e2]
              have up : ∀ q, SOk (i + 1 + q) s := fun q => by
                induction q with
                | zero => exact h1 _ (List.mem_cons_self ..) s rfl
                | succ q ih => exact hM _ _ ih
              have := up (j - (i + 1))
              rwa [show i + 1 + (j - (i + 1)) = j from by omega] at this) (by rw [List.length_append, List.length_singleton]; omega) (by rw [List.length_append, List.length_singleton]; omega)
          rw [List.length_append, List.length_singleton] at a
          exact ⟨by omega, b, c⟩
theorem mem_keep {kept : List Nd} {s : Sc} : eSc s ∈ (kept.map fun n => eSc n.1).reverse ↔ s ∈ kept.map (·.1) := by
  rw [List.mem_reverse, List.mem_map, List.mem_map]
  constructor
  · rintro ⟨n, h1, h2⟩
    exact ⟨n, h1, eSc_inj h2⟩
  · rintro ⟨n, h1, h2⟩
    exact ⟨n, h1, by rw [h2]⟩
theorem depth_map {α : Type} (f : α → PyData) (n : Nat) (h : ∀ a, (keyD (f a)).depth ≤ n) (l : List α) : NestedKey.depthAll (keysD (l.map f)) ≤ n := by
  rw [keysD_map]
  refine depth_all fun k hk => ?_
  obtain ⟨a, _, rfl⟩ := List.mem_map.mp hk
  exact h a
theorem depth_str (l : List Str) : NestedKey.depthAll (keysD (dS l)) ≤ 1 := depth_map _ _ (fun _ => by simp [keyD, NestedKey.depth]) l
theorem depth_int (l : List Int) : NestedKey.depthAll (keysD (dI l)) ≤ 1 := depth_map _ _ (fun _ => by simp [keyD, NestedKey.depth]) l
theorem depth_eF (c : Cf) : (keyD (eF c)).depth ≤ 3 := by
  have := depth_int c.2
  simp only [eF, keyD, keysD, NestedKey.depth, NestedKey.depthAll]
  omega
theorem depth_eD (c : Df) : (keyD (eD c)).depth ≤ 3 := by
  have h1 := depth_str c.1
  have h2 := depth_str c.2
  simp only [eD, keyD, keysD, NestedKey.depth, NestedKey.depthAll]
  omega
theorem depth_eSc (s : Sc) : (keyD (eSc s)).depth ≤ 8 := by
  have h0 : (keyD (eFo s.snd)).depth ≤ 3 := by
    cases s.snd with
    | none => simp [eFo, keyD, NestedKey.depth]
    | some c => exact depth_eF c
  have h1 := depth_eF s.a
  have h2 := depth_eF s.b
  have h3 := depth_str s.wait
  have h4 := depth_map eD 3 depth_eD s.ds
  have e : (keyD (eSc s)).depth = NestedKey.depthAll [keyD (eFo s.snd), .tup [.tup (keysD (dS s.wait)), .num s.phase], keyD (eF s.a), keyD (eF s.b), .tup (keysD (s.ds.map eD))] + 1 := by
    simp only [eSc, keyD, keysD, NestedKey.depth]
  rw [e]
  simp only [NestedKey.depth, NestedKey.depthAll] at *
  omega
section
variable {P : Program} {w : World} {K : PySem.W.Frag} {mg : Str → Option Value} {base : Heap}
theorem sc_explore : FnScope ["first", "follow", "is_end", "kept", "seen", "at", "event", "scene"] ["first", "follow", "is_end"] (defScope s_explore) := ⟨rfl, rfl, rfl, by decide +kernel, rfl, by decide +kernel, by decide +kernel⟩
abbrev xW : Expr := match s_explore with | .FunctionDef _ _ (_ :: _ :: _ :: _ :: .While c _ _ _ :: _) _ _ _ _ _ _ _ => c | _ => .Constant .none 0 default
abbrev xB : List Stmt := match s_explore with | .FunctionDef _ _ (_ :: _ :: _ :: _ :: .While _ b _ _ :: _) _ _ _ _ _ _ _ => b | _ => []
abbrev xL : List Stmt := match s_explore with | .FunctionDef _ _ (_ :: _ :: _ :: _ :: .While _ (.For _ _ b _ _ :: _) _ _ :: _) _ _ _ _ _ _ _ => b | _ => []
abbrev xG : List Stmt := match s_explore with | .FunctionDef _ _ (_ :: _ :: _ :: _ :: .While _ (.For _ _ [_, .If _ l _ _] _ _ :: _) _ _ :: _) _ _ _ _ _ _ _ => l | _ => []
abbrev xD : List Stmt := match s_explore with | .FunctionDef _ _ (_ :: _ :: _ :: _ :: .While _ (.For _ _ [_, .If _ [_, _, _, d] _ _] _ _ :: _) _ _ :: _) _ _ _ _ _ _ _ => [d] | _ => []
abbrev xP : List Stmt := match s_explore with | .FunctionDef _ _ (a :: b :: c :: d :: _) _ _ _ _ _ _ _ => [a, b, c, d] | _ => []
theorem tk_raises (T : Wd K mg) {X : Cx} (hK : X.K = K := by rfl) : L2.Raises X (TLc X.K) := by
  subst hK
  obtain ⟨_, _, h1, h2⟩ := He.exc_ok (T.fact _ (List.mem_of_getElem? (show fa[85]? = some (.exc "TooLarge") from rfl)))
  exact raises_own h1 h2
theorem C_explore (T : Wd K mg) {kn : Kn} {k : Nat} {f g : Addr} {pf pg : List (V × PyData)} {cf cg : List (V × CaseD)} {fo : Sc → List (Ev × Option Sc)} {isE : Sc → Bool} {SOk : Nat → Sc → Prop}
    (HF : FnV (gdX w K kn) P w K mg base k f (.clo f pf cf) 1 (fun rs en => ∃ s d, d < 1000 ∧ SOk d s ∧ rs = [.dat (eSc s)] ∧ en = .own ((fo s).map eEv)))
    (HG : FnV (gdX w K kn) P w K mg base k g (.clo g pg cg) 1 (fun rs en => ∃ s d, d ≤ 1000 ∧ SOk d s ∧ rs = [.dat (eSc s)] ∧ en = bl_ (isE s)))
    (hS : ∀ d s, d < 1000 → SOk d s → ∀ p ∈ fo s, ∀ t, p.2 = some t → SOk (d + 1) t) (hM : ∀ d s, SOk d s → SOk (d + 1) s) :
    FnE (gdX w K kn) P w K mg base (k + 1) "explore" 3 (fun rs oe => ∃ s, SOk 0 s ∧ rs = [.dat (eSc s), .clo f pf cf, .clo g pg cg] ∧ oe = (eFnd (exploreF fo isE s)).map En.rs) := by
  obtain ⟨fd, F⟩ := T.df 18 (d := d_explore)
  obtain ⟨x1, x2, _, _⟩ := He.exc_ok (T.fact _ (List.mem_of_getElem? (show fa[85]? = some (.exc "TooLarge") from rfl)))
  refine fnE_of F sc_explore (T.glo 18) (F.bindsN fun _ _ _ _ _ _ us hl => match us, hl with | [_, _, _], _ => rfl) fun cdv A outer s0 H E hr rs oe hl hφ Ex tk => ?_
  obtain ⟨s, hs, rfl, rfl⟩ := hφ
  have hu := hr.un
  have hu2 : (A.deeper (envOfC d_explore.qual d_explore.scope s0.heap.objs.size (He.fAd K d_explore.at_) cdv)).units + 60 < cLine := by omega
  let X : Cx := bxE P w K mg base ["first", "follow", "is_end", "kept", "seen", "at", "event", "scene"] d_explore.qual d_explore.scope (He.fAd K d_explore.at_) cdv A outer s0 H E
  let env : List Nd → Nat → Option En → Option En → Ro := fun kept i o6 o7 => [some (dat_ (eSc s)), some (.rs (.clo f pf cf)), some (.rs (.clo g pg cg)), some (.own (kept.map eN)), some (.obj (kept.map fun n => eSc n.1).reverse), some (int_ (i : Int)), o6, o7]
  have lm : ∀ kept : List Nd, (kept.map eN).length = kept.length := fun kept => List.length_map _
  have snoc : ∀ (kept : List Nd) (n : Nd), (kept ++ [n]).map eN = kept.map eN ++ [eN n] := fun kept n => by rw [List.map_append]; rfl
  have snoc2 : ∀ (kept : List Nd) (n : Nd), ((kept ++ [n]).map fun n => eSc n.1).reverse = eSc n.1 :: (kept.map fun n => eSc n.1).reverse := fun kept n => by rw [List.map_append, List.reverse_append]; rfl
  have vis : ∀ (i : Nat) (l : List (Ev × Option Sc)) (kept : List Nd) (o6 o7 : Option En) (o : Out), (∀ p ∈ l, ∀ t, p.2 = some t → SOk (i + 1) t) → i < kept.length → kept.length ≤ 1000 →
      (visF isE i l kept = .large → o = .xc) → (∀ k', visF isE i l kept = .found k' → o = .rt (.rs (.dat (.tuple [.list (k'.map eN), .int ((k'.length : Int) - 1)])))) → (∀ k', visF isE i l kept = .go k' → o = .nx (env k' i none none)) →
      ForR (gdX w K kn) X Ex (match s_explore with | .FunctionDef _ _ (_ :: _ :: _ :: _ :: .While _ (.For t _ _ _ _ :: _) _ _ :: _) _ _ _ _ _ _ _ => t | _ => .Constant .none 0 default) xL (l.map fun p => Rs.dat (eEv p)) (env kept i o6 o7) o := by
    intro i l
    induction l with
    | nil =>
      intro kept o6 o7 o _ _ _ _ _ h3
      exact ⟨_, by repeat constructor, h3 kept rfl⟩
    | cons p l ih =>
      intro kept o6 o7 o hok hi hk h1 h2 h3
      obtain ⟨e, so⟩ := p
      refine ⟨_, _, _, Le.refl _, xg_tup rfl (xgs_cons (xg_name 6 sc_explore.nd) (xgs_cons (xg_name 7 sc_explore.nd) xgs_nil)), ?_⟩
      cases so with
      | none =>
        refine .inr ⟨?_, fun ρ' z => by rw [h1 rfl] at z; cases z⟩
        rw [h1 rfl]
        exact xss_xc (xs_if (xt_cmp (xe_var 7) xe_non bin_isN) (fun _ => xss_one (xs_raise rfl tk PySem.F.excBase_ValueError x1 (T.glo 52) x2 (tk_raises T))) (fun h => by cases h))
      | some t =>
        have ht := hok _ (List.mem_cons_self ..) t rfl
        have hok' : ∀ p ∈ l, ∀ t, p.2 = some t → SOk (i + 1) t := fun p hp => hok p (List.mem_cons_of_mem _ hp)
        by_cases hm : t ∈ kept.map (·.1)
        · have ev : visF isE i ((e, some t) :: l) kept = visF isE i l kept := by rw [visF, if_pos hm]
          rw [ev] at h1 h2 h3
          refine .inl ⟨_, xss_cons (xs_if (xt_cmp (xe_var 7) xe_non bin_isN) (fun h => by cases h) (fun _ => xss_nil)) <| xss_one (xs_if (xt_notInS (k := true) setG_gdX 4 hu2 (xe_var 7) ⟨_, rfl⟩ (keyed_eSc t) (depth_eSc t) ⟨fun _ => mem_keep.mpr hm, fun _ => rfl⟩) (fun h => by cases h) (fun _ => xss_nil)), ih kept _ _ o hok' hi hk h1 h2 h3⟩
        · have hm' : eSc t ∉ (kept.map fun n => eSc n.1).reverse := fun z => hm (mem_keep.mp z)
          have sz : ∀ k : Bool, decide ((kept.length : Int) = 1000) = k → XT (gdX w K kn) X (match xL with | [_, .If _ (.If c _ _ _ :: _) _ _] => c | _ => .Constant .none 0 default) (env kept i (some (dat_ (eE e))) (some (dat_ (eSc t)))) k := fun k hk' => XT.is (xt_lend 3 (xt_cmp (xe_callB T.len (xa_cons (xe_var 3) xa_nil) co_lenL) (xe_gint T.kept) bin_eqI)) (by rw [lm]; exact hk')
          by_cases hk0 : kept.length = 1000
          · have ev : visF isE i ((e, some t) :: l) kept = .large := by rw [visF, if_neg hm, if_pos hk0]
            refine .inr ⟨?_, fun ρ' z => by rw [h1 ev] at z; cases z⟩
            rw [h1 ev]
            exact xss_cons (xs_if (xt_cmp (xe_var 7) xe_non bin_isN) (fun h => by cases h) (fun _ => xss_nil)) <| xss_xc (xs_if (xt_notInS (k := false) setG_gdX 4 hu2 (xe_var 7) ⟨_, rfl⟩ (keyed_eSc t) (depth_eSc t) ⟨fun h => (by cases h), fun h => absurd h hm'⟩) (fun _ => xss_xc (xs_if (sz true (decide_eq_true (by omega))) (fun _ => xss_one (xs_raise rfl tk PySem.F.excBase_ValueError x1 (T.glo 52) x2 (tk_raises T))) (fun h => by cases h))) (fun h => by cases h))
          · have grow : ∀ o, XSs (gdX w K kn) X Ex xD (env (kept ++ [(t, i, some e)]) i (some (dat_ (eE e))) (some (dat_ (eSc t)))) o → XSs (gdX w K kn) X Ex xG (env kept i (some (dat_ (eE e))) (some (dat_ (eSc t)))) o := fun o ho => by
              refine xss_cons (ρ1 := env kept i (some (dat_ (eE e))) (some (dat_ (eSc t)))) (xs_if (sz false (decide_eq_false (by omega))) (fun h => by cases h) (fun _ => xss_nil)) ?_
              refine xss_cons (ρ1 := [some (dat_ (eSc s)), some (.rs (.clo f pf cf)), some (.rs (.clo g pg cg)), some (.own (kept.map eN)), some (.obj (eSc t :: (kept.map fun n => eSc n.1).reverse)), some (int_ (i : Int)), some (dat_ (eE e)), some (dat_ (eSc t))]) (xs_sadd (X := X) setG_gdX 4 hu2 (xe_var 7) ⟨_, rfl⟩ (keyed_eSc t) (depth_eSc t) (by rw [List.length_reverse, List.length_map]; omega) hm') ?_
              refine xss_cons (XS.is (xs_append 3 (xe_tup (xd_cons (xe_var 7) (xd_cons (xe_var 5) (xd_cons (xe_var 6) xd_nil)))) (hl := by rw [lm]; omega)) ?_) ho
              show Out.nx _ = Out.nx [_, _, _, some (En.own ((kept ++ [(t, i, some e)]).map eN)), some (En.obj ((kept ++ [(t, i, some e)]).map fun n => eSc n.1).reverse), _, _, _]
              rw [snoc, snoc2]
              rfl
            have nt : XS (gdX w K kn) X Ex (match xL with | [a, _] => a | _ => .Pass default) (env kept i (some (dat_ (eE e))) (some (dat_ (eSc t)))) (.nx (env kept i (some (dat_ (eE e))) (some (dat_ (eSc t))))) := xs_if (xt_cmp (xe_var 7) xe_non bin_isN) (fun h => by cases h) (fun _ => xss_nil)
            have nin : XT (gdX w K kn) X (match xL with | [_, .If c _ _ _] => c | _ => .Constant .none 0 default) (env kept i (some (dat_ (eE e))) (some (dat_ (eSc t)))) true := xt_notInS (k := false) setG_gdX 4 hu2 (xe_var 7) ⟨_, rfl⟩ (keyed_eSc t) (depth_eSc t) ⟨fun h => (by cases h), fun h => absurd h hm'⟩
            have tst : XT (gdX w K kn) X (match xD with | [.If c _ _ _] => c | _ => .Constant .none 0 default) (env (kept ++ [(t, i, some e)]) i (some (dat_ (eE e))) (some (dat_ (eSc t)))) (isE t) := xt_val (xe_callV 2 HG hr (xa_cons (xe_var 7) xa_nil) ⟨t, i + 1, by omega, ht, rfl, rfl⟩)
            cases hE : isE t with
            | true =>
              have ev : visF isE i ((e, some t) :: l) kept = .found (kept ++ [(t, i, some e)]) := by rw [visF, if_neg hm, if_neg hk0, if_pos hE]
              refine .inr ⟨?_, fun ρ' z => by rw [h2 _ ev] at z; cases z⟩
              rw [h2 _ ev]
              refine xss_cons nt <| xss_ret (xs_if nin (fun _ => grow _ (xss_ret (xs_if (tst.is hE) (fun _ => xss_freeze 3 (ds := (kept ++ [(t, i, some e)]).map eN) <| xss_one (xs_ret (XE.is (xe_tup (xd_cons (xe_var 3) (xd_cons (xe_bin (xe_callB T.len (xa_cons (xe_var 3) xa_nil) co_lenL) xe_int bin_sub) xd_nil))) ?_))) (fun h => by cases h)))) (fun h => by cases h))
              rw [lm]
            | false =>
              have ev : visF isE i ((e, some t) :: l) kept = visF isE i l (kept ++ [(t, i, some e)]) := by rw [visF, if_neg hm, if_neg hk0, if_neg (by rw [hE]; exact Bool.false_ne_true)]
              rw [ev] at h1 h2 h3
              refine .inl ⟨_, xss_cons nt <| xss_one (xs_if nin (fun _ => grow _ (xss_one (xs_if (tst.is hE) (fun h => by cases h) (fun _ => xss_nil)))) (fun h => by cases h)), ih _ _ _ o hok' (by rw [List.length_append, List.length_singleton]; omega) (by rw [List.length_append, List.length_singleton]; omega) h1 h2 h3⟩
  have loop : ∀ (n i : Nat) (kept : List Nd) (o6 o7 : Option En) (o : Out), i + n = 1001 → i ≤ kept.length → kept.length ≤ 1000 → KOk SOk kept → (bfsF fo isE n i kept = .large → o = .xc) → (∀ k', bfsF fo isE n i kept = .found k' → o = .rt (.rs (.dat (.tuple [.list (k'.map eN), .int ((k'.length : Int) - 1)])))) → (∀ k', bfsF fo isE n i kept = .go k' → o = .nx (env k' k'.length none none)) →
      ∃ m, WhR (gdX w K kn) X Ex xW xB m (env kept i o6 o7) o := by
    intro n
    induction n with
    | zero => intro i kept o6 o7 o hi hk hz; omega
    | succ n ih =>
      intro i kept o6 o7 o hi hk hz hS' h1 h2 h3
      have tst : XT (gdX w K kn) X xW (env kept i none none) (decide ((i : Int) < kept.length)) := XT.is (xt_lend 3 (xt_cmp (xe_var 5) (xe_callB T.len (xa_cons (xe_var 3) xa_nil) co_lenL) bin_lt)) (by rw [lm])
      by_cases hlt : i < kept.length
      · have hsc : SOk i (kept.getD i ndD).1 := by
          rw [List.getD_eq_getElem?_getD, List.getElem?_eq_getElem hlt]
          exact hS' i _ (List.getElem?_eq_getElem hlt)
        have hi1 : i < 1000 := by omega
        have tst := tst.is (decide_eq_true (by omega) : decide ((i : Int) < kept.length) = true)
        have ev : bfsF fo isE (n + 1) i kept = (match visF isE i (fo (kept.getD i ndD).1) kept with
          | .large => .large
          | .found k => .found k
          | .go k => bfsF fo isE n (i + 1) k) := by rw [bfsF, if_pos hlt]
        have iter : XI (gdX w K kn) X (match xB with | .For t _ _ _ _ :: _ => t | _ => .Constant .none 0 default) (match xB with | .For _ e _ _ _ :: _ => e | _ => .Constant .none 0 default) (env kept i none none) (((fo (kept.getD i ndD).1).map eEv).map Rs.dat) :=
          xi_list (xe_fr (xe_callV 1 HF hr (xa_cons (xe_lend 3 (xe_ix (xe_ix (xe_var 3) (xe_var 5) (ixo_list (atI_map eN kept i ndD hlt))) xe_int (ixo_tup (d := eSc (kept.getD i ndD).1) rfl)) (lf_eSc _)) xa_nil) ⟨_, i, hi1, hsc, rfl, rfl⟩))
        cases hv : visF isE i (fo (kept.getD i ndD).1) kept with
        | large =>
          rw [hv] at ev
          rw [h1 ev]
          exact ⟨0, _, by repeat constructor, .inr ⟨tst, xss_xc (xs_for po_bxE rfl iter (by rw [map_dat]; exact vis i _ kept none none .xc (hS i _ hi1 hsc) hlt hz (fun _ => rfl) (fun k' z => by rw [hv] at z; cases z) (fun k' z => by rw [hv] at z; cases z))), fun ρ' z => nomatch z⟩⟩
        | found k2 =>
          rw [hv] at ev
          rw [h2 _ ev]
          exact ⟨0, _, by repeat constructor, .inr ⟨tst, xss_ret (xs_for po_bxE rfl iter (by rw [map_dat]; exact vis i _ kept none none _ (hS i _ hi1 hsc) hlt hz (fun z => by rw [hv] at z; cases z) (fun k' z => by rw [hv] at z; cases z; rfl) (fun k' z => by rw [hv] at z; cases z))), fun ρ' z => nomatch z⟩⟩
        | go k2 =>
          rw [hv] at ev
          obtain ⟨v1, v2, v3⟩ := visF_ok (SOk := SOk) hM (fo (kept.getD i ndD).1) kept k2 hv (hS i _ hi1 hsc) hS' hlt hz
          obtain ⟨m, hm⟩ := ih (i + 1) k2 none none o (by omega) (by omega) v2 v3 (fun z => h1 (ev.trans z)) (fun k' z => h2 k' (ev.trans z)) (fun k' z => h3 k' (ev.trans z))
          exact ⟨m + 1, env kept i none none, env k2 (i + 1) none none, by repeat constructor, tst, xss_cons (xs_for po_bxE rfl iter (by rw [map_dat]; exact vis i _ kept none none (.nx (env k2 i none none)) (hS i _ hi1 hsc) hlt hz (fun z => by rw [hv] at z; cases z) (fun k' z => by rw [hv] at z; cases z) (fun k' z => by rw [hv] at z; cases z; rfl))) (XSs.is (xss_one (xe_aug 5 (he := xe_int) (hN := sc_explore.nd))) rfl), hm⟩
      · have e : i = kept.length := by omega
        have ev : bfsF fo isE (n + 1) i kept = .go kept := by rw [bfsF, if_neg hlt]
        rw [h3 _ ev]
        subst e
        exact ⟨0, _, by repeat constructor, .inl ⟨tst.is (decide_eq_false (by omega)), rfl⟩⟩
  have h0 : ∀ o, (exploreF fo isE s = .large → o = .xc) → (∀ k', exploreF fo isE s = .found k' → o = .rt (.rs (.dat (.tuple [.list (k'.map eN), .int ((k'.length : Int) - 1)])))) → (∀ k', exploreF fo isE s = .go k' → o = .nx (env k' k'.length none none)) → ∃ m, WhR (gdX w K kn) X Ex xW xB m (env [(s, 0, none)] 0 none none) o := fun o => loop 1001 0 [(s, 0, none)] none none o rfl (by simp) (by simp) (fun j nd h => by cases j with | zero => cases h; exact hs | succ j => simp at h)
  have pre : ∀ (sts : List Stmt) (o : Out), XSs (gdX w K kn) X Ex sts (env [(s, 0, none)] 0 none none) o → XSs (gdX w K kn) X Ex (xP ++ sts) (ro ["first", "follow", "is_end", "kept", "seen", "at", "event", "scene"] [.dat (eSc s), .clo f pf cf, .clo g pg cg]) o := fun sts o h =>
    xss_cons (xs_set 3 (xe_lst (xd_cons (xe_tup (xd_cons (xe_var 0) (xd_cons xe_int (xd_cons xe_non xd_nil)))) xd_nil)) sc_explore.nd) <| xss_cons (xs_set 4 (xe_setX T.set_) sc_explore.nd) <|
      xss_cons (xs_sadd (X := X) setG_gdX 4 hu2 (xe_var 0) ⟨_, rfl⟩ (keyed_eSc s) (depth_eSc s) (by simp) (by simp)) <| xss_cons (xs_set 5 xe_int sc_explore.nd) h
  cases hv : exploreF fo isE s with
  | large =>
    obtain ⟨m, hm⟩ := h0 .xc (fun _ => rfl) (fun k' z => by rw [hv] at z; cases z) (fun k' z => by rw [hv] at z; cases z)
    exact ⟨.xc, rfl, pre _ _ (xss_xc (xs_while m po_bxE hm))⟩
  | found k2 =>
    obtain ⟨m, hm⟩ := h0 (.rt (.rs (.dat (.tuple [.list (k2.map eN), .int ((k2.length : Int) - 1)])))) (fun z => by rw [hv] at z; cases z) (fun k' z => by rw [hv] at z; cases z; rfl) (fun k' z => by rw [hv] at z; cases z)
    exact ⟨_, .inl rfl, pre _ _ (xss_ret (xs_while m po_bxE hm))⟩
  | go k2 =>
    obtain ⟨m, hm⟩ := h0 (.nx (env k2 k2.length none none)) (fun z => by rw [hv] at z; cases z) (fun k' z => by rw [hv] at z; cases z) (fun k' z => by rw [hv] at z; cases z; rfl)
    exact ⟨_, .inl rfl, pre _ _ (xss_cons (xs_while m po_bxE hm) (xss_freeze 3 (ds := k2.map eN) <| xss_one (xs_ret (xe_tup (xd_cons (xe_var 3) (xd_cons xe_non xd_nil))))))⟩
end
end LC
namespace LC
open PySem PySem.Spec PyProof.Rows L2

/-! ### scenes that stay within bounds -/
structure ScOk (c : Cs) (d : Nat) (s : Sc) : Prop where
  a : s.a.Ok c.prog
  b : s.b.Ok c.prog
  l : s.ds.length = c.prog.chans.length
  snd : ∀ cf, s.snd = some cf → cf.Ok c.traf
  w : s.wait.length ≤ 6
  ds : ∀ x ∈ s.ds, okD x ∧ x.1.length ≤ 100 * d ∧ x.2.length ≤ 100 * d
def NdSg (c : Cs) : Prop := ∀ ch ∈ c.prog.chans, ch.2.Nodup
theorem ScOk.up {c : Cs} {d : Nat} {s : Sc} (h : ScOk c d s) : ScOk c (d + 1) s := ⟨h.a, h.b, h.l, h.snd, h.w, fun x hx => let ⟨k1, k2, k3⟩ := h.ds x hx; ⟨k1, by omega, by omega⟩⟩
theorem counts_le : ∀ (sg : List Str), sg.Nodup → ∀ a : List Str, (sg.map fun s => a.count s).sum ≤ a.length
  | [], _, a => Nat.zero_le _
  | s :: sg, nd, a => by
    obtain ⟨n1, n2⟩ := List.nodup_cons.mp nd
    have ih := counts_le sg n2 (a.filter fun x => !(x == s))
    have e : (sg.map fun t => (a.filter fun x => !(x == s)).count t) = sg.map fun t => a.count t := by
      refine List.map_congr_left fun t ht => ?_
      have ne : t ≠ s := fun z => n1 (z ▸ ht)
      rw [List.count_filter (by simp [ne])]
    rw [e] at ih
    have e2 : a.length = a.count s + (a.filter fun x => !(x == s)).length := by
      rw [List.count_eq_length_filter, ← List.length_append]
      clear ih e
      induction a with
      | nil => rfl
      | cons x a ih =>
        by_cases h : (x == s) = true
        · simp [h, ih] at ih ⊢
          try omega
        · simp [h] at ih ⊢
          omega
    rw [List.map_cons, List.sum_cons]
    omega
theorem excess_nd {sg a b : List Str} (nd : sg.Nodup) : (excessF sg a b).length ≤ a.length := by
  refine Nat.le_trans ?_ (counts_le sg nd a)
  unfold excessF
  clear nd
  induction sg with
  | nil => exact Nat.zero_le _
  | cons s sg ih =>
    rw [List.flatMap_cons, List.length_append, List.length_replicate, List.map_cons, List.sum_cons]
    have : ((a.count s : Int) - (b.count s : Int)).toNat ≤ a.count s := by omega
    omega
theorem diff_le {view : Str} {sg a b : List Str} (nd : sg.Nodup) : (diffF view sg a b).1.length ≤ a.length ∧ (diffF view sg a b).2.length ≤ b.length := by
  unfold diffF
  split
  · exact ⟨Nat.zero_le _, Nat.zero_le _⟩
  · split
    · exact ⟨excess_nd nd, excess_nd nd⟩
    · exact ⟨by rw [List.length_drop]; omega, by rw [List.length_drop]; omega⟩
theorem sc_heard_ok {c : Cs} {d : Nat} {s : Sc} (C : c.Ok) (hN : NdSg c) (h : ScOk c d s) {si ri : List Str} (h1 : si.length ≤ 7) (h2 : ri.length ≤ 7) : ScOk c (d + 1) (heardF c s si ri) where
  a := runF_ok _ h.a
  b := runF_ok _ h.b
  l := by show (extDs c s.ds _ _).length = _; unfold extDs; rw [List.length_map, List.length_range]; exact h.l
  snd := h.snd
  w := h.w
  ds := fun x hx => by
    refine ⟨heardF_okD C (fun y hy => (h.ds y hy).1) si ri x hx, ?_⟩
    have hx : x ∈ extDs c s.ds (runF c.prog s.a si).2 (runF c.prog s.b ri).2 := hx
    unfold extDs at hx
    obtain ⟨k, hk, rfl⟩ := List.mem_map.mp hx
    have hk := List.mem_range.mp hk
    have hd := h.ds (s.ds.getD k ([], [])) (by rw [List.getD_eq_getElem?_getD, List.getElem?_eq_getElem hk]; exact List.getElem_mem hk)
    have nd : (c.prog.chans.getD k ("", [])).2.Nodup := by
      rw [List.getD_eq_getElem?_getD, List.getElem?_eq_getElem (by rw [← h.l]; exact hk)]
      exact hN _ (List.getElem_mem _)
    have q1 := runF_le C.p si s.a
    have q2 := runF_le C.p ri s.b
    have q3 := sigsOf_le (k : Int) (runF c.prog s.a si).2
    have q4 := sigsOf_le (k : Int) (runF c.prog s.b ri).2
    have q5 := diff_le (view := c.views.getD k "") (a := (s.ds.getD k ([], [])).1 ++ sigsOf k (runF c.prog s.a si).2) (b := (s.ds.getD k ([], [])).2 ++ sigsOf k (runF c.prog s.b ri).2) nd
    rw [List.length_append, List.length_append] at q5
    exact ⟨Nat.le_trans q5.1 (by omega), Nat.le_trans q5.2 (by omega)⟩
theorem polled_len {w : List Str} {ph per off : Int} : (polledF w ph per off).1.length ≤ w.length + 1 ∧ (polledF w ph per off).2.1.length ≤ w.length := by
  unfold polledF
  split
  · exact ⟨by rw [List.length_append]; exact Nat.le_refl _, Nat.zero_le _⟩
  · exact ⟨Nat.succ_le_succ (Nat.zero_le _), Nat.le_refl _⟩
theorem behind_ok {c : Cs} {d : Nat} {s : Sc} (h : ScOk c d s) (item : Str) : ∀ cf, behindF c s.snd item = some cf → cf.Ok c.traf := fun cf e => by
  unfold behindF at e
  split at e
  · cases e
  · rename_i c0 hc
    cases e
    exact stepF_ok (h.snd c0 hc) item
theorem follow_ok {c : Cs} {d : Nat} {s : Sc} {per off : Int} (C : c.Ok) (hN : NdSg c) (h : ScOk c d s) : ∀ p ∈ followF c per off s, ∀ t, p.2 = some t → ScOk c (d + 1) t := fun p hp t ht => by
  unfold followF at hp
  rcases List.mem_append.mp hp with hp | hp
  · rcases List.mem_append.mp hp with hp | hp
    · unfold stopF at hp
      split at hp
      · cases hp
      · rw [List.mem_singleton.mp hp] at ht
        cases ht
        have u := h.up
        exact ⟨u.a, u.b, u.l, fun _ z => (nomatch z), u.w, u.ds⟩
    · unfold tickF at hp
      split at hp
      · rw [List.mem_singleton.mp hp] at ht
        cases ht
        have pl := polled_len (w := s.wait) (ph := s.phase) (per := per) (off := off)
        have hw := h.w
        exact sc_heard_ok C hN (s := { s with snd := behindF c s.snd TICK, wait := (polledF s.wait s.phase per off).2.1, phase := (polledF s.wait s.phase per off).2.2 }) ⟨h.a, h.b, h.l, behind_ok h TICK, Nat.le_trans pl.2 hw, h.ds⟩ (by simp) (by omega)
      · cases hp
  · obtain ⟨n, _, hp⟩ := List.mem_flatMap.mp hp
    unfold sendF at hp
    split at hp
    · rw [List.mem_singleton.mp hp] at ht
      simp only at ht
      split at ht
      · cases ht
        exact sc_heard_ok C hN (s := { s with snd := behindF c s.snd n, wait := s.wait ++ [n] }) ⟨h.a, h.b, h.l, behind_ok h n, by rw [List.length_append, List.length_singleton]; omega, h.ds⟩ (by simp) (by simp)
      · cases ht
    · cases hp
theorem xe_fo {G : Gd} {X : Cx} {ρ : Ro} {pos : Pos} {so : Option Cf} {cf : Cf} {x : Str} (i : Nat) (h : so = some cf) (hi : ρ[i]? = some (some (dat_ (eFo so))) := by rfl) (hN : X.N[i]? = some x := by rfl) (hv : Vis X.env.scope x := by first | exact Or.inl rfl | exact Or.inr (Or.inl rfl) | exact Or.inr (Or.inr rfl))
    (hd : (x == ("__debug__" : Str)) = false := by decide) (hcd : (x == ("__classdict__" : Str)) = false := by decide) : XE G X (.Name x pos) ρ (dat_ (eF cf)) := by
  subst h
  exact xe_var i hi hN hv hd hcd
section
variable {P : Program} {w : World} {K : PySem.W.Frag} {mg : Str → Option Value} {base : Heap} {kn : Kn}
theorem sc_follow_queue : FnScope ["case", "scene", "waiting", "added", "at_tick", "sender", "result", "behind", "begun", "name"] ["case", "scene", "waiting", "added", "at_tick"] (defScope s_follow_queue) := ⟨rfl, rfl, rfl, by decide +kernel, rfl, by decide +kernel, by decide +kernel⟩
theorem may_sendX (T : Wt K mg base) : FnG (gdX w K kn) P w K mg base 6 "may_send" 3 (fun rs en => ∃ (c : Cs) (snd : Option Cf) (item : Str), c.Ok ∧ (∀ cf, snd = some cf → cf.Ok c.traf) ∧ rs = [.cas (eK c), .dat (eFo snd), .dat (.str item)] ∧ en = bl_ (maySendF c snd item)) := (C_may_send T).subT subT_gd fun rs en ⟨_, _, _, _, _, _, e⟩ => e ▸ trivial
theorem with_queueX (T : Wd K mg) : FnG (gdX w K kn) P w K mg base 1 "with_queue" 3 (fun rs en => ∃ d0 d1 d2 d3 d4 s q, rs = [.dat (.tuple [d0, d1, d2, d3, d4]), .dat s, .dat q] ∧ en = tup_ [s, q, d2, d3, d4]) := (C_with_queue T).subT subT_gd fun rs en ⟨_, _, _, _, _, _, _, _, e⟩ => e ▸ trivial
theorem stepX (T : Wt K mg base) : FnG (gdX w K kn) P w K mg base 5 "step" 3 (fun rs en => ∃ (m : Mc) (c : Cf) (item : Str), m.Ok ∧ c.Ok m ∧ rs = [.mach (eM m), .dat (eF c), .dat (.str item)] ∧ en = tup_ [eF (stepF m c item).1, .tuple ((stepF m c item).2.map eG)]) := (C_step T).subT subT_gd fun rs en ⟨_, _, _, _, _, _, e⟩ => e ▸ trivial
theorem heardX (T : Wt K mg base) : FnG (gdX w K kn) P w K mg base 6 "heard" 4 (fun rs en => ∃ (c : Cs) (s : Sc) (si ri : List Str), c.Ok ∧ s.a.Ok c.prog ∧ s.b.Ok c.prog ∧ s.ds.length = c.prog.chans.length ∧ si.length ≤ 10000 ∧ ri.length ≤ 10000 ∧ (∀ d ∈ s.ds, d.1.length + 8 * si.length ≤ 200000 ∧ d.2.length + 8 * ri.length ≤ 200000) ∧ rs = [.cas (eK c), .dat (eSc s), .dat (.list (dS si)), .dat (.list (dS ri))] ∧ en = dat_ (eSc (heardF c s si ri))) :=
  (C_heard T).subT subT_gd fun rs en ⟨_, _, _, _, _, _, _, _, _, _, _, _, e⟩ => e ▸ trivial
theorem C_follow_queue (T : Wt K mg base) {k : Nat} {g : Addr} {pg : List (V × PyData)} {cg : List (V × CaseD)} {c : Cs} {s : Sc} {d : Nat} {per off : Int} (C : c.Ok) (hs : ScOk c d s) (hd : d < 1000)
    (HA : FnV (gdX w K kn) P w K mg base k g (.clo g pg cg) 1 (fun rs en => ∃ n : Str, rs = [.dat (.str n)] ∧ en = dat_ (eQ (s.wait ++ [n]) s.phase))) : FnG (gdX w K kn) P w K mg base (k + 9) "follow_queue" 5
      (fun rs en => rs = [.cas (eK c), .dat (eSc s), .dat (.tuple (dS s.wait)), .clo g pg cg, .dat (.tuple [.list (dS (polledF s.wait s.phase per off).1), eQ (polledF s.wait s.phase per off).2.1 (polledF s.wait s.phase per off).2.2])] ∧ en = .own ((followF c per off s).map eEv)) := by
  obtain ⟨fd, F⟩ := T.w.df 22 (d := d_follow_queue)
  refine fnG_of F sc_follow_queue (T.w.glo 22) (fun _ _ _ _ _ _ us hl => match us, hl with | [_, _, _, _, _], _ => rfl) fun cdv A outer s0 H E hr rs en hl hφ => ⟨_, .inl rfl, ?_⟩
  obtain ⟨rfl, rfl⟩ := hφ
  have pl := polled_len (w := s.wait) (ph := s.phase) (per := per) (off := off)
  have hw := hs.w
  generalize hpd : polledF s.wait s.phase per off = pd at pl ⊢
  let env : List (Ev × Option Sc) → Ro := fun acc => [some (.rs (.cas (eK c))), some (dat_ (eSc s)), some (tup_ (dS s.wait)), some (.rs (.clo g pg cg)), some (tup_ [.list (dS pd.1), eQ pd.2.1 pd.2.2]), some (dat_ (eFo s.snd)), some (.own (acc.map eEv)), none, none, none]
  have lds : ∀ x ∈ s.ds, x.1.length + 8 * 7 ≤ 200000 ∧ x.2.length + 8 * 7 ≤ 200000 := fun x hx => by
    obtain ⟨_, h1, h2⟩ := hs.ds x hx
    omega
  have tickT : ∀ h2 : True, XS (gdX w K kn) (bx P w K mg base ["case", "scene", "waiting", "added", "at_tick", "sender", "result", "behind", "begun", "name"] d_follow_queue.qual d_follow_queue.scope (He.fAd K d_follow_queue.at_) cdv A outer s0 H E) (fun _ => False) (match s_follow_queue with | .FunctionDef _ _ (_ :: _ :: _ :: a :: _) _ _ _ _ _ _ _ => a | _ => .Pass default)
      (env (stopF s)) (.nx (env (stopF s ++ tickF c per off s))) := fun _ => by
    have cond : XT (gdX w K kn) (bx P w K mg base ["case", "scene", "waiting", "added", "at_tick", "sender", "result", "behind", "begun", "name"] d_follow_queue.qual d_follow_queue.scope (He.fAd K d_follow_queue.at_) cdv A outer s0 H E) (match s_follow_queue with | .FunctionDef _ _ (_ :: _ :: _ :: .If c _ _ _ :: _) _ _ _ _ _ _ _ => c | _ => .Constant .none 0 default)
        (env (stopF s)) (maySendF c s.snd TICK || (s.snd.isNone && !s.wait.isEmpty)) :=
      XT.is (XW.t (xw_or (xt_val (xe_call (may_sendX T) (hr.mono (by omega)) (xa_cons (xe_var 0) (xa_cons (xe_var 5) (xa_cons (xe_gstr T.w.tick) xa_nil))) ⟨c, s.snd, TICK, C, hs.snd, rfl, rfl⟩)) fun _ => xw_or1 (XW.t (xw_and (xt_cmp (xe_var 5) xe_non bin_isN) fun _ => xw_and1 (xt_truth (xe_var 2)))))) (by
        rw [show isNoneR (.dat (eFo s.snd)) = s.snd.isNone from by cases s.snd <;> rfl, show truthD (.tuple (dS s.wait)) = !s.wait.isEmpty from by cases s.wait <;> rfl])
    have body : ∀ be : Option Cf, be = behindF c s.snd TICK → XSs (gdX w K kn) (bx P w K mg base ["case", "scene", "waiting", "added", "at_tick", "sender", "result", "behind", "begun", "name"] d_follow_queue.qual d_follow_queue.scope (He.fAd K d_follow_queue.at_) cdv A outer s0 H E) (fun _ => False) (match s_follow_queue with | .FunctionDef _ _ (_ :: _ :: _ :: .If _ [_, _, a, b] _ _ :: _) _ _ _ _ _ _ _ => [a, b] | _ => [])
        [some (.rs (.cas (eK c))), some (dat_ (eSc s)), some (tup_ (dS s.wait)), some (.rs (.clo g pg cg)), some (tup_ [.list (dS pd.1), eQ pd.2.1 pd.2.2]), some (dat_ (eFo s.snd)), some (.own ((stopF s).map eEv)), some (dat_ (eFo be)), none, none]
        (.nx (env (stopF s ++ [((Ev.tick, some (heardF c { s with snd := behindF c s.snd TICK, wait := pd.2.1, phase := pd.2.2 } [TICK] pd.1)) : Ev × Option Sc)]))) := fun be hbe => by
      subst hbe
      refine XSs.weak (xss_cons (xs_set 8 (xe_call (with_queueX T.w) (hr.mono (by omega)) (xa_cons (xe_var 1) (xa_cons (xe_var 7) (xa_cons (xe_ix (xe_var 4) xe_int (ixo_tup (d := eQ pd.2.1 pd.2.2) rfl)) xa_nil))) ⟨_, _, _, _, _, _, _, rfl, rfl⟩) sc_follow_queue.nd) <|
        xss_one (XS.is (xs_append 6 (xe_tup (xd_cons (xe_tup (xd_cons xe_str xd_nil)) (xd_cons (xe_call (heardX T) (hr.mono (by omega)) (xa_cons (xe_var 0) (xa_cons (xe_var 8) (xa_cons (xe_fr (xe_lst (xd_cons (xe_gstr T.w.tick) xd_nil))) (xa_cons (xe_ix (xe_var 4) xe_int (ixo_tup (d := .list (dS pd.1)) rfl)) xa_nil)))) ⟨c, { s with snd := behindF c s.snd TICK, wait := pd.2.1, phase := pd.2.2 }, [TICK], pd.1, C, hs.a, hs.b, hs.l, by simp, by omega, fun x hx => ?_, rfl, rfl⟩) xd_nil))) (hl := ?_)) ?_)) (ρ1 := [some (.rs (.cas (eK c))), some (dat_ (eSc s)), some (tup_ (dS s.wait)), some (.rs (.clo g pg cg)), some (tup_ [.list (dS pd.1), eQ pd.2.1 pd.2.2]), some (dat_ (eFo s.snd)), some (.own ((stopF s ++ [((Ev.tick, some (heardF c { s with snd := behindF c s.snd TICK, wait := pd.2.1, phase := pd.2.2 } [TICK] pd.1)) : Ev × Option Sc)]).map eEv)), some (dat_ (eFo (behindF c s.snd TICK))), some (dat_ (eSc { s with snd := behindF c s.snd TICK, wait := pd.2.1, phase := pd.2.2 })), none]) (by repeat constructor)
      · have := lds x hx
        simp only [List.length_singleton]
        omega
      · rw [List.length_map]
        unfold stopF
        split <;> simp
      · rw [List.map_append]
        rfl
    have tk : tickF c per off s = if (maySendF c s.snd TICK || (s.snd.isNone && !s.wait.isEmpty)) = true then [((Ev.tick, some (heardF c { s with snd := behindF c s.snd TICK, wait := pd.2.1, phase := pd.2.2 } [TICK] pd.1)) : Ev × Option Sc)] else [] := by
      unfold tickF
      rw [hpd]
    rw [tk]
    refine xs_if cond (fun h => ?_) fun h => ?_
    · rw [if_pos h]
      cases hsn : s.snd with
      | none =>
        have b := body none (by rw [hsn]; rfl)
        rw [hsn] at b
        have h' : (env (stopF s)) = [some (.rs (.cas (eK c))), some (dat_ (eSc s)), some (tup_ (dS s.wait)), some (.rs (.clo g pg cg)), some (tup_ [.list (dS pd.1), eQ pd.2.1 pd.2.2]), some (dat_ .none), some (.own ((stopF s).map eEv)), none, none, none] := by
          show [_, _, _, _, _, some (dat_ (eFo s.snd)), _, _, _, _] = _
          rw [hsn]; rfl
        rw [h']
        exact xss_cons (xs_set 7 (xe_var 5) sc_follow_queue.nd) <| xss_cons (xs_if (xt_cmp (xe_var 5) xe_non bin_notN) (fun z => by cases z) (fun _ => xss_nil)) b
      | some cf =>
        have b := body (some (stepF c.traf cf TICK).1) (by rw [hsn]; rfl)
        rw [hsn] at b
        have h' : (env (stopF s)) = [some (.rs (.cas (eK c))), some (dat_ (eSc s)), some (tup_ (dS s.wait)), some (.rs (.clo g pg cg)), some (tup_ [.list (dS pd.1), eQ pd.2.1 pd.2.2]), some (dat_ (eF cf)), some (.own ((stopF s).map eEv)), none, none, none] := by
          show [_, _, _, _, _, some (dat_ (eFo s.snd)), _, _, _, _] = _
          rw [hsn]; rfl
        rw [h']
        exact xss_cons (xs_set 7 (xe_var 5) sc_follow_queue.nd) <| xss_cons (xs_if (xt_cmp (xe_var 5) xe_non bin_notN) (fun _ => xss_one (xs_set 7 (xe_ix (xe_call (stepX T) (hr.mono (by omega)) (xa_cons (xe_traffic (xe_var 0) (T.w.cls 79) (T.w.noat 83)) (xa_cons (xe_var 5) (xa_cons (xe_gstr T.w.tick) xa_nil))) ⟨c.traf, cf, TICK, C.t, hs.snd cf hsn, rfl, rfl⟩) xe_int (ixo_tup (d := eF (stepF c.traf cf TICK).1) rfl)) sc_follow_queue.nd)) (fun z => by cases z)) b
    · rw [if_neg (by rw [h]; exact Bool.false_ne_true), List.append_nil]
      exact xss_nil
  have send : ∀ (n : Str) (acc : List (Ev × Option Sc)), acc.length ≤ 2000 → XSs (gdX w K kn) (bx P w K mg base ["case", "scene", "waiting", "added", "at_tick", "sender", "result", "behind", "begun", "name"] d_follow_queue.qual d_follow_queue.scope (He.fAd K d_follow_queue.at_) cdv A outer s0 H E) (fun _ => False) (match s_follow_queue with | .FunctionDef _ _ (_ :: _ :: _ :: _ :: .For _ _ b _ _ :: _) _ _ _ _ _ _ _ => b | _ => [])
      [some (.rs (.cas (eK c))), some (dat_ (eSc s)), some (tup_ (dS s.wait)), some (.rs (.clo g pg cg)), some (tup_ [.list (dS pd.1), eQ pd.2.1 pd.2.2]), some (dat_ (eFo s.snd)), some (.own (acc.map eEv)), none, none, some (str_ n)]
      (.nx (env (acc ++ sendF c s n))) := fun n acc hz => by
    refine xss_one (xs_if (xt_val (xe_call (may_sendX T) (hr.mono (by omega)) (xa_cons (xe_var 0) (xa_cons (xe_var 5) (xa_cons (xe_var 9) xa_nil))) ⟨c, s.snd, n, C, hs.snd, rfl, rfl⟩)) (fun h => ?_) (fun h => ?_))
    · have sf : sendF c s n = [((Ev.sent n, if s.wait.length < 6 then some (heardF c { s with snd := behindF c s.snd n, wait := s.wait ++ [n] } [n] []) else none) : Ev × Option Sc)] := by
        unfold sendF
        rw [if_pos h]
      rw [sf]
      obtain ⟨cf, hsn⟩ : ∃ cf, s.snd = some cf := by
        cases e : s.snd with
        | none => rw [e] at h; cases h
        | some cf => exact ⟨cf, rfl⟩
      have be : behindF c s.snd n = some (stepF c.traf cf n).1 := by rw [hsn]; rfl
      rw [be]
      have fin : ∀ (so : Option Sc) (o8 : Option En), so = (if s.wait.length < 6 then some (heardF c { s with snd := some (stepF c.traf cf n).1, wait := s.wait ++ [n] } [n] []) else none) → XSs (gdX w K kn) (bx P w K mg base ["case", "scene", "waiting", "added", "at_tick", "sender", "result", "behind", "begun", "name"] d_follow_queue.qual d_follow_queue.scope (He.fAd K d_follow_queue.at_) cdv A outer s0 H E) (fun _ => False) (match s_follow_queue with | .FunctionDef _ _ (_ :: _ :: _ :: _ :: .For _ _ [.If _ [_, _, a] _ _] _ _ :: _) _ _ _ _ _ _ _ => [a] | _ => [])
          [some (.rs (.cas (eK c))), some (dat_ (eSc s)), some (tup_ (dS s.wait)), some (.rs (.clo g pg cg)), some (tup_ [.list (dS pd.1), eQ pd.2.1 pd.2.2]), some (dat_ (eFo s.snd)), some (.own (acc.map eEv)), some (dat_ (eSo so)), o8, some (str_ n)]
          (.nx (env (acc ++ [((Ev.sent n, if s.wait.length < 6 then some (heardF c { s with snd := some (stepF c.traf cf n).1, wait := s.wait ++ [n] } [n] []) else none) : Ev × Option Sc)]))) := fun so o8 hso => by
        rw [← hso]
        refine XSs.weak (xss_one (XS.is (xs_append 6 (xe_tup (xd_cons (xe_tup (xd_cons xe_str (xd_cons (xe_var 9) xd_nil))) (xd_cons (xe_var 7) xd_nil))) (hl := by rw [List.length_map]; omega)) (o' := .nx [some (.rs (.cas (eK c))), some (dat_ (eSc s)), some (tup_ (dS s.wait)), some (.rs (.clo g pg cg)), some (tup_ [.list (dS pd.1), eQ pd.2.1 pd.2.2]), some (dat_ (eFo s.snd)), some (.own ((acc ++ [((Ev.sent n, so) : Ev × Option Sc)]).map eEv)), some (dat_ (eSo so)), o8, some (str_ n)]) (by rw [List.map_append]; rfl))) (by repeat constructor)
      by_cases hl : s.wait.length < 6
      · refine xss_cons (xs_set 7 xe_non sc_follow_queue.nd) <| xss_cons (xs_if (k := true) (XT.is (xt_cmp (xe_callB T.w.len (xa_cons (xe_var 2) xa_nil) co_lenT) (xe_gint T.w.transit) bin_lt) (by rw [List.length_map]; exact decide_eq_true (by omega))) (fun _ => xss_cons (xs_set 8 (xe_call (with_queueX T.w) (hr.mono (by omega)) (xa_cons (xe_var 1) (xa_cons (xe_ix (xe_call (stepX T) (hr.mono (by omega)) (xa_cons (xe_traffic (xe_var 0) (T.w.cls 79) (T.w.noat 83)) (xa_cons (xe_fo 5 hsn) (xa_cons (xe_var 9) xa_nil))) ⟨c.traf, cf, n, C.t, hs.snd cf hsn, rfl, rfl⟩) xe_int (ixo_tup (d := eF (stepF c.traf cf n).1) rfl)) (xa_cons (xe_callV 3 HA (hr.mono (by omega)) (xa_cons (xe_var 9) xa_nil) ⟨n, rfl, rfl⟩) xa_nil))) ⟨_, _, _, _, _, _, _, rfl, rfl⟩) sc_follow_queue.nd) <|
          xss_one (xs_set 7 (xe_call (heardX T) (hr.mono (by omega)) (xa_cons (xe_var 0) (xa_cons (xe_var 8) (xa_cons (xe_fr (xe_lst (xd_cons (xe_var 9) xd_nil))) (xa_cons (xe_fr (xe_lst xd_nil)) xa_nil)))) ⟨c, { s with snd := some (stepF c.traf cf n).1, wait := s.wait ++ [n] }, [n], [], C, hs.a, hs.b, hs.l, by simp, by simp, fun x hx => ?_, rfl, rfl⟩) sc_follow_queue.nd)) (fun z => by cases z)) (fin (some (heardF c { s with snd := some (stepF c.traf cf n).1, wait := s.wait ++ [n] } [n] [])) _ (by rw [if_pos hl]))
        have := lds x hx
        simp only [List.length_singleton, List.length_nil]
        omega
      · exact xss_cons (xs_set 7 xe_non sc_follow_queue.nd) <| xss_cons (xs_if (k := false) (XT.is (xt_cmp (xe_callB T.w.len (xa_cons (xe_var 2) xa_nil) co_lenT) (xe_gint T.w.transit) bin_lt) (by rw [List.length_map]; exact decide_eq_false (by omega))) (fun z => by cases z) (fun _ => xss_nil)) (fin none none (by rw [if_neg hl]))
    · have sf : sendF c s n = [] := by
        unfold sendF
        rw [if_neg (by rw [h]; exact Bool.false_ne_true)]
      rw [sf, List.append_nil]
      exact XSs.weak xss_nil (by repeat constructor)
  have hstop : XS (gdX w K kn) (bx P w K mg base ["case", "scene", "waiting", "added", "at_tick", "sender", "result", "behind", "begun", "name"] d_follow_queue.qual d_follow_queue.scope (He.fAd K d_follow_queue.at_) cdv A outer s0 H E) (fun _ => False) (match s_follow_queue with | .FunctionDef _ _ (_ :: _ :: a :: _) _ _ _ _ _ _ _ => a | _ => .Pass default) (env []) (.nx (env (stopF s))) := by
    cases hsn : s.snd with
    | none =>
      have e : stopF s = [] := by unfold stopF; rw [hsn]
      rw [e]
      exact xs_if (k := false) (XT.is (xt_cmp (xe_var 5) xe_non bin_notN) (by rw [hsn]; rfl)) (fun z => by cases z) (fun _ => xss_nil)
    | some cf =>
      have e : stopF s = [((Ev.stopped, some { s with snd := none }) : Ev × Option Sc)] := by unfold stopF; rw [hsn]
      rw [e]
      have wq : XE (gdX w K kn) (bx P w K mg base ["case", "scene", "waiting", "added", "at_tick", "sender", "result", "behind", "begun", "name"] d_follow_queue.qual d_follow_queue.scope (He.fAd K d_follow_queue.at_) cdv A outer s0 H E) (match s_follow_queue with | .FunctionDef _ _ (_ :: _ :: .If _ [.Expr (.Call _ [.Tuple [_, e] _ _] _ _) _] _ _ :: _) _ _ _ _ _ _ _ => e | _ => .Constant .none 0 default) (env []) (dat_ (eSc { s with snd := none })) :=
        xe_call (with_queueX T.w) (hr.mono (by omega)) (xa_cons (xe_var 1) (xa_cons xe_non (xa_cons (xe_ix (xe_var 1) xe_int (ixo_tup (d := eQ s.wait s.phase) rfl)) xa_nil))) ⟨eFo s.snd, eQ s.wait s.phase, eF s.a, eF s.b, .tuple (s.ds.map eD), .none, eQ s.wait s.phase, rfl, rfl⟩
      exact xs_if (k := true) (XT.is (xt_cmp (xe_var 5) xe_non bin_notN) (by rw [hsn]; rfl)) (fun _ => xss_one (XS.is (xs_append 6 (xe_tup (xd_cons (xe_tup (xd_cons xe_str xd_nil)) (xd_cons wq xd_nil))) (hl := by simp)) rfl)) (fun z => by cases z)
  have nl := C.p.nl
  have tl : (tickF c per off s).length ≤ 1 := by
    unfold tickF
    split <;> simp
  have sl : (stopF s).length ≤ 1 := by
    unfold stopF
    split <;> simp
  have sn : ∀ n, (sendF c s n).length ≤ 1 := fun n => by
    unfold sendF
    split <;> simp
  refine xss_cons (xs_set 5 (xe_ix (xe_var 1) xe_int (ixo_tup (d := eFo s.snd) rfl)) sc_follow_queue.nd) <| xss_cons (xs_set 6 (xe_lst xd_nil) sc_follow_queue.nd) <| xss_cons (ρ1 := env (stopF s)) hstop <| xss_cons (ρ1 := env (stopF s ++ tickF c per off s)) (tickT trivial) <|
    xss_cons (xs_for PassesOwn.never rfl (xi_tup (xe_fldM (xe_program (xe_var 0) (T.w.cls 79) (T.w.noat 81)) (T.w.cls 72) (T.w.noat 74) (fun _ _ h _ _ _ _ => h))) (o := .nx (env (followF c per off s))) ?_) <| xss_one (xs_retOwn 6)
  refine forR_inv (fun x => Rs.dat (.str x)) (fun l ρ => ∃ acc o9, acc ++ l.flatMap (sendF c s) = followF c per off s ∧ acc.length + l.length ≤ 1002 ∧ ρ = [some (.rs (.cas (eK c))), some (dat_ (eSc s)), some (tup_ (dS s.wait)), some (.rs (.clo g pg cg)), some (tup_ [.list (dS pd.1), eQ pd.2.1 pd.2.2]), some (dat_ (eFo s.snd)), some (.own (acc.map eEv)), none, none, o9])
    (map_dat _ _) ⟨stopF s ++ tickF c per off s, none, rfl, by rw [List.length_append]; omega, rfl⟩ ?_ ?_
  · rintro ρ ⟨acc, o9, e, _, rfl⟩
    have e : acc = followF c per off s := by rw [← e]; exact (List.append_nil _).symm
    rw [← e]
    exact ⟨_, by repeat constructor, rfl⟩
  · rintro n l ρ ⟨acc, o9, e, hz, rfl⟩
    rw [List.length_cons] at hz
    refine ⟨_, _, _, Le.refl _, xg_name 9 sc_follow_queue.nd, .inl ⟨_, send n acc (by omega), acc ++ sendF c s n, none, ?_, ?_, rfl⟩⟩
    · rw [List.append_assoc]
      exact e
    · have := sn n
      rw [List.length_append]
      omega
end
end LC
namespace LC
open PySem PySem.Spec PyProof.Rows L2

/-! ### follow, its lambda -/
abbrev st_follow : Stmt := match s_first_polling_harm with
  | .FunctionDef _ _ (a :: _) _ _ _ _ _ _ _ => a
  | _ => .Pass default
def lamArgs : Expr → Arguments
  | .Lambda p _ _ _ => p
  | _ => default
def lamBody : Expr → Expr
  | .Lambda _ e _ _ => e
  | e => e
def lamScope : Expr → Scope
  | .Lambda _ _ s _ => s
  | _ => default
abbrev lamN : Expr := match C8.fnBody st_follow with
  | [_, _, _, .Return (some (.Call _ [_, _, _, l, _] _ _)) _] => l
  | _ => .Constant .none 0 default
abbrev NXn (cl : List (Str × Addr)) (c : Addr) : NX := ⟨"<lambda>", qN, lamArgs lamN, .expr (lamBody lamN), lamScope lamN, cl, c⟩
abbrev NXf (cl : List (Str × Addr)) (c : Addr) : NX := ⟨"follow", qF, C8.fnArgs st_follow, .stmts (C8.fnBody st_follow), C8.fnScope st_follow, cl, c⟩
theorem sx_name : XScope ["name", "waiting", "phase"] "name" ["waiting", "phase"] (lamScope lamN) := ⟨rfl, rfl, rfl, by decide +kernel, rfl, rfl, by decide +kernel, by decide +kernel, by decide +kernel⟩
abbrev N_follow : List Str := ["scene", "case", "period", "offset", "waiting", "phase", "heard_items", "rest", "behind", "at_tick"]
theorem sx_follow : XScope N_follow "scene" ["case", "period", "offset"] (C8.fnScope st_follow) := ⟨rfl, rfl, rfl, by decide +kernel, rfl, rfl, by decide +kernel, by decide +kernel, by decide +kernel⟩
section
variable {P : Program} {w : World} {K : PySem.W.Frag} {mg : Str → Option Value} {base : Heap} {kn kn' : Kn} {cs : List Addr} {cl : List (Str × Addr)} {c' f : Addr}
theorem V_name {vw vp : V} {wt : List Str} {ph : Int} (As : AsideX P w (gdX w K kn) (gdX w K kn') cs) (hh : HeldX (gdX w K kn') (NXn cl c') f ["waiting", "phase"] cs [vw, vp]) (hw : wt.length ≤ 1000) :
    FnV (gdX w K kn') P w K mg base 1 f (.clo f [(vw, .tuple (dS wt)), (vp, .int ph)] []) 1 (fun rs en => ∃ n : Str, rs = [.dat (.str n)] ∧ en = dat_ (eQ (wt ++ [n]) ph)) :=
  fnV_ofX (k := 0) (crs := [.dat (.tuple (dS wt)), .dat (.int ph)]) sx_name (fun _ _ _ _ => rfl) As hh (fun rs en ⟨_, _, e⟩ => e ▸ trivial) (fun F0 h => .cons (h.2.1 (vw, .tuple (dS wt)) (by simp)) (.cons (h.2.1 (vp, .int ph) (by simp)) .nil)) fun A outer s H E hr r en ⟨n, e1, e2⟩ => by
    cases e1
    subst e2
    show XE _ _ (lamBody lamN) _ _
    exact XE.is (xe_tup (xd_cons (xe_bin (xe_var 1) (xe_tup (xd_cons (xe_var 0) xd_nil)) (bin_catT (by rw [List.length_map]; show wt.length + 1 ≤ _; omega))) (xd_cons (xe_var 2) xd_nil))) (by simp only [eQ, dS, List.map_append, List.map_cons, List.map_nil])
theorem polledX (T : Wd K mg) : FnG (gdX w K kn) P w K mg base 1 "polled" 4 (fun rs en => ∃ (wt : List Str) (ph per off : Int), 0 < per ∧ wt.length ≤ 1000 ∧ rs = [.dat (.tuple (dS wt)), .dat (.int ph), .dat (.int per), .dat (.int off)] ∧ en = tup_ [.list (dS (polledF wt ph per off).1), .tuple (dS (polledF wt ph per off).2.1), .int (polledF wt ph per off).2.2]) := (C_polled T).subT subT_gd fun rs en ⟨_, _, _, _, _, _, _, e⟩ => e ▸ trivial
theorem V_follow (T : Wt K mg base) {vc vp vo : V} {c : Cs} {per off : Int} (C : c.Ok) (hper : 0 < per) (As : AsideX P w (gdX w K kn) (gdX w K kn') cs) (hh : HeldX (gdX w K kn') (NXf cl c') f ["case", "period", "offset"] cs [vc, vp, vo]) (hreg : c' ∈ kn.cs) :
    FnV (gdX w K kn') P w K mg base 11 f (.clo f [(vp, .int per), (vo, .int off)] [(vc, eK c)]) 1 (fun rs en => ∃ s d, d < 1000 ∧ ScOk c d s ∧ rs = [.dat (eSc s)] ∧ en = .own ((followF c per off s).map eEv)) :=
  fnV_ofX (k := 10) (N := N_follow) (crs := [.cas (eK c), .dat (.int per), .dat (.int off)]) sx_follow (fun _ _ _ _ => rfl) As hh (fun rs en ⟨_, _, _, _, _, e⟩ => e ▸ trivial) (fun F0 h => .cons (h.2.2 (vc, eK c) (by simp)) (.cons (h.2.1 (vp, .int per) (by simp)) (.cons (h.2.1 (vo, .int off) (by simp)) .nil))) fun A outer s0 H E hr r en ⟨s, d, hd, hs, e1, e2⟩ => by
    cases e1
    subst e2
    refine ⟨_, .inl rfl, ?_⟩
    have hw := hs.w
    have hq : (xcx CX0 P w K mg base N_follow (NXf cl c') f A outer s0 H E).nox.env.qual ++ "<lambda>" = qN := show qF ++ ".<locals>." ++ "<lambda>" = qN by decide +kernel
    have mk : Mkr (gdX w K kn) (xcx CX0 P w K mg base N_follow (NXf cl c') f A outer s0 H E).nox (match lamN with | .Lambda _ _ _ p => p | _ => default) ((xcx CX0 P w K mg base N_follow (NXf cl c') f A outer s0 H E).nox.env.qual ++ "<lambda>") (fun _ _ => True) := by
      rw [hq]
      exact mkrN (P := P) T rfl rfl rfl hreg
    have hfree : ∀ y ∈ (lamScope lamN).names, y.2 = .free → y.1 ∈ (["waiting", "phase"] : List Str) := sx_name.free
    have hcells : (xcx CX0 P w K mg base N_follow (NXf cl c') f A outer s0 H E).nox.Ok → ∀ y ∈ (lamScope lamN).names, y.2 = .free → ∃ c, (xcx CX0 P w K mg base N_follow (NXf cl c') f A outer s0 H E).nox.env.cells.lookup y.1 = some c := fun ok y hy e => by
      have h := hfree y hy e
      simp only [List.mem_cons, List.not_mem_nil, or_false] at h
      rcases h with h | h <;> rw [h] <;> exact ok.has _ (.inl rfl)
    refine xss_cons (xs_asg (xe_ix (xe_var 0) xe_int (ixo_tup (d := eQ s.wait s.phase) rfl)) (xg_tup rfl (xgs_cons (xg_name 4 sx_follow.nd) (xgs_cons (xg_name 5 sx_follow.nd) xgs_nil)))) <|
      xss_cons (xs_asg (xe_call (polledX T.w) (hr.mono (by decide)) (xa_cons (xe_var 4) (xa_cons (xe_var 5) (xa_cons (xe_var 2) (xa_cons (xe_var 3) xa_nil)))) ⟨s.wait, s.phase, per, off, hper, by omega, rfl, rfl⟩) (xg_tup rfl (xgs_cons (xg_name 6 sx_follow.nd) (xgs_cons (xg_name 7 sx_follow.nd) (xgs_cons (xg_name 8 sx_follow.nd) xgs_nil))))) <|
      xss_cons (xs_set 9 (xe_tup (xd_cons (xe_var 6) (xd_cons (xe_tup (xd_cons (xe_var 7) (xd_cons (xe_var 8) xd_nil))) xd_nil))) sx_follow.nd) <| xss_one ?_
    refine xs_retO (oe := some (.own ((followF c per off s).map eEv))) [("waiting", 4), ("phase", 5)] (fun p hp => ?_) (fun z => nomatch z) (T.w.glo 22) (T.w.df 22 (d := d_follow_queue)).choose_spec.kp
      (xaf_cons (xe_var 1) (xaf_cons (xe_var 0) (xaf_cons (xe_var 4) (xaf_lam rfl mk hcells ?_ (xaf_of (xa_cons (xe_var 9) xa_nil)))))) ?_
    · simp only [List.mem_cons, List.not_mem_nil, or_false] at hp
      rcases hp with rfl | rfl
      · exact ⟨rfl, rfl, rfl, _, rfl⟩
      · exact ⟨rfl, rfl, rfl, _, rfl⟩
    · intro vs H F H' F' z g a
      exact a.mono (g.same z)
    · intro σ L vs0 H1 F1 vs ok sh n sg sl z t ⟨v0, vs1, e0, a0, v1, vs2, e1, a1, v2, vs3, e2, a2, f1, c1, T1, vs4, e3, hf, hc, a4⟩
      subst e0 e1 e2 e3
      rw [hq] at hf hc
      have cell := shown_cell sh
      obtain ⟨vw, vp, rfl, hvw, hvp⟩ : ∃ vw vp, vs0 = [vw, vp] ∧ σ[4]? = some (some vw) ∧ σ[5]? = some (some vp) := by
        cases sh with
        | cons _ k1 _ _ sh =>
          cases sh with
          | cons _ k2 _ _ sh =>
            cases sh
            exact ⟨_, _, rfl, k1, k2⟩
      obtain ⟨v4, k4, d4⟩ := sl 4 (.dat (.tuple (dS s.wait))) rfl
      obtain ⟨v5, k5, d5⟩ := sl 5 (.dat (.int s.phase)) rfl
      rw [hvw] at k4
      rw [hvp] at k5
      cases k4
      cases k5
      have hn : ∀ p ∈ facts L ++ [(f1, FnX f1 (NXn (L2.cloFrom (xcx CX0 P w K mg base N_follow (NXf cl c') f A outer s0 H E).nox.env.cells (lamScope lamN).names []) c1)), (c1, CdX c1 T1 qN)], NoL p.2 := nol_facts fun p hp => by
        simp only [List.mem_cons, List.not_mem_nil, or_false] at hp
        rcases hp with rfl | rfl
        · exact nol_FnX
        · exact ⟨fun _ z => (nomatch z), fun _ z => (nomatch z)⟩
      have held : HeldX (gdX w K (kn.add _ hn [])) (NXn (L2.cloFrom (xcx CX0 P w K mg base N_follow (NXf cl c') f A outer s0 H E).nox.env.cells (lamScope lamN).names []) c1) f1 ["waiting", "phase"] (adr L) [vw, vp] :=
        heldX_made (T' := T1) ok sh rfl hfree (by decide +kernel) (fun H t => ⟨t.2.1 _ (List.mem_append_left _ (List.mem_append_right _ (List.mem_cons_self ..))), t.2.1 _ (List.mem_append_left _ (List.mem_append_right _ (List.mem_cons_of_mem _ (List.mem_cons_self ..))))⟩) fun H t p hp => t.2.1 (p.1, SetX p.1 p.2) (List.mem_append_left _ (List.mem_append_left _ (List.mem_map.mpr ⟨p, hp, rfl⟩)))
      exact callee_show (hn := hn) rfl rfl t n sg cell (fun p hp => by
        simp only [List.mem_cons, List.not_mem_nil, or_false] at hp
        rcases hp with rfl | rfl
        · exact hf
        · exact hc) (C_follow_queue T C hs hd (V_name (aside_show t n cell) held (by omega))).toE hr ⟨_, rfl, rfl, rfl⟩ rfl (.cons a0 (.cons a1 (.cons a2 (.cons ⟨rfl, fun p hp => by
          simp only [List.mem_cons, List.not_mem_nil, or_false] at hp
          rcases hp with rfl | rfl
          · exact d4
          · exact d5, fun _ h => nomatch h⟩ a4)))) fun en e => by
            cases e
            trivial
end
end LC
namespace LC
open PySem PySem.Spec PyProof.Rows L2

/-! ### is_end, first_end -/
theorem FnV.mono {G : Gd} {P : Program} {w : World} {K : PySem.W.Frag} {mg : Str → Option Value} {base : Heap} {j k : Nat} {f : Addr} {c : Rs} {n : Nat} {Φ : List Rs → En → Prop} (h : FnV G P w K mg base j f c n Φ) (hjk : j ≤ k) : FnV G P w K mg base k f c n Φ := ⟨h.at_, fun A outer s H us vs Q E hr => h.run A outer s H us vs Q E (hr.mono hjk)⟩
theorem kept_snoc {kept : List Nd} {x : Nd} (h : Kept kept) (hx : x.2.1 < kept.length) : Kept (kept ++ [x]) := fun i h0 hi => by
  rw [List.length_append, List.length_singleton] at hi
  rw [List.getD_eq_getElem?_getD]
  by_cases hl : i < kept.length
  · rw [List.getElem?_append_left hl]
    have := h i h0 hl
    rwa [List.getD_eq_getElem?_getD] at this
  · have e : i = kept.length := by omega
    subst e
    rw [List.getElem?_append_right (Nat.le_refl _), Nat.sub_self]
    exact hx
theorem visF_kept {isE : Sc → Bool} {i : Nat} : ∀ (l : List (Ev × Option Sc)) (kept : List Nd), Kept kept → i < kept.length → kept.length ≤ 1000 →
    (∀ k2, visF isE i l kept = .go k2 → Kept k2 ∧ kept.length ≤ k2.length ∧ k2.length ≤ 1000) ∧ ∀ k2, visF isE i l kept = .found k2 → Kept k2 ∧ 0 < k2.length ∧ k2.length ≤ 1000
  | [], kept, h, _, hz => by
    constructor
    · intro k2 e
      rw [visF] at e
      cases e
      exact ⟨h, Nat.le_refl _, hz⟩
    · intro k2 e
      rw [visF] at e
      cases e
  | (e, none) :: l, kept, h, _, _ => by
    constructor <;> intro k2 e <;> rw [visF] at e <;> cases e
  | (e, some s) :: l, kept, h, hi, hz => by
    have ih := visF_kept (isE := isE) (i := i) l kept h hi hz
    rw [visF]
    split
    · exact ih
    · split
      · constructor <;> intro k2 e <;> cases e
      · have hl : (kept ++ [((s, i, some e) : Nd)]).length = kept.length + 1 := by rw [List.length_append, List.length_singleton]
        have hk := kept_snoc (x := (s, i, some e)) h hi
        split
        · constructor
          · intro k2 e
            cases e
          · intro k2 e
            cases e
            exact ⟨hk, by omega, by omega⟩
        · obtain ⟨a, b⟩ := visF_kept (isE := isE) (i := i) l (kept ++ [(s, i, some e)]) hk (by omega) (by omega)
          exact ⟨fun k2 e => by obtain ⟨x, y, z⟩ := a k2 e; exact ⟨x, by omega, z⟩, b⟩
theorem bfsF_kept {fo : Sc → List (Ev × Option Sc)} {isE : Sc → Bool} : ∀ (n i : Nat) (kept : List Nd), Kept kept → kept.length ≤ 1000 → ∀ k2, bfsF fo isE n i kept = .found k2 → Kept k2 ∧ 0 < k2.length ∧ k2.length ≤ 1000
  | 0, i, kept, _, _, k2, e => by rw [bfsF] at e; cases e
  | n + 1, i, kept, h, hz, k2, e => by
    rw [bfsF] at e
    split at e
    · rename_i hi
      obtain ⟨a, b⟩ := visF_kept (isE := isE) (i := i) (fo (kept.getD i ndD).1) kept h hi hz
      cases hv : visF isE i (fo (kept.getD i ndD).1) kept with
      | large => rw [hv] at e; cases e
      | found k => rw [hv] at e; cases e; exact b k2 hv
      | go k =>
        rw [hv] at e
        obtain ⟨x, _, z⟩ := a k hv
        exact bfsF_kept n (i + 1) k x z k2 e
    · cases e
theorem exploreF_kept {fo : Sc → List (Ev × Option Sc)} {isE : Sc → Bool} {s : Sc} {k2 : List Nd} (e : exploreF fo isE s = .found k2) : Kept k2 ∧ 0 < k2.length ∧ k2.length ≤ 1000 := bfsF_kept 1001 0 [(s, 0, none)] (fun i h0 hi => by
  rw [List.length_singleton] at hi
  omega) (by simp) k2 e
abbrev st_isend : Stmt := match s_first_end with
  | .FunctionDef _ _ (a :: _) _ _ _ _ _ _ _ => a
  | _ => .Pass default
abbrev NXe (cl : List (Str × Addr)) (c : Addr) : NX := ⟨"is_end", qE, C8.fnArgs st_isend, .stmts (C8.fnBody st_isend), C8.fnScope st_isend, cl, c⟩
theorem sx_isend : XScope ["scene", "case", "waits"] "scene" ["case", "waits"] (C8.fnScope st_isend) := ⟨rfl, rfl, rfl, by decide +kernel, rfl, rfl, by decide +kernel, by decide +kernel, by decide +kernel⟩
/-- what first_end gives -/
def outE : Fnd → Option En
  | .large => none
  | .found k => some (.own (upF k (k.length - 1) (k.length - 1)).reverse)
  | .go _ => some non_
section
variable {P : Program} {w : World} {K : PySem.W.Frag} {mg : Str → Option Value} {base : Heap} {kn kn' : Kn} {cs : List Addr} {cl : List (Str × Addr)} {c' f g : Addr}
theorem is_harmfulX (T : Wt K mg base) : FnG (gdX w K kn) P w K mg base 7 "is_harmful" 2 (fun rs en => ∃ (c : Cs) (s : Sc), c.Ok ∧ s.a.Ok c.prog ∧ s.b.Ok c.prog ∧ s.ds.length = c.prog.chans.length ∧ (∀ d ∈ s.ds, okD d ∧ d.1.length ≤ 190000 ∧ d.2.length ≤ 190000) ∧ rs = [.cas (eK c), .dat (eSc s)] ∧ en = bl_ (harmF c s)) :=
  (C_is_harmful T).subT subT_gd fun rs en ⟨_, _, _, _, _, _, _, _, e⟩ => e ▸ trivial
theorem events_toX (T : Wd K mg) : FnG (gdX w K kn) P w K mg base 1 "events_to" 2 (fun rs en => ∃ (kept : List Nd) (i : Nat), Kept kept ∧ i < kept.length ∧ kept.length ≤ 1000 ∧ rs = [.dat (.list (kept.map eN)), .dat (.int (i : Int))] ∧ en = .own (upF kept i i).reverse) := (C_events_to T).subT subT_gd fun rs en ⟨_, _, _, _, _, _, e⟩ => e ▸ trivial
theorem V_isend (T : Wt K mg base) {vc : V} {c : Cs} (C : c.Ok) (As : AsideX P w (gdX w K kn) (gdX w K kn') cs) (hh : HeldX (gdX w K kn') (NXe cl c') f ["case", "waits"] cs [vc, .ref g])
    (HW : FnV (gdX w K kn) P w K mg base 1 g (.clo g [] []) 1 (fun rs en => ∃ s : Sc, rs = [.dat (eSc s)] ∧ en = tup_ (dS s.wait))) :
    FnV (gdX w K kn') P w K mg base 8 f (.clo f [] [(vc, eK c)]) 1 (fun rs en => ∃ s d, d ≤ 1000 ∧ ScOk c d s ∧ rs = [.dat (eSc s)] ∧ en = bl_ (endF c s)) :=
  fnV_ofX (k := 7) (N := ["scene", "case", "waits"]) (crs := [.cas (eK c), .clo g [] []]) sx_isend (fun _ _ _ _ => rfl) As hh (fun rs en ⟨_, _, _, _, _, e⟩ => e ▸ trivial) (fun F0 h => .cons (h.2.2 (vc, eK c) (by simp)) (.cons ⟨rfl, fun _ h => (nomatch h), fun _ h => nomatch h⟩ .nil)) fun A outer s0 H E hr r en ⟨s, d, hd, hs, e1, e2⟩ => by
    cases e1
    subst e2
    refine ⟨_, .inl rfl, ?_⟩
    refine xss_one (xs_ret (XE.is (xe_and (xe_cmp (xe_ix (xe_var 0) xe_int (ixo_tup (d := eFo s.snd) rfl)) xe_non bin_isN) fun _ => xe_and (xe_notT (xe_callV 2 HW (hr.mono (by decide)) (xa_cons (xe_var 0) xa_nil) ⟨s, rfl, rfl⟩)) fun _ => xe_one (xe_call (is_harmfulX T) (hr.mono (by decide)) (xa_cons (xe_var 1) (xa_cons (xe_var 0) xa_nil)) ⟨c, s, C, hs.a, hs.b, hs.l, fun x hx => ?_, rfl, rfl⟩)) ?_))
    · obtain ⟨h1, h2, h3⟩ := hs.ds x hx
      exact ⟨h1, by omega, by omega⟩
    · rw [show isNoneR (.dat (eFo s.snd)) = s.snd.isNone from by cases s.snd <;> rfl, show truthD (.tuple (dS s.wait)) = !s.wait.isEmpty from by cases s.wait <;> rfl, Bool.not_not, ← Bool.and_assoc]
      rfl
theorem fnE_ofC {G : Gd} {x qual : Str} {params : Arguments} {body : List Stmt} {scope : Scope} {dvs : List V} {kws : List (Str × V)} {fd : FuncData} {N ps : List Str} {k : Nat} {Φ : List Rs → Option En → Prop} {at_ : Str × Option Str}
    (F : FunD K x qual params body scope dvs kws (He.fAd K at_) fd) (S : FnScope N ps scope) (hm : mg x = some (.ref (He.fAd K at_))) (hb : Binds K fd ps [])
    (hbody : ∀ (A : Around) (outer : List Env) (s : Shared) (H : Hp) (E : XK), Room k (A.deeper (envOfC qual scope s.heap.objs.size (He.fAd K at_) (.ref (He.codeOf K at_)))) → ∀ rs oe, rs.length = ps.length → Φ rs oe → ∀ Ex : Hp → Prop, Tk (bxE P w K mg base N qual scope (He.fAd K at_) (.ref (He.codeOf K at_)) A outer s H E) Ex →
      ∃ o, EndsE oe o ∧ XSs G (bxE P w K mg base N qual scope (He.fAd K at_) (.ref (He.codeOf K at_)) A outer s H E) Ex body (ro N rs) o) : FnE G P w K mg base (k + 1) x ps.length Φ := by
  have hkp := F.kp
  obtain ⟨oc, od, dV, kV, doc, pm, an, cdv, ct, osl, rfl, lk, hcd, _, _⟩ := F.ex
  obtain ⟨c, rfl⟩ := He.codeIn_ref hcd
  have ec := He.codeOf_eq lk (c := c) rfl
  refine ⟨_, _, ps, fn_of lk hcd S (fun vs H Q E ⟨F, rs, en, _, _, a, hl, _⟩ => a.length.trans hl) fun A outer s H vs Q E hr ⟨F1, rs, oe, z, t, a, hl, hφ, q, qe⟩ => ?_, hm, hkp, hb⟩
  rw [← ec] at hr ⊢
  obtain ⟨o, ho, hx⟩ := hbody A outer s H E hr rs oe hl hφ (fun H' => ∀ d, E (TLc K) d H') (tk_bxE fun d H h => h d)
  refine ⟨_, pss_s (X := bxE P w K mg base N qual scope (He.fAd K at_) (.ref (He.codeOf K at_)) A outer s H E), hx _ _ _ _ _ _ (sta_ro z t a) _ ?_⟩
  cases oe with
  | none =>
    have ho : o = .xc := ho
    subst ho
    exact fun H' F' g z' t' d => qe rfl d H' F' g z' t'
  | some en =>
    rcases ho with e | ⟨ρ', e, e'⟩
    · subst e
      exact fun v H1 F2 n => q en rfl v H1 F2 n
    · subst e e'
      exact fun σ1 H1 F2 S1 => q _ rfl .non H1 F2 (.from S1.grow (Nx.rs0 (r := Rs.dat .none) S1 Dt.non))
theorem xss_defQ {X : Cx} {Ex : Hp → Prop} {ρ : Ro} {name q : Str} {params : Arguments} {scope : Scope} {pos : Pos} {W : Hp → Addr → Prop} {sts : List Stmt} {o : Out} {b : List Stmt} (i : Nat) (reg : Bool) (hK : X.K = K) (hq : X.env.qual ++ name = q) (M : Mkr (gdX w K kn) X pos q W) (hW : reg = true → ∀ H c, W H c → Reg K H c) (hfree : X.Ok → ∀ y ∈ scope.names, y.2 = .free → ∃ c, X.env.cells.lookup y.1 = some c)
    (h : ∀ f c' T' hn, XSs (gdX w K (kn.add [(f, FnX f (MadeF X name q params (.stmts b) scope c')), (c', CdX c' T' q)] hn (if reg = true then [c'] else []))) X Ex sts (ρ.set i (some (.rs (.clo f [] [])))) o)
    (nob : ρ.all nobO = true := by rfl) (hd0 : params.defaults = [] := by rfl) (hk0 : params.kw_defaults = [] := by rfl) (ha : annTrees params none X.env = [] := by rfl)
    (hN : X.N.Nodup) (hi : X.N[i]? = some name := by rfl) (hx : Loc X.env.scope name := by first | exact .inl rfl | exact .inr rfl) (hf : X.fn name = true ∨ X.env.scope.names.lookup name = some .local := by first | exact .inl rfl | exact .inr rfl) :
    XSs (gdX w K kn) X Ex (.FunctionDef name params b [] none [] scope none name pos :: sts) ρ o := by
  subst hq
  exact xss_def i reg hK M hW hfree (fun f c' T' => h f c' T' _) nob hd0 hk0 ha hN hi hx hf
abbrev N_fe : List Str := ["case", "first", "follow", "waits", "is_end", "kept", "end"]
theorem sc_first_end : FnScope N_fe ["case", "first", "follow", "waits"] (defScope s_first_end) := ⟨rfl, rfl, rfl, by decide +kernel, rfl, by decide +kernel, by decide +kernel⟩
theorem C_first_end (T : Wt K mg base) {c : Cs} {per off : Int} (C : c.Ok) (hN : NdSg c) {pf : List (V × PyData)} {cf : List (V × CaseD)}
    (HF : FnV (gdX w K kn) P w K mg base 11 f (.clo f pf cf) 1 (fun rs en => ∃ s d, d < 1000 ∧ ScOk c d s ∧ rs = [.dat (eSc s)] ∧ en = .own ((followF c per off s).map eEv)))
    (HW : FnV (gdX w K kn) P w K mg base 1 g (.clo g [] []) 1 (fun rs en => ∃ s : Sc, rs = [.dat (eSc s)] ∧ en = tup_ (dS s.wait))) :
    FnE (gdX w K kn) P w K mg base 13 "first_end" 4 (fun rs oe => ∃ s, ScOk c 0 s ∧ rs = [.cas (eK c), .dat (eSc s), .clo f pf cf, .clo g [] []] ∧ oe = outE (exploreF (followF c per off) (endF c) s)) := by
  obtain ⟨fd, F⟩ := T.w.df 23 (d := d_first_end)
  refine fnE_ofC (at_ := ("first_end", none)) F sc_first_end (T.w.glo 23) (F.bindsN fun _ _ _ _ _ _ us hl => match us, hl with | [_, _, _, _], _ => rfl) fun A outer s0 H E hr rs oe hl hφ Ex tk => ?_
  obtain ⟨s, hs, rfl, rfl⟩ := hφ
  let X : Cx := bxE P w K mg base N_fe d_first_end.qual d_first_end.scope (He.fAd K ("first_end", none)) (.ref (He.codeOf K ("first_end", none))) A outer s0 H E
  have hq : X.env.qual ++ "is_end" = qE := show "first_end" ++ ".<locals>." ++ "is_end" = qE by decide +kernel
  have hfree : ∀ y ∈ (C8.fnScope st_isend).names, y.2 = .free → y.1 ∈ (["case", "waits"] : List Str) := sx_isend.free
  have hcells : X.Ok → ∀ y ∈ (C8.fnScope st_isend).names, y.2 = .free → ∃ c, X.env.cells.lookup y.1 = some c := fun ok y hy e => by
    have h := hfree y hy e
    simp only [List.mem_cons, List.not_mem_nil, or_false] at h
    rcases h with h | h <;> rw [h] <;> exact ok.has _ (.inl rfl)
  have glue : ∀ (fe ce Te : Addr) (hn : ∀ p ∈ [(fe, FnX fe (MadeF X "is_end" qE (C8.fnArgs st_isend) (.stmts (C8.fnBody st_isend)) (C8.fnScope st_isend) ce)), (ce, CdX ce Te qE)], NoL p.2) σ L vs0 H1 F1 vs, X.Ok → ShownAt X σ [("case", 0), ("waits", 3)] L vs0 → (∀ p ∈ L, H1 p.1 = none) → (∀ p ∈ L, showL H1 L p.1 = some (SetX p.1 p.2)) →
      (∀ (i : Nat) (r : Rs), ([some (.rs (.cas (eK c))), some (dat_ (eSc s)), some (.rs (.clo f pf cf)), some (.rs (.clo g [] [])), some (.rs (.clo fe [] [])), none, none] : Ro)[i]? = some (some (En.rs r)) → ∃ v, σ[i]? = some (some v) ∧ r.At (gdX w K (kn.add [(fe, FnX fe (MadeF X "is_end" qE (C8.fnArgs st_isend) (.stmts (C8.fnBody st_isend)) (C8.fnScope st_isend) ce)), (ce, CdX ce Te qE)] hn [])) X.K F1 v) → Fz F1 H1 →
      (gdX w K (kn.add [(fe, FnX fe (MadeF X "is_end" qE (C8.fnArgs st_isend) (.stmts (C8.fnBody st_isend)) (C8.fnScope st_isend) ce)), (ce, CdX ce Te qE)] hn [])).tab H1 → RsAll (gdX w K (kn.add [(fe, FnX fe (MadeF X "is_end" qE (C8.fnArgs st_isend) (.stmts (C8.fnBody st_isend)) (C8.fnScope st_isend) ce)), (ce, CdX ce Te qE)] hn [])) X.K F1 vs [.dat (eSc s), .clo f pf cf, .clo fe [] []] →
      CalleeO (gdX w K (kn.add [(fe, FnX fe (MadeF X "is_end" qE (C8.fnArgs st_isend) (.stmts (C8.fnBody st_isend)) (C8.fnScope st_isend) ce)), (ce, CdX ce Te qE)] hn [])) X "explore" L H1 F1 vs ((eFnd (exploreF (followF c per off) (endF c) s)).map En.rs) := by
    intro fe ce Te hn σ L vs0 H1 F1 vs ok sh n sg sl z t a
    have cell := shown_cell sh
    obtain ⟨vc, vg, rfl, hvc, hvg⟩ : ∃ vc vg, vs0 = [vc, vg] ∧ σ[0]? = some (some vc) ∧ σ[3]? = some (some vg) := by
      cases sh with
      | cons _ k1 _ _ sh =>
        cases sh with
        | cons _ k2 _ _ sh =>
          cases sh
          exact ⟨_, _, rfl, k1, k2⟩
    obtain ⟨v0, k0, d0⟩ := sl 0 (.cas (eK c)) rfl
    obtain ⟨v3, k3, d3, _⟩ := sl 3 (.clo g [] []) rfl
    rw [hvc] at k0
    rw [hvg] at k3
    cases k0
    cases k3
    subst d3
    have hn2 : ∀ p ∈ facts L ++ [], NoL p.2 := nol_facts fun p hp => nomatch hp
    have held : HeldX (gdX w K ((kn.add _ hn []).add (facts L ++ []) hn2 [])) (NXe (L2.cloFrom X.env.cells (C8.fnScope st_isend).names []) ce) fe ["case", "waits"] (adr L) [vc, .ref g] :=
      heldX_made (T' := Te) ok sh rfl hfree (by decide +kernel) (fun H t => ⟨t.2.1 _ (List.mem_append_right _ (List.mem_append_left _ (List.mem_cons_self ..))), t.2.1 _ (List.mem_append_right _ (List.mem_append_left _ (List.mem_cons_of_mem _ (List.mem_cons_self ..))))⟩) fun H t p hp => t.2.1 (p.1, SetX p.1 p.2) (List.mem_append_left _ (List.mem_append_left _ (List.mem_map.mpr ⟨p, hp, rfl⟩)))
    have HW1 : FnV (gdX w K (kn.add _ hn [])) P w K mg base 1 g (.clo g [] []) 1 (fun rs en => ∃ s : Sc, rs = [.dat (eSc s)] ∧ en = tup_ (dS s.wait)) := HW.subT (subT_gdX (kn := kn) (kn' := kn.add _ hn []) (fun p hp => List.mem_append_right _ hp) fun c hc => hc) fun rs en ⟨_, _, e⟩ => e ▸ trivial
    have HE := (V_isend T C (aside_show (P := P) (hn := hn2) t n cell) held HW1).mono (show 8 ≤ 11 by decide)
    have HF1 := HF.subT (subT_gdX (kn' := (kn.add _ hn []).add (facts L ++ []) hn2 []) (fun p hp => List.mem_append_right _ (List.mem_append_right _ hp)) fun c hc => hc) fun rs en ⟨_, _, _, _, _, e⟩ => e ▸ trivial
    have he := C_explore T.w (kn := (kn.add _ hn []).add (facts L ++ []) hn2 []) HF1 HE (fun d s hd hs => follow_ok C hN hs) (fun d s hs => hs.up)
    cases a with
    | cons a1 a =>
    cases a with
    | cons a2 a =>
    cases a with
    | cons a4 a =>
      cases a
      exact callee_show (hn := hn2) rfl rfl t n sg cell (fun p hp => nomatch hp) he (hr.mono (by decide)) ⟨s, hs, rfl, rfl⟩ rfl (.cons a1 (.cons a2 (.cons ⟨a4.1, fun _ h => (nomatch h), fun p hp => by
        rw [List.mem_singleton.mp hp]
        exact d0⟩ .nil))) fun en e => by
          cases hv : eFnd (exploreF (followF c per off) (endF c) s) with
          | none => rw [hv] at e; cases e
          | some r => rw [hv] at e; cases e; trivial
  have hjs : ∀ (ρ : Ro), ρ[0]? = some (some (.rs (.cas (eK c)))) → ρ[3]? = some (some (.rs (.clo g [] []))) → ∀ p ∈ ([("case", 0), ("waits", 3)] : List (Str × Nat)), X.N[p.2]? = some p.1 ∧ X.env.scope.names.lookup p.1 = some .cell ∧ X.fn p.1 = true ∧ ∃ r : Rs, ρ[p.2]? = some (some (En.rs r)) := fun ρ h0 h3 p hp => by
    simp only [List.mem_cons, List.not_mem_nil, or_false] at hp
    rcases hp with rfl | rfl
    · exact ⟨rfl, rfl, rfl, _, h0⟩
    · exact ⟨rfl, rfl, rfl, _, h3⟩
  have kp := (T.w.df 18 (d := d_explore)).choose_spec.kp
  have start : ∀ o, (∀ (fe ce Te : Addr) hn, XSs (gdX w K (kn.add [(fe, FnX fe (MadeF X "is_end" qE (C8.fnArgs st_isend) (.stmts (C8.fnBody st_isend)) (C8.fnScope st_isend) ce)), (ce, CdX ce Te qE)] hn [])) X Ex (match s_first_end with | .FunctionDef _ _ (_ :: r) _ _ _ _ _ _ _ => r | _ => []) [some (.rs (.cas (eK c))), some (dat_ (eSc s)), some (.rs (.clo f pf cf)), some (.rs (.clo g [] [])), some (.rs (.clo fe [] [])), none, none] o) →
      XSs (gdX w K kn) X Ex (defBody s_first_end) (ro N_fe [.cas (eK c), .dat (eSc s), .clo f pf cf, .clo g [] []]) o := fun o h =>
    xss_defQ (b := C8.fnBody st_isend) 4 false rfl hq (mkrE (P := P) T rfl rfl rfl) (fun z => nomatch z) hcells (fun fe ce Te hn => h fe ce Te hn) (hN := sc_first_end.nd)
  cases hv : exploreF (followF c per off) (endF c) s with
  | large =>
    refine ⟨.xc, rfl, start _ fun fe ce Te hn => xss_xc ?_⟩
    have q := glue fe ce Te hn
    rw [hv] at q
    exact xs_asgO (or := none) (ρ' := []) (is := []) [("case", 0), ("waits", 3)] (hjs _ rfl rfl) (fun _ => tk) (T.w.glo 18) kp (xaf_of (xa_cons (xe_var 1) (xa_cons (xe_var 2) (xa_cons (xe_var 4) xa_nil)))) q (fun r z => nomatch z)
  | found k2 =>
    obtain ⟨h1, h2, h3⟩ := exploreF_kept hv
    refine ⟨_, .inl rfl, start _ fun fe ce Te hn => ?_⟩
    have q := glue fe ce Te hn
    rw [hv] at q
    refine xss_cons (xs_asgO (or := some (.dat (.tuple [.list (k2.map eN), .int ((k2.length : Int) - 1)]))) [("case", 0), ("waits", 3)] (hjs _ rfl rfl) (fun z => nomatch z) (T.w.glo 18) kp (xaf_of (xa_cons (xe_var 1) (xa_cons (xe_var 2) (xa_cons (xe_var 4) xa_nil)))) q (fun r z => by
      cases z
      exact xg_tup rfl (xgs_cons (xg_name 5 sc_first_end.nd) (xgs_cons (xg_name 6 sc_first_end.nd) xgs_nil)))) <|
      xss_cons (xs_if (xt_cmp (xe_var 6) xe_non bin_isN) (fun z => by cases z) (fun _ => xss_nil)) <|
      xss_one (xs_ret (xe_call (events_toX T.w) (hr.mono (by decide)) (xa_cons (xe_var 5) (xa_cons (xe_var 6) xa_nil)) ⟨k2, k2.length - 1, h1, by omega, h3, ?_, rfl⟩))
    rw [show ((k2.length : Int) - 1) = ((k2.length - 1 : Nat) : Int) from by omega]
  | go k2 =>
    refine ⟨_, .inl rfl, start _ fun fe ce Te hn => ?_⟩
    have q := glue fe ce Te hn
    rw [hv] at q
    exact xss_cons (xs_asgO (or := some (.dat (.tuple [.list (k2.map eN), .none]))) [("case", 0), ("waits", 3)] (hjs _ rfl rfl) (fun z => nomatch z) (T.w.glo 18) kp (xaf_of (xa_cons (xe_var 1) (xa_cons (xe_var 2) (xa_cons (xe_var 4) xa_nil)))) q (fun r z => by
      cases z
      exact xg_tup rfl (xgs_cons (xg_name 5 sc_first_end.nd) (xgs_cons (xg_name 6 sc_first_end.nd) xgs_nil)))) <|
      xss_ret (xs_if (xt_cmp (xe_var 6) xe_non bin_isN) (fun _ => xss_one (xs_ret xe_non)) (fun z => by cases z))
end
end LC
namespace LC
open PySem PySem.Spec PyProof.Rows L2

/-! ### first_polling_harm -/
abbrev lamS : Expr := match s_first_polling_harm with
  | .FunctionDef _ _ [_, _, .Return (some (.Call _ [_, _, _, l] _ _)) _] _ _ _ _ _ _ _ => l
  | _ => .Constant .none 0 default
abbrev NXs (cl : List (Str × Addr)) (c : Addr) : NX := ⟨"<lambda>", qS, lamArgs lamS, .expr (lamBody lamS), lamScope lamS, cl, c⟩
theorem sx_scene : XScope ["scene"] "scene" [] (lamScope lamS) := ⟨rfl, rfl, rfl, by decide +kernel, rfl, rfl, by decide +kernel, by decide +kernel, by decide +kernel⟩
def knil : Kn := ⟨[], fun _ h => (nomatch h), []⟩
/-- what first_polling_harm gives -/
noncomputable def harmOut (c : Cs) (per off : Int) : Option En := outE (exploreF (followF c per off) (endF c) (firstF c))
theorem firstF_ok {c : Cs} (C : c.Ok) : ScOk c 0 (firstF c) where
  a := List.length_map _
  b := List.length_map _
  l := by show (c.views.map _).length = _; rw [List.length_map]; exact C.v
  snd := fun cf e => by
    cases e
    exact List.length_map _
  w := Nat.zero_le _
  ds := fun x hx => by
    obtain ⟨_, _, rfl⟩ := List.mem_map.mp hx
    exact ⟨⟨fun _ h => (nomatch h), fun _ h => nomatch h⟩, Nat.le_refl _, Nat.le_refl _⟩
section
variable {P : Program} {w : World} {K : PySem.W.Frag} {mg : Str → Option Value} {base : Heap} {kn kn' : Kn} {cs : List Addr} {cl : List (Str × Addr)} {c' f g : Addr}
theorem dele_nil (H : Hp) : dele H [] = H := funext fun b => by simp [dele]
theorem asideX_nil : AsideX P w (gdX w K kn) (gdX w K kn) [] where
  sub := subT_gdX (fun _ h => h) fun _ h => h
  ext := fun H t c h => nomatch h
  tab := fun H h _ t => by rw [dele_nil]; exact t
theorem V_scene (hh : HeldX (gdX w K kn) (NXs cl c') f [] [] []) : FnV (gdX w K kn) P w K mg base 1 f (.clo f [] []) 1 (fun rs en => ∃ s : Sc, rs = [.dat (eSc s)] ∧ en = tup_ (dS s.wait)) :=
  fnV_ofX (k := 0) (crs := []) sx_scene (fun _ _ _ _ => rfl) asideX_nil hh (fun rs en ⟨_, _, e⟩ => e ▸ trivial) (fun F0 h => .nil) fun A outer s0 H E hr r en ⟨s, e1, e2⟩ => by
    cases e1
    subst e2
    show XE _ _ (lamBody lamS) _ _
    exact xe_ix (xe_ix (xe_var 0) xe_int (ixo_tup (d := eQ s.wait s.phase) rfl)) xe_int (ixo_tup (d := .tuple (dS s.wait)) rfl)
theorem first_sceneX (T : Wd K mg) : FnG (gdX w K kn) P w K mg base 2 "first_scene" 1 (fun rs en => ∃ c : Cs, c.Ok ∧ rs = [.cas (eK c)] ∧ en = tup_ [eF (startF c.traf), .tuple [], eF (startF c.prog), eF (startF c.prog), .tuple ((c.views.map fun _ => (([], []) : Df)).map eD)]) := (C_first_scene T).subT subT_gd fun rs en ⟨_, _, _, e⟩ => e ▸ trivial
abbrev N_fph : List Str := ["case", "period", "offset", "follow", "first"]
theorem sc_fph : FnScope N_fph ["case", "period", "offset"] (defScope s_first_polling_harm) := ⟨rfl, rfl, rfl, by decide +kernel, rfl, by decide +kernel, by decide +kernel⟩
theorem C_fphX (T : Wt K mg base) : FnE (gdX w K kn) P w K mg base 14 "first_polling_harm" 3 (fun rs oe => ∃ (c : Cs) (per off : Int), c.Ok ∧ NdSg c ∧ 0 < per ∧ rs = [.cas (eK c), .dat (.int per), .dat (.int off)] ∧ oe = harmOut c per off) := by
  obtain ⟨fd, F⟩ := T.w.df 24 (d := d_first_polling_harm)
  obtain ⟨ds0, hd1, hd2⟩ := F.binds1 3 1 (ps := ["case", "period", "offset"]) (fun z => nomatch z) rfl (fun Tt kV doc pm an cdv ct us its h1 h2 => match us, its, h1, h2 with | [_, _, _], [_], _, _ => ⟨_, rfl, rfl⟩)
  obtain rfl : ds0 = [] := by cases hd1; rfl
  refine fnE_ofC (at_ := ("first_polling_harm", none)) F sc_fph (T.w.glo 24) hd2 fun A outer s0 H E hr rs oe hl hφ Ex tk => ?_
  obtain ⟨c, per, off, C, hN, hper, rfl, rfl⟩ := hφ
  let X : Cx := bxE P w K mg base N_fph d_first_polling_harm.qual d_first_polling_harm.scope (He.fAd K ("first_polling_harm", none)) (.ref (He.codeOf K ("first_polling_harm", none))) A outer s0 H E
  have hq : X.env.qual ++ "follow" = qF := show "first_polling_harm" ++ ".<locals>." ++ "follow" = qF by decide +kernel
  have hqs : X.env.qual ++ "<lambda>" = qS := show "first_polling_harm" ++ ".<locals>." ++ "<lambda>" = qS by decide +kernel
  have hfree : ∀ y ∈ (C8.fnScope st_follow).names, y.2 = .free → y.1 ∈ (["case", "period", "offset"] : List Str) := sx_follow.free
  have hcells : X.Ok → ∀ y ∈ (C8.fnScope st_follow).names, y.2 = .free → ∃ c, X.env.cells.lookup y.1 = some c := fun ok y hy e => by
    have h := hfree y hy e
    simp only [List.mem_cons, List.not_mem_nil, or_false] at h
    rcases h with h | h | h <;> rw [h] <;> exact ok.has _ (.inl rfl)
  have mkS : ∀ kn', Mkr (gdX w K kn') X (match lamS with | .Lambda _ _ _ p => p | _ => default) (X.env.qual ++ "<lambda>") (fun H c => false = true → Reg K H c) := fun kn' => by
    rw [hqs]
    exact mkrF (P := P) T rfl rfl rfl (by decide +kernel) false fun z => nomatch z
  refine ⟨match harmOut c per off with | some en => .rt en | none => .xc, ?_, ?_⟩
  · cases harmOut c per off with
    | none => rfl
    | some en => exact .inl rfl
  refine xss_defQ (b := C8.fnBody st_follow) (pos := posF) 3 true rfl hq (mkrF (P := P) T rfl rfl rfl (by decide +kernel) true fun _ => rfl) (fun _ H c h => h rfl) hcells (fun ff cf Tf hn => ?_) (hN := sc_fph.nd)
  refine xss_cons (xs_set 4 (xe_call (first_sceneX T.w) (hr.mono (by decide)) (xa_cons (xe_var 0) xa_nil) ⟨c, C, rfl, rfl⟩) sc_fph.nd) (xss_one ?_)
  refine xs_retO [("case", 0), ("period", 1), ("offset", 2)] (fun p hp => ?_) (fun _ => tk) (T.w.glo 23) (T.w.df 23 (d := d_first_end)).choose_spec.kp
    (xaf_cons (xe_var 0) (xaf_cons (xe_call (with_queueX T.w) (hr.mono (by decide)) (xa_cons (xe_var 4) (xa_cons (xe_ix (xe_var 4) xe_int (ixo_tup (d := eF (startF c.traf)) rfl)) (xa_cons (xe_tup (xd_cons (xe_tup xd_nil) (xd_cons xe_int xd_nil))) xa_nil))) ⟨_, _, _, _, _, _, _, rfl, rfl⟩) (xaf_cons (xe_var 3) (xaf_lam rfl (mkS _) (fun ok y hy e => by
      have h := sx_scene.free y hy e
      cases h) ?_ (xaf_of xa_nil))))) ?_
  · simp only [List.mem_cons, List.not_mem_nil, or_false] at hp
    rcases hp with rfl | rfl | rfl
    · exact ⟨rfl, rfl, rfl, _, rfl⟩
    · exact ⟨rfl, rfl, rfl, _, rfl⟩
    · exact ⟨rfl, rfl, rfl, _, rfl⟩
  · intro vs H F H' F' z g a
    exact a.mono (g.same z)
  · intro σ L vs0 H1 F1 vs ok sh n sg sl z t ⟨v0, vs1, e0, a0, v1, vs2, e1, a1, v2, vs3, e2, a2, f1, c1, T1, vs4, e3, hf, hc, a4⟩
    subst e0 e1 e2 e3
    rw [hqs] at hf hc
    have cell := shown_cell sh
    obtain ⟨vc, vp, vo, rfl, hvc, hvp, hvo⟩ : ∃ vc vp vo, vs0 = [vc, vp, vo] ∧ σ[0]? = some (some vc) ∧ σ[1]? = some (some vp) ∧ σ[2]? = some (some vo) := by
      cases sh with
      | cons _ k1 _ _ sh =>
        cases sh with
        | cons _ k2 _ _ sh =>
          cases sh with
          | cons _ k3 _ _ sh =>
            cases sh
            exact ⟨_, _, _, rfl, k1, k2, k3⟩
    obtain ⟨w0, k0, d0⟩ := sl 0 (.cas (eK c)) rfl
    obtain ⟨w1, k1, d1⟩ := sl 1 (.dat (.int per)) rfl
    obtain ⟨w2, k2, d2⟩ := sl 2 (.dat (.int off)) rfl
    rw [hvc] at k0
    rw [hvp] at k1
    rw [hvo] at k2
    cases k0
    cases k1
    cases k2
    have hn2 : ∀ p ∈ facts L ++ [(f1, FnX f1 (NXs [] c1)), (c1, CdX c1 T1 qS)], NoL p.2 := nol_facts fun p hp => by
      simp only [List.mem_cons, List.not_mem_nil, or_false] at hp
      rcases hp with rfl | rfl
      · exact nol_FnX
      · exact ⟨fun _ z => (nomatch z), fun _ z => (nomatch z)⟩
    have held : HeldX (gdX w K ((kn.add _ hn [cf]).add _ hn2 [])) (NXf (L2.cloFrom X.env.cells (C8.fnScope st_follow).names []) cf) ff ["case", "period", "offset"] (adr L) [vc, vp, vo] :=
      heldX_made (T' := Tf) ok sh rfl hfree (by decide +kernel) (fun H t => ⟨t.2.1 _ (List.mem_append_right _ (List.mem_append_left _ (List.mem_cons_self ..))), t.2.1 _ (List.mem_append_right _ (List.mem_append_left _ (List.mem_cons_of_mem _ (List.mem_cons_self ..))))⟩) fun H t p hp => t.2.1 (p.1, SetX p.1 p.2) (List.mem_append_left _ (List.mem_append_left _ (List.mem_map.mpr ⟨p, hp, rfl⟩)))
    have heldS : HeldX (gdX w K ((kn.add _ hn [cf]).add _ hn2 [])) (NXs [] c1) f1 [] [] [] :=
      ⟨fun H t => ⟨t.2.1 _ (List.mem_append_left _ (List.mem_append_right _ (List.mem_cons_self ..))), T1, t.2.1 _ (List.mem_append_left _ (List.mem_append_right _ (List.mem_cons_of_mem _ (List.mem_cons_self ..))))⟩, rfl, fun y a e => (by cases e), fun x y a e => (by cases e), fun a h => (nomatch h), fun i y h => by simp at h⟩
    have hF := V_follow (off := off) T C hper (aside_show (P := P) (hn := hn2) t n cell) held (List.mem_append_left _ (List.mem_singleton.mpr rfl))
    have hS := V_scene (P := P) (mg := mg) (base := base) heldS
    exact callee_show (hn := hn2) rfl rfl t n sg cell (fun p hp => by
      simp only [List.mem_cons, List.not_mem_nil, or_false] at hp
      rcases hp with rfl | rfl
      · exact hf
      · exact hc) (C_first_end T C hN hF hS) (hr.mono (by decide)) ⟨firstF c, firstF_ok C, rfl, rfl⟩ rfl (.cons a0 (.cons a1 (.cons ⟨a2.1, fun p hp => by
        simp only [List.mem_cons, List.not_mem_nil, or_false] at hp
        rcases hp with rfl | rfl
        · exact d1
        · exact d2, fun p hp => by
        rw [List.mem_singleton.mp hp]
        exact d0⟩ (.cons ⟨rfl, fun _ h => (nomatch h), fun _ h => nomatch h⟩ (by cases a4; exact .nil))))) fun en e => by
          have e : outE (exploreF (followF c per off) (endF c) (firstF c)) = some en := e
          cases hv : exploreF (followF c per off) (endF c) (firstF c) with
          | large => rw [hv] at e; cases e
          | found k => rw [hv] at e; cases e; trivial
          | go k => rw [hv] at e; cases e; trivial
end
end LC
namespace LC
open PySem PySem.Spec PyProof.Rows L2

/-! ### _law_found -/
/-- what _law_found gives -/
def foundE : Option En → En
  | none => .res true none
  | some (.own ds) => .res false (some ds)
  | some _ => .res false none
theorem FnE.gd {P : Program} {w : World} {K : PySem.W.Frag} {mg : Str → Option Value} {base : Heap} {k : Nat} {x : Str} {n : Nat} {Φ : List Rs → Option En → Prop} (hne : ∀ rs en, Φ rs (some en) → noObj en) (h : FnE (gdX w K knil) P w K mg base k x n Φ) : FnE (gd K) P w K mg base k x n Φ := by
  obtain ⟨f, fd, ps, F, h1, h2, h3⟩ := h.ex
  refine ⟨f, fd, ps, F.imp fun vs H Q E ⟨F0, rs, oe, z, t, a, hl, hφ, q, qe⟩ => ⟨F0, rs, oe, z, ⟨t, fun _ h => (nomatch h), fun _ h => nomatch h⟩, ?_, hl, hφ, fun en e v H' F' m => ?_, fun e d H' F' g z t => qe e d H' F' g z t.1⟩, h1, h2, h3⟩
  · exact (subT_gd (w := w) (kn := knil)).rsAll.mpr a
  · subst e
    obtain ⟨fp, k1, k2, k3⟩ := m.at_
    exact q en rfl v H' F' ⟨m.fz, m.grow, m.tab.1, fp, enAt_cm (G := LC.gd K) (G' := gdX w K knil) rfl rfl (hne rs en hφ) k1, k2, k3⟩
/-- [b, v], v a list of its own or None -/
theorem nx_res {G : Gd} {K : PySem.W.Frag} {H F H' F' : Hp} {v : V} {en : En} {b : Bool} (he : en = non_ ∨ ∃ ds, en = .own ds) (m : Nx G K H F H' F' v en) {p : Addr} (hp : H' p = none) :
    Nx G K H F (upd H' p (.lst [.bl b, v])) F' (.ref p) (.res b (match en with | .own ds => some ds | _ => none)) := by
  have g := m.grow.trans (Grow.new (F := F') (o := .lst [.bl b, v]) hp)
  have z := Fz.new (o := .lst [.bl b, v]) m.fz hp
  have t := G.mono (extL_new (o := .lst [.bl b, v]) hp) m.tab
  have fp := m.fz.non hp
  have hh := m.grow.live p hp
  obtain ⟨as, k1, k2, k3⟩ := m.at_
  rcases he with rfl | ⟨ds, rfl⟩
  · obtain ⟨rfl, k⟩ := k1
    cases k
    exact ⟨z, g, t, [p], ⟨p, rfl, rfl, upd_same⟩, by simp, fun c hc => by rw [List.mem_singleton.mp hc]; exact ⟨hh, fp⟩⟩
  · obtain ⟨a, vs, rfl, rfl, e1, e2⟩ := k1
    have ne : a ≠ p := ne_of_none e1 hp
    refine ⟨z, g, t, [p, a], ⟨p, a, vs, rfl, rfl, upd_same, by rw [upd_ne ne]; exact e1, e2⟩, ?_, fun c hc => ?_⟩
    · simp [Ne.symm ne]
    · simp only [List.mem_cons, List.not_mem_nil, or_false] at hc
      rcases hc with rfl | rfl
      · exact ⟨hh, fp⟩
      · exact k3 c (by simp)
section
variable {P : Program} {w : World} {K : PySem.W.Frag} {mg : Str → Option Value} {base : Heap}
theorem harmOut_or (c : Cs) (per off : Int) : harmOut c per off = none ∨ harmOut c per off = some non_ ∨ ∃ ds, harmOut c per off = some (.own ds) := by
  unfold harmOut
  cases exploreF (followF c per off) (endF c) (firstF c) with
  | large => exact .inl rfl
  | found k => exact .inr (.inr ⟨_, rfl⟩)
  | go k => exact .inr (.inl rfl)
theorem C_fph (T : Wt K mg base) : FnE (gd K) P w K mg base 14 "first_polling_harm" 3 (fun rs oe => ∃ (c : Cs) (per off : Int), c.Ok ∧ NdSg c ∧ 0 < per ∧ rs = [.cas (eK c), .dat (.int per), .dat (.int off)] ∧ oe = harmOut c per off) :=
  FnE.gd (fun rs en ⟨c, per, off, _, _, _, _, e⟩ => by
    rcases harmOut_or c per off with h | h | ⟨ds, h⟩ <;> rw [h] at e <;> cases e <;> trivial) (C_fphX T)
theorem sc_found : FnScope ["_law_plan_here", "_law_numbers"] ["_law_plan_here", "_law_numbers"] (defScope s__law_found) := ⟨rfl, rfl, rfl, by decide +kernel, rfl, by decide +kernel, by decide +kernel⟩
theorem C__law_found (T : Wt K mg base) : FnG (gd K) P w K mg base 15 "_law_found" 2 (fun rs en => ex K = true ∧ ∃ (p : Pl) (per off : Int), CaseIn (csOf p) ∧ (csOf p).Ok ∧ NdSg (csOf p) ∧ 0 < per ∧ rs = [.dat (ePlan p), .dat (.list [.int per, .int off])] ∧ en = foundE (harmOut (csOf p) per off)) := by
  obtain ⟨fd, F⟩ := T.w.df 47 (d := d__law_found)
  refine fnG_of F sc_found (T.w.glo 47) (fun _ _ _ _ _ _ us hl => match us, hl with | [_, _], _ => rfl) fun cdv A outer s0 H0 E hr rs en hl hφ => ⟨_, .inl rfl, ?_⟩
  obtain ⟨hex, p, per, off, hin, C, hN, hper, rfl, rfl⟩ := hφ
  refine xss_one fun H1 F1 γ σ H F S D q => ?_
  let X : Cx := bx P w K mg base ["_law_plan_here", "_law_numbers"] d__law_found.qual d__law_found.scope (He.fAd K d__law_found.at_) cdv A outer s0 H0 E
  have hm := He.exm_ok (T.w.fact _ (List.mem_of_getElem? (show fa[86]? = some (.exm "TooLarge" "TooLarge" true) from rfl)))
  have call : ∀ pn xe (Ex : Hp → Prop), Tk (X.tr pn xe) Ex → ∃ t, PE (X.tr pn xe) (match s__law_found with | .FunctionDef _ _ [.Try [.Return (some (.List [_, c] _)) _] _ _ _ _] _ _ _ _ _ _ _ => c | _ => .Constant .none 0 default) t ∧
      ∀ H0 F0 γ σ H F, Sta (gd K) (X.tr pn xe).K H0 F0 γ σ H F (ro ["_law_plan_here", "_law_numbers"] [.dat (ePlan p), .dat (.list [.int per, .int off])]) → ∀ Q : VK, (∀ en, harmOut (csOf p) per off = some en → ∀ v H' F', Nx (gd K) (X.tr pn xe).K H F H' F' v en → Q v H') → (harmOut (csOf p) per off = none → ∀ H' F', Grow H0 F0 H' F' → Fz F' H' → (gd K).tab H' → Ex H') → t σ H Q := fun pn xe Ex tk' =>
    pe_callE (X := X.tr pn xe) (C_fph T) tk' (hr.mono (by decide)) (xa_cons (xe_call (C__law_case T) (hr.mono (by decide)) (xa_cons (xe_var 0) xa_nil) ⟨hex, p, hin, rfl, rfl⟩) (xa_cons (xe_ix (xe_var 1) xe_int (ixo_list (d := .int per) rfl)) (xa_cons (xe_ix (xe_var 1) xe_int (ixo_list (d := .int off) rfl)) xa_nil))) ⟨csOf p, per, off, C, hN, hper, rfl, rfl⟩
  let Ex : Hp → Prop := fun H' => ∃ F', Grow H1 F1 H' F' ∧ Fz F' H' ∧ (gd K).tab H'
  have q : ∀ v H F, Nx (gd K) K H1 F1 H F v (foundE (harmOut (csOf p) per off)) → D.rt v H := q
  refine ⟨_, L2.ps_try_only (X := X) (c := TLc K) (tb := fun W D σ H => ∀ pn xe, Takes (X.tr pn xe) W → PassesOwn (model X.prog X.w) X.A X.env xe → ∃ t, PSs (X.tr pn xe) (match s__law_found with | .FunctionDef _ _ [.Try b _ _ _ _] _ _ _ _ _ _ _ => b | _ => []) t ∧ t D σ H) rfl rfl ⟨rfl, by decide, .inl (T.w.glo 52)⟩ LamX.takes0
    (fun W pn xe tk po => ⟨fun pins s σ H D I h => let ⟨t, h1, h2⟩ := h pn xe tk po; h1.run pins s σ H D I h2⟩) (fun a oe cls d pn hz hv => pss_one (ps_ret (pe_lst (pa_cons pe_bl (pa_cons pe_non pa_nil))))), fun pn xe tk po => ?_⟩
  have sz : 2 ≤ sizeLine := line_ok (by decide)
  by_cases hx : harmOut (csOf p) per off = none
  · have tk' : Tk (X.tr pn xe) Ex := tk.imp fun cls d σ H ⟨ec, F', g, z, t⟩ => by
      subst ec
      refine ⟨true, hm, fun _ a ha => ⟨sz, fun c hc => q _ _ F' ?_⟩, fun z => nomatch z⟩
      rw [hx]
      exact nx_res (b := true) (en := non_) (.inl rfl) ⟨z, g, t, [], ⟨rfl, .non⟩, List.nodup_nil, fun _ h => nomatch h⟩ hc
    obtain ⟨t, h1, h2⟩ := call pn xe _ tk'
    exact ⟨_, pss_one (ps_ret (pe_lst (pa_cons pe_bl (pa_cons h1 pa_nil)))), h2 _ _ _ _ _ _ S _ (fun en e v H' F' m => by rw [hx] at e; cases e) (fun e H' F' g z t => ⟨F', g, z, t⟩)⟩
  · have tk' : Tk (X.tr pn xe) (fun _ => False) := tk.imp fun cls d σ H ⟨ec, z⟩ => z.elim
    obtain ⟨t, h1, h2⟩ := call pn xe _ tk'
    refine ⟨_, pss_one (ps_ret (pe_lst (pa_cons pe_bl (pa_cons h1 pa_nil)))), h2 _ _ _ _ _ _ S _ (fun en e v H' F' m => ⟨sz, fun c hc => q _ _ F' ?_⟩) (fun e => absurd e hx)⟩
    have m1 := Nx.from S.grow m
    rcases harmOut_or (csOf p) per off with h | h | ⟨ds, h⟩
    · exact absurd h hx
    · rw [h] at e ⊢
      cases e
      exact nx_res (b := false) (en := non_) (.inl rfl) m1 hc
    · rw [h] at e ⊢
      cases e
      exact nx_res (b := false) (en := .own ds) (.inr ⟨ds, rfl⟩) m1 hc
end
end LC
namespace LC
open PySem PySem.Spec PyProof.Rows L2

/-! ### breadth first search is right -/
inductive PathTo (fo : Sc → List (Ev × Option Sc)) (s0 : Sc) : List Ev → Sc → Prop
  | nil : PathTo fo s0 [] s0
  | snoc {evs : List Ev} {s t : Sc} {e : Ev} : PathTo fo s0 evs s → (e, some t) ∈ fo s → PathTo fo s0 (evs ++ [e]) t
section
variable {fo : Sc → List (Ev × Option Sc)} {isE : Sc → Bool} {s0 : Sc}
/-- P: the ways to the scenes kept; i: the next to look at -/
structure Bfs (fo : Sc → List (Ev × Option Sc)) (isE : Sc → Bool) (s0 : Sc) (i : Nat) (kept : List Nd) (P : List (List Ev)) : Prop where
  len : P.length = kept.length
  path : ∀ (j : Nat) nd p, kept[j]? = some nd → P[j]? = some p → PathTo fo s0 p nd.1
  up : ∀ (j : Nat) p, P[j]? = some p → upF kept j j = (p.map eE).reverse
  mono : ∀ (j1 j2 : Nat) p1 p2, j1 ≤ j2 → P[j1]? = some p1 → P[j2]? = some p2 → p1.length ≤ p2.length
  near : ∀ p, P[i]? = some p → ∀ (j : Nat) q, P[j]? = some q → q.length ≤ p.length + 1
  done : ∀ (j : Nat) nd p, j < i → kept[j]? = some nd → P[j]? = some p → (∀ e, (e, none) ∉ fo nd.1) ∧ ∀ e t, (e, some t) ∈ fo nd.1 → ∃ (j2 : Nat) (nd2 : Nd) (p2 : List Ev), kept[j2]? = some nd2 ∧ P[j2]? = some p2 ∧ nd2.1 = t ∧ p2.length ≤ p.length + 1
  noend : ∀ nd ∈ kept, isE nd.1 = false
  root : ∃ nd, kept[0]? = some nd ∧ nd.1 = s0 ∧ P[0]? = some []
  kp : Kept kept
theorem upF_fuel {kept : List Nd} (h : Kept kept) : ∀ (n m j : Nat), j < kept.length → j ≤ n → j ≤ m → upF kept n j = upF kept m j
  | 0, 0, _, _, _, _ => rfl
  | 0, m + 1, j, _, h1, _ => by
    have : j = 0 := by omega
    subst this
    simp [upF]
  | n + 1, 0, j, _, _, h2 => by
    have : j = 0 := by omega
    subst this
    simp [upF]
  | n + 1, m + 1, j, hj, h1, h2 => by
    by_cases h0 : j = 0
    · subst h0
      simp [upF]
    · have := h j (by omega) hj
      rw [upF, upF, if_neg h0, if_neg h0, upF_fuel h n m _ (by omega) (by omega) (by omega)]
theorem upF_app {kept : List Nd} (h : Kept kept) (x : Nd) : ∀ (n j : Nat), j < kept.length → upF (kept ++ [x]) n j = upF kept n j
  | 0, _, _ => rfl
  | n + 1, j, hj => by
    by_cases h0 : j = 0
    · subst h0
      simp [upF]
    · have g : (kept ++ [x]).getD j ndD = kept.getD j ndD := by
        rw [List.getD_eq_getElem?_getD, List.getD_eq_getElem?_getD, List.getElem?_append_left hj]
      rw [upF, upF, if_neg h0, if_neg h0, g, upF_app h x n _ (Nat.lt_trans (h j (by omega) hj) hj)]
theorem upF_snoc {kept : List Nd} (h : Kept kept) {t : Sc} {i : Nat} {e : Ev} (hi : i < kept.length) : upF (kept ++ [(t, i, some e)]) kept.length kept.length = eE e :: upF kept i i := by
  have g : (kept ++ [((t, i, some e) : Nd)]).getD kept.length ndD = (t, i, some e) := by
    rw [List.getD_eq_getElem?_getD, List.getElem?_append_right (Nat.le_refl _), Nat.sub_self]
    rfl
  cases hl : kept.length with
  | zero => omega
  | succ n =>
    rw [hl] at g
    rw [upF, if_neg (Nat.succ_ne_zero _), g]
    show eE e :: upF (kept ++ [(t, i, some e)]) n i = _
    rw [upF_app h _ n i hi, upF_fuel h n i i hi (by omega) (Nat.le_refl _)]
/-- what is kept holds all that lies near -/
theorem Bfs.reach {i : Nat} {kept : List Nd} {P : List (List Ev)} (B : Bfs fo isE s0 i kept P) {evs : List Ev} {s : Sc} (h : PathTo fo s0 evs s) : (∀ p, P[i]? = some p → evs.length ≤ p.length) → ∃ (j : Nat) (nd : Nd) (p : List Ev), kept[j]? = some nd ∧ P[j]? = some p ∧ nd.1 = s ∧ p.length ≤ evs.length := by
  induction h with
  | nil =>
    intro _
    obtain ⟨nd, h1, h2, h3⟩ := B.root
    exact ⟨0, nd, [], h1, h3, h2, Nat.le_refl _⟩
  | @snoc evs s t e _ hst ih =>
    intro hp
    rw [List.length_append, List.length_singleton] at hp
    obtain ⟨j, nd, p, k1, k2, k3, k4⟩ := ih fun p h => by have := hp p h; omega
    have hj : j < i := by
      by_cases hl : j < i
      · exact hl
      · cases hpi : P[i]? with
        | none =>
          have h1 := List.getElem?_eq_none_iff.mp hpi
          have h2 := (List.getElem?_eq_some_iff.mp k2).1
          omega
        | some q =>
          have h1 := B.mono i j q p (by omega) hpi k2
          have h2 := hp q hpi
          omega
    subst k3
    obtain ⟨j2, nd2, p2, m1, m2, m3, m4⟩ := (B.done j nd p hj k1 k2).2 e t hst
    exact ⟨j2, nd2, p2, m1, m2, m3, by rw [List.length_append, List.length_singleton]; omega⟩
theorem Bfs.none_ {i : Nat} {kept : List Nd} {P : List (List Ev)} (B : Bfs fo isE s0 i kept P) {evs : List Ev} {s : Sc} (h : PathTo fo s0 evs s) (hp : ∀ p, P[i]? = some p → evs.length < p.length) : ∀ e, (e, none) ∉ fo s := by
  obtain ⟨j, nd, p, k1, k2, k3, k4⟩ := B.reach h fun p h => Nat.le_of_lt (hp p h)
  have hj : j < i := by
    by_cases hl : j < i
    · exact hl
    · cases hpi : P[i]? with
      | none =>
        have h1 := List.getElem?_eq_none_iff.mp hpi
        have h2 := (List.getElem?_eq_some_iff.mp k2).1
        omega
      | some q =>
        have h1 := B.mono i j q p (by omega) hpi k2
        have h2 := hp q hpi
        omega
  subst k3
  exact (B.done j nd p hj k1 k2).1
/-- looking at the scenes behind the one at i: l are left -/
structure Vis1 (fo : Sc → List (Ev × Option Sc)) (isE : Sc → Bool) (s0 : Sc) (i : Nat) (p0 : List Ev) (x0 : Sc) (l : List (Ev × Option Sc)) (kept : List Nd) (P : List (List Ev)) : Prop where
  b : Bfs fo isE s0 i kept P
  pi : P[i]? = some p0
  si : ∃ nd, kept[i]? = some nd ∧ nd.1 = x0
  sub : ∀ x ∈ l, x ∈ fo x0
  seen : ∀ x ∈ fo x0, x ∉ l → ∃ e t, x = (e, some t) ∧ ∃ (j2 : Nat) (nd2 : Nd) (p2 : List Ev), kept[j2]? = some nd2 ∧ P[j2]? = some p2 ∧ nd2.1 = t ∧ p2.length ≤ p0.length + 1
theorem get_app {α : Type} {l : List α} {x y : α} {j : Nat} (h : (l ++ [x])[j]? = some y) : (j < l.length ∧ l[j]? = some y) ∨ (j = l.length ∧ y = x) := by
  by_cases hj : j < l.length
  · rw [List.getElem?_append_left hj] at h
    exact .inl ⟨hj, h⟩
  · rw [List.getElem?_append_right (by omega)] at h
    cases hq : j - l.length with
    | zero =>
      rw [hq] at h
      exact .inr ⟨by omega, (Option.some.inj h).symm⟩
    | succ q => rw [hq] at h; simp at h
theorem get_app_l {α : Type} {l : List α} {x y : α} {j : Nat} (h : l[j]? = some y) : (l ++ [x])[j]? = some y := by
  rw [List.getElem?_append_left (List.getElem?_eq_some_iff.mp h).1]
  exact h
theorem get_app_e {α : Type} {l : List α} {x : α} : (l ++ [x])[l.length]? = some x := by
  rw [List.getElem?_append_right (Nat.le_refl _), Nat.sub_self]
  rfl
/-- a new scene is kept -/
theorem Bfs.add {i : Nat} {kept : List Nd} {P : List (List Ev)} (B : Bfs fo isE s0 i kept P) {p : List Ev} {nd : Nd} {e : Ev} {t : Sc} (hp : P[i]? = some p) (hn : kept[i]? = some nd) (ht : (e, some t) ∈ fo nd.1) (he : isE t = false) : Bfs fo isE s0 i (kept ++ [(t, i, some e)]) (P ++ [p ++ [e]]) := by
  have hi : i < kept.length := (List.getElem?_eq_some_iff.mp hn).1
  have lp : (p ++ [e]).length = p.length + 1 := by rw [List.length_append, List.length_singleton]
  have hk := kept_snoc (x := (t, i, some e)) B.kp hi
  refine ⟨by rw [List.length_append, List.length_append, B.len]; rfl, fun j nd' p' h1 h2 => ?_, fun j p' h1 => ?_, fun j1 j2 p1 p2 h h1 h2 => ?_, fun p' h1 j q h2 => ?_, fun j nd' p' hj h1 h2 => ?_, fun nd' hm => ?_, ?_, hk⟩
  · rcases get_app h1 with ⟨a1, a2⟩ | ⟨a1, a2⟩ <;> rcases get_app h2 with ⟨b1, b2⟩ | ⟨b1, b2⟩
    · exact B.path j nd' p' a2 b2
    · rw [B.len] at b1; omega
    · rw [B.len] at b1; omega
    · subst a2 b2
      exact .snoc (B.path i nd p hn hp) ht
  · rcases get_app h1 with ⟨b1, b2⟩ | ⟨b1, b2⟩
    · rw [B.len] at b1
      rw [upF_app B.kp _ j j b1]
      exact B.up j p' b2
    · rw [B.len] at b1
      subst b1 b2
      rw [upF_snoc B.kp hi, B.up i p hp, List.map_append, List.reverse_append]
      rfl
  · rcases get_app h1 with ⟨b1, b2⟩ | ⟨b1, b2⟩ <;> rcases get_app h2 with ⟨c1, c2⟩ | ⟨c1, c2⟩
    · exact B.mono j1 j2 p1 p2 h b2 c2
    · subst c2
      rw [lp]
      exact B.near p hp j1 p1 b2
    · omega
    · subst b2 c2
      exact Nat.le_refl _
  · have h3 : p' = p := by
      rcases get_app h1 with ⟨b1, b2⟩ | ⟨b1, b2⟩
      · rw [hp] at b2
        exact (Option.some.inj b2).symm
      · rw [B.len] at b1; omega
    subst h3
    rcases get_app h2 with ⟨b1, b2⟩ | ⟨b1, b2⟩
    · exact B.near p' hp j q b2
    · subst b2
      rw [lp]
      exact Nat.le_refl _
  · have q1 : kept[j]? = some nd' := by
      rcases get_app h1 with ⟨_, b2⟩ | ⟨b1, _⟩
      · exact b2
      · omega
    have q2 : P[j]? = some p' := by
      rcases get_app h2 with ⟨_, b2⟩ | ⟨b1, _⟩
      · exact b2
      · rw [B.len] at b1; omega
    obtain ⟨k1, k2⟩ := B.done j nd' p' hj q1 q2
    exact ⟨k1, fun e t h => let ⟨j2, nd2, p2, m1, m2, m3, m4⟩ := k2 e t h; ⟨j2, nd2, p2, get_app_l m1, get_app_l m2, m3, m4⟩⟩
  · rcases List.mem_append.mp hm with z | z
    · exact B.noend nd' z
    · rw [List.mem_singleton.mp z]
      exact he
  · obtain ⟨nd', h1, h2, h3⟩ := B.root
    exact ⟨nd', get_app_l h1, h2, get_app_l h3⟩
/-- what a search says: n the length of the way found -/
def Said (fo : Sc → List (Ev × Option Sc)) (isE : Sc → Bool) (s0 : Sc) : Fnd → Prop
  | .large => True
  | .found k => ∃ evs t, PathTo fo s0 evs t ∧ isE t = true ∧ (upF k (k.length - 1) (k.length - 1)).reverse = evs.map eE ∧ (∀ evs' t', PathTo fo s0 evs' t' → evs'.length < evs.length → isE t' = false ∧ (evs'.length + 1 < evs.length → ∀ e, (e, none) ∉ fo t')) ∧ evs.length ≤ k.length
  | .go _ => ∀ evs t, PathTo fo s0 evs t → isE t = false ∧ ∀ e, (e, none) ∉ fo t
theorem upF_len {kept : List Nd} : ∀ (n j : Nat), (upF kept n j).length ≤ n
  | 0, _ => Nat.le_refl _
  | n + 1, j => by
    rw [upF]
    split
    · exact Nat.zero_le _
    · rw [List.length_cons]
      exact Nat.succ_le_succ (upF_len n _)
theorem vis_said {i : Nat} {pi : List Ev} {si : Sc} : ∀ (l : List (Ev × Option Sc)) (kept : List Nd) (P : List (List Ev)), Vis1 fo isE s0 i pi si l kept P → kept.length ≤ 1000 →
    (∀ k, visF isE i l kept = .found k → Said fo isE s0 (.found k)) ∧ ∀ k, visF isE i l kept = .go k → ∃ P', Vis1 fo isE s0 i pi si [] k P' ∧ k.length ≤ 1000 ∧ ∀ p, P'[i + 1]? = some p → pi.length ≤ p.length
  | [], kept, P, V, hz => by
    constructor
    · intro k h
      rw [visF] at h
      cases h
    · intro k h
      rw [visF] at h
      cases h
      exact ⟨P, V, hz, fun p hp => V.b.mono i (i + 1) pi p (by omega) V.pi hp⟩
  | (e, none) :: l, kept, P, V, _ => by
    constructor <;> intro k h <;> rw [visF] at h <;> cases h
  | (e, some t) :: l, kept, P, V, hz => by
    obtain ⟨nd, hn, hs⟩ := V.si
    have ht : (e, some t) ∈ fo nd.1 := by rw [hs]; exact V.sub _ (List.mem_cons_self ..)
    rw [visF]
    split
    · rename_i hm
      refine vis_said l kept P ⟨V.b, V.pi, V.si, fun x hx => V.sub x (List.mem_cons_of_mem _ hx), fun x hx hl => ?_⟩ hz
      by_cases h : x = (e, some t)
      · obtain ⟨nd2, m1, m2⟩ := List.mem_map.mp hm
        obtain ⟨j2, hj⟩ := List.mem_iff_getElem?.mp m1
        have hj3 : j2 < P.length := by rw [V.b.len]; exact (List.getElem?_eq_some_iff.mp hj).1
        exact ⟨e, t, h, j2, nd2, P[j2], hj, List.getElem?_eq_getElem hj3, m2, V.b.near pi V.pi j2 _ (List.getElem?_eq_getElem hj3)⟩
      · exact V.seen x hx fun z => (List.mem_cons.mp z).elim h hl
    · split
      · constructor <;> intro k h <;> cases h
      · have hi : i < kept.length := (List.getElem?_eq_some_iff.mp hn).1
        split
        · rename_i hE
          constructor
          · intro k h
            cases h
            refine ⟨pi ++ [e], t, .snoc (V.b.path i nd pi hn V.pi) ht, hE, ?_, fun evs' t' hp hl => ⟨?_, fun hl2 => ?_⟩, ?_⟩
            · rw [List.length_append, List.length_singleton, Nat.add_sub_cancel, upF_snoc V.b.kp hi, V.b.up i pi V.pi, List.reverse_cons, List.reverse_reverse, List.map_append]
              rfl
            · rw [List.length_append, List.length_singleton] at hl
              obtain ⟨j, nd2, p, k1, _, k3, _⟩ := V.b.reach hp fun p h => by
                rw [V.pi] at h
                cases h
                omega
              rw [← k3]
              exact V.b.noend nd2 (List.mem_of_getElem? k1)
            · rw [List.length_append, List.length_singleton] at hl2
              exact V.b.none_ hp fun p h => by
                rw [V.pi] at h
                cases h
                omega
            · have h1 := congrArg List.length (V.b.up i pi V.pi)
              rw [List.length_reverse, List.length_map] at h1
              have h2 := upF_len (kept := kept) i i
              rw [List.length_append, List.length_append, List.length_singleton, List.length_singleton]
              omega
          · intro k h
            cases h
        · rename_i hE
          have hE : isE t = false := by simpa using hE
          refine vis_said l _ _ ⟨V.b.add V.pi hn ht hE, get_app_l V.pi, ⟨nd, get_app_l hn, hs⟩, fun x hx => V.sub x (List.mem_cons_of_mem _ hx), fun x hx hl => ?_⟩ (by rw [List.length_append, List.length_singleton]; omega)
          by_cases h : x = (e, some t)
          · exact ⟨e, t, h, kept.length, _, _, get_app_e, by rw [← V.b.len]; exact get_app_e, rfl, by rw [List.length_append, List.length_singleton]; exact Nat.le_refl _⟩
          · obtain ⟨e', t', h1, j2, nd2, p2, m1, m2, m3, m4⟩ := V.seen x hx fun z => (List.mem_cons.mp z).elim h hl
            exact ⟨e', t', h1, j2, nd2, p2, get_app_l m1, get_app_l m2, m3, m4⟩
theorem bfs_said : ∀ (n i : Nat) (kept : List Nd) (P : List (List Ev)), i + n = 1001 → i ≤ kept.length → kept.length ≤ 1000 → Bfs fo isE s0 i kept P → Said fo isE s0 (bfsF fo isE n i kept)
  | 0, i, kept, P, h1, h2, h3, _ => by omega
  | n + 1, i, kept, P, h1, h2, h3, B => by
    rw [bfsF]
    split
    · rename_i hi
      have hn : kept[i]? = some (kept.getD i ndD) := by rw [List.getD_eq_getElem?_getD, List.getElem?_eq_getElem hi]; rfl
      have hpl : i < P.length := by rw [B.len]; exact hi
      have V : Vis1 fo isE s0 i P[i] (kept.getD i ndD).1 (fo (kept.getD i ndD).1) kept P := ⟨B, List.getElem?_eq_getElem hpl, ⟨_, hn, rfl⟩, fun x hx => hx, fun x hx hl => absurd hx hl⟩
      obtain ⟨v1, v2⟩ := vis_said _ _ _ V h3
      cases hv : visF isE i (fo (kept.getD i ndD).1) kept with
      | large => trivial
      | found k => exact v1 k hv
      | go k =>
        obtain ⟨P', V', hz, hm⟩ := v2 k hv
        have hl : i + 1 ≤ k.length := by
          obtain ⟨nd, hn, _⟩ := V'.si
          exact (List.getElem?_eq_some_iff.mp hn).1
        refine bfs_said n (i + 1) k P' (by omega) hl hz ⟨V'.b.len, V'.b.path, V'.b.up, V'.b.mono, fun p hp j q hq => ?_, fun j nd p hj hnd hp => ?_, V'.b.noend, V'.b.root, V'.b.kp⟩
        · have h4 := V'.b.near _ V'.pi j q hq
          have h5 := hm p hp
          omega
        · by_cases hji : j < i
          · exact V'.b.done j nd p hji hnd hp
          · have e : j = i := by omega
            subst e
            obtain ⟨nd', hn', hs'⟩ := V'.si
            rw [hnd] at hn'
            cases hn'
            have hpp := V'.pi
            rw [hp] at hpp
            cases hpp
            rw [hs']
            refine ⟨fun e h => ?_, fun e t h => ?_⟩
            · obtain ⟨e', t', z, _⟩ := V'.seen _ h (fun z => nomatch z)
              cases z
            · obtain ⟨e', t', z, r⟩ := V'.seen _ h (fun z => nomatch z)
              cases z
              exact r
    · rename_i hi
      intro evs t hp
      have e : i = kept.length := by omega
      have nn : ∀ p, P[i]? = some p → False := fun p h => by
        have := (List.getElem?_eq_some_iff.mp h).1
        rw [B.len] at this
        omega
      obtain ⟨j, nd, p, k1, _, k3, _⟩ := B.reach hp fun p h => (nn p h).elim
      exact ⟨by rw [← k3]; exact B.noend nd (List.mem_of_getElem? k1), B.none_ hp fun p h => (nn p h).elim⟩
theorem explore_said (h0 : isE s0 = false) : Said fo isE s0 (exploreF fo isE s0) := by
  refine bfs_said 1001 0 [(s0, 0, none)] [[]] rfl (by simp) (by simp) ⟨rfl, fun j nd p h1 h2 => ?_, fun j p h => ?_, fun j1 j2 p1 p2 h h1 h2 => ?_, fun p h j q hq => ?_, fun j nd p hj => by omega, fun nd h => ?_, ⟨_, rfl, rfl, rfl⟩, fun i h1 h2 => ?_⟩
  · cases j with
    | zero => cases h1; cases h2; exact .nil
    | succ j => simp at h1
  · cases j with
    | zero => cases h; rfl
    | succ j => simp at h
  · cases j1 with
    | zero => cases h1; exact Nat.zero_le _
    | succ j => simp at h1
  · cases j with
    | zero => cases hq; exact Nat.zero_le _
    | succ j => simp at hq
  · rw [List.mem_singleton.mp h]
    exact h0
  · rw [List.length_singleton] at h2
    omega
end
end LC
namespace LC
open PySem PySem.Spec PyProof.Rows L2

/-! ### differences, looks -/
theorem lcp_app : ∀ (A B a b : List Str), lcp (A ++ a) (B ++ b) = lcp A B + lcp (A.drop (lcp A B) ++ a) (B.drop (lcp A B) ++ b)
  | [], B, a, b => by simp [lcp]
  | x :: A, [], a, b => by simp [lcp]
  | x :: A, y :: B, a, b => by
    by_cases h : x = y
    · subst h
      have ih := lcp_app A B a b
      simp only [List.cons_append, lcp, if_pos, List.drop_succ_cons]
      omega
    · simp only [List.cons_append, lcp, if_neg h, List.drop_zero, Nat.zero_add]
theorem lcp_le : ∀ (A B : List Str), lcp A B ≤ A.length ∧ lcp A B ≤ B.length
  | [], B => by simp [lcp]
  | x :: A, [] => by simp [lcp]
  | x :: A, y :: B => by
    have ih := lcp_le A B
    simp only [lcp, List.length_cons]
    split <;> omega
theorem lcp_full : ∀ (A B : List Str), A.length ≤ lcp A B → B.length ≤ lcp A B → A = B
  | [], [], _, _ => rfl
  | [], y :: B, _, h => by simp [lcp] at h
  | x :: A, [], h, _ => by simp [lcp] at h
  | x :: A, y :: B, h1, h2 => by
    simp only [lcp, List.length_cons] at h1 h2
    split at h1
    · rename_i e
      rw [if_pos e] at h2
      rw [e, lcp_full A B (by omega) (by omega)]
    · omega
theorem lcp_self : ∀ A : List Str, lcp A A = A.length
  | [] => rfl
  | x :: A => by simp only [lcp, if_pos, List.length_cons, lcp_self A]
theorem count_flat {s : Str} {f : Str → Nat} : ∀ (sg : List Str), sg.Nodup → s ∈ sg → (sg.flatMap fun t => List.replicate (f t) t).count s = f s
  | [], _, h => nomatch h
  | t :: sg, nd, h => by
    obtain ⟨n1, n2⟩ := List.nodup_cons.mp nd
    rw [List.flatMap_cons, List.count_append]
    by_cases e : s = t
    · subst e
      rw [List.count_replicate_self]
      have : (sg.flatMap fun t => List.replicate (f t) t).count s = 0 := by
        rw [List.count_eq_zero]
        intro m
        obtain ⟨t, h1, h2⟩ := List.mem_flatMap.mp m
        exact n1 ((List.mem_replicate.mp h2).2 ▸ h1)
      omega
    · rw [List.count_replicate, if_neg (by simpa using fun z => e z.symm), count_flat sg n2 ((List.mem_cons.mp h).resolve_left e)]
      omega
theorem count_excess {sg A B : List Str} {s : Str} (nd : sg.Nodup) (h : s ∈ sg) : (excessF sg A B).count s = ((A.count s : Int) - (B.count s : Int)).toNat := count_flat (f := fun s => ((A.count s : Int) - (B.count s : Int)).toNat) sg nd h
theorem excess_ext {sg A B a b : List Str} (nd : sg.Nodup) : excessF sg (excessF sg A B ++ a) (excessF sg B A ++ b) = excessF sg (A ++ a) (B ++ b) := by
  have key : ∀ s ∈ sg, (((excessF sg A B ++ a).count s : Int) - ((excessF sg B A ++ b).count s : Int)).toNat = (((A ++ a).count s : Int) - ((B ++ b).count s : Int)).toNat := fun s hs => by
    rw [List.count_append, List.count_append, List.count_append, List.count_append, count_excess nd hs, count_excess nd hs]
    omega
  generalize excessF sg A B ++ a = X at key ⊢
  generalize excessF sg B A ++ b = Y at key ⊢
  unfold excessF
  clear nd
  induction sg with
  | nil => rfl
  | cons s sg ih =>
    rw [List.flatMap_cons, List.flatMap_cons, key s (List.mem_cons_self ..), ih fun t ht => key t (List.mem_cons_of_mem _ ht)]
theorem diff_ext {v : Str} {sg A B a b : List Str} (nd : sg.Nodup) : diffF v sg ((diffF v sg A B).1 ++ a) ((diffF v sg A B).2 ++ b) = diffF v sg (A ++ a) (B ++ b) := by
  by_cases h1 : v = ("ignored" : Str)
  · simp only [diffF, if_pos h1]
  · by_cases h2 : v = ("unordered" : Str)
    · simp only [diffF, if_neg h1, if_pos h2]
      rw [excess_ext nd, excess_ext nd]
    · simp only [diffF, if_neg h1, if_neg h2]
      obtain ⟨l1, l2⟩ := lcp_le A B
      rw [lcp_app A B a b]
      generalize lcp (A.drop (lcp A B) ++ a) (B.drop (lcp A B) ++ b) = m
      rw [← List.drop_drop, ← List.drop_drop, List.drop_append_of_le_length l1, List.drop_append_of_le_length l2]
theorem excess_nil {sg A B : List Str} (h : excessF sg A B = []) {s : Str} (hs : s ∈ sg) : A.count s ≤ B.count s := by
  unfold excessF at h
  have := List.flatMap_eq_nil_iff.mp h s hs
  rw [List.replicate_eq_nil_iff] at this
  omega
theorem excess_of {sg A B : List Str} (h : ∀ s ∈ sg, A.count s ≤ B.count s) : excessF sg A B = [] := by
  unfold excessF
  refine List.flatMap_eq_nil_iff.mpr fun s hs => ?_
  rw [List.replicate_eq_nil_iff]
  have := h s hs
  omega
theorem diff_look {v : Str} {sg A B : List Str} (hA : ∀ s ∈ A, s ∈ sg) (hB : ∀ s ∈ B, s ∈ sg) : decide (diffF v sg A B = ([], [])) = lookF v A B := by
  unfold diffF lookF
  by_cases h1 : v = ("ignored" : Str)
  · rw [if_pos h1, if_pos h1]
    exact decide_eq_true rfl
  · rw [if_neg h1, if_neg h1]
    by_cases h2 : v = ("unordered" : Str)
    · rw [if_pos h2, if_pos h2]
      rw [decide_eq_decide, srtS_eq, Prod.mk.injEq, List.perm_iff_count]
      constructor
      · rintro ⟨e1, e2⟩ s
        by_cases hs : s ∈ sg
        · exact Nat.le_antisymm (excess_nil e1 hs) (excess_nil e2 hs)
        · rw [List.count_eq_zero.mpr fun z => hs (hA s z), List.count_eq_zero.mpr fun z => hs (hB s z)]
      · intro h
        exact ⟨excess_of fun s _ => Nat.le_of_eq (h s), excess_of fun s _ => Nat.le_of_eq (h s).symm⟩
    · rw [if_neg h2, if_neg h2, decide_eq_decide, Prod.mk.injEq, List.drop_eq_nil_iff, List.drop_eq_nil_iff]
      constructor
      · rintro ⟨e1, e2⟩
        exact lcp_full A B e1 e2
      · intro h
        subst h
        rw [lcp_self]
        exact ⟨Nat.le_refl _, Nat.le_refl _⟩
/-! ### what is written -/
theorem runF_app {m : Mc} : ∀ (l1 l2 : List Str) (c : Cf), (runF m c (l1 ++ l2)).1 = (runF m (runF m c l1).1 l2).1 ∧ (runF m c (l1 ++ l2)).2 = (runF m c l1).2 ++ (runF m (runF m c l1).1 l2).2
  | [], l2, c => ⟨rfl, rfl⟩
  | i :: l1, l2, c => by
    obtain ⟨h1, h2⟩ := runF_app l1 l2 (stepF m c i).1
    refine ⟨h1, ?_⟩
    show (stepF m c i).2 ++ (runF m (stepF m c i).1 (l1 ++ l2)).2 = ((stepF m c i).2 ++ (runF m (stepF m c i).1 l1).2) ++ _
    rw [h2, List.append_assoc]
    rfl
theorem sigsOf_app (k : Int) (a b : List (Int × Str)) : sigsOf k (a ++ b) = sigsOf k a ++ sigsOf k b := by
  unfold sigsOf
  rw [List.filter_append, List.map_append]
theorem wr_get {n k : Nat} (hk : k < n) : ∀ (l : List (Int × Str)) (acc : List (List Str)), acc.length = n → (∀ x ∈ l, 0 ≤ x.1 ∧ x.1 < (n : Int)) → (l.foldl wr1 acc).getD k [] = acc.getD k [] ++ sigsOf (k : Int) l ∧ (l.foldl wr1 acc).length = n
  | [], acc, h, _ => ⟨by show acc.getD k [] = acc.getD k [] ++ []; rw [List.append_nil], h⟩
  | x :: l, acc, h, hx => by
    obtain ⟨x0, x1⟩ := hx x (List.mem_cons_self ..)
    have hl : (wr1 acc x).length = n := by
      unfold wr1
      rw [List.length_set, h]
    obtain ⟨e1, e2⟩ := wr_get hk l (wr1 acc x) hl fun y hy => hx y (List.mem_cons_of_mem _ hy)
    refine ⟨?_, e2⟩
    rw [List.foldl_cons, e1]
    have e : sigsOf (k : Int) (x :: l) = sigsOf (k : Int) [x] ++ sigsOf (k : Int) l := sigsOf_app k [x] l
    rw [e, ← List.append_assoc]
    refine congrArg (· ++ sigsOf (k : Int) l) ?_
    unfold wr1 sigsOf
    by_cases hxk : x.1 = (k : Int)
    · have e3 : x.1.toNat = k := by omega
      rw [e3, List.getD_eq_getElem?_getD, List.getElem?_set_self (by omega)]
      simp [hxk]
    · have e3 : x.1.toNat ≠ k := by omega
      rw [List.getD_eq_getElem?_getD, List.getElem?_set_ne e3, ← List.getD_eq_getElem?_getD]
      simp [hxk]
theorem wrFrom_get {m : Mc} (M : m.Ok) {k : Nat} (hk : k < m.chans.length) : ∀ (l : List Str) (c : Cf) (acc : List (List Str)), acc.length = m.chans.length → (wrFrom m c acc l).getD k [] = acc.getD k [] ++ sigsOf (k : Int) (runF m c l).2
  | [], c, acc, _ => by show acc.getD k [] = acc.getD k [] ++ []; rw [List.append_nil]
  | i :: l, c, acc, h => by
    obtain ⟨e1, e2⟩ := wr_get hk (stepF m c i).2 acc h (stepF_si M c i)
    show (wrFrom m (stepF m c i).1 ((stepF m c i).2.foldl wr1 acc) l).getD k [] = acc.getD k [] ++ sigsOf (k : Int) ((stepF m c i).2 ++ (runF m (stepF m c i).1 l).2)
    rw [wrFrom_get M hk l _ _ e2, e1, sigsOf_app, List.append_assoc]
/-- all that m writes at items -/
abbrev writ (m : Mc) (l : List Str) : List (Int × Str) := (runF m (startF m) l).2
theorem written_get {m : Mc} (M : m.Ok) {k : Nat} (hk : k < m.chans.length) (l : List Str) : (writtenF m l).getD k [] = sigsOf (k : Int) (writ m l) := by
  unfold writtenF
  rw [wrFrom_get M hk l (startF m) _ List.length_replicate]
  have : (List.replicate m.chans.length ([] : List Str)).getD k [] = [] := by
    rw [List.getD_eq_getElem?_getD, List.getElem?_replicate]
    split <;> rfl
  rw [this, List.nil_append]
/-- signals are those of their channel -/
def SigIn (m : Mc) : Prop := ∀ r ∈ m.rules, ∀ x ∈ r.sigs, x.2 ∈ (m.chans.getD x.1.toNat ("", [])).2
theorem stepF_in {m : Mc} (h : SigIn m) (c : Cf) (i : Str) : ∀ x ∈ (stepF m c i).2, x.2 ∈ (m.chans.getD x.1.toNat ("", [])).2 := fun x hx => by
  unfold stepF at hx
  split at hx
  · cases hx
  · rename_i r hr
    split at hx
    · cases hx
    · exact h r (ruleF_mem hr) x hx
theorem runF_in {m : Mc} (h : SigIn m) : ∀ (l : List Str) (c : Cf), ∀ x ∈ (runF m c l).2, x.2 ∈ (m.chans.getD x.1.toNat ("", [])).2
  | [], _, _, hx => nomatch hx
  | i :: l, c, x, hx => by
    rcases List.mem_append.mp (show x ∈ (stepF m c i).2 ++ (runF m (stepF m c i).1 l).2 from hx) with z | z
    · exact stepF_in h c i x z
    · exact runF_in h l _ x z
theorem sigs_in {m : Mc} (h : SigIn m) (l : List Str) (k : Nat) : ∀ s ∈ sigsOf (k : Int) (writ m l), s ∈ (m.chans.getD k ("", [])).2 := fun s hs => by
  unfold sigsOf at hs
  obtain ⟨x, hx, rfl⟩ := List.mem_map.mp hs
  obtain ⟨h1, h2⟩ := List.mem_filter.mp hx
  have := runF_in h l (startF m) x h1
  rw [of_decide_eq_true h2] at this
  exact this
/-! ### scenes after what was sent and heard -/
def dsOf (c : Cs) (A B : List Str) : List Df := (List.range c.prog.chans.length).map fun (k : Nat) => diffF (c.views.getD k "") (c.prog.chans.getD k ("", [])).2 (sigsOf k (writ c.prog A)) (sigsOf k (writ c.prog B))
structure At2 (c : Cs) (A B : List Str) (s : Sc) : Prop where
  a : s.a = (runF c.prog (startF c.prog) A).1
  b : s.b = (runF c.prog (startF c.prog) B).1
  ds : s.ds = dsOf c A B
theorem at2_heard {c : Cs} (hN : NdSg c) {A B : List Str} {s : Sc} (h : At2 c A B s) (si ri : List Str) : At2 c (A ++ si) (B ++ ri) (heardF c s si ri) where
  a := by
    show (runF c.prog s.a si).1 = _
    rw [(runF_app A si _).1, h.a]
  b := by
    show (runF c.prog s.b ri).1 = _
    rw [(runF_app B ri _).1, h.b]
  ds := by
    show extDs c s.ds (runF c.prog s.a si).2 (runF c.prog s.b ri).2 = _
    unfold extDs
    have hl : s.ds.length = c.prog.chans.length := by rw [h.ds]; unfold dsOf; rw [List.length_map, List.length_range]
    rw [hl]
    refine List.map_congr_left fun k hk => ?_
    have hk := List.mem_range.mp hk
    have nd : (c.prog.chans.getD k ("", [])).2.Nodup := by
      rw [List.getD_eq_getElem?_getD, List.getElem?_eq_getElem hk]
      exact hN _ (List.getElem_mem _)
    have hg : s.ds.getD k ([], []) = diffF (c.views.getD k "") (c.prog.chans.getD k ("", [])).2 (sigsOf k (writ c.prog A)) (sigsOf k (writ c.prog B)) := by
      rw [h.ds]
      unfold dsOf
      rw [List.getD_eq_getElem?_getD, List.getElem?_map, List.getElem?_range hk]
      rfl
    unfold extF
    rw [hg, diff_ext nd]
    show _ = diffF _ _ (sigsOf k (runF c.prog (startF c.prog) (A ++ si)).2) (sigsOf k (runF c.prog (startF c.prog) (B ++ ri)).2)
    rw [(runF_app A si _).2, (runF_app B ri _).2, sigsOf_app, sigsOf_app, h.a, h.b]
theorem any_not {α : Type} (l : List α) (p : α → Bool) : l.any (fun x => !p x) = !l.all p := by
  induction l with
  | nil => rfl
  | cons x l ih => rw [List.any_cons, List.all_cons, ih, Bool.not_and]
theorem harm_at2 {p : Pl} (O : p.Ok) (hN : NdSg (csOf p)) (hS : SigIn p.prog) {A B : List Str} {s : Sc} (h : At2 (csOf p) A B s) : harmF (csOf p) s = !sameF p A B := by
  have h2 := at2_heard hN h (quietL (csOf p)) (quietL (csOf p))
  unfold harmF
  rw [h2.ds]
  unfold dsOf sameF
  rw [List.any_map, ← any_not, show p.views.length = (csOf p).prog.chans.length from O.v]
  have key : ∀ k ∈ List.range (csOf p).prog.chans.length, ((fun d : Df => !decide (d = ([], []))) ∘ fun (k : Nat) => diffF ((csOf p).views.getD k "") ((csOf p).prog.chans.getD k ("", [])).2 (sigsOf k (writ (csOf p).prog (A ++ quietL (csOf p)))) (sigsOf k (writ (csOf p).prog (B ++ quietL (csOf p))))) k =
      !lookF (p.views.getD k "") ((writtenF p.prog (A ++ List.replicate p.quiet.toNat TICK)).getD k []) ((writtenF p.prog (B ++ List.replicate p.quiet.toNat TICK)).getD k []) := fun k hk => by
    have hk : k < p.prog.chans.length := List.mem_range.mp hk
    rw [written_get O.p hk, written_get O.p hk]
    exact congrArg (fun b => !b) (diff_look (v := p.views.getD k "") (sigs_in hS (A ++ List.replicate p.quiet.toNat TICK) k) (sigs_in hS (B ++ List.replicate p.quiet.toNat TICK) k))
  generalize List.range (csOf p).prog.chans.length = l at key
  induction l with
  | nil => rfl
  | cons x l ih => rw [List.any_cons, List.any_cons, key x (List.mem_cons_self ..), ih fun k hk => key k (List.mem_cons_of_mem _ hk)]
end LC
namespace LC
open PySem PySem.Spec PyProof.Rows L2

/-! ### polling, step by step -/
abbrev PS3 := List Str × List Str × Int
def pstep (per off : Int) (st : PS3) (x : Str) : PS3 :=
  if x = TICK then (st.1 ++ (polledF st.2.1 st.2.2 per off).1, (polledF st.2.1 st.2.2 per off).2.1, (polledF st.2.1 st.2.2 per off).2.2) else (st.1, st.2.1 ++ [x], st.2.2)
def prun (per off : Int) (l : List Str) : PS3 := l.foldl (pstep per off) ([], [], 0)
section
variable {per off : Int}
theorem prun_snoc (l : List Str) (x : Str) : prun per off (l ++ [x]) = pstep per off (prun per off l) x := by
  unfold prun
  rw [List.foldl_append]
  rfl
theorem pstep_tick (st : PS3) : pstep per off st TICK = (st.1 ++ (polledF st.2.1 st.2.2 per off).1, (polledF st.2.1 st.2.2 per off).2.1, (polledF st.2.1 st.2.2 per off).2.2) := if_pos rfl
theorem pstep_name (st : PS3) {x : Str} (h : x ≠ TICK) : pstep per off st x = (st.1, st.2.1 ++ [x], st.2.2) := if_neg h
theorem polled_ph (w : List Str) (ph : Int) : (polledF w ph per off).2.2 = (ph + 1) % per := by
  unfold polledF
  split <;> rfl
/-- n ticks -/
def tks (per off : Int) : Nat → PS3 → PS3
  | 0, st => st
  | n + 1, st => tks per off n (pstep per off st TICK)
theorem tks_run (l : List Str) : ∀ n : Nat, prun per off (l ++ List.replicate n TICK) = tks per off n (prun per off l) := by
  intro n
  induction n generalizing l with
  | zero => rw [List.replicate_zero, List.append_nil]; rfl
  | succ n ih =>
    rw [List.replicate_succ, show l ++ TICK :: List.replicate n TICK = (l ++ [TICK]) ++ List.replicate n TICK from by simp, ih, prun_snoc]
    rfl
theorem tks_snoc : ∀ (n : Nat) (st : PS3), tks per off (n + 1) st = pstep per off (tks per off n st) TICK
  | 0, _ => rfl
  | n + 1, st => tks_snoc n (pstep per off st TICK)
theorem wait_nil {w : List Str} {ph : Int} (h : w = []) : (polledF w ph per off).2.1 = [] := by
  subst h
  unfold polledF
  split <;> rfl
theorem tks_nil (n : Nat) (st : PS3) (h : st.2.1 = []) : (tks per off n st).2.1 = [] := by
  induction n generalizing st with
  | zero => exact h
  | succ n ih => exact ih _ (by rw [pstep_tick]; exact wait_nil h)
theorem tks_ph (n : Nat) (st : PS3) (hp : 0 < per) (h : 0 ≤ st.2.2 ∧ st.2.2 < per) : (tks per off n st).2.2 = (st.2.2 + n) % per := by
  induction n generalizing st with
  | zero =>
    show st.2.2 = _
    rw [show st.2.2 + ((0 : Nat) : Int) = st.2.2 from by omega, Int.emod_eq_of_lt h.1 h.2]
  | succ n ih =>
    have e : (pstep per off st TICK).2.2 = (st.2.2 + 1) % per := by
      rw [pstep_tick]
      exact polled_ph _ _
    show (tks per off n (pstep per off st TICK)).2.2 = _
    rw [ih _ (by rw [e]; exact ⟨Int.emod_nonneg _ (by omega), Int.emod_lt_of_pos _ hp⟩), e, Int.emod_add_emod]
    congr 1
    omega
/-- within per ticks nothing waits -/
theorem tks_done (st : PS3) (hp : 0 < per) (h : 0 ≤ st.2.2 ∧ st.2.2 < per) (ho : 0 ≤ off ∧ off < per) : ∃ j : Nat, (j : Int) ≤ per ∧ (tks per off j st).2.1 = [] := by
  have m0 := Int.emod_nonneg (off - st.2.2 - 1) (show per ≠ 0 by omega)
  have m1 := Int.emod_lt_of_pos (off - st.2.2 - 1) hp
  refine ⟨((off - st.2.2 - 1) % per).toNat + 1, by omega, ?_⟩
  rw [tks_snoc, pstep_tick]
  have e : ((tks per off ((off - st.2.2 - 1) % per).toNat st).2.2 + 1) % per = off := by
    rw [tks_ph _ _ hp h, Int.emod_add_emod]
    have e2 : (((off - st.2.2 - 1) % per).toNat : Int) = (off - st.2.2 - 1) % per := by omega
    rw [e2, show st.2.2 + (off - st.2.2 - 1) % per + 1 = (off - st.2.2 - 1) % per + (st.2.2 + 1) from by omega, Int.emod_add_emod, show off - st.2.2 - 1 + (st.2.2 + 1) = off from by omega]
    exact Int.emod_eq_of_lt ho.1 ho.2
  show (polledF _ _ per off).2.1 = []
  unfold polledF
  rw [if_pos e]
/-- how many ticks till nothing waits -/
def tl (per off : Int) : Nat → PS3 → Nat
  | 0, _ => 0
  | n + 1, st => if st.2.1 = [] then 0 else tl per off n (pstep per off st TICK) + 1
theorem tl_eq : ∀ (m : Nat) (st : PS3) (n : Nat), n ≤ m → (∀ j, j < n → (tks per off j st).2.1 ≠ []) → (tks per off n st).2.1 = [] → tl per off m st = n
  | 0, st, n, h, _, _ => by
    have : n = 0 := by omega
    rw [this]
    rfl
  | m + 1, st, 0, _, _, h2 => by
    rw [tl, if_pos (show st.2.1 = [] from h2)]
  | m + 1, st, n + 1, h, h1, h2 => by
    rw [tl, if_neg (show ¬ st.2.1 = [] from h1 0 (by omega)), tl_eq m _ n (by omega) (fun j hj => h1 (j + 1) (by omega)) h2]
theorem tl_lt : ∀ (m : Nat) (st : PS3) (j : Nat), j < tl per off m st → (tks per off j st).2.1 ≠ []
  | 0, st, j, h => by
    rw [tl] at h
    omega
  | m + 1, st, j, h => by
    rw [tl] at h
    split at h
    · omega
    · rename_i hn
      cases j with
      | zero => exact hn
      | succ j => exact tl_lt m _ j (by omega)
theorem tl_nil : ∀ (m : Nat) (st : PS3) (n : Nat), n ≤ m → (tks per off n st).2.1 = [] → (tks per off (tl per off m st) st).2.1 = []
  | 0, st, n, h, h2 => by
    have : n = 0 := by omega
    subst this
    exact h2
  | m + 1, st, n, h, h2 => by
    rw [tl]
    split
    · assumption
    · rename_i hn
      cases n with
      | zero => exact absurd h2 hn
      | succ n => exact tl_nil m _ n (by omega) h2
/-! ### the law's polling -/
theorem lp_tick {n : Nat} {s : LpS} {x : Nat} {ph : Int} (hp : 0 < per) (ho : 0 ≤ off ∧ off < per) (hx : x < n ∨ 0 < s.2.1.length) (he : ph = s.2.2 % per) : lpStep n per off s (TICK, x) = ((pstep per off (s.1, s.2.1, ph) TICK).1, (pstep per off (s.1, s.2.1, ph) TICK).2.1, s.2.2 + 1) ∧ (pstep per off (s.1, s.2.1, ph) TICK).2.2 = (s.2.2 + 1) % per := by
  have e1 : (ph + 1) % per = (s.2.2 + 1) % per := by rw [he, Int.emod_add_emod]
  have e2 : ((s.2.2 + 1 - off) % per = 0) ↔ (ph + 1) % per = off := by
    rw [e1]
    constructor
    · intro h
      have := Int.emod_eq_emod_iff_emod_sub_eq_zero.mpr h
      rw [this]
      exact Int.emod_eq_of_lt ho.1 ho.2
    · intro h
      refine Int.emod_eq_emod_iff_emod_sub_eq_zero.mp ?_
      rw [h]
      exact (Int.emod_eq_of_lt ho.1 ho.2).symm
  rw [pstep_tick]
  unfold lpStep polledF
  rw [if_pos rfl, if_pos hx]
  by_cases h : (s.2.2 + 1 - off) % per = 0
  · rw [if_pos h, if_pos (e2.mp h)]
    exact ⟨by simp, e1⟩
  · rw [if_neg h, if_neg fun z => h (e2.mpr z)]
    exact ⟨rfl, e1⟩
theorem lp_items {n : Nat} (hp : 0 < per) (ho : 0 ≤ off ∧ off < per) : ∀ (l : List Str) (k : Nat) (s : LpS) (st : PS3), k + l.length ≤ n → s.1 = st.1 → s.2.1 = st.2.1 → st.2.2 = s.2.2 % per →
    ((l.zipIdx k).foldl (lpStep n per off) s).1 = (l.foldl (pstep per off) st).1 ∧ ((l.zipIdx k).foldl (lpStep n per off) s).2.1 = (l.foldl (pstep per off) st).2.1 ∧ (l.foldl (pstep per off) st).2.2 = ((l.zipIdx k).foldl (lpStep n per off) s).2.2 % per
  | [], k, s, st, _, h1, h2, h3 => ⟨h1, h2, h3⟩
  | x :: l, k, s, st, hk, h1, h2, h3 => by
    rw [List.length_cons] at hk
    rw [List.zipIdx_cons, List.foldl_cons, List.foldl_cons]
    have est : st = (s.1, s.2.1, st.2.2) := by rw [h1, h2]
    by_cases hx : x = TICK
    · subst hx
      obtain ⟨a, b⟩ := lp_tick (n := n) (s := s) (x := k) hp ho (.inl (by omega)) h3
      rw [← est] at a b
      refine lp_items hp ho l (k + 1) _ _ (by omega) ?_ ?_ ?_
      · rw [a]
      · rw [a]
      · rw [a, b]
    · refine lp_items hp ho l (k + 1) _ _ (by omega) ?_ ?_ ?_
      · unfold lpStep
        rw [if_neg hx, pstep_name _ hx]
        exact h1
      · unfold lpStep
        rw [if_neg hx, pstep_name _ hx]
        show s.2.1 ++ [x] = st.2.1 ++ [x]
        rw [h2]
      · unfold lpStep
        rw [if_neg hx, pstep_name _ hx]
        exact h3
theorem lp_tail {n : Nat} (hp : 0 < per) (ho : 0 ≤ off ∧ off < per) : ∀ (m k : Nat) (s : LpS) (st : PS3), n ≤ k → s.1 = st.1 → s.2.1 = st.2.1 → st.2.2 = s.2.2 % per →
    (((List.replicate m TICK).zipIdx k).foldl (lpStep n per off) s).1 = (tks per off (tl per off m st) st).1
  | 0, k, s, st, _, h1, _, _ => h1
  | m + 1, k, s, st, hk, h1, h2, h3 => by
    rw [List.replicate_succ, List.zipIdx_cons, List.foldl_cons, tl]
    have est : st = (s.1, s.2.1, st.2.2) := by rw [h1, h2]
    by_cases hw : st.2.1 = []
    · rw [if_pos hw]
      have same : lpStep n per off s (TICK, k) = s := by
        unfold lpStep
        rw [if_pos rfl, if_neg]
        rw [h2, hw]
        simp only [List.length_nil]
        omega
      rw [same, lp_tail hp ho m (k + 1) s st (by omega) h1 h2 h3]
      cases m with
      | zero => rfl
      | succ m => rw [tl, if_pos hw]
    · rw [if_neg hw]
      obtain ⟨a, b⟩ := lp_tick (n := n) (s := s) (x := k) hp ho (.inr (by rw [h2]; exact List.length_pos_iff.mpr hw)) h3
      rw [← est] at a b
      exact lp_tail hp ho m (k + 1) _ _ (by omega) (by rw [a]) (by rw [a]) (by rw [a, b])
theorem law_polled (hp : 0 < per) (ho : 0 ≤ off ∧ off < per) (items : List Str) : lawPolledF items per off = (tks per off (tl per off 62 (prun per off items)) (prun per off items)).1 := by
  unfold lawPolledF
  rw [List.zipIdx_append, List.foldl_append]
  have h := lp_items (n := items.length) (per := per) (off := off) hp ho items 0 ([], [], 0) ([], [], 0) (by omega) rfl rfl (by rw [Int.zero_emod])
  exact lp_tail hp ho 62 _ _ (prun per off items) (by omega) h.1 h.2.1 h.2.2
theorem prun_ph (hp : 0 < per) (l : List Str) : 0 ≤ (prun per off l).2.2 ∧ (prun per off l).2.2 < per := by
  have key : ∀ (l : List Str) (st : PS3), 0 ≤ st.2.2 ∧ st.2.2 < per → 0 ≤ (l.foldl (pstep per off) st).2.2 ∧ (l.foldl (pstep per off) st).2.2 < per := by
    intro l
    induction l with
    | nil => exact fun st h => h
    | cons x l ih =>
      intro st h
      refine ih _ ?_
      by_cases hx : x = TICK
      · subst hx
        rw [pstep_tick]
        show 0 ≤ (polledF _ _ per off).2.2 ∧ (polledF _ _ per off).2.2 < per
        rw [polled_ph]
        exact ⟨Int.emod_nonneg _ (by omega), Int.emod_lt_of_pos _ hp⟩
      · rw [pstep_name _ hx]
        exact h
  exact key l ([], [], 0) ⟨by show (0 : Int) ≤ 0; omega, hp⟩
theorem cntT_app (a b : List Str) : cntT (a ++ b) = cntT a + cntT b := by
  unfold cntT
  rw [List.filter_append, List.length_append]
  omega
theorem cntT_none {l : List Str} (h : ∀ x ∈ l, x ≠ TICK) : cntT l = 0 := by
  unfold cntT
  rw [List.filter_eq_nil_iff.mpr fun x hx => by simpa using h x hx]
  rfl
theorem cntT_rep (n : Nat) : cntT (List.replicate n TICK) = n := by
  unfold cntT
  rw [List.filter_eq_self.mpr fun x hx => decide_eq_true (List.mem_replicate.mp hx).2, List.length_replicate]
/-- what waits has no tick; each tick is heard -/
theorem run_cnt (l : List Str) : (∀ x ∈ (prun per off l).2.1, x ≠ TICK) ∧ cntT (prun per off l).1 = cntT l := by
  have key : ∀ (l : List Str) (st : PS3), (∀ x ∈ st.2.1, x ≠ TICK) → (∀ x ∈ (l.foldl (pstep per off) st).2.1, x ≠ TICK) ∧ cntT (l.foldl (pstep per off) st).1 = cntT st.1 + cntT l := by
    intro l
    induction l with
    | nil => exact fun st h => ⟨h, by show cntT st.1 = cntT st.1 + 0; omega⟩
    | cons x l ih =>
      intro st h
      have e : cntT (x :: l) = cntT [x] + cntT l := cntT_app [x] l
      rw [List.foldl_cons, e]
      by_cases hx : x = TICK
      · subst hx
        have one : cntT [TICK] = 1 := cntT_rep 1
        rw [pstep_tick]
        unfold polledF
        split
        · obtain ⟨a, b⟩ := ih (st.1 ++ (st.2.1 ++ [TICK]), [], (st.2.2 + 1) % per) fun x h => nomatch h
          refine ⟨a, b.trans ?_⟩
          show cntT (st.1 ++ (st.2.1 ++ [TICK])) + cntT l = _
          rw [cntT_app, cntT_app, cntT_none h, one]
          omega
        · obtain ⟨a, b⟩ := ih (st.1 ++ [TICK], st.2.1, (st.2.2 + 1) % per) h
          refine ⟨a, b.trans ?_⟩
          show cntT (st.1 ++ [TICK]) + cntT l = _
          rw [cntT_app, one]
          omega
      · have one : cntT [x] = 0 := cntT_none fun y hy => by rw [List.mem_singleton.mp hy]; exact hx
        rw [pstep_name _ hx, one]
        obtain ⟨a, b⟩ := ih (st.1, st.2.1 ++ [x], st.2.2) fun y hy => (List.mem_append.mp hy).elim (h y) fun z => by rw [List.mem_singleton.mp z]; exact hx
        exact ⟨a, b.trans (by show cntT st.1 + cntT l = _; omega)⟩
  obtain ⟨a, b⟩ := key l ([], [], 0) fun x h => nomatch h
  exact ⟨a, b.trans (by show cntT [] + cntT l = cntT l; show 0 + cntT l = _; omega)⟩
/-- the ticks behind -/
abbrev rst (per off : Int) (items : List Str) : Nat := tl per off 62 (prun per off items)
theorem polled_is (hp : 0 < per) (ho : 0 ≤ off ∧ off < per) (items : List Str) : lawPolledF items per off = (prun per off (items ++ List.replicate (rst per off items) TICK)).1 := by
  rw [law_polled hp ho, tks_run]
theorem extra_is (hp : 0 < per) (ho : 0 ≤ off ∧ off < per) (items : List Str) : extraT items (lawPolledF items per off) = rst per off items := by
  unfold extraT
  rw [polled_is hp ho, (run_cnt _).2, cntT_app, cntT_rep]
  omega
theorem rst_nil (hp : 0 < per) (h4 : per ≤ 4) (ho : 0 ≤ off ∧ off < per) (items : List Str) : (prun per off (items ++ List.replicate (rst per off items) TICK)).2.1 = [] := by
  rw [tks_run]
  obtain ⟨j, h1, h2⟩ := tks_done (prun per off items) hp (prun_ph hp items) ho
  exact tl_nil 62 _ j (by omega) h2
theorem rst_eq (hp : 0 < per) (h4 : per ≤ 4) (ho : 0 ≤ off ∧ off < per) {items : List Str} {n : Nat} (h1 : ∀ j, j < n → (prun per off (items ++ List.replicate j TICK)).2.1 ≠ []) (h2 : (prun per off (items ++ List.replicate n TICK)).2.1 = []) : rst per off items = n := by
  obtain ⟨j, k1, k2⟩ := tks_done (prun per off items) hp (prun_ph hp items) ho
  have hn : n ≤ j := by
    by_cases h : n ≤ j
    · exact h
    · refine absurd ?_ (h1 j (by omega))
      rw [tks_run]
      exact k2
  refine tl_eq 62 _ n (by omega) (fun j hj => ?_) ?_
  · rw [← tks_run]
    exact h1 j hj
  · rw [← tks_run]
    exact h2
end
end LC
namespace LC
open PySem PySem.Spec PyProof.Rows L2

/-! ### ways and rows -/
structure Sim (c : Cs) (per off : Int) (seq : List Str) (s : Sc) : Prop where
  w : s.wait = (prun per off seq).2.1
  ph : s.phase = (prun per off seq).2.2
  at_ : At2 c seq (prun per off seq).1 s
theorem diff_nil (v : Str) (sg : List Str) : diffF v sg [] [] = ([], []) := by
  unfold diffF
  split
  · rfl
  · split
    · rw [excess_of fun s _ => Nat.le_refl _]
    · rfl
section
variable {c : Cs} {per off : Int}
theorem sim_first (C : c.Ok) : Sim c per off [] (firstF c) where
  w := rfl
  ph := rfl
  at_ := ⟨rfl, rfl, by
    show c.views.map (fun _ => (([], []) : Df)) = dsOf c [] []
    unfold dsOf
    have e : ∀ k ∈ List.range c.prog.chans.length, diffF (c.views.getD k "") (c.prog.chans.getD k ("", [])).2 (sigsOf k (writ c.prog [])) (sigsOf k (writ c.prog [])) = (([], []) : Df) := fun k _ => diff_nil _ _
    rw [List.map_congr_left e, List.map_const', List.map_const', List.length_range, C.v]⟩
theorem Sim.snd {seq : List Str} {s : Sc} (h : Sim c per off seq s) (o : Option Cf) : Sim c per off seq { s with snd := o } := ⟨h.w, h.ph, h.at_.a, h.at_.b, h.at_.ds⟩
theorem sim_tick (hN : NdSg c) {seq : List Str} {s : Sc} (h : Sim c per off seq s) (o : Option Cf) : Sim c per off (seq ++ [TICK]) (heardF c { s with snd := o, wait := (polledF s.wait s.phase per off).2.1, phase := (polledF s.wait s.phase per off).2.2 } [TICK] (polledF s.wait s.phase per off).1) where
  w := by
    rw [prun_snoc, pstep_tick, ← h.w, ← h.ph]
    rfl
  ph := by
    rw [prun_snoc, pstep_tick, ← h.w, ← h.ph]
    rfl
  at_ := by
    rw [prun_snoc, pstep_tick, ← h.w, ← h.ph]
    exact at2_heard hN (s := { s with snd := o, wait := (polledF s.wait s.phase per off).2.1, phase := (polledF s.wait s.phase per off).2.2 }) ⟨h.at_.a, h.at_.b, h.at_.ds⟩ [TICK] _
theorem sim_send (hN : NdSg c) {seq : List Str} {s : Sc} (h : Sim c per off seq s) (o : Option Cf) {n : Str} (hn : n ≠ TICK) : Sim c per off (seq ++ [n]) (heardF c { s with snd := o, wait := s.wait ++ [n] } [n] []) where
  w := by
    rw [prun_snoc, pstep_name _ hn, ← h.w]
    rfl
  ph := by
    rw [prun_snoc, pstep_name _ hn]
    exact h.ph
  at_ := by
    rw [prun_snoc, pstep_name _ hn]
    have := at2_heard hN (s := { s with snd := o, wait := s.wait ++ [n] }) ⟨h.at_.a, h.at_.b, h.at_.ds⟩ [n] []
    rwa [List.append_nil] at this
def Items (c : Cs) (items : List Str) : Prop := permF c.traf (startF c.traf) items = true ∧ ∀ x ∈ items, x = TICK ∨ x ∈ c.prog.names
theorem perm_app {m : Mc} : ∀ (a b : List Str) (cf : Cf), permF m cf (a ++ b) = (permF m cf a && permF m (runF m cf a).1 b)
  | [], b, cf => rfl
  | x :: a, b, cf => by
    show (!forbidsF m cf x && permF m (stepF m cf x).1 (a ++ b)) = ((!forbidsF m cf x && permF m (stepF m cf x).1 a) && _)
    rw [perm_app a b, Bool.and_assoc]
    rfl
theorem perm_snoc {m : Mc} {a : List Str} {cf : Cf} {x : Str} : permF m cf (a ++ [x]) = (permF m cf a && !forbidsF m (runF m cf a).1 x) := by
  rw [perm_app]
  show (_ && (!forbidsF m (runF m cf a).1 x && true)) = _
  rw [Bool.and_true]
theorem run_snoc {m : Mc} {a : List Str} {cf : Cf} {x : Str} : (runF m cf (a ++ [x])).1 = (stepF m (runF m cf a).1 x).1 := (runF_app a [x] cf).1
theorem due_tick : dueE TICK = .tick := if_pos rfl
theorem due_name {x : Str} (h : x ≠ TICK) : dueE x = .sent x := if_neg h
theorem path_shape (C : c.Ok) (hN : NdSg c) (hnm : ∀ x ∈ c.prog.names, x ≠ TICK) {evs : List Ev} {t : Sc} (h : PathTo (followF c per off) (firstF c) evs t) :
    (∃ items, evs = items.map dueE ∧ Items c items ∧ t.snd = some (runF c.traf (startF c.traf) items).1 ∧ Sim c per off items t) ∨
    (∃ items n, evs = items.map dueE ++ [.stopped] ++ List.replicate n .tick ∧ Items c items ∧ t.snd = none ∧ Sim c per off (items ++ List.replicate n TICK) t ∧ ∀ j, j < n → (prun per off (items ++ List.replicate j TICK)).2.1 ≠ []) := by
  induction h with
  | nil => exact .inl ⟨[], rfl, ⟨rfl, fun x h => nomatch h⟩, rfl, sim_first C⟩
  | @snoc evs s t e _ hm ih =>
    unfold followF at hm
    rcases List.mem_append.mp hm with hm | hm
    · rcases List.mem_append.mp hm with hm | hm
      · unfold stopF at hm
        split at hm
        · cases hm
        · rename_i cf hs
          have hm := List.mem_singleton.mp hm
          cases hm
          rcases ih with ⟨items, rfl, hi, h1, h2⟩ | ⟨items, n, rfl, hi, h1, h2, h3⟩
          · refine .inr ⟨items, 0, by simp, hi, rfl, ?_, fun j hj => by omega⟩
            rw [List.replicate_zero, List.append_nil]
            exact h2.snd none
          · rw [h1] at hs
            cases hs
      · unfold tickF at hm
        split at hm
        · rename_i hc
          have hm := List.mem_singleton.mp hm
          cases hm
          rcases ih with ⟨items, rfl, hi, h1, h2⟩ | ⟨items, n, rfl, hi, h1, h2, h3⟩
          · rw [h1] at hc
            have hf : forbidsF c.traf (runF c.traf (startF c.traf) items).1 TICK = false := by
              simp [maySendF] at hc
              exact hc
            refine .inl ⟨items ++ [TICK], by rw [List.map_append]; rfl, ⟨by rw [perm_snoc, hi.1, hf]; rfl, fun x hx => (List.mem_append.mp hx).elim (hi.2 x) fun z => .inl (List.mem_singleton.mp z)⟩, ?_, sim_tick hN h2 _⟩
            show behindF c s.snd TICK = _
            rw [h1, run_snoc]
            rfl
          · rw [h1] at hc
            have hw : s.wait ≠ [] := fun z => by rw [z] at hc; simp [maySendF] at hc
            refine .inr ⟨items, n + 1, ?_, hi, ?_, ?_, fun j hj => ?_⟩
            · simp [List.replicate_succ', List.append_assoc]
            · show behindF c s.snd TICK = none
              rw [h1]
              rfl
            · rw [List.replicate_succ', ← List.append_assoc]
              exact sim_tick hN h2 _
            · by_cases hj2 : j < n
              · exact h3 j hj2
              · have e : j = n := by omega
                rw [e, ← h2.w]
                exact hw
        · cases hm
    · obtain ⟨x, hx, hm⟩ := List.mem_flatMap.mp hm
      unfold sendF at hm
      split at hm
      · rename_i hc
        have hm := List.mem_singleton.mp hm
        have he := congrArg Prod.fst hm
        have ht := congrArg Prod.snd hm
        simp only at he ht
        subst he
        split at ht
        · cases ht
          rcases ih with ⟨items, rfl, hi, h1, h2⟩ | ⟨items, n, rfl, hi, h1, h2, h3⟩
          · rw [h1] at hc
            have hf : forbidsF c.traf (runF c.traf (startF c.traf) items).1 x = false := by
              simp [maySendF] at hc
              exact hc
            refine .inl ⟨items ++ [x], by rw [List.map_append, List.map_singleton, due_name (hnm x hx)], ⟨by rw [perm_snoc, hi.1, hf]; rfl, fun y hy => (List.mem_append.mp hy).elim (hi.2 y) fun z => .inr (by rw [List.mem_singleton.mp z]; exact hx)⟩, ?_, sim_send hN h2 _ (hnm x hx)⟩
            show behindF c s.snd x = _
            rw [h1, run_snoc]
            rfl
          · rw [h1] at hc
            cases hc
        · cases ht
      · cases hm
/-- the row of items -/
def rowOf (per off : Int) (items : List Str) : List Ev := items.map dueE ++ [.stopped] ++ List.replicate (rst per off items) .tick
theorem sent_row (n : Nat) : ∀ items : List Str, sentF (items.map dueE ++ [.stopped] ++ List.replicate n .tick) = items
  | [] => rfl
  | x :: l => by
    have ih := sent_row n l
    by_cases h : x = TICK
    · subst h
      show sentF (dueE TICK :: (l.map dueE ++ [.stopped] ++ List.replicate n .tick)) = _
      rw [due_tick]
      show TICK :: sentF _ = _
      rw [ih]
    · show sentF (dueE x :: (l.map dueE ++ [.stopped] ++ List.replicate n .tick)) = _
      rw [due_name h]
      show x :: sentF _ = _
      rw [ih]
theorem row_len (items : List Str) : (rowOf per off items).length = items.length + 1 + rst per off items := by
  unfold rowOf
  rw [List.length_append, List.length_append, List.length_map, List.length_replicate, List.length_singleton]
end
section
variable {p : Pl} {per off : Int}
/-- an end scene's way is a row, and harmful -/
theorem row_of_path (O : p.Ok) (C : (csOf p).Ok) (hN : NdSg (csOf p)) (hS : SigIn p.prog) (hnm : ∀ x ∈ p.prog.names, x ≠ TICK) (hp : 0 < per) (h4 : per ≤ 4) (ho : 0 ≤ off ∧ off < per) {evs : List Ev} {t : Sc}
    (h : PathTo (followF (csOf p) per off) (firstF (csOf p)) evs t) (he : endF (csOf p) t = true) : isRowF p evs per off = true ∧ harmfulF p (sentF evs) per off = true := by
  unfold endF at he
  simp only [Bool.and_eq_true, Option.isNone_iff_eq_none, List.isEmpty_iff] at he
  obtain ⟨⟨e1, e2⟩, e3⟩ := he
  rcases path_shape C hN hnm h with ⟨items, _, _, h1, _⟩ | ⟨items, n, rfl, hi, _, h2, h3⟩
  · rw [h1] at e1
    cases e1
  · have hr : rst per off items = n := rst_eq hp h4 ho h3 (by rw [← h2.w]; exact e2)
    rw [harm_at2 O hN hS h2.at_] at e3
    constructor
    · unfold isRowF
      rw [sent_row, extra_is hp ho, hr, Bool.and_eq_true]
      exact ⟨decide_eq_true rfl, hi.1⟩
    · unfold harmfulF
      rw [sent_row, extra_is hp ho, hr, polled_is hp ho, hr]
      exact e3
/-- items lead along their row -/
theorem path_items (hN : NdSg (csOf p)) (hnm : ∀ x ∈ p.prog.names, x ≠ TICK) {len : Nat} (nn : ∀ evs' t', PathTo (followF (csOf p) per off) (firstF (csOf p)) evs' t' → evs'.length < len → ∀ e, (e, none) ∉ followF (csOf p) per off t') :
    ∀ (rest items : List Str) (t : Sc), PathTo (followF (csOf p) per off) (firstF (csOf p)) (items.map dueE) t → t.snd = some (runF p.traf (startF p.traf) items).1 → Sim (csOf p) per off items t → permF p.traf (runF p.traf (startF p.traf) items).1 rest = true → (∀ x ∈ rest, x = TICK ∨ x ∈ p.prog.names) → items.length + rest.length ≤ len →
      ∃ t', PathTo (followF (csOf p) per off) (firstF (csOf p)) ((items ++ rest).map dueE) t' ∧ t'.snd = some (runF p.traf (startF p.traf) (items ++ rest)).1 ∧ Sim (csOf p) per off (items ++ rest) t'
  | [], items, t, h1, h2, h3, _, _, _ => ⟨t, by rw [List.append_nil]; exact h1, by rw [List.append_nil]; exact h2, by rw [List.append_nil]; exact h3⟩
  | x :: rest, items, t, h1, h2, h3, h4, h5, h6 => by
    rw [List.length_cons] at h6
    have h4 : (!forbidsF p.traf (runF p.traf (startF p.traf) items).1 x && permF p.traf (stepF p.traf (runF p.traf (startF p.traf) items).1 x).1 rest) = true := h4
    rw [Bool.and_eq_true] at h4
    have ms : maySendF (csOf p) t.snd x = true := by
      rw [h2]
      exact h4.1
    have go : ∃ t2, PathTo (followF (csOf p) per off) (firstF (csOf p)) ((items ++ [x]).map dueE) t2 ∧ t2.snd = some (runF p.traf (startF p.traf) (items ++ [x])).1 ∧ Sim (csOf p) per off (items ++ [x]) t2 := by
      by_cases hx : x = TICK
      · subst hx
        refine ⟨_, ?_, ?_, sim_tick hN h3 (behindF (csOf p) t.snd TICK)⟩
        · rw [List.map_append, List.map_singleton, due_tick]
          refine .snoc h1 (List.mem_append_left _ (List.mem_append_right _ ?_))
          unfold tickF
          rw [if_pos (by rw [ms]; rfl)]
          exact List.mem_singleton.mpr rfl
        · show behindF (csOf p) t.snd TICK = _
          rw [h2, run_snoc]
          rfl
      · have hxn := (h5 x (List.mem_cons_self ..)).resolve_left hx
        have inF : (Ev.sent x, if t.wait.length < 6 then some (heardF (csOf p) { t with snd := behindF (csOf p) t.snd x, wait := t.wait ++ [x] } [x] []) else none) ∈ followF (csOf p) per off t := by
          refine List.mem_append_right _ (List.mem_flatMap.mpr ⟨x, hxn, ?_⟩)
          unfold sendF
          rw [if_pos ms]
          exact List.mem_singleton.mpr rfl
        by_cases hw : t.wait.length < 6
        · rw [if_pos hw] at inF
          refine ⟨_, ?_, ?_, sim_send hN h3 (behindF (csOf p) t.snd x) hx⟩
          · rw [List.map_append, List.map_singleton, due_name hx]
            exact .snoc h1 inF
          · show behindF (csOf p) t.snd x = _
            rw [h2, run_snoc]
            rfl
        · rw [if_neg hw] at inF
          exact absurd inF (nn _ t h1 (by rw [List.length_map]; omega) _)
    obtain ⟨t2, g1, g2, g3⟩ := go
    obtain ⟨t', k1, k2, k3⟩ := path_items hN hnm nn rest (items ++ [x]) t2 g1 g2 g3 (by rw [run_snoc]; exact h4.2) (fun y hy => h5 y (List.mem_cons_of_mem _ hy)) (by rw [List.length_append, List.length_singleton]; omega)
    refine ⟨t', ?_, ?_, ?_⟩ <;> rw [show items ++ x :: rest = (items ++ [x]) ++ rest from by simp]
    · exact k1
    · exact k2
    · exact k3
theorem path_ticks (hN : NdSg (csOf p)) {items : List Str} {evs : List Ev} : ∀ (n : Nat) (t : Sc), PathTo (followF (csOf p) per off) (firstF (csOf p)) evs t → t.snd = none → Sim (csOf p) per off items t → (∀ j, j < n → (prun per off (items ++ List.replicate j TICK)).2.1 ≠ []) →
    ∃ t', PathTo (followF (csOf p) per off) (firstF (csOf p)) (evs ++ List.replicate n .tick) t' ∧ t'.snd = none ∧ Sim (csOf p) per off (items ++ List.replicate n TICK) t'
  | 0, t, h1, h2, h3, _ => ⟨t, by simpa using h1, h2, by simpa using h3⟩
  | n + 1, t, h1, h2, h3, h4 => by
    obtain ⟨t1, k1, k2, k3⟩ := path_ticks hN n t h1 h2 h3 fun j hj => h4 j (by omega)
    have sim : Sim (csOf p) per off (items ++ List.replicate (n + 1) TICK) (heardF (csOf p) { t1 with snd := behindF (csOf p) t1.snd TICK, wait := (polledF t1.wait t1.phase per off).2.1, phase := (polledF t1.wait t1.phase per off).2.2 } [TICK] (polledF t1.wait t1.phase per off).1) := by
      rw [List.replicate_succ', ← List.append_assoc]
      exact sim_tick hN k3 (behindF (csOf p) t1.snd TICK)
    refine ⟨_, ?_, ?_, sim⟩
    · rw [List.replicate_succ', ← List.append_assoc]
      refine .snoc k1 (List.mem_append_left _ (List.mem_append_right _ ?_))
      have hw : t1.wait ≠ [] := by
        rw [k3.w]
        exact h4 n (by omega)
      unfold tickF
      rw [if_pos]
      · exact List.mem_singleton.mpr rfl
      · rw [k2]
        have : t1.wait.isEmpty = false := by cases hq : t1.wait with | nil => exact absurd hq hw | cons _ _ => rfl
        rw [this]
        rfl
    · show behindF (csOf p) t1.snd TICK = none
      rw [k2]
      rfl
/-- harmful items have an end scene -/
theorem path_of_items (O : p.Ok) (C : (csOf p).Ok) (hN : NdSg (csOf p)) (hS : SigIn p.prog) (hnm : ∀ x ∈ p.prog.names, x ≠ TICK) (hp : 0 < per) (h4 : per ≤ 4) (ho : 0 ≤ off ∧ off < per) {items : List Str} (hi : Items (csOf p) items) (hh : harmfulF p items per off = true)
    (nn : ∀ evs' t', PathTo (followF (csOf p) per off) (firstF (csOf p)) evs' t' → evs'.length < items.length → ∀ e, (e, none) ∉ followF (csOf p) per off t') :
    ∃ t, PathTo (followF (csOf p) per off) (firstF (csOf p)) (rowOf per off items) t ∧ endF (csOf p) t = true := by
  obtain ⟨t, h1, h2, h3⟩ := path_items hN hnm nn items [] (firstF (csOf p)) .nil rfl (sim_first C) hi.1 hi.2 (by simp)
  rw [List.nil_append] at h1 h2 h3
  have stop : PathTo (followF (csOf p) per off) (firstF (csOf p)) (items.map dueE ++ [.stopped]) { t with snd := none } := by
    refine .snoc h1 (List.mem_append_left _ (List.mem_append_left _ ?_))
    unfold stopF
    rw [h2]
    exact List.mem_singleton.mpr rfl
  obtain ⟨t', k1, k2, k3⟩ := path_ticks hN (rst per off items) _ stop rfl (h3.snd none) (fun j hj => by
    rw [tks_run]
    exact tl_lt 62 _ j hj)
  refine ⟨t', k1, ?_⟩
  unfold endF
  have hw : t'.wait = [] := by
    rw [k3.w]
    exact rst_nil hp h4 ho items
  rw [k2, hw, harm_at2 O hN hS k3.at_]
  unfold harmfulF at hh
  rw [extra_is hp ho, polled_is hp ho] at hh
  rw [hh]
  rfl
end
end LC
namespace LC
open PySem PySem.Spec PyProof.Rows L2

/-! ### what the law asks of what was found -/
structure PlOk (p : Pl) : Prop where
  ok : p.Ok
  c : (csOf p).Ok
  nd : NdSg (csOf p)
  si : SigIn p.prog
  nm : ∀ x ∈ p.prog.names, x ≠ TICK
  so : okS p.prog.names
section
variable {p : Pl} {per off : Int}
theorem first_end (c : Cs) : endF c (firstF c) = false := rfl
theorem okE_row {evs : List Ev} (O : PlOk p) {t : Sc} (h : PathTo (followF (csOf p) per off) (firstF (csOf p)) evs t) : ∀ e ∈ evs, okE e := fun e he => by
  have due : ∀ items : List Str, Items (csOf p) items → ∀ e ∈ items.map dueE, okE e := fun items hi e he => by
    obtain ⟨x, hx, rfl⟩ := List.mem_map.mp he
    by_cases h : x = TICK
    · rw [h, due_tick]
      show PyData.strOk TICK = true
      decide +kernel
    · rw [due_name h]
      exact O.so x ((hi.2 x hx).resolve_left h)
  rcases path_shape O.c O.nd O.nm h with ⟨items, rfl, hi, _⟩ | ⟨items, n, rfl, hi, _⟩
  · exact due items hi e he
  · rcases List.mem_append.mp he with he | he
    · rcases List.mem_append.mp he with he | he
      · exact due items hi e he
      · rw [List.mem_singleton.mp he]
        show PyData.strOk "stopped" = true
        decide +kernel
    · rw [(List.mem_replicate.mp he).2]
      show PyData.strOk TICK = true
      decide +kernel
theorem found_law (O : PlOk p) (hp : 0 < per) (h4 : per ≤ 4) (ho : 0 ≤ off ∧ off < per) {k : List Nd} (hv : exploreF (followF (csOf p) per off) (endF (csOf p)) (firstF (csOf p)) = .found k) :
    ∃ evs, (upF k (k.length - 1) (k.length - 1)).reverse = evs.map eE ∧ (∀ e ∈ evs, okE e) ∧ evs.length ≤ 1000 ∧ isRowF p evs per off = true ∧ harmfulF p (sentF evs) per off = true ∧ ∀ items, Items (csOf p) items → harmfulF p items per off = true → evs.length ≤ items.length + 1 + extraT items (lawPolledF items per off) := by
  have S := explore_said (fo := followF (csOf p) per off) (isE := endF (csOf p)) (first_end (csOf p))
  rw [hv] at S
  obtain ⟨evs, t, h1, h2, h3, h5, h6⟩ := S
  obtain ⟨_, _, hk⟩ := exploreF_kept hv
  obtain ⟨r1, r2⟩ := row_of_path O.ok O.c O.nd O.si O.nm hp h4 ho h1 h2
  refine ⟨evs, h3, okE_row O h1, by omega, r1, r2, fun items hi hh => ?_⟩
  rw [extra_is hp ho]
  by_cases hl : evs.length ≤ items.length + 1 + rst per off items
  · exact hl
  · exfalso
    obtain ⟨t', k1, k2⟩ := path_of_items O.ok O.c O.nd O.si O.nm hp h4 ho hi hh fun evs' t' q hq => (h5 evs' t' q (by omega)).2 (by omega)
    have := (h5 _ t' k1 (by rw [row_len]; omega)).1
    rw [k2] at this
    cases this
theorem none_law (O : PlOk p) (hp : 0 < per) (h4 : per ≤ 4) (ho : 0 ≤ off ∧ off < per) {k : List Nd} (hv : exploreF (followF (csOf p) per off) (endF (csOf p)) (firstF (csOf p)) = .go k) {items : List Str} (hi : Items (csOf p) items) : harmfulF p items per off = false := by
  have S := explore_said (fo := followF (csOf p) per off) (isE := endF (csOf p)) (first_end (csOf p))
  rw [hv] at S
  cases hh : harmfulF p items per off with
  | false => rfl
  | true =>
    exfalso
    obtain ⟨t', k1, k2⟩ := path_of_items O.ok O.c O.nd O.si O.nm hp h4 ho hi hh fun evs' t' q _ => (S evs' t' q).2
    have := (S _ t' k1).1
    rw [k2] at this
    cases this
theorem draw_items {items : List Str} (hi : Items (csOf p) items) (num : Int) : Items (csOf p) (drawStep p items num) := by
  unfold drawStep
  split
  · rename_i hl
    generalize hL : ((p.prog.names ++ [TICK]).filter fun n => permF p.traf (startF p.traf) (items ++ [n])) = L at hl
    have hm : L.getD (num % (L.length : Int)).toNat "" ∈ L := by
      have h0 := Int.emod_nonneg num (show (L.length : Int) ≠ 0 by omega)
      have h1 := Int.emod_lt_of_pos num (show (0 : Int) < L.length by omega)
      rw [List.getD_eq_getElem?_getD, List.getElem?_eq_getElem (by omega)]
      exact List.getElem_mem _
    generalize L.getD (num % (L.length : Int)).toNat "" = x at hm
    rw [← hL] at hm
    obtain ⟨m1, m2⟩ := List.mem_filter.mp hm
    refine ⟨m2, fun y hy => ?_⟩
    rcases List.mem_append.mp hy with z | z
    · exact hi.2 y z
    · rw [List.mem_singleton.mp z]
      rcases List.mem_append.mp m1 with q | q
      · exact .inr q
      · exact .inl (List.mem_singleton.mp q)
  · exact hi
theorem drawn_items (cell : Int) (n : Nat) : Items (csOf p) (drawnF p cell n) ∧ (drawnF p cell n).length ≤ n := by
  unfold drawnF
  have key : ∀ (l : List Int) (items : List Str), Items (csOf p) items → Items (csOf p) (l.foldl (drawStep p) items) ∧ (l.foldl (drawStep p) items).length ≤ items.length + l.length := by
    intro l
    induction l with
    | nil => exact fun items h => ⟨h, Nat.le_refl _⟩
    | cons x l ih =>
      intro items h
      obtain ⟨a, b⟩ := ih _ (draw_items h x)
      have := drawStep_le p items x
      exact ⟨a, Nat.le_trans b (by rw [List.length_cons]; omega)⟩
  obtain ⟨a, b⟩ := key (rowF cell n) [] ⟨rfl, fun x h => nomatch h⟩
  refine ⟨a, ?_⟩
  rw [rowF_len] at b
  simpa using b
end
end LC
namespace LC
open PySem PySem.Spec PyProof.Rows L2

/-! ### the plan -/
theorem strOk_app {a b : Str} (ha : PyData.strOk a = true) (hb : PyData.strOk b = true) : PyData.strOk (a ++ b) = true := by
  unfold PyData.strOk at *
  rw [Array.all_eq_true_iff_forall_mem] at *
  intro x hx
  have hx : x ∈ a.cps ++ b.cps := hx
  rcases Array.mem_append.mp hx with h | h
  · exact ha x h
  · exact hb x h
theorem strOk_ltr (n : Int) : PyData.strOk (ltr (n % 26)) = true := by
  have h0 := Int.emod_nonneg n (show (26 : Int) ≠ 0 by decide)
  have h1 := Int.emod_lt_of_pos n (show (0 : Int) < 26 by decide)
  unfold PyData.strOk ltr
  rw [Array.all_eq_true_iff_forall_mem]
  intro x hx
  have hx : x = 97 + (n % 26).toNat := by simpa using hx
  rw [hx]
  refine decide_eq_true ?_
  omega
theorem strOk_word (n : Int) : PyData.strOk (wordF n) = true := by
  have h1 : PyData.strOk (if decide (0 < n / 26 % 3) = true then ltr (n % 26) ++ ltr (n / 3 % 26) else ltr (n % 26)) = true := by
    split
    · exact strOk_app (strOk_ltr n) (strOk_ltr _)
    · exact strOk_ltr n
  unfold wordF
  split
  · exact strOk_app (strOk_app (strOk_app h1 (strOk_ltr _)) (strOk_ltr _)) (strOk_ltr _)
  · exact h1
theorem strOk_cut {z : Str} (h : PyData.strOk z = true) (lo hi : Option Int) : PyData.strOk (cutS z lo hi) = true := by
  unfold PyData.strOk cutS at *
  rw [Array.all_eq_true_iff_forall_mem] at *
  intro x hx
  have hx : x ∈ (z.cps.toList.drop (HT.sIx z.length 0 lo)).take (HT.sIx z.length z.length hi - HT.sIx z.length 0 lo) := by simpa using hx
  exact h x (by simpa using List.mem_of_mem_drop (List.mem_of_mem_take hx))
theorem strOk_second (row : List Int) : PyData.strOk (secondF row) = true := by
  unfold secondF
  split
  · exact strOk_app (strOk_word _) (by decide +kernel)
  · exact strOk_word _
theorem strOk_third0 (row : List Int) : PyData.strOk (third0 row) = true := strOk_app (strOk_app (by decide +kernel) (strOk_cut (strOk_word _) _ _)) (strOk_cut (strOk_second row) _ _)
theorem strOk_third (row : List Int) : PyData.strOk (thirdF row) = true := by
  unfold thirdF
  split
  · exact strOk_app (strOk_third0 row) (by decide +kernel)
  · exact strOk_third0 row
theorem names_ok (row : List Int) : okS (namesF row) := fun s hs => by
  unfold namesF at hs
  split at hs
  · simp only [List.mem_cons, List.not_mem_nil, or_false] at hs
    rw [hs]; exact strOk_word _
  · split at hs
    · simp only [List.mem_cons, List.not_mem_nil, or_false] at hs
      rcases hs with h | h | h <;> rw [h]
      · exact strOk_word _
      · exact strOk_second _
      · exact strOk_third _
    · simp only [List.mem_cons, List.not_mem_nil, or_false] at hs
      rcases hs with h | h <;> rw [h]
      · exact strOk_word _
      · exact strOk_second _
theorem word_lens (n : Int) : (wordF n).length = 1 ∨ (wordF n).length = 2 ∨ (wordF n).length = 5 := by
  unfold wordF
  split
  · rename_i h
    have h := of_decide_eq_true h
    rw [if_pos (decide_eq_true (by omega))]
    refine .inr (.inr ?_)
    simp only [PySem.Str.length_append, ltr_len]
  · split
    · refine .inr (.inl ?_)
      simp only [PySem.Str.length_append, ltr_len]
    · exact .inl rfl
theorem tick_len : (TICK : Str).length = 4 := by decide +kernel
theorem word_nt (n : Int) : wordF n ≠ TICK := fun h => by
  have := word_lens n
  rw [h, tick_len] at this
  omega
theorem second_nt (row : List Int) : secondF row ≠ TICK := fun h => by
  have hw := word_lens (row.getD 1 0)
  have hl : (secondF row).length = 4 := by rw [h]; exact tick_len
  unfold secondF at hl
  split at hl
  · rw [PySem.Str.length_append] at hl
    have q1 : ("q" : Str).length = 1 := by decide
    omega
  · omega
theorem third0_z (row : List Int) : (third0 row).cps.toList[0]? = some 122 := by
  have e : (third0 row).cps = (("z" : Str).cps ++ (cutS (wordF (row.getD 0 0)) none (some 3)).cps) ++ (cutS (secondF row) none (some 3)).cps := rfl
  have ez : ("z" : Str).cps.toList = [122] := by decide +kernel
  rw [e, Array.toList_append, Array.toList_append, ez]
  rfl
theorem third_nt (row : List Int) : thirdF row ≠ TICK := fun h => by
  have hz : (thirdF row).cps.toList[0]? = some 122 := by
    unfold thirdF
    split
    · have e : (third0 row ++ "q").cps = (third0 row).cps ++ ("q" : Str).cps := rfl
      have h0 := third0_z row
      rw [e, Array.toList_append, List.getElem?_append_left (List.getElem?_eq_some_iff.mp h0).1]
      exact h0
    · exact third0_z row
  rw [h] at hz
  have : (TICK : Str).cps.toList[0]? ≠ some 122 := by decide +kernel
  exact this hz
theorem names_nt (row : List Int) : ∀ x ∈ namesF row, x ≠ TICK := fun s hs => by
  unfold namesF at hs
  split at hs
  · simp only [List.mem_cons, List.not_mem_nil, or_false] at hs
    rw [hs]; exact word_nt _
  · split at hs
    · simp only [List.mem_cons, List.not_mem_nil, or_false] at hs
      rcases hs with h | h | h <;> rw [h]
      · exact word_nt _
      · exact second_nt _
      · exact third_nt _
    · simp only [List.mem_cons, List.not_mem_nil, or_false] at hs
      rcases hs with h | h <;> rw [h]
      · exact word_nt _
      · exact second_nt _
theorem getD_mem' {α : Type} {l : List α} {i : Nat} {d : α} (h : i < l.length) : l.getD i d ∈ l := by
  rw [List.getD_eq_getElem?_getD, List.getElem?_eq_getElem h]
  exact List.getElem_mem _
theorem sig_facts {r : List Int} {z : Sz} (Z : z.Ok) (h2 : 0 < z.n2) (k : Nat) : 0 ≤ (sigF r z k).1 ∧ (sigF r z k).1 < z.n2 ∧ (sigF r z k).2 ∈ (chTab.getD (sigF r z k).1.toNat ("", [])).2 := by
  have c0 : 0 ≤ chanF r z k := Int.emod_nonneg _ (by omega)
  have c1 : chanF r z k < z.n2 := Int.emod_lt_of_pos _ h2
  have hb := Z.b2
  refine ⟨c0, c1, ?_⟩
  have tb : ∀ n : Nat, n < 3 → (chTab.getD n ("", [])).2 = sigTab.getD n [] ∧ 0 < (sigTab.getD n []).length := by decide +kernel
  obtain ⟨t1, t2⟩ := tb (chanF r z k).toNat (by omega)
  show (toldF r z k).getD _ "" ∈ (chTab.getD (chanF r z k).toNat ("", [])).2
  rw [t1]
  have t2 : 0 < (toldF r z k).length := t2
  have m0 := Int.emod_nonneg (r.getD 8 0 / (1 + (k : Int))) (show ((toldF r z k).length : Int) ≠ 0 by omega)
  have m1 := Int.emod_lt_of_pos (r.getD 8 0 / (1 + (k : Int))) (show (0 : Int) < ((toldF r z k).length : Int) by omega)
  show (toldF r z k).getD _ "" ∈ toldF r z k
  exact getD_mem' (by omega)
theorem chTab_ok : ∀ c ∈ chTab, c.2.length ≤ 8 ∧ (∀ x ∈ c.2, PyData.strOk x = true) ∧ c.2.Nodup := by decide +kernel
theorem chTab_len : chTab.length = 3 := rfl
theorem parts_mem {cell : Int} {nm : List Str} {tr : Bool} {c : Str × List Str} (h : c ∈ (partsF cell nm tr).chans) : c ∈ chTab := by
  have h : c ∈ (if tr = true then [] else chTab.take (szF (rowF cell 60)).n2.toNat) := h
  split at h
  · cases h
  · exact List.mem_of_mem_take h
theorem parts_chlen {cell : Int} {nm : List Str} : ((partsF cell nm false).chans.length : Int) = (szF (rowF cell 60)).n2 := by
  have Z := szF_ok (rowF cell 60)
  show ((chTab.take (szF (rowF cell 60)).n2.toNat).length : Int) = _
  have h1 := Z.a2
  have h2 := Z.b2
  rw [List.length_take, chTab_len]
  omega
theorem parts_cllen {cell : Int} {nm : List Str} {tr : Bool} : ((partsF cell nm tr).clocks.length : Int) = (szF (rowF cell 60)).n1 := by
  have Z := szF_ok (rowF cell 60)
  show ((clkTab.take (szF (rowF cell 60)).n1.toNat).length : Int) = _
  have h1 := Z.a1
  have h2 := Z.b1
  rw [List.length_take, show clkTab.length = 3 from rfl]
  omega
theorem parts_rule {cell : Int} {nm : List Str} {tr : Bool} {r : Rl} (h : r ∈ (partsF cell nm tr).rules) : ∃ row, r = ruleG row nm (szF (rowF cell 60)) tr := by
  obtain ⟨k, _, rfl⟩ := List.mem_map.mp (show r ∈ (List.range ((rowF cell 60).getD 3 0 % 7).toNat).map fun k => ruleG (rowK (rowF cell 60) k) nm (szF (rowF cell 60)) tr from h)
  exact ⟨_, rfl⟩
theorem rule_sigs {row : List Int} {nm : List Str} {z : Sz} {tr : Bool} {x : Int × Str} (h : x ∈ (ruleG row nm z tr).sigs) : tr = false ∧ 0 < z.n2 ∧ ∃ k, x = sigF row z k := by
  have h : x ∈ (if (!tr && decide (0 < z.n2)) = true then (List.range (tb2.getD (row.getD 7 0 % 8).toNat 0).toNat).map (sigF row z) else []) := h
  split at h
  · rename_i hc
    rw [Bool.and_eq_true, Bool.not_eq_true'] at hc
    obtain ⟨k, _, rfl⟩ := List.mem_map.mp h
    exact ⟨hc.1, of_decide_eq_true hc.2, k, rfl⟩
  · cases h
theorem rule_resets {row : List Int} {nm : List Str} {z : Sz} {tr : Bool} : (ruleG row nm z tr).resets.length ≤ 3 ∧ ∀ k ∈ (ruleG row nm z tr).resets, 0 ≤ k ∧ k < z.n1 := by
  show (if (decide (0 < z.n1) && (decide (row.getD 6 0 % 3 = 0) && !(tgtF row z tr).isNone)) = true then [row.getD 6 0 / 3 % z.n1, row.getD 6 0 / 9 % z.n1, row.getD 6 0 / 27 % z.n1].take (1 + row.getD 3 0 / 3 % 5 / 2).toNat else []).length ≤ 3 ∧ ∀ k ∈ (if (decide (0 < z.n1) && (decide (row.getD 6 0 % 3 = 0) && !(tgtF row z tr).isNone)) = true then [row.getD 6 0 / 3 % z.n1, row.getD 6 0 / 9 % z.n1, row.getD 6 0 / 27 % z.n1].take (1 + row.getD 3 0 / 3 % 5 / 2).toNat else []), 0 ≤ k ∧ k < z.n1
  split
  · rename_i hc
    rw [Bool.and_eq_true] at hc
    have h1 := of_decide_eq_true hc.1
    refine ⟨by rw [List.length_take]; simp only [List.length_cons, List.length_nil]; omega, fun k hk => ?_⟩
    have hk := List.mem_of_mem_take hk
    simp only [List.mem_cons, List.not_mem_nil, or_false] at hk
    rcases hk with h | h | h <;> rw [h] <;> exact ⟨Int.emod_nonneg _ (by omega), Int.emod_lt_of_pos _ h1⟩
  · exact ⟨by simp, fun k hk => nomatch hk⟩
theorem parts_ok (cell : Int) {nm : List Str} (tr : Bool) (hl : nm.length ≤ 1000) (hn : okS nm) : (partsF cell nm tr).Ok := by
  have Z := szF_ok (rowF cell 60)
  have hcl := parts_cllen (cell := cell) (nm := nm) (tr := tr)
  have b1 := Z.b1
  refine ⟨by omega, Nat.le_trans (parts_chans cell nm tr) (by decide), ?_, fun r hr c hc => ?_, fun r hr => ?_, fun r hr => ?_, fun c hc => (chTab_ok c (parts_mem hc)).1, fun r hr k hk => ?_, fun r hr x hx => ?_, fun r hr x hx => ?_, fun c hc x hx => (chTab_ok c (parts_mem hc)).2.1 x hx, hn, hl⟩
  · show ((List.range ((rowF cell 60).getD 3 0 % 7).toNat).map _).length ≤ 1000
    have h1 := Int.emod_lt_of_pos ((rowF cell 60).getD 3 0) (show (0 : Int) < 7 by decide)
    rw [List.length_map, List.length_range]
    omega
  · obtain ⟨row, rfl⟩ := parts_rule hr
    obtain ⟨k, hk, rfl⟩ := List.mem_map.mp (show c ∈ (List.range (ncond row (szF (rowF cell 60))).toNat).map (condF row (szF (rowF cell 60))) from hc)
    have hk := List.mem_range.mp hk
    obtain ⟨_, _, n3⟩ := ncond_le row (szF (rowF cell 60))
    have n1 := n3 (by omega)
    rw [hcl]
    exact ⟨Int.emod_nonneg _ (by omega), Int.emod_lt_of_pos _ n1⟩
  · obtain ⟨row, rfl⟩ := parts_rule hr
    show (if _ then (List.range (tb2.getD (row.getD 7 0 % 8).toNat 0).toNat).map (sigF row _) else []).length ≤ 8
    have h8 := mod8 (row.getD 7 0)
    obtain ⟨_, t2⟩ := tb2_le (row.getD 7 0 % 8).toNat (by omega)
    split
    · rw [List.length_map, List.length_range]
      omega
    · exact Nat.zero_le _
  · obtain ⟨row, rfl⟩ := parts_rule hr
    exact Nat.le_trans rule_resets.1 (by decide)
  · obtain ⟨row, rfl⟩ := parts_rule hr
    rw [hcl]
    exact rule_resets.2 k hk
  · obtain ⟨row, rfl⟩ := parts_rule hr
    obtain ⟨rfl, h2, k, rfl⟩ := rule_sigs hx
    rw [parts_chlen]
    obtain ⟨s1, s2, _⟩ := sig_facts (r := row) Z h2 k
    exact ⟨s1, s2⟩
  · obtain ⟨row, rfl⟩ := parts_rule hr
    obtain ⟨rfl, h2, k, rfl⟩ := rule_sigs hx
    obtain ⟨s1, s2, s3⟩ := sig_facts (r := row) Z h2 k
    have hb := Z.b2
    exact (chTab_ok _ (getD_mem' (by rw [chTab_len]; omega))).2.1 _ s3
theorem traf_ok (cell : Int) {nm : List Str} (hl : nm.length ≤ 3) (hn : okS nm) : (trafF cell nm).Ok := by
  have m3 := Int.emod_nonneg ((rowF cell 4).getD 1 0) (show (3 : Int) ≠ 0 by decide)
  have m4 := Int.emod_lt_of_pos ((rowF cell 4).getD 1 0) (show (0 : Int) < 3 by decide)
  unfold trafF
  split
  · exact parts_ok _ true (by omega) hn
  · split
    · have rule : ∀ r ∈ nm.flatMap (tr1 (1 + (rowF cell 4).getD 1 0 % 3)), (r.conds = [] ∨ ∃ g : Int, r.conds = [((0 : Int), ("under" : Str), g)]) ∧ r.sigs = [] ∧ (r.resets = [] ∨ r.resets = [0]) := fun r hr => by
        obtain ⟨n, _, hr⟩ := List.mem_flatMap.mp hr
        unfold tr1 at hr
        simp only [List.mem_cons, List.not_mem_nil, or_false] at hr
        rcases hr with rfl | rfl | rfl
        · exact ⟨.inl rfl, rfl, .inr rfl⟩
        · exact ⟨.inr ⟨_, rfl⟩, rfl, .inl rfl⟩
        · exact ⟨.inl rfl, rfl, .inr rfl⟩
      refine ⟨by show _ ≤ 1000; simp, Nat.zero_le _, ?_, fun r hr c hc => ?_, fun r hr => ?_, fun r hr => ?_, fun c hc => (nomatch hc), fun r hr k hk => ?_, fun r hr x hx => ?_, fun r hr x hx => ?_, fun c hc => (nomatch hc), hn, Nat.le_trans hl (by decide)⟩
      · show (nm.flatMap (tr1 _)).length ≤ 1000
        rw [tr1_len]
        omega
      · rcases (rule r hr).1 with h | ⟨g, h⟩ <;> rw [h] at hc
        · cases hc
        · rw [List.mem_singleton.mp hc]
          exact ⟨show (0 : Int) ≤ 0 by decide, show (0 : Int) < 1 by decide⟩
      · rw [(rule r hr).2.1]; exact Nat.zero_le _
      · rcases (rule r hr).2.2 with h | h <;> rw [h] <;> decide
      · rcases (rule r hr).2.2 with h | h <;> rw [h] at hk
        · cases hk
        · rw [List.mem_singleton.mp hk]
          exact ⟨show (0 : Int) ≤ 0 by decide, show (0 : Int) < 1 by decide⟩
      · rw [(rule r hr).2.1] at hx; cases hx
      · rw [(rule r hr).2.1] at hx; cases hx
    · split
      · have rule : ∀ r ∈ (List.range nm.length).flatMap (tr2 nm), r.conds = [] ∧ r.sigs = [] ∧ r.resets = [] := fun r hr => by
          obtain ⟨n, _, hr⟩ := List.mem_flatMap.mp hr
          unfold tr2 at hr
          rcases List.mem_cons.mp hr with rfl | hr
          · exact ⟨rfl, rfl, rfl⟩
          · obtain ⟨_, _, rfl⟩ := List.mem_map.mp hr
            exact ⟨rfl, rfl, rfl⟩
        refine ⟨by show _ ≤ 1000; simp, Nat.zero_le _, ?_, fun r hr c hc => ?_, fun r hr => ?_, fun r hr => ?_, fun c hc => (nomatch hc), fun r hr k hk => ?_, fun r hr x hx => ?_, fun r hr x hx => ?_, fun c hc => (nomatch hc), hn, Nat.le_trans hl (by decide)⟩
        · show ((List.range nm.length).flatMap (tr2 nm)).length ≤ 1000
          have h1 := fm_len (tr2 nm) 4 (fun k => Nat.le_trans (tr2_len nm k) (by omega)) (List.range nm.length)
          rw [List.length_range] at h1
          omega
        · rw [(rule r hr).1] at hc; cases hc
        · rw [(rule r hr).2.1]; exact Nat.zero_le _
        · rw [(rule r hr).2.2]; exact Nat.zero_le _
        · rw [(rule r hr).2.2] at hk; cases hk
        · rw [(rule r hr).2.1] at hx; cases hx
        · rw [(rule r hr).2.1] at hx; cases hx
      · have rule : ∀ r ∈ (List.range (1 + (rowF cell 4).getD 1 0 % 3 + 1).toNat).flatMap (tr3 nm (1 + (rowF cell 4).getD 1 0 % 3)), r.conds = [] ∧ r.sigs = [] ∧ r.resets = [] := fun r hr => by
          obtain ⟨n, _, hr⟩ := List.mem_flatMap.mp hr
          unfold tr3 at hr
          obtain ⟨_, _, rfl⟩ := List.mem_map.mp hr
          exact ⟨rfl, rfl, rfl⟩
        refine ⟨by show _ ≤ 1000; simp, Nat.zero_le _, ?_, fun r hr c hc => ?_, fun r hr => ?_, fun r hr => ?_, fun c hc => (nomatch hc), fun r hr k hk => ?_, fun r hr x hx => ?_, fun r hr x hx => ?_, fun c hc => (nomatch hc), hn, Nat.le_trans hl (by decide)⟩
        · show ((List.range (1 + (rowF cell 4).getD 1 0 % 3 + 1).toNat).flatMap (tr3 nm (1 + (rowF cell 4).getD 1 0 % 3))).length ≤ 1000
          have h1 := fm_len (tr3 nm (1 + (rowF cell 4).getD 1 0 % 3)) 3 (fun k => by unfold tr3; rw [List.length_map]; exact hl) (List.range (1 + (rowF cell 4).getD 1 0 % 3 + 1).toNat)
          rw [List.length_range] at h1
          omega
        · rw [(rule r hr).1] at hc; cases hc
        · rw [(rule r hr).2.1]; exact Nat.zero_le _
        · rw [(rule r hr).2.2]; exact Nat.zero_le _
        · rw [(rule r hr).2.2] at hk; cases hk
        · rw [(rule r hr).2.1] at hx; cases hx
        · rw [(rule r hr).2.1] at hx; cases hx
theorem traf_names (cell : Int) (nm : List Str) : (trafF cell nm).names = nm ∧ (trafF cell nm).chans = [] := by
  unfold trafF
  split
  · exact ⟨rfl, rfl⟩
  · split
    · exact ⟨rfl, rfl⟩
    · split <;> exact ⟨rfl, rfl⟩
theorem vw_in : ∀ n : Nat, n < 5 → (["ordered", "unordered", "ignored"] : List Str).contains (vwTab.getD n "") = true := by decide +kernel
theorem qt_in : ∀ n : Nat, n < 3 → 0 ≤ qtTab.getD n 0 ∧ qtTab.getD n 0 ≤ 60 := by decide +kernel
theorem plan_ok (ns : List Int) : (planF ns).Ok := by
  have hn := names_len (planRow ns)
  have ho := names_ok (planRow ns)
  have q := qt_in ((planRow ns).getD 5 0 % 3).toNat (by
    have h1 := Int.emod_nonneg ((planRow ns).getD 5 0) (show (3 : Int) ≠ 0 by decide)
    have h2 := Int.emod_lt_of_pos ((planRow ns).getD 5 0) (show (0 : Int) < 3 by decide)
    omega)
  exact ⟨parts_ok _ false (by omega) ho, traf_ok _ hn.2 ho, by show ((List.range _).map _).length = _; rw [List.length_map, List.length_range]; rfl, q.1, q.2⟩
theorem plan_plOk (ns : List Int) : PlOk (planF ns) where
  ok := plan_ok ns
  c := ⟨(plan_ok ns).p, (plan_ok ns).t, (plan_ok ns).v, (plan_ok ns).q0, (plan_ok ns).q1⟩
  nd := fun ch hch => (chTab_ok ch (parts_mem (show ch ∈ (partsF (ns.getD 1 0) (namesF (planRow ns)) false).chans from hch))).2.2
  si := fun r hr x hx => by
    obtain ⟨row, rfl⟩ := parts_rule (show r ∈ (partsF (ns.getD 1 0) (namesF (planRow ns)) false).rules from hr)
    obtain ⟨_, h2, k, rfl⟩ := rule_sigs hx
    have Z := szF_ok (rowF (ns.getD 1 0) 60)
    obtain ⟨s1, s2, s3⟩ := sig_facts (r := row) Z h2 k
    have hb := Z.b2
    show _ ∈ ((chTab.take (szF (rowF (ns.getD 1 0) 60)).n2.toNat).getD _ ("", [])).2
    rw [List.getD_eq_getElem?_getD, List.getElem?_take_of_lt (by omega), ← List.getD_eq_getElem?_getD]
    exact s3
  nm := names_nt (planRow ns)
  so := names_ok (planRow ns)
theorem plan_case (ns : List Int) : CaseIn (csOf (planF ns)) where
  v := (plan_ok ns).v
  vi := fun x hx => by
    obtain ⟨k, _, rfl⟩ := List.mem_map.mp (show x ∈ (List.range (partsF (ns.getD 1 0) (namesF (planRow ns)) false).chans.length).map fun (k : Nat) => vwTab.getD ((planRow ns).getD (3 + k) 0 % 5).toNat "" from hx)
    have h1 := Int.emod_nonneg ((planRow ns).getD (3 + k) 0) (show (5 : Int) ≠ 0 by decide)
    have h2 := Int.emod_lt_of_pos ((planRow ns).getD (3 + k) 0) (show (0 : Int) < 5 by decide)
    exact vw_in _ (by omega)
  nm := (traf_names _ _).1.symm
  ok := names_ok (planRow ns)
  tc := (traf_names _ _).2
  tg := fun r hr => by
    obtain ⟨row, rfl⟩ := parts_rule (show r ∈ (partsF (ns.getD 1 0) (namesF (planRow ns)) false).rules from hr)
    show tgtF row _ false ≠ none
    unfold tgtF
    simp
  q0 := (plan_ok ns).q0
  q1 := (plan_ok ns).q1
end LC
namespace LC
open PySem PySem.Spec PyProof.Rows L2

/-! ### law -/
section
variable {G : Gd} {X : Cx} {Ex : Hp → Prop} {ρ : Ro} {e : Expr} {pos : Pos}
/-- x, y = e, e a list [b, a list or None] -/
theorem xs_unres {b : Bool} {od : Option (List PyData)} {x y : Str} {k : Nat} {p1 p2 p3 : Pos} (i j : Nat) (hij : i ≠ j) (he : XE G X e ρ (.res b od)) (hN : X.N.Nodup) (hc : X.calm = true) (hi : X.N[i]? = some x := by rfl) (hj : X.N[j]? = some y := by rfl) (hx : Loc X.env.scope x := by first | exact .inl rfl | exact .inr rfl) (hy : Loc X.env.scope y := by first | exact .inl rfl | exact .inr rfl)
    (hfx : X.fn x = true ∨ X.env.scope.names.lookup x = some .local := by first | exact .inl rfl | exact .inr rfl) (hfy : X.fn y = true ∨ X.env.scope.names.lookup y = some .local := by first | exact .inl rfl | exact .inr rfl)
    (hs : swapsWithSole [.Tuple [.Name x p1, .Name y p2] k p3] e pos.line X.env = pure false := by rfl) (hw : swappedStores [.Tuple [.Name x p1, .Name y p2] k p3] e X.env = pure none := by rfl)
    (h1' : (assignEach [.Tuple [.Name x p1, .Name y p2] k p3] X.env).map (·.2) = [assign (.Tuple [.Name x p1, .Name y p2] k p3) X.env] := by rfl) :
    XS G X Ex (.Assign [.Tuple [.Name x p1, .Name y p2] k p3] e pos) ρ (.nx ((ρ.set j (some (match od with | some ds => .own ds | none => non_))).set i (some (bl_ b)))) := fun H0 F0 γ σ H F S D q => by
  refine ⟨_, ps_asg pe_s (pg_lst (n := 2) hc (pgs_cons (pg_name hN hi hx hfx) (pgs_cons (pg_name hN hj hy hfy) pgs_nil))) hs hw (h1 := h1'), he.s S fun v H1 F1 n => ?_⟩
  obtain ⟨fp, a, nd, fr⟩ := n.at_
  cases od with
  | none =>
    obtain ⟨a, rfl, rfl, e3⟩ := a
    refine ⟨a, _, rfl, SqL.of e3, rfl, _, _, rfl, _, _, rfl, rfl, ?_⟩
    have S1 := S.set j (Nx.mk n.fz n.grow n.tab ⟨[], ⟨rfl, .non⟩, List.nodup_nil, fun _ h => nomatch h⟩ : Nx G X.K H F H1 F1 .non non_)
    have S2 := S1.set i (Nx.at0 S1.fz S1.tab (r := .dat (.bool b)) (.bl b))
    rw [List.set_comm _ _ (Ne.symm hij)] at S2
    exact q _ _ _ S2
  | some ds =>
    obtain ⟨a, c, vs, rfl, rfl, e3, e4, e5⟩ := a
    refine ⟨a, _, rfl, SqL.of e3, rfl, _, _, rfl, _, _, rfl, rfl, ?_⟩
    have S1 := S.set j (Nx.mk n.fz n.grow n.tab ⟨[c], ⟨c, vs, rfl, rfl, e4, e5⟩, by simp, fun d hd => fr d (by rw [List.mem_singleton.mp hd]; simp)⟩ : Nx G X.K H F H1 F1 (.ref c) (.own ds))
    have S2 := S1.set i (Nx.at0 S1.fz S1.tab (r := .dat (.bool b)) (.bl b))
    rw [List.set_comm _ _ (Ne.symm hij)] at S2
    exact q _ _ _ S2
/-- such a list, read as it stands -/
theorem xe_frR {b : Bool} {ds : List PyData} (h : XE G X e ρ (.res b (some ds))) : XE G X e ρ (dat_ (.list [.bool b, .list ds])) := by
  obtain ⟨t, h1, h2⟩ := h
  refine ⟨t, h1, fun H0 F0 γ σ H F S Q q => h2 H0 F0 γ σ H F S Q fun v H' F' n => ?_⟩
  obtain ⟨fp, ⟨a, c, vs, rfl, rfl, e3, e4, e5⟩, nd, fr⟩ := n.at_
  have nac : a ≠ c := fun z => by rw [z] at nd; simp at nd
  obtain ⟨a1, a2⟩ := fr a (by simp)
  obtain ⟨c1, c2⟩ := fr c (by simp)
  have s1 : Same F' (upd F' c (.lst vs)) := fun d o z => by rw [upd_ne fun w => by rw [w, c2] at z; cases z]; exact z
  have s2 : Same (upd F' c (.lst vs)) (upd (upd F' c (.lst vs)) a (.lst [.bl b, .ref c])) := fun d o z => by rw [upd_ne fun w => by rw [w, upd_ne nac, a2] at z; cases z]; exact z
  have z2 := (n.fz.freeze e4 nt_lst).freeze e3 nt_lst
  refine q _ H' _ (.rs z2 ⟨n.grow.keep, n.grow.live, fun d hd => ?_⟩ n.tab (.lst upd_same (.cons (.bl b) (.cons (.lst (s2 _ _ upd_same) (dpAll_mono s2 _ _ (dpAll_mono s1 _ _ e5))) .nil))))
  rw [upd_ne fun w => hd (by rw [w]; exact a1), upd_ne fun w => hd (by rw [w]; exact c1)]
  exact n.grow.fro d hd
theorem co_isiL {ds : List PyData} : CallOk G X (.builtin "isinstance") [.dat (.list ds), .raw (.ty "list")] (bl_ true) := ⟨_, call_isi, fun vs H F z t a Q k => by
  obtain ⟨v, v', rfl, a1, b'⟩ := rsAll2 a
  have b' : v' = .ty "list" := b'
  subst b'
  cases a1 with
  | lst hs ha => exact ⟨_, _, _, _, true, rfl, .ty "list", .base (.lst (z.same _ _ hs)), if_pos (by decide +kernel), k _ H F (.at0 z t (.bl true))⟩⟩
end
theorem cut_last (ds : List PyData) (d : PyData) : cutD (ds ++ [d]) none (some (-1)) = ds := by
  unfold cutD
  rw [show HT.sIx (ds ++ [d]).length 0 none = 0 from rfl]
  have e : HT.sIx (ds ++ [d]).length (ds ++ [d]).length (some (-1)) = ds.length := by
    unfold HT.sIx
    rw [List.length_append, List.length_singleton]
    simp
    omega
  rw [e, List.drop_zero, Nat.sub_zero, List.take_append_of_le_length (Nat.le_refl _), List.take_length]
theorem cut_ints (ns : List Int) (lo hi : Option Int) : ∃ l : List Int, cutD (ns.map PyData.int) lo hi = l.map PyData.int ∧ l.length ≤ ns.length := by
  unfold cutD
  rw [← List.map_drop, ← List.map_take]
  exact ⟨_, rfl, by rw [List.length_take, List.length_drop]; omega⟩
section
variable {P : Program} {w : World} {K : PySem.W.Frag} {mg : Str → Option Value} {base : Heap}
theorem fnOk_of {G : Gd} {x qual : Str} {params : Arguments} {body : List Stmt} {scope : Scope} {kws : List (Str × V)} {f : Addr} {fd : FuncData} {N ps : List Str} {k : Nat} {Φ : List Rs → En → Prop} (F : FunD K x qual params body scope [] kws f fd) (S : FnScope N ps scope)
    (hbody : ∀ (cdv : Value) (A : Around) (outer : List Env) (s : Shared) (H : Hp) (E : XK), Room k (A.deeper (envOfC qual scope s.heap.objs.size f cdv)) → ∀ rs en, rs.length = ps.length → Φ rs en →
      ∃ o, Ends0 en o ∧ XSs G (bx P w K mg base N qual scope f cdv A outer s H E) (fun _ => False) body (ro N rs) o) : FnOk P w K mg base CX0 (k + 1) f fd ps (spD G K ps.length Φ) :=
  F.ok S (fun vs H Q E ⟨F, rs, en, _, _, a, hl, _⟩ => a.length.trans hl) fun cdv A outer s H vs Q E hr ⟨F1, rs, en, z, t, a, hl, hφ, q⟩ => by
    obtain ⟨o, ho, hx⟩ := hbody cdv A outer s H E hr rs en hl hφ
    refine ⟨_, (pss_s (X := bx P w K mg base N qual scope f cdv A outer s H E)).nox, hx _ _ _ _ _ _ (sta_ro z t a) _ ?_⟩
    rcases ho with e | ⟨ρ', e, e'⟩
    · subst e
      exact fun v H1 F2 n => q v H1 F2 n
    · subst e e'
      exact fun σ1 H1 F2 S1 => q .non H1 F2 (.from S1.grow (Nx.rs0 (r := Rs.dat .none) S1 Dt.non))
theorem sc_law : FnScope ["_law_script", "_law_plan_here", "_law_period", "_law_numbers", "_law_large", "_law_found_here", "_law_cell_here", "_law_items", "_law_received", "_law_size", "_law_x"] ["_law_script"] (defScope s_law) := ⟨rfl, rfl, rfl, by decide +kernel, rfl, by decide +kernel, by decide +kernel⟩
theorem ok_law (T : Wt K mg base) {fd : FuncData} (F : FunD K d_law.name d_law.qual d_law.params d_law.body d_law.scope (d_law.dvs K) (d_law.kws K) (He.fAd K d_law.at_) fd) : FnOk P w K mg base CX0 17 (He.fAd K d_law.at_) fd ["_law_script"] (spD (gd K) K 1 (fun rs en => ex K = true ∧ ∃ ns : List Int, ns.length ≤ 1000 ∧ rs = [.scr ns] ∧ en = bl_ true)) := by
  refine fnOk_of F sc_law fun cdv A outer s H E hr rs en hl hφ => ⟨_, .inl rfl, ?_⟩
  obtain ⟨hex, ns, hns, rfl, rfl⟩ := hφ
  have O := plan_plOk ns
  have CI := plan_case ns
  generalize hp : planF ns = p at O CI
  have per0 := Int.emod_nonneg (ns.getD 3 0) (show (4 : Int) ≠ 0 by decide)
  have per1 := Int.emod_lt_of_pos (ns.getD 3 0) (show (0 : Int) < 4 by decide)
  obtain ⟨per, hper⟩ : ∃ per, per = 1 + ns.getD 3 0 % 4 := ⟨_, rfl⟩
  have hpp : 0 < per := by omega
  have hp4 : per ≤ 4 := by omega
  obtain ⟨off, hoff⟩ : ∃ off, off = ns.getD 3 0 / 4 % per := ⟨_, rfl⟩
  have ho : 0 ≤ off ∧ off < per := by rw [hoff]; exact ⟨Int.emod_nonneg _ (by omega), Int.emod_lt_of_pos _ hpp⟩
  obtain ⟨cells, hcells, lcells⟩ := cut_ints ns (some 6) (some 10)
  let X : Cx := bx P w K mg base ["_law_script", "_law_plan_here", "_law_period", "_law_numbers", "_law_large", "_law_found_here", "_law_cell_here", "_law_items", "_law_received", "_law_size", "_law_x"] d_law.qual d_law.scope (He.fAd K d_law.at_) cdv A outer s H E
  let env : Bool → En → Ro := fun b f => [some (.rs (.scr ns)), some (dat_ (ePlan p)), some (int_ per), some (lst_ (dI [per, off])), some (bl_ b), some f, none, none, none, none, none]
  have fnd : ∀ en, foundE (harmOut (csOf p) per off) = en → ∀ ρ : Ro, ρ[1]? = some (some (dat_ (ePlan p))) → ρ[3]? = some (some (lst_ (dI [per, off]))) → XE (gd K) X (match s_law with | .FunctionDef _ _ (_ :: _ :: _ :: .Assign _ e _ :: _) _ _ _ _ _ _ _ => e | _ => .Constant .none 0 default) ρ en := fun en he ρ h1 h3 =>
    XE.is (xe_call (C__law_found T) (hr.mono (by decide)) (xa_cons (xe_var 1 h1) (xa_cons (xe_var 3 h3) xa_nil)) ⟨hex, p, per, off, CI, O.c, O.nd, hpp, rfl, rfl⟩) he
  have fndR : ∀ ds, foundE (harmOut (csOf p) per off) = .res false (some ds) → ∀ ρ : Ro, ρ[1]? = some (some (dat_ (ePlan p))) → ρ[3]? = some (some (lst_ (dI [per, off]))) → XE (gd K) X (match s_law with | .FunctionDef _ _ [_, _, _, _, _, _, _, _, _, .Return (some (.Compare e _ _ _)) _] _ _ _ _ _ _ _ => e | _ => .Constant .none 0 default) ρ (.res false (some ds)) := fun ds he ρ h1 h3 =>
    XE.is (xe_call (C__law_found T) (hr.mono (by decide)) (xa_cons (xe_var 1 h1) (xa_cons (xe_var 3 h3) xa_nil)) ⟨hex, p, per, off, CI, O.c, O.nd, hpp, rfl, rfl⟩) he
  have pre : ∀ (b : Bool) (od : Option (List PyData)) (sts : List Stmt) (o : Out), foundE (harmOut (csOf p) per off) = .res b od → XSs (gd K) X (fun _ => False) sts (env b (match od with | some ds => .own ds | none => non_)) o → XSs (gd K) X (fun _ => False) ((defBody s_law).take 4 ++ sts) (ro ["_law_script", "_law_plan_here", "_law_period", "_law_numbers", "_law_large", "_law_found_here", "_law_cell_here", "_law_items", "_law_received", "_law_size", "_law_x"] [.scr ns]) o := fun b od sts o hf hx => by
    refine xss_cons (xs_set 1 (XE.is (xe_call (C__law_plan T.w) (hr.mono (by decide)) (xa_cons (xe_var 0) xa_nil) ⟨ns, rfl, rfl⟩) (en' := dat_ (ePlan p)) (by rw [hp])) sc_law.nd) <|
      xss_cons (xs_set 2 (XE.is (xe_bin xe_int (xe_bin (xe_call (C__law_cell T.w) (hr.mono (by decide)) (xa_cons (xe_var 0) (xa_cons xe_int xa_nil)) ⟨ns, 3, rfl, rfl⟩) xe_int (bin_mod (by decide))) bin_add) (en' := int_ per) (by rw [hper])) sc_law.nd) <|
      xss_cons (ρ1 := [some (.rs (.scr ns)), some (dat_ (ePlan p)), some (int_ per), some (lst_ (dI [per, off])), none, none, none, none, none, none, none]) (xs_set 3 (xe_fr (XE.is (xe_lst (xd_cons (xe_var 2) (xd_cons (xe_bin (xe_bin (xe_call (C__law_cell T.w) (hr.mono (by decide)) (xa_cons (xe_var 0) (xa_cons xe_int xa_nil)) ⟨ns, 3, rfl, rfl⟩) xe_int (bin_fdiv ⟨by decide, by decide⟩)) (xe_var 2) (bin_mod hpp)) xd_nil))) (en' := .own (dI [per, off])) ?_)) sc_law.nd) <|
      xss_cons (XS.is (xs_unres 4 5 (by decide) (fnd _ hf _ rfl rfl) sc_law.nd rfl) ?_) hx
    · rw [hoff]
      rfl
    · cases od <;> rfl
  have lR : ∀ items : List Str, (lawPolledF items per off).length ≤ items.length + 62 := fun items => lawPolledF_le items per off
  have loop : ∀ f : En, (∀ (items : List Str) (o6 o10 : Option En), Items (csOf p) items → items.length ≤ 30 → XT (gd K) X (match s_law with | .FunctionDef _ _ [_, _, _, _, _, _, .For _ _ [_, _, _, .If c _ _ _] _ _, _, _, _] _ _ _ _ _ _ _ => c | _ => .Constant .none 0 default)
        [some (.rs (.scr ns)), some (dat_ (ePlan p)), some (int_ per), some (lst_ (dI [per, off])), some (bl_ false), some f, o6, some (lst_ (dS items)), some (lst_ (dS (lawPolledF items per off))), some (int_ ((items.length : Int) + 1 + cntT (lawPolledF items per off) - cntT items)), o10] false) →
      XS (gd K) X (fun _ => False) (match s_law with | .FunctionDef _ _ [_, _, _, _, _, _, st, _, _, _] _ _ _ _ _ _ _ => st | _ => .Pass default) (env false f) (.nx (env false f)) := fun f tst => by
    refine xs_for PassesOwn.never rfl (xi_list (xe_fr (XE.is (xe_bin (xe_fr (xe_lst (xd_cons (xe_call (C__law_cell T.w) (hr.mono (by decide)) (xa_cons (xe_var 0) (xa_cons xe_int xa_nil)) ⟨ns, 4, rfl, rfl⟩) (xd_cons (xe_call (C__law_cell T.w) (hr.mono (by decide)) (xa_cons (xe_var 0) (xa_cons xe_int xa_nil)) ⟨ns, 5, rfl, rfl⟩) xd_nil)))) (xe_fr (xe_slice (xe_var 0) (xo_some xe_int) (xo_some xe_int) slo_scr)) (bin_cat ?_)) (en' := .own (dI ([ns.getD 4 0, ns.getD 5 0] ++ cells))) ?_))) ?_
    · rw [hcells, List.length_map]
      show 2 + _ ≤ _
      omega
    · rw [hcells]
      rfl
    refine forR_inv (fun x => Rs.dat (.int x)) (fun l ρ => ∃ o6 o7 o8 o9 o10, ρ = [some (.rs (.scr ns)), some (dat_ (ePlan p)), some (int_ per), some (lst_ (dI [per, off])), some (bl_ false), some f, o6, o7, o8, o9, o10]) (map_dat _ _) ⟨_, _, _, _, _, rfl⟩ ?_ ?_
    · rintro ρ ⟨o6, o7, o8, o9, o10, rfl⟩
      exact ⟨_, by repeat constructor, rfl⟩
    · rintro cell l ρ ⟨o6, o7, o8, o9, o10, rfl⟩
      have c0 := Int.emod_nonneg cell (show (30 : Int) ≠ 0 by decide)
      have c1 := Int.emod_lt_of_pos cell (show (0 : Int) < 30 by decide)
      obtain ⟨n, hn⟩ : ∃ n : Nat, (n : Int) = 1 + cell % 30 := ⟨(1 + cell % 30).toNat, by omega⟩
      obtain ⟨di, dl⟩ := drawn_items (p := p) cell n
      generalize hI : drawnF p cell n = items at di dl
      have lr := lR items
      have h1 := cntT_le items
      have h2 := cntT_le (lawPolledF items per off)
      refine ⟨_, _, _, Le.refl _, xg_name 6 sc_law.nd, .inl ⟨_, xss_cons (xs_set 7 (xe_fr (XE.is (xe_call (C__law_drawn T.w) (hr.mono (by decide)) (xa_cons (xe_var 1) (xa_cons (xe_var 6) (xa_cons (XE.is (xe_bin xe_int (xe_bin (xe_var 6) xe_int (bin_mod (by decide))) bin_add) (en' := int_ (n : Int)) (by rw [hn])) xa_nil))) ⟨p, cell, n, O.ok, by omega, rfl, rfl⟩) (en' := .own (dS items)) (by rw [hI]))) sc_law.nd) <|
        xss_cons (xs_set 8 (xe_fr (xe_call (C__law_polled T.w) (hr.mono (by decide)) (xa_cons (xe_var 7) (xa_cons (xe_ix (xe_var 3) xe_int (ixo_list rfl)) (xa_cons (xe_ix (xe_var 3) xe_int (ixo_list rfl)) xa_nil))) ⟨items, per, off, hpp, by omega, rfl, rfl⟩)) sc_law.nd) <|
        xss_cons (xs_set 9 (XE.is (xe_bin (xe_bin (xe_bin (xe_callB T.w.len (xa_cons (xe_var 7) xa_nil) co_lenL) xe_int bin_add) (xe_cntT (x := "_law_x") T.w rfl 10 rfl sc_law.nd (xi_list (xe_var 8)) (bk ["_law_script", "_law_plan_here", "_law_period", "_law_numbers", "_law_large", "_law_found_here", "_law_cell_here", "_law_items", "_law_received", "_law_size", "_law_x"] s_law) (by omega) ?_) bin_add) (xe_cntT (x := "_law_x") T.w rfl 10 rfl sc_law.nd (xi_list (xe_var 7)) (bk ["_law_script", "_law_plan_here", "_law_period", "_law_numbers", "_law_large", "_law_found_here", "_law_cell_here", "_law_items", "_law_received", "_law_size", "_law_x"] s_law) (by omega) ?_) bin_sub) (en' := int_ ((items.length : Int) + 1 + cntT (lawPolledF items per off) - cntT items)) (by rw [List.length_map])) sc_law.nd) <|
        xss_one (xs_if (tst items _ _ di (by omega)) (fun z => by cases z) (fun _ => xss_nil)), _, _, _, _, _, rfl⟩⟩
      · exact fun s => ⟨_, fun X' ⟨_, _, _, _, _, e⟩ => by subst e; exact xg_name 10 sc_law.nd, fun X' ⟨_, _, _, _, _, e⟩ => by subst e; exact xt_cmp (xe_var 10) xe_str bin_eqS, fun X' ⟨_, _, _, _, _, e⟩ => by subst e; exact xe_var 10⟩
      · exact fun s => ⟨_, fun X' ⟨_, _, _, _, _, e⟩ => by subst e; exact xg_name 10 sc_law.nd, fun X' ⟨_, _, _, _, _, e⟩ => by subst e; exact xt_cmp (xe_var 10) xe_str bin_eqS, fun X' ⟨_, _, _, _, _, e⟩ => by subst e; exact xe_var 10⟩
  cases hv : exploreF (followF (csOf p) per off) (endF (csOf p)) (firstF (csOf p)) with
  | large =>
    have hf : foundE (harmOut (csOf p) per off) = .res true none := by unfold harmOut; rw [hv]; rfl
    exact pre true none _ _ hf (xss_ret (xs_if (xt_val (xe_var 4)) (fun _ => xss_one (xs_ret xe_bl)) (fun z => by cases z)))
  | go k =>
    have hf : foundE (harmOut (csOf p) per off) = .res false none := by unfold harmOut; rw [hv]; rfl
    refine pre false none _ _ hf (xss_cons (ρ1 := env false non_) (xs_if (xt_val (xe_var 4)) (fun z => by cases z) (fun _ => xss_nil)) <| xss_cons (ρ1 := env false non_) (xs_if (xt_cmp (xe_var 5) xe_non bin_notN) (fun z => by cases z) (fun _ => xss_nil)) <|
      xss_cons (ρ1 := env false non_) (loop _ fun items o6 o10 di dl => ?_) <| xss_ret (xs_if (k := true) (XT.is (XW.t (xw_or (k := true) (j := false) (xt_cmp (xe_var 5) xe_non bin_isN) fun z => by cases z)) rfl) (fun _ => xss_one (xs_ret xe_bl)) (fun z => by cases z)))
    have hh := none_law O hpp hp4 ho hv di
    exact XT.is (XW.t (xw_and (j := false) (xt_val (xe_call (C__law_harmful T.w) (hr.mono (by decide)) (xa_cons (xe_var 1) (xa_cons (xe_var 7) (xa_cons (xe_var 3) xa_nil))) ⟨p, items, per, off, O.ok, hpp, by omega, rfl, rfl⟩)) fun z => by rw [hh] at z; cases z)) (by rw [hh]; rfl)
  | found k =>
    obtain ⟨evs, he, hok, hz, h1, h2, h3⟩ := found_law O hpp hp4 ho hv
    have hf : foundE (harmOut (csOf p) per off) = .res false (some (evs.map eE)) := by
      unfold harmOut
      rw [hv]
      show foundE (some (.own (upF k (k.length - 1) (k.length - 1)).reverse)) = _
      rw [he]
      rfl
    have lf1 : lf.lfs (evs.map eE) = true := lfs_map eE (fun e => by cases e <;> rfl) evs
    refine pre false (some (evs.map eE)) _ _ hf (xss_cons (ρ1 := env false (.own (evs.map eE))) (xs_if (xt_val (xe_var 4)) (fun z => by cases z) (fun _ => xss_nil)) <| xss_cons (ρ1 := env false (.own (evs.map eE))) (xs_if (k := true) (xt_lend 5 (xt_cmp (xe_var 5) xe_non bin_notN)) (fun _ =>
        xss_cons (xs_if (k := false) (XT.is (xt_lend 5 (XW.t (xw_or (xt_not (xt_val (xe_callB T.w.isinstance (xa_cons (xe_var 5) (xa_cons (xe_ty (n := "list") T.w.list) xa_nil)) co_isiL))) fun _ => xw_or1 (xt_not (xt_val (xe_call (C__law_is_row T.w) (hr.mono (by decide)) (xa_cons (xe_var 1) (xa_cons (xe_var 5) (xa_cons (xe_var 3) xa_nil))) ⟨p, evs, per, off, O.ok, hpp, hok, by omega, rfl, rfl⟩)))))) (by rw [h1]; rfl)) (fun z => by cases z) (fun _ => xss_nil)) <|
        xss_one (xs_if (k := false) (XT.is (xt_lend 5 (xt_not (xt_val (xe_call (C__law_harmful T.w) (hr.mono (by decide)) (xa_cons (xe_var 1) (xa_cons (xe_fr (xe_call (C__law_sent T.w) (hr.mono (by decide)) (xa_cons (xe_var 5) xa_nil) ⟨evs, hok, by omega, rfl, rfl⟩)) (xa_cons (xe_var 3) xa_nil))) ⟨p, sentF evs, per, off, O.ok, hpp, Nat.le_trans (sentF_le evs) (by omega), rfl, rfl⟩)))) (by rw [h2]; rfl)) (fun z => by cases z) (fun _ => xss_nil))) (fun z => by cases z)) <|
      xss_cons (ρ1 := env false (.own (evs.map eE))) (loop _ fun items o6 o10 di dl => ?_) ?_)
    · refine XT.is (XW.t (xw_and (xt_val (xe_call (C__law_harmful T.w) (hr.mono (by decide)) (xa_cons (xe_var 1) (xa_cons (xe_var 7) (xa_cons (xe_var 3) xa_nil))) ⟨p, items, per, off, O.ok, hpp, by omega, rfl, rfl⟩)) fun z => xw_and1 (XW.t (xw_or (xt_lend 5 (xt_cmp (xe_var 5) xe_non bin_isN)) fun _ => xw_or1 (xt_lend 5 (xt_cmp (xe_var 9) (xe_callB T.w.len (xa_cons (xe_var 5) xa_nil) co_lenL) bin_lt)))))) ?_
      rw [List.length_map]
      cases hh : harmfulF p items per off with
      | false => rfl
      | true =>
        have h4 := h3 items di hh
        have e1 := (run_cnt (per := per) (off := off) (items ++ List.replicate (rst per off items) TICK)).2
        rw [← polled_is hpp ho, cntT_app, cntT_rep] at e1
        rw [extra_is hpp ho] at h4
        rw [Bool.true_and, show isNoneR (Rs.dat (PyData.list (evs.map eE))) = false from rfl, Bool.false_or]
        exact decide_eq_false (by omega)
    · have sh : Shp 3 (.list (evs.map eE)) := shp_listE hok
      by_cases h8 : 8 < evs.length
      · exact xss_ret (xs_if (k := true) (XT.is (xt_lend 5 (XW.t (xw_or (xt_cmp (xe_var 5) xe_non bin_isN) fun _ => xw_or1 (xt_cmp (xe_callB T.w.len (xa_cons (xe_var 5) xa_nil) co_lenL) xe_int bin_gt)))) (by rw [List.length_map]; show (false || decide _) = true; rw [Bool.false_or]; exact decide_eq_true (by omega))) (fun _ => xss_one (xs_ret xe_bl)) (fun z => by cases z))
      · refine xss_cons (ρ1 := env false (.own (evs.map eE))) (xs_if (k := false) (XT.is (xt_lend 5 (XW.t (xw_or (xt_cmp (xe_var 5) xe_non bin_isN) fun _ => xw_or1 (xt_cmp (xe_callB T.w.len (xa_cons (xe_var 5) xa_nil) co_lenL) xe_int bin_gt)))) (by rw [List.length_map]; show (false || decide _) = false; rw [Bool.false_or]; exact decide_eq_false (by omega))) (fun z => by cases z) (fun _ => xss_nil)) <|
          xss_cons (ρ1 := env false (.own (evs.map eE ++ [.str "spoilt"]))) (xs_append 5 xe_str (hl := by rw [List.length_map]; omega)) <| xss_freeze 5 (ds := evs.map eE ++ [.str "spoilt"]) <|
          xss_one (xs_ret (XE.is (xe_cmp (xe_frR (fndR (evs.map eE) hf _ rfl rfl)) (xe_fr (xe_lst (xd_cons xe_bl (xd_cons (xe_fr (XE.is (xe_slice (xe_var 5) xo_none (xo_some (xe_neg xe_int)) slo_list) (en' := .own (evs.map eE)) (by rw [cut_last]))) xd_nil)))) (bin_eqD hr.units ?_ ?_)) ?_))
        · exact (shp_lst (n := 3) (shp_cons (shp_bool false 2) (shp_cons sh shp_nil))).ok
        · exact (shp_lst (n := 3) (shp_cons (shp_bool false 2) (shp_cons sh shp_nil))).ok
        · have : PyData.eqv (.list [.bool false, .list (evs.map eE)]) (.list [.bool false, .list (evs.map eE)]) = true := by
            have e := eqv_listE evs evs
            rw [decide_eq_true rfl] at e
            show (PyData.eqv (.bool false) (.bool false) && (PyData.eqv (.list (evs.map eE)) (.list (evs.map eE)) && true)) = true
            rw [e]
            rfl
          rw [this]
end
end LC
namespace LC
open PySem PySem.Spec PyProof.Rows L2

/-! ### the end -/
section
variable {w : World} {h : Heap} {K : PySem.W.Frag} {mg : Str → Option Value}
theorem says_wd (X : K.In h) (G : h.Ns mainGlobals mg) (c : He.SaysX fa fn [] tf ex w h K) : Wd K mg := ⟨fun f hf => c.t.d.facts hf, fun d hd => c.t.d.defs hd, ⟨h, X, G⟩⟩
def noTb (H : Hp) : Hp := fun b => match H b with
  | some (.tbl _) => none
  | o => o
theorem noTb_some {H : Hp} {b : Addr} {o : HO} (e : H b = some o) (n : NoTbl o) : noTb H b = some o := by
  unfold noTb
  rw [e]
  cases o with
  | tbl ps => exact absurd rfl (n ps)
  | _ => rfl
theorem noTb_fz (H : Hp) : Fz (noTb H) H := fun b o e => by
  unfold noTb at e
  cases q : H b with
  | none => rw [q] at e; cases e
  | some u =>
    rw [q] at e
    cases u with
    | tbl ps => cases e
    | _ => cases e; exact ⟨rfl, fun _ z => nomatch z⟩
theorem law_sp (hex : ex K = true) (H : Hp) (a : Addr) (ns : List Int) (hl : ns.length ≤ 63) (hH : ∀ p ∈ tf.map (He.cT K), H p.2 = some (.tbl #[])) (hS : SqL K H a (ns.map V.int)) : spD (gd K) K 1 (fun rs en => ex K = true ∧ ∃ ns : List Int, ns.length ≤ 1000 ∧ rs = [.scr ns] ∧ en = bl_ true) [.ref a] H (fun v _ => v = .bl true) (fun _ _ _ => False) := by
  have nil : ∀ (pos : Pos) (cv : Value), codeAmong pos (#[] : Array Value).toList = some cv → False := fun pos cv h => by
    have h : codeAmong pos [] = some cv := h
    simp [codeAmong] at h
  have at_ : ∀ p ∈ tf, H (He.cT K p).2 = some (.tbl #[]) := fun p hp => hH _ (List.mem_map.mpr ⟨p, hp, rfl⟩)
  have tab : (gd K).tab H := ⟨ex_nd hex, fun p hp => ⟨#[], at_ p (by
    simp only [List.mem_cons, List.not_mem_nil, or_false] at hp
    rcases hp with rfl | rfl | rfl <;> simp [tf]), True.intro⟩, ⟨#[], at_ ("first_end", none) (by simp [tf]), True.intro, fun pos cv h => (nil pos cv h).elim⟩, ⟨#[], at_ ("first_polling_harm", none) (by simp [tf]), True.intro, fun pos cv h => (nil pos cv h).elim⟩⟩
  have sq : SqL K (noTb H) a (ns.map V.int) := by
    rcases hS with (h | ⟨o, h⟩) | h
    · exact .inl (.inl (noTb_some h fun _ z => nomatch z))
    · exact .inl (.inr ⟨o, noTb_some h fun _ z => nomatch z⟩)
    · exact .inr h
  refine ⟨noTb H, [.scr ns], bl_ true, noTb_fz H, tab, .cons ⟨a, rfl, sq⟩ .nil, rfl, ⟨hex, ns, by omega, rfl, rfl⟩, fun v H' F' n => ?_⟩
  have d := n.rsAt
  cases d
  rfl
theorem law_at (X : K.In h) (G : h.Ns mainGlobals mg) (c : He.SaysX fa fn [] tf ex w h K) {f : Addr} (hf : mg ("law" : Str) = some (.ref f)) : LamX.LawAtS PySem.Challenge.rw_latecoming_k24_whole_polling w K CX0 17 63 "_law_script" mg f h := by
  have T := says_wd X G c
  obtain ⟨fd, F⟩ := T.df 50 (d := d_law)
  have e := hf.symm.trans (T.glo 50)
  have ef : f = He.ga K "law" := by cases e; rfl
  subst ef
  refine ⟨fd, tf.map (He.cT K), _, fun p hp => ?_, fun p hp => ?_, fun p hp => ?_, ?_, fun H a ns hl _ hH hS => law_sp c.more H a ns hl hH hS, fun base hK hG tb => ok_law (P := PySem.Challenge.rw_latecoming_k24_whole_polling.prog) ⟨⟨T.fact, T.defs, ⟨base, hK, hG⟩⟩, fun p hp => ?_⟩ F⟩
  · obtain ⟨q, hq, rfl⟩ := List.mem_map.mp hp
    exact c.empty q hq
  · obtain ⟨q, hq, rfl⟩ := List.mem_map.mp hp
    exact c.out q hq
  · obtain ⟨q, hq, rfl⟩ := List.mem_map.mp hp
    exact PySem.W.codeHd_of_K X (c.hd q hq)
  · have b := FunD.bindsA (ps := ["_law_script"]) F fun _ _ _ _ _ _ us hl => match us, hl with | [_], _ => rfl
    exact fun s u => b s [u] rfl
  · have t := tb _ (List.mem_map.mpr ⟨p, hp, rfl⟩)
    exact ⟨t.code, t.bm, t.gP⟩
end
end LC
open PySem PySem.W PySem.Calls PyProof.Rows
theorem PySem.Challenge.cw_latecoming_k24_whole_polling_holds : PySem.Challenge.rw_latecoming_k24_whole_polling.Holds := by
  w_on; o_law
  refine HandSHeadRun.head_any (r := OpenLaw.row PySem.Challenge.rw_latecoming_k24_whole_polling) (q := LC.qv) (H := LC.hk) (ob := LC.ob) (M := 6000) (loose := LC.names) (d := HandSHeadRun.topDef (OpenLaw.row PySem.Challenge.rw_latecoming_k24_whole_polling).prog 70) (kwd := []) LC.ob_eq
    (by kernel_rfl) (fun s => by kernel_rfl) LC.run (by kernel_rfl) (by kernel_rfl) (by kernel_rfl) (by rfl) (by first | assumption | decide +kernel) (by decide +kernel) ⟨rfl, rfl, rfl, rfl, rfl, by decide +kernel⟩ ?hw ?hc
  case hw => w_witness2
  case hc =>
    refine LamX.walk_ofTsE (l := PySem.Challenge.rw_latecoming_k24_whole_polling) (n := 63) (k := 17) (x := "_law_script") (CX := fun _ => L2.CX0) rfl (by decide) (by kernel_rfl) ⟨rfl, by decide, by decide⟩ ?F (fun _ _ _ _ _ z => z)
    intro w mg fa h Y G hmg0
    obtain ⟨K, KX, c⟩ := Y
    have hmg : mg ("law" : PySem.Str) = some (.ref fa) := by
      have e : (HandSHeadRun.topDef (OpenLaw.row PySem.Challenge.rw_latecoming_k24_whole_polling).prog 70).name = ("law" : PySem.Str) := by kernel_rfl
      rw [← e]
      exact hmg0
    exact ⟨K, KX, LC.law_at KX G c hmg⟩
namespace LC
end LC
