import PyProof.Rows.All
import Wide.All
import OpenK.AllK
import Wide.FinOn
import HandS.ForMost
import HandS.More
import HandS.Style
import HandS.Flow
import HandS.Exc
import HandS.Slots
import HandS.SlotsOwn
import HandS.Property
import HandS.ClsMeth
import HandS.Star
import HandS.Strs
import HandS.SetFor
import HandS.Zip
import HandS.Walk
import HandS.Conv
import HandS.TupAny
import HandS.IsInst
import HandS.Head0
import HandS.Head1
import HandS.Head2
import HandS.HeadEnd
import HandS.HeadHook1
import HandS.HeadHook2
import HandS.HeadNt
import HandS.HeadHook3
import KE.KWithOwn
import KE.GoesEnum
import PySem.Challenge.RW_coldcrates_k70_whole_lives_of_long_histo
set_option Elab.async false
set_option linter.all false
set_option maxRecDepth 100000
set_option maxHeartbeats 4000000
namespace Ck
open PySem PySem.Spec PyProof.Rows L2
/-! the text by places -/
def top (i : Nat) : Stmt := PySem.Challenge.pw_coldcrates_k70_whole_lives_of_long_histo.main.body.getD i (.Pass ⟨0, 0, 0, 0⟩)
abbrev s_is_number : Stmt := top 20
abbrev s_is_word : Stmt := top 21
abbrev s_is_door : Stmt := top 22
abbrev s_are_doors : Stmt := top 23
abbrev s_are_crates : Stmt := top 24
abbrev s_Store_init : Stmt := inClass (top 25) 1
abbrev s_Store_doors : Stmt := inClass (top 25) 2
abbrev s_Store_crates : Stmt := inClass (top 25) 3
abbrev s_Store_size : Stmt := inClass (top 25) 4
abbrev s_Store_door_of : Stmt := inClass (top 25) 7
abbrev s_Store_places_of : Stmt := inClass (top 25) 8
abbrev s_is_layout : Stmt := top 26
abbrev s_check_layout : Stmt := top 27
abbrev s_check_crate : Stmt := top 28
abbrev s_seen_behind : Stmt := top 29
abbrev s_exchanged : Stmt := top 31
abbrev s_is_right : Stmt := top 33
abbrev s_is_operation : Stmt := top 36
abbrev s_warmth_of : Stmt := top 37
abbrev s_State_init : Stmt := inClass (top 38) 1
abbrev s_State_copied : Stmt := inClass (top 38) 2
abbrev s_State_go_on : Stmt := inClass (top 38) 3
abbrev s_State_go_back : Stmt := inClass (top 38) 4
abbrev s_State_go_again : Stmt := inClass (top 38) 5
abbrev s_Live_init : Stmt := inClass (top 39) 0
abbrev s_Live_replay : Stmt := inClass (top 39) 1
abbrev s_Live_layout_now : Stmt := inClass (top 39) 2
abbrev s_Live_warmth_now : Stmt := inClass (top 39) 3
abbrev s_Live_day_warmths : Stmt := inClass (top 39) 4
abbrev s_Live_kept_under : Stmt := inClass (top 39) 5
abbrev s_Live_history : Stmt := inClass (top 39) 6
abbrev s_Live_enter : Stmt := inClass (top 39) 7
abbrev s_Live_look : Stmt := inClass (top 39) 8
abbrev s_Live_put : Stmt := inClass (top 39) 9
abbrev s_Live_exchange : Stmt := inClass (top 39) 10
abbrev s_Live_shut : Stmt := inClass (top 39) 11
abbrev s_Live_keep_as : Stmt := inClass (top 39) 12
abbrev s_Live_fetch : Stmt := inClass (top 39) 13
abbrev s_Live_undo : Stmt := inClass (top 39) 14
abbrev s_Live_redo : Stmt := inClass (top 39) 15
abbrev s_Live_execute : Stmt := inClass (top 39) 16
abbrev s_Live_apply_all : Stmt := inClass (top 39) 17
abbrev s_Trial_init : Stmt := inClass (top 40) 0
abbrev s_Trial_hold : Stmt := inClass (top 40) 1
abbrev s_Trial_enter : Stmt := inClass (top 40) 2
abbrev s_Trial_exit : Stmt := inClass (top 40) 3
abbrev s_law_taken : Stmt := top 42
abbrev s_law_pick : Stmt := top 43
abbrev s_law_scheme : Stmt := top 44
abbrev s_law_store : Stmt := top 45
abbrev s_law_edges : Stmt := top 46
abbrev s_law_layouts : Stmt := top 47
abbrev s_law_seen : Stmt := top 48
abbrev s_law_turned : Stmt := top 49
abbrev s_law_both : Stmt := top 50
abbrev s_law_step : Stmt := top 51
abbrev s_law_shows : Stmt := top 52
abbrev s_law : Stmt := top 53
/-- a property's getter -/
def pga (K : PySem.W.Frag) (C : Addr) (f : Str) : Addr := match PySem.W.recIn K (He.ma K C f) "property" with
  | some (.ref g :: _) => g
  | _ => 0
/-! the defs -/
def d_is_number : He5.DefA := ⟨fun K => He.ga K "is_number", "is_number", "is_number", defArgs s_is_number, defBody s_is_number, defScope s_is_number, [], []⟩
def d_is_word : He5.DefA := ⟨fun K => He.ga K "is_word", "is_word", "is_word", defArgs s_is_word, defBody s_is_word, defScope s_is_word, [], []⟩
def d_is_door : He5.DefA := ⟨fun K => He.ga K "is_door", "is_door", "is_door", defArgs s_is_door, defBody s_is_door, defScope s_is_door, [], []⟩
def d_are_doors : He5.DefA := ⟨fun K => He.ga K "are_doors", "are_doors", "are_doors", defArgs s_are_doors, defBody s_are_doors, defScope s_are_doors, [], []⟩
def d_are_crates : He5.DefA := ⟨fun K => He.ga K "are_crates", "are_crates", "are_crates", defArgs s_are_crates, defBody s_are_crates, defScope s_are_crates, [], []⟩
def d_Store_init : He5.DefA := ⟨fun K => He.ma K (He.ga K "Store") "__init__", "__init__", "Store.__init__", defArgs s_Store_init, defBody s_Store_init, defScope s_Store_init, [], []⟩
def d_Store_doors : He5.DefA := ⟨fun K => pga K (He.ga K "Store") "doors", "doors", "Store.doors", defArgs s_Store_doors, defBody s_Store_doors, defScope s_Store_doors, [], []⟩
def d_Store_crates : He5.DefA := ⟨fun K => pga K (He.ga K "Store") "crates", "crates", "Store.crates", defArgs s_Store_crates, defBody s_Store_crates, defScope s_Store_crates, [], []⟩
def d_Store_size : He5.DefA := ⟨fun K => pga K (He.ga K "Store") "size", "size", "Store.size", defArgs s_Store_size, defBody s_Store_size, defScope s_Store_size, [], []⟩
def d_Store_door_of : He5.DefA := ⟨fun K => He.ma K (He.ga K "Store") "door_of", "door_of", "Store.door_of", defArgs s_Store_door_of, defBody s_Store_door_of, defScope s_Store_door_of, [], []⟩
def d_Store_places_of : He5.DefA := ⟨fun K => He.ma K (He.ga K "Store") "places_of", "places_of", "Store.places_of", defArgs s_Store_places_of, defBody s_Store_places_of, defScope s_Store_places_of, [], []⟩
def d_is_layout : He5.DefA := ⟨fun K => He.ga K "is_layout", "is_layout", "is_layout", defArgs s_is_layout, defBody s_is_layout, defScope s_is_layout, [], []⟩
def d_check_layout : He5.DefA := ⟨fun K => He.ga K "check_layout", "check_layout", "check_layout", defArgs s_check_layout, defBody s_check_layout, defScope s_check_layout, [], []⟩
def d_check_crate : He5.DefA := ⟨fun K => He.ga K "check_crate", "check_crate", "check_crate", defArgs s_check_crate, defBody s_check_crate, defScope s_check_crate, [], []⟩
def d_seen_behind : He5.DefA := ⟨fun K => He.ga K "seen_behind", "seen_behind", "seen_behind", defArgs s_seen_behind, defBody s_seen_behind, defScope s_seen_behind, [], []⟩
def d_exchanged : He5.DefA := ⟨fun K => He.ga K "exchanged", "exchanged", "exchanged", defArgs s_exchanged, defBody s_exchanged, defScope s_exchanged, [], []⟩
def d_is_right : He5.DefA := ⟨fun K => He.ga K "is_right", "is_right", "is_right", defArgs s_is_right, defBody s_is_right, defScope s_is_right, [], []⟩
def d_is_operation : He5.DefA := ⟨fun K => He.ga K "is_operation", "is_operation", "is_operation", defArgs s_is_operation, defBody s_is_operation, defScope s_is_operation, [], []⟩
def d_warmth_of : He5.DefA := ⟨fun K => He.ga K "warmth_of", "warmth_of", "warmth_of", defArgs s_warmth_of, defBody s_warmth_of, defScope s_warmth_of, [], []⟩
def d_State_init : He5.DefA := ⟨fun K => He.ma K (He.ga K "State") "__init__", "__init__", "State.__init__", defArgs s_State_init, defBody s_State_init, defScope s_State_init, [], []⟩
def d_State_copied : He5.DefA := ⟨fun K => He.ma K (He.ga K "State") "copied", "copied", "State.copied", defArgs s_State_copied, defBody s_State_copied, defScope s_State_copied, [], []⟩
def d_State_go_on : He5.DefA := ⟨fun K => He.ma K (He.ga K "State") "go_on", "go_on", "State.go_on", defArgs s_State_go_on, defBody s_State_go_on, defScope s_State_go_on, [], []⟩
def d_State_go_back : He5.DefA := ⟨fun K => He.ma K (He.ga K "State") "go_back", "go_back", "State.go_back", defArgs s_State_go_back, defBody s_State_go_back, defScope s_State_go_back, [], []⟩
def d_State_go_again : He5.DefA := ⟨fun K => He.ma K (He.ga K "State") "go_again", "go_again", "State.go_again", defArgs s_State_go_again, defBody s_State_go_again, defScope s_State_go_again, [], []⟩
def d_Live_init : He5.DefA := ⟨fun K => He.ma K (He.ga K "Live") "__init__", "__init__", "Live.__init__", defArgs s_Live_init, defBody s_Live_init, defScope s_Live_init, [], []⟩
def d_Live_replay : He5.DefA := ⟨fun K => He5.wf K (He.ga K "Live") "classmethod" "replay", "replay", "Live.replay", defArgs s_Live_replay, defBody s_Live_replay, defScope s_Live_replay, [], []⟩
def d_Live_layout_now : He5.DefA := ⟨fun K => pga K (He.ga K "Live") "layout_now", "layout_now", "Live.layout_now", defArgs s_Live_layout_now, defBody s_Live_layout_now, defScope s_Live_layout_now, [], []⟩
def d_Live_warmth_now : He5.DefA := ⟨fun K => pga K (He.ga K "Live") "warmth_now", "warmth_now", "Live.warmth_now", defArgs s_Live_warmth_now, defBody s_Live_warmth_now, defScope s_Live_warmth_now, [], []⟩
def d_Live_day_warmths : He5.DefA := ⟨fun K => pga K (He.ga K "Live") "day_warmths", "day_warmths", "Live.day_warmths", defArgs s_Live_day_warmths, defBody s_Live_day_warmths, defScope s_Live_day_warmths, [], []⟩
def d_Live_kept_under : He5.DefA := ⟨fun K => pga K (He.ga K "Live") "kept_under", "kept_under", "Live.kept_under", defArgs s_Live_kept_under, defBody s_Live_kept_under, defScope s_Live_kept_under, [], []⟩
def d_Live_history : He5.DefA := ⟨fun K => pga K (He.ga K "Live") "history", "history", "Live.history", defArgs s_Live_history, defBody s_Live_history, defScope s_Live_history, [], []⟩
def d_Live_enter : He5.DefA := ⟨fun K => He.ma K (He.ga K "Live") "enter", "enter", "Live.enter", defArgs s_Live_enter, defBody s_Live_enter, defScope s_Live_enter, [], []⟩
def d_Live_look : He5.DefA := ⟨fun K => He.ma K (He.ga K "Live") "look", "look", "Live.look", defArgs s_Live_look, defBody s_Live_look, defScope s_Live_look, [], []⟩
def d_Live_put : He5.DefA := ⟨fun K => He.ma K (He.ga K "Live") "put", "put", "Live.put", defArgs s_Live_put, defBody s_Live_put, defScope s_Live_put, [], []⟩
def d_Live_exchange : He5.DefA := ⟨fun K => He.ma K (He.ga K "Live") "exchange", "exchange", "Live.exchange", defArgs s_Live_exchange, defBody s_Live_exchange, defScope s_Live_exchange, [], []⟩
def d_Live_shut : He5.DefA := ⟨fun K => He.ma K (He.ga K "Live") "shut", "shut", "Live.shut", defArgs s_Live_shut, defBody s_Live_shut, defScope s_Live_shut, [], []⟩
def d_Live_keep_as : He5.DefA := ⟨fun K => He.ma K (He.ga K "Live") "keep_as", "keep_as", "Live.keep_as", defArgs s_Live_keep_as, defBody s_Live_keep_as, defScope s_Live_keep_as, [], []⟩
def d_Live_fetch : He5.DefA := ⟨fun K => He.ma K (He.ga K "Live") "fetch", "fetch", "Live.fetch", defArgs s_Live_fetch, defBody s_Live_fetch, defScope s_Live_fetch, [], []⟩
def d_Live_undo : He5.DefA := ⟨fun K => He.ma K (He.ga K "Live") "undo", "undo", "Live.undo", defArgs s_Live_undo, defBody s_Live_undo, defScope s_Live_undo, [], []⟩
def d_Live_redo : He5.DefA := ⟨fun K => He.ma K (He.ga K "Live") "redo", "redo", "Live.redo", defArgs s_Live_redo, defBody s_Live_redo, defScope s_Live_redo, [], []⟩
def d_Live_execute : He5.DefA := ⟨fun K => He.ma K (He.ga K "Live") "execute", "execute", "Live.execute", defArgs s_Live_execute, defBody s_Live_execute, defScope s_Live_execute, [], []⟩
def d_Live_apply_all : He5.DefA := ⟨fun K => He.ma K (He.ga K "Live") "apply_all", "apply_all", "Live.apply_all", defArgs s_Live_apply_all, defBody s_Live_apply_all, defScope s_Live_apply_all, [], []⟩
def d_Trial_init : He5.DefA := ⟨fun K => He.ma K (He.ga K "Trial") "__init__", "__init__", "Trial.__init__", defArgs s_Trial_init, defBody s_Trial_init, defScope s_Trial_init, [], []⟩
def d_Trial_hold : He5.DefA := ⟨fun K => He.ma K (He.ga K "Trial") "hold", "hold", "Trial.hold", defArgs s_Trial_hold, defBody s_Trial_hold, defScope s_Trial_hold, [], []⟩
def d_Trial_enter : He5.DefA := ⟨fun K => He.ma K (He.ga K "Trial") "__enter__", "__enter__", "Trial.__enter__", defArgs s_Trial_enter, defBody s_Trial_enter, defScope s_Trial_enter, [], []⟩
def d_Trial_exit : He5.DefA := ⟨fun K => He.ma K (He.ga K "Trial") "__exit__", "__exit__", "Trial.__exit__", defArgs s_Trial_exit, defBody s_Trial_exit, defScope s_Trial_exit, [], []⟩
def d_law_taken : He5.DefA := ⟨fun K => He.ga K "_law_taken", "_law_taken", "_law_taken", defArgs s_law_taken, defBody s_law_taken, defScope s_law_taken, [], []⟩
def d_law_pick : He5.DefA := ⟨fun K => He.ga K "_law_pick", "_law_pick", "_law_pick", defArgs s_law_pick, defBody s_law_pick, defScope s_law_pick, [], []⟩
def d_law_scheme : He5.DefA := ⟨fun K => He.ga K "_law_scheme", "_law_scheme", "_law_scheme", defArgs s_law_scheme, defBody s_law_scheme, defScope s_law_scheme, [], []⟩
def d_law_store : He5.DefA := ⟨fun K => He.ga K "_law_store", "_law_store", "_law_store", defArgs s_law_store, defBody s_law_store, defScope s_law_store, [], []⟩
def d_law_edges : He5.DefA := ⟨fun K => He.ga K "_law_edges", "_law_edges", "_law_edges", defArgs s_law_edges, defBody s_law_edges, defScope s_law_edges, [], []⟩
def d_law_layouts : He5.DefA := ⟨fun K => He.ga K "_law_layouts", "_law_layouts", "_law_layouts", defArgs s_law_layouts, defBody s_law_layouts, defScope s_law_layouts, [], []⟩
def d_law_seen : He5.DefA := ⟨fun K => He.ga K "_law_seen", "_law_seen", "_law_seen", defArgs s_law_seen, defBody s_law_seen, defScope s_law_seen, [], []⟩
def d_law_turned : He5.DefA := ⟨fun K => He.ga K "_law_turned", "_law_turned", "_law_turned", defArgs s_law_turned, defBody s_law_turned, defScope s_law_turned, [], []⟩
def d_law_both : He5.DefA := ⟨fun K => He.ga K "_law_both", "_law_both", "_law_both", defArgs s_law_both, defBody s_law_both, defScope s_law_both, [], []⟩
def d_law_step : He5.DefA := ⟨fun K => He.ga K "_law_step", "_law_step", "_law_step", defArgs s_law_step, defBody s_law_step, defScope s_law_step, [], []⟩
def d_law_shows : He5.DefA := ⟨fun K => He.ga K "_law_shows", "_law_shows", "_law_shows", defArgs s_law_shows, defBody s_law_shows, defScope s_law_shows, [], []⟩
def d_law : He5.DefA := ⟨fun K => He.ga K "law", "law", "law", defArgs s_law, defBody s_law, defScope s_law, [], []⟩
def fn : List He5.DefA := [d_is_number, d_is_word, d_is_door, d_are_doors, d_are_crates, d_Store_init, d_Store_doors, d_Store_crates, d_Store_size, d_Store_door_of, d_Store_places_of, d_is_layout, d_check_layout, d_check_crate, d_seen_behind, d_exchanged, d_is_right, d_is_operation, d_warmth_of, d_State_init, d_State_copied, d_State_go_on, d_State_go_back, d_State_go_again, d_Live_init, d_Live_replay, d_Live_layout_now, d_Live_warmth_now, d_Live_day_warmths, d_Live_kept_under, d_Live_history, d_Live_enter, d_Live_look, d_Live_put, d_Live_exchange, d_Live_shut, d_Live_keep_as, d_Live_fetch, d_Live_undo, d_Live_redo, d_Live_execute, d_Live_apply_all, d_Trial_init, d_Trial_hold, d_Trial_enter, d_Trial_exit, d_law_taken, d_law_pick, d_law_scheme, d_law_store, d_law_edges, d_law_layouts, d_law_seen, d_law_turned, d_law_both, d_law_step, d_law_shows, d_law]
def fa : List He.Fa := [.glo "is_number", .glo "is_word", .glo "is_door", .glo "are_doors", .glo "are_crates", .glo "is_layout", .glo "check_layout", .glo "check_crate", .glo "seen_behind", .glo "exchanged", .glo "is_right", .glo "is_operation", .glo "warmth_of", .glo "_law_taken", .glo "_law_pick", .glo "_law_scheme", .glo "_law_store", .glo "_law_edges", .glo "_law_layouts", .glo "_law_seen", .glo "_law_turned", .glo "_law_both", .glo "_law_step", .glo "_law_shows", .glo "law", .glo "Store", .glo "State", .glo "Live", .glo "Trial", .glo "SIZES", .free "isinstance", .free "int", .free "bool", .free "str", .free "tuple", .free "list", .free "len", .free "all", .free "sum", .free "min", .free "sorted", .free "set", .free "enumerate", .free "zip", .free "range", .free "dict", .int "MAX_LETTERS" 8, .int "MAX_DOORS" 4, .int "MAX_WARMTH" 99, .int "MAX_BEHIND" 4, .int "MAX_PLACES" 6, .int "MAX_CRATES" 5, .str "LETTERS" "abcdefghijklmnopqrstuvwxyz", .cls "Live", .cls "Trial", .noat "Live" "base", .noat "Live" "held", .noat "Trial" "tested_store", .noat "Trial" "origin", .noat "Trial" "fresh", .noat "Trial" "chosen", .meth "Store" "door_of", .meth "Store" "places_of", .meth "State" "copied", .meth "State" "go_on", .meth "State" "go_back", .meth "State" "go_again", .meth "Live" "enter", .meth "Live" "look", .meth "Live" "put", .meth "Live" "exchange", .meth "Live" "shut", .meth "Live" "keep_as", .meth "Live" "fetch", .meth "Live" "undo", .meth "Live" "redo", .meth "Live" "execute", .meth "Live" "apply_all", .meth "Trial" "hold", .meth "Trial" "__enter__", .meth "Trial" "__exit__", .mkr "Store", .mkr "State", .mkr "Live", .mkr "Trial"]
/-! further facts -/
def sclsB (K : PySem.W.Frag) (C : Addr) : Bool := PySem.W.plainGet K C Str.empty && (PySem.W.isClsIn K C && (PySem.W.plainOver K C && He.eqO (PySem.W.findIn K (.ref C) "__setattr__") (some (some (.builtin "object.__setattr__")))))
def slotB (K : PySem.W.Frag) (C : Addr) (f : Str) (i : Nat) : Bool := He.eqO (PySem.W.findIn K (.ref C) f) (some (some (.ref (He.ma K C f)))) && (He.eqO (PySem.W.specialIn K (.ref (He.ma K C f)) "__get__") (some (some (.builtin "member_descriptor.__get__"))) && (decide (PySem.W.takesIn K (.ref (He.ma K C f)) = some true) && (decide (PySem.W.typeIn K (.ref (He.ma K C f)) = some (.type "member_descriptor")) && decide (PySem.W.slotIn K (He.ma K C f) C = some i))))
def propB (K : PySem.W.Frag) (C : Addr) (f : Str) : Bool := He.eqO (PySem.W.findIn K (.ref C) f) (some (some (.ref (He.ma K C f)))) && (He.eqO (PySem.W.specialIn K (.ref (He.ma K C f)) "__get__") (some (some (.builtin "property.__get__"))) && (decide (PySem.W.takesIn K (.ref (He.ma K C f)) = some true) && (match PySem.W.recIn K (He.ma K C f) "property" with | some (.ref _ :: _) => true | _ => false)))
def sizesL : List (Str × Int) := [("look", 2), ("put", 3), ("exchange", 3), ("shut", 1), ("keep_as", 2), ("fetch", 2), ("undo", 1), ("redo", 1)]
def sizeB (K : PySem.W.Frag) : Bool := sizesL.all fun p => match PySem.W.nsIn K (He.ga K "SIZES") p.1 with | some (some (.int i _)) => decide (i = p.2) | _ => false
def exB : List (PySem.W.Frag → Bool) := [fun K => sclsB K (He.ga K "Store"), fun K => sclsB K (He.ga K "State"), fun K => slotB K (He.ga K "Store") "edges" 0, fun K => slotB K (He.ga K "Store") "parts" 1, fun K => slotB K (He.ga K "State") "facts" 0, fun K => slotB K (He.ga K "State") "past" 1, fun K => slotB K (He.ga K "State") "shelf" 2, fun K => slotB K (He.ga K "State") "undone" 3, fun K => propB K (He.ga K "Store") "doors", fun K => propB K (He.ga K "Store") "crates", fun K => propB K (He.ga K "Store") "size", fun K => propB K (He.ga K "Live") "layout_now", fun K => propB K (He.ga K "Live") "warmth_now", fun K => propB K (He.ga K "Live") "day_warmths", fun K => propB K (He.ga K "Live") "kept_under", fun K => propB K (He.ga K "Live") "history", fun K => PySem.W.readsIn K (He.ga K "Live") (.type "type"), fun K => He.eqO (PySem.W.specialIn K (.ref (He.ga K "Live")) "__getattribute__") (some (some (.builtin "type.__getattribute__"))), fun K => He5.wrapB K (He.ga K "Live") "classmethod" "classmethod.__get__" "replay", fun K => PySem.W.fnIn K (He5.wf K (He.ga K "Live") "classmethod" "replay"), fun K => sizeB K]
/-- what the end leans on -/
structure Says (w : World) (K : PySem.W.Frag) : Prop where
  a : He5.SaysA fa fn K
  e : (exB.all fun f => f K) = true
  d : He.dicW K (He.ga K "SIZES") = some (He.keysIn w.params (sizesL.map (·.1)))
section
variable {w : World} {K : PySem.W.Frag}
theorem Says.ex (c : Says w K) (i : Nat) {f : PySem.W.Frag → Bool} (h : exB[i]? = some f) : f K = true := List.all_eq_true.mp c.e f (List.mem_of_getElem? h)
theorem scls_ok {C : Addr} (h : sclsB K C = true) : SlX.SCls K C := by
  obtain ⟨c1, h⟩ := He.ba h
  obtain ⟨c2, h⟩ := He.ba h
  obtain ⟨c3, c4⟩ := He.ba h
  exact ⟨c1, c2, c3, He.eqO_ok c4⟩
theorem slot_ok {C : Addr} {f : Str} {i : Nat} (h : slotB K C f i = true) (hi : i < 1000) : SlX.Slot1 K C f (He.ma K C f) i := by
  obtain ⟨c1, h⟩ := He.ba h
  obtain ⟨c2, h⟩ := He.ba h
  obtain ⟨c3, h⟩ := He.ba h
  obtain ⟨c4, c5⟩ := He.ba h
  exact ⟨He.eqO_ok c1, He.eqO_ok c2, of_decide_eq_true c3, of_decide_eq_true c4, of_decide_eq_true c5, hi⟩
theorem prop_ok {C : Addr} {f : Str} (h : propB K C f = true) : PropOf K C f (He.ma K C f) (pga K C f) := by
  obtain ⟨c1, h⟩ := He.ba h
  obtain ⟨c2, h⟩ := He.ba h
  obtain ⟨c3, c4⟩ := He.ba h
  refine ⟨He.eqO_ok c1, He.eqO_ok c2, of_decide_eq_true c3, ?_⟩
  unfold pga
  split at c4
  · rename_i g r e
    exact ⟨r, by rw [e]⟩
  · cases c4
end
/-- the facts by names -/
structure Txt (w : World) (K : PySem.W.Frag) (mg : Str → Option Value) : Prop where
  g_is_number : mg "is_number" = some (.ref (He.ga K "is_number"))
  g_is_word : mg "is_word" = some (.ref (He.ga K "is_word"))
  g_is_door : mg "is_door" = some (.ref (He.ga K "is_door"))
  g_are_doors : mg "are_doors" = some (.ref (He.ga K "are_doors"))
  g_are_crates : mg "are_crates" = some (.ref (He.ga K "are_crates"))
  g_is_layout : mg "is_layout" = some (.ref (He.ga K "is_layout"))
  g_check_layout : mg "check_layout" = some (.ref (He.ga K "check_layout"))
  g_check_crate : mg "check_crate" = some (.ref (He.ga K "check_crate"))
  g_seen_behind : mg "seen_behind" = some (.ref (He.ga K "seen_behind"))
  g_exchanged : mg "exchanged" = some (.ref (He.ga K "exchanged"))
  g_is_right : mg "is_right" = some (.ref (He.ga K "is_right"))
  g_is_operation : mg "is_operation" = some (.ref (He.ga K "is_operation"))
  g_warmth_of : mg "warmth_of" = some (.ref (He.ga K "warmth_of"))
  g_law_taken : mg "_law_taken" = some (.ref (He.ga K "_law_taken"))
  g_law_pick : mg "_law_pick" = some (.ref (He.ga K "_law_pick"))
  g_law_scheme : mg "_law_scheme" = some (.ref (He.ga K "_law_scheme"))
  g_law_store : mg "_law_store" = some (.ref (He.ga K "_law_store"))
  g_law_edges : mg "_law_edges" = some (.ref (He.ga K "_law_edges"))
  g_law_layouts : mg "_law_layouts" = some (.ref (He.ga K "_law_layouts"))
  g_law_seen : mg "_law_seen" = some (.ref (He.ga K "_law_seen"))
  g_law_turned : mg "_law_turned" = some (.ref (He.ga K "_law_turned"))
  g_law_both : mg "_law_both" = some (.ref (He.ga K "_law_both"))
  g_law_step : mg "_law_step" = some (.ref (He.ga K "_law_step"))
  g_law_shows : mg "_law_shows" = some (.ref (He.ga K "_law_shows"))
  g_law : mg "law" = some (.ref (He.ga K "law"))
  g_Store : mg "Store" = some (.ref (He.ga K "Store"))
  g_State : mg "State" = some (.ref (He.ga K "State"))
  g_Live : mg "Live" = some (.ref (He.ga K "Live"))
  g_Trial : mg "Trial" = some (.ref (He.ga K "Trial"))
  g_SIZES : mg "SIZES" = some (.ref (He.ga K "SIZES"))
  b_isinstance : mg "isinstance" = none
  b_int : mg "int" = none
  b_bool : mg "bool" = none
  b_str : mg "str" = none
  b_tuple : mg "tuple" = none
  b_list : mg "list" = none
  b_len : mg "len" = none
  b_all : mg "all" = none
  b_sum : mg "sum" = none
  b_min : mg "min" = none
  b_sorted : mg "sorted" = none
  b_set : mg "set" = none
  b_enumerate : mg "enumerate" = none
  b_zip : mg "zip" = none
  b_range : mg "range" = none
  b_dict : mg "dict" = none
  i_MAX_LETTERS : ∃ t, mg "MAX_LETTERS" = some (.int 8 t)
  i_MAX_DOORS : ∃ t, mg "MAX_DOORS" = some (.int 4 t)
  i_MAX_WARMTH : ∃ t, mg "MAX_WARMTH" = some (.int 99 t)
  i_MAX_BEHIND : ∃ t, mg "MAX_BEHIND" = some (.int 4 t)
  i_MAX_PLACES : ∃ t, mg "MAX_PLACES" = some (.int 6 t)
  i_MAX_CRATES : ∃ t, mg "MAX_CRATES" = some (.int 5 t)
  i_LETTERS : ∃ t, mg "LETTERS" = some (.str "abcdefghijklmnopqrstuvwxyz" t)
  c_Live : Cls K (He.ga K "Live")
  c_Trial : Cls K (He.ga K "Trial")
  n_Live_base : NoAttr K (He.ga K "Live") "base"
  n_Live_held : NoAttr K (He.ga K "Live") "held"
  n_Trial_tested_store : NoAttr K (He.ga K "Trial") "tested_store"
  n_Trial_origin : NoAttr K (He.ga K "Trial") "origin"
  n_Trial_fresh : NoAttr K (He.ga K "Trial") "fresh"
  n_Trial_chosen : NoAttr K (He.ga K "Trial") "chosen"
  m_Store_door_of : Meth K (He.ga K "Store") "door_of" (He.ma K (He.ga K "Store") "door_of")
  m_Store_places_of : Meth K (He.ga K "Store") "places_of" (He.ma K (He.ga K "Store") "places_of")
  m_State_copied : Meth K (He.ga K "State") "copied" (He.ma K (He.ga K "State") "copied")
  m_State_go_on : Meth K (He.ga K "State") "go_on" (He.ma K (He.ga K "State") "go_on")
  m_State_go_back : Meth K (He.ga K "State") "go_back" (He.ma K (He.ga K "State") "go_back")
  m_State_go_again : Meth K (He.ga K "State") "go_again" (He.ma K (He.ga K "State") "go_again")
  m_Live_enter : Meth K (He.ga K "Live") "enter" (He.ma K (He.ga K "Live") "enter")
  m_Live_look : Meth K (He.ga K "Live") "look" (He.ma K (He.ga K "Live") "look")
  m_Live_put : Meth K (He.ga K "Live") "put" (He.ma K (He.ga K "Live") "put")
  m_Live_exchange : Meth K (He.ga K "Live") "exchange" (He.ma K (He.ga K "Live") "exchange")
  m_Live_shut : Meth K (He.ga K "Live") "shut" (He.ma K (He.ga K "Live") "shut")
  m_Live_keep_as : Meth K (He.ga K "Live") "keep_as" (He.ma K (He.ga K "Live") "keep_as")
  m_Live_fetch : Meth K (He.ga K "Live") "fetch" (He.ma K (He.ga K "Live") "fetch")
  m_Live_undo : Meth K (He.ga K "Live") "undo" (He.ma K (He.ga K "Live") "undo")
  m_Live_redo : Meth K (He.ga K "Live") "redo" (He.ma K (He.ga K "Live") "redo")
  m_Live_execute : Meth K (He.ga K "Live") "execute" (He.ma K (He.ga K "Live") "execute")
  m_Live_apply_all : Meth K (He.ga K "Live") "apply_all" (He.ma K (He.ga K "Live") "apply_all")
  m_Trial_hold : Meth K (He.ga K "Trial") "hold" (He.ma K (He.ga K "Trial") "hold")
  m_Trial_enter : Meth K (He.ga K "Trial") "__enter__" (He.ma K (He.ga K "Trial") "__enter__")
  m_Trial_exit : Meth K (He.ga K "Trial") "__exit__" (He.ma K (He.ga K "Trial") "__exit__")
  mk_Store : Mk K (He.ga K "Store") (He.ma K (He.ga K "Store") "__init__")
  mk_State : Mk K (He.ga K "State") (He.ma K (He.ga K "State") "__init__")
  mk_Live : Mk K (He.ga K "Live") (He.ma K (He.ga K "Live") "__init__")
  mk_Trial : Mk K (He.ga K "Trial") (He.ma K (He.ga K "Trial") "__init__")
  sc_Store : SlX.SCls K (He.ga K "Store")
  sc_State : SlX.SCls K (He.ga K "State")
  sl_Store_edges : SlX.Slot1 K (He.ga K "Store") "edges" (He.ma K (He.ga K "Store") "edges") 0
  sl_Store_parts : SlX.Slot1 K (He.ga K "Store") "parts" (He.ma K (He.ga K "Store") "parts") 1
  sl_State_facts : SlX.Slot1 K (He.ga K "State") "facts" (He.ma K (He.ga K "State") "facts") 0
  sl_State_past : SlX.Slot1 K (He.ga K "State") "past" (He.ma K (He.ga K "State") "past") 1
  sl_State_shelf : SlX.Slot1 K (He.ga K "State") "shelf" (He.ma K (He.ga K "State") "shelf") 2
  sl_State_undone : SlX.Slot1 K (He.ga K "State") "undone" (He.ma K (He.ga K "State") "undone") 3
  p_Store_doors : PropOf K (He.ga K "Store") "doors" (He.ma K (He.ga K "Store") "doors") (pga K (He.ga K "Store") "doors")
  p_Store_crates : PropOf K (He.ga K "Store") "crates" (He.ma K (He.ga K "Store") "crates") (pga K (He.ga K "Store") "crates")
  p_Store_size : PropOf K (He.ga K "Store") "size" (He.ma K (He.ga K "Store") "size") (pga K (He.ga K "Store") "size")
  p_Live_layout_now : PropOf K (He.ga K "Live") "layout_now" (He.ma K (He.ga K "Live") "layout_now") (pga K (He.ga K "Live") "layout_now")
  p_Live_warmth_now : PropOf K (He.ga K "Live") "warmth_now" (He.ma K (He.ga K "Live") "warmth_now") (pga K (He.ga K "Live") "warmth_now")
  p_Live_day_warmths : PropOf K (He.ga K "Live") "day_warmths" (He.ma K (He.ga K "Live") "day_warmths") (pga K (He.ga K "Live") "day_warmths")
  p_Live_kept_under : PropOf K (He.ga K "Live") "kept_under" (He.ma K (He.ga K "Live") "kept_under") (pga K (He.ga K "Live") "kept_under")
  p_Live_history : PropOf K (He.ga K "Live") "history" (He.ma K (He.ga K "Live") "history") (pga K (He.ga K "Live") "history")
  cr_Live : ClX.CRead K (He.ga K "Live") (.type "type")
  cm_replay : ClX.CMet K (He.ga K "Live") (.type "type") "replay" (He.ma K (He.ga K "Live") "replay") (He5.wf K (He.ga K "Live") "classmethod" "replay")
  sizes : sizeB K = true
  kd : ∃ es n, KDict K w (He.ga K "SIZES") es n
  f_is_number : ∃ fd, Fun K "is_number" "is_number" s_is_number (He.ga K "is_number") fd
  f_is_word : ∃ fd, Fun K "is_word" "is_word" s_is_word (He.ga K "is_word") fd
  f_is_door : ∃ fd, Fun K "is_door" "is_door" s_is_door (He.ga K "is_door") fd
  f_are_doors : ∃ fd, Fun K "are_doors" "are_doors" s_are_doors (He.ga K "are_doors") fd
  f_are_crates : ∃ fd, Fun K "are_crates" "are_crates" s_are_crates (He.ga K "are_crates") fd
  f_Store_init : ∃ fd, Fun K "__init__" "Store.__init__" s_Store_init (He.ma K (He.ga K "Store") "__init__") fd
  f_Store_doors : ∃ fd, Fun K "doors" "Store.doors" s_Store_doors (pga K (He.ga K "Store") "doors") fd
  f_Store_crates : ∃ fd, Fun K "crates" "Store.crates" s_Store_crates (pga K (He.ga K "Store") "crates") fd
  f_Store_size : ∃ fd, Fun K "size" "Store.size" s_Store_size (pga K (He.ga K "Store") "size") fd
  f_Store_door_of : ∃ fd, Fun K "door_of" "Store.door_of" s_Store_door_of (He.ma K (He.ga K "Store") "door_of") fd
  f_Store_places_of : ∃ fd, Fun K "places_of" "Store.places_of" s_Store_places_of (He.ma K (He.ga K "Store") "places_of") fd
  f_is_layout : ∃ fd, Fun K "is_layout" "is_layout" s_is_layout (He.ga K "is_layout") fd
  f_check_layout : ∃ fd, Fun K "check_layout" "check_layout" s_check_layout (He.ga K "check_layout") fd
  f_check_crate : ∃ fd, Fun K "check_crate" "check_crate" s_check_crate (He.ga K "check_crate") fd
  f_seen_behind : ∃ fd, Fun K "seen_behind" "seen_behind" s_seen_behind (He.ga K "seen_behind") fd
  f_exchanged : ∃ fd, Fun K "exchanged" "exchanged" s_exchanged (He.ga K "exchanged") fd
  f_is_right : ∃ fd, Fun K "is_right" "is_right" s_is_right (He.ga K "is_right") fd
  f_is_operation : ∃ fd, Fun K "is_operation" "is_operation" s_is_operation (He.ga K "is_operation") fd
  f_warmth_of : ∃ fd, Fun K "warmth_of" "warmth_of" s_warmth_of (He.ga K "warmth_of") fd
  f_State_init : ∃ fd, Fun K "__init__" "State.__init__" s_State_init (He.ma K (He.ga K "State") "__init__") fd
  f_State_copied : ∃ fd, Fun K "copied" "State.copied" s_State_copied (He.ma K (He.ga K "State") "copied") fd
  f_State_go_on : ∃ fd, Fun K "go_on" "State.go_on" s_State_go_on (He.ma K (He.ga K "State") "go_on") fd
  f_State_go_back : ∃ fd, Fun K "go_back" "State.go_back" s_State_go_back (He.ma K (He.ga K "State") "go_back") fd
  f_State_go_again : ∃ fd, Fun K "go_again" "State.go_again" s_State_go_again (He.ma K (He.ga K "State") "go_again") fd
  f_Live_init : ∃ fd, Fun K "__init__" "Live.__init__" s_Live_init (He.ma K (He.ga K "Live") "__init__") fd
  f_Live_replay : ∃ fd, Fun K "replay" "Live.replay" s_Live_replay (He5.wf K (He.ga K "Live") "classmethod" "replay") fd
  f_Live_layout_now : ∃ fd, Fun K "layout_now" "Live.layout_now" s_Live_layout_now (pga K (He.ga K "Live") "layout_now") fd
  f_Live_warmth_now : ∃ fd, Fun K "warmth_now" "Live.warmth_now" s_Live_warmth_now (pga K (He.ga K "Live") "warmth_now") fd
  f_Live_day_warmths : ∃ fd, Fun K "day_warmths" "Live.day_warmths" s_Live_day_warmths (pga K (He.ga K "Live") "day_warmths") fd
  f_Live_kept_under : ∃ fd, Fun K "kept_under" "Live.kept_under" s_Live_kept_under (pga K (He.ga K "Live") "kept_under") fd
  f_Live_history : ∃ fd, Fun K "history" "Live.history" s_Live_history (pga K (He.ga K "Live") "history") fd
  f_Live_enter : ∃ fd, Fun K "enter" "Live.enter" s_Live_enter (He.ma K (He.ga K "Live") "enter") fd
  f_Live_look : ∃ fd, Fun K "look" "Live.look" s_Live_look (He.ma K (He.ga K "Live") "look") fd
  f_Live_put : ∃ fd, Fun K "put" "Live.put" s_Live_put (He.ma K (He.ga K "Live") "put") fd
  f_Live_exchange : ∃ fd, Fun K "exchange" "Live.exchange" s_Live_exchange (He.ma K (He.ga K "Live") "exchange") fd
  f_Live_shut : ∃ fd, Fun K "shut" "Live.shut" s_Live_shut (He.ma K (He.ga K "Live") "shut") fd
  f_Live_keep_as : ∃ fd, Fun K "keep_as" "Live.keep_as" s_Live_keep_as (He.ma K (He.ga K "Live") "keep_as") fd
  f_Live_fetch : ∃ fd, Fun K "fetch" "Live.fetch" s_Live_fetch (He.ma K (He.ga K "Live") "fetch") fd
  f_Live_undo : ∃ fd, Fun K "undo" "Live.undo" s_Live_undo (He.ma K (He.ga K "Live") "undo") fd
  f_Live_redo : ∃ fd, Fun K "redo" "Live.redo" s_Live_redo (He.ma K (He.ga K "Live") "redo") fd
  f_Live_execute : ∃ fd, Fun K "execute" "Live.execute" s_Live_execute (He.ma K (He.ga K "Live") "execute") fd
  f_Live_apply_all : ∃ fd, Fun K "apply_all" "Live.apply_all" s_Live_apply_all (He.ma K (He.ga K "Live") "apply_all") fd
  f_Trial_init : ∃ fd, Fun K "__init__" "Trial.__init__" s_Trial_init (He.ma K (He.ga K "Trial") "__init__") fd
  f_Trial_hold : ∃ fd, Fun K "hold" "Trial.hold" s_Trial_hold (He.ma K (He.ga K "Trial") "hold") fd
  f_Trial_enter : ∃ fd, Fun K "__enter__" "Trial.__enter__" s_Trial_enter (He.ma K (He.ga K "Trial") "__enter__") fd
  f_Trial_exit : ∃ fd, Fun K "__exit__" "Trial.__exit__" s_Trial_exit (He.ma K (He.ga K "Trial") "__exit__") fd
  f_law_taken : ∃ fd, Fun K "_law_taken" "_law_taken" s_law_taken (He.ga K "_law_taken") fd
  f_law_pick : ∃ fd, Fun K "_law_pick" "_law_pick" s_law_pick (He.ga K "_law_pick") fd
  f_law_scheme : ∃ fd, Fun K "_law_scheme" "_law_scheme" s_law_scheme (He.ga K "_law_scheme") fd
  f_law_store : ∃ fd, Fun K "_law_store" "_law_store" s_law_store (He.ga K "_law_store") fd
  f_law_edges : ∃ fd, Fun K "_law_edges" "_law_edges" s_law_edges (He.ga K "_law_edges") fd
  f_law_layouts : ∃ fd, Fun K "_law_layouts" "_law_layouts" s_law_layouts (He.ga K "_law_layouts") fd
  f_law_seen : ∃ fd, Fun K "_law_seen" "_law_seen" s_law_seen (He.ga K "_law_seen") fd
  f_law_turned : ∃ fd, Fun K "_law_turned" "_law_turned" s_law_turned (He.ga K "_law_turned") fd
  f_law_both : ∃ fd, Fun K "_law_both" "_law_both" s_law_both (He.ga K "_law_both") fd
  f_law_step : ∃ fd, Fun K "_law_step" "_law_step" s_law_step (He.ga K "_law_step") fd
  f_law_shows : ∃ fd, Fun K "_law_shows" "_law_shows" s_law_shows (He.ga K "_law_shows") fd
  f_law : ∃ fd, Fun K "law" "law" s_law (He.ga K "law") fd
theorem txt_of {w : World} {K : PySem.W.Frag} {h : Heap} {mg : Str → Option Value} (c : Says w K) (X : K.In h) (G : h.Ns mainGlobals mg) : Txt w K mg where
  g_is_number := He.glo_ok X G (c.a.fact 0 (f := .glo "is_number") rfl)
  g_is_word := He.glo_ok X G (c.a.fact 1 (f := .glo "is_word") rfl)
  g_is_door := He.glo_ok X G (c.a.fact 2 (f := .glo "is_door") rfl)
  g_are_doors := He.glo_ok X G (c.a.fact 3 (f := .glo "are_doors") rfl)
  g_are_crates := He.glo_ok X G (c.a.fact 4 (f := .glo "are_crates") rfl)
  g_is_layout := He.glo_ok X G (c.a.fact 5 (f := .glo "is_layout") rfl)
  g_check_layout := He.glo_ok X G (c.a.fact 6 (f := .glo "check_layout") rfl)
  g_check_crate := He.glo_ok X G (c.a.fact 7 (f := .glo "check_crate") rfl)
  g_seen_behind := He.glo_ok X G (c.a.fact 8 (f := .glo "seen_behind") rfl)
  g_exchanged := He.glo_ok X G (c.a.fact 9 (f := .glo "exchanged") rfl)
  g_is_right := He.glo_ok X G (c.a.fact 10 (f := .glo "is_right") rfl)
  g_is_operation := He.glo_ok X G (c.a.fact 11 (f := .glo "is_operation") rfl)
  g_warmth_of := He.glo_ok X G (c.a.fact 12 (f := .glo "warmth_of") rfl)
  g_law_taken := He.glo_ok X G (c.a.fact 13 (f := .glo "_law_taken") rfl)
  g_law_pick := He.glo_ok X G (c.a.fact 14 (f := .glo "_law_pick") rfl)
  g_law_scheme := He.glo_ok X G (c.a.fact 15 (f := .glo "_law_scheme") rfl)
  g_law_store := He.glo_ok X G (c.a.fact 16 (f := .glo "_law_store") rfl)
  g_law_edges := He.glo_ok X G (c.a.fact 17 (f := .glo "_law_edges") rfl)
  g_law_layouts := He.glo_ok X G (c.a.fact 18 (f := .glo "_law_layouts") rfl)
  g_law_seen := He.glo_ok X G (c.a.fact 19 (f := .glo "_law_seen") rfl)
  g_law_turned := He.glo_ok X G (c.a.fact 20 (f := .glo "_law_turned") rfl)
  g_law_both := He.glo_ok X G (c.a.fact 21 (f := .glo "_law_both") rfl)
  g_law_step := He.glo_ok X G (c.a.fact 22 (f := .glo "_law_step") rfl)
  g_law_shows := He.glo_ok X G (c.a.fact 23 (f := .glo "_law_shows") rfl)
  g_law := He.glo_ok X G (c.a.fact 24 (f := .glo "law") rfl)
  g_Store := He.glo_ok X G (c.a.fact 25 (f := .glo "Store") rfl)
  g_State := He.glo_ok X G (c.a.fact 26 (f := .glo "State") rfl)
  g_Live := He.glo_ok X G (c.a.fact 27 (f := .glo "Live") rfl)
  g_Trial := He.glo_ok X G (c.a.fact 28 (f := .glo "Trial") rfl)
  g_SIZES := He.glo_ok X G (c.a.fact 29 (f := .glo "SIZES") rfl)
  b_isinstance := He.free_ok X G (c.a.fact 30 (f := .free "isinstance") rfl)
  b_int := He.free_ok X G (c.a.fact 31 (f := .free "int") rfl)
  b_bool := He.free_ok X G (c.a.fact 32 (f := .free "bool") rfl)
  b_str := He.free_ok X G (c.a.fact 33 (f := .free "str") rfl)
  b_tuple := He.free_ok X G (c.a.fact 34 (f := .free "tuple") rfl)
  b_list := He.free_ok X G (c.a.fact 35 (f := .free "list") rfl)
  b_len := He.free_ok X G (c.a.fact 36 (f := .free "len") rfl)
  b_all := He.free_ok X G (c.a.fact 37 (f := .free "all") rfl)
  b_sum := He.free_ok X G (c.a.fact 38 (f := .free "sum") rfl)
  b_min := He.free_ok X G (c.a.fact 39 (f := .free "min") rfl)
  b_sorted := He.free_ok X G (c.a.fact 40 (f := .free "sorted") rfl)
  b_set := He.free_ok X G (c.a.fact 41 (f := .free "set") rfl)
  b_enumerate := He.free_ok X G (c.a.fact 42 (f := .free "enumerate") rfl)
  b_zip := He.free_ok X G (c.a.fact 43 (f := .free "zip") rfl)
  b_range := He.free_ok X G (c.a.fact 44 (f := .free "range") rfl)
  b_dict := He.free_ok X G (c.a.fact 45 (f := .free "dict") rfl)
  i_MAX_LETTERS := He.int_ok X G (c.a.fact 46 (f := .int "MAX_LETTERS" 8) rfl)
  i_MAX_DOORS := He.int_ok X G (c.a.fact 47 (f := .int "MAX_DOORS" 4) rfl)
  i_MAX_WARMTH := He.int_ok X G (c.a.fact 48 (f := .int "MAX_WARMTH" 99) rfl)
  i_MAX_BEHIND := He.int_ok X G (c.a.fact 49 (f := .int "MAX_BEHIND" 4) rfl)
  i_MAX_PLACES := He.int_ok X G (c.a.fact 50 (f := .int "MAX_PLACES" 6) rfl)
  i_MAX_CRATES := He.int_ok X G (c.a.fact 51 (f := .int "MAX_CRATES" 5) rfl)
  i_LETTERS := He.str_ok X G (c.a.fact 52 (f := .str "LETTERS" "abcdefghijklmnopqrstuvwxyz") rfl)
  c_Live := He.cls_ok (c.a.fact 53 (f := .cls "Live") rfl)
  c_Trial := He.cls_ok (c.a.fact 54 (f := .cls "Trial") rfl)
  n_Live_base := He.noat_ok (c.a.fact 55 (f := .noat "Live" "base") rfl)
  n_Live_held := He.noat_ok (c.a.fact 56 (f := .noat "Live" "held") rfl)
  n_Trial_tested_store := He.noat_ok (c.a.fact 57 (f := .noat "Trial" "tested_store") rfl)
  n_Trial_origin := He.noat_ok (c.a.fact 58 (f := .noat "Trial" "origin") rfl)
  n_Trial_fresh := He.noat_ok (c.a.fact 59 (f := .noat "Trial" "fresh") rfl)
  n_Trial_chosen := He.noat_ok (c.a.fact 60 (f := .noat "Trial" "chosen") rfl)
  m_Store_door_of := He.meth_ok (c.a.fact 61 (f := .meth "Store" "door_of") rfl)
  m_Store_places_of := He.meth_ok (c.a.fact 62 (f := .meth "Store" "places_of") rfl)
  m_State_copied := He.meth_ok (c.a.fact 63 (f := .meth "State" "copied") rfl)
  m_State_go_on := He.meth_ok (c.a.fact 64 (f := .meth "State" "go_on") rfl)
  m_State_go_back := He.meth_ok (c.a.fact 65 (f := .meth "State" "go_back") rfl)
  m_State_go_again := He.meth_ok (c.a.fact 66 (f := .meth "State" "go_again") rfl)
  m_Live_enter := He.meth_ok (c.a.fact 67 (f := .meth "Live" "enter") rfl)
  m_Live_look := He.meth_ok (c.a.fact 68 (f := .meth "Live" "look") rfl)
  m_Live_put := He.meth_ok (c.a.fact 69 (f := .meth "Live" "put") rfl)
  m_Live_exchange := He.meth_ok (c.a.fact 70 (f := .meth "Live" "exchange") rfl)
  m_Live_shut := He.meth_ok (c.a.fact 71 (f := .meth "Live" "shut") rfl)
  m_Live_keep_as := He.meth_ok (c.a.fact 72 (f := .meth "Live" "keep_as") rfl)
  m_Live_fetch := He.meth_ok (c.a.fact 73 (f := .meth "Live" "fetch") rfl)
  m_Live_undo := He.meth_ok (c.a.fact 74 (f := .meth "Live" "undo") rfl)
  m_Live_redo := He.meth_ok (c.a.fact 75 (f := .meth "Live" "redo") rfl)
  m_Live_execute := He.meth_ok (c.a.fact 76 (f := .meth "Live" "execute") rfl)
  m_Live_apply_all := He.meth_ok (c.a.fact 77 (f := .meth "Live" "apply_all") rfl)
  m_Trial_hold := He.meth_ok (c.a.fact 78 (f := .meth "Trial" "hold") rfl)
  m_Trial_enter := He.meth_ok (c.a.fact 79 (f := .meth "Trial" "__enter__") rfl)
  m_Trial_exit := He.meth_ok (c.a.fact 80 (f := .meth "Trial" "__exit__") rfl)
  mk_Store := He.mkr_ok (c.a.fact 81 (f := .mkr "Store") rfl)
  mk_State := He.mkr_ok (c.a.fact 82 (f := .mkr "State") rfl)
  mk_Live := He.mkr_ok (c.a.fact 83 (f := .mkr "Live") rfl)
  mk_Trial := He.mkr_ok (c.a.fact 84 (f := .mkr "Trial") rfl)
  sc_Store := scls_ok (c.ex 0 rfl)
  sc_State := scls_ok (c.ex 1 rfl)
  sl_Store_edges := slot_ok (c.ex 2 rfl) (by decide)
  sl_Store_parts := slot_ok (c.ex 3 rfl) (by decide)
  sl_State_facts := slot_ok (c.ex 4 rfl) (by decide)
  sl_State_past := slot_ok (c.ex 5 rfl) (by decide)
  sl_State_shelf := slot_ok (c.ex 6 rfl) (by decide)
  sl_State_undone := slot_ok (c.ex 7 rfl) (by decide)
  p_Store_doors := prop_ok (c.ex 8 rfl)
  p_Store_crates := prop_ok (c.ex 9 rfl)
  p_Store_size := prop_ok (c.ex 10 rfl)
  p_Live_layout_now := prop_ok (c.ex 11 rfl)
  p_Live_warmth_now := prop_ok (c.ex 12 rfl)
  p_Live_day_warmths := prop_ok (c.ex 13 rfl)
  p_Live_kept_under := prop_ok (c.ex 14 rfl)
  p_Live_history := prop_ok (c.ex 15 rfl)
  cr_Live := ⟨c.ex 16 rfl, He.eqO_ok (c.ex 17 rfl)⟩
  cm_replay := He5.cmet_of (c.ex 18 rfl) (c.ex 19 rfl)
  sizes := c.ex 20 rfl
  kd := He.dicW_ok c.d
  f_is_number := let ⟨fd, F⟩ := c.a.def_ 0 (d := d_is_number) rfl; ⟨fd, He5.fun_of F⟩
  f_is_word := let ⟨fd, F⟩ := c.a.def_ 1 (d := d_is_word) rfl; ⟨fd, He5.fun_of F⟩
  f_is_door := let ⟨fd, F⟩ := c.a.def_ 2 (d := d_is_door) rfl; ⟨fd, He5.fun_of F⟩
  f_are_doors := let ⟨fd, F⟩ := c.a.def_ 3 (d := d_are_doors) rfl; ⟨fd, He5.fun_of F⟩
  f_are_crates := let ⟨fd, F⟩ := c.a.def_ 4 (d := d_are_crates) rfl; ⟨fd, He5.fun_of F⟩
  f_Store_init := let ⟨fd, F⟩ := c.a.def_ 5 (d := d_Store_init) rfl; ⟨fd, He5.fun_of F⟩
  f_Store_doors := let ⟨fd, F⟩ := c.a.def_ 6 (d := d_Store_doors) rfl; ⟨fd, He5.fun_of F⟩
  f_Store_crates := let ⟨fd, F⟩ := c.a.def_ 7 (d := d_Store_crates) rfl; ⟨fd, He5.fun_of F⟩
  f_Store_size := let ⟨fd, F⟩ := c.a.def_ 8 (d := d_Store_size) rfl; ⟨fd, He5.fun_of F⟩
  f_Store_door_of := let ⟨fd, F⟩ := c.a.def_ 9 (d := d_Store_door_of) rfl; ⟨fd, He5.fun_of F⟩
  f_Store_places_of := let ⟨fd, F⟩ := c.a.def_ 10 (d := d_Store_places_of) rfl; ⟨fd, He5.fun_of F⟩
  f_is_layout := let ⟨fd, F⟩ := c.a.def_ 11 (d := d_is_layout) rfl; ⟨fd, He5.fun_of F⟩
  f_check_layout := let ⟨fd, F⟩ := c.a.def_ 12 (d := d_check_layout) rfl; ⟨fd, He5.fun_of F⟩
  f_check_crate := let ⟨fd, F⟩ := c.a.def_ 13 (d := d_check_crate) rfl; ⟨fd, He5.fun_of F⟩
  f_seen_behind := let ⟨fd, F⟩ := c.a.def_ 14 (d := d_seen_behind) rfl; ⟨fd, He5.fun_of F⟩
  f_exchanged := let ⟨fd, F⟩ := c.a.def_ 15 (d := d_exchanged) rfl; ⟨fd, He5.fun_of F⟩
  f_is_right := let ⟨fd, F⟩ := c.a.def_ 16 (d := d_is_right) rfl; ⟨fd, He5.fun_of F⟩
  f_is_operation := let ⟨fd, F⟩ := c.a.def_ 17 (d := d_is_operation) rfl; ⟨fd, He5.fun_of F⟩
  f_warmth_of := let ⟨fd, F⟩ := c.a.def_ 18 (d := d_warmth_of) rfl; ⟨fd, He5.fun_of F⟩
  f_State_init := let ⟨fd, F⟩ := c.a.def_ 19 (d := d_State_init) rfl; ⟨fd, He5.fun_of F⟩
  f_State_copied := let ⟨fd, F⟩ := c.a.def_ 20 (d := d_State_copied) rfl; ⟨fd, He5.fun_of F⟩
  f_State_go_on := let ⟨fd, F⟩ := c.a.def_ 21 (d := d_State_go_on) rfl; ⟨fd, He5.fun_of F⟩
  f_State_go_back := let ⟨fd, F⟩ := c.a.def_ 22 (d := d_State_go_back) rfl; ⟨fd, He5.fun_of F⟩
  f_State_go_again := let ⟨fd, F⟩ := c.a.def_ 23 (d := d_State_go_again) rfl; ⟨fd, He5.fun_of F⟩
  f_Live_init := let ⟨fd, F⟩ := c.a.def_ 24 (d := d_Live_init) rfl; ⟨fd, He5.fun_of F⟩
  f_Live_replay := let ⟨fd, F⟩ := c.a.def_ 25 (d := d_Live_replay) rfl; ⟨fd, He5.fun_of F⟩
  f_Live_layout_now := let ⟨fd, F⟩ := c.a.def_ 26 (d := d_Live_layout_now) rfl; ⟨fd, He5.fun_of F⟩
  f_Live_warmth_now := let ⟨fd, F⟩ := c.a.def_ 27 (d := d_Live_warmth_now) rfl; ⟨fd, He5.fun_of F⟩
  f_Live_day_warmths := let ⟨fd, F⟩ := c.a.def_ 28 (d := d_Live_day_warmths) rfl; ⟨fd, He5.fun_of F⟩
  f_Live_kept_under := let ⟨fd, F⟩ := c.a.def_ 29 (d := d_Live_kept_under) rfl; ⟨fd, He5.fun_of F⟩
  f_Live_history := let ⟨fd, F⟩ := c.a.def_ 30 (d := d_Live_history) rfl; ⟨fd, He5.fun_of F⟩
  f_Live_enter := let ⟨fd, F⟩ := c.a.def_ 31 (d := d_Live_enter) rfl; ⟨fd, He5.fun_of F⟩
  f_Live_look := let ⟨fd, F⟩ := c.a.def_ 32 (d := d_Live_look) rfl; ⟨fd, He5.fun_of F⟩
  f_Live_put := let ⟨fd, F⟩ := c.a.def_ 33 (d := d_Live_put) rfl; ⟨fd, He5.fun_of F⟩
  f_Live_exchange := let ⟨fd, F⟩ := c.a.def_ 34 (d := d_Live_exchange) rfl; ⟨fd, He5.fun_of F⟩
  f_Live_shut := let ⟨fd, F⟩ := c.a.def_ 35 (d := d_Live_shut) rfl; ⟨fd, He5.fun_of F⟩
  f_Live_keep_as := let ⟨fd, F⟩ := c.a.def_ 36 (d := d_Live_keep_as) rfl; ⟨fd, He5.fun_of F⟩
  f_Live_fetch := let ⟨fd, F⟩ := c.a.def_ 37 (d := d_Live_fetch) rfl; ⟨fd, He5.fun_of F⟩
  f_Live_undo := let ⟨fd, F⟩ := c.a.def_ 38 (d := d_Live_undo) rfl; ⟨fd, He5.fun_of F⟩
  f_Live_redo := let ⟨fd, F⟩ := c.a.def_ 39 (d := d_Live_redo) rfl; ⟨fd, He5.fun_of F⟩
  f_Live_execute := let ⟨fd, F⟩ := c.a.def_ 40 (d := d_Live_execute) rfl; ⟨fd, He5.fun_of F⟩
  f_Live_apply_all := let ⟨fd, F⟩ := c.a.def_ 41 (d := d_Live_apply_all) rfl; ⟨fd, He5.fun_of F⟩
  f_Trial_init := let ⟨fd, F⟩ := c.a.def_ 42 (d := d_Trial_init) rfl; ⟨fd, He5.fun_of F⟩
  f_Trial_hold := let ⟨fd, F⟩ := c.a.def_ 43 (d := d_Trial_hold) rfl; ⟨fd, He5.fun_of F⟩
  f_Trial_enter := let ⟨fd, F⟩ := c.a.def_ 44 (d := d_Trial_enter) rfl; ⟨fd, He5.fun_of F⟩
  f_Trial_exit := let ⟨fd, F⟩ := c.a.def_ 45 (d := d_Trial_exit) rfl; ⟨fd, He5.fun_of F⟩
  f_law_taken := let ⟨fd, F⟩ := c.a.def_ 46 (d := d_law_taken) rfl; ⟨fd, He5.fun_of F⟩
  f_law_pick := let ⟨fd, F⟩ := c.a.def_ 47 (d := d_law_pick) rfl; ⟨fd, He5.fun_of F⟩
  f_law_scheme := let ⟨fd, F⟩ := c.a.def_ 48 (d := d_law_scheme) rfl; ⟨fd, He5.fun_of F⟩
  f_law_store := let ⟨fd, F⟩ := c.a.def_ 49 (d := d_law_store) rfl; ⟨fd, He5.fun_of F⟩
  f_law_edges := let ⟨fd, F⟩ := c.a.def_ 50 (d := d_law_edges) rfl; ⟨fd, He5.fun_of F⟩
  f_law_layouts := let ⟨fd, F⟩ := c.a.def_ 51 (d := d_law_layouts) rfl; ⟨fd, He5.fun_of F⟩
  f_law_seen := let ⟨fd, F⟩ := c.a.def_ 52 (d := d_law_seen) rfl; ⟨fd, He5.fun_of F⟩
  f_law_turned := let ⟨fd, F⟩ := c.a.def_ 53 (d := d_law_turned) rfl; ⟨fd, He5.fun_of F⟩
  f_law_both := let ⟨fd, F⟩ := c.a.def_ 54 (d := d_law_both) rfl; ⟨fd, He5.fun_of F⟩
  f_law_step := let ⟨fd, F⟩ := c.a.def_ 55 (d := d_law_step) rfl; ⟨fd, He5.fun_of F⟩
  f_law_shows := let ⟨fd, F⟩ := c.a.def_ 56 (d := d_law_shows) rfl; ⟨fd, He5.fun_of F⟩
  f_law := let ⟨fd, F⟩ := c.a.def_ 57 (d := d_law) rfl; ⟨fd, He5.fun_of F⟩
end Ck
set_option Elab.async false
set_option linter.all false
set_option maxRecDepth 100000
set_option maxHeartbeats 4000000
namespace Ck
open PySem PySem.Spec PyProof.Rows L2
/-! with C(..) as y: an own class, whose body raises nothing -/
def wEnds (D : Ends) (spX : Sp) (E : XK) (a : Addr) : Ends where
  nx := fun σ' H' => spX [.ref a, .non, .non, .non] H' (fun _ H'' => D.nx σ' H'') E
  rt := fun v H' => spX [.ref a, .non, .non, .non] H' (fun _ H'' => D.rt v H'') E
  bk := fun σ' H' => spX [.ref a, .non, .non, .non] H' (fun _ H'' => D.bk σ' H'') E
  ct := fun σ' H' => spX [.ref a, .non, .non, .non] H' (fun _ H'' => D.ct σ' H'') E
def tWith (C : Addr) (spE spX : Sp) (E : XK) (i : Nat) (te : TE) (tb : TS) : TS := fun D σ H => te σ H fun x H1 => ∃ a dx fs, x = .ref a ∧ H1 a = some (.ins C dx fs) ∧
  spE [.ref a] H1 (fun v H2 => tb (wEnds D spX E a) (σ.set i (some v)) H2) E
section
variable {X : Cx} {CX : CXT} {k i : Nat} {C fe fx : Addr} {spE spX : Sp} {E : XK} {ctx : Expr} {y : Str} {py pos : Pos} {body : List Stmt} {te : TE} {tb : TS}
theorem ps_with (hN : X.N.Nodup) (hi : X.N[i]? = some y) (hy : Loc X.env.scope y) (hf : X.fn y = true ∨ X.env.scope.names.lookup y = some .local) (hxe : X.xe = fun _ _ => False) (hcx : PE X ctx te)
    (me : Meth X.K C "__enter__" fe) (mx : Meth X.K C "__exit__" fx) (FE : FnR X.prog X.w X.K X.mg X.base CX k fe spE) (FX : FnR X.prog X.w X.K X.mg X.base CX k fx spX) (hr : Room k X.A) (hx : Passes CX X E) (hb : PSs X body tb) :
    PS X (.With [⟨ctx, some (.Name y py)⟩] body pos) (tWith C spE spX E i te tb) := by
  refine ⟨fun pins s σ H D I h => ?_⟩
  refine PySem.W.kw_execN (thn (hcx.run pins s σ H _ I h) fun u s1 ⟨x, H1, I1, rx, a, dx, fs, ex, ha, q⟩ => ?_)
  subst ex
  obtain rfl : u = Value.ref a := rx
  obtain ⟨mA, O, _, _, _, _⟩ := ins_get I1.hok ha
  obtain ⟨od, J, _⟩ := O.look
  obtain ⟨m, F⟩ := I1.fr
  have key : ∀ {t : Sem Flow} {s4 : Shared}, wpAny (model X.prog X.w) X.A t (SP X pins (wEnds D spX E a)) X.xe s4 → wpAny (model X.prog X.w) X.A t (PySem.W.KwOut X.prog X.w X.A X.xe a fx (SP X pins D)) (fun _ _ => False) s4 := fun {t s4} hh => by
    refine wpAny_mono hh (fun f s5 q5 => ?_) (fun e s5 z => by rw [hxe] at z; exact z)
    show wpAny _ _ (call (.ref fx) [.ref a, .none, .none, .none]) _ _ _
    have go : ∀ {σ' : L2.St} {H' : Hp} {Qx : Hp → Prop}, Inv X pins σ' H' s5 → spX [.ref a, .non, .non, .non] H' (fun _ H'' => Qx H'') E →
        wpAny (model X.prog X.w) X.A (call (.ref fx) [.ref a, .none, .none, .none]) (EP X pins σ' (fun _ H'' => Qx H'')) X.xe s5 := fun {σ' H' Qx} I5 z =>
      wpAny_call (run_fnR (us := [.ref a, .none, .none, .none]) (vs := [.ref a, .non, .non, .non]) FX hr hx I5 (.cons rfl (.cons rfl (.cons rfl (.cons rfl .nil)))) z)
    cases f with
    | next =>
      obtain ⟨σ', H', I5, z⟩ := q5
      exact thn (go I5 z) fun _ s6 ⟨_, H6, I6, _, z6⟩ => ⟨σ', H6, I6, z6⟩
    | brk =>
      obtain ⟨σ', H', I5, z⟩ := q5
      exact thn (go I5 z) fun _ s6 ⟨_, H6, I6, _, z6⟩ => ⟨σ', H6, I6, z6⟩
    | cont =>
      obtain ⟨σ', H', I5, z⟩ := q5
      exact thn (go I5 z) fun _ s6 ⟨_, H6, I6, _, z6⟩ => ⟨σ', H6, I6, z6⟩
    | ret u =>
      obtain ⟨v, σ', H', I5, rv, z⟩ := q5
      exact thn (go I5 z) fun _ s6 ⟨_, H6, I6, _, z6⟩ => ⟨v, σ', H6, I6, rv, z6⟩
  refine PySem.W.kw_inN F I1.ok.mod.kin J me.at_ me.fn mx.at_ mx.fn ?_
  refine thn (wpAny_call (run_fnR (us := [.ref a]) (vs := [.ref a]) FE hr hx I1 (.cons rfl .nil) q)) fun v s2 ⟨w, H2, I2, rw2, q2⟩ => ?_
  refine store_ok I2 hN hi hy rw2 (fun s3 I3 => ?_) hf
  exact key (hb.run pins s3 _ H2 _ I3 q2)
end
end Ck
set_option Elab.async false
set_option linter.all false
set_option maxRecDepth 100000
set_option maxHeartbeats 4000000
namespace Ck
open PySem PySem.Spec PyProof.Rows L2
section
variable {prog : Program} {w : World} {K : Type} [DecidableEq K]
theorem meets_dict_or (knd : KeyKind prog w K) (d o : Addr) (hdS : (d == sysModules) = false) (hoS : (o == sysModules) = false) :
    MeetsIn prog w (Builtin.«dict.__or__» ⟨[.ref d, .ref o], []⟩) (fun _ R s => ∃ kvs more, s.heap.DictOf knd d kvs ∧ s.heap.DictOf knd o more ∧ kvs.length + more.length ≤ sizeLine ∧ o ≠ s.heap.objs.size ∧
      ∀ h', h'.DictOf knd s.heap.objs.size (merged kvs more) → (∀ b u, s.heap.get? b = some u → h'.get? b = some u) → R (.ok (.ret (.ref s.heap.objs.size))) { s with heap := h' }) :=
  .of_wp fun A R s ⟨kvs, more, hm, ho, hsz, hne0, h⟩ => by
    obtain ⟨od, es, ep, hod, hc, hdat, hk, hp, hn⟩ := id hm
    have hes : es.size ≤ sizeLine + 1 := by have e1 := hp.length; have e2 : es.toList.length = es.size := by simp
                                            omega
    unfold Builtin.«dict.__or__»
    refine wpAny_bind ?_
    unfold Builtin.Dict.dictSlotArgs
    refine wpAny_bind (wpAny_notOrdered_dict hm.typeIs ?_)
    refine wpAny_bind (wpAny_pure ?_)
    refine wpAny_pure ?_
    dsimp only
    refine wpAny_bind (wpAny_bind ?_)
    refine wpAny_isInstance hm.typeIs isSubtype_dict_dict ?_
    refine wpAny_isInstance ho.typeIs isSubtype_dict_dict ?_
    simp only [Bool.not_true, Bool.false_eq_true, if_false]
    have fin : ∀ es' : Array DictEntry, es' = es → wpAny (model prog w) A.in1 (do
        let __do_lift ← Builtin.Dict.addrOf (Value.ref s.heap.objs.size)
        holding [Value.ref s.heap.objs.size] (Builtin.Dict.updateFrom "dict.__or__" __do_lift (Value.ref o) [] (Value.ref s.heap.objs.size)))
        (fun fin s' => ∃ v, fin = .done (.ret v) ∧ R (.ok (.ret v)) s') (fun e s' => R (.error e) s') { s with heap := s.heap.push { cls := .type "dict", data := .dict es' } } := by
      rintro es' rfl
      have hd1 : (s.heap.push { cls := .type "dict", data := .dict es' }).DictOf knd s.heap.objs.size kvs := ⟨_, es', 0, Heap.get?_push_size _ rfl, ⟨rfl, rfl, rfl⟩, rfl, hk, hp, hn⟩
      have ho1 : (s.heap.push { cls := .type "dict", data := .dict es' }).DictOf knd o more := ho.push _
      refine wpAny_bind (wpAny_pure ?_)
      refine wpAny_holding ?_
      unfold Builtin.Dict.updateFrom
      refine wpAny_bind (wpAny_typeOf ho1.typeIs ?_)
      rw [if_neg (by decide)]
      refine wpAny_bind ?_
      unfold Builtin.Dict.merge
      refine wpAny_bind ?_
      unfold Builtin.Dict.readDirectly
      refine wpAny_bind (wpAny_isInstance ho1.typeIs isSubtype_dict_dict ?_)
      simp only [Bool.not_true, Bool.false_eq_true, if_false]
      refine wpAny_bind (wpAny_specialOf ho1.typeIs F.slot_dict_iter.lookup (wpAny_pure ?_))
      simp only [beq_self_eq_true, if_true]
      refine wpAny_bind (wpAny_pure ?_)
      refine wpAny_mergeDict (hsz := hsz) (Ne.symm hne0) hoS hd1 ho1 fun h' hd' ho' hs' => ?_
      refine wpAny_bind (wpAny_pure (wpAny_pure ⟨_, rfl, h h' hd' fun b u e => ?_⟩))
      exact (hs'.2 b (Nat.ne_of_lt (Heap.lt_size e))).trans (Heap.get?_push_of_some _ e)
    refine wpAny_bind ?_
    unfold Builtin.Dict.copyOf
    refine wpAny_bind (wpAny_pure ?_)
    unfold Builtin.Dict.showsAll
    rw [if_neg (by rw [hdS]; exact Bool.false_ne_true)]
    refine wpAny_bind (wpAny_pure ?_)
    refine wpAny_bind (wpAny_dictEntries hod hdat ?_)
    by_cases hemp : es.isEmpty = true
    · rw [if_pos hemp]
      refine wpAny_bind (wpAny_rule (wpAny_newObj_type ?_))
      exact fin #[] (Array.isEmpty_iff.mp hemp).symm
    · rw [if_neg hemp]
      refine wpAny_bind ?_
      · unfold Builtin.Dict.readDirectly
        refine wpAny_bind (wpAny_isInstance hm.typeIs isSubtype_dict_dict ?_)
        simp only [Bool.not_true, Bool.false_eq_true, if_false]
        refine wpAny_bind (wpAny_specialOf hm.typeIs F.slot_dict_iter.lookup (wpAny_pure ?_))
        simp only [beq_self_eq_true, if_true]
        refine wpAny_bind (wpAny_entriesForEmpty (knd := knd) hod hdat hk (wpAny_newObj_type ?_ hes))
        exact fin es rfl
end
/-- d | e -/
theorem merged_rel : ∀ {more : List (Key × V)} {kvs : List (Key × V)} {vs ws : List (Key × Value)}, KV kvs vs → KV more ws → KV (mergeK kvs more) (merged vs ws)
  | [], _, _, _, r, .nil => r
  | m :: more, kvs, vs, w :: ws, r, .cons p t => by
    have e : KV (putK kvs m.1 m.2) (stored vs w.1 w.2) := by
      have z := KV.put r m.1 p.2
      rw [← p.1]
      exact z
    exact merged_rel (more := more) (kvs := putK kvs m.1 m.2) (vs := stored vs w.1 w.2) (ws := ws) e t
theorem op_dictOr {X : Cx} (hu : X.A.units < cLine) : OpR X (binaryOp .BitOr) (fun x y H Q => ∃ a b kvs more, x = .ref a ∧ y = .ref b ∧ Rd H a (.dK kvs) ∧ Rd H b (.dK more) ∧ kvs.length + more.length ≤ 1000 ∧ ∀ p, H p = none → Q (.ref p) (upd H p (.dK (mergeK kvs more)))) := by
  intro pins s σ H x y v u Q I rx ry h
  obtain ⟨a, b, kvs, more, rfl, rfl, ha, hb, hl, q⟩ := h
  cases rx
  cases ry
  obtain ⟨z, lo, vs, rel, dd⟩ := dk_rd I.hok ha
  obtain ⟨z2, lo2, vs2, rel2, dd2⟩ := dk_rd I.hok hb
  have l1 := Paired.length rel
  have l2 := Paired.length rel2
  have hbn : b ≠ s.heap.objs.size := by
    obtain ⟨o, _, _, e, _⟩ := dd2
    exact Nat.ne_of_lt (Heap.lt_size e)
  have hszL : vs.length + vs2.length ≤ sizeLine := by
    rw [← l1, ← l2]
    exact Nat.le_trans hl (by decide)
  refine wpAny_binaryOp_same dd.typeIs dd2.typeIs PySem.F.fills_dict_or PySem.F.slot_dict_or (call_meetsIn PySem.F.slot_dict_or dd.typeIs PySem.F.entry_dict_or (PySem.F.args_dict_or_2 _ _) (meets_dict_or _ a b lo lo2) ⟨vs, vs2, dd, dd2, hszL, hbn, fun h' d' keep => ?_⟩)
  refine ⟨(fun z => nomatch z), ?_⟩
  have hm : (s.heap.objs.size == sysModules) = false := beq_eq_false_iff_ne.mpr (Nat.ne_of_gt I.big)
  have rm := merged_rel rel rel2
  refine ⟨.ref s.heap.objs.size, upd H s.heap.objs.size (.dK (mergeK kvs more)), I.laid (t' := s.toks) keep (Nat.le_refl _) (show ObjOk X.prog X.w _ _ _ (.dK (mergeK kvs more)) from ⟨?_, hm, _, rm, d'⟩), rfl, q _ (I.hok.fresh (Nat.le_refl _))⟩
  have e1 := Paired.length rm
  have e2 := merged_length_le vs vs2
  rw [e1]
  exact Nat.le_trans e2 hszL
end Ck
set_option Elab.async false
set_option linter.all false
set_option maxRecDepth 100000
set_option maxHeartbeats 4000000
namespace Ck
open PySem PySem.Spec PyProof.Rows L2
section
variable {X : Cx}
/-- t == () -/
theorem op_eqT0 (hu : X.A.units < cLine) : OpR X (compareOp .Eq) (fun x y H Q => ∃ a b xs, x = .ref a ∧ y = .ref b ∧ SqT X.K H a xs ∧ SqT X.K H b [] ∧ Q (.bl xs.isEmpty) H) := by
  intro pins s σ H x y v u Q I rx ry h
  obtain ⟨a, b, xs, rfl, rfl, ha, hb, q⟩ := h
  cases rx
  cases ry
  obtain ⟨its, rv, ht, _⟩ := I.tuple ha
  obtain ⟨its2, rv2, ht2, _⟩ := I.tuple hb
  cases rv2
  have hl := rv.length
  refine SeqAt.eq_tupleAt (e := fun _ => true) ht ht2 hu (fun j h1 h2 => absurd h2 (by simp)) ⟨.bl xs.isEmpty, H, I, ?_, q⟩
  show Value.bool _ = Value.bool xs.isEmpty
  congr 1
  cases xs with
  | nil =>
    cases rv
    rfl
  | cons x xs =>
    cases rv
    simp
/-- l != [] -/
theorem op_neL0 (hu : X.A.units < cLine) : OpR X (compareOp .NotEq) (fun x y H Q => ∃ a b xs, x = .ref a ∧ y = .ref b ∧ SqL X.K H a xs ∧ SqL X.K H b [] ∧ Q (.bl (!xs.isEmpty)) H) := by
  intro pins s σ H x y v u Q I rx ry h
  obtain ⟨a, b, xs, rfl, rfl, ha, hb, q⟩ := h
  cases rx
  cases ry
  obtain ⟨its, rv, ht, _⟩ := I.list ha
  obtain ⟨its2, rv2, ht2, _⟩ := I.list hb
  cases rv2
  cases xs with
  | nil =>
    cases rv
    exact SeqAt.RcNeAt.lists (e := fun _ => true) ht.isList ht2.isList rfl hu (fun j h1 h2 => absurd h2 (by simp)) _ _ _ _ ⟨.bl false, H, I, rfl, q⟩
  | cons x xs =>
    cases rv
    exact SeqAt.RcNeAt.lists_lengths ht.isList ht2.isList (by simp) hu _ _ _ _ ⟨.bl true, H, I, rfl, q⟩
/-- t.index(x), t of texts and None -/
theorem mt_tupIndex : MtR X "tuple.index" (fun x xs H Q => ∃ (p : Addr) (ys : List V) (z : Str) (j : Nat), x = .ref p ∧ xs = [.str z] ∧ SqT X.K H p ys ∧ ys.all flatV = true ∧ ys[j]? = some (.str z) ∧ (∀ m, m < j → ys[m]? ≠ some (.str z)) ∧ Q (.int (j : Nat)) H) := by
  intro pins s σ H x xs v us Q I rx rs h
  obtain ⟨p, ys, z, j, rfl, rfl, hq, hf, hy, hno, q⟩ := h
  cases rx
  obtain ⟨u, rfl, t, rfl⟩ := vals1 rs
  obtain ⟨its, r, pl, hz⟩ := I.tuple hq
  obtain ⟨⟨cls, dd, dt, sl⟩, ho, hc, n, hd⟩ := pl
  simp only at hc hd
  subst hc
  subst hd
  have hl : its.toArray.size = ys.length := by rw [List.size_toArray, ← r.length]
  have hj : j < its.toArray.size := by rw [hl]; exact (List.getElem?_eq_some_iff.mp hy).1
  have at' : ∀ (m : Nat) (hm : m < its.toArray.size), ∃ y, ys[m]? = some y ∧ RelV y its.toArray[m] := fun m hm => by
    have hm' : m < ys.length := by rw [← hl]; exact hm
    obtain ⟨w, hw, hr⟩ := r.get (i := m) (x := ys[m]) (by simp [hm'])
    refine ⟨ys[m], List.getElem?_eq_getElem hm', ?_⟩
    have e := (List.getElem?_eq_some_iff.mp hw).2
    have e2 : its.toArray[m] = w := by rw [← e]; simp
    rw [e2]
    exact hr
  refine call_meets PySem.F.slot_tuple_index ⟨_, ho, rfl⟩ PySem.F.entry_tuple_index (PySem.F.args_tuple_index_2 _ _) (TI.tuple_indexAt p its.toArray n dd sl (.str z t) (eqU (.str z)) j hj ?_ ?_)
    ⟨ho, fun w hw => mem_eqAt (x := .str z) ⟨t, rfl⟩ rfl r hf w (by simpa using hw), ⟨.int (j : Nat), H, I.tok _, ⟨_, rfl⟩, q⟩⟩
  · obtain ⟨y, h1, h2⟩ := at' j hj
    rw [hy] at h1
    cases h1
    obtain ⟨t', e⟩ := h2
    rw [e]
    show (z == z) = true
    exact beq_self_eq_true z
  · intro m hm hmj
    obtain ⟨y, h1, h2⟩ := at' m hm
    have hne : y ≠ .str z := fun e => hno m hmj (by rw [h1, e])
    have hfy : flatV y = true := List.all_eq_true.mp hf y (List.mem_of_getElem? h1)
    cases y with
    | str y' =>
      obtain ⟨t', e⟩ := h2
      rw [e]
      show (y' == z) = false
      exact beq_eq_false_iff_ne.mpr fun e => hne (by rw [e])
    | non =>
      rw [show its.toArray[m] = Value.none from h2]
      rfl
    | bl b =>
      rw [show its.toArray[m] = Value.bool b from h2]
      rfl
    | int i =>
      obtain ⟨t', e⟩ := h2
      rw [e]
      rfl
    | _ => cases hfy
/-- t.count(None), t of texts and None -/
theorem mt_tupCountN : MtR X "tuple.count" (fun x xs H Q => ∃ (p : Addr) (ys : List V), x = .ref p ∧ xs = [.non] ∧ SqT X.K H p ys ∧ (∀ y ∈ ys, y = .non ∨ ∃ z, y = .str z) ∧ Q (.int ((ys.count .non : Nat) : Int)) H) := by
  intro pins s σ H x xs v us Q I rx rs h
  obtain ⟨p, ys, rfl, rfl, hq, hf, q⟩ := h
  cases rx
  obtain ⟨u, rfl, e0⟩ := vals1 rs
  cases (show u = Value.none from e0)
  obtain ⟨its, r, pl, hz⟩ := I.tuple hq
  obtain ⟨⟨cls, dd, dt, sl⟩, ho, hc, n, hd⟩ := pl
  simp only at hc hd
  subst hc
  subst hd
  have hall : ys.all flatV = true := List.all_eq_true.mpr fun y hy => by
    rcases hf y hy with e | ⟨z, e⟩ <;> subst e <;> rfl
  have cnt : ∀ {ys : List V} {us : List Value}, Vals ys us → (∀ y ∈ ys, y = .non ∨ ∃ z, y = .str z) → us.countP (eqU .non) = ys.count .non := by
    intro ys us r
    induction r with
    | nil => intro _; rfl
    | cons r t ih =>
      intro hf
      rw [List.countP_cons, List.count_cons, ih fun y hy => hf y (List.mem_cons_of_mem _ hy)]
      congr 1
      rcases hf _ List.mem_cons_self with e | ⟨z, e⟩
      · subst e
        rw [show _ = Value.none from r]
        rfl
      · subst e
        obtain ⟨t, e⟩ := r
        rw [e]
        rfl
  refine call_meets PySem.F.slot_tuple_count ⟨_, ho, rfl⟩ PySem.F.entry_tuple_count (PySem.F.args_tuple_count_2 _ _) (SeqAt.tuple_countAt p its.toArray n dd sl .none (eqU .non))
    ⟨ho, fun w hw => mem_eqAt (x := .non) rfl rfl r hall w (by simpa using hw), ⟨.int ((ys.count .non : Nat) : Int), H, I.tok _, ⟨s.toks, ?_⟩, q⟩⟩

  rw [List.toList_toArray, cnt r hf]
end
end Ck
set_option Elab.async false
set_option linter.all false
set_option maxRecDepth 100000
set_option maxHeartbeats 4000000
namespace Ck
open PySem PySem.Spec PyProof.Rows L2
/-! set([..]) of ints, told so that sorted can read it -/
def emptySet (w : World) : Obj := { cls := .type "set", dict := none, data := .set #[] 0 (.fresh 0 0 (!w.params.followText "set-order")) }
section
variable {P : Program} {w : World} {A : Around} {E : Value → Shared → Prop} {s : Shared}
theorem set_ints_fill {l : Addr} {items : Array Value} (ns : List Int) {hp : Heap} (hh : A.handled = none) (hsz : l < s.heap.objs.size) (e0 : hp = s.heap.push (emptySet w)) (hl : hp.IsList l items) (hit : IntsAre items.toList ns) (hb : ns.length + 1 < scanBound)
    {R : Result → Shared → Prop} (hR : ∀ (h' : Heap) (tk c : Nat), SetR w h' s.heap.objs.size (fun j => decide (j ∈ ns)) c → c ≤ ns.length → (∀ b o, s.heap.get? b = some o → h'.get? b = some o) → R (.ok (.ret .none)) { s with heap := h', toks := tk }) :
    codeAny (model P w) A (.builtin "set.update.loop" ⟨[.ref s.heap.objs.size, .ref hp.objs.size], []⟩) R { s with heap := hp.push { cls := .type "list_iterator", data := .fields #[.ref l, .int 0 0] } } := by
  subst e0
  have len : items.size = ns.length := by
    have q := IntsAre.length hit
    rwa [Array.length_toList] at q
  have h2 : (s.heap.push (emptySet w)).objs.size = s.heap.objs.size + 1 := Heap.size_push ..
  have apart : l ≠ (s.heap.push (emptySet w)).objs.size := by
    rw [h2]
    exact Nat.ne_of_lt (Nat.lt_succ_of_lt hsz)
  have hval : ∀ (i : Nat) (v : Value), items[i]? = some v → ∃ k t, ns[i]? = some k ∧ v = .int k t := fun i v hv => by
    have hi : i < ns.length := by
      rw [← len]
      exact (Array.getElem?_eq_some_iff.mp hv).1
    obtain ⟨t, e⟩ := PyProof.Rows.IntsAre.int_at hit i v (by rw [Array.getElem?_toList]; exact hv)
    exact ⟨ns[i], t, List.getElem?_eq_getElem hi, by rw [e, List.getD_eq_getElem?_getD, List.getElem?_eq_getElem hi] <;> rfl⟩
  have here : (s.heap.push (emptySet w)).get? s.heap.objs.size = some (emptySet w) := Heap.get?_push_size _ rfl
  refine set_update_ints ((Walks.list (A := A.in1) (by simp [hh]) _ l apart items).toS) s.heap.objs.size ?_ ns len hb hval (items.size - 0) 0 _ (by omega) (Nat.zero_le _) ⟨⟨_, Heap.get?_push_size _ rfl, rfl, rfl⟩, hl.push _⟩
    ⟨0, Nat.le_refl 0, setR_new_at (Heap.get?_push_of_some _ here)⟩ fun s' c' hm hc' hS' => ?_
  · rw [h2]
    simp only [List.mem_cons, List.mem_singleton, List.not_mem_nil, or_false, not_or]
    exact ⟨Nat.ne_of_lt (Nat.lt_succ_self _), Nat.ne_of_gt hsz⟩
  · obtain ⟨h', g2, d', tk', os'⟩ := s'
    obtain rfl : g2 = s.gens := hm.gens
    obtain rfl : d' = s.drawn := hm.drawn
    obtain rfl : os' = s.os := hm.os
    rw [len] at hc'
    refine hR h' tk' c' hS' hc' fun b o e => ?_
    have lb := Heap.lt_size e
    refine hm.heap b o ?_ (Heap.get?_push_of_some _ (Heap.get?_push_of_some _ e))
    rw [h2]
    simp only [List.mem_cons, List.mem_singleton, List.not_mem_nil, or_false, not_or]
    exact ⟨Nat.ne_of_lt lb, Nat.ne_of_lt (Nat.lt_succ_of_lt lb)⟩
set_option maxHeartbeats 3200000 in
theorem set_of_list {l : Addr} {items : Array Value} (ns : List Int) {Q : Value → Shared → Prop} (hh : A.handled = none) (hl : s.heap.IsList l items) (hit : IntsAre items.toList ns) (hb : ns.length + 1 < scanBound)
    (h : ∀ (h' : Heap) (tk c : Nat), SetR w h' s.heap.objs.size (fun j => decide (j ∈ ns)) c → c ≤ ns.length → (∀ b o, s.heap.get? b = some o → h'.get? b = some o) → Q (.ref s.heap.objs.size) { s with heap := h', toks := tk }) :
    wpAny (model P w) A (call (.type "set") [.ref l]) Q E s := by
  obtain ⟨c, tl, a1⟩ := PySem.F.called_set.mro
  have a2 := PySem.F.called_set.made
  have a3 := PySem.F.called_set.sub
  have a4 := PySem.F.called_set.notType
  have a5 := PySem.F.called_set.canCreate
  have a6 := PySem.F.typeCall_set_1 (.ref l)
  refine wpAny_call (codeAny_of_tree ?_)
  show wpAny _ _ (callAny (.type "set") _) _ _ _
  refine wpAny_pure ⟨Code.quiet_builtin _ (by decide +kernel), codeAny_builtin PySem.F.entry_type_call ?_⟩
  rw [Around.under_plain (weight_type_call_type "set" [.ref l] []) rfl]
  repeat (any_goals (first | assumption | wp_step))
  refine codeAny_mono (code_set_led1 (.ref l) (E := E) (Q₁ := fun obj s₁ => obj = .ref s.heap.objs.size ∧ s₁ = { s with heap := s.heap.push (emptySet w) }) ⟨rfl, rfl⟩) fun r s₁ hr => ?_
  cases r with
  | error e => exact hr
  | ok fl =>
    cases fl with
    | ret obj =>
      obtain ⟨rfl, rfl⟩ := hr
      have here : (s.heap.push (emptySet w)).get? s.heap.objs.size = some (emptySet w) := Heap.get?_push_size _ rfl
      have hT : Shared.TypeIs { s with heap := s.heap.push (emptySet w) } (.ref s.heap.objs.size) "set" := ⟨_, here, rfl⟩
      have b1 := PySem.F.called_set.init.lookup
      have b2 := PySem.F.called_set.init.bind (.ref s.heap.objs.size)
      repeat (any_goals (first | assumption | wp_step))
      refine codeAny_mono (codeAny_call_builtin (R := wants (fun r s₂ => r = .none ∧ ∃ h' tk c, s₂ = { s with heap := h', toks := tk } ∧ SetR w h' s.heap.objs.size (fun j => decide (j ∈ ns)) c ∧ c ≤ ns.length ∧
          (∀ b o, s.heap.get? b = some o → h'.get? b = some o)) E) PySem.F.called_set.init.plain PySem.F.entry_set_init (check_set_init_1 hT ?_)) fun r₂ s₂ hr₂ => ?_
      · have hlt : l < s.heap.objs.size := by
          obtain ⟨o, e, _⟩ := hl
          exact Heap.lt_size e
        have hl1 : (s.heap.push (emptySet w)).IsList l items := hl.push _
        obtain ⟨⟨oc, od, dt, osl⟩, hol, hcl, nl, hdl⟩ := id hl1
        simp only at hcl hdl
        subst hcl
        subst hdl
        have c1 := PySem.F.sub_list_set
        have c2 := PySem.F.sub_list_frozenset
        have c3 : (Value.type "list" == Value.type "dict") = false := by decide
        unfold Builtin.«set.__init__» noKeywords Builtin.Frozenset.updateFrom
        generalize hPI : pyIter = PI
        wp_walk
        subst hPI
        refine wpAny_pyIter_list hl1 ?_
        refine wpAny_bind (wpAny_runValue ?_)
        refine set_ints_fill ns (by simp [hh]) hlt rfl hl1 hit hb fun h' tk c hS hc hk => ?_
        show wpAny _ _ _ _ _ _
        refine wpAny_pure ?_
        show wpAny _ _ (ret Value.none) _ _ _
        exact wpAny_pure ⟨rfl, h', tk, c, rfl, hS, hc, hk⟩
      · cases r₂ with
        | error e => exact hr₂
        | ok fl₂ =>
          cases fl₂ with
          | ret r =>
            obtain ⟨rfl, h', tk, c', rfl, hS', hc', hk'⟩ := hr₂
            repeat (any_goals (first | assumption | wp_step))
            exact h _ _ _ hS' hc' hk'
          | _ => exact hr₂.elim
    | next => exact hr.elim
    | brk => exact hr.elim
    | cont => exact hr.elim
end
theorem call_setL {X : Cx} (hc : X.calm = true) : CallR X (.type "set") (fun xs H Q => ∃ (a : Addr) (ns : List Int), xs = [.ref a] ∧ SqL X.K H a (ns.map V.int) ∧ ns.length ≤ 1000 ∧ ∀ (p : Addr) (c : Nat), c ≤ ns.length → H p = none → Q (.ref p) (upd H p (SetO X.w p (fun j => decide (j ∈ ns)) c))) := by
  intro pins s σ H xs us Q I r h
  obtain ⟨a, ns, rfl, hq, hl, q⟩ := h
  obtain ⟨u, eu, rx⟩ := vals1 r
  subst eu
  cases rx
  obtain ⟨its, rv, pl, _⟩ := I.list hq
  refine set_of_list ns (I.ok.hd hc) pl.isList (by simpa using ints_of_vals rv) (by unfold scanBound; omega) fun h' tk c R hcn k => ?_
  exact ⟨.ref _, upd H s.heap.objs.size (SetO X.w s.heap.objs.size (fun j => decide (j ∈ ns)) c), I.laid (t' := tk) k (Nat.le_refl _) (setO_new R), rfl, q _ c hcn (I.hok.fresh (Nat.le_refl _))⟩
end Ck
set_option Elab.async false
set_option linter.all false
set_option maxRecDepth 100000
set_option maxHeartbeats 4000000
namespace Ck
open PySem PySem.Spec PyProof.Rows L2
/-! enumerate(t), t a tuple -/
theorem enum_new_tup {t : Addr} {items : Array Value} : Meets (Builtin.«enumerate.__new__» ⟨[.type "enumerate", .ref t], []⟩) (fun _ R s => s.heap.IsTuple t items ∧
      R (.ok (.ret (.ref (s.heap.push { cls := .type "tuple_iterator", data := .fields #[.ref t, .int 0 0] }).objs.size)))
        { s with heap := (s.heap.push { cls := .type "tuple_iterator", data := .fields #[.ref t, .int 0 0] }).push { cls := .type "enumerate", data := .fields #[.none, .bool false, .ref s.heap.objs.size, rawInt 0, .none, .none] } }) :=
  .of_wp fun prog w A R s h => by
    obtain ⟨hp, g, d, tk, os⟩ := s
    obtain ⟨hT, h⟩ := h
    have sub0 := sub_enumerate
    wp_walk
    refine wpAny_stack_any fun st => wpAny_pure ?_
    split
    · rename_i c _ _ _ _ _
      cases (c == Value.type "enumerate") <;> (wp_walk using wpAny_pyIter_tuple hT; exact ⟨_, rfl, h⟩)
    · wp_walk using wpAny_pyIter_tuple hT
      exact ⟨_, rfl, h⟩
section
variable {prog : Program} {w : World} {A : Around} {E : Value → Shared → Prop} {s : Shared}
theorem call_enum_tup {t : Addr} {items : Array Value} {Q : Value → Shared → Prop} (hT : s.heap.IsTuple t items)
    (h : ∀ h', IsEnum h' (s.heap.objs.size + 1) s.heap.objs.size 0 .none → h'.IsTupleIter s.heap.objs.size t 0 → (∀ b o, s.heap.get? b = some o → h'.get? b = some o) → Q (.ref (s.heap.objs.size + 1)) { s with heap := h' }) :
    wpAny (model prog w) A (call (.type "enumerate") [.ref t]) Q E s := by
  refine callType_new F.called_enumerate (by decide) (F.typeCall_enumerate_1 _) (F.newCall_enumerate_1 _) (fun obj => F.args_object_init_2 obj _) F.entry_enumerate_new (enum_new_tup (items := items)) ⟨hT, ?_⟩
  have sz : (s.heap.push { cls := .type "tuple_iterator", data := .fields #[.ref t, .int 0 0] }).objs.size = s.heap.objs.size + 1 := Heap.size_push ..
  have at1 := Heap.get?_push_size (s.heap.push { cls := .type "tuple_iterator", data := .fields #[.ref t, .int 0 0] }) (o := { cls := .type "enumerate", data := .fields #[.none, .bool false, .ref s.heap.objs.size, rawInt 0, .none, .none] }) rfl
  rw [sz] at at1
  show _ ∧ _
  rw [sz]
  exact ⟨⟨_, at1, rfl⟩, h _ at1 ⟨_, Heap.get?_push_of_some _ (Heap.get?_push_size _ rfl), rfl, rfl⟩ fun b o x => Heap.get?_push_of_some _ (Heap.get?_push_of_some _ x)⟩
end
/-- the tuple at a, its items with their places in new pairs -/
def IteT (K : PySem.W.Frag) (a : Addr) : It :=
  ⟨fun i H => ∃ xs x, SqT K H a xs ∧ xs[i]? = some x, fun i H v H' => ∃ T x, v = .ref T ∧ H T = none ∧ H' = upd H T (.tup [.int (i : Nat), x]) ∧ ∀ xs, SqT K H a xs → xs[i]? = some x, fun i H => ∃ xs, SqT K H a xs ∧ xs.length ≤ i⟩
theorem turn_enumT {P : Program} {w : World} {K : PySem.W.Frag} {elts : List Expr} {kk : Nat} {tpos : Pos} (a e it : Addr) (hae : a ≠ e) (hai : a ≠ it) :
    Turn P w K (.Tuple elts kk tpos) (IteT K a) [e, it] e (fun i h => (∃ old, IsEnum h e it ((i : Nat) : Int) old) ∧ h.IsTupleIter it a i ∧ e ≠ it) where
  mem := by simp
  obj := fun i h st b hb => by
    obtain ⟨⟨old, he⟩, ⟨o, ho, _, hd⟩, _⟩ := st
    have hb2 : b = e ∨ b = it := by simpa using hb
    rcases hb2 with rfl | rfl
    · exact ⟨_, he, fun v q => nomatch q⟩
    · exact ⟨o, ho, fun v q => by rw [hd] at q; cases q⟩
  keep := fun i h h' st k => ⟨st.1.imp fun _ he => k e (by simp) _ he, st.2.1.at fun o q => k it (by simp) o q, st.2.2⟩
  item := by
    intro X hP hw hK hc i pins s σ H E I hf st hg
    subst hP hw hK
    obtain ⟨⟨old, he⟩, hit, hne⟩ := st
    obtain ⟨xs, x, hq, hx⟩ := hg
    obtain ⟨its, rv, p, _⟩ := I.tuple hq
    obtain ⟨u, hu, ru⟩ := rv.get hx
    have le : e < s.heap.objs.size := Heap.lt_size he
    have li : it < s.heap.objs.size := by
      obtain ⟨_, q, _⟩ := hit
      exact Heap.lt_size q
    have hA : X.A.in1.handled = none := I.ok.hd hc
    have hi : i < its.toArray.size := by
      have := (List.getElem?_eq_some_iff.mp hu).1
      simpa using this
    refine wpAny_pyNext_enum_itemD (Draws.tuple (prog := X.prog) (w := X.w) hA it a hai its.toArray) he ⟨hit, p⟩ hi hne (by simp [hne, Ne.symm hae]) fun z h' tk hz ho hit' hT _ hk => ?_
    have ez : z = u := by
      have h1 : its.toArray[i]? = some u := by simpa using hu
      rw [h1] at hz
      exact (Option.some.inj hz).symm
    subst ez
    refine ⟨_, rfl, wpAny_letOwnedTupleGo_enum (s := { s with heap := h', toks := tk + 1 }) ho fun h2 he2 sb => ?_⟩
    have hT2 := (sb.2 _ (Nat.ne_of_gt le)).trans hT
    have new : ObjOk X.prog X.w (upd H s.heap.objs.size (.tup [.int (i : Nat), x])) h2 s.heap.objs.size (.tup [.int (i : Nat), x]) :=
      ⟨by show 2 ≤ sizeLine; decide, [.int i tk, z], .cons ⟨_, rfl⟩ (.cons ru .nil), ⟨_, hT2, rfl, _, rfl⟩⟩
    have I1 : Inv X pins σ (upd H s.heap.objs.size (.tup [.int (i : Nat), x])) { s with heap := h2, toks := tk + 1 } :=
      I.turnedNew (ch := [e, it]) (fun b ob hb q => (sb.2 b (fun w => hb (by simp [w]))).trans (hk b ob (fun w => hb (by simp [w])) (fun w => hb (by simp [w])) q)) hf (Nat.le_refl _) new
    refine ⟨.ref s.heap.objs.size, _, I1, rfl, ⟨_, x, rfl, I.hok.fresh (Nat.le_refl _), rfl, fun ys hy => by rw [I.tuple_inj hy hq]; exact hx⟩, ⟨⟨z, ?_⟩, hit'.1.at fun o q => (sb.2 it (Ne.symm hne)).trans q, hne⟩, fun b hb => ?_⟩
    · rw [show ((i + 1 : Nat) : Int) = (i : Int) + 1 by omega]
      exact he2
    · have hb2 : b = e ∨ b = it := by simpa using hb
      have lb : b < s.heap.objs.size := by rcases hb2 with rfl | rfl <;> assumption
      rw [upd_ne (Nat.ne_of_lt lb)]
      exact (hf b hb).1
  done := by
    intro X hP hw hK hc i pins s σ H E I hf st hg
    subst hP hw hK
    obtain ⟨⟨old, he⟩, hit, hne⟩ := st
    obtain ⟨xs, hq, hx⟩ := hg
    obtain ⟨its, rv, p, _⟩ := I.tuple hq
    obtain ⟨f0, f1, f2, f3, f4, f5⟩ := hf it (by simp)
    have hl := rv.length
    have hA : X.A.in1.handled = none := I.ok.hd hc
    unfold pyNext
    have hT : s.TypeIs (.ref e) "enumerate" := ⟨_, he, rfl⟩
    refine wpAny_bind (wpAny_attempt (wpAny_callSpecial?_slot (name := Str.ofString "__next__") hT PySem.F.slot_enumerate_next
      (wpAny_call_entry PySem.F.slot_enumerate_next hT PySem.F.entry_enumerate_next ?_ (PySem.F.args_enumerate_next_1 _))))
    show wpAny _ _ (field (.ref e) 2 >>= _) _ _ _
    refine wpAny_bind (wpAny_field he rfl (x := .ref it) rfl ?_)
    refine wpAny_bind (wpAny_nextOf_tuple_end hA hit (show s.heap.IsTuple a its.toArray from p) (by simp; omega) fun h' x he' hx' => ?_)
    obtain ⟨o, ho, hcl⟩ := hx'
    refine wpAny_bind (wpAny_isInstance (T := "StopIteration") (b := true) ⟨o, ho, hcl⟩ isSubtype_stop ?_)
    exact wpAny_pure ⟨rfl, I.turned (t' := s.toks) (fun b o hb q => he' b o hb q) f0 f1 f3 f4 f5⟩
  self := fun A i s Q E st h => wpAny_pyIter_enum st.1.choose_spec h
def iEnumT (K : PySem.W.Frag) (ta : TA) : TI := fun σ H R => ta σ H fun vs H1 => ∃ a xs, vs = [.ref a] ∧ SqT K H1 a xs ∧ R (IteT K a) H1
theorem pi_enumT {X : Cx} {e : Expr} {ta : TA} {p pos tpos : Pos} {elts : List Expr} {kk : Nat} (hg : Gl X "enumerate") (hm : X.mg "enumerate" = none) (ha : PA X [e] ta) (hs : starEach [e] X.env = [(false, eval e X.env)] := by rfl) :
    PI X (.Tuple elts kk tpos) (.Call (.Name "enumerate" p) [e] [] pos) (iEnumT X.K ta) := by
  refine ⟨fun pins s σ H R I h => ?_⟩
  refine Call_ (ld_blt I hg hm boot_enumerate (PyProof.Rows.callWith_type1 (thn (ha.run pos pins s σ H _ I h) fun us s1 ⟨vs, H1, I1, r1, q1⟩ => ?_) hs rfl))
  obtain ⟨a, xs, ex, hq, q⟩ := q1
  subst ex
  cases r1 with
  | cons r rr =>
    cases rr
    cases r
    obtain ⟨its, rv, pt, _⟩ := I1.tuple hq
    have la : a < s1.heap.objs.size := pt.lt
    refine call_enum_tup (show s1.heap.IsTuple a its.toArray from pt) fun h' he hit hk => wpAny_pyIter_enum he ?_
    refine ⟨s1.heap.objs.size + 1, [s1.heap.objs.size + 1, s1.heap.objs.size], _, _, H1, rfl, I1.kept (t' := s1.toks) hk, turn_enumT a (s1.heap.objs.size + 1) s1.heap.objs.size (Nat.ne_of_lt (Nat.lt_succ_of_lt la)) (Nat.ne_of_lt la), ⟨⟨.none, he⟩, hit, Nat.succ_ne_self _⟩, fun b hb => ?_, q⟩
    have hb2 : b = s1.heap.objs.size + 1 ∨ b = s1.heap.objs.size := by simpa using hb
    have hle : s1.heap.objs.size ≤ b := by
      rcases hb2 with rfl | rfl
      · exact Nat.le_add_right _ _
      · exact Nat.le_refl _
    exact I1.fpOk hle (I1.hok.fresh hle)
theorem walk_enumT {K : PySem.W.Frag} {a : Addr} {xs : List V} : Walk (IteT K a) xs.length (fun H => SqT K H a xs) (YPair (fun i => some (.int (i : Nat))) (fun i => xs[i]?)) := by
  refine ⟨fun i _ hi q => ⟨xs, xs[i], q, by simp [hi]⟩, fun _ q => ⟨xs, q, Nat.le_refl _⟩, fun i H v H' _ q y => ?_⟩
  obtain ⟨T, x, h1, h2, h3, h4⟩ := y
  exact ⟨T, .int (i : Nat), x, h1, h2, h3, rfl, h4 xs q⟩
theorem walk_zipT {K : PySem.W.Frag} {a b : Addr} {xs ys : List V} {n : Nat} (hn : n = min xs.length ys.length) : Walk (RZ.ItzT K a b) n (fun H => SqT K H a xs ∧ SqT K H b ys) (YPair (fun i => xs[i]?) (fun i => ys[i]?)) := by
  subst hn
  refine ⟨fun i _ hi q => ?_, fun _ q => ⟨xs, ys, q.1, q.2, by omega⟩, fun i H v H' _ q y => ?_⟩
  · have l1 : i < xs.length := by omega
    have l2 : i < ys.length := by omega
    exact ⟨xs, ys, xs[i], ys[i], q.1, q.2, by simp [l1], by simp [l2]⟩
  · obtain ⟨T, x, z, h1, h2, h3, h4, h5⟩ := y
    exact ⟨T, x, z, h1, h2, h3, h4 xs q.1, h5 ys q.2⟩
/-! a class held by a local name, called -/
theorem pe_makeL {X : Cx} {CX : CXT} {k i : Nat} {C f : Addr} {sp : Sp} {E : XK} {x : Str} {e : Expr} {es : List Expr} {p pos : Pos} {t : TA} (M : Mk X.K C f) (F : FnR X.prog X.w X.K X.mg X.base CX k f sp) (hr : Room (k + 1) X.A) (hN : X.N[i]? = some x) (hv : Vis X.env.scope x) (hx : Passes CX X E)
    (ha : PA X (e :: es) t) (hdb : (x == ("__debug__" : Str)) = false := by decide) (hcd : (x == ("__classdict__" : Str)) = false := by decide) (he : starEach (e :: es) X.env = (false, eval e X.env) :: starEach es X.env := by rfl) (hpl : (backTo pos (starEach es X.env)).any (·.1) = false := by rfl) :
    PE X (.Call (.Name x p) (e :: es) [] pos) (fun σ H Q => σ[i]? = some (some (.ref C)) ∧ StX.tMakeR C sp E t σ H Q) := by
  refine ⟨fun pins s σ H Q I h => ?_⟩
  obtain ⟨hs, ht⟩ := h
  refine wpAny_Call_Name_kw (thn ((pe_var (pos := p) hN hv hdb hcd).run pins s σ H (fun v H1 => v = .ref C ∧ H1 = H) I ⟨.ref C, hs, rfl, rfl⟩) fun u s1 ⟨v, H1, I1, r1, q1⟩ => ?_)
  obtain ⟨rfl, rfl⟩ := q1
  cases r1
  refine PySem.W.callWith_K (h₀ := X.base) I.ok.mod.kin M.kp (thn (ha.run pos pins s1 σ _ _ I1 ht) fun us s2 ⟨vs, H2, I2, r, q⟩ => ⟨I2.kIn, ?_⟩) he hpl
  exact StX.run_makeR M F hr hx I2 r q
end Ck
set_option Elab.async false
set_option linter.all false
set_option maxRecDepth 100000
set_option maxHeartbeats 4000000
namespace Ck
open PySem PySem.Spec PyProof.Rows L2
/-! d.get(k, x), d a written dict that has k -/
theorem pe_kget2 {X : Cx} {o e f : Expr} {apos cpos : Pos} {td ty tx : TE} {d : Addr} {es : Array DictEntry} {n : Nat} (D : KDict X.K X.w d es n) (ho : PE X o td) (he : PE X e ty) (hf : PE X f tx) (m : M2 X o "get" apos e f cpos) :
    PE X (.Call (.Attribute o "get" apos) [e, f] [] cpos) (fun σ H Q => td σ H fun x H1 => x = .ref d ∧ ty σ H1 fun y H2 => tx σ H2 fun _ H3 => ∃ (k : Str) (u0 : Value) (v0 : V), y = .str k ∧ PySem.W.nsIn X.K d k = some (some u0) ∧ RelV v0 u0 ∧ Q v0 H3) := by
  refine ⟨fun pins s σ H Q I h => ?_⟩
  refine wpAny_Call_method m.base m.few m.line PySem.F.plainAttrs_dict PySem.F.slot_dict_get PySem.F.type_dict_get (thn (ho.run pins s σ H _ I h) fun u s1 ⟨x, H1, I1, rx, ex, q1⟩ => ?_)
  subst ex
  obtain rfl : u = Value.ref d := rx
  refine ⟨kd_type D I1, fun b q => ?_, ?_⟩
  · cases q
    exact ⟨_, I1.kIn _ _ D.at_, rfl⟩
  rw [m.trees]
  refine Calls.callWith_builtin rfl (Calls.evalArgs_plain (Calls.spliced_cons (thn (he.run pins s1 σ H1 _ I1 q1) fun iv s2 ⟨y, H2, I2, ry, q2⟩ =>
    Calls.spliced_cons (thn (hf.run pins s2 σ H2 _ I2 q2) fun fv s3 ⟨z, H3, I3, rz, k, u0, v0, ey, hk, r0, q3⟩ => Calls.spliced_nil ?_))))
  subst ey
  obtain ⟨t, rfl⟩ := ry
  have mo := PySem.W.mapOf_K (prog := X.prog) (w := X.w) I3.kIn D.at_ D.lit
  refine call_meetsIn PySem.F.slot_dict_get mo.typeIs PySem.F.entry_dict_get (PySem.F.args_dict_get_3 _ _ _) (meets_dict_get_default (PySem.strKind X.prog X.w) d (PySem.strKind_is X.prog X.w k t) D.low fv) ⟨_, mo, ?_⟩
  rw [PySem.W.find_K D.at_ hk]
  exact ⟨v0, H3, I3.tok _, r0, q3⟩
end Ck
set_option Elab.async false
set_option linter.all false
set_option maxRecDepth 100000
set_option maxHeartbeats 4000000
namespace Ck
open PySem PySem.Spec PyProof.Rows L2
/-! tuples that are known to have no dict of their own: their methods may be called -/
def TupN (H : Hp) (p : Addr) (xs : List V) : Prop := ∃ o : Obj, H p = some (.frz o (.tup xs)) ∧ o.dict = none
theorem TupN.sq {K : PySem.W.Frag} {H : Hp} {p : Addr} {xs : List V} (h : TupN H p xs) : SqT K H p xs := let ⟨o, h, _⟩ := h; .inl (.inr ⟨o, h⟩)
theorem TupN.new {H : Hp} {p : Addr} {xs : List V} {o : Obj} (h : o.dict = none) : TupN (upd H p (.frz o (.tup xs))) p xs := ⟨o, upd_same, h⟩
theorem TupN.mono {H H' : Hp} {p : Addr} {xs : List V} (h : TupN H p xs) (k : ∀ o : Obj, H p = some (.frz o (.tup xs)) → H' p = some (.frz o (.tup xs))) : TupN H' p xs := let ⟨o, h, n⟩ := h; ⟨o, k _ h, n⟩
section
variable {X : Cx}
theorem call_tupleN : CallR X (.type "tuple") (fun xs H Q => ∃ p ys, xs = [.ref p] ∧ SqL X.K H p ys ∧ ∀ l (o : Obj), H l = none → o.dict = none → Q (.ref l) (upd H l (.frz o (.tup ys)))) := by
  intro pins s σ H xs us Q I r h
  obtain ⟨p, ys, rfl, hq, q⟩ := h
  obtain ⟨u, rfl, rx⟩ := vals1 r
  cases rx
  obtain ⟨its, r', pl, hz⟩ := I.list hq
  have hlen := r'.length
  refine call_tuple_list pl.isList (fun h' kp => ?_) (by simp only [List.size_toArray] <;> omega)
  have I1 : Inv X pins σ H { s with heap := h' } := I.kept (t' := s.toks) kp
  have I2 : Inv X pins σ (upd H h'.objs.size (.frz { cls := .type "tuple", data := .seq its.toArray } (.tup ys))) { s with heap := h'.push { cls := .type "tuple", data := .seq its.toArray } } :=
    I1.laid (t' := s.toks) (fun b o e => Heap.get?_push_of_some _ e) (Nat.le_refl _) ⟨Heap.get?_push_size _ rfl, hz, its, r', IsTup.new _ _⟩
  exact ⟨.ref h'.objs.size, _, I2, rfl, q _ _ (I1.hok.fresh (Nat.le_refl _)) rfl⟩
theorem op_catTN : OpR X (binaryOp .Add) (fun x y H Q => ∃ a b xs ys, x = .ref a ∧ y = .ref b ∧ SqT X.K H a xs ∧ SqT X.K H b ys ∧ ys ≠ [] ∧ xs.length + ys.length ≤ sizeLine ∧ (xs = [] → Q (.ref b) H) ∧
    (xs ≠ [] → ∀ p (o : Obj), H p = none → o.dict = none → Q (.ref p) (upd H p (.frz o (.tup (xs ++ ys)))))) := by
  intro pins s σ H x y v u Q I rx ry h
  obtain ⟨a, b, xs, ys, rfl, rfl, ha, hb, hy, hz, q1, q2⟩ := h
  cases rx
  cases ry
  obtain ⟨its, r1, p1, _⟩ := I.tuple ha
  obtain ⟨its2, r2, p2, _⟩ := I.tuple hb
  by_cases hx : xs = []
  · have e : its = [] := r1.nil_iff.mpr hx
    subst e
    exact cat_tup0 p1 p2 ⟨.ref b, H, I, rfl, q1 hx⟩
  · refine HT.cat_tup p1 p2 (fun z => hx (r1.nil_iff.mp z)) (fun z => absurd (r2.nil_iff.mp z) hy) (fun z => ?_) (by rw [← r1.length, ← r2.length]; exact hz)
    refine ⟨.ref s.heap.objs.size, _, I.laid (t' := s.toks) (o := .frz { cls := .type "tuple", data := .seq (its ++ its2).toArray } (.tup (xs ++ ys))) (fun b ob q => Heap.get?_push_of_some _ q) (Nat.le_refl _) ?_, rfl, q2 hx _ _ (I.hok.fresh (Nat.le_refl _)) rfl⟩
    exact ⟨Heap.get?_push_size _ rfl, by rw [List.length_append]; exact hz, _, r1.append r2, IsTup.new _ _⟩
def tTupN (t : TA) : TE := fun σ H Q => t σ H fun xs H1 => xs.length ≤ sizeLine ∧ ∀ p (o : Obj), H1 p = none → o.dict = none → Q (.ref p) (upd H1 p (.frz o (.tup xs)))
theorem pe_tupN {es : List Expr} {t : TA} {pos : Pos} {x1} (h : PA X es t) : PE X (.Tuple es x1 pos) (tTupN t) := by
  refine ⟨fun pins s σ H Q I hq => ?_⟩
  refine wpAny_Tuple_spliced (thn (h.run pos pins s σ H _ I hq) fun us s1 ⟨xs, H1, I1, r, z, q⟩ => ⟨by rw [← r.length]; exact z, ?_⟩)
  have hf : H1 s1.heap.objs.size = none := I1.hok.fresh (Nat.le_refl _)
  refine ⟨.ref s1.heap.objs.size, upd H1 s1.heap.objs.size (.frz { cls := .type "tuple", data := .seq us.toArray } (.tup xs)), I1.laid (t' := s1.toks) (fun b u e => Heap.get?_push_of_some _ e) (Nat.le_refl _) ?_, rfl, q _ _ hf rfl⟩
  exact ⟨Heap.get?_push_size _ rfl, z, us, r, ⟨_, Heap.get?_push_size _ rfl, rfl, _, rfl⟩⟩
def tBMT (r : V → List V → Hp → VK → Prop) (to : TE) (t : TA) : TE := fun σ H Q => to σ H fun x H1 => ∃ p ys, x = .ref p ∧ TupN H1 p ys ∧ t σ H1 fun xs H2 => r x xs H2 Q
theorem pe_bmT {o e : Expr} {es : List Expr} {to : TE} {t : TA} {name : Str} {apos cpos : Pos} {id : String} {r : V → List V → Hp → VK → Prop} (slot : Slot "tuple" name id) (hty : typeOf (.builtin id) = pure (.type "method_descriptor")) (hm : MtR X id r) (ho : PE X o to) (ha : PA X (e :: es) t)
    (hbase : attributeBase o name X.env (eval o X.env) = eval o X.env := by rfl)
    (hfew : ((backTo cpos (starEach (e :: es) X.env)).all (fun x => !x.1) && (backToKw cpos (keywordEach [] X.env)).all (fun x => x.1.isSome)
      && decide ((e :: es).length + ([] : List Keyword).length + (if ([] : List Keyword).isEmpty then 0 else 1) < 30)) = true := by rfl)
    (hline : (apos.endLine == cpos.line) = true := by rfl) (hs : starEach (e :: es) X.env = (false, eval e X.env) :: starEach es X.env := by rfl) (hplain : (backTo cpos (starEach es X.env)).any (·.1) = false := by rfl) :
    PE X (.Call (.Attribute o name apos) (e :: es) [] cpos) (tBMT r to t) := by
  refine ⟨fun pins s σ H Q I h => ?_⟩
  refine wpAny_Call_method_late hbase hfew hline rfl (thn (ho.run pins s σ H _ I h) fun v s1 ⟨x, H1, I1, r1, p, ys, ex, ⟨ob, hob, hdn⟩, q1⟩ => ?_)
  subst ex
  obtain rfl : v = Value.ref p := r1
  obtain ⟨hget, _, its, _, o', ho', hc', _⟩ := I1.hok p _ hob
  refine ⟨"tuple", id, PySem.F.plainAttrs_tuple, slot, hty, ⟨o', ho', hc'⟩, fun a ea => by cases ea; exact ⟨ob, hget, hdn⟩, ?_⟩
  have hA := ha.run cpos pins s1 σ H1 _ I1 q1
  rw [hs] at hA ⊢
  refine Calls.callWith_builtin (by show (false || (backTo cpos (starEach es X.env)).any (·.1)) = false; rw [hplain] <;> rfl) (Calls.evalArgs_plain ?_)
  exact thn hA fun us s2 ⟨vs, H2, I2, r2, q2⟩ => hm pins s2 σ H2 (.ref p) vs (.ref p) us Q I2 rfl r2 q2
end
end Ck
set_option Elab.async false
set_option linter.all false
set_option maxRecDepth 100000
set_option maxHeartbeats 4000000
namespace Ck
open PySem PySem.Spec PyProof.Rows L2
/-! ### the mirror: plain Lean -/
abbrev Lay := List (Option Str)
def vO : Option Str → V
  | none => .non
  | some s => .str s
def dO : Option Str → PyData
  | none => .none
  | some s => .str s
def layV (l : Lay) : List V := l.map vO
def names (l : Lay) : List Str := l.filterMap id
structure Fct where
  lay : Lay
  warm : Int
  days : List Int
structure Scn where
  f : Fct
  kept : List (Str × Fct)
inductive Op where
  | look (d : Nat)
  | put (n : Str) (p : Nat)
  | exch (a b : Str)
  | shut
  | keep (n : Str)
  | fetch (n : Str)
structure Sch where
  doors : List (Int × Nat)
  crates : List Str
def edgesFrom : Nat → List (Int × Nat) → List Nat
  | _, [] => []
  | k, d :: r => List.replicate d.2 k ++ edgesFrom (k + 1) r
def Sch.edges (S : Sch) : List Nat := edgesFrom 0 S.doors
def Sch.warm (S : Sch) (d : Nat) : Int := (S.doors.getD d (0, 0)).1
def Sch.edge (S : Sch) (i : Nat) : Nat := S.edges.getD i 0
def both (S : Sch) (i j : Nat) : Int := if S.edge i = S.edge j then S.warm (S.edge i) else S.warm (S.edge i) + S.warm (S.edge j)
def swap (l : Lay) (i j : Nat) : Lay := (l.set i (l.getD j none)).set j (l.getD i none)
def place (l : Lay) (n : Str) : Nat := l.idxOf (some n)
def seen (S : Sch) (l : Lay) (d : Nat) : Lay := ((l.zip S.edges).filter fun p => decide (p.2 = d)).map (·.1)
def lookF (kept : List (Str × Fct)) (n : Str) : Option Fct := (kept.find? fun p => decide (p.1 = n)).map (·.2)
def putFk (kept : List (Str × Fct)) (n : Str) (f : Fct) : List (Str × Fct) :=
  if (kept.any fun p => decide (p.1 = n)) = true then kept.map (fun p => if p.1 = n then (p.1, f) else p) else kept ++ [(n, f)]
def stepS (S : Sch) (sc : Scn) : Op → Scn
  | .look d => ⟨⟨sc.f.lay, sc.f.warm + S.warm d, sc.f.days⟩, sc.kept⟩
  | .put n p => ⟨⟨swap sc.f.lay (place sc.f.lay n) p, sc.f.warm + both S (place sc.f.lay n) p, sc.f.days⟩, sc.kept⟩
  | .exch a b => ⟨⟨swap sc.f.lay (place sc.f.lay a) (place sc.f.lay b), sc.f.warm + both S (place sc.f.lay a) (place sc.f.lay b), sc.f.days⟩, sc.kept⟩
  | .shut => ⟨⟨sc.f.lay, 0, sc.f.days ++ [sc.f.warm]⟩, sc.kept⟩
  | .keep n => ⟨sc.f, putFk sc.kept n sc.f⟩
  | .fetch n => ⟨(lookF sc.kept n).getD sc.f, sc.kept⟩
def resD (S : Sch) (sc : Scn) : Op → PyData
  | .look d => .tuple ((seen S sc.f.lay d).map dO)
  | .put n _ => .int (place sc.f.lay n : Nat)
  | .exch a b => .bool (sortedS (names (swap sc.f.lay (place sc.f.lay a) (place sc.f.lay b))))
  | .shut => .int sc.f.warm
  | .keep n => .bool (lookF sc.kept n).isSome
  | .fetch n => .tuple (((lookF sc.kept n).getD sc.f).lay.map dO)
def opVs : Op → List V
  | .look d => [.str "look", .int d]
  | .put n p => [.str "put", .str n, .int p]
  | .exch a b => [.str "exchange", .str a, .str b]
  | .shut => [.str "shut"]
  | .keep n => [.str "keep_as", .str n]
  | .fetch n => [.str "fetch", .str n]
def isWordB (z : Str) : Bool := decide (1 ≤ z.length) && (decide (z.length ≤ 8) && z.cps.toList.all fun c => decide (c ∈ ("abcdefghijklmnopqrstuvwxyz" : Str).cps.toList))
def cr5 : List Str := ["fig", "jam", "kiwi", "lime", "plum"]
structure GoodSch (S : Sch) : Prop where
  d0 : 1 ≤ S.doors.length
  d4 : S.doors.length ≤ 4
  dw : ∀ d ∈ S.doors, 1 ≤ d.1 ∧ d.1 ≤ 99
  dn : ∀ d ∈ S.doors, 1 ≤ d.2 ∧ d.2 ≤ 4
  tot : S.edges.length ≤ 6
  cr : ∃ c, S.crates = cr5.take c
  c0 : 1 ≤ S.crates.length
  ct : S.crates.length ≤ S.edges.length
structure GoodLay (S : Sch) (l : Lay) : Prop where
  len : l.length = S.edges.length
  per : (names l).Perm S.crates
structure GoodF (S : Sch) (n : Nat) (f : Fct) : Prop where
  lay : GoodLay S f.lay
  days : f.days.length ≤ n
structure Good (S : Sch) (n : Nat) (sc : Scn) : Prop where
  f : GoodF S n sc.f
  few : sc.kept.length ≤ n
  kept : ∀ p ∈ sc.kept, GoodF S n p.2
def Valid (S : Sch) (sc : Scn) : Op → Prop
  | .look d => d < S.doors.length
  | .put n p => n ∈ S.crates ∧ sc.f.lay[p]? = some none
  | .exch a b => a ∈ S.crates ∧ b ∈ S.crates ∧ a ≠ b
  | .shut => True
  | .keep n => isWordB n = true
  | .fetch n => (lookF sc.kept n).isSome = true
/-! ### texts in order -/
def leS (a b : Str) : Prop := ltCps b.cps.toList a.cps.toList = false
theorem leS_iff {a b : Str} : leS a b ↔ a.cps.toList ≤ b.cps.toList := by
  unfold leS
  rw [ltCps_eq, decide_eq_false_iff_not]
  exact List.not_lt
theorem leS_anti {a b : Str} (h1 : leS a b) (h2 : leS b a) : a = b := by
  have e := List.le_antisymm (leS_iff.mp h1) (leS_iff.mp h2)
  cases a
  cases b
  simp only [Array.toList_inj] at e
  rw [e]
theorem leS_trans {a b c : Str} (h1 : leS a b) (h2 : leS b c) : leS a c := leS_iff.mpr (List.le_trans (leS_iff.mp h1) (leS_iff.mp h2))
theorem risingS_pw : ∀ (l : List Str) (p : Str), risingS p l = true → (p :: l).Pairwise leS
  | [], p, _ => List.pairwise_singleton _ _
  | x :: r, p, h => by
    have h' : (!ltCps x.cps.toList p.cps.toList && risingS x r) = true := h
    rw [Bool.and_eq_true] at h'
    have hx : leS p x := by simpa [leS] using h'.1
    have ih := risingS_pw r x h'.2
    refine List.pairwise_cons.mpr ⟨fun y hy => ?_, ih⟩
    rcases List.mem_cons.mp hy with e | hy
    · rw [e]
      exact hx
    · exact leS_trans hx ((List.pairwise_cons.mp ih).1 y hy)
theorem sortedS_pw : ∀ (l : List Str), sortedS l = true → l.Pairwise leS
  | [], _ => List.Pairwise.nil
  | x :: r, h => risingS_pw r x h
theorem sorted_one {xs ys : List Str} (h1 : sortedS xs = true) (h2 : sortedS ys = true) (p : xs.Perm ys) : xs = ys :=
  List.Perm.eq_of_pairwise (fun _ _ _ _ a b => leS_anti a b) (sortedS_pw _ h1) (sortedS_pw _ h2) p
/-- names == sorted(names) -/
theorem sorted_eq {xs ys : List Str} (p : ys.Perm xs) (h : sortedS ys = true) : decide (xs = ys) = sortedS xs := by
  cases e : sortedS xs with
  | true => exact decide_eq_true (sorted_one e h p.symm)
  | false => exact decide_eq_false fun z => by rw [z, h] at e; cases e
/-! ### crates -/
theorem cr5_len : cr5.length = 5 := rfl
theorem cr5_sorted : ∀ c, c ≤ 5 → sortedS (cr5.take c) = true := by
  intro c hc
  have : ∀ c : Fin 6, sortedS (cr5.take c) = true := by decide +kernel
  exact this ⟨c, by omega⟩
theorem take_min (c : Nat) : cr5.take c = cr5.take (min c 5) := by
  rcases Nat.le_total c 5 with h | h
  · rw [Nat.min_eq_left h]
  · rw [Nat.min_eq_right h, List.take_of_length_le (by rw [cr5_len]; exact h)]
    rfl
theorem GoodSch.sorted {S : Sch} (g : GoodSch S) : sortedS S.crates = true := by
  obtain ⟨c, e⟩ := g.cr
  rw [e, take_min]
  exact cr5_sorted _ (Nat.min_le_right _ _)
theorem GoodSch.nodup {S : Sch} (g : GoodSch S) : S.crates.Nodup := by
  obtain ⟨c, e⟩ := g.cr
  rw [e]
  exact List.Sublist.nodup (List.take_sublist _ _) (by decide +kernel)
theorem GoodSch.words {S : Sch} (g : GoodSch S) : ∀ z ∈ S.crates, isWordB z = true := by
  obtain ⟨c, e⟩ := g.cr
  intro z hz
  rw [e] at hz
  have : ∀ z ∈ cr5, isWordB z = true := by decide +kernel
  exact this z (List.mem_of_mem_take hz)
theorem GoodSch.c5 {S : Sch} (g : GoodSch S) : S.crates.length ≤ 5 := by
  obtain ⟨c, e⟩ := g.cr
  rw [e, List.length_take, cr5_len]
  exact Nat.min_le_right _ _
end Ck
set_option Elab.async false
set_option linter.all false
set_option maxRecDepth 100000
set_option maxHeartbeats 4000000
namespace Ck
open PySem PySem.Spec PyProof.Rows L2
/-! ### rules in short -/
theorem fnR_mk {P : Program} {w : World} {K : PySem.W.Frag} {mg : Str → Option Value} {base : Heap} {x qual : Str} {st : Stmt} {f : Addr} {fd : FuncData} {N ps : List Str} {k : Nat} {sp : Sp} (F : Fun K x qual st f fd) (S : FnScope N ps (defScope st))
    (hb : ∀ (kV doc pm : Value) (an : Option Addr) (cdv ct : Value) (us : List Value), us.length = ps.length → bindArgs (PySem.W.fnOf x qual (defArgs st) (defBody st) (defScope st) .none kV doc pm an cdv ct) ⟨us, []⟩ = pure (ps.zip us))
    (len : ∀ vs H Q E, sp vs H Q E → vs.length = ps.length)
    (body : ∀ (cdv : Value) (A : Around) (outer : List Env) (s : Shared) (H : Hp) (vs : List V) (Q : VK) (E : XK), Room k (A.deeper (envOfC qual (defScope st) s.heap.objs.size f cdv)) → sp vs H Q E →
      ∃ t, PSs (cxOf CX0 P w K mg base N qual (defScope st) f cdv A outer s H E).nox (defBody st) t ∧ t { nx := fun _ H' => Q .non H', rt := Q } (start N vs) H) : FnR P w K mg base CX0 (k + 1) f sp := by
  have z := (F.ok S len body).raw (F.binds hb) (.nil : Vals [] [])
  intro A outer s H us vs Q E hr e0 r h
  exact z A outer s H us vs Q E hr e0 r (by show sp (vs ++ []) H Q E; rw [List.append_nil]; exact h)
def tFn (sp : Sp) (t : TA) : TE := fun σ H Q => t σ H fun vs H1 => sp vs H1 Q E0
theorem pe_fn {X : Cx} {k : Nat} {f : Addr} {sp : Sp} {x : Str} {p pos : Pos} {e : Expr} {es : List Expr} {t : TA} (F : FnR X.prog X.w X.K X.mg X.base CX0 k f sp) (hr : Room k X.A) (hg : Gl X x) (hm : X.mg x = some (.ref f)) (kp : PySem.W.keepIn X.K (.ref f) = true) (ha : PA X (e :: es) t)
    (hdb : (x == ("__debug__" : Str)) = false := by decide) (he : starEach (e :: es) X.env = (false, eval e X.env) :: starEach es X.env := by rfl) (hpl : (backTo pos (starEach es X.env)).any (·.1) = false := by rfl) : PE X (.Call (.Name x p) (e :: es) [] pos) (tFn sp t) := by
  refine ⟨fun pins s σ H Q I h => ?_⟩
  refine wpAny_Call_Name_kw (ld_glob I hg hm ?_ hdb)
  refine PySem.W.callWith_K (h₀ := X.base) I.ok.mod.kin kp (thn (ha.run pos pins s σ H _ I h) fun us s1 ⟨vs, H1, I1, r, q⟩ => ⟨I1.kIn, ?_⟩) he hpl
  exact wpAny_call (run_fnR F hr pass0 I1 r q)
def tPropR (C : Addr) (sp : Sp) (ta : TE) : TE := fun σ H Q => ta σ H fun x H1 => ∃ a dx fs, x = .ref a ∧ H1 a = some (.ins C dx fs) ∧ sp [.ref a] H1 Q E0
theorem pe_propR {X : Cx} {k : Nat} {C p g : Addr} {f : Str} {sp : Sp} {e : Expr} {pos : Pos} {ta : TE} (he : PE X e ta) (c : Cls X.K C) (hp : PropOf X.K C f p g) (F : FnR X.prog X.w X.K X.mg X.base CX0 k g sp) (hr : Room (k + 1) X.A)
    (hab : attributeBase e f X.env (eval e X.env) = eval e X.env := by rfl) : PE X (.Attribute e f pos) (tPropR C sp ta) := by
  refine ⟨fun pins s σ H Q I h => ?_⟩
  refine attr_of hab (thn (he.run pins s σ H _ I h) fun u s1 ⟨x, H1, I1, rx, a, dx, fs, ex, ea, q⟩ => ?_)
  subst ex
  obtain rfl : u = Value.ref a := rx
  obtain ⟨mA, O, _, _, _, _⟩ := ins_get I1.hok ea
  obtain ⟨od, J, _⟩ := O.look
  obtain ⟨rest, hrec⟩ := hp.rec_
  have I2 := I1.tok (s1.toks + 1)
  have hc : (PySem.W.clsIn X.K C).isSome = true := by
    obtain ⟨cd, hc, _⟩ := PySem.W.any_some c.hd
    rw [hc]
    rfl
  refine PySem.W.get_bind I1.kIn J (PySem.W.plainGet_of (c.get f)).1 (PySem.W.findObj_data hc hp.at_ hp.get hp.tak) (PySem.W.plainGet_of (c.get f)).2 (wpAny_call (PySem.W.prop_get (s := { s1 with toks := s1.toks + 1 }) I1.kIn hrec ?_))
  refine codeAny_mono (F X.A.in1 X.stack { s1 with toks := s1.toks + 1 } H1 [.ref a] [.ref a] Q E0 hr.in1 I2.env0.in1 (.cons rfl .nil) q) fun r s' hq => ?_
  cases r with
  | error er => exact hq.elim
  | ok fl =>
    cases fl with
    | ret u =>
      obtain ⟨v, H', I3, rv, q3⟩ := I2.after hq
      show wpAny _ _ (handedOut u) _ _ _
      rw [PySem.W.handedOut_of (handed_of rv)]
      exact wpAny_pure ⟨v, H', I3, rv, q3⟩
    | next => exact hq.elim
    | brk => exact hq.elim
    | cont => exact hq.elim
/-! ### what stays -/
def KBut (r : Addr) (H H' : Hp) : Prop := ∀ b o, H b = some o → b ≠ r → H' b = some o
def Im : HO → Prop
  | .tup _ => True
  | .dK _ => True
  | .frz _ _ => True
  | .lst xs => ∀ x ∈ xs, ∃ i, x = V.int i
  | _ => False
def KIm (H H' : Hp) : Prop := ∀ b o, H b = some o → Im o → H' b = some o
section
variable {H H1 H2 H' : Hp} {r a p : Addr} {K : PySem.W.Frag} {xs : List V}
theorem KBut.refl : KBut r H H := fun _ _ e _ => e
theorem KBut.trans (x : KBut r H H1) (y : KBut r H1 H2) : KBut r H H2 := fun b o e n => y b o (x b o e n) n
theorem Same_kbut (x : Same H H') : KBut r H H' := fun b o e _ => x b o e
theorem Same_kim (x : Same H H') : KIm H H' := fun b o e _ => x b o e
theorem KIm.refl : KIm H H := fun _ _ e _ => e
theorem KIm.trans (x : KIm H H1) (y : KIm H1 H2) : KIm H H2 := fun b o e n => y b o (x b o e n) n
theorem KBut.kim (x : KBut r H H') (n : ∀ o, H r = some o → ¬ Im o) : KIm H H' := fun b o e i => x b o e fun z => n o (by rw [← z]; exact e) i
theorem KBut.free (x : KBut r H H') {l : Addr} (h : H' l = none) (hr : l ≠ r) : H l = none := by
  cases q : H l with
  | none => rfl
  | some o => rw [x l o q hr] at h; cases h
theorem Same_new {o : HO} (h : H p = none) : Same H (upd H p o) := fun b u e => by rw [upd_ne (ne_of_none e h)]; exact e
theorem Same_upd {o : HO} (s : Same H H') (h : H p = none) : Same H (upd H' p o) := fun b u e => by rw [upd_ne (ne_of_none e h)]; exact s b u e
theorem Same_trans (x : Same H H1) (y : Same H1 H2) : Same H H2 := fun b o e => y b o (x b o e)
theorem KIm.sqT (k : KIm H H') (h : SqT K H a xs) : SqT K H' a xs := by
  rcases h with (h | ⟨o, h⟩) | h
  · exact .inl (.inl (k _ _ h trivial))
  · exact .inl (.inr ⟨o, k _ _ h trivial⟩)
  · exact .inr h
theorem TupN.keep (h : TupN H p xs) (k : KIm H H') : TupN H' p xs := h.mono fun o e => k _ _ e trivial
theorem TupN.same (h : TupN H p xs) (s : Same H H') : TupN H' p xs := h.mono fun o e => s _ _ e
theorem Same_sqT (s : Same H H') (h : SqT K H a xs) : SqT K H' a xs := KIm.sqT (Same_kim s) h
theorem KBut.sqL (k : KBut r H H') (n : a ≠ r) (h : SqL K H a xs) : SqL K H' a xs := by
  rcases h with (h | ⟨o, h⟩) | h
  · exact .inl (.inl (k _ _ h n))
  · exact .inl (.inr ⟨o, k _ _ h n⟩)
  · exact .inr h
theorem some_inj {H : Hp} {a : Addr} {o u : HO} (h : H a = some o) (h' : H a = some u) : o = u := Option.some.inj (h.symm.trans h')
end
/-! ### the data in the heap -/
def FctP (H : Hp) (v : V) (f : Fct) : Prop := ∃ p pl pd, v = .ref p ∧ H p = some (.tup [.ref pl, .int f.warm, .ref pd]) ∧ TupN H pl (layV f.lay) ∧ H pd = some (.tup (f.days.map V.int))
def FctL (H : Hp) (v : V) (f : Fct) : Prop := ∃ p pl pd, v = .ref p ∧ H p = some (.tup [.ref pl, .int f.warm, .ref pd]) ∧ TupN H pl (layV f.lay) ∧ H pd = some (.lst (f.days.map V.int))
def KvR (R : Hp → V → Fct → Prop) (H : Hp) (kvs : List (Key × V)) (kept : List (Str × Fct)) : Prop := Paired (fun (kv : Key × V) (p : Str × Fct) => kv.1 = Sum.inr p.1 ∧ R H kv.2 p.2) kvs kept
def KeptR (R : Hp → V → Fct → Prop) (H : Hp) (v : V) (kept : List (Str × Fct)) : Prop := ∃ q kvs, v = .ref q ∧ H q = some (.dK kvs) ∧ KvR R H kvs kept
def ScnL (H : Hp) (v : V) (sc : Scn) : Prop := ∃ p pl pd pk, v = .ref p ∧ H p = some (.tup [.ref pl, .int sc.f.warm, .ref pd, .ref pk]) ∧ TupN H pl (layV sc.f.lay) ∧ H pd = some (.lst (sc.f.days.map V.int)) ∧ KeptR FctL H (.ref pk) sc.kept
def OpH (H : Hp) (v : V) (op : Op) : Prop := ∃ p, v = .ref p ∧ H p = some (.tup (opVs op))
def EntP (H : Hp) (v : V) (e : Op × Scn) : Prop := ∃ a vo vf vk, v = .ref a ∧ H a = some (.tup [vo, vf, vk]) ∧ OpH H vo e.1 ∧ FctP H vf e.2.f ∧ KeptR FctP H vk e.2.kept
def PastP (H : Hp) (v : V) (l : List (Op × Scn)) : Prop := ∃ p es, v = .ref p ∧ H p = some (.tup es) ∧ Paired (EntP H) es l
section
variable {H H' : Hp} {v : V} {kept : List (Str × Fct)} {kvs : List (Key × V)}
theorem im_ints (l : List Int) : Im (.lst (l.map V.int)) := fun x hx => by
  obtain ⟨i, _, e⟩ := List.mem_map.mp hx
  exact ⟨i, e.symm⟩
theorem FctP.keep {f : Fct} (k : KIm H H') (h : FctP H v f) : FctP H' v f := by
  obtain ⟨p, pl, pd, e, h1, h2, h3⟩ := h
  exact ⟨p, pl, pd, e, k _ _ h1 trivial, h2.keep k, k _ _ h3 trivial⟩
theorem FctL.keep {f : Fct} (k : KIm H H') (h : FctL H v f) : FctL H' v f := by
  obtain ⟨p, pl, pd, e, h1, h2, h3⟩ := h
  exact ⟨p, pl, pd, e, k _ _ h1 trivial, h2.keep k, k _ _ h3 (im_ints _)⟩
theorem Paired_mono {α β : Type} {F G : α → β → Prop} {l : List α} {m : List β} (h : Paired F l m) (f : ∀ a b, F a b → G a b) : Paired G l m := Paired.mapP h f
theorem KvR.keep {R : Hp → V → Fct → Prop} (hR : ∀ v f, R H v f → R H' v f) (h : KvR R H kvs kept) : KvR R H' kvs kept := Paired_mono h fun a b q => ⟨q.1, hR _ _ q.2⟩
theorem KeptR.keep {R : Hp → V → Fct → Prop} (k : KIm H H') (hR : ∀ v f, R H v f → R H' v f) (h : KeptR R H v kept) : KeptR R H' v kept := by
  obtain ⟨q, kvs, e, h1, h2⟩ := h
  exact ⟨q, kvs, e, k _ _ h1 trivial, h2.keep hR⟩
theorem KeptP.keep (k : KIm H H') (h : KeptR FctP H v kept) : KeptR FctP H' v kept := KeptR.keep k (fun _ _ q => FctP.keep k q) h
theorem KeptL.keep (k : KIm H H') (h : KeptR FctL H v kept) : KeptR FctL H' v kept := KeptR.keep k (fun _ _ q => FctL.keep k q) h
theorem ScnL.keep {sc : Scn} (k : KIm H H') (h : ScnL H v sc) : ScnL H' v sc := by
  obtain ⟨p, pl, pd, pk, e, h1, h2, h3, h4⟩ := h
  exact ⟨p, pl, pd, pk, e, k _ _ h1 trivial, h2.keep k, k _ _ h3 (im_ints _), KeptL.keep k h4⟩
theorem OpH.keep {op : Op} (k : KIm H H') (h : OpH H v op) : OpH H' v op := by
  obtain ⟨p, e, h1⟩ := h
  exact ⟨p, e, k _ _ h1 trivial⟩
theorem EntP.keep {e : Op × Scn} (k : KIm H H') (h : EntP H v e) : EntP H' v e := by
  obtain ⟨a, vo, vf, vk, e, h1, h2, h3, h4⟩ := h
  exact ⟨a, vo, vf, vk, e, k _ _ h1 trivial, h2.keep k, h3.keep k, KeptP.keep k h4⟩
theorem PastP.keep {l : List (Op × Scn)} (k : KIm H H') (h : PastP H v l) : PastP H' v l := by
  obtain ⟨p, es, e, h1, h2⟩ := h
  exact ⟨p, es, e, k _ _ h1 trivial, Paired_mono h2 fun a b q => EntP.keep k q⟩
end
/-! ### keys -/
section
variable {R : Hp → V → Fct → Prop} {H : Hp} {kept : List (Str × Fct)} {kvs : List (Key × V)} {n : Str}
theorem kv_decide {a b : Str} : decide ((Sum.inr a : Key) = Sum.inr b) = decide (a = b) := key_rr a b
theorem KvR.look (h : KvR R H kvs kept) : (valV kvs (Sum.inr n) = none ∧ lookF kept n = none) ∨ ∃ v f, valV kvs (Sum.inr n) = some v ∧ lookF kept n = some f ∧ R H v f := by
  induction h with
  | nil => exact .inl ⟨rfl, rfl⟩
  | @cons x y xs ys r t ih =>
    obtain ⟨e, r⟩ := r
    unfold valV lookF
    rw [List.find?_cons, List.find?_cons, e, kv_decide]
    by_cases hn : y.1 = n
    · rw [decide_eq_true hn]
      exact .inr ⟨x.2, y.2, rfl, rfl, r⟩
    · rw [decide_eq_false hn]
      exact ih
theorem KvR.any (h : KvR R H kvs kept) : (kvs.any fun kv => decide (kv.1 = (Sum.inr n : Key))) = kept.any fun p => decide (p.1 = n) := by
  induction h with
  | nil => rfl
  | cons r t ih => rw [List.any_cons, List.any_cons, ih, r.1, kv_decide]
theorem KvR.put {v : V} {f : Fct} (h : KvR R H kvs kept) (r : R H v f) : KvR R H (putK kvs (Sum.inr n) v) (putFk kept n f) := by
  unfold putK putFk
  rw [h.any]
  by_cases c : (kept.any fun p => decide (p.1 = n)) = true
  · rw [if_pos c, if_pos c]
    clear c
    induction h with
    | nil => exact .nil
    | @cons x y xs ys q t ih =>
      rw [List.map_cons, List.map_cons]
      refine .cons ?_ ih
      obtain ⟨e, q⟩ := q
      by_cases hn : y.1 = n
      · rw [if_pos (by rw [e, hn]), if_pos hn]
        exact ⟨e, r⟩
      · rw [if_neg (by rw [e]; intro z; exact hn (Sum.inr.inj z)), if_neg hn]
        exact ⟨e, q⟩
  · rw [if_neg c, if_neg c]
    have : ∀ {a b : List (Key × V)} {c d : List (Str × Fct)}, KvR R H a c → KvR R H b d → KvR R H (a ++ b) (c ++ d) := by
      intro a b c d h1 h2
      induction h1 with
      | nil => exact h2
      | cons r t ih => exact .cons r ih
    exact this h (.cons ⟨rfl, r⟩ .nil)
theorem KvR.keys (h : KvR R H kvs kept) : kvs.map (·.1) = (kept.map (·.1)).map Sum.inr := by
  induction h with
  | nil => rfl
  | cons r t ih => rw [List.map_cons, List.map_cons, List.map_cons, ih, r.1]
theorem KvR.len (h : KvR R H kvs kept) : kvs.length = kept.length := Paired.length h
end
/-! ### stores, states, live stores -/
abbrev cSt (K : PySem.W.Frag) : Addr := He.ga K "Store"
abbrev cS (K : PySem.W.Frag) : Addr := He.ga K "State"
abbrev cL (K : PySem.W.Frag) : Addr := He.ga K "Live"
abbrev cT (K : PySem.W.Frag) : Addr := He.ga K "Trial"
def DoorsAt (H : Hp) (pd : Addr) (ds : List (Int × Nat)) : Prop := ∃ des, H pd = some (.tup des) ∧ Paired (fun e (d : Int × Nat) => ∃ q, e = V.ref q ∧ H q = some (.tup [.int d.1, .int (d.2 : Nat)])) des ds
def SchAt (H : Hp) (p : Addr) (S : Sch) : Prop := ∃ pd pc, H p = some (.tup [.ref pd, .ref pc]) ∧ DoorsAt H pd S.doors ∧ H pc = some (.tup (S.crates.map V.str))
def edgeVs (S : Sch) : List V := S.edges.map fun e => V.int (e : Nat)
def SlotAt (K : PySem.W.Frag) (C : Addr) (H : Hp) (a : Addr) (vs : List (Option V)) : Prop := ∃ dx, H a = some (SlX.SlO a C dx vs) ∧ H dx = some (.xd [])
def StoreAt (K : PySem.W.Frag) (H : Hp) (st : Addr) (S : Sch) : Prop := ∃ pe pp, SlotAt K (cSt K) H st [some (.ref pe), some (.ref pp)] ∧ H pe = some (.tup (edgeVs S)) ∧ SchAt H pp S
def StateV (K : PySem.W.Frag) (H : Hp) (a : Addr) (f p k u : V) : Prop := SlotAt K (cS K) H a [some f, some p, some k, some u]
def StateD (K : PySem.W.Frag) (H : Hp) (a : Addr) (sc : Scn) (past und : List (Op × Scn)) : Prop := ∃ f p k u, StateV K H a f p k u ∧ FctP H f sc.f ∧ PastP H p past ∧ KeptR FctP H k sc.kept ∧ PastP H u und
def liveF (st sa : Addr) : List (Str × V) := [("base", .ref st), ("held", .ref sa)]
def LiveV (K : PySem.W.Frag) (H : Hp) (x st sa : Addr) : Prop := ∃ dx, H x = some (.ins (cL K) dx (liveF st sa))
def LiveAt (K : PySem.W.Frag) (H : Hp) (x st sa : Addr) (S : Sch) : Prop := LiveV K H x st sa ∧ StoreAt K H st S ∧ st ≠ sa
section
variable {K : PySem.W.Frag} {H H' : Hp} {a x st sa p : Addr} {S : Sch}
theorem SlotAt.slt {C : Addr} {vs : List (Option V)} (h : SlotAt K C H a vs) : ∃ dx, SlX.Slt H a C dx vs := let ⟨dx, h1, h2⟩ := h; ⟨dx, .inr ⟨h1, h2⟩⟩
theorem DoorsAt.keep {ds : List (Int × Nat)} (k : KIm H H') (h : DoorsAt H p ds) : DoorsAt H' p ds := by
  obtain ⟨des, h1, h2⟩ := h
  exact ⟨des, k _ _ h1 trivial, Paired_mono h2 fun a b ⟨q, e, z⟩ => ⟨q, e, k _ _ z trivial⟩⟩
theorem SchAt.keep (k : KIm H H') (h : SchAt H p S) : SchAt H' p S := by
  obtain ⟨pd, pc, h1, h2, h3⟩ := h
  exact ⟨pd, pc, k _ _ h1 trivial, h2.keep k, k _ _ h3 trivial⟩
theorem SlotAt.keep {C : Addr} {vs : List (Option V)} (k : ∀ b o, H b = some o → b ≠ sa → H' b = some o) (n : a ≠ sa) (hsa : ∀ o, H sa = some o → o ≠ .xd []) (h : SlotAt K C H a vs) : SlotAt K C H' a vs := by
  obtain ⟨dx, h1, h2⟩ := h
  exact ⟨dx, k _ _ h1 n, k _ _ h2 fun z => hsa _ (by rw [← z]; exact h2) rfl⟩
theorem SlotAt.same {C : Addr} {vs : List (Option V)} (k : Same H H') (h : SlotAt K C H a vs) : SlotAt K C H' a vs := by
  obtain ⟨dx, h1, h2⟩ := h
  exact ⟨dx, k _ _ h1, k _ _ h2⟩
theorem SlotAt.notIm {C : Addr} {vs : List (Option V)} (h : SlotAt K C H a vs) : ∀ o, H a = some o → ¬ Im o := fun o e i => by
  obtain ⟨dx, h1, _⟩ := h
  rw [h1] at e
  rw [← Option.some.inj e] at i
  exact i
theorem SlotAt.notXd {C : Addr} {vs : List (Option V)} (h : SlotAt K C H a vs) : ∀ o, H a = some o → o ≠ .xd [] := fun o e z => by
  obtain ⟨dx, h1, _⟩ := h
  rw [h1] at e
  exact SlX.slO_not ((Option.some.inj e).trans z)
theorem StoreAt.same (k : Same H H') (h : StoreAt K H st S) : StoreAt K H' st S := by
  obtain ⟨pe, pp, h1, h2, h3⟩ := h
  exact ⟨pe, pp, h1.same k, k _ _ h2, h3.keep (Same_kim k)⟩
theorem StoreAt.keep {vs : List (Option V)} {C : Addr} (k : KBut sa H H') (n : st ≠ sa) (hs : SlotAt K C H sa vs) (h : StoreAt K H st S) : StoreAt K H' st S := by
  obtain ⟨pe, pp, h1, h2, h3⟩ := h
  have ki : KIm H H' := k.kim hs.notIm
  exact ⟨pe, pp, h1.keep k n hs.notXd, ki _ _ h2 trivial, h3.keep ki⟩
theorem StateD.slot {sc : Scn} {past und : List (Op × Scn)} (h : StateD K H a sc past und) : ∃ f p k u, SlotAt K (cS K) H a [some f, some p, some k, some u] := let ⟨f, p, k, u, h, _⟩ := h; ⟨f, p, k, u, h⟩
theorem StateD.same {sc : Scn} {past und : List (Op × Scn)} (k : Same H H') (h : StateD K H a sc past und) : StateD K H' a sc past und := by
  obtain ⟨f, p, kk, u, h1, h2, h3, h4, h5⟩ := h
  have ki := Same_kim k
  exact ⟨f, p, kk, u, SlotAt.same k h1, h2.keep ki, h3.keep ki, KeptP.keep ki h4, h5.keep ki⟩
theorem StateD.keep {sc : Scn} {past und : List (Op × Scn)} {b : Addr} {C : Addr} {vs : List (Option V)} (k : KBut b H H') (n : a ≠ b) (hs : SlotAt K C H b vs) (h : StateD K H a sc past und) : StateD K H' a sc past und := by
  obtain ⟨f, p, kk, u, h1, h2, h3, h4, h5⟩ := h
  have ki : KIm H H' := k.kim hs.notIm
  exact ⟨f, p, kk, u, SlotAt.keep k n hs.notXd h1, h2.keep ki, h3.keep ki, KeptP.keep ki h4, h5.keep ki⟩
theorem LiveV.keep (k : KBut sa H H') (n : x ≠ sa) (h : LiveV K H x st sa) : LiveV K H' x st sa := let ⟨dx, h⟩ := h; ⟨dx, k _ _ h n⟩
theorem LiveV.ne {C : Addr} {vs : List (Option V)} {b sb : Addr} (h : LiveV K H x st sb) (hs : SlotAt K C H b vs) : x ≠ b := by
  obtain ⟨dx, h⟩ := h
  obtain ⟨_, h1, _⟩ := hs
  exact ne_of h h1 (by intro z; unfold SlX.SlO at z; cases z)
theorem LiveAt.keep {vs : List (Option V)} {C : Addr} (k : KBut sa H H') (hs : SlotAt K C H sa vs) (h : LiveAt K H x st sa S) : LiveAt K H' x st sa S :=
  ⟨h.1.keep k (h.1.ne hs), h.2.1.keep k h.2.2 hs, h.2.2⟩
theorem LiveAt.same (k : Same H H') (h : LiveAt K H x st sa S) : LiveAt K H' x st sa S := ⟨let ⟨dx, z⟩ := h.1; ⟨dx, k _ _ z⟩, h.2.1.same k, h.2.2⟩
/-- a state's slots stored -/
theorem slot_put {C dx : Addr} {vs vs' : List (Option V)} (h1 : H a = some (SlX.SlO a C dx vs)) (h2 : H dx = some (.xd [])) : KBut a H (SlX.slH H a C dx vs') ∧ (SlX.slH H a C dx vs') a = some (SlX.SlO a C dx vs') ∧ (SlX.slH H a C dx vs') dx = some (.xd []) := by
  have n : dx ≠ a := ne_of h2 h1 (fun z => SlX.slO_not z.symm)
  refine ⟨fun b o e nb => ?_, upd_same, by unfold SlX.slH; rw [upd_ne n, upd_same]⟩
  by_cases hb : b = dx
  · subst hb
    rw [h2] at e
    rw [← Option.some.inj e]
    unfold SlX.slH
    rw [upd_ne n, upd_same]
  · rw [SlX.slH_ne nb hb]
    exact e
end
/-! ### data compared -/
theorem dp_opt {K : PySem.W.Frag} {H : Hp} (o : Option Str) : Dp K H (vO o) (dO o) := by
  cases o with
  | none => exact .non
  | some s => exact .str s
theorem dp_lay {K : PySem.W.Frag} {H : Hp} : ∀ (l : Lay), DpAll K H (layV l) (l.map dO)
  | [] => .nil
  | o :: l => .cons (dp_opt o) (dp_lay l)
end Ck
set_option Elab.async false
set_option linter.all false
set_option maxRecDepth 100000
set_option maxHeartbeats 4000000
namespace Ck
open PySem PySem.Spec PyProof.Rows L2
/-! ### built-ins by name -/
theorem bo_isinstance : bootBuiltins "isinstance" = some (.builtin "isinstance") := by decide +kernel
theorem bo_len : bootBuiltins "len" = some (.builtin "len") := by decide +kernel
theorem bo_all : bootBuiltins "all" = some (.builtin "all") := by decide +kernel
theorem bo_sum : bootBuiltins "sum" = some (.builtin "sum") := by decide +kernel
theorem bo_min : bootBuiltins "min" = some (.builtin "min") := by decide +kernel
theorem bo_sorted : bootBuiltins "sorted" = some (.builtin "sorted") := by decide +kernel
theorem bo_int : bootBuiltins "int" = some (.type "int") := by decide +kernel
theorem bo_bool : bootBuiltins "bool" = some (.type "bool") := by decide +kernel
theorem bo_str : bootBuiltins "str" = some (.type "str") := by decide +kernel
theorem bo_tuple : bootBuiltins "tuple" = some (.type "tuple") := by decide +kernel
theorem bo_list : bootBuiltins "list" = some (.type "list") := by decide +kernel
theorem bo_set : bootBuiltins "set" = some (.type "set") := by decide +kernel
theorem bo_dict : bootBuiltins "dict" = some (.type "dict") := by decide +kernel
/-! ### comprehensions that only make new things -/
def resL (res : Nat → Option V) (i : Nat) : List V := (List.range i).filterMap res
def PvL (Hb : Hp) (D : Addr) (res : Nat → Option V) (i : Nat) (H : Hp) : Prop := Same Hb H ∧ H D = some (.lst (resL res i))
theorem resL_len (res : Nat → Option V) (i : Nat) : (resL res i).length ≤ i := by
  unfold resL
  exact Nat.le_trans (List.length_filterMap_le _ _) (Nat.le_of_eq List.length_range)
theorem resL_put {res : Nat → Option V} {i : Nat} {y : V} (e : res i = some y) : resL res (i + 1) = resL res i ++ [y] := by
  unfold resL
  rw [List.range_succ, List.filterMap_append, List.filterMap_cons, e]
  rfl
theorem resL_skip {res : Nat → Option V} {i : Nat} (e : res i = none) : resL res (i + 1) = resL res i := by
  unfold resL
  rw [List.range_succ, List.filterMap_append, List.filterMap_cons, e, List.filterMap_nil, List.append_nil]
theorem resL_all {α : Type} (xs : List α) (h : α → Option V) : resL (fun i => xs[i]?.bind h) xs.length = xs.filterMap h := by
  unfold resL
  induction xs with
  | nil => rfl
  | cons x xs ih =>
    rw [List.length_cons, List.range_succ_eq_map, List.filterMap_cons, List.filterMap_cons, List.filterMap_map]
    have e : ((fun i => (x :: xs)[i]?.bind h) ∘ Nat.succ) = fun i => xs[i]?.bind h := rfl
    rw [e, ih]
    rfl
theorem pvL_put {Hb H H4 : Hp} {D : Addr} {res : Nat → Option V} {i : Nat} {y : V} (hD : Hb D = none) (h : PvL Hb D res i H) (s : Same H H4) (e : res i = some y) (z : i < 100000) :
    ∃ acc, H4 D = some (.lst acc) ∧ acc.length < sizeLine ∧ PvL Hb D res (i + 1) (upd H4 D (.lst (acc ++ [y]))) :=
  ⟨_, s _ _ h.2, Nat.lt_of_le_of_lt (resL_len res i) (Nat.lt_of_lt_of_le z (by decide)), Same_upd (Same_trans h.1 s) hD, by rw [upd_same, resL_put e]⟩
theorem pvL_skip {Hb H H3 : Hp} {D : Addr} {res : Nat → Option V} {i : Nat} (h : PvL Hb D res i H) (s : Same H H3) (e : res i = none) : PvL Hb D res (i + 1) H3 :=
  ⟨Same_trans h.1 s, by rw [resL_skip e]; exact s _ _ h.2⟩
theorem lc_pv {J : It} {n : Nat} {G : Hp → Prop} {Y : Nat → Hp → V → Hp → Prop} (w : Walk J n G Y) {g : TG} {tt : TT} {te : TE} {vs : List Nat} {σ : L2.St} {H1 : Hp} {D : Addr} {Qd : Hp → Prop} (res : Nat → Option V) (hD : H1 D = none) (hG : ∀ H, Same H1 H → G H)
    (hs : ∀ i x H H', i < n → PvL H1 D res i H → Y i H x H' → g x (wipe σ vs) H' fun σ2 H2 => wipe σ2 vs = wipe σ vs ∧ tt σ2 H2 fun b H3 =>
      if b = true then te σ2 H3 fun y H4 => ∃ acc, H4 D = some (.lst acc) ∧ acc.length < sizeLine ∧ PvL H1 D res (i + 1) (upd H4 D (.lst (acc ++ [y]))) else PvL H1 D res (i + 1) H3) (hd : ∀ H, PvL H1 D res n H → Qd H) :
    ∃ W : Nat → Nat → Hp → Prop, (∃ m, W 0 m (upd H1 D (.lst []))) ∧ ∀ i m H, W i m H →
      (J.stop i H ∧ Qd H) ∨ (J.go i H ∧ ∃ Nx : Hp → Prop, (∀ H', Nx H' → ∃ m', m' < m ∧ W (i + 1) m' H') ∧ ∀ x H', J.yld i H x H' → g x (wipe σ vs) H' fun σ2 H2 => wipe σ2 vs = wipe σ vs ∧ tt σ2 H2 fun b H3 =>
        if b = true then te σ2 H3 fun y H4 => ∃ acc, H4 D = some (.lst acc) ∧ acc.length < sizeLine ∧ Nx (upd H4 D (.lst (acc ++ [y]))) else Nx H3) :=
  lc_it w (PvL H1 D res) ⟨Same_new hD, upd_same⟩ (fun i H _ h => hG H h.1) hs hd
section
variable {P : Program} {w : World} {K : PySem.W.Frag} {mg : Str → Option Value} {base : Heap}
/-! ### the store's looks -/
def spIsNum : Sp := fun vs H Q _ => ∃ i a b : Int, vs = [.int i, .int a, .int b] ∧ Q (.bl (decide (a ≤ i) && decide (i ≤ b))) H
theorem sc_is_number : FnScope ["value", "smallest", "largest"] ["value", "smallest", "largest"] (defScope s_is_number) := ⟨rfl, rfl, rfl, by decide +kernel, rfl, by decide +kernel, by decide +kernel⟩
theorem ok_is_number (T : Txt w K mg) : FnR P w K mg base CX0 1 (He.ga K "is_number") spIsNum := by
  obtain ⟨fd, F⟩ := T.f_is_number
  refine fnR_mk F sc_is_number (fun _ _ _ _ _ _ us hl => match us, hl with | [_, _, _], _ => rfl) (fun vs H Q E h => ?_) (fun cdv A outer s H vs Q E hr h => ?_)
  · obtain ⟨i, a, b, rfl, _⟩ := h
    rfl
  · obtain ⟨i, a, b, rfl, k⟩ := h
    refine ⟨_, pss_one (ps_ret (pe_and (pe_callB call_isi (by rfl) T.b_isinstance bo_isinstance (pa_cons (pv 0) (pa_cons (pe_bltn (v := .ty "int") (by rfl) T.b_int bo_int rfl) pa_nil)))
      (pe_and (pe_not (pe_callB call_isi (by rfl) T.b_isinstance bo_isinstance (pa_cons (pv 0) (pa_cons (pe_bltn (v := .ty "bool") (by rfl) T.b_bool bo_bool rfl) pa_nil))))
      (pe_one (pe_chain op_le op_le (pv 1) (pv 0) (pv 2)))))), ?_⟩
    refine ⟨_, rfl, _, _, _, _, true, rfl, .ty _, .base (.int _), kit_ty (by decide +kernel), true, rfl, ?_⟩
    refine ⟨_, rfl, _, _, _, _, false, rfl, .ty _, .base (.int _), kit_ty (by decide +kernel), false, rfl, true, rfl, ?_⟩
    refine ⟨_, rfl, _, rfl, a, i, rfl, rfl, _, rfl, ?_⟩
    cases e : decide (a ≤ i) with
    | false =>
      rw [e] at k
      exact k
    | true =>
      refine ⟨_, rfl, i, b, rfl, rfl, ?_⟩
      rw [e] at k
      exact k
end
end Ck
set_option Elab.async false
set_option linter.all false
set_option maxRecDepth 100000
set_option maxHeartbeats 4000000
namespace Ck
open PySem PySem.Spec PyProof.Rows L2
theorem kb_ss : kitB "str" "str" = some true := by decide +kernel
theorem kb_tt : kitB "tuple" "tuple" = some true := by decide +kernel
theorem kb_ns : kitB "NoneType" "str" = some false := by decide +kernel
theorem filterMap_some {α : Type} (xs : List α) (f : α → V) : xs.filterMap (fun x => some (f x)) = xs.map f := by
  induction xs with
  | nil => rfl
  | cons x xs ih => rw [List.filterMap_cons, List.map_cons, ih]
theorem resL_map {α : Type} (xs : List α) (f : α → V) : resL (fun i => xs[i]?.bind fun x => some (f x)) xs.length = xs.map f := by
  rw [resL_all, filterMap_some]
theorem bind_at {α β : Type} {xs : List α} {i : Nat} {x : α} {h : α → Option β} (e : xs[i]? = some x) : xs[i]?.bind h = h x := by rw [e]; rfl
/-- one boolean known -/
theorem ite_b {b : Bool} {A B : Prop} (h1 : b = true → A) (h2 : b = false → B) : if b = true then A else B := by
  cases b with
  | true => exact iteT (h1 rfl)
  | false => exact iteF (h2 rfl)
section
variable {P : Program} {w : World} {K : PySem.W.Frag} {mg : Str → Option Value} {base : Heap}
/-! is_word -/
def spIsWord : Sp := fun vs H Q _ => ∃ z : Str, vs = [.str z] ∧ z.length ≤ 1000 ∧ ∀ H', Same H H' → Q (.bl (isWordB z)) H'
theorem sc_is_word : FnScope ["value", "letter"] ["value"] (defScope s_is_word) := ⟨rfl, rfl, rfl, by decide +kernel, rfl, by decide +kernel, by decide +kernel⟩
theorem ok_is_word (T : Txt w K mg) : FnR P w K mg base CX0 1 (He.ga K "is_word") spIsWord := by
  obtain ⟨fd, F⟩ := T.f_is_word
  obtain ⟨t1, g8⟩ := T.i_MAX_LETTERS
  obtain ⟨t2, gL⟩ := T.i_LETTERS
  refine fnR_mk F sc_is_word (fun _ _ _ _ _ _ us hl => match us, hl with | [_], _ => rfl) (fun vs H Q E h => ?_) (fun cdv A outer s H vs Q E hr h => ?_)
  · obtain ⟨z, rfl, _⟩ := h
    rfl
  · obtain ⟨z, rfl, hz, k⟩ := h
    refine ⟨_, pss_cons (ps_if (PW.pt (pw_or (pt_not (pt_val (pe_callB call_isi (by rfl) T.b_isinstance bo_isinstance (pa_cons (pv 0) (pa_cons (pe_bltn (v := .ty "str") (by rfl) T.b_str bo_str rfl) pa_nil)))))
        (pw_or1 (pt_not (pt_chain op_le op_le pe_int (pe_callB call_len (by rfl) T.b_len bo_len (pa_cons (pv 0) pa_nil)) (pe_glob (v := .int 8) (by rfl) g8 ⟨_, rfl⟩))))))
        (pss_one (ps_ret pe_bl)) pss_nil)
      (pss_one (ps_ret (pe_callB (cr_all rfl) (by rfl) T.b_all bo_all (pa_cons (pe_lc (own := [("letter", 1)]) (g := gName 1) (tt := tYes) rfl sc_is_word.nd (pi_str (pv 0)) (blkOk_by (N := ["value", "letter"]) (sc := defScope s_is_word) (by decide +kernel))
        (fun _ _ _ _ _ => pg_name (i := 1) sc_is_word.nd rfl (Or.inl rfl)) (fun _ _ _ _ _ => pts_nil) (fun _ _ _ _ _ => pe_cmpR op_in_sign (pv 1) (pe_glob (v := .str "abcdefghijklmnopqrstuvwxyz") (by rfl) gL ⟨_, rfl⟩) rfl)) pa_nil)))), ?_⟩
    refine ⟨_, rfl, _, _, _, _, true, rfl, .ty _, .base (.str _), kit_ty kb_ss, true, rfl, iteF ?_⟩
    have hz' : z.length ≤ sizeLine := Nat.le_trans hz (by decide)
    refine ⟨_, rfl, _, z.length, rfl, ⟨hz', rfl⟩, 1, z.length, rfl, rfl, _, rfl, ?_⟩
    refine ite_b (fun h1 => ?_) fun h1 => ?_
    · refine ⟨_, _, rfl, rfl, _, rfl, ?_⟩
      cases h8 : decide ((z.length : Int) ≤ 8) with
      | false =>
        refine iteT ?_
        have e : isWordB z = false := by
          unfold isWordB
          rw [show decide (z.length ≤ 8) = false by rw [decide_eq_false_iff_not] at h8 ⊢; omega]
          simp
        rw [← e]
        exact k H (Same.refl H)
      | true =>
        refine iteF ?_
        refine ⟨_, rfl, z, rfl, fun D hD => lc_pv walk_str (fun i => z.cps.toList[i]?.bind fun c => some (.bl (decide (c ∈ ("abcdefghijklmnopqrstuvwxyz" : Str).cps.toList)))) hD (fun _ _ => trivial) ?_ ?_⟩
        · rintro i x H1 H2 hi pv ⟨rfl, c, hc, rfl⟩
          refine ⟨rfl, ?_⟩
          have hc' : z.cps.toList[i]? = some c := by rw [Array.getElem?_toList]; exact hc
          refine ⟨_, rfl, c, _, rfl, rfl, pvL_put hD pv (Same.refl _) (bind_at hc') ?_⟩
          have : z.cps.size ≤ 1000 := hz
          omega
        · intro H1 ⟨sm, hl⟩
          have el : z.cps.size = z.cps.toList.length := Array.length_toList.symm
          rw [el, resL_map] at hl
          refine ⟨D, z.cps.toList.map fun c => decide (c ∈ ("abcdefghijklmnopqrstuvwxyz" : Str).cps.toList), rfl, SqL.of (by rw [hl, List.map_map]; rfl), ?_⟩
          have e : isWordB z = (z.cps.toList.map fun c => decide (c ∈ ("abcdefghijklmnopqrstuvwxyz" : Str).cps.toList)).all id := by
            unfold isWordB
            rw [show decide (1 ≤ z.length) = true by rw [decide_eq_true_eq] at h1 ⊢; omega, show decide (z.length ≤ 8) = true by rw [decide_eq_true_eq] at h8 ⊢; omega, List.all_map]
            rfl
          rw [← e]
          exact k H1 sm
    · refine ⟨_, rfl, iteT ?_⟩
      have e : isWordB z = false := by
        unfold isWordB
        rw [show decide (1 ≤ z.length) = false by rw [decide_eq_false_iff_not] at h1 ⊢; omega]
        rfl
      rw [← e]
      exact k H (Same.refl H)
/-! is_door -/
def spIsDoor : Sp := fun vs H Q _ => ∃ (q : Addr) (a n : Int), vs = [.ref q] ∧ H q = some (.tup [.int a, .int n]) ∧ (1 ≤ a ∧ a ≤ 99 ∧ 1 ≤ n ∧ n ≤ 4) ∧ Q (.bl true) H
theorem sc_is_door : FnScope ["value"] ["value"] (defScope s_is_door) := ⟨rfl, rfl, rfl, by decide +kernel, rfl, by decide +kernel, by decide +kernel⟩
theorem ok_is_door (T : Txt w K mg) : FnR P w K mg base CX0 2 (He.ga K "is_door") spIsDoor := by
  obtain ⟨fd, F⟩ := T.f_is_door
  obtain ⟨t1, gW⟩ := T.i_MAX_WARMTH
  obtain ⟨t2, gB⟩ := T.i_MAX_BEHIND
  obtain ⟨fd1, F1⟩ := T.f_is_number
  have G : FnR P w K mg base CX0 1 (He.ga K "is_number") spIsNum := ok_is_number T
  refine fnR_mk F sc_is_door (fun _ _ _ _ _ _ us hl => match us, hl with | [_], _ => rfl) (fun vs H Q E h => ?_) (fun cdv A outer s H vs Q E hr h => ?_)
  · obtain ⟨q, a, n, rfl, _⟩ := h
    rfl
  · obtain ⟨q, a, n, rfl, hq, ⟨h1, h2, h3, h4⟩, k⟩ := h
    refine ⟨_, pss_cons (ps_if (PW.pt (pw_or (pt_not (pt_val (pe_callB call_isi (by rfl) T.b_isinstance bo_isinstance (pa_cons (pv 0) (pa_cons (pe_bltn (v := .ty "tuple") (by rfl) T.b_tuple bo_tuple rfl) pa_nil)))))
        (pw_or1 (pt_cmpR op_ne (pe_callB call_len_seq (by rfl) T.b_len bo_len (pa_cons (pv 0) pa_nil)) pe_int (nomark _)))))
        (pss_one (ps_ret pe_bl)) pss_nil)
      (pss_one (ps_ret (pe_and (pe_fn G hr (by rfl) T.g_is_number F1.kp (pa_cons (pe_ix ix_tup (pv 0) pe_int (fun _ _ => rfl)) (pa_cons pe_int (pa_cons (pe_glob (v := .int 99) (by rfl) gW ⟨_, rfl⟩) pa_nil))))
        (pe_one (pe_fn G hr (by rfl) T.g_is_number F1.kp (pa_cons (pe_ix ix_tup (pv 0) pe_int (fun _ _ => rfl)) (pa_cons pe_int (pa_cons (pe_glob (v := .int 4) (by rfl) gB ⟨_, rfl⟩) pa_nil)))))))), ?_⟩
    refine ⟨_, rfl, _, _, _, _, true, rfl, .ty _, .base (.tup hq), kit_ty kb_tt, true, rfl, iteF ?_⟩
    refine ⟨_, rfl, q, _, rfl, .inr (SqT.of hq), rfl, _, rfl, iteF ?_⟩
    refine ⟨_, rfl, q, _, 0, .int a, rfl, rfl, SqT.of hq, rfl, a, 1, 99, rfl, _, rfl, ?_⟩
    rw [decide_eq_true h1, decide_eq_true h2]
    refine iteT ⟨_, rfl, q, _, 1, .int n, rfl, rfl, SqT.of hq, rfl, n, 1, 4, rfl, ?_⟩
    rw [decide_eq_true h3, decide_eq_true h4]
    exact k
/-! are_doors -/
def sumN (ds : List (Int × Nat)) : Nat := (ds.map (·.2)).sum
def spAreDoors : Sp := fun vs H Q _ => ∃ (pd : Addr) (ds : List (Int × Nat)), vs = [.ref pd] ∧ DoorsAt H pd ds ∧ (1 ≤ ds.length ∧ ds.length ≤ 4) ∧ (∀ d ∈ ds, (1 ≤ d.1 ∧ d.1 ≤ 99) ∧ 1 ≤ d.2 ∧ d.2 ≤ 4) ∧ sumN ds ≤ 6 ∧ ∀ H', Same H H' → Q (.bl true) H'
theorem paired_at {α β : Type} {R : α → β → Prop} {l : List α} {m : List β} (h : Paired R l m) : ∀ {i : Nat} {x : α}, l[i]? = some x → ∃ y, m[i]? = some y ∧ R x y := by
  induction h with
  | nil => intro i x e; cases i <;> cases e
  | cons r t ih =>
    intro i x e
    cases i with
    | zero => cases e; exact ⟨_, rfl, r⟩
    | succ i => exact ih e
theorem paired_at2 {α β : Type} {R : α → β → Prop} {l : List α} {m : List β} (h : Paired R l m) : ∀ {i : Nat} {y : β}, m[i]? = some y → ∃ x, l[i]? = some x ∧ R x y := by
  induction h with
  | nil => intro i x e; cases i <;> cases e
  | cons r t ih =>
    intro i x e
    cases i with
    | zero => cases e; exact ⟨_, rfl, r⟩
    | succ i => exact ih e
theorem sum_cast (l : List Nat) : (l.map (fun n : Nat => (n : Int))).sum = ((l.sum : Nat) : Int) := by
  induction l with
  | nil => rfl
  | cons a r ih => rw [List.map_cons, List.sum_cons, List.sum_cons, ih]; omega
theorem sc_are_doors : FnScope ["row", "door", "warmth", "places"] ["row"] (defScope s_are_doors) := ⟨rfl, rfl, rfl, by decide +kernel, rfl, by decide +kernel, by decide +kernel⟩
theorem ok_are_doors (T : Txt w K mg) : FnR P w K mg base CX0 3 (He.ga K "are_doors") spAreDoors := by
  obtain ⟨fd, F⟩ := T.f_are_doors
  obtain ⟨t1, gD⟩ := T.i_MAX_DOORS
  obtain ⟨t2, gP⟩ := T.i_MAX_PLACES
  obtain ⟨fd1, F1⟩ := T.f_is_door
  have G : FnR P w K mg base CX0 2 (He.ga K "is_door") spIsDoor := ok_is_door T
  refine fnR_mk F sc_are_doors (fun _ _ _ _ _ _ us hl => match us, hl with | [_], _ => rfl) (fun vs H Q E h => ?_) (fun cdv A outer s H vs Q E hr h => ?_)
  · obtain ⟨pd, ds, rfl, _⟩ := h
    rfl
  · obtain ⟨pd, ds, rfl, hd, ⟨l1, l4⟩, hds, hsum, k⟩ := h
    refine ⟨_, pss_cons (ps_if (PW.pt (pw_or (pt_not (pt_chain op_le op_le pe_int (pe_callB call_len_seq (by rfl) T.b_len bo_len (pa_cons (pv 0) pa_nil)) (pe_glob (v := .int 4) (by rfl) gD ⟨_, rfl⟩)))
        (pw_or1 (pt_not (pt_val (pe_callB (cr_all rfl) (by rfl) T.b_all bo_all (pa_cons (pe_lc (own := [("door", 1)]) (g := gName 1) (tt := tYes) rfl sc_are_doors.nd (pi_tup (pv 0)) (blkOk_by (N := ["row", "door", "warmth", "places"]) (sc := defScope s_are_doors) (by decide +kernel))
          (fun _ _ _ _ _ => pg_name (i := 1) sc_are_doors.nd rfl (Or.inl rfl)) (fun _ _ _ _ _ => pts_nil) (fun _ _ _ _ _ => pe_fn G hr (by rfl) T.g_is_door F1.kp (pa_cons (pv 1) pa_nil))) pa_nil)))))))
        (pss_one (ps_ret pe_bl)) pss_nil)
      (pss_one (ps_ret (pe_cmpR op_le (pe_callB (cr_sum rfl) (by rfl) T.b_sum bo_sum (pa_cons (pe_lc (own := [("warmth", 2), ("places", 3)]) (g := gTup _ 2 (gCons (gName 2) (gCons (gName 3) gNil))) (tt := tYes) rfl sc_are_doors.nd (pi_tup (pv 0)) (blkOk_by (N := ["row", "door", "warmth", "places"]) (sc := defScope s_are_doors) (by decide +kernel))
          (fun _ _ _ _ _ => pg_tup rfl (pgs_cons (pg_name (i := 2) sc_are_doors.nd rfl (Or.inl rfl)) (pgs_cons (pg_name (i := 3) sc_are_doors.nd rfl (Or.inl rfl)) pgs_nil))) (fun _ _ _ _ _ => pts_nil) (fun _ _ _ _ _ => pv 3)) pa_nil)) (pe_glob (v := .int 6) (by rfl) gP ⟨_, rfl⟩) (nomark _)))), ?_⟩
    obtain ⟨des, h1, h2⟩ := id hd
    have hlen := Paired.length h2
    refine ⟨_, rfl, pd, des, rfl, .inr (SqT.of h1), 1, _, rfl, rfl, _, rfl, ?_⟩
    rw [hlen]
    rw [decide_eq_true (show (1 : Int) ≤ ((ds.length : Nat) : Int) by omega)]
    refine iteT ⟨_, 4, rfl, rfl, _, rfl, ?_⟩
    rw [decide_eq_true (show ((ds.length : Nat) : Int) ≤ 4 by omega)]
    refine iteF ?_
    refine ⟨_, rfl, pd, rfl, ⟨_, SqT.of h1⟩, fun D hD => lc_pv (walk_tup (xs := des)) (fun i => des[i]?.bind fun _ => some (.bl true)) hD (fun H1 sm => SqT.of (sm _ _ h1)) ?_ ?_⟩
    · rintro i x H1 H2 hi pv ⟨rfl, hx⟩
      refine ⟨rfl, ?_⟩
      obtain ⟨d, hdi, q, rfl, hq⟩ := paired_at h2 hx
      obtain ⟨⟨a1, a2⟩, a3, a4⟩ := hds d (List.mem_of_getElem? hdi)
      refine ⟨_, rfl, q, d.1, (d.2 : Nat), rfl, pv.1 _ _ hq, ⟨a1, a2, by omega, by omega⟩, pvL_put hD pv (Same.refl _) (bind_at hx) (by omega)⟩
    · intro H1 ⟨sm, hl⟩
      rw [resL_map] at hl
      refine ⟨D, des.map fun _ => true, rfl, SqL.of (by rw [hl, List.map_map]; rfl), true, ?_, iteF ?_⟩
      · congr 1
        rw [List.all_map]
        exact List.all_eq_true.mpr fun _ _ => rfl
      · refine ⟨_, rfl, pd, rfl, ⟨_, SqT.of (sm _ _ h1)⟩, fun D2 hD2 => lc_pv (walk_tup (xs := des)) (fun i => ds[i]?.bind fun d => some (.int (d.2 : Nat))) hD2 (fun H2 sm2 => SqT.of (sm2 _ _ (sm _ _ h1))) ?_ ?_⟩
        · rintro i x H2 H3 hi pv ⟨rfl, hx⟩
          obtain ⟨d, hdi, q, rfl, hq⟩ := paired_at h2 hx
          refine ⟨q, _, rfl, SqT.of (pv.1 _ _ (sm _ _ hq)), rfl, _, _, rfl, _, _, rfl, rfl, rfl, ?_⟩
          exact ⟨_, rfl, pvL_put hD2 pv (Same.refl _) (bind_at hdi) (by omega)⟩
        · intro H2 ⟨sm2, hl2⟩
          rw [hlen, resL_map] at hl2
          refine ⟨D2, (ds.map (·.2)).map (fun n : Nat => (n : Int)), rfl, SqL.of (by rw [hl2, List.map_map, List.map_map]; rfl), _, _, rfl, rfl, ?_⟩
          rw [sum_cast]
          have le6 : (ds.map (·.2)).sum ≤ 6 := hsum
          show Q (V.bl (decide ((((ds.map (·.2)).sum : Nat) : Int) ≤ 6))) H2
          rw [decide_eq_true (by omega)]
          exact k H2 (Same_trans sm sm2)
end
end Ck
set_option Elab.async false
set_option linter.all false
set_option maxRecDepth 100000
set_option maxHeartbeats 4000000
namespace Ck
open PySem PySem.Spec PyProof.Rows L2
def ascB (cs : List Str) : Bool := (cs.zip (cs.drop 1)).all fun p => decide (p.1.cps.toList < p.2.cps.toList)
theorem map_at {α : Type} {f : α → V} {xs : List α} {i : Nat} {v : V} (h : (xs.map f)[i]? = some v) : ∃ x, xs[i]? = some x ∧ v = f x := by
  rw [List.getElem?_map] at h
  cases e : xs[i]? with
  | none => rw [e] at h; cases h
  | some x => rw [e] at h; exact ⟨x, rfl, (Option.some.inj h).symm⟩
theorem zip_at {α β : Type} {xs : List α} {ys : List β} {i : Nat} {x : α} {y : β} (h1 : xs[i]? = some x) (h2 : ys[i]? = some y) : (xs.zip ys)[i]? = some (x, y) := by
  rw [List.getElem?_zip_eq_some]
  exact ⟨h1, h2⟩
theorem cut_tail (xs : List V) (h : 1 ≤ xs.length) : cutV xs (some 1) none = xs.drop 1 := by
  have e : HT.sIx xs.length 0 (some 1) = 1 := by
    show min (1 : Int).toNat xs.length = 1
    exact Nat.min_eq_left h
  unfold cutV
  rw [e]
  show List.take (xs.length - 1) (List.drop 1 xs) = _
  rw [List.take_of_length_le (by rw [List.length_drop]; exact Nat.le_refl _)]
theorem word_len {z : Str} (h : isWordB z = true) : z.length ≤ 8 := by
  unfold isWordB at h
  simp only [Bool.and_eq_true, decide_eq_true_eq] at h
  exact h.2.1
theorem cr5_asc : ∀ c, ascB (cr5.take c) = true := by
  intro c
  rw [take_min]
  have : ∀ c : Fin 6, ascB (cr5.take c) = true := by decide +kernel
  exact this ⟨min c 5, by omega⟩
theorem GoodSch.asc {S : Sch} (g : GoodSch S) : ascB S.crates = true := by
  obtain ⟨c, e⟩ := g.cr
  rw [e]
  exact cr5_asc c
theorem edges_len : ∀ (k : Nat) (ds : List (Int × Nat)), (edgesFrom k ds).length = sumN ds
  | _, [] => rfl
  | k, d :: r => by
    show (List.replicate d.2 k ++ edgesFrom (k + 1) r).length = ((d :: r).map (·.2)).sum
    rw [List.length_append, List.length_replicate, edges_len (k + 1) r, List.map_cons, List.sum_cons]
    rfl
theorem edges_take : ∀ (k i : Nat) (ds : List (Int × Nat)) (d : Int × Nat), ds[i]? = some d → edgesFrom k (ds.take (i + 1)) = edgesFrom k (ds.take i) ++ List.replicate d.2 (k + i)
  | _, _, [], _, h => by simp at h
  | k, 0, a :: r, d, h => by
    have e : a = d := Option.some.inj h
    subst e
    show List.replicate a.2 k ++ edgesFrom (k + 1) [] = [] ++ List.replicate a.2 (k + 0)
    rw [List.nil_append]
    show List.replicate a.2 k ++ [] = _
    rw [List.append_nil]
    rfl
  | k, i + 1, a :: r, d, h => by
    show List.replicate a.2 k ++ edgesFrom (k + 1) (r.take (i + 1)) = (List.replicate a.2 k ++ edgesFrom (k + 1) (r.take i)) ++ List.replicate d.2 (k + (i + 1))
    rw [edges_take (k + 1) i r d h, List.append_assoc, show k + 1 + i = k + (i + 1) by omega]
theorem flat_one (n : Nat) (v : V) : (List.replicate n [v]).flatten = List.replicate n v := by
  induction n with
  | zero => rfl
  | succ n ih => rw [List.replicate_succ, List.replicate_succ, List.flatten_cons, ih]; rfl
theorem sumN_take : ∀ (i : Nat) (ds : List (Int × Nat)), sumN (ds.take i) ≤ sumN ds
  | _, [] => by rw [List.take_nil]; exact Nat.le_refl _
  | 0, d :: r => Nat.zero_le _
  | i + 1, d :: r => by
    have ih := sumN_take i r
    show d.2 + sumN (r.take i) ≤ d.2 + sumN r
    omega
section
variable {P : Program} {w : World} {K : PySem.W.Frag} {mg : Str → Option Value} {base : Heap}
/-! are_crates -/
def spAreCrates : Sp := fun vs H Q _ => ∃ (pc : Addr) (cs : List Str) (n : Int), vs = [.ref pc, .int n] ∧ H pc = some (.tup (cs.map V.str)) ∧ (1 ≤ cs.length ∧ cs.length ≤ 5 ∧ (cs.length : Int) ≤ n) ∧ (∀ z ∈ cs, isWordB z = true) ∧ ascB cs = true ∧ ∀ H', Same H H' → Q (.bl true) H'
theorem sc_are_crates : FnScope ["row", "places", "name", "one", "other"] ["row", "places"] (defScope s_are_crates) := ⟨rfl, rfl, rfl, by decide +kernel, rfl, by decide +kernel, by decide +kernel⟩
theorem ok_are_crates (T : Txt w K mg) : FnR P w K mg base CX0 2 (He.ga K "are_crates") spAreCrates := by
  obtain ⟨fd, F⟩ := T.f_are_crates
  obtain ⟨t1, g5⟩ := T.i_MAX_CRATES
  obtain ⟨fd1, F1⟩ := T.f_is_word
  have G : FnR P w K mg base CX0 1 (He.ga K "is_word") spIsWord := ok_is_word T
  refine fnR_mk F sc_are_crates (fun _ _ _ _ _ _ us hl => match us, hl with | [_, _], _ => rfl) (fun vs H Q E h => ?_) (fun cdv A outer s H vs Q E hr h => ?_)
  · obtain ⟨pc, cs, n, rfl, _⟩ := h
    rfl
  · obtain ⟨pc, cs, n, rfl, hc, ⟨l1, l5, ln⟩, hw, ha, k⟩ := h
    refine ⟨_, pss_cons (ps_if (PW.pt (pw_or (pt_not (pt_chain op_le op_le pe_int (pe_callB call_len_seq (by rfl) T.b_len bo_len (pa_cons (pv 0) pa_nil)) (pe_callB (call_min2 rfl) (by rfl) T.b_min bo_min (pa_cons (pe_glob (v := .int 5) (by rfl) g5 ⟨_, rfl⟩) (pa_cons (pv 1) pa_nil)))))
        (pw_or1 (pt_not (pt_val (pe_callB (cr_all rfl) (by rfl) T.b_all bo_all (pa_cons (pe_lc (own := [("name", 2)]) (g := gName 2) (tt := tYes) rfl sc_are_crates.nd (pi_tup (pv 0)) (blkOk_by (N := ["row", "places", "name", "one", "other"]) (sc := defScope s_are_crates) (by decide +kernel))
          (fun _ _ _ _ _ => pg_name (i := 2) sc_are_crates.nd rfl (Or.inl rfl)) (fun _ _ _ _ _ => pts_nil) (fun _ _ _ _ _ => pe_fn G hr (by rfl) T.g_is_word F1.kp (pa_cons (pv 2) pa_nil))) pa_nil)))))))
        (pss_one (ps_ret pe_bl)) pss_nil)
      (pss_one (ps_ret (pe_callB (cr_all rfl) (by rfl) T.b_all bo_all (pa_cons (pe_lc (own := [("one", 3), ("other", 4)]) (g := gTup _ 2 (gCons (gName 3) (gCons (gName 4) gNil))) (tt := tYes) rfl sc_are_crates.nd
          (RZ.pi_zipA (by rfl) T.b_zip (pa_cons (pv 0) (pa_cons (pe_slice sl_tupA (pv 0) (po_some pe_int) po_none) pa_nil))) (blkOk_by (N := ["row", "places", "name", "one", "other"]) (sc := defScope s_are_crates) (by decide +kernel))
          (fun _ _ _ _ _ => pg_tup rfl (pgs_cons (pg_name (i := 3) sc_are_crates.nd rfl (Or.inl rfl)) (pgs_cons (pg_name (i := 4) sc_are_crates.nd rfl (Or.inl rfl)) pgs_nil))) (fun _ _ _ _ _ => pts_nil) (fun _ _ _ _ _ => pe_cmpR op_lt_str (pv 3) (pv 4) (nomark _))) pa_nil)))), ?_⟩
    have hlen : (cs.map V.str).length = cs.length := List.length_map _
    refine ⟨_, rfl, pc, _, rfl, .inr (SqT.of hc), 1, _, rfl, rfl, _, rfl, ?_⟩
    rw [hlen, decide_eq_true (show (1 : Int) ≤ ((cs.length : Nat) : Int) by omega)]
    refine ⟨_, rfl, 5, n, rfl, _, _, rfl, rfl, _, rfl, ?_⟩
    rw [decide_eq_true (show ((cs.length : Nat) : Int) ≤ (if n < 5 then n else 5) by split <;> omega)]
    refine ⟨_, rfl, pc, rfl, ⟨_, SqT.of hc⟩, fun D hD => lc_pv (walk_tup (xs := cs.map V.str)) (fun i => cs[i]?.bind fun _ => some (.bl true)) hD (fun H1 sm => SqT.of (sm _ _ hc)) ?_ ?_⟩
    · rintro i x H1 H2 hi pv ⟨rfl, hx⟩
      obtain ⟨z, hz, rfl⟩ := map_at hx
      have wz := hw z (List.mem_of_getElem? hz)
      refine ⟨rfl, ?_⟩
      refine ⟨_, rfl, z, rfl, Nat.le_trans (word_len wz) (by decide), fun H3 s3 => ?_⟩
      rw [wz]
      exact pvL_put hD pv s3 (bind_at hz) (by rw [hlen] at hi; omega)
    · intro H1 ⟨sm, hl⟩
      rw [hlen, resL_map] at hl
      refine ⟨D, cs.map fun _ => true, rfl, SqL.of (by rw [hl, List.map_map]; rfl), true, ?_, ?_⟩
      · congr 1
        rw [List.all_map]
        exact List.all_eq_true.mpr fun _ _ => rfl
      · have nw : ¬ (HT.sIx (cs.map V.str).length 0 (some 1) = 0 ∧ HT.sIx (cs.map V.str).length (cs.map V.str).length none = (cs.map V.str).length) := fun hw => by
          have e : min (1 : Int).toNat (cs.map V.str).length = 0 := hw.1
          rw [hlen] at e
          have : (1 : Int).toNat = 1 := rfl
          omega
        refine ⟨_, rfl, _, rfl, 1, rfl, pc, _, rfl, SqT.of (sm _ _ hc), fun hw => absurd hw nw, fun _ p hp => ?_⟩
        have npc : pc ≠ p := ne_of_none (sm _ _ hc) hp
        have hp2 : (upd H1 p (.tup (cutV (cs.map V.str) (some 1) none))) p = some (.tup ((cs.drop 1).map V.str)) := by
          rw [upd_same, cut_tail _ (by rw [hlen]; exact l1), List.map_drop]
        refine ⟨pc, p, _, _, rfl, .inr ⟨SqT.of (by rw [upd_ne npc]; exact sm _ _ hc), SqT.of hp2, fun D2 hD2 => lc_pv (walk_zipT (xs := cs.map V.str) (ys := (cs.drop 1).map V.str) rfl) (fun i => (cs.zip (cs.drop 1))[i]?.bind fun q => some (.bl (decide (q.1.cps.toList < q.2.cps.toList)))) hD2
          (fun H2 s2 => ⟨SqT.of (s2 _ _ (by rw [upd_ne npc]; exact sm _ _ hc)), SqT.of (s2 _ _ hp2)⟩) ?_ ?_⟩⟩
        · rintro i x H2 H3 hi pv ⟨t, x1, y1, rfl, ht, rfl, hx, hy⟩
          obtain ⟨a, ha1, rfl⟩ := map_at hx
          obtain ⟨b, hb1, rfl⟩ := map_at hy
          refine ⟨t, _, rfl, SqT.of upd_same, rfl, _, _, rfl, _, _, rfl, rfl, rfl, ?_⟩
          refine ⟨_, rfl, _, rfl, a, b, rfl, rfl, pvL_put hD2 pv (Same_new ht) (bind_at (zip_at ha1 hb1)) ?_⟩
          have := (List.getElem?_eq_some_iff.mp ha1).1
          omega
        · intro H2 ⟨s2, hl2⟩
          have en : min (cs.map V.str).length ((cs.drop 1).map V.str).length = (cs.zip (cs.drop 1)).length := by
            rw [List.length_zip, List.length_map, List.length_map]
          rw [en, resL_map] at hl2
          refine ⟨D2, (cs.zip (cs.drop 1)).map fun q => decide (q.1.cps.toList < q.2.cps.toList), rfl, SqL.of (by rw [hl2, List.map_map]; rfl), ?_⟩
          rw [List.all_map]
          show Q (.bl (ascB cs)) H2
          rw [ha]
          exact k H2 (Same_trans sm (Same_trans (Same_new hp) s2))
/-! Store.__init__ -/
def spStoreInit (K : PySem.W.Frag) : Sp := fun vs H Q _ => ∃ (H0 : Hp) (x dx pd pc : Addr) (S : Sch), vs = [.ref x, .ref pd, .ref pc] ∧ H = upd (upd H0 dx (.own x)) x (.ins (cSt K) dx []) ∧ H0 x = none ∧ H0 dx = none ∧ dx ≠ x ∧
  DoorsAt H0 pd S.doors ∧ H0 pc = some (.tup (S.crates.map V.str)) ∧ GoodSch S ∧ ∀ H', Same H0 H' → StoreAt K H' x S → Q .non H'
theorem sc_StoreInit : FnScope ["self", "doors", "crates", "edges", "door", "warmth", "places"] ["self", "doors", "crates"] (defScope s_Store_init) := ⟨rfl, rfl, rfl, by decide +kernel, rfl, by decide +kernel, by decide +kernel⟩
theorem ok_StoreInit (T : Txt w K mg) : FnR P w K mg base CX0 4 (He.ma K (cSt K) "__init__") (spStoreInit K) := by
  obtain ⟨fd, F⟩ := T.f_Store_init
  obtain ⟨fd1, F1⟩ := T.f_are_doors
  obtain ⟨fd2, F2⟩ := T.f_are_crates
  have GD : FnR P w K mg base CX0 3 (He.ga K "are_doors") spAreDoors := ok_are_doors T
  have GC : FnR P w K mg base CX0 2 (He.ga K "are_crates") spAreCrates := ok_are_crates T
  refine fnR_mk F sc_StoreInit (fun _ _ _ _ _ _ us hl => match us, hl with | [_, _, _], _ => rfl) (fun vs H Q E h => ?_) (fun cdv A outer s H vs Q E hr h => ?_)
  · obtain ⟨H0, x, dx, pd, pc, S, rfl, _⟩ := h
    rfl
  · obtain ⟨H0, x, dx, pd, pc, S, rfl, rfl, nx, ndx, nex, hd, hc, g, k⟩ := h
    have nd := sc_StoreInit.nd
    refine ⟨_, pss_cons (ps_if (pt_not (pt_val (pe_fn GD hr (by rfl) T.g_are_doors F1.kp (pa_cons (pv 1) pa_nil)))) (pss_one ps_never) pss_nil)
      (pss_cons (ps_if (pt_not (pt_val (pe_fn GC (hr.mono (by decide)) (by rfl) T.g_are_crates F2.kp (pa_cons (pv 2) (pa_cons (pe_callB (cr_sum rfl) (by rfl) T.b_sum bo_sum (pa_cons (pe_lc (own := [("warmth", 5), ("places", 6)]) (g := gTup _ 2 (gCons (gName 5) (gCons (gName 6) gNil))) (tt := tYes) rfl nd (pi_tup (pv 1)) (blkOk_by (N := ["self", "doors", "crates", "edges", "door", "warmth", "places"]) (sc := defScope s_Store_init) (by decide +kernel))
          (fun _ _ _ _ _ => pg_tup rfl (pgs_cons (pg_name (i := 5) nd rfl (Or.inl rfl)) (pgs_cons (pg_name (i := 6) nd rfl (Or.inl rfl)) pgs_nil))) (fun _ _ _ _ _ => pts_nil) (fun _ _ _ _ _ => pv 6)) pa_nil)) pa_nil))))) (pss_one ps_never) pss_nil)
      (pss_cons (SlX.ps_sl (pv 0) (pe_tup (pa_cons (pv 1) (pa_cons (pv 2) pa_nil))))
      (pss_cons (ps_set (i := 3) nd rfl (Or.inl rfl) (pe_lst pa_nil))
      (pss_cons (ps_for PassesOwn.never rfl (pi_enumT (by rfl) T.b_enumerate (pa_cons (pv 1) pa_nil)) (pg_tup rfl (pgs_cons (pg_name (i := 4) nd rfl (Or.inl rfl)) (pgs_cons (pg_tup rfl (pgs_cons (pg_name (i := 5) nd rfl (Or.inl rfl)) (pgs_cons (pg_name (i := 6) nd rfl (Or.inl rfl)) pgs_nil))) pgs_nil)))
        (pss_one (ps_expr (pe_bm PySem.F.plainAttrs_list PySem.F.slot_list_extend PySem.F.type_list_extend mt_extend (pv 3) (pa_cons (pe_op op_rep (pe_lst (pa_cons (pv 4) pa_nil)) (pv 6)) pa_nil)))))
      (pss_one (SlX.ps_sl (pv 0) (pe_callTy call_tuple_of (by rfl) T.b_tuple bo_tuple (pa_cons (pv 3) pa_nil)))))))), ?_⟩
    have hx0 : (upd (upd H0 dx (.own x)) x (.ins (cSt K) dx [])) x = some (.ins (cSt K) dx []) := upd_same
    have hdx0 : (upd (upd H0 dx (.own x)) x (.ins (cSt K) dx [])) dx = some (.own x) := by rw [upd_ne nex, upd_same]
    have s0 : Same H0 (upd (upd H0 dx (.own x)) x (.ins (cSt K) dx [])) := Same_upd (Same_new ndx) nx
    generalize upd (upd H0 dx (.own x)) x (.ins (cSt K) dx []) = H at hx0 hdx0 s0 ⊢
    have tot : sumN S.doors ≤ 6 := by rw [← edges_len 0]; exact g.tot
    refine ⟨_, rfl, pd, S.doors, rfl, hd.keep (Same_kim s0), ⟨g.d0, g.d4⟩, fun d h => ⟨g.dw d h, g.dn d h⟩, tot, fun H1 s1 => ⟨true, rfl, iteF ?_⟩⟩
    obtain ⟨des, hde, hdp⟩ := id hd
    have sA1 := Same_trans s0 s1
    have hlen := Paired.length hdp
    refine ⟨_, rfl, _, rfl, pd, rfl, ⟨_, SqT.of (sA1 _ _ hde)⟩, fun D hD => lc_pv (walk_tup (xs := des)) (fun i => S.doors[i]?.bind fun d => some (.int (d.2 : Nat))) hD (fun H2 sm => SqT.of (sm _ _ (sA1 _ _ hde))) ?_ ?_⟩
    · rintro i v H2 H3 hi pv ⟨rfl, hv⟩
      obtain ⟨d, hdi, q, rfl, hq⟩ := paired_at hdp hv
      have l4 := g.d4
      exact ⟨q, _, rfl, SqT.of (pv.1 _ _ (sA1 _ _ hq)), rfl, _, _, rfl, _, _, rfl, rfl, rfl, _, rfl, pvL_put hD pv (Same.refl _) (bind_at hdi) (by omega)⟩
    · intro H2 ⟨sm, hl⟩
      rw [hlen, resL_map] at hl
      have sA2 := Same_trans sA1 sm
      refine ⟨D, (S.doors.map (·.2)).map (fun n : Nat => (n : Int)), rfl, SqL.of (by rw [hl, List.map_map, List.map_map]; rfl), pc, S.crates, _, rfl, sA2 _ _ hc, ⟨g.c0, g.c5, ?_⟩, g.words, g.asc, fun H3 s3 => ⟨true, rfl, iteF ?_⟩⟩
      · rw [sum_cast]
        have e : (S.doors.map (·.2)).sum = S.edges.length := (edges_len 0 S.doors).symm
        rw [e]
        exact Int.ofNat_le.mpr g.ct
      · have sA3 := Same_trans sA2 s3
        have hx3 : H3 x = some (.ins (cSt K) dx []) := s3 _ _ (sm _ _ (s1 _ _ hx0))
        refine ⟨_, rfl, _, rfl, (by show 2 ≤ sizeLine; decide), fun pp hpp => ?_⟩
        have hpp0 : H0 pp = none := sA3.free hpp
        have nxp : x ≠ pp := ne_of_none hx3 hpp
        refine ⟨_, rfl, x, cSt K, dx, _, [], 1, rfl, .inl ⟨by rw [upd_ne nxp]; exact hx3, rfl⟩, T.sc_Store, T.sl_Store_parts, ?_⟩
        have sA4 : Same H0 (SlX.slH (upd H3 pp (.tup [.ref pd, .ref pc])) x (cSt K) dx (SlX.putS 1 (.ref pp) [])) := Same_upd (Same_upd (Same_upd sA3 hpp0) ndx) nx
        have hdx3 : H3 dx = some (.own x) := s3 _ _ (sm _ _ (s1 _ _ hdx0))
        have npdx : pp ≠ dx := (ne_of_none hdx3 hpp).symm
        have hp4 : (SlX.slH (upd H3 pp (.tup [.ref pd, .ref pc])) x (cSt K) dx (SlX.putS 1 (.ref pp) [])) pp = some (.tup [.ref pd, .ref pc]) := by rw [SlX.slH_ne nxp.symm npdx, upd_same]
        have hx4 : (SlX.slH (upd H3 pp (.tup [.ref pd, .ref pc])) x (cSt K) dx (SlX.putS 1 (.ref pp) [])) x = some (SlX.SlO x (cSt K) dx [none, some (.ref pp)]) := upd_same
        have hd4 : (SlX.slH (upd H3 pp (.tup [.ref pd, .ref pc])) x (cSt K) dx (SlX.putS 1 (.ref pp) [])) dx = some (.xd []) := by unfold SlX.slH; rw [upd_ne nex, upd_same]
        generalize SlX.slH (upd H3 pp (.tup [.ref pd, .ref pc])) x (cSt K) dx (SlX.putS 1 (.ref pp) []) = H4 at sA4 hp4 hx4 hd4 ⊢
        refine ⟨Nat.zero_le _, fun l hl => ?_⟩
        have l0 : H0 l = none := sA4.free hl
        have nlx : x ≠ l := ne_of_none hx4 hl
        have nld : dx ≠ l := ne_of_none hd4 hl
        have nlp : pp ≠ l := ne_of_none hp4 hl
        refine ⟨_, rfl, pd, des, rfl, SqT.of (by rw [upd_ne (ne_of_none (sA4 _ _ hde) hl)]; exact sA4 _ _ hde), for_it (walk_enumT (xs := des))
          (fun i σ H' => ∃ v4 v5 v6, σ = [some (.ref x), some (.ref pd), some (.ref pc), some (.ref l), v4, v5, v6] ∧ KBut l H4 H' ∧ H' l = some (.lst ((edgesFrom 0 (S.doors.take i)).map fun e => V.int (e : Nat))))
          ⟨none, none, none, rfl, fun b o e nb => by rw [upd_ne nb]; exact e, upd_same⟩ (fun i σ H' _ ⟨_, _, _, _, kb, _⟩ => SqT.of (kb _ _ (sA4 _ _ hde) (ne_of_none (sA4 _ _ hde) hl))) ?_ ?_⟩
        · rintro i v σ H5 H6 hi ⟨v4, v5, v6, rfl, kb, hL⟩ ⟨t, a, b, rfl, ht, rfl, ha, hb⟩
          obtain ⟨d, hdi, q, rfl, hq⟩ := paired_at hdp hb
          have ea : a = .int (i : Nat) := (Option.some.inj ha).symm
          subst ea
          have hq5 : H5 q = some (.tup [.int d.1, .int (d.2 : Nat)]) := kb _ _ (sA4 _ _ hq) (ne_of_none (sA4 _ _ hq) hl)
          have nqt : q ≠ t := ne_of_none hq5 ht
          have nlt : l ≠ t := ne_of_none hL ht
          refine ⟨t, _, rfl, SqT.of upd_same, rfl, _, _, rfl, _, _, rfl, ⟨q, _, rfl, SqT.of (by rw [upd_ne nqt]; exact hq5), rfl, _, _, rfl, _, _, rfl, rfl, rfl, ?_⟩⟩
          have hd2 := g.dn d (List.mem_of_getElem? hdi)
          have hLt : (upd H5 t (.tup [.int (i : Nat), .ref q])) l = some (.lst ((edgesFrom 0 (S.doors.take i)).map fun e => V.int (e : Nat))) := by rw [upd_ne nlt]; exact hL
          refine ⟨_, rfl, .inl ⟨rfl, _, SqL.of hLt⟩, _, rfl, (by show 1 ≤ sizeLine; decide), fun m hm => ⟨_, rfl, m, (d.2 : Nat), _, rfl, rfl, upd_same, by omega, by omega, ?_, fun m2 hm2 => ?_⟩⟩
          · have : ([V.int ((i : Nat) : Int)]).length * ((d.2 : Nat) : Int).toNat ≤ 4 := by
              rw [Int.toNat_natCast, List.length_singleton]
              omega
            exact Nat.le_trans this (by decide)
          · rw [Int.toNat_natCast, flat_one] at *
            have nlm : l ≠ m := ne_of_none hLt hm
            have hLm : (upd (upd H5 t (.tup [.int (i : Nat), .ref q])) m (.lst [.int (i : Nat)])) l = some (.lst ((edgesFrom 0 (S.doors.take i)).map fun e => V.int (e : Nat))) := by rw [upd_ne nlm]; exact hLt
            have nlm2 : l ≠ m2 := ne_of_none hLm hm2
            refine ⟨l, m2, _, _, rfl, rfl, by rw [upd_ne nlm2]; exact hLm, upd_same, ?_, ?_⟩
            · rw [List.length_map, List.length_replicate, edges_len]
              have q1 := sumN_take i S.doors
              exact Nat.le_trans (show _ ≤ 10 by omega) (by decide)
            · refine ⟨some (.int (i : Nat)), some (.int d.1), some (.int (d.2 : Nat)), rfl, fun b o e nb => ?_, ?_⟩
              · have e5 := kb b o e nb
                have et : (upd H5 t (.tup [.int (i : Nat), .ref q])) b = some o := by rw [upd_ne (ne_of_none e5 ht)]; exact e5
                have em : (upd (upd H5 t (.tup [.int (i : Nat), .ref q])) m (.lst [.int (i : Nat)])) b = some o := by rw [upd_ne (ne_of_none et hm)]; exact et
                rw [upd_ne nb, upd_ne (ne_of_none em hm2)]
                exact em
              · rw [upd_same, edges_take 0 i S.doors d hdi, List.map_append, List.map_replicate, Nat.zero_add]
        · rintro σ H5 ⟨v4, v5, v6, rfl, kb, hL⟩
          rw [hlen, List.take_of_length_le (Nat.le_refl _)] at hL
          refine ⟨_, rfl, l, _, rfl, .inl ⟨SqL.of hL, fun pe hpe => ?_⟩⟩
          have hx5 := kb _ _ hx4 nlx
          have hd5 := kb _ _ hd4 nld
          have hp5 := kb _ _ hp4 nlp
          have nxe : x ≠ pe := ne_of_none hx5 hpe
          have nde : dx ≠ pe := ne_of_none hd5 hpe
          have npe : pp ≠ pe := ne_of_none hp5 hpe
          have hx6 : (upd H5 pe (.tup (S.edges.map fun e => V.int (e : Nat)))) x = some (SlX.SlO x (cSt K) dx [none, some (.ref pp)]) := by rw [upd_ne nxe]; exact hx5
          have hd6 : (upd H5 pe (.tup (S.edges.map fun e => V.int (e : Nat)))) dx = some (.xd []) := by rw [upd_ne nde]; exact hd5
          have he6 : (upd H5 pe (.tup (S.edges.map fun e => V.int (e : Nat)))) pe = some (.tup (edgeVs S)) := upd_same
          have hp6 : (upd H5 pe (.tup (S.edges.map fun e => V.int (e : Nat)))) pp = some (.tup [.ref pd, .ref pc]) := by rw [upd_ne npe]; exact hp5
          have sA5 : Same H0 H5 := fun b o e => kb b o (sA4 b o e) (ne_of_none e l0)
          have pe0 : H0 pe = none := sA5.free hpe
          have sA6 : Same H0 (upd H5 pe (.tup (S.edges.map fun e => V.int (e : Nat)))) := Same_upd sA5 pe0
          refine ⟨_, rfl, x, cSt K, dx, _, _, 0, rfl, .inr ⟨hx6, hd6⟩, T.sc_Store, T.sl_Store_edges, ?_⟩
          obtain ⟨kb7, hx7, hd7⟩ := slot_put (vs' := SlX.putS 0 (.ref pe) [none, some (.ref pp)]) hx6 hd6
          refine k _ (fun b o e => kb7 b o (sA6 b o e) (ne_of_none e nx)) ⟨pe, pp, ⟨dx, hx7, hd7⟩, kb7 _ _ he6 nxe.symm, pd, pc, kb7 _ _ hp6 nxp.symm, ?_, kb7 _ _ (sA6 _ _ hc) (ne_of_none hc nx)⟩
          obtain ⟨des', z1, z2⟩ := hd
          exact ⟨des', kb7 _ _ (sA6 _ _ z1) (ne_of_none z1 nx), Paired_mono z2 fun a b ⟨q, e, z⟩ => ⟨q, e, kb7 _ _ (sA6 _ _ z) (ne_of_none z nx)⟩⟩
end
end Ck
set_option Elab.async false
set_option linter.all false
set_option maxRecDepth 100000
set_option maxHeartbeats 4000000
namespace Ck
open PySem PySem.Spec PyProof.Rows L2
/-! ### data that may be compared -/
theorem word_ok {z : Str} (h : isWordB z = true) : PyData.strOk z = true := by
  unfold isWordB at h
  simp only [Bool.and_eq_true, List.all_eq_true, decide_eq_true_eq] at h
  unfold PyData.strOk
  rw [← Array.all_toList]
  refine List.all_eq_true.mpr fun c hc => ?_
  have : ∀ c ∈ ("abcdefghijklmnopqrstuvwxyz" : Str).cps.toList, decide (c < 0x110000) = true := by decide +kernel
  exact this c (h.2.2 c hc)
def Shp (n : Nat) (d : PyData) : Prop := d.canLay0 = true ∧ d.depth ≤ n
theorem Shp.ok {n : Nat} {d : PyData} (h : Shp n d) (hn : n ≤ 64) : SeqAt.shaped d = true := by
  unfold SeqAt.shaped
  rw [h.1, decide_eq_true (Nat.le_trans h.2 hn)]
  rfl
theorem shp_all {n : Nat} : ∀ {ds : List PyData}, (∀ d ∈ ds, Shp n d) → PyData.canLayAll0 ds = true ∧ PyData.depthAll ds ≤ n
  | [], _ => ⟨rfl, Nat.zero_le _⟩
  | d :: ds, h => by
    obtain ⟨h1, h2⟩ := h d List.mem_cons_self
    obtain ⟨h3, h4⟩ := shp_all fun e he => h e (List.mem_cons_of_mem _ he)
    refine ⟨by simp [PyData.canLayAll0, h1, h3], ?_⟩
    show max d.depth (PyData.depthAll ds) ≤ n
    exact Nat.max_le.mpr ⟨h2, h4⟩
theorem shp_tuple {n : Nat} {ds : List PyData} (h : ∀ d ∈ ds, Shp n d) : Shp (n + 1) (.tuple ds) := by
  obtain ⟨h1, h2⟩ := shp_all h
  refine ⟨by simp [PyData.canLay0, h1], ?_⟩
  simp [PyData.depth]
  omega
theorem shp_list {n : Nat} {ds : List PyData} (h : ∀ d ∈ ds, Shp n d) : Shp (n + 1) (.list ds) := by
  obtain ⟨h1, h2⟩ := shp_all h
  refine ⟨by simp [PyData.canLay0, h1], ?_⟩
  simp [PyData.depth]
  omega
theorem shp_none : Shp 0 .none := ⟨rfl, Nat.le_refl _⟩
theorem shp_int (i : Int) : Shp 0 (.int i) := ⟨rfl, Nat.le_refl _⟩
theorem shp_str {i : Str} (h : isWordB i = true) : Shp 0 (.str i) := ⟨word_ok h, Nat.le_refl _⟩
theorem shp_bool (i : Bool) : Shp 0 (.bool i) := ⟨rfl, Nat.le_refl _⟩
theorem Shp.mono {n m : Nat} {d : PyData} (h : Shp n d) (l : n ≤ m) : Shp m d := ⟨h.1, Nat.le_trans h.2 l⟩
theorem Shp.refl {n : Nat} {d : PyData} (h : Shp n d) : PyData.eqv d d = true := SeqAt.eqv_refl d h.1
theorem shp_lay {l : Lay} (h : ∀ z ∈ names l, isWordB z = true) : Shp 1 (.tuple (l.map dO)) := shp_tuple fun d hd => by
  obtain ⟨o, ho, rfl⟩ := List.mem_map.mp hd
  cases o with
  | none => exact shp_none
  | some s => exact shp_str (h s (List.mem_filterMap.mpr ⟨some s, ho, rfl⟩))
theorem shp_strs {l : List Str} (h : ∀ z ∈ l, isWordB z = true) : Shp 1 (.tuple (l.map PyData.str)) := shp_tuple fun d hd => by
  obtain ⟨o, ho, rfl⟩ := List.mem_map.mp hd
  exact shp_str (h o ho)
theorem shp_strL {l : List Str} (h : ∀ z ∈ l, isWordB z = true) : Shp 1 (.list (l.map PyData.str)) := shp_list fun d hd => by
  obtain ⟨o, ho, rfl⟩ := List.mem_map.mp hd
  exact shp_str (h o ho)
theorem shp_intL (l : List Int) : Shp 1 (.list (l.map PyData.int)) := shp_list fun d hd => by
  obtain ⟨o, _, rfl⟩ := List.mem_map.mp hd
  exact shp_int o
theorem dp_strs {K : PySem.W.Frag} {H : Hp} : ∀ (l : List Str), DpAll K H (l.map V.str) (l.map PyData.str)
  | [] => .nil
  | o :: l => .cons (.str o) (dp_strs l)
theorem dp_ints {K : PySem.W.Frag} {H : Hp} : ∀ (l : List Int), DpAll K H (l.map V.int) (l.map PyData.int)
  | [] => .nil
  | o :: l => .cons (.int o) (dp_ints l)
/-- equal data compared -/
theorem eq_dp {K : PySem.W.Frag} {H : Hp} {x y : V} {d : PyData} {n : Nat} {Q : VK} (h1 : Dp K H x d) (h2 : Dp K H y d) (h : Shp n d) (hn : n ≤ 64) (q : Q (.bl true) H) : rEqD K x y H Q :=
  ⟨d, d, h1, h2, h.ok hn, h.ok hn, by rw [h.refl]; exact q⟩
theorem ne_dp {K : PySem.W.Frag} {H : Hp} {x y : V} {d : PyData} {n : Nat} {Q : VK} (h1 : Dp K H x d) (h2 : Dp K H y d) (h : Shp n d) (hn : n ≤ 64) (q : Q (.bl false) H) : rNeD K x y H Q :=
  ⟨d, d, h1, h2, h.ok hn, h.ok hn, by rw [h.refl]; exact q⟩
section
variable {P : Program} {w : World} {K : PySem.W.Frag} {mg : Str → Option Value} {base : Heap}
theorem StoreAt.slt {H : Hp} {st : Addr} {S : Sch} (h : StoreAt K H st S) : ∃ dx pe pp pd pc, SlX.Slt H st (cSt K) dx [some (.ref pe), some (.ref pp)] ∧ H pe = some (.tup (edgeVs S)) ∧ H pp = some (.tup [.ref pd, .ref pc]) ∧ DoorsAt H pd S.doors ∧ H pc = some (.tup (S.crates.map V.str)) := by
  obtain ⟨pe, pp, ⟨dx, h1, h2⟩, he, pd, pc, h3, h4, h5⟩ := h
  exact ⟨dx, pe, pp, pd, pc, .inr ⟨h1, h2⟩, he, h3, h4, h5⟩
/-! the store's properties -/
def spStDoors (K : PySem.W.Frag) : Sp := fun vs H Q _ => ∃ (st : Addr) (S : Sch), vs = [.ref st] ∧ StoreAt K H st S ∧ ∀ pd, DoorsAt H pd S.doors → Q (.ref pd) H
def spStCrates (K : PySem.W.Frag) : Sp := fun vs H Q _ => ∃ (st : Addr) (S : Sch), vs = [.ref st] ∧ StoreAt K H st S ∧ ∀ pc, H pc = some (.tup (S.crates.map V.str)) → Q (.ref pc) H
def spStSize (K : PySem.W.Frag) : Sp := fun vs H Q _ => ∃ (st : Addr) (S : Sch), vs = [.ref st] ∧ StoreAt K H st S ∧ Q (.int (S.edges.length : Nat)) H
theorem sc_StDoors : FnScope ["self"] ["self"] (defScope s_Store_doors) := ⟨rfl, rfl, rfl, by decide +kernel, rfl, by decide +kernel, by decide +kernel⟩
theorem sc_StCrates : FnScope ["self"] ["self"] (defScope s_Store_crates) := ⟨rfl, rfl, rfl, by decide +kernel, rfl, by decide +kernel, by decide +kernel⟩
theorem sc_StSize : FnScope ["self"] ["self"] (defScope s_Store_size) := ⟨rfl, rfl, rfl, by decide +kernel, rfl, by decide +kernel, by decide +kernel⟩
theorem ok_StDoors (T : Txt w K mg) : FnR P w K mg base CX0 1 (pga K (cSt K) "doors") (spStDoors K) := by
  obtain ⟨fd, F⟩ := T.f_Store_doors
  refine fnR_mk F sc_StDoors (fun _ _ _ _ _ _ us hl => match us, hl with | [_], _ => rfl) (fun vs H Q E h => ?_) (fun cdv A outer s H vs Q E hr h => ?_)
  · obtain ⟨st, S, rfl, _⟩ := h
    rfl
  · obtain ⟨st, S, rfl, hs, k⟩ := h
    obtain ⟨dx, pe, pp, pd, pc, h1, h2, h3, h4, h5⟩ := hs.slt
    refine ⟨_, pss_one (ps_ret (pe_ix ix_tup (SlX.pe_sl (pv 0)) pe_int (fun _ _ => rfl))), ?_⟩
    exact ⟨_, rfl, st, _, dx, _, _, 1, .ref pp, rfl, h1, T.sc_Store, T.sl_Store_parts, rfl, pp, _, 0, .ref pd, rfl, rfl, SqT.of h3, rfl, k pd h4⟩
theorem ok_StCrates (T : Txt w K mg) : FnR P w K mg base CX0 1 (pga K (cSt K) "crates") (spStCrates K) := by
  obtain ⟨fd, F⟩ := T.f_Store_crates
  refine fnR_mk F sc_StCrates (fun _ _ _ _ _ _ us hl => match us, hl with | [_], _ => rfl) (fun vs H Q E h => ?_) (fun cdv A outer s H vs Q E hr h => ?_)
  · obtain ⟨st, S, rfl, _⟩ := h
    rfl
  · obtain ⟨st, S, rfl, hs, k⟩ := h
    obtain ⟨dx, pe, pp, pd, pc, h1, h2, h3, h4, h5⟩ := hs.slt
    refine ⟨_, pss_one (ps_ret (pe_ix ix_tup (SlX.pe_sl (pv 0)) pe_int (fun _ _ => rfl))), ?_⟩
    exact ⟨_, rfl, st, _, dx, _, _, 1, .ref pp, rfl, h1, T.sc_Store, T.sl_Store_parts, rfl, pp, _, 1, .ref pc, rfl, rfl, SqT.of h3, rfl, k pc h5⟩
theorem edgeVs_len (S : Sch) : (edgeVs S).length = S.edges.length := List.length_map _
theorem ok_StSize (T : Txt w K mg) : FnR P w K mg base CX0 1 (pga K (cSt K) "size") (spStSize K) := by
  obtain ⟨fd, F⟩ := T.f_Store_size
  refine fnR_mk F sc_StSize (fun _ _ _ _ _ _ us hl => match us, hl with | [_], _ => rfl) (fun vs H Q E h => ?_) (fun cdv A outer s H vs Q E hr h => ?_)
  · obtain ⟨st, S, rfl, _⟩ := h
    rfl
  · obtain ⟨st, S, rfl, hs, k⟩ := h
    obtain ⟨dx, pe, pp, pd, pc, h1, h2, h3, h4, h5⟩ := hs.slt
    refine ⟨_, pss_one (ps_ret (pe_callB call_len_seq (by rfl) T.b_len bo_len (pa_cons (SlX.pe_sl (pv 0)) pa_nil))), ?_⟩
    refine ⟨_, rfl, st, _, dx, _, _, 0, .ref pe, rfl, h1, T.sc_Store, T.sl_Store_edges, rfl, pe, _, rfl, .inr (SqT.of h2), ?_⟩
    rw [edgeVs_len]
    exact k
/-! door_of, places_of -/
def spDoorOf (K : PySem.W.Frag) : Sp := fun vs H Q _ => ∃ (st : Addr) (S : Sch) (p : Nat), vs = [.ref st, .int (p : Nat)] ∧ StoreAt K H st S ∧ p < S.edges.length ∧ Q (.int (S.edge p : Nat)) H
def spPlacesOf (K : PySem.W.Frag) : Sp := fun vs H Q _ => ∃ (st : Addr) (S : Sch) (d : Nat), vs = [.ref st, .int (d : Nat)] ∧ StoreAt K H st S ∧ d < S.doors.length ∧ S.doors.length ≤ 4 ∧ S.edges.length ≤ 6 ∧ ∀ v H', Same H H' → Q v H'
theorem edge_at {S : Sch} {p : Nat} (h : p < S.edges.length) : (edgeVs S)[p]? = some (.int (S.edge p : Nat)) := by
  unfold edgeVs Sch.edge
  rw [List.getElem?_map, List.getElem?_eq_getElem h, List.getD_eq_getElem?_getD, List.getElem?_eq_getElem h]
  rfl
theorem sc_DoorOf : FnScope ["self", "place"] ["self", "place"] (defScope s_Store_door_of) := ⟨rfl, rfl, rfl, by decide +kernel, rfl, by decide +kernel, by decide +kernel⟩
theorem ok_DoorOf (T : Txt w K mg) : FnR P w K mg base CX0 2 (He.ma K (cSt K) "door_of") (spDoorOf K) := by
  obtain ⟨fd, F⟩ := T.f_Store_door_of
  obtain ⟨fd1, F1⟩ := T.f_is_number
  have G : FnR P w K mg base CX0 1 (He.ga K "is_number") spIsNum := ok_is_number T
  refine fnR_mk F sc_DoorOf (fun _ _ _ _ _ _ us hl => match us, hl with | [_, _], _ => rfl) (fun vs H Q E h => ?_) (fun cdv A outer s H vs Q E hr h => ?_)
  · obtain ⟨st, S, p, rfl, _⟩ := h
    rfl
  · obtain ⟨st, S, p, rfl, hs, hp, k⟩ := h
    obtain ⟨dx, pe, pp, pd, pc, h1, h2, h3, h4, h5⟩ := hs.slt
    refine ⟨_, pss_cons (ps_if (pt_not (pt_val (pe_fn G hr (by rfl) T.g_is_number F1.kp (pa_cons (pv 1) (pa_cons pe_int (pa_cons (pe_op op_sub (pe_callB call_len_seq (by rfl) T.b_len bo_len (pa_cons (SlX.pe_sl (pv 0)) pa_nil)) pe_int) pa_nil)))))) (pss_one ps_never) pss_nil)
      (pss_one (ps_ret (pe_ix ix_tup (SlX.pe_sl (pv 0)) (pv 1) (fun _ _ => rfl)))), ?_⟩
    refine ⟨_, rfl, _, rfl, st, _, dx, _, _, 0, .ref pe, rfl, h1, T.sc_Store, T.sl_Store_edges, rfl, pe, _, rfl, .inr (SqT.of h2), _, 1, rfl, rfl, (p : Nat), 0, _, rfl, _, rfl, ?_⟩
    rw [edgeVs_len, decide_eq_true (show (0 : Int) ≤ ((p : Nat) : Int) by omega), decide_eq_true (show ((p : Nat) : Int) ≤ ((S.edges.length : Nat) : Int) - 1 by omega)]
    refine iteF ?_
    exact ⟨_, rfl, st, _, dx, _, _, 0, .ref pe, rfl, h1, T.sc_Store, T.sl_Store_edges, rfl, _, rfl, pe, _, (p : Nat), .int (S.edge p : Nat), rfl, rfl, SqT.of h2, atI_nat (edge_at hp), k⟩
theorem sc_PlacesOf : FnScope ["self", "door", "place", "edge"] ["self", "door"] (defScope s_Store_places_of) := ⟨rfl, rfl, rfl, by decide +kernel, rfl, by decide +kernel, by decide +kernel⟩
theorem ok_PlacesOf (T : Txt w K mg) : FnR P w K mg base CX0 2 (He.ma K (cSt K) "places_of") (spPlacesOf K) := by
  obtain ⟨fd, F⟩ := T.f_Store_places_of
  obtain ⟨fd1, F1⟩ := T.f_is_number
  have G : FnR P w K mg base CX0 1 (He.ga K "is_number") spIsNum := ok_is_number T
  refine fnR_mk F sc_PlacesOf (fun _ _ _ _ _ _ us hl => match us, hl with | [_, _], _ => rfl) (fun vs H Q E h => ?_) (fun cdv A outer s H vs Q E hr h => ?_)
  · obtain ⟨st, S, p, rfl, _⟩ := h
    rfl
  · obtain ⟨st, S, d, rfl, hs, hd, l4, l6, k⟩ := h
    obtain ⟨dx, pe, pp, pd, pc, h1, h2, h3, h4, h5⟩ := hs.slt
    have nd := sc_PlacesOf.nd
    refine ⟨_, pss_cons (ps_if (pt_not (pt_val (pe_fn G hr (by rfl) T.g_is_number F1.kp (pa_cons (pv 1) (pa_cons pe_int (pa_cons (pe_op op_sub (pe_callB call_len_seq (by rfl) T.b_len bo_len (pa_cons (pe_ix ix_tup (SlX.pe_sl (pv 0)) pe_int (fun _ _ => rfl)) pa_nil)) pe_int) pa_nil)))))) (pss_one ps_never) pss_nil)
      (pss_one (ps_ret (pe_callTy call_tuple_of (by rfl) T.b_tuple bo_tuple (pa_cons (pe_lc (own := [("place", 2), ("edge", 3)]) (g := gTup _ 2 (gCons (gName 2) (gCons (gName 3) gNil))) rfl nd (pi_enumT (by rfl) T.b_enumerate (pa_cons (SlX.pe_sl (pv 0)) pa_nil)) (blkOk_by (N := ["self", "door", "place", "edge"]) (sc := defScope s_Store_places_of) (by decide +kernel))
        (fun _ _ _ _ _ => pg_tup rfl (pgs_cons (pg_name (i := 2) nd rfl (Or.inl rfl)) (pgs_cons (pg_name (i := 3) nd rfl (Or.inl rfl)) pgs_nil))) (fun _ _ _ _ _ => pts_one (pt_cmpR op_eq (pv 3) (pv 1) (nomark _))) (fun _ _ _ _ _ => pv 2)) pa_nil)))), ?_⟩
    obtain ⟨des, hde, hdp⟩ := h4
    have hlen := Paired.length hdp
    refine ⟨_, rfl, _, rfl, st, _, dx, _, _, 1, .ref pp, rfl, h1, T.sc_Store, T.sl_Store_parts, rfl, pp, _, 0, .ref pd, rfl, rfl, SqT.of h3, rfl, pd, _, rfl, .inr (SqT.of hde), _, 1, rfl, rfl, (d : Nat), 0, _, rfl, _, rfl, ?_⟩
    rw [hlen, decide_eq_true (show (0 : Int) ≤ ((d : Nat) : Int) by omega), decide_eq_true (show ((d : Nat) : Int) ≤ ((S.doors.length : Nat) : Int) - 1 by omega)]
    refine iteF ?_
    refine ⟨_, rfl, st, _, dx, _, _, 0, .ref pe, rfl, h1, T.sc_Store, T.sl_Store_edges, rfl, pe, _, rfl, SqT.of h2, fun D hD => lc_pv (walk_enumT (xs := edgeVs S)) (fun i => S.edges[i]?.bind fun e => if e = d then some (.int (i : Nat)) else none) hD (fun H1 sm => SqT.of (sm _ _ h2)) ?_ ?_⟩
    · rintro i v H1 H2 hi pv ⟨t, a, b, rfl, ht, rfl, ha, hb⟩
      obtain ⟨e, he, rfl⟩ := map_at hb
      have ea : a = .int (i : Nat) := (Option.some.inj ha).symm
      subst ea
      refine ⟨t, _, rfl, SqT.of upd_same, rfl, _, _, rfl, _, _, rfl, rfl, rfl, _, rfl, _, rfl, rfl, _, rfl, ?_⟩
      have st2 : Same H1 (upd H1 t (.tup [.int (i : Nat), .int (e : Nat)])) := Same_new ht
      by_cases hed : e = d
      · rw [decide_eq_true (by rw [hed])]
        exact iteT ⟨_, rfl, pvL_put hD pv st2 (by rw [bind_at he, if_pos hed]) (by rw [edgeVs_len] at hi; omega)⟩
      · rw [decide_eq_false (by intro z; injection z with z; exact hed (Int.ofNat.inj z))]
        exact iteF (pvL_skip pv st2 (by rw [bind_at he, if_neg hed]))
    · intro H1 ⟨sm, hl⟩
      exact ⟨D, _, rfl, .inl ⟨SqL.of hl, fun l hl2 => k _ _ (Same_trans sm (Same_new hl2))⟩⟩
end
end Ck
set_option Elab.async false
set_option linter.all false
set_option maxRecDepth 100000
set_option maxHeartbeats 4000000
namespace Ck
open PySem PySem.Spec PyProof.Rows L2
theorem eqvAll_strs : ∀ (xs ys : List Str), PyData.eqvAll (xs.map PyData.str) (ys.map PyData.str) = decide (xs = ys)
  | [], [] => by simp [PyData.eqvAll]
  | [], _ :: _ => by simp [PyData.eqvAll]
  | _ :: _, [] => by simp [PyData.eqvAll]
  | x :: xs, y :: ys => by
    rw [List.map_cons, List.map_cons]
    simp only [PyData.eqvAll, PyData.eqv, eqvAll_strs xs ys, List.cons.injEq, Bool.decide_and]
    congr 1
theorem eqv_strL (xs ys : List Str) : PyData.eqv (.list (xs.map PyData.str)) (.list (ys.map PyData.str)) = decide (xs = ys) := by
  simp only [PyData.eqv]
  exact eqvAll_strs xs ys
theorem layV_len (l : Lay) : (layV l).length = l.length := List.length_map _
theorem lay_at {l : Lay} {i : Nat} {v : V} (h : (layV l)[i]? = some v) : ∃ o, l[i]? = some o ∧ v = vO o := by
  unfold layV at h
  rw [List.getElem?_map] at h
  cases e : l[i]? with
  | none => rw [e] at h; cases h
  | some x => rw [e] at h; exact ⟨x, rfl, (Option.some.inj h).symm⟩
theorem lay_get {l : Lay} {i : Nat} {o : Option Str} (h : l[i]? = some o) : (layV l)[i]? = some (vO o) := by
  unfold layV
  rw [List.getElem?_map, h]
  rfl
theorem names_V (l : Lay) : l.filterMap (fun o => o.map V.str) = (names l).map V.str := by
  unfold names
  induction l with
  | nil => rfl
  | cons o l ih =>
    cases o with
    | none => exact ih
    | some s =>
      rw [List.filterMap_cons, List.filterMap_cons, ih]
      rfl
theorem flat_lay (l : Lay) : (layV l).all flatV = true := by
  refine List.all_eq_true.mpr fun v hv => ?_
  obtain ⟨o, _, rfl⟩ := List.mem_map.mp hv
  cases o <;> rfl
theorem inV_strs (n : Str) (cs : List Str) : inV (.str n) (cs.map V.str) = decide (n ∈ cs) := by
  unfold inV
  rw [List.any_map, Bool.eq_iff_iff, List.any_eq_true, decide_eq_true_eq]
  constructor
  · rintro ⟨x, hx, e⟩
    have : (x == n) = true := e
    rw [← eq_of_beq this]
    exact hx
  · intro h
    exact ⟨n, h, beq_self_eq_true n⟩
theorem flat_strV (cs : List Str) : (cs.map V.str).all flatV = true := by
  refine List.all_eq_true.mpr fun v hv => ?_
  obtain ⟨o, _, rfl⟩ := List.mem_map.mp hv
  rfl
theorem GoodLay.few {S : Sch} {l : Lay} (g : GoodSch S) (h : GoodLay S l) : (names l).length ≤ 5 := by
  rw [h.per.length_eq]
  exact g.c5
theorem GoodLay.words {S : Sch} {l : Lay} (g : GoodSch S) (h : GoodLay S l) : ∀ z ∈ names l, isWordB z = true := fun z hz => g.words z (h.per.mem_iff.mp hz)
theorem GoodLay.six {S : Sch} {l : Lay} (g : GoodSch S) (h : GoodLay S l) : l.length ≤ 6 := by
  rw [h.len]
  exact g.tot
theorem isiK {X : Cx} {K : PySem.W.Frag} (h : X.K = K) : CallR X (.builtin "isinstance") (rIsi K) := by
  subst h
  exact call_isi
theorem ixTK {X : Cx} {K : PySem.W.Frag} (h : X.K = K) : IxR X (rIxT K) := by
  subst h
  exact ix_tup
theorem ixLK {X : Cx} {K : PySem.W.Frag} (h : X.K = K) : IxR X (rIxL K) := by
  subst h
  exact ix_list
section
variable {P : Program} {w : World} {K : PySem.W.Frag} {mg : Str → Option Value} {base : Heap}
/-! is_layout, check_layout, check_crate -/
def spIsLayout (K : PySem.W.Frag) (r : V) : Sp := fun vs H Q _ => ∃ (st p : Addr) (S : Sch) (lay : Lay), vs = [.ref st, .ref p] ∧ StoreAt K H st S ∧ GoodSch S ∧ TupN H p (layV lay) ∧ GoodLay S lay ∧ ∀ H', Same H H' → Q r H'
theorem sc_IsLayout : FnScope ["store", "value", "name"] ["store", "value"] (defScope s_is_layout) := ⟨rfl, rfl, rfl, by decide +kernel, rfl, by decide +kernel, by decide +kernel⟩
theorem ok_IsLayout (T : Txt w K mg) : FnR P w K mg base CX0 3 (He.ga K "is_layout") (spIsLayout K (.bl true)) := by
  obtain ⟨fd, F⟩ := T.f_is_layout
  have GZ : FnR P w K mg base CX0 1 (pga K (cSt K) "size") (spStSize K) := ok_StSize T
  have GC : FnR P w K mg base CX0 1 (pga K (cSt K) "crates") (spStCrates K) := ok_StCrates T
  refine fnR_mk F sc_IsLayout (fun _ _ _ _ _ _ us hl => match us, hl with | [_, _], _ => rfl) (fun vs H Q E h => ?_) (fun cdv A outer s H vs Q E hr h => ?_)
  · obtain ⟨st, p, S, lay, rfl, _⟩ := h
    rfl
  · obtain ⟨st, p, S, lay, rfl, hs, g, hp, gl, k⟩ := h
    have nd := sc_IsLayout.nd
    have pz := T.p_Store_size
    have pc := T.p_Store_crates
    refine ⟨_, pss_cons (ps_if (PW.pt (pw_or (pt_not (pt_val (pe_callB call_isi (by rfl) T.b_isinstance bo_isinstance (pa_cons (pv 1) (pa_cons (pe_bltn (v := .ty "tuple") (by rfl) T.b_tuple bo_tuple rfl) pa_nil)))))
        (pw_or1 (pt_cmpR op_ne (pe_callB call_len_seq (by rfl) T.b_len bo_len (pa_cons (pv 1) pa_nil)) (SlX.pe_propSl (E := E0) (pv 0) T.sc_Store pz.at_ pz.get pz.tak pz.rec_ GZ hr (fun _ _ _ _ z => z)) (nomark _)))))
        (pss_one (ps_ret pe_bl)) pss_nil)
      (pss_cons (ps_if (pt_not (pt_val (pe_callB (cr_all rfl) (by rfl) T.b_all bo_all (pa_cons (pe_lc (own := [("name", 2)]) (g := gName 2) (tt := tYes) rfl nd (pi_tup (pv 1)) (blkOk_by (N := ["store", "value", "name"]) (sc := defScope s_is_layout) (by decide +kernel))
          (fun _ _ _ _ _ => pg_name (i := 2) nd rfl (Or.inl rfl)) (fun _ _ _ _ _ => pts_nil) (fun _ _ _ _ _ => pe_or (pe_cmpR op_isN (pv 2) pe_non (nomark _)) (pe_one (pe_callB (isiK (K := K) rfl) (by rfl) T.b_isinstance bo_isinstance (pa_cons (pv 2) (pa_cons (pe_bltn (v := .ty "str") (by rfl) T.b_str bo_str rfl) pa_nil)))))) pa_nil)))) (pss_one (ps_ret pe_bl)) pss_nil)
      (pss_one (ps_ret (pe_cmpR (op_eqD hr.units) (pe_callTy call_tuple_of (by rfl) T.b_tuple bo_tuple (pa_cons (pe_callB cr_sortedS (by rfl) T.b_sorted bo_sorted (pa_cons (pe_lc (own := [("name", 2)]) (g := gName 2) rfl nd (pi_tup (pv 1)) (blkOk_by (N := ["store", "value", "name"]) (sc := defScope s_is_layout) (by decide +kernel))
          (fun _ _ _ _ _ => pg_name (i := 2) nd rfl (Or.inl rfl)) (fun _ _ _ _ _ => pts_one (pt_cmpR op_notN (pv 2) pe_non (nomark _))) (fun _ _ _ _ _ => pv 2)) pa_nil)) pa_nil))
          (SlX.pe_propSl (E := E0) (pv 0) T.sc_Store pc.at_ pc.get pc.tak pc.rec_ GC hr (fun _ _ _ _ z => z)) (nomark _))))), ?_⟩
    obtain ⟨dx, pe, pp, pd, pcr, h1, h2, h3, h4, h5⟩ := hs.slt
    have six := gl.six g
    refine ⟨_, rfl, _, _, _, _, true, rfl, .ty _, .fTuple hp.choose_spec.1, kit_ty kb_tt, true, rfl, iteF ?_⟩
    refine ⟨_, rfl, p, _, rfl, .inr hp.sq, _, rfl, st, dx, _, rfl, h1, st, S, rfl, hs, rfl, _, rfl, ?_⟩
    refine iteNS (by rw [layV_len, gl.len]) ?_
    refine ⟨_, rfl, p, rfl, ⟨_, hp.sq⟩, fun D hD => lc_pv (walk_tup (xs := layV lay)) (fun i => lay[i]?.bind fun _ => some (.bl true)) hD (fun H1 sm => (hp.same sm).sq) ?_ ?_⟩
    · rintro i x H1 H2 hi pv ⟨rfl, hx⟩
      obtain ⟨o, ho, rfl⟩ := lay_at hx
      rw [layV_len] at hi
      refine ⟨rfl, ?_⟩
      cases o with
      | none => exact ⟨_, rfl, rfl, true, rfl, iteT (pvL_put hD pv (Same.refl _) (bind_at ho) (by omega))⟩
      | some z => exact ⟨_, rfl, rfl, false, rfl, iteF ⟨_, rfl, _, _, _, _, true, rfl, .ty _, .base (.str _), kit_ty kb_ss, pvL_put hD pv (Same.refl _) (bind_at ho) (by omega)⟩⟩
    · intro H1 ⟨sm, hl⟩
      rw [layV_len, resL_map] at hl
      refine ⟨D, lay.map fun _ => true, rfl, SqL.of (by rw [hl, List.map_map]; rfl), true, ?_, iteF ?_⟩
      · congr 1
        rw [List.all_map]
        exact List.all_eq_true.mpr fun _ _ => rfl
      · refine ⟨_, rfl, p, rfl, ⟨_, (hp.same sm).sq⟩, fun D2 hD2 => lc_pv (walk_tup (xs := layV lay)) (fun i => lay[i]?.bind fun o => o.map V.str) hD2 (fun H2 s2 => ((hp.same sm).same s2).sq) ?_ ?_⟩
        · rintro i x H2 H3 hi pv ⟨rfl, hx⟩
          obtain ⟨o, ho, rfl⟩ := lay_at hx
          rw [layV_len] at hi
          refine ⟨rfl, ?_⟩
          cases o with
          | none => exact ⟨_, rfl, rfl, false, rfl, iteF (pvL_skip pv (Same.refl _) (bind_at ho))⟩
          | some z => exact ⟨_, rfl, rfl, true, rfl, iteT ⟨_, rfl, pvL_put hD2 pv (Same.refl _) (bind_at ho) (by omega)⟩⟩
        · intro H2 ⟨s2, hl2⟩
          rw [layV_len, resL_all, names_V] at hl2
          refine ⟨D2, names lay, rfl, SqL.of hl2, Nat.lt_of_le_of_lt (gl.few g) (by decide), fun ys q perm srt hq => ?_⟩
          refine ⟨q, _, rfl, .inl ⟨SqL.of upd_same, fun l hl => ?_⟩⟩
          have sA := Same_trans sm (Same_trans s2 (Same_trans (Same_new (o := .lst (ys.map V.str)) hq) (Same_new (o := .tup (ys.map V.str)) hl)))
          obtain ⟨dx', pe', pp', pd', pcr', z1, z2, z3, z4, z5⟩ := (hs.same sA).slt
          refine ⟨_, rfl, st, dx', _, rfl, z1, st, S, rfl, hs.same sA, fun pc hpc => ?_⟩
          have ey : ys = S.crates := sorted_one srt g.sorted (perm.trans gl.per)
          subst ey
          exact eq_dp (.tup (SqT.of upd_same) (dp_strs _)) (.tup (SqT.of hpc) (dp_strs _)) (shp_strs g.words) (by decide) (k _ sA)
theorem sc_CheckLayout : FnScope ["store", "layout"] ["store", "layout"] (defScope s_check_layout) := ⟨rfl, rfl, rfl, by decide +kernel, rfl, by decide +kernel, by decide +kernel⟩
theorem ok_CheckLayout (T : Txt w K mg) : FnR P w K mg base CX0 4 (He.ga K "check_layout") (spIsLayout K .non) := by
  obtain ⟨fd, F⟩ := T.f_check_layout
  obtain ⟨fd1, F1⟩ := T.f_is_layout
  have G : FnR P w K mg base CX0 3 (He.ga K "is_layout") (spIsLayout K (.bl true)) := ok_IsLayout T
  refine fnR_mk F sc_CheckLayout (fun _ _ _ _ _ _ us hl => match us, hl with | [_, _], _ => rfl) (fun vs H Q E h => ?_) (fun cdv A outer s H vs Q E hr h => ?_)
  · obtain ⟨st, p, S, lay, rfl, _⟩ := h
    rfl
  · obtain ⟨st, p, S, lay, rfl, hs, g, hp, gl, k⟩ := h
    refine ⟨_, pss_one (ps_if (pt_not (pt_val (pe_fn G hr (by rfl) T.g_is_layout F1.kp (pa_cons (pv 0) (pa_cons (pv 1) pa_nil))))) (pss_one ps_never) pss_nil), ?_⟩
    exact ⟨_, rfl, _, rfl, st, p, S, lay, rfl, hs, g, hp, gl, fun H' sm => ⟨true, rfl, iteF (k H' sm)⟩⟩
def spCheckCrate (K : PySem.W.Frag) : Sp := fun vs H Q _ => ∃ (st : Addr) (S : Sch) (n : Str), vs = [.ref st, .str n] ∧ StoreAt K H st S ∧ n ∈ S.crates ∧ Q .non H
theorem sc_CheckCrate : FnScope ["store", "name"] ["store", "name"] (defScope s_check_crate) := ⟨rfl, rfl, rfl, by decide +kernel, rfl, by decide +kernel, by decide +kernel⟩
theorem ok_CheckCrate (T : Txt w K mg) : FnR P w K mg base CX0 3 (He.ga K "check_crate") (spCheckCrate K) := by
  obtain ⟨fd, F⟩ := T.f_check_crate
  have GC : FnR P w K mg base CX0 1 (pga K (cSt K) "crates") (spStCrates K) := ok_StCrates T
  refine fnR_mk F sc_CheckCrate (fun _ _ _ _ _ _ us hl => match us, hl with | [_, _], _ => rfl) (fun vs H Q E h => ?_) (fun cdv A outer s H vs Q E hr h => ?_)
  · obtain ⟨st, S, n, rfl, _⟩ := h
    rfl
  · obtain ⟨st, S, n, rfl, hs, hn, k⟩ := h
    have pc := T.p_Store_crates
    refine ⟨_, pss_one (ps_if (PW.pt (pw_or (pt_not (pt_val (pe_callB call_isi (by rfl) T.b_isinstance bo_isinstance (pa_cons (pv 1) (pa_cons (pe_bltn (v := .ty "str") (by rfl) T.b_str bo_str rfl) pa_nil)))))
        (pw_or1 (pt_cmpR op_notIn_seq (pv 1) (SlX.pe_propSl (E := E0) (pv 0) T.sc_Store pc.at_ pc.get pc.tak pc.rec_ GC hr (fun _ _ _ _ z => z)) (by rfl))))) (pss_one ps_never) pss_nil), ?_⟩
    obtain ⟨dx, pe, pp, pd, pcr, h1, h2, h3, h4, h5⟩ := hs.slt
    refine ⟨_, rfl, _, _, _, _, true, rfl, .ty _, .base (.str _), kit_ty kb_ss, true, rfl, iteF ?_⟩
    refine ⟨_, rfl, _, rfl, st, dx, _, rfl, h1, st, S, rfl, hs, fun pc hpc => ⟨pc, _, rfl, .inr (SqT.of hpc), rfl, flat_strV _, _, rfl, ?_⟩⟩
    rw [inV_strs, decide_eq_true hn]
    exact iteF k
/-! seen_behind -/
theorem seen_V (S : Sch) (l : Lay) (d : Nat) : (l.zip S.edges).filterMap (fun p => if p.2 = d then some (vO p.1) else none) = layV (seen S l d) := by
  unfold seen layV
  generalize l.zip S.edges = z
  induction z with
  | nil => rfl
  | cons p z ih =>
    rw [List.filterMap_cons, List.filter_cons, ih]
    by_cases h : p.2 = d
    · rw [if_pos h, if_pos (decide_eq_true h)]
      rfl
    · rw [if_neg h, if_neg (by rw [decide_eq_true_eq]; exact h)]
def spSeenB (K : PySem.W.Frag) : Sp := fun vs H Q _ => ∃ (st p : Addr) (S : Sch) (lay : Lay) (d : Nat), vs = [.ref st, .ref p, .int (d : Nat)] ∧ StoreAt K H st S ∧ TupN H p (layV lay) ∧ lay.length ≤ 100 ∧ ∀ t H', Same H H' → H' t = some (.tup (layV (seen S lay d))) → Q (.ref t) H'
theorem sc_SeenB : FnScope ["store", "layout", "door", "name", "edge"] ["store", "layout", "door"] (defScope s_seen_behind) := ⟨rfl, rfl, rfl, by decide +kernel, rfl, by decide +kernel, by decide +kernel⟩
theorem ok_SeenB (T : Txt w K mg) : FnR P w K mg base CX0 1 (He.ga K "seen_behind") (spSeenB K) := by
  obtain ⟨fd, F⟩ := T.f_seen_behind
  refine fnR_mk F sc_SeenB (fun _ _ _ _ _ _ us hl => match us, hl with | [_, _, _], _ => rfl) (fun vs H Q E h => ?_) (fun cdv A outer s H vs Q E hr h => ?_)
  · obtain ⟨st, p, S, lay, d, rfl, _⟩ := h
    rfl
  · obtain ⟨st, p, S, lay, d, rfl, hs, hp, six, k⟩ := h
    obtain ⟨dx, pe, pp, pd, pcr, h1, h2, h3, h4, h5⟩ := hs.slt
    have nd := sc_SeenB.nd
    refine ⟨_, pss_one (ps_ret (pe_callTy call_tuple_of (by rfl) T.b_tuple bo_tuple (pa_cons (pe_lc (own := [("name", 3), ("edge", 4)]) (g := gTup _ 2 (gCons (gName 3) (gCons (gName 4) gNil))) rfl nd (RZ.pi_zipA (by rfl) T.b_zip (pa_cons (pv 1) (pa_cons (SlX.pe_sl (pv 0)) pa_nil))) (blkOk_by (N := ["store", "layout", "door", "name", "edge"]) (sc := defScope s_seen_behind) (by decide +kernel))
        (fun _ _ _ _ _ => pg_tup rfl (pgs_cons (pg_name (i := 3) nd rfl (Or.inl rfl)) (pgs_cons (pg_name (i := 4) nd rfl (Or.inl rfl)) pgs_nil))) (fun _ _ _ _ _ => pts_one (pt_cmpR op_eq (pv 4) (pv 2) (nomark _))) (fun _ _ _ _ _ => pv 3)) pa_nil))), ?_⟩
    refine ⟨_, rfl, _, rfl, st, _, dx, _, _, 0, .ref pe, rfl, h1, T.sc_Store, T.sl_Store_edges, rfl, p, pe, _, _, rfl, .inr ⟨hp.sq, SqT.of h2, fun D hD => lc_pv (walk_zipT (xs := layV lay) (ys := edgeVs S) rfl) (fun i => (lay.zip S.edges)[i]?.bind fun p => if p.2 = d then some (vO p.1) else none) hD
      (fun H1 sm => ⟨(hp.same sm).sq, SqT.of (sm _ _ h2)⟩) ?_ ?_⟩⟩
    · rintro i v H1 H2 hi pv ⟨t, a, b, rfl, ht, rfl, ha, hb⟩
      obtain ⟨o, ho, rfl⟩ := lay_at ha
      obtain ⟨e, he, rfl⟩ := map_at hb
      have hi2 := (List.getElem?_eq_some_iff.mp ho).1
      refine ⟨t, _, rfl, SqT.of upd_same, rfl, _, _, rfl, _, _, rfl, rfl, rfl, _, rfl, _, rfl, rfl, _, rfl, ?_⟩
      have st2 : Same H1 (upd H1 t (.tup [vO o, .int (e : Nat)])) := Same_new ht
      by_cases hed : e = d
      · rw [decide_eq_true (by rw [hed])]
        exact iteT ⟨_, rfl, pvL_put hD pv st2 (by rw [bind_at (zip_at ho he)]; exact if_pos hed) (by omega)⟩
      · rw [decide_eq_false (by intro z; injection z with z; exact hed (Int.ofNat.inj z))]
        exact iteF (pvL_skip pv st2 (by rw [bind_at (zip_at ho he)]; exact if_neg hed))
    · intro H1 ⟨sm, hl⟩
      have en : min (layV lay).length (edgeVs S).length = (lay.zip S.edges).length := by rw [List.length_zip, layV_len, edgeVs_len]
      rw [en, resL_all, seen_V] at hl
      exact ⟨D, _, rfl, .inl ⟨SqL.of hl, fun l hl2 => k _ _ (Same_trans sm (Same_new hl2)) upd_same⟩⟩
end
end Ck
set_option Elab.async false
set_option linter.all false
set_option maxRecDepth 100000
set_option maxHeartbeats 4000000
namespace Ck
open PySem PySem.Spec PyProof.Rows L2
theorem getD_at {l : Lay} {i : Nat} (h : i < l.length) : l[i]? = some (l.getD i none) := by
  rw [List.getD_eq_getElem?_getD, List.getElem?_eq_getElem h]
  rfl
theorem swap_V (l : Lay) (i j : Nat) : ((layV l).set i (vO (l.getD j none))).set j (vO (l.getD i none)) = layV (swap l i j) := by
  unfold swap layV
  rw [List.map_set, List.map_set]
theorem ixN_at {n j : Nat} (h : j < n) : ixN n (j : Int) = some j := by
  unfold ixN
  rw [if_pos (by omega), if_pos (by omega)]
  rfl
section
variable {P : Program} {w : World} {K : PySem.W.Frag} {mg : Str → Option Value} {base : Heap}
/-! exchanged (and the law's own) -/
def spExch : Sp := fun vs H Q _ => ∃ (p : Addr) (lay : Lay) (i j : Nat), vs = [.ref p, .int (i : Nat), .int (j : Nat)] ∧ TupN H p (layV lay) ∧ i < lay.length ∧ j < lay.length ∧ lay.length ≤ 100 ∧ ∀ t H', Same H H' → TupN H' t (layV (swap lay i j)) → Q (.ref t) H'
theorem sc_Exch : FnScope ["layout", "one", "other", "found"] ["layout", "one", "other"] (defScope s_exchanged) := ⟨rfl, rfl, rfl, by decide +kernel, rfl, by decide +kernel, by decide +kernel⟩
theorem read_exch (H : Hp) (Q : VK) (p : Addr) (lay : Lay) (i j : Nat) (hp : TupN H p (layV lay)) (hi : i < lay.length) (hj : j < lay.length) (hl : lay.length ≤ 100) (k : ∀ t H', Same H H' → TupN H' t (layV (swap lay i j)) → Q (.ref t) H') :
    (tSeq (tAsg (tCB (fun xs H Q => ∃ p ys, xs = [.ref p] ∧ (SqL K H p ys ∨ SqT K H p ys) ∧ ∀ l, H l = none → Q (.ref l) (upd H l (.lst ys))) (tCons (tVar 0) tNil)) (gName 3))
      (tSeq (tAsg (tTup (tCons (tOp (rIxL K) (tVar 3) (tVar 2)) (tCons (tOp (rIxL K) (tVar 3) (tVar 1)) tNil))) (gTup K 2 (gCons (gSub (tVar 3) (tVar 1) rSetL) (gCons (gSub (tVar 3) (tVar 2) rSetL) gNil))))
      (tRet (tCB (fun xs H Q => ∃ p ys, xs = [.ref p] ∧ SqL K H p ys ∧ ∀ l (o : Obj), H l = none → o.dict = none → Q (.ref l) (upd H l (.frz o (.tup ys)))) (tCons (tVar 3) tNil))))) { nx := fun _ H' => Q .non H', rt := Q } (start ["layout", "one", "other", "found"] [.ref p, .int (i : Nat), .int (j : Nat)]) H := by
  refine ⟨_, rfl, p, _, rfl, .inr hp.sq, fun l hl2 => ?_⟩
  have hL : (upd H l (.lst (layV lay))) l = some (.lst (layV lay)) := upd_same
  refine ⟨_, rfl, _, rfl, l, _, (j : Nat), _, rfl, rfl, SqL.of hL, atI_nat (lay_get (getD_at hj)), _, rfl, _, rfl, l, _, (i : Nat), _, rfl, rfl, SqL.of hL, atI_nat (lay_get (getD_at hi)), (by show 2 ≤ sizeLine; decide), fun t ht => ?_⟩
  have nlt : l ≠ t := ne_of_none hL ht
  refine ⟨t, _, rfl, SqT.of upd_same, rfl, _, _, rfl, _, rfl, _, rfl, l, layV lay, (i : Nat), i, rfl, rfl, by rw [upd_ne nlt]; exact hL, ixN_at (by rw [layV_len]; exact hi), ?_⟩
  refine ⟨_, _, rfl, _, rfl, _, rfl, l, _, (j : Nat), j, rfl, rfl, upd_same, ixN_at (by rw [List.length_set, layV_len]; exact hj), rfl, ?_⟩
  refine ⟨_, rfl, l, _, rfl, SqL.of upd_same, fun m o hm ho => k m _ ?_ (by rw [← swap_V]; exact TupN.new ho)⟩
  have t0 : H t = none := by
    rw [upd_ne nlt.symm] at ht
    exact ht
  have s1 : Same H (upd (upd (upd (upd H l (.lst (layV lay))) t (.tup [vO (lay.getD j none), vO (lay.getD i none)])) l (.lst ((layV lay).set i (vO (lay.getD j none))))) l (.lst (((layV lay).set i (vO (lay.getD j none))).set j (vO (lay.getD i none))))) := Same_upd (Same_upd (Same_upd (Same_new hl2) t0) hl2) hl2
  exact Same_upd s1 (s1.free hm)
theorem ok_Exch (T : Txt w K mg) : FnR P w K mg base CX0 1 (He.ga K "exchanged") spExch := by
  obtain ⟨fd, F⟩ := T.f_exchanged
  refine fnR_mk F sc_Exch (fun _ _ _ _ _ _ us hl => match us, hl with | [_, _, _], _ => rfl) (fun vs H Q E h => ?_) (fun cdv A outer s H vs Q E hr h => ?_)
  · obtain ⟨p, lay, i, j, rfl, _⟩ := h
    rfl
  · obtain ⟨p, lay, i, j, rfl, hp, hi, hj, hl, k⟩ := h
    have nd := sc_Exch.nd
    refine ⟨_, pss_cons (ps_set (i := 3) nd rfl (Or.inl rfl) (pe_callTy call_list_of (by rfl) T.b_list bo_list (pa_cons (pv 0) pa_nil)))
      (pss_cons (ps_asg (pe_tup (pa_cons (pe_ix ix_list (pv 3) (pv 2) (fun _ _ => rfl)) (pa_cons (pe_ix ix_list (pv 3) (pv 1) (fun _ _ => rfl)) pa_nil))) (pg_tup rfl (pgs_cons (pg_sub (pv 3) (pv 1) set_list) (pgs_cons (pg_sub (pv 3) (pv 2) set_list) pgs_nil))))
      (pss_one (ps_ret (pe_callTy call_tupleN (by rfl) T.b_tuple bo_tuple (pa_cons (pv 3) pa_nil))))), ?_⟩
    exact read_exch H Q p lay i j hp hi hj hl k
/-! is_right -/
def spIsRight : Sp := fun vs H Q _ => ∃ (p : Addr) (lay : Lay), vs = [.ref p] ∧ TupN H p (layV lay) ∧ lay.length ≤ 60 ∧ (∀ z ∈ names lay, isWordB z = true) ∧ ∀ H', Same H H' → Q (.bl (sortedS (names lay))) H'
theorem sc_IsRight : FnScope ["layout", "names", "name"] ["layout"] (defScope s_is_right) := ⟨rfl, rfl, rfl, by decide +kernel, rfl, by decide +kernel, by decide +kernel⟩
theorem names_len (l : Lay) : (names l).length ≤ l.length := List.length_filterMap_le _ _
theorem ok_IsRight (T : Txt w K mg) : FnR P w K mg base CX0 1 (He.ga K "is_right") spIsRight := by
  obtain ⟨fd, F⟩ := T.f_is_right
  refine fnR_mk F sc_IsRight (fun _ _ _ _ _ _ us hl => match us, hl with | [_], _ => rfl) (fun vs H Q E h => ?_) (fun cdv A outer s H vs Q E hr h => ?_)
  · obtain ⟨p, lay, rfl, _⟩ := h
    rfl
  · obtain ⟨p, lay, rfl, hp, hl, hw, k⟩ := h
    have nd := sc_IsRight.nd
    refine ⟨_, pss_cons (ps_setLc (i := 1) (own := [("name", 2)]) (g := gName 2) rfl nd rfl rfl (sw_true rfl rfl rfl (by decide +kernel)) (pi_tup (pv 0)) (blkOk_by (N := ["layout", "names", "name"]) (sc := defScope s_is_right) (by decide +kernel))
          (fun _ _ _ _ _ => pg_name (i := 2) nd rfl (Or.inl rfl)) (fun _ _ _ _ _ => pts_one (pt_cmpR op_notN (pv 2) pe_non (nomark _))) (fun _ _ _ _ _ => pv 2))
      (pss_one (ps_ret (pe_cmpR (op_eqD hr.units) (pv 1) (pe_callB cr_sortedS (by rfl) T.b_sorted bo_sorted (pa_cons (pv 1) pa_nil)) (nomark _)))), ?_⟩
    refine ⟨_, rfl, p, rfl, ⟨_, hp.sq⟩, fun D hD => lc_pv (walk_tup (xs := layV lay)) (fun i => lay[i]?.bind fun o => o.map V.str) hD (fun H2 s2 => (hp.same s2).sq) ?_ ?_⟩
    · rintro i x H2 H3 hi pv ⟨rfl, hx⟩
      obtain ⟨o, ho, rfl⟩ := lay_at hx
      rw [layV_len] at hi
      refine ⟨rfl, ?_⟩
      cases o with
      | none => exact ⟨_, rfl, rfl, false, rfl, iteF (pvL_skip pv (Same.refl _) (bind_at ho))⟩
      | some z => exact ⟨_, rfl, rfl, true, rfl, iteT ⟨_, rfl, pvL_put hD pv (Same.refl _) (bind_at ho) (by omega)⟩⟩
    · intro H1 ⟨sm, hl1⟩
      rw [layV_len, resL_all, names_V] at hl1
      have nl := names_len lay
      refine ⟨_, rfl, _, rfl, D, names lay, rfl, SqL.of hl1, by omega, fun ys q perm srt hq => ?_⟩
      have nDq : D ≠ q := ne_of_none hl1 hq
      have hw2 : ∀ z ∈ ys, isWordB z = true := fun z hz => hw z (perm.mem_iff.mp hz)
      refine ⟨.list ((names lay).map PyData.str), .list (ys.map PyData.str), .lst (SqL.of (by rw [upd_ne nDq]; exact hl1)) (dp_strs _), .lst (SqL.of upd_same) (dp_strs _), (shp_strL hw).ok (by decide), (shp_strL hw2).ok (by decide), ?_⟩
      rw [eqv_strL, sorted_eq perm srt]
      exact k _ (Same_trans sm (Same_new hq))
/-! is_operation -/
def opWord : Op → Str
  | .look _ => "look"
  | .put _ _ => "put"
  | .exch _ _ => "exchange"
  | .shut => "shut"
  | .keep _ => "keep_as"
  | .fetch _ => "fetch"
def argsOf : Op → List V
  | .look d => [.int d]
  | .put n p => [.str n, .int p]
  | .exch a b => [.str a, .str b]
  | .shut => []
  | .keep n => [.str n]
  | .fetch n => [.str n]
theorem opVs_eq (op : Op) : opVs op = .str (opWord op) :: argsOf op := by cases op <;> rfl
theorem op_size (op : Op) : (opWord op, ((opVs op).length : Int)) ∈ sizesL := by
  cases op <;> (show (_, _) ∈ sizesL; unfold sizesL; simp [opWord, opVs])
theorem size_at (T : Txt w K mg) {z : Str} {n : Int} (h : (z, n) ∈ sizesL) : ∃ t, PySem.W.nsIn K (He.ga K "SIZES") z = some (some (.int n t)) := by
  have e := List.all_eq_true.mp T.sizes _ h
  simp only at e
  split at e
  · rename_i i t q
    rw [of_decide_eq_true e] at q
    exact ⟨t, q⟩
  · cases e
def spIsOp : Sp := fun vs H Q _ => ∃ (v : V) (op : Op), vs = [v] ∧ OpH H v op ∧ ∀ H', Same H H' → Q (.bl true) H'
theorem sc_IsOp : FnScope ["value"] ["value"] (defScope s_is_operation) := ⟨rfl, rfl, rfl, by decide +kernel, rfl, by decide +kernel, by decide +kernel⟩
theorem ok_IsOp (T : Txt w K mg) : FnR P w K mg base CX0 1 (He.ga K "is_operation") spIsOp := by
  obtain ⟨fd, F⟩ := T.f_is_operation
  obtain ⟨es, n, D⟩ := T.kd
  refine fnR_mk F sc_IsOp (fun _ _ _ _ _ _ us hl => match us, hl with | [_], _ => rfl) (fun vs H Q E h => ?_) (fun cdv A outer s H vs Q E hr h => ?_)
  · obtain ⟨v, op, rfl, _⟩ := h
    rfl
  · obtain ⟨v, op, rfl, ⟨p, rfl, hp⟩, k⟩ := h
    refine ⟨_, pss_cons (ps_if (PW.pt (pw_or (pt_not (pt_val (pe_callB call_isi (by rfl) T.b_isinstance bo_isinstance (pa_cons (pv 0) (pa_cons (pe_bltn (v := .ty "tuple") (by rfl) T.b_tuple bo_tuple rfl) pa_nil)))))
        (pw_or (pt_cmpR (op_eqT0 hr.units0) (pv 0) (pe_tup pa_nil) (nomark _))
        (pw_or1 (pt_not (pt_val (pe_callB call_isi (by rfl) T.b_isinstance bo_isinstance (pa_cons (pe_ix ix_tup (pv 0) pe_int (fun _ _ => rfl)) (pa_cons (pe_bltn (v := .ty "str") (by rfl) T.b_str bo_str rfl) pa_nil)))))))))
        (pss_one (ps_ret pe_bl)) pss_nil)
      (pss_one (ps_ret (pe_cmpR op_eq (pe_kget2 D (pe_glob (v := .ref (He.ga K "SIZES")) (by rfl) T.g_SIZES rfl) (pe_ix ix_tup (pv 0) pe_int (fun _ _ => rfl)) pe_int ⟨rfl, rfl, rfl, rfl⟩) (pe_callB call_len_seq (by rfl) T.b_len bo_len (pa_cons (pv 0) pa_nil)) (nomark _)))), ?_⟩
    obtain ⟨t, ht⟩ := size_at T (op_size op)
    have e0 : (opVs op)[0]? = some (.str (opWord op)) := by rw [opVs_eq]; rfl
    have ne : (opVs op).isEmpty = false := by rw [opVs_eq]; rfl
    refine ⟨_, rfl, _, _, _, _, true, rfl, .ty _, .base (.tup hp), kit_ty kb_tt, true, rfl, iteF ?_⟩
    refine ⟨_, rfl, Nat.zero_le _, fun q hq => ⟨p, q, _, rfl, rfl, SqT.of (by rw [upd_ne (ne_of_none hp hq)]; exact hp), SqT.of upd_same, _, rfl, ?_⟩⟩
    rw [ne]
    refine iteF ?_
    have hp2 : (upd H q (.tup [])) p = some (.tup (opVs op)) := by rw [upd_ne (ne_of_none hp hq)]; exact hp
    refine ⟨_, rfl, p, _, 0, _, rfl, rfl, SqT.of hp2, atI_nat (j := 0) e0, _, _, _, _, true, rfl, .ty _, .base (.str _), kit_ty kb_ss, true, rfl, iteF ?_⟩
    refine ⟨rfl, _, rfl, p, _, 0, _, rfl, rfl, SqT.of hp2, atI_nat (j := 0) e0, _, _, .int (opVs op).length, rfl, ht, ⟨t, rfl⟩, _, rfl, p, _, rfl, .inr (SqT.of hp2), rfl, ?_⟩
    show Q (.bl (decide (V.int ((opVs op).length : Nat) = V.int ((opVs op).length : Nat)))) _
    rw [decide_eq_true rfl]
    exact k _ (Same_new hq)
end
end Ck
set_option Elab.async false
set_option linter.all false
set_option maxRecDepth 100000
set_option maxHeartbeats 4000000
namespace Ck
open PySem PySem.Spec PyProof.Rows L2
theorem edges_lt : ∀ (k : Nat) (ds : List (Int × Nat)) (e : Nat), e ∈ edgesFrom k ds → e < k + ds.length
  | _, [], _, h => by cases h
  | k, d :: r, e, h => by
    rcases List.mem_append.mp h with h | h
    · rw [List.eq_of_mem_replicate h, List.length_cons]
      omega
    · have := edges_lt (k + 1) r e h
      rw [List.length_cons]
      omega
theorem edge_lt {S : Sch} {p : Nat} (h : p < S.edges.length) : S.edge p < S.doors.length := by
  have e : S.edge p ∈ S.edges := by
    unfold Sch.edge
    rw [List.getD_eq_getElem?_getD, List.getElem?_eq_getElem h]
    exact List.getElem_mem h
  have := edges_lt 0 S.doors _ e
  omega
theorem perm_sum {l m : List Int} (p : l.Perm m) : l.sum = m.sum := by
  induction p with
  | nil => rfl
  | cons x _ ih => rw [List.sum_cons, List.sum_cons, ih]
  | swap x y l => rw [List.sum_cons, List.sum_cons, List.sum_cons, List.sum_cons]; omega
  | trans _ _ h1 h2 => rw [h1, h2]
theorem lt_nodup {l : List Int} (h : l.Pairwise (· < ·)) : l.Nodup := h.imp fun hab => Int.ne_of_lt hab
theorem sum_two {ns : List Int} {a b : Int} (f : Int → Int) (h : ns.Pairwise (· < ·)) (m : ∀ k : Int, k ∈ ns ↔ decide (k ∈ [a, b]) = true) : (ns.map f).sum = if a = b then f a else f a + f b := by
  have m' : ∀ k : Int, k ∈ ns ↔ k ∈ [a, b] := fun k => by rw [m k, decide_eq_true_eq]
  by_cases e : a = b
  · rw [if_pos e]
    have p : ns.Perm [a] := (List.perm_ext_iff_of_nodup (lt_nodup h) (by simp)).mpr fun k => by rw [m' k, e]; simp
    rw [perm_sum (p.map f)]
    simp
  · rw [if_neg e]
    have nd : [a, b].Nodup := by simp [e]
    have p : ns.Perm [a, b] := (List.perm_ext_iff_of_nodup (lt_nodup h) nd).mpr m'
    rw [perm_sum (p.map f)]
    simp
section
variable {P : Program} {w : World} {K : PySem.W.Frag} {mg : Str → Option Value} {base : Heap}
/-! warmth_of -/
def warmI (S : Sch) (e : Int) : Int := S.warm e.toNat
theorem both_sum {S : Sch} {i j : Nat} {ns : List Int} (h : ns.Pairwise (· < ·)) (m : ∀ k : Int, k ∈ ns ↔ decide (k ∈ [((S.edge i : Nat) : Int), ((S.edge j : Nat) : Int)]) = true) : (ns.map (warmI S)).sum = both S i j := by
  rw [sum_two (warmI S) h m]
  unfold both warmI
  simp only [Int.toNat_natCast]
  by_cases e : S.edge i = S.edge j
  · rw [if_pos e, if_pos (by rw [e])]
  · rw [if_neg e, if_neg (by intro z; exact e (Int.ofNat.inj z))]
def spWarmthOf (K : PySem.W.Frag) : Sp := fun vs H Q _ => ∃ (st : Addr) (S : Sch) (i j : Nat), vs = [.ref st, .int (i : Nat), .int (j : Nat)] ∧ StoreAt K H st S ∧ i < S.edges.length ∧ j < S.edges.length ∧ ∀ H', Same H H' → Q (.int (both S i j)) H'
theorem sc_WarmthOf : FnScope ["store", "one", "other", "edges", "door"] ["store", "one", "other"] (defScope s_warmth_of) := ⟨rfl, rfl, rfl, by decide +kernel, rfl, by decide +kernel, by decide +kernel⟩
theorem ok_WarmthOf (T : Txt w K mg) : FnR P w K mg base CX0 3 (He.ga K "warmth_of") (spWarmthOf K) := by
  obtain ⟨fd, F⟩ := T.f_warmth_of
  have G : FnR P w K mg base CX0 2 (He.ma K (cSt K) "door_of") (spDoorOf K) := ok_DoorOf T
  have GD : FnR P w K mg base CX0 1 (pga K (cSt K) "doors") (spStDoors K) := ok_StDoors T
  refine fnR_mk F sc_WarmthOf (fun _ _ _ _ _ _ us hl => match us, hl with | [_, _, _], _ => rfl) (fun vs H Q E h => ?_) (fun cdv A outer s H vs Q E hr h => ?_)
  · obtain ⟨st, S, i, j, rfl, _⟩ := h
    rfl
  · obtain ⟨st, S, i, j, rfl, hs, hi, hj, k⟩ := h
    have nd := sc_WarmthOf.nd
    have pd := T.p_Store_doors
    refine ⟨_, pss_cons (ps_set (i := 3) nd rfl (Or.inl rfl) (pe_callB (cr_sortedSet rfl) (by rfl) T.b_sorted bo_sorted (pa_cons (pe_callTy (call_setL rfl) (by rfl) T.b_set bo_set (pa_cons (pe_lst
          (pa_cons (SlX.pe_methSl (pv 0) T.sc_Store T.m_Store_door_of G hr pass0 (pa_cons (pv 1) pa_nil)) (pa_cons (SlX.pe_methSl (pv 0) T.sc_Store T.m_Store_door_of G hr pass0 (pa_cons (pv 2) pa_nil)) pa_nil))) pa_nil)) pa_nil)))
      (pss_one (ps_ret (pe_callB (cr_sum rfl) (by rfl) T.b_sum bo_sum (pa_cons (pe_lc (own := [("door", 4)]) (g := gName 4) (tt := tYes) rfl nd (pi_list (pv 3)) (blkOk_by (N := ["store", "one", "other", "edges", "door"]) (sc := defScope s_warmth_of) (by decide +kernel))
          (fun _ _ _ _ _ => pg_name (i := 4) nd rfl (Or.inl rfl)) (fun _ _ _ _ _ => pts_nil) (fun _ _ _ _ _ => pe_ix (ixTK (K := K) rfl) (pe_ix (ixTK (K := K) rfl) (SlX.pe_propSl (E := E0) (pv 0) T.sc_Store pd.at_ pd.get pd.tak pd.rec_ GD hr (fun _ _ _ _ z => z)) (pv 4) (fun _ _ => rfl)) pe_int (fun _ _ => rfl))) pa_nil)))), ?_⟩
    obtain ⟨dx, pe, pp, pdd, pcr, h1, h2, h3, h4, h5⟩ := hs.slt
    refine ⟨_, rfl, st, dx, _, rfl, h1, _, rfl, st, S, i, rfl, hs, hi, _, rfl, st, dx, _, rfl, h1, _, rfl, st, S, j, rfl, hs, hj, (by show 2 ≤ sizeLine; decide), fun l hl => ?_⟩
    refine ⟨l, [((S.edge i : Nat) : Int), ((S.edge j : Nat) : Int)], rfl, SqL.of upd_same, (by show 2 ≤ 1000; decide), fun p c hc hp => ?_⟩
    refine ⟨p, _, c, rfl, upd_same, Nat.lt_of_le_of_lt hc (by show 2 < 64; decide), fun ns q pw mem hlen hq => ?_⟩
    have sA := Same_trans (Same_new (o := .lst [.int (S.edge i : Nat), .int (S.edge j : Nat)]) hl) (Same_trans (Same_new (o := SetO w p (fun z => decide (z ∈ [((S.edge i : Nat) : Int), ((S.edge j : Nat) : Int)])) c) hp) (Same_new (o := .lst (ns.map V.int)) hq))
    have hn2 : ns.length ≤ 2 := by rw [hlen]; exact hc
    refine ⟨_, rfl, q, rfl, ⟨_, SqL.of upd_same⟩, fun D hD => lc_pv (walk_list (xs := ns.map V.int)) (fun i => ns[i]?.bind fun e => some (.int (warmI S e))) hD (fun H1 sm => SqL.of (sm _ _ upd_same)) ?_ ?_⟩
    · rintro m v H1 H2 hm pv ⟨rfl, hv⟩
      obtain ⟨e, he, rfl⟩ := map_at hv
      have hmem := (mem e).mp (List.mem_of_getElem? he)
      rw [decide_eq_true_eq] at hmem
      obtain ⟨x, rfl, hx⟩ : ∃ x : Nat, e = (x : Nat) ∧ x < S.doors.length := by
        rcases List.mem_cons.mp hmem with z | z
        · exact ⟨_, z, edge_lt hi⟩
        · exact ⟨_, List.mem_singleton.mp z, edge_lt hj⟩
      have sB := Same_trans sA pv.1
      obtain ⟨dx', pe', pp', pd', pcr', z1, z2, z3, z4, z5⟩ := (hs.same sB).slt
      refine ⟨rfl, ?_⟩
      refine ⟨_, rfl, st, dx', _, rfl, z1, st, S, rfl, hs.same sB, fun pd hpd => ?_⟩
      obtain ⟨des, hde, hdp⟩ := hpd
      obtain ⟨y, hy, qd, ey, hqd⟩ := paired_at2 hdp (List.getElem?_eq_getElem hx)
      subst ey
      refine ⟨_, rfl, pd, des, (x : Nat), _, rfl, rfl, SqT.of hde, atI_nat hy, qd, _, 0, _, rfl, rfl, SqT.of hqd, rfl, pvL_put hD pv (Same.refl _) ?_ ?_⟩
      · rw [bind_at he]
        show some (V.int (S.warm ((x : Nat) : Int).toNat)) = _
        unfold Sch.warm
        rw [Int.toNat_natCast, List.getD_eq_getElem?_getD, List.getElem?_eq_getElem hx]
        rfl
      · rw [List.length_map] at hm
        omega
    · intro H1 ⟨sm, hl1⟩
      rw [List.length_map, resL_map] at hl1
      refine ⟨D, ns.map (warmI S), rfl, SqL.of (by rw [hl1, List.map_map]; rfl), ?_⟩
      rw [both_sum pw mem]
      exact k H1 (Same_trans sA sm)
end
end Ck
set_option Elab.async false
set_option linter.all false
set_option maxRecDepth 100000
set_option maxHeartbeats 4000000
namespace Ck
open PySem PySem.Spec PyProof.Rows L2
theorem paired_app {α β : Type} {R : α → β → Prop} {a b : List α} {c d : List β} (h1 : Paired R a c) (h2 : Paired R b d) : Paired R (a ++ b) (c ++ d) := by
  induction h1 with
  | nil => exact h2
  | cons r t ih => exact .cons r ih
theorem paired_last {α β : Type} {R : α → β → Prop} {x : β} : ∀ {m : List β} {l : List α}, Paired R l (m ++ [x]) → ∃ l' e, l = l' ++ [e] ∧ Paired R l' m ∧ R e x
  | [], _, .cons r .nil => ⟨[], _, rfl, .nil, r⟩
  | y :: m, _, .cons r t => by
    obtain ⟨l', e, rfl, h1, h2⟩ := paired_last (m := m) t
    exact ⟨_ :: l', e, rfl, .cons r h1, h2⟩
theorem cut_last (es : List V) (e : V) : cutV (es ++ [e]) none (some (-1)) = es := by
  have h : HT.sIx (es ++ [e]).length (es ++ [e]).length (some (-1)) = es.length := by
    show ((-1 : Int) + ((es ++ [e]).length : Nat)).toNat = es.length
    rw [List.length_append, List.length_singleton]
    omega
  unfold cutV
  rw [h]
  show List.take (es.length - 0) (List.drop 0 (es ++ [e])) = es
  rw [Nat.sub_zero, List.drop_zero, List.take_left]
theorem cut_last_not (es : List V) (e : V) : ¬ (HT.sIx (es ++ [e]).length 0 none = 0 ∧ HT.sIx (es ++ [e]).length (es ++ [e]).length (some (-1)) = (es ++ [e]).length) := fun h => by
  have h2 : ((-1 : Int) + ((es ++ [e]).length : Nat)).toNat = (es ++ [e]).length := h.2
  rw [List.length_append, List.length_singleton] at h2
  omega
section
variable {P : Program} {w : World} {K : PySem.W.Frag} {mg : Str → Option Value} {base : Heap}
/-! State -/
def spStInit (K : PySem.W.Frag) : Sp := fun vs H Q _ => ∃ (H0 : Hp) (x dx : Addr) (f k p u : V), vs = [.ref x, f, k, p, u] ∧ H = upd (upd H0 dx (.own x)) x (.ins (cS K) dx []) ∧ H0 x = none ∧ H0 dx = none ∧ dx ≠ x ∧ ∀ H', Same H0 H' → StateV K H' x f p k u → Q .non H'
theorem sc_StInit : FnScope ["self", "facts", "shelf", "past", "undone"] ["self", "facts", "shelf", "past", "undone"] (defScope s_State_init) := ⟨rfl, rfl, rfl, by decide +kernel, rfl, by decide +kernel, by decide +kernel⟩
theorem ok_StInit (T : Txt w K mg) : FnR P w K mg base CX0 1 (He.ma K (cS K) "__init__") (spStInit K) := by
  obtain ⟨fd, F⟩ := T.f_State_init
  refine fnR_mk F sc_StInit (fun _ _ _ _ _ _ us hl => match us, hl with | [_, _, _, _, _], _ => rfl) (fun vs H Q E h => ?_) (fun cdv A outer s H vs Q E hr h => ?_)
  · obtain ⟨H0, x, dx, f, k, p, u, rfl, _⟩ := h
    rfl
  · obtain ⟨H0, x, dx, f, k, p, u, rfl, rfl, nx, ndx, nex, kk⟩ := h
    refine ⟨_, pss_cons (SlX.ps_sl (pv 0) (pv 1)) (pss_cons (SlX.ps_sl (pv 0) (pv 2)) (pss_cons (SlX.ps_sl (pv 0) (pv 3)) (pss_one (SlX.ps_sl (pv 0) (pv 4))))), ?_⟩
    refine ⟨_, rfl, _, rfl, x, cS K, dx, _, [], 0, rfl, .inl ⟨upd_same, rfl⟩, T.sc_State, T.sl_State_facts, ?_⟩
    refine ⟨_, rfl, _, rfl, x, cS K, dx, _, _, 2, rfl, SlX.slH_slt nex, T.sc_State, T.sl_State_shelf, ?_⟩
    refine ⟨_, rfl, _, rfl, x, cS K, dx, _, _, 1, rfl, SlX.slH_slt nex, T.sc_State, T.sl_State_past, ?_⟩
    refine ⟨_, rfl, _, rfl, x, cS K, dx, _, _, 3, rfl, SlX.slH_slt nex, T.sc_State, T.sl_State_undone, ?_⟩
    rw [SlX.slH_twice nex, SlX.slH_twice nex, SlX.slH_twice nex]
    refine kk _ ?_ ⟨dx, upd_same, by unfold SlX.slH; rw [upd_ne nex, upd_same]⟩
    exact Same_upd (Same_upd (Same_upd (Same_new ndx) nx) ndx) nx
def spCopied (K : PySem.W.Frag) : Sp := fun vs H Q _ => ∃ (a : Addr) (f k p u : V), vs = [.ref a] ∧ StateV K H a f p k u ∧ ∀ b H', Same H H' → H b = none → StateV K H' b f p k u → Q (.ref b) H'
theorem sc_Copied : FnScope ["self"] ["self"] (defScope s_State_copied) := ⟨rfl, rfl, rfl, by decide +kernel, rfl, by decide +kernel, by decide +kernel⟩
theorem ok_Copied (T : Txt w K mg) : FnR P w K mg base CX0 3 (He.ma K (cS K) "copied") (spCopied K) := by
  obtain ⟨fd, F⟩ := T.f_State_copied
  have G : FnR P w K mg base CX0 1 (He.ma K (cS K) "__init__") (spStInit K) := ok_StInit T
  refine fnR_mk F sc_Copied (fun _ _ _ _ _ _ us hl => match us, hl with | [_], _ => rfl) (fun vs H Q E h => ?_) (fun cdv A outer s H vs Q E hr h => ?_)
  · obtain ⟨a, f, k, p, u, rfl, _⟩ := h
    rfl
  · obtain ⟨a, f, k, p, u, rfl, hs, kk⟩ := h
    obtain ⟨dx, hx⟩ := hs.slt
    refine ⟨_, pss_one (ps_ret (StX.pe_makeR (E := E0) T.mk_State G hr (by rfl) T.g_State pass0 (pa_cons (SlX.pe_sl (pv 0)) (pa_cons (SlX.pe_sl (pv 0)) (pa_cons (SlX.pe_sl (pv 0)) (pa_cons (SlX.pe_sl (pv 0)) pa_nil)))))), ?_⟩
    refine ⟨_, rfl, a, cS K, dx, _, _, 0, f, rfl, hx, T.sc_State, T.sl_State_facts, rfl, _, rfl, a, cS K, dx, _, _, 2, k, rfl, hx, T.sc_State, T.sl_State_shelf, rfl, _, rfl, a, cS K, dx, _, _, 1, p, rfl, hx, T.sc_State, T.sl_State_past, rfl,
      _, rfl, a, cS K, dx, _, _, 3, u, rfl, hx, T.sc_State, T.sl_State_undone, rfl, fun x dx' nx ndx nex => ?_⟩
    exact ⟨H, x, dx', f, k, p, u, rfl, rfl, nx, ndx, nex, fun H' sm h => ⟨rfl, kk x H' sm nx h⟩⟩
/-- the four slots stored, one after another -/
theorem slt_at2 {H : Hp} {a : Addr} {vs : List (Option V)} (h : SlotAt K (cS K) H a vs) : ∃ dx, H a = some (SlX.SlO a (cS K) dx vs) ∧ H dx = some (.xd []) := h
def spGoOn (K : PySem.W.Frag) : Sp := fun vs H Q _ => ∃ (a : Addr) (vo vf vk : V) (sc sc' : Scn) (past und : List (Op × Scn)) (op : Op), vs = [.ref a, vo, vf, vk] ∧ StateD K H a sc past und ∧ past.length ≤ 1000 ∧ OpH H vo op ∧ FctP H vf sc'.f ∧ KeptR FctP H vk sc'.kept ∧
  ∀ H', KBut a H H' → StateD K H' a sc' (past ++ [(op, sc)]) [] → Q .non H'
theorem sc_GoOn : FnScope ["self", "operation", "facts", "shelf"] ["self", "operation", "facts", "shelf"] (defScope s_State_go_on) := ⟨rfl, rfl, rfl, by decide +kernel, rfl, by decide +kernel, by decide +kernel⟩
theorem ok_GoOn (T : Txt w K mg) : FnR P w K mg base CX0 1 (He.ma K (cS K) "go_on") (spGoOn K) := by
  obtain ⟨fd, F⟩ := T.f_State_go_on
  refine fnR_mk F sc_GoOn (fun _ _ _ _ _ _ us hl => match us, hl with | [_, _, _, _], _ => rfl) (fun vs H Q E h => ?_) (fun cdv A outer s H vs Q E hr h => ?_)
  · obtain ⟨a, vo, vf, vk, sc, sc', past, und, op, rfl, _⟩ := h
    rfl
  · obtain ⟨a, vo, vf, vk, sc, sc', past, und, op, rfl, ⟨f, p, k, u, ⟨dx, h1, h2⟩, hf, hp, hk, hu⟩, hl, ho, hf', hk', kk⟩ := h
    obtain ⟨pp, es, rfl, hpp, hes⟩ := id hp
    have hlen := Paired.length hes
    have hx : SlX.Slt H a (cS K) dx [some f, some (.ref pp), some k, some u] := .inr ⟨h1, h2⟩
    refine ⟨_, pss_cons (SlX.ps_sl (pv 0) (pe_tup (StX.pa_star (SlX.pe_sl (pv 0)) (pa_cons (pe_tup (pa_cons (pv 1) (pa_cons (SlX.pe_sl (pv 0)) (pa_cons (SlX.pe_sl (pv 0)) pa_nil)))) pa_nil))))
      (pss_cons (SlX.ps_sl (pv 0) (pe_tup pa_nil)) (pss_cons (SlX.ps_sl (pv 0) (pv 2)) (pss_one (SlX.ps_sl (pv 0) (pv 3))))), ?_⟩
    refine ⟨_, rfl, a, cS K, dx, _, _, 1, _, rfl, hx, T.sc_State, T.sl_State_past, rfl, pp, es, rfl, .inl (SqT.of hpp), _, rfl, _, rfl, a, cS K, dx, _, _, 0, f, rfl, hx, T.sc_State, T.sl_State_facts, rfl, _, rfl, a, cS K, dx, _, _, 2, k, rfl, hx, T.sc_State, T.sl_State_shelf, rfl,
      (by show 3 ≤ sizeLine; decide), fun e he => ⟨?_, fun t ht => ?_⟩⟩
    · rw [List.length_append, List.length_singleton, hlen]
      exact Nat.le_trans (Nat.succ_le_succ hl) (by decide)
    have nae : a ≠ e := ne_of_none h1 he
    have nde : dx ≠ e := ne_of_none h2 he
    have s1 : Same H (upd (upd H e (.tup [vo, f, k])) t (.tup (es ++ [.ref e]))) := Same_trans (Same_new he) (Same_new ht)
    have net : e ≠ t := by
      intro z
      rw [← z, upd_same] at ht
      cases ht
    have e1 : (upd (upd H e (.tup [vo, f, k])) t (.tup (es ++ [.ref e]))) e = some (.tup [vo, f, k]) := by rw [upd_ne net, upd_same]
    have t1 : (upd (upd H e (.tup [vo, f, k])) t (.tup (es ++ [.ref e]))) t = some (.tup (es ++ [.ref e])) := upd_same
    have a1 := s1 _ _ h1
    have d1 := s1 _ _ h2
    generalize upd (upd H e (.tup [vo, f, k])) t (.tup (es ++ [.ref e])) = H1 at s1 e1 t1 a1 d1 ⊢
    refine ⟨_, rfl, a, cS K, dx, _, _, 1, rfl, .inr ⟨a1, d1⟩, T.sc_State, T.sl_State_past, ?_⟩
    obtain ⟨k2, a2, d2⟩ := slot_put (vs' := SlX.putS 1 (.ref t) [some f, some (.ref pp), some k, some u]) a1 d1
    generalize SlX.slH H1 a (cS K) dx (SlX.putS 1 (.ref t) [some f, some (.ref pp), some k, some u]) = H2 at k2 a2 d2 ⊢
    refine ⟨Nat.zero_le _, fun q hq => ⟨_, rfl, a, cS K, dx, _, _, 3, rfl, .inr ⟨Same_new hq _ _ a2, Same_new hq _ _ d2⟩, T.sc_State, T.sl_State_undone, ?_⟩⟩
    obtain ⟨k3, a3, d3⟩ := slot_put (vs' := SlX.putS 3 (.ref q) (SlX.putS 1 (.ref t) [some f, some (.ref pp), some k, some u])) (Same_new (o := .tup []) hq _ _ a2) (Same_new hq _ _ d2)
    have q3 := k3 q (.tup []) upd_same (ne_of_none a2 hq).symm
    have kA : KBut a H1 (SlX.slH (upd H2 q (.tup [])) a (cS K) dx (SlX.putS 3 (.ref q) (SlX.putS 1 (.ref t) [some f, some (.ref pp), some k, some u]))) := (k2.trans (Same_kbut (Same_new hq))).trans k3
    generalize SlX.slH (upd H2 q (.tup [])) a (cS K) dx (SlX.putS 3 (.ref q) (SlX.putS 1 (.ref t) [some f, some (.ref pp), some k, some u])) = H3 at k3 a3 d3 q3 kA ⊢
    refine ⟨_, rfl, _, rfl, a, cS K, dx, _, _, 0, rfl, .inr ⟨a3, d3⟩, T.sc_State, T.sl_State_facts, ?_⟩
    obtain ⟨k4, a4, d4⟩ := slot_put (vs' := SlX.putS 0 vf (SlX.putS 3 (.ref q) (SlX.putS 1 (.ref t) [some f, some (.ref pp), some k, some u]))) a3 d3
    generalize SlX.slH H3 a (cS K) dx (SlX.putS 0 vf (SlX.putS 3 (.ref q) (SlX.putS 1 (.ref t) [some f, some (.ref pp), some k, some u]))) = H4 at k4 a4 d4 ⊢
    refine ⟨_, rfl, _, rfl, a, cS K, dx, _, _, 2, rfl, .inr ⟨a4, d4⟩, T.sc_State, T.sl_State_shelf, ?_⟩
    obtain ⟨k5, a5, d5⟩ := slot_put (vs' := SlX.putS 2 vk (SlX.putS 0 vf (SlX.putS 3 (.ref q) (SlX.putS 1 (.ref t) [some f, some (.ref pp), some k, some u])))) a4 d4
    have kB := ((kA.trans k4).trans k5)
    have kC := (Same_kbut s1).trans kB
    have iC : KIm H _ := KBut.kim kC (SlotAt.notIm (K := K) (C := cS K) ⟨dx, h1, h2⟩)
    have nq : q ≠ a := (ne_of_none a2 hq).symm
    have net' : e ≠ a := nae.symm
    have nta : t ≠ a := ne_of t1 a1 (fun z => by unfold SlX.SlO at z; cases z)
    refine kk _ kC ⟨vf, .ref t, vk, .ref q, ⟨dx, a5, d5⟩, hf'.keep iC, ⟨t, es ++ [.ref e], rfl, kB _ _ t1 nta, ?_⟩, KeptP.keep iC hk', ⟨q, [], rfl, k5 _ _ (k4 _ _ q3 nq) nq, .nil⟩⟩
    refine paired_app (Paired_mono hes fun a b z => z.keep iC) (.cons ⟨e, vo, f, k, rfl, kB _ _ e1 net', ho.keep iC, hf.keep iC, KeptP.keep iC hk⟩ .nil)
end
end Ck
set_option Elab.async false
set_option linter.all false
set_option maxRecDepth 100000
set_option maxHeartbeats 4000000
namespace Ck
open PySem PySem.Spec PyProof.Rows L2
section
variable {P : Program} {w : World} {K : PySem.W.Frag} {mg : Str → Option Value} {base : Heap}
def spGoBack (K : PySem.W.Frag) : Sp := fun vs H Q _ => ∃ (a : Addr) (sc sc0 : Scn) (past und : List (Op × Scn)) (op : Op), vs = [.ref a] ∧ StateD K H a sc (past ++ [(op, sc0)]) und ∧ und.length ≤ 1000 ∧ ∀ H', KBut a H H' → StateD K H' a sc0 past (und ++ [(op, sc)]) → Q .non H'
def spGoAgain (K : PySem.W.Frag) : Sp := fun vs H Q _ => ∃ (a : Addr) (sc sc1 : Scn) (past und : List (Op × Scn)) (op : Op), vs = [.ref a] ∧ StateD K H a sc past (und ++ [(op, sc1)]) ∧ past.length ≤ 1000 ∧ ∀ H', KBut a H H' → StateD K H' a sc1 (past ++ [(op, sc)]) und → Q .non H'
theorem sc_GoBack : FnScope ["self", "operation", "facts", "shelf"] ["self"] (defScope s_State_go_back) := ⟨rfl, rfl, rfl, by decide +kernel, rfl, by decide +kernel, by decide +kernel⟩
theorem sc_GoAgain : FnScope ["self", "operation", "facts", "shelf"] ["self"] (defScope s_State_go_again) := ⟨rfl, rfl, rfl, by decide +kernel, rfl, by decide +kernel, by decide +kernel⟩
theorem at_last {es : List V} {e : V} : atI (es ++ [e]) (-1) = some e := atI_last es e
theorem ok_GoBack (T : Txt w K mg) : FnR P w K mg base CX0 1 (He.ma K (cS K) "go_back") (spGoBack K) := by
  obtain ⟨fd, F⟩ := T.f_State_go_back
  refine fnR_mk F sc_GoBack (fun _ _ _ _ _ _ us hl => match us, hl with | [_], _ => rfl) (fun vs H Q E h => ?_) (fun cdv A outer s H vs Q E hr h => ?_)
  · obtain ⟨a, sc, sc0, past, und, op, rfl, _⟩ := h
    rfl
  · obtain ⟨a, sc, sc0, past, und, op, rfl, ⟨f, p, k, u, ⟨dx, h1, h2⟩, hf, hp, hk, hu⟩, hl, kk⟩ := h
    obtain ⟨pp, es0, rfl, hpp, hes0⟩ := id hp
    obtain ⟨pu, eu, rfl, hpu, heu⟩ := id hu
    obtain ⟨es, e, rfl, hes, e0, vo, vf, vk, rfl, he0, ho, hvf, hvk⟩ := paired_last hes0
    have nd := sc_GoBack.nd
    have hx : SlX.Slt H a (cS K) dx [some f, some (.ref pp), some k, some (.ref pu)] := .inr ⟨h1, h2⟩
    refine ⟨_, pss_cons (ps_asg (pe_ix ix_tup (SlX.pe_sl (pv 0)) (pe_un un_neg pe_int) (fun _ _ => rfl)) (pg_tup rfl (pgs_cons (pg_name (i := 1) nd rfl (Or.inl rfl)) (pgs_cons (pg_name (i := 2) nd rfl (Or.inl rfl)) (pgs_cons (pg_name (i := 3) nd rfl (Or.inl rfl)) pgs_nil)))))
      (pss_cons (SlX.ps_sl (pv 0) (pe_tup (StX.pa_star (SlX.pe_sl (pv 0)) (pa_cons (pe_tup (pa_cons (pv 1) (pa_cons (SlX.pe_sl (pv 0)) (pa_cons (SlX.pe_sl (pv 0)) pa_nil)))) pa_nil))))
      (pss_cons (SlX.ps_sl (pv 0) (pe_slice sl_tupA (SlX.pe_sl (pv 0)) po_none (po_some (pe_un un_neg pe_int))))
      (pss_cons (SlX.ps_sl (pv 0) (pv 2)) (pss_one (SlX.ps_sl (pv 0) (pv 3)))))), ?_⟩
    refine ⟨_, rfl, a, cS K, dx, _, _, 1, _, rfl, hx, T.sc_State, T.sl_State_past, rfl, 1, rfl, pp, _, -1, .ref e0, rfl, rfl, SqT.of hpp, at_last, ?_⟩
    refine ⟨e0, _, rfl, SqT.of he0, rfl, _, _, rfl, _, _, rfl, _, _, rfl, rfl, ?_⟩
    refine ⟨_, rfl, a, cS K, dx, _, _, 3, _, rfl, hx, T.sc_State, T.sl_State_undone, rfl, pu, eu, rfl, .inl (SqT.of hpu), _, rfl, _, rfl, a, cS K, dx, _, _, 0, f, rfl, hx, T.sc_State, T.sl_State_facts, rfl, _, rfl, a, cS K, dx, _, _, 2, k, rfl, hx, T.sc_State, T.sl_State_shelf, rfl,
      (by show 3 ≤ sizeLine; decide), fun e he => ⟨?_, fun t ht => ?_⟩⟩
    · rw [List.length_append, List.length_singleton, Paired.length heu]
      exact Nat.le_trans (Nat.succ_le_succ hl) (by decide)
    have nae : a ≠ e := ne_of_none h1 he
    have s1 : Same H (upd (upd H e (.tup [vo, f, k])) t (.tup (eu ++ [.ref e]))) := Same_trans (Same_new he) (Same_new ht)
    have net : e ≠ t := by
      intro z
      rw [← z, upd_same] at ht
      cases ht
    have e1 : (upd (upd H e (.tup [vo, f, k])) t (.tup (eu ++ [.ref e]))) e = some (.tup [vo, f, k]) := by rw [upd_ne net, upd_same]
    have t1 : (upd (upd H e (.tup [vo, f, k])) t (.tup (eu ++ [.ref e]))) t = some (.tup (eu ++ [.ref e])) := upd_same
    have a1 := s1 _ _ h1
    have d1 := s1 _ _ h2
    generalize upd (upd H e (.tup [vo, f, k])) t (.tup (eu ++ [.ref e])) = H1 at s1 e1 t1 a1 d1 ⊢
    refine ⟨_, rfl, a, cS K, dx, _, _, 3, rfl, .inr ⟨a1, d1⟩, T.sc_State, T.sl_State_undone, ?_⟩
    obtain ⟨k2, a2, d2⟩ := slot_put (vs' := SlX.putS 3 (.ref t) [some f, some (.ref pp), some k, some (.ref pu)]) a1 d1
    generalize SlX.slH H1 a (cS K) dx (SlX.putS 3 (.ref t) [some f, some (.ref pp), some k, some (.ref pu)]) = H2 at k2 a2 d2 ⊢
    have npa : pp ≠ a := ne_of hpp h1 (fun z => by unfold SlX.SlO at z; cases z)
    have hpp2 : H2 pp = some (.tup (es ++ [.ref e0])) := k2 _ _ (s1 _ _ hpp) npa
    refine ⟨_, rfl, a, cS K, dx, _, _, 1, .ref pp, rfl, .inr ⟨a2, d2⟩, T.sc_State, T.sl_State_past, rfl, 1, rfl, -1, rfl, pp, _, rfl, SqT.of hpp2, fun hw => absurd hw (cut_last_not _ _), fun _ q hq => ?_⟩
    have q2 : (upd H2 q (.tup (cutV (es ++ [.ref e0]) none (some (-1))))) q = some (.tup es) := by rw [upd_same, cut_last]
    refine ⟨_, rfl, a, cS K, dx, _, _, 1, rfl, .inr ⟨Same_new hq _ _ a2, Same_new hq _ _ d2⟩, T.sc_State, T.sl_State_past, ?_⟩
    have nqa : q ≠ a := (ne_of_none a2 hq).symm
    obtain ⟨k3, a3, d3⟩ := slot_put (vs' := SlX.putS 1 (.ref q) (SlX.putS 3 (.ref t) [some f, some (.ref pp), some k, some (.ref pu)])) (Same_new (o := .tup (cutV (es ++ [.ref e0]) none (some (-1)))) hq _ _ a2) (Same_new hq _ _ d2)
    have q3 := k3 q _ q2 nqa
    have kA := (k2.trans (Same_kbut (Same_new (o := .tup (cutV (es ++ [.ref e0]) none (some (-1)))) hq))).trans k3
    generalize SlX.slH (upd H2 q (.tup (cutV (es ++ [.ref e0]) none (some (-1))))) a (cS K) dx (SlX.putS 1 (.ref q) (SlX.putS 3 (.ref t) [some f, some (.ref pp), some k, some (.ref pu)])) = H3 at k3 a3 d3 q3 kA ⊢
    refine ⟨_, rfl, _, rfl, a, cS K, dx, _, _, 0, rfl, .inr ⟨a3, d3⟩, T.sc_State, T.sl_State_facts, ?_⟩
    obtain ⟨k4, a4, d4⟩ := slot_put (vs' := SlX.putS 0 vf (SlX.putS 1 (.ref q) (SlX.putS 3 (.ref t) [some f, some (.ref pp), some k, some (.ref pu)]))) a3 d3
    generalize SlX.slH H3 a (cS K) dx (SlX.putS 0 vf (SlX.putS 1 (.ref q) (SlX.putS 3 (.ref t) [some f, some (.ref pp), some k, some (.ref pu)]))) = H4 at k4 a4 d4 ⊢
    refine ⟨_, rfl, _, rfl, a, cS K, dx, _, _, 2, rfl, .inr ⟨a4, d4⟩, T.sc_State, T.sl_State_shelf, ?_⟩
    obtain ⟨k5, a5, d5⟩ := slot_put (vs' := SlX.putS 2 vk (SlX.putS 0 vf (SlX.putS 1 (.ref q) (SlX.putS 3 (.ref t) [some f, some (.ref pp), some k, some (.ref pu)])))) a4 d4
    have kB := (kA.trans k4).trans k5
    have kC := (Same_kbut s1).trans kB
    have iC : KIm H _ := KBut.kim kC (SlotAt.notIm (K := K) (C := cS K) ⟨dx, h1, h2⟩)
    have nta : t ≠ a := ne_of t1 a1 (fun z => by unfold SlX.SlO at z; cases z)
    refine kk _ kC ⟨vf, .ref q, vk, .ref t, ⟨dx, a5, d5⟩, hvf.keep iC, ⟨q, es, rfl, k5 _ _ (k4 _ _ q3 nqa) nqa, Paired_mono hes fun a b z => z.keep iC⟩, KeptP.keep iC hvk, ⟨t, _, rfl, kB _ _ t1 nta, ?_⟩⟩
    exact paired_app (Paired_mono heu fun a b z => z.keep iC) (.cons ⟨e, vo, f, k, rfl, kB _ _ e1 nae.symm, ho.keep iC, hf.keep iC, KeptP.keep iC hk⟩ .nil)
theorem ok_GoAgain (T : Txt w K mg) : FnR P w K mg base CX0 1 (He.ma K (cS K) "go_again") (spGoAgain K) := by
  obtain ⟨fd, F⟩ := T.f_State_go_again
  refine fnR_mk F sc_GoAgain (fun _ _ _ _ _ _ us hl => match us, hl with | [_], _ => rfl) (fun vs H Q E h => ?_) (fun cdv A outer s H vs Q E hr h => ?_)
  · obtain ⟨a, sc, sc0, past, und, op, rfl, _⟩ := h
    rfl
  · obtain ⟨a, sc, sc1, past, und, op, rfl, ⟨f, p, k, u, ⟨dx, h1, h2⟩, hf, hp, hk, hu⟩, hl, kk⟩ := h
    obtain ⟨pp, es0, rfl, hpp, hes0⟩ := id hp
    obtain ⟨pu, eu0, rfl, hpu, heu0⟩ := id hu
    obtain ⟨eu, e, rfl, heu, e0, vo, vf, vk, rfl, he0, ho, hvf, hvk⟩ := paired_last heu0
    have nd := sc_GoAgain.nd
    have hx : SlX.Slt H a (cS K) dx [some f, some (.ref pp), some k, some (.ref pu)] := .inr ⟨h1, h2⟩
    refine ⟨_, pss_cons (ps_asg (pe_ix ix_tup (SlX.pe_sl (pv 0)) (pe_un un_neg pe_int) (fun _ _ => rfl)) (pg_tup rfl (pgs_cons (pg_name (i := 1) nd rfl (Or.inl rfl)) (pgs_cons (pg_name (i := 2) nd rfl (Or.inl rfl)) (pgs_cons (pg_name (i := 3) nd rfl (Or.inl rfl)) pgs_nil)))))
      (pss_cons (SlX.ps_sl (pv 0) (pe_tup (StX.pa_star (SlX.pe_sl (pv 0)) (pa_cons (pe_tup (pa_cons (pv 1) (pa_cons (SlX.pe_sl (pv 0)) (pa_cons (SlX.pe_sl (pv 0)) pa_nil)))) pa_nil))))
      (pss_cons (SlX.ps_sl (pv 0) (pe_slice sl_tupA (SlX.pe_sl (pv 0)) po_none (po_some (pe_un un_neg pe_int))))
      (pss_cons (SlX.ps_sl (pv 0) (pv 2)) (pss_one (SlX.ps_sl (pv 0) (pv 3)))))), ?_⟩
    refine ⟨_, rfl, a, cS K, dx, _, _, 3, _, rfl, hx, T.sc_State, T.sl_State_undone, rfl, 1, rfl, pu, _, -1, .ref e0, rfl, rfl, SqT.of hpu, at_last, ?_⟩
    refine ⟨e0, _, rfl, SqT.of he0, rfl, _, _, rfl, _, _, rfl, _, _, rfl, rfl, ?_⟩
    refine ⟨_, rfl, a, cS K, dx, _, _, 1, _, rfl, hx, T.sc_State, T.sl_State_past, rfl, pp, es0, rfl, .inl (SqT.of hpp), _, rfl, _, rfl, a, cS K, dx, _, _, 0, f, rfl, hx, T.sc_State, T.sl_State_facts, rfl, _, rfl, a, cS K, dx, _, _, 2, k, rfl, hx, T.sc_State, T.sl_State_shelf, rfl,
      (by show 3 ≤ sizeLine; decide), fun e he => ⟨?_, fun t ht => ?_⟩⟩
    · rw [List.length_append, List.length_singleton, Paired.length hes0]
      exact Nat.le_trans (Nat.succ_le_succ hl) (by decide)
    have nae : a ≠ e := ne_of_none h1 he
    have s1 : Same H (upd (upd H e (.tup [vo, f, k])) t (.tup (es0 ++ [.ref e]))) := Same_trans (Same_new he) (Same_new ht)
    have net : e ≠ t := by
      intro z
      rw [← z, upd_same] at ht
      cases ht
    have e1 : (upd (upd H e (.tup [vo, f, k])) t (.tup (es0 ++ [.ref e]))) e = some (.tup [vo, f, k]) := by rw [upd_ne net, upd_same]
    have t1 : (upd (upd H e (.tup [vo, f, k])) t (.tup (es0 ++ [.ref e]))) t = some (.tup (es0 ++ [.ref e])) := upd_same
    have a1 := s1 _ _ h1
    have d1 := s1 _ _ h2
    generalize upd (upd H e (.tup [vo, f, k])) t (.tup (es0 ++ [.ref e])) = H1 at s1 e1 t1 a1 d1 ⊢
    refine ⟨_, rfl, a, cS K, dx, _, _, 1, rfl, .inr ⟨a1, d1⟩, T.sc_State, T.sl_State_past, ?_⟩
    obtain ⟨k2, a2, d2⟩ := slot_put (vs' := SlX.putS 1 (.ref t) [some f, some (.ref pp), some k, some (.ref pu)]) a1 d1
    generalize SlX.slH H1 a (cS K) dx (SlX.putS 1 (.ref t) [some f, some (.ref pp), some k, some (.ref pu)]) = H2 at k2 a2 d2 ⊢
    have npa : pu ≠ a := ne_of hpu h1 (fun z => by unfold SlX.SlO at z; cases z)
    have hpu2 : H2 pu = some (.tup (eu ++ [.ref e0])) := k2 _ _ (s1 _ _ hpu) npa
    refine ⟨_, rfl, a, cS K, dx, _, _, 3, .ref pu, rfl, .inr ⟨a2, d2⟩, T.sc_State, T.sl_State_undone, rfl, 1, rfl, -1, rfl, pu, _, rfl, SqT.of hpu2, fun hw => absurd hw (cut_last_not _ _), fun _ q hq => ?_⟩
    have q2 : (upd H2 q (.tup (cutV (eu ++ [.ref e0]) none (some (-1))))) q = some (.tup eu) := by rw [upd_same, cut_last]
    refine ⟨_, rfl, a, cS K, dx, _, _, 3, rfl, .inr ⟨Same_new hq _ _ a2, Same_new hq _ _ d2⟩, T.sc_State, T.sl_State_undone, ?_⟩
    have nqa : q ≠ a := (ne_of_none a2 hq).symm
    obtain ⟨k3, a3, d3⟩ := slot_put (vs' := SlX.putS 3 (.ref q) (SlX.putS 1 (.ref t) [some f, some (.ref pp), some k, some (.ref pu)])) (Same_new (o := .tup (cutV (eu ++ [.ref e0]) none (some (-1)))) hq _ _ a2) (Same_new hq _ _ d2)
    have q3 := k3 q _ q2 nqa
    have kA := (k2.trans (Same_kbut (Same_new (o := .tup (cutV (eu ++ [.ref e0]) none (some (-1)))) hq))).trans k3
    generalize SlX.slH (upd H2 q (.tup (cutV (eu ++ [.ref e0]) none (some (-1))))) a (cS K) dx (SlX.putS 3 (.ref q) (SlX.putS 1 (.ref t) [some f, some (.ref pp), some k, some (.ref pu)])) = H3 at k3 a3 d3 q3 kA ⊢
    refine ⟨_, rfl, _, rfl, a, cS K, dx, _, _, 0, rfl, .inr ⟨a3, d3⟩, T.sc_State, T.sl_State_facts, ?_⟩
    obtain ⟨k4, a4, d4⟩ := slot_put (vs' := SlX.putS 0 vf (SlX.putS 3 (.ref q) (SlX.putS 1 (.ref t) [some f, some (.ref pp), some k, some (.ref pu)]))) a3 d3
    generalize SlX.slH H3 a (cS K) dx (SlX.putS 0 vf (SlX.putS 3 (.ref q) (SlX.putS 1 (.ref t) [some f, some (.ref pp), some k, some (.ref pu)]))) = H4 at k4 a4 d4 ⊢
    refine ⟨_, rfl, _, rfl, a, cS K, dx, _, _, 2, rfl, .inr ⟨a4, d4⟩, T.sc_State, T.sl_State_shelf, ?_⟩
    obtain ⟨k5, a5, d5⟩ := slot_put (vs' := SlX.putS 2 vk (SlX.putS 0 vf (SlX.putS 3 (.ref q) (SlX.putS 1 (.ref t) [some f, some (.ref pp), some k, some (.ref pu)])))) a4 d4
    have kB := (kA.trans k4).trans k5
    have kC := (Same_kbut s1).trans kB
    have iC : KIm H _ := KBut.kim kC (SlotAt.notIm (K := K) (C := cS K) ⟨dx, h1, h2⟩)
    have nta : t ≠ a := ne_of t1 a1 (fun z => by unfold SlX.SlO at z; cases z)
    refine kk _ kC ⟨vf, .ref t, vk, .ref q, ⟨dx, a5, d5⟩, hvf.keep iC, ⟨t, _, rfl, kB _ _ t1 nta, ?_⟩, KeptP.keep iC hvk, ⟨q, eu, rfl, k5 _ _ (k4 _ _ q3 nqa) nqa, Paired_mono heu fun a b z => z.keep iC⟩⟩
    exact paired_app (Paired_mono hes0 fun a b z => z.keep iC) (.cons ⟨e, vo, f, k, rfl, kB _ _ e1 nae.symm, ho.keep iC, hf.keep iC, KeptP.keep iC hk⟩ .nil)
end
end Ck
set_option Elab.async false
set_option linter.all false
set_option maxRecDepth 100000
set_option maxHeartbeats 4000000
namespace Ck
open PySem PySem.Spec PyProof.Rows L2
/-! o.m() by a positional promise -/
theorem pe_methR0 {X : Cx} {CX : CXT} {k : Nat} {C f : Addr} {m : Str} {sp : Sp} {E : XK} {o : Expr} {ta : TE} {apos pos : Pos} {pl : Sem Bool} (he : PE X o ta) (c : Cls X.K C) (hm : Meth X.K C m f)
    (F : FnR X.prog X.w X.K X.mg X.base CX k f sp) (hr : Room k X.A) (hx : Passes CX X E)
    (ht : eval (.Call (.Attribute o m apos) [] [] pos) X.env = (do
      let ov ← eval o X.env
      standAt apos.atName
      let (f, first) ← holding [ov] (getMethod ov m pl)
      callWith pos f first (backTo pos (starEach [] X.env)) (backToKw pos (keywordEach [] X.env))) := by rfl) :
    PE X (.Call (.Attribute o m apos) [] [] pos) (tMethR C m sp E ta tNil) := by
  refine ⟨fun pins s σ H Q I h => ?_⟩
  refine PySem.W.methodCall_KW (pl := pl) (thn (he.run pins s σ H _ I h) fun u s1 ⟨x, H1, I1, rx, a, dx, fs, ex, ea, l, q⟩ => ?_) ht
  subst ex
  obtain rfl : u = Value.ref a := rx
  refine getmeth_ok I1 ea c hm l ?_
  exact PySem.W.callWith_K0 (first := [.ref a]) I1.kIn hm.kp (wpAny_call (run_fnR (us := [.ref a]) (vs := [.ref a]) F hr hx I1 (.cons rfl .nil) q))
/-! all but instances stays -/
def KNi (H H' : Hp) : Prop := ∀ b o, H b = some o → (∀ C dx fs, o ≠ .ins C dx fs) → H' b = some o
section
variable {K : PySem.W.Frag} {H H' H1 : Hp} {a x st sa : Addr} {S : Sch}
theorem KNi.upd {C dx : Addr} {fs : List (Str × V)} {o : HO} (h : H x = some (.ins C dx fs)) : KNi H (upd H x o) := fun b u e n => by
  rw [upd_ne]
  · exact e
  · intro z
    rw [z, h] at e
    exact n _ _ _ (Option.some.inj e).symm
theorem KNi.trans (p : KNi H H1) (q : KNi H1 H') : KNi H H' := fun b o e n => q b o (p b o e n) n
theorem KNi.of_same (p : Same H H') : KNi H H' := fun b o e _ => p b o e
theorem KNi.kim (k : KNi H H') : KIm H H' := fun b o e i => k b o e fun C dx fs z => by rw [z] at i; exact i
theorem SlotAt.ni {C : Addr} {vs : List (Option V)} (k : KNi H H') (h : SlotAt K C H a vs) : SlotAt K C H' a vs := by
  obtain ⟨dx, h1, h2⟩ := h
  exact ⟨dx, k _ _ h1 (fun C dx fs z => by unfold SlX.SlO at z; cases z), k _ _ h2 (fun C dx fs z => by cases z)⟩
theorem StateD.ni {sc : Scn} {past und : List (Op × Scn)} (k : KNi H H') (h : StateD K H a sc past und) : StateD K H' a sc past und := by
  obtain ⟨f, p, kk, u, h1, h2, h3, h4, h5⟩ := h
  have ki := k.kim
  exact ⟨f, p, kk, u, SlotAt.ni k h1, h2.keep ki, h3.keep ki, KeptP.keep ki h4, h5.keep ki⟩
theorem StoreAt.ni (k : KNi H H') (h : StoreAt K H st S) : StoreAt K H' st S := by
  obtain ⟨pe, pp, h1, h2, h3⟩ := h
  exact ⟨pe, pp, h1.ni k, k _ _ h2 (fun _ _ _ z => by cases z), h3.keep k.kim⟩
theorem putF_base : putF "base" (V.ref st) [] = [(("base" : Str), V.ref st)] := rfl
theorem putF_held0 : putF "held" (V.ref sa) [(("base" : Str), V.ref st)] = liveF st sa := rfl
theorem putF_held {sb : Addr} : putF "held" (V.ref sb) (liveF st sa) = liveF st sb := rfl
end
theorem hist_of {H : Hp} {es : List V} {past : List (Op × Scn)} (h : Paired (EntP H) es past) : ∃ os, Paired (fun e o => ∃ a vf vk, e = V.ref a ∧ H a = some (.tup [o, vf, vk])) es os ∧ Paired (OpH H) os (past.map (·.1)) := by
  induction h with
  | nil => exact ⟨[], .nil, .nil⟩
  | cons r t ih =>
    obtain ⟨a, vo, vf, vk, e, h1, h2, _⟩ := r
    obtain ⟨os, h3, h4⟩ := ih
    exact ⟨vo :: os, .cons ⟨a, vf, vk, e, h1⟩ h3, .cons h2 h4⟩
section
variable {P : Program} {w : World} {K : PySem.W.Frag} {mg : Str → Option Value} {base : Heap}
/-! Live.__init__ -/
def spLiveInit (K : PySem.W.Frag) : Sp := fun vs H Q _ => ∃ (H0 : Hp) (x dx st pl : Addr) (S : Sch) (lay : Lay), vs = [.ref x, .ref st, .ref pl] ∧ H = upd (upd H0 dx (.own x)) x (.ins (cL K) dx []) ∧ H0 x = none ∧ H0 dx = none ∧ dx ≠ x ∧
  StoreAt K H0 st S ∧ GoodSch S ∧ TupN H0 pl (layV lay) ∧ GoodLay S lay ∧ ∀ H' sa, Same H0 H' → H0 sa = none → LiveAt K H' x st sa S → StateD K H' sa ⟨⟨lay, 0, []⟩, []⟩ [] [] → Q .non H'
theorem sc_LiveInit : FnScope ["self", "store", "layout"] ["self", "store", "layout"] (defScope s_Live_init) := ⟨rfl, rfl, rfl, by decide +kernel, rfl, by decide +kernel, by decide +kernel⟩
theorem ok_LiveInit (T : Txt w K mg) : FnR P w K mg base CX0 5 (He.ma K (cL K) "__init__") (spLiveInit K) := by
  obtain ⟨fd, F⟩ := T.f_Live_init
  obtain ⟨fd1, F1⟩ := T.f_check_layout
  have GC : FnR P w K mg base CX0 4 (He.ga K "check_layout") (spIsLayout K .non) := ok_CheckLayout T
  have GS : FnR P w K mg base CX0 1 (He.ma K (cS K) "__init__") (spStInit K) := ok_StInit T
  refine fnR_mk F sc_LiveInit (fun _ _ _ _ _ _ us hl => match us, hl with | [_, _, _], _ => rfl) (fun vs H Q E h => ?_) (fun cdv A outer s H vs Q E hr h => ?_)
  · obtain ⟨H0, x, dx, st, pl, S, lay, rfl, _⟩ := h
    rfl
  · obtain ⟨H0, x, dx, st, pl, S, lay, rfl, rfl, nx, ndx, nex, hs, g, hpl, gl, k⟩ := h
    refine ⟨_, pss_cons (ps_expr (pe_fn GC hr (by rfl) T.g_check_layout F1.kp (pa_cons (pv 1) (pa_cons (pv 2) pa_nil)))) (pss_cons (ps_fld (pv 0) (pv 1) rfl)
      (pss_one (ps_fld (pv 0) (StX.pe_makeR (E := E0) T.mk_State GS (hr.mono (by decide)) (by rfl) T.g_State pass0 (pa_cons (pe_tup (pa_cons (pv 2) (pa_cons pe_int (pa_cons (pe_tup pa_nil) pa_nil)))) (pa_cons pe_dnewK (pa_cons (pe_tup pa_nil) (pa_cons (pe_tup pa_nil) pa_nil))))) rfl))), ?_⟩
    have hx0 : (upd (upd H0 dx (.own x)) x (.ins (cL K) dx [])) x = some (.ins (cL K) dx []) := upd_same
    have s0 : Same H0 (upd (upd H0 dx (.own x)) x (.ins (cL K) dx [])) := Same_upd (Same_new ndx) nx
    generalize upd (upd H0 dx (.own x)) x (.ins (cL K) dx []) = H at hx0 s0 ⊢
    refine ⟨_, rfl, _, rfl, st, pl, S, lay, rfl, hs.same s0, g, hpl.same s0, gl, fun H1 s1 => ?_⟩
    have hx1 := s1 _ _ hx0
    refine ⟨_, rfl, _, rfl, x, cL K, dx, [], rfl, hx1, T.c_Live, T.n_Live_base, (by show 0 < 1000; decide), ?_⟩
    rw [putF_base]
    have sA2 : Same H0 (upd H1 x (.ins (cL K) dx [("base", .ref st)])) := Same_upd (Same_trans s0 s1) nx
    have hx2 : (upd H1 x (.ins (cL K) dx [("base", .ref st)])) x = some (.ins (cL K) dx [("base", .ref st)]) := upd_same
    generalize upd H1 x (.ins (cL K) dx [("base", .ref st)]) = H2 at sA2 hx2 ⊢
    refine ⟨_, rfl, ⟨Nat.zero_le _, fun d hd => ⟨(by show 3 ≤ sizeLine; decide), fun f hf kk hkk => ⟨Nat.zero_le _, fun p hp => ⟨Nat.zero_le _, fun u hu sa dxs na nda neda => ?_⟩⟩⟩⟩⟩
    refine ⟨_, sa, dxs, .ref f, .ref kk, .ref p, .ref u, rfl, rfl, na, nda, neda, fun H7 s7 hst => ⟨rfl, ?_⟩⟩
    have d3 : (upd H2 d (.tup [])) d = some (.tup []) := upd_same
    have s3 : Same H2 (upd H2 d (.tup [])) := Same_new hd
    generalize upd H2 d (.tup []) = H3 at *
    have f4 : (upd H3 f (.tup [.ref pl, .int 0, .ref d])) f = some (.tup [.ref pl, .int 0, .ref d]) := upd_same
    have s4 : Same H3 (upd H3 f (.tup [.ref pl, .int 0, .ref d])) := Same_new hf
    generalize upd H3 f (.tup [.ref pl, .int 0, .ref d]) = H4 at *
    have k5 : (upd H4 kk (.dK [])) kk = some (.dK []) := upd_same
    have s5 : Same H4 (upd H4 kk (.dK [])) := Same_new hkk
    generalize upd H4 kk (.dK []) = H5 at *
    have p6 : (upd H5 p (.tup [])) p = some (.tup []) := upd_same
    have s6 : Same H5 (upd H5 p (.tup [])) := Same_new hp
    generalize upd H5 p (.tup []) = H6 at *
    have u6 : (upd H6 u (.tup [])) u = some (.tup []) := upd_same
    have s6b : Same H6 (upd H6 u (.tup [])) := Same_new hu
    generalize upd H6 u (.tup []) = H6b at *
    have sB : Same H2 H6b := Same_trans s3 (Same_trans s4 (Same_trans s5 (Same_trans s6 s6b)))
    have hx7 := s7 _ _ (sB _ _ hx2)
    refine ⟨_, rfl, x, cL K, dx, _, rfl, hx7, T.c_Live, T.n_Live_held, (by show 1 < 1000; decide), ?_⟩
    rw [putF_held0]
    have sA7 : Same H0 H7 := Same_trans sA2 (Same_trans sB s7)
    have sA8 : Same H0 (upd H7 x (.ins (cL K) dx (liveF st sa))) := Same_upd sA7 nx
    have ni : KNi H7 (upd H7 x (.ins (cL K) dx (liveF st sa))) := KNi.upd hx7
    have nss : st ≠ sa := by
      obtain ⟨_, _, ⟨_, z, _⟩, _⟩ := hs.same (Same_trans sA2 sB)
      exact ne_of_none z na
    refine k _ sa sA8 ((Same_trans sA2 sB).free na) ⟨⟨dx, upd_same⟩, hs.same sA8, nss⟩ (StateD.ni ni ⟨.ref f, .ref p, .ref kk, .ref u, hst, ⟨f, pl, d, rfl, s7 _ _ (s6b _ _ (s6 _ _ (s5 _ _ f4))), hpl.same sA7, s7 _ _ (s6b _ _ (s6 _ _ (s5 _ _ (s4 _ _ d3))))⟩, ⟨p, [], rfl, s7 _ _ (s6b _ _ p6), .nil⟩, ⟨kk, [], rfl, s7 _ _ (s6b _ _ (s6 _ _ k5)), .nil⟩, ⟨u, [], rfl, s7 _ _ u6, .nil⟩⟩)
/-! what is shown -/
theorem StateD.slt {H : Hp} {sa : Addr} {sc : Scn} {past und : List (Op × Scn)} (h : StateD K H sa sc past und) : ∃ dx pf pl pd pp es pk kvs pu eu, SlX.Slt H sa (cS K) dx [some (.ref pf), some (.ref pp), some (.ref pk), some (.ref pu)] ∧
    H pf = some (.tup [.ref pl, .int sc.f.warm, .ref pd]) ∧ TupN H pl (layV sc.f.lay) ∧ H pd = some (.tup (sc.f.days.map V.int)) ∧ H pp = some (.tup es) ∧ Paired (EntP H) es past ∧ H pk = some (.dK kvs) ∧ KvR FctP H kvs sc.kept ∧ H pu = some (.tup eu) ∧ Paired (EntP H) eu und := by
  obtain ⟨f, p, k, u, ⟨dx, h1, h2⟩, ⟨pf, pl, pd, rfl, hf, hl, hd⟩, ⟨pp, es, rfl, hp, he⟩, ⟨pk, kvs, rfl, hk, hkv⟩, ⟨pu, eu, rfl, hu, heu⟩⟩ := h
  exact ⟨dx, pf, pl, pd, pp, es, pk, kvs, pu, eu, .inr ⟨h1, h2⟩, hf, hl, hd, hp, he, hk, hkv, hu, heu⟩
def spShow (K : PySem.W.Frag) (R : Scn → List (Op × Scn) → Hp → VK → Prop) : Sp := fun vs H Q _ => ∃ (x st sa : Addr) (sc : Scn) (past und : List (Op × Scn)), vs = [.ref x] ∧ LiveV K H x st sa ∧ StateD K H sa sc past und ∧ R sc past H Q
def rLay : Scn → List (Op × Scn) → Hp → VK → Prop := fun sc _ H Q => ∀ pl, TupN H pl (layV sc.f.lay) → Q (.ref pl) H
def rWarm : Scn → List (Op × Scn) → Hp → VK → Prop := fun sc _ H Q => Q (.int sc.f.warm) H
def rDays : Scn → List (Op × Scn) → Hp → VK → Prop := fun sc _ H Q => ∀ l H', Same H H' → H' l = some (.lst (sc.f.days.map V.int)) → Q (.ref l) H'
def rKept : Scn → List (Op × Scn) → Hp → VK → Prop := fun sc _ H Q => sc.kept.length < 64 ∧ ∀ ys p H', Same H H' → ys.Perm (sc.kept.map (·.1)) → sortedS ys = true → H' p = some (.lst (ys.map V.str)) → Q (.ref p) H'
def rHist : Scn → List (Op × Scn) → Hp → VK → Prop := fun _ past H Q => past.length ≤ 1000 ∧ ∀ p os H', Same H H' → H' p = some (.lst os) → Paired (OpH H') os (past.map (·.1)) → Q (.ref p) H'
theorem sc_LayNow : FnScope ["self"] ["self"] (defScope s_Live_layout_now) := ⟨rfl, rfl, rfl, by decide +kernel, rfl, by decide +kernel, by decide +kernel⟩
theorem sc_WarmNow : FnScope ["self"] ["self"] (defScope s_Live_warmth_now) := ⟨rfl, rfl, rfl, by decide +kernel, rfl, by decide +kernel, by decide +kernel⟩
theorem sc_Days : FnScope ["self"] ["self"] (defScope s_Live_day_warmths) := ⟨rfl, rfl, rfl, by decide +kernel, rfl, by decide +kernel, by decide +kernel⟩
theorem sc_KeptU : FnScope ["self"] ["self"] (defScope s_Live_kept_under) := ⟨rfl, rfl, rfl, by decide +kernel, rfl, by decide +kernel, by decide +kernel⟩
theorem sc_Hist : FnScope ["self", "operation", "facts", "shelf"] ["self"] (defScope s_Live_history) := ⟨rfl, rfl, rfl, by decide +kernel, rfl, by decide +kernel, by decide +kernel⟩
theorem ok_LayNow (T : Txt w K mg) : FnR P w K mg base CX0 1 (pga K (cL K) "layout_now") (spShow K rLay) := by
  obtain ⟨fd, F⟩ := T.f_Live_layout_now
  refine fnR_mk F sc_LayNow (fun _ _ _ _ _ _ us hl => match us, hl with | [_], _ => rfl) (fun vs H Q E h => ?_) (fun cdv A outer s H vs Q E hr h => ?_)
  · obtain ⟨x, st, sa, sc, past, und, rfl, _⟩ := h
    rfl
  · obtain ⟨x, st, sa, sc, past, und, rfl, ⟨dx, hx⟩, hd, k⟩ := h
    obtain ⟨dxs, pf, pl, pd, pp, es, pk, kvs, pu, eu, hs, hf, hl, hdd, _⟩ := hd.slt
    refine ⟨_, pss_one (ps_ret (pe_ix ix_tup (SlX.pe_sl (pe_fld (pv 0) rfl)) pe_int (fun _ _ => rfl))), ?_⟩
    exact ⟨_, rfl, x, cL K, dx, _, _, rfl, hx, T.c_Live, T.n_Live_held, rfl, sa, cS K, dxs, _, _, 0, _, rfl, hs, T.sc_State, T.sl_State_facts, rfl, pf, _, 0, .ref pl, rfl, rfl, SqT.of hf, rfl, k pl hl⟩
theorem ok_WarmNow (T : Txt w K mg) : FnR P w K mg base CX0 1 (pga K (cL K) "warmth_now") (spShow K rWarm) := by
  obtain ⟨fd, F⟩ := T.f_Live_warmth_now
  refine fnR_mk F sc_WarmNow (fun _ _ _ _ _ _ us hl => match us, hl with | [_], _ => rfl) (fun vs H Q E h => ?_) (fun cdv A outer s H vs Q E hr h => ?_)
  · obtain ⟨x, st, sa, sc, past, und, rfl, _⟩ := h
    rfl
  · obtain ⟨x, st, sa, sc, past, und, rfl, ⟨dx, hx⟩, hd, k⟩ := h
    obtain ⟨dxs, pf, pl, pd, pp, es, pk, kvs, pu, eu, hs, hf, hl, hdd, _⟩ := hd.slt
    refine ⟨_, pss_one (ps_ret (pe_ix ix_tup (SlX.pe_sl (pe_fld (pv 0) rfl)) pe_int (fun _ _ => rfl))), ?_⟩
    exact ⟨_, rfl, x, cL K, dx, _, _, rfl, hx, T.c_Live, T.n_Live_held, rfl, sa, cS K, dxs, _, _, 0, _, rfl, hs, T.sc_State, T.sl_State_facts, rfl, pf, _, 1, _, rfl, rfl, SqT.of hf, rfl, k⟩
theorem ok_Days (T : Txt w K mg) : FnR P w K mg base CX0 1 (pga K (cL K) "day_warmths") (spShow K rDays) := by
  obtain ⟨fd, F⟩ := T.f_Live_day_warmths
  refine fnR_mk F sc_Days (fun _ _ _ _ _ _ us hl => match us, hl with | [_], _ => rfl) (fun vs H Q E h => ?_) (fun cdv A outer s H vs Q E hr h => ?_)
  · obtain ⟨x, st, sa, sc, past, und, rfl, _⟩ := h
    rfl
  · obtain ⟨x, st, sa, sc, past, und, rfl, ⟨dx, hx⟩, hd, k⟩ := h
    obtain ⟨dxs, pf, pl, pd, pp, es, pk, kvs, pu, eu, hs, hf, hl, hdd, _⟩ := hd.slt
    refine ⟨_, pss_one (ps_ret (pe_callTy call_list_of (by rfl) T.b_list bo_list (pa_cons (pe_ix ix_tup (SlX.pe_sl (pe_fld (pv 0) rfl)) pe_int (fun _ _ => rfl)) pa_nil))), ?_⟩
    exact ⟨_, rfl, x, cL K, dx, _, _, rfl, hx, T.c_Live, T.n_Live_held, rfl, sa, cS K, dxs, _, _, 0, _, rfl, hs, T.sc_State, T.sl_State_facts, rfl, pf, _, 2, .ref pd, rfl, rfl, SqT.of hf, rfl, pd, _, rfl, .inr (SqT.of hdd), fun l hl2 => k l _ (Same_new hl2) upd_same⟩
theorem ok_KeptU (T : Txt w K mg) : FnR P w K mg base CX0 1 (pga K (cL K) "kept_under") (spShow K rKept) := by
  obtain ⟨fd, F⟩ := T.f_Live_kept_under
  refine fnR_mk F sc_KeptU (fun _ _ _ _ _ _ us hl => match us, hl with | [_], _ => rfl) (fun vs H Q E h => ?_) (fun cdv A outer s H vs Q E hr h => ?_)
  · obtain ⟨x, st, sa, sc, past, und, rfl, _⟩ := h
    rfl
  · obtain ⟨x, st, sa, sc, past, und, rfl, ⟨dx, hx⟩, hd, h64, k⟩ := h
    obtain ⟨dxs, pf, pl, pd, pp, es, pk, kvs, pu, eu, hs, hf, hl, hdd, _, _, hk, hkv, _⟩ := hd.slt
    refine ⟨_, pss_one (ps_ret (pe_callB (call_sortedD rfl) (by rfl) T.b_sorted bo_sorted (pa_cons (SlX.pe_sl (pe_fld (pv 0) rfl)) pa_nil))), ?_⟩
    exact ⟨_, rfl, x, cL K, dx, _, _, rfl, hx, T.c_Live, T.n_Live_held, rfl, sa, cS K, dxs, _, _, 2, _, rfl, hs, T.sc_State, T.sl_State_shelf, rfl, pk, kvs, _, rfl, .inl hk, hkv.keys, by rw [List.length_map]; exact h64, fun ys p hp hs2 hp2 => k ys p _ (Same_new hp2) hp hs2 upd_same⟩
theorem ok_Hist (T : Txt w K mg) : FnR P w K mg base CX0 1 (pga K (cL K) "history") (spShow K rHist) := by
  obtain ⟨fd, F⟩ := T.f_Live_history
  refine fnR_mk F sc_Hist (fun _ _ _ _ _ _ us hl => match us, hl with | [_], _ => rfl) (fun vs H Q E h => ?_) (fun cdv A outer s H vs Q E hr h => ?_)
  · obtain ⟨x, st, sa, sc, past, und, rfl, _⟩ := h
    rfl
  · obtain ⟨x, st, sa, sc, past, und, rfl, ⟨dx, hx⟩, hd, h1000, k⟩ := h
    obtain ⟨dxs, pf, pl, pd, pp, es, pk, kvs, pu, eu, hs, hf, hl, hdd, hp, hes, _⟩ := hd.slt
    have nd := sc_Hist.nd
    obtain ⟨os, hos, hop⟩ := hist_of hes
    have l1 := Paired.length hos
    have l2 := Paired.length hes
    refine ⟨_, pss_one (ps_ret (pe_lc (own := [("operation", 1), ("facts", 2), ("shelf", 3)]) (g := gTup _ 3 (gCons (gName 1) (gCons (gName 2) (gCons (gName 3) gNil)))) (tt := tYes) rfl nd (pi_tup (SlX.pe_sl (pe_fld (pv 0) rfl))) (blkOk_by (N := ["self", "operation", "facts", "shelf"]) (sc := defScope s_Live_history) (by decide +kernel))
      (fun _ _ _ _ _ => pg_tup rfl (pgs_cons (pg_name (i := 1) nd rfl (Or.inl rfl)) (pgs_cons (pg_name (i := 2) nd rfl (Or.inl rfl)) (pgs_cons (pg_name (i := 3) nd rfl (Or.inl rfl)) pgs_nil)))) (fun _ _ _ _ _ => pts_nil) (fun _ _ _ _ _ => pv 1))), ?_⟩
    refine ⟨_, rfl, x, cL K, dx, _, _, rfl, hx, T.c_Live, T.n_Live_held, rfl, sa, cS K, dxs, _, _, 1, _, rfl, hs, T.sc_State, T.sl_State_past, rfl, pp, rfl, ⟨_, SqT.of hp⟩, fun D hD => lc_pv (walk_tup (xs := es)) (fun i => os[i]?.bind fun o => some (id o)) hD (fun H1 sm => SqT.of (sm _ _ hp)) ?_ ?_⟩
    · rintro i v H1 H2 hi pv ⟨rfl, hv⟩
      obtain ⟨o, ho, a, vf, vk, rfl, ha⟩ := paired_at hos hv
      exact ⟨a, _, rfl, SqT.of (pv.1 _ _ ha), rfl, _, _, rfl, _, _, rfl, _, _, rfl, rfl, rfl, _, rfl, pvL_put hD pv (Same.refl _) (bind_at ho) (by omega)⟩
    · intro H1 ⟨sm, hl1⟩
      rw [l1, resL_map, List.map_id] at hl1
      exact k D os H1 sm hl1 (Paired_mono hop fun a b q => OpH.keep (Same_kim sm) q)
/-! enter -/
def spEnter (K : PySem.W.Frag) : Sp := fun vs H Q _ => ∃ (x st sa pl : Addr) (vo : V) (op : Op) (lay' : Lay) (more : Int) (sc : Scn) (past und : List (Op × Scn)), vs = [.ref x, vo, .ref pl, .int more] ∧ LiveV K H x st sa ∧ StateD K H sa sc past und ∧ past.length ≤ 1000 ∧ OpH H vo op ∧ TupN H pl (layV lay') ∧
  ∀ H', KBut sa H H' → StateD K H' sa ⟨⟨lay', sc.f.warm + more, sc.f.days⟩, sc.kept⟩ (past ++ [(op, sc)]) [] → Q .non H'
theorem sc_Enter : FnScope ["self", "operation", "layout", "more", "before", "warmth", "days"] ["self", "operation", "layout", "more"] (defScope s_Live_enter) := ⟨rfl, rfl, rfl, by decide +kernel, rfl, by decide +kernel, by decide +kernel⟩
theorem ok_Enter (T : Txt w K mg) : FnR P w K mg base CX0 2 (He.ma K (cL K) "enter") (spEnter K) := by
  obtain ⟨fd, F⟩ := T.f_Live_enter
  have G : FnR P w K mg base CX0 1 (He.ma K (cS K) "go_on") (spGoOn K) := ok_GoOn T
  refine fnR_mk F sc_Enter (fun _ _ _ _ _ _ us hl => match us, hl with | [_, _, _, _], _ => rfl) (fun vs H Q E h => ?_) (fun cdv A outer s H vs Q E hr h => ?_)
  · obtain ⟨x, st, sa, pl, vo, op, lay', more, sc, past, und, rfl, _⟩ := h
    rfl
  · obtain ⟨x, st, sa, pl, vo, op, lay', more, sc, past, und, rfl, ⟨dx, hx⟩, hd, h1000, ho, hpl, k⟩ := h
    obtain ⟨dxs, pf, pl0, pd, pp, es, pk, kvs, pu, eu, hs, hf, hl, hdd, hp, hes, hk, hkv, _⟩ := hd.slt
    have nd := sc_Enter.nd
    refine ⟨_, pss_cons (ps_asg (SlX.pe_sl (pe_fld (pv 0) rfl)) (pg_tup rfl (pgs_cons (pg_name (i := 4) nd rfl (Or.inl rfl)) (pgs_cons (pg_name (i := 5) nd rfl (Or.inl rfl)) (pgs_cons (pg_name (i := 6) nd rfl (Or.inl rfl)) pgs_nil)))))
      (pss_one (ps_expr (SlX.pe_methSl (pe_fld (pv 0) rfl) T.sc_State T.m_State_go_on G hr pass0 (pa_cons (pv 1) (pa_cons (pe_tup (pa_cons (pv 2) (pa_cons (pe_op op_add (pv 5) (pv 3)) (pa_cons (pv 6) pa_nil)))) (pa_cons (SlX.pe_sl (pe_fld (pv 0) rfl)) pa_nil)))))), ?_⟩
    refine ⟨_, rfl, x, cL K, dx, _, _, rfl, hx, T.c_Live, T.n_Live_held, rfl, sa, cS K, dxs, _, _, 0, _, rfl, hs, T.sc_State, T.sl_State_facts, rfl, pf, _, rfl, SqT.of hf, rfl, _, _, rfl, _, _, rfl, _, _, rfl, rfl, ?_⟩
    refine ⟨_, rfl, x, cL K, dx, _, _, rfl, hx, T.c_Live, T.n_Live_held, rfl, sa, dxs, _, rfl, hs, _, rfl, _, rfl, _, rfl, _, rfl, sc.f.warm, more, rfl, rfl, _, rfl, (by show 3 ≤ sizeLine; decide), fun t ht => ?_⟩
    have s1 : Same H (upd H t (.tup [.ref pl, .int (sc.f.warm + more), .ref pd])) := Same_new ht
    have t1 : (upd H t (.tup [.ref pl, .int (sc.f.warm + more), .ref pd])) t = some (.tup [.ref pl, .int (sc.f.warm + more), .ref pd]) := upd_same
    generalize upd H t (.tup [.ref pl, .int (sc.f.warm + more), .ref pd]) = H1 at s1 t1 ⊢
    have hd1 := hd.same s1
    obtain ⟨dxs', pf', pl0', pd', pp', es', pk', kvs', pu', eu', hs', _, _, _, _, _, hk', hkv', _⟩ := hd1.slt
    refine ⟨_, rfl, x, cL K, dx, _, _, rfl, s1 _ _ hx, T.c_Live, T.n_Live_held, rfl, sa, cS K, dxs', _, _, 2, _, rfl, hs', T.sc_State, T.sl_State_shelf, rfl, ?_⟩
    exact ⟨sa, vo, .ref t, .ref pk', sc, ⟨⟨lay', sc.f.warm + more, sc.f.days⟩, sc.kept⟩, past, und, op, rfl, hd1, h1000, ho.keep (Same_kim s1), ⟨t, pl, pd, rfl, t1, hpl.same s1, s1 _ _ hdd⟩, ⟨pk', kvs', rfl, hk', hkv'⟩, fun H' kb h => k H' ((Same_kbut s1).trans kb) h⟩
/-! undo, redo -/
def spUndo (K : PySem.W.Frag) : Sp := fun vs H Q _ => ∃ (x st sa : Addr) (sc : Scn) (past und : List (Op × Scn)), vs = [.ref x] ∧ LiveV K H x st sa ∧ StateD K H sa sc past und ∧ und.length ≤ 1000 ∧ (past = [] → ∀ H', Same H H' → Q (.bl false) H') ∧
  ∀ past0 op sc0, past = past0 ++ [(op, sc0)] → ∀ H', KBut sa H H' → StateD K H' sa sc0 past0 (und ++ [(op, sc)]) → Q (.bl true) H'
def spRedo (K : PySem.W.Frag) : Sp := fun vs H Q _ => ∃ (x st sa : Addr) (sc : Scn) (past und : List (Op × Scn)), vs = [.ref x] ∧ LiveV K H x st sa ∧ StateD K H sa sc past und ∧ past.length ≤ 1000 ∧ (und = [] → ∀ H', Same H H' → Q (.bl false) H') ∧
  ∀ und0 op sc1, und = und0 ++ [(op, sc1)] → ∀ H', KBut sa H H' → StateD K H' sa sc1 (past ++ [(op, sc)]) und0 → Q (.bl true) H'
theorem sc_Undo : FnScope ["self"] ["self"] (defScope s_Live_undo) := ⟨rfl, rfl, rfl, by decide +kernel, rfl, by decide +kernel, by decide +kernel⟩
theorem sc_Redo : FnScope ["self"] ["self"] (defScope s_Live_redo) := ⟨rfl, rfl, rfl, by decide +kernel, rfl, by decide +kernel, by decide +kernel⟩
theorem ok_Undo (T : Txt w K mg) : FnR P w K mg base CX0 2 (He.ma K (cL K) "undo") (spUndo K) := by
  obtain ⟨fd, F⟩ := T.f_Live_undo
  have G : FnR P w K mg base CX0 1 (He.ma K (cS K) "go_back") (spGoBack K) := ok_GoBack T
  refine fnR_mk F sc_Undo (fun _ _ _ _ _ _ us hl => match us, hl with | [_], _ => rfl) (fun vs H Q E h => ?_) (fun cdv A outer s H vs Q E hr h => ?_)
  · obtain ⟨x, st, sa, sc, past, und, rfl, _⟩ := h
    rfl
  · obtain ⟨x, st, sa, sc, past, und, rfl, ⟨dx, hx⟩, hd, h1000, k0, k1⟩ := h
    obtain ⟨dxs, pf, pl0, pd, pp, es, pk, kvs, pu, eu, hs, hf, hl, hdd, hp, hes, hk, hkv, _⟩ := hd.slt
    refine ⟨_, pss_cons (ps_if (pt_cmpR (op_eqT0 hr.units0) (SlX.pe_sl (pe_fld (pv 0) rfl)) (pe_tup pa_nil) (nomark _)) (pss_one (ps_ret pe_bl)) pss_nil)
      (pss_cons (ps_expr (SlX.pe_methSl0 (pe_fld (pv 0) rfl) T.sc_State T.m_State_go_back G hr pass0)) (pss_one (ps_ret pe_bl))), ?_⟩
    refine ⟨_, rfl, x, cL K, dx, _, _, rfl, hx, T.c_Live, T.n_Live_held, rfl, sa, cS K, dxs, _, _, 1, _, rfl, hs, T.sc_State, T.sl_State_past, rfl, Nat.zero_le _, fun q hq => ?_⟩
    have s1 : Same H (upd H q (.tup [])) := Same_new hq
    refine ⟨pp, q, es, rfl, rfl, SqT.of (s1 _ _ hp), SqT.of upd_same, ?_⟩
    generalize upd H q (.tup []) = H1 at s1 ⊢
    rcases List.eq_nil_or_concat past with e | ⟨past0, ⟨op, sc0⟩, e⟩
    · have ee : es = [] := List.length_eq_zero_iff.mp (by rw [Paired.length hes, e]; rfl)
      rw [ee]
      exact ⟨true, rfl, iteT (k0 e H1 s1)⟩
    · have ee : es.isEmpty = false := by
        have l := Paired.length hes
        rw [e, List.concat_eq_append, List.length_append] at l
        cases es with
        | nil => simp at l
        | cons _ _ => rfl
      rw [List.concat_eq_append] at e
      rw [ee]
      refine ⟨false, rfl, iteF ?_⟩
      have hd1 := hd.same s1
      obtain ⟨dxs', pf', pl0', pd', pp', es', pk', kvs', pu', eu', hs', _⟩ := hd1.slt
      refine ⟨_, rfl, x, cL K, dx, _, _, rfl, s1 _ _ hx, T.c_Live, T.n_Live_held, rfl, sa, dxs', _, rfl, hs', sa, sc, sc0, past0, und, op, rfl, by rw [← e]; exact hd1, h1000, fun H' kb h => k1 past0 op sc0 e H' ((Same_kbut s1).trans kb) h⟩
theorem ok_Redo (T : Txt w K mg) : FnR P w K mg base CX0 2 (He.ma K (cL K) "redo") (spRedo K) := by
  obtain ⟨fd, F⟩ := T.f_Live_redo
  have G : FnR P w K mg base CX0 1 (He.ma K (cS K) "go_again") (spGoAgain K) := ok_GoAgain T
  refine fnR_mk F sc_Redo (fun _ _ _ _ _ _ us hl => match us, hl with | [_], _ => rfl) (fun vs H Q E h => ?_) (fun cdv A outer s H vs Q E hr h => ?_)
  · obtain ⟨x, st, sa, sc, past, und, rfl, _⟩ := h
    rfl
  · obtain ⟨x, st, sa, sc, past, und, rfl, ⟨dx, hx⟩, hd, h1000, k0, k1⟩ := h
    obtain ⟨dxs, pf, pl0, pd, pp, es, pk, kvs, pu, eu, hs, hf, hl, hdd, hp, hes, hk, hkv, hu, heu⟩ := hd.slt
    refine ⟨_, pss_cons (ps_if (pt_cmpR (op_eqT0 hr.units0) (SlX.pe_sl (pe_fld (pv 0) rfl)) (pe_tup pa_nil) (nomark _)) (pss_one (ps_ret pe_bl)) pss_nil)
      (pss_cons (ps_expr (SlX.pe_methSl0 (pe_fld (pv 0) rfl) T.sc_State T.m_State_go_again G hr pass0)) (pss_one (ps_ret pe_bl))), ?_⟩
    refine ⟨_, rfl, x, cL K, dx, _, _, rfl, hx, T.c_Live, T.n_Live_held, rfl, sa, cS K, dxs, _, _, 3, _, rfl, hs, T.sc_State, T.sl_State_undone, rfl, Nat.zero_le _, fun q hq => ?_⟩
    have s1 : Same H (upd H q (.tup [])) := Same_new hq
    refine ⟨pu, q, eu, rfl, rfl, SqT.of (s1 _ _ hu), SqT.of upd_same, ?_⟩
    generalize upd H q (.tup []) = H1 at s1 ⊢
    rcases List.eq_nil_or_concat und with e | ⟨und0, ⟨op, sc0⟩, e⟩
    · have ee : eu = [] := List.length_eq_zero_iff.mp (by rw [Paired.length heu, e]; rfl)
      rw [ee]
      exact ⟨true, rfl, iteT (k0 e H1 s1)⟩
    · have ee : eu.isEmpty = false := by
        have l := Paired.length heu
        rw [e, List.concat_eq_append, List.length_append] at l
        cases eu with
        | nil => simp at l
        | cons _ _ => rfl
      rw [List.concat_eq_append] at e
      rw [ee]
      refine ⟨false, rfl, iteF ?_⟩
      have hd1 := hd.same s1
      obtain ⟨dxs', pf', pl0', pd', pp', es', pk', kvs', pu', eu', hs', _⟩ := hd1.slt
      refine ⟨_, rfl, x, cL K, dx, _, _, rfl, s1 _ _ hx, T.c_Live, T.n_Live_held, rfl, sa, dxs', _, rfl, hs', sa, sc, sc0, past, und0, op, rfl, by rw [← e]; exact hd1, h1000, fun H' kb h => k1 und0 op sc0 e H' ((Same_kbut s1).trans kb) h⟩
end
end Ck
set_option Elab.async false
set_option linter.all false
set_option maxRecDepth 100000
set_option maxHeartbeats 4000000
namespace Ck
open PySem PySem.Spec PyProof.Rows L2
/-! ### places -/
theorem place_spec : ∀ (l : Lay) (n : Str), some n ∈ l → place l n < l.length ∧ l[place l n]? = some (some n) ∧ ∀ m, m < place l n → l[m]? ≠ some (some n)
  | [], n, h => by cases h
  | x :: l, n, h => by
    unfold place
    rw [List.idxOf_cons]
    by_cases e : x = some n
    · rw [show (x == some n) = true from beq_iff_eq.mpr e]
      exact ⟨Nat.succ_pos _, by rw [e]; rfl, fun m hm => absurd hm (Nat.not_lt_zero _)⟩
    · rw [show (x == some n) = false from beq_eq_false_iff_ne.mpr e]
      have h' : some n ∈ l := by
        rcases List.mem_cons.mp h with z | z
        · exact absurd z.symm e
        · exact z
      obtain ⟨h1, h2, h3⟩ := place_spec l n h'
      refine ⟨Nat.succ_lt_succ h1, h2, fun m hm => ?_⟩
      cases m with
      | zero => exact fun z => e (Option.some.inj z)
      | succ m => exact h3 m (Nat.lt_of_succ_lt_succ hm)
theorem GoodLay.mem {S : Sch} {l : Lay} (h : GoodLay S l) {n : Str} (hn : n ∈ S.crates) : some n ∈ l := by
  have z := h.per.mem_iff.mpr hn
  obtain ⟨o, ho, e⟩ := List.mem_filterMap.mp z
  have e2 : o = some n := e
  rw [← e2]
  exact ho
theorem swap_perm {l : Lay} {i j : Nat} (hi : i < l.length) (hj : j < l.length) : (swap l i j).Perm l := by
  unfold swap
  have e1 : l.getD j none = l[j] := by rw [List.getD_eq_getElem?_getD, List.getElem?_eq_getElem hj]; rfl
  have e2 : l.getD i none = l[i] := by rw [List.getD_eq_getElem?_getD, List.getElem?_eq_getElem hi]; rfl
  rw [e1, e2]
  exact List.set_set_perm hi hj
theorem swap_len (l : Lay) (i j : Nat) : (swap l i j).length = l.length := by
  unfold swap
  rw [List.length_set, List.length_set]
theorem GoodLay.swap {S : Sch} {l : Lay} (h : GoodLay S l) {i j : Nat} (hi : i < l.length) (hj : j < l.length) : GoodLay S (swap l i j) :=
  ⟨by rw [swap_len]; exact h.len, ((swap_perm hi hj).filterMap id).trans h.per⟩
theorem GoodLay.at_ {S : Sch} {l : Lay} (h : GoodLay S l) {n : Str} (hn : n ∈ S.crates) : place l n < l.length ∧ (layV l)[place l n]? = some (.str n) ∧ ∀ m, m < place l n → (layV l)[m]? ≠ some (.str n) := by
  obtain ⟨h1, h2, h3⟩ := place_spec l n (h.mem hn)
  refine ⟨h1, lay_get h2, fun m hm z => ?_⟩
  obtain ⟨o, ho, e⟩ := lay_at z
  cases o with
  | none => cases e
  | some s =>
    have : s = n := by cases e; rfl
    rw [this] at ho
    exact h3 m hm ho
theorem word_len1 {z : Str} (h : isWordB z = true) : z.length ≤ 1000 := by
  unfold isWordB at h
  simp only [Bool.and_eq_true, decide_eq_true_eq] at h
  omega
theorem Room_u1 {k : Nat} {A : Around} (r : Room k A) : A.units + 1 < cLine := by have := r.un; omega
theorem warm_at {S : Sch} {d : Nat} {y : Int × Nat} (h : S.doors[d]? = some y) : S.warm d = y.1 := by
  unfold Sch.warm
  rw [List.getD_eq_getElem?_getD, h]
  rfl
section
variable {P : Program} {w : World} {K : PySem.W.Frag} {mg : Str → Option Value} {base : Heap}
def spOp (K : PySem.W.Frag) (ok : Op → Prop) : Sp := fun vs H Q _ => ∃ (x st sa : Addr) (S : Sch) (n : Nat) (sc : Scn) (past und : List (Op × Scn)) (op : Op), vs = .ref x :: argsOf op ∧ ok op ∧ LiveAt K H x st sa S ∧ StateD K H sa sc past und ∧ GoodSch S ∧ Good S n sc ∧ Valid S sc op ∧ (past.length ≤ 900 ∧ n ≤ 900) ∧
  ∀ H' v, KBut sa H H' → StateD K H' sa (stepS S sc op) (past ++ [(op, sc)]) [] → Dp K H' v (resD S sc op) → Q v H'
def isLook : Op → Prop | .look _ => True | _ => False
def isPut : Op → Prop | .put _ _ => True | _ => False
def isExch : Op → Prop | .exch _ _ => True | _ => False
def isShut : Op → Prop | .shut => True | _ => False
def isKeep : Op → Prop | .keep _ => True | _ => False
def isFetch : Op → Prop | .fetch _ => True | _ => False
theorem StateD.notIm {H : Hp} {sa : Addr} {sc : Scn} {past und : List (Op × Scn)} (h : StateD K H sa sc past und) : ∀ o, H sa = some o → ¬ Im o := by
  obtain ⟨f, p, k, u, hs⟩ := h.slot
  exact hs.notIm
theorem LiveAt.stay {H H' : Hp} {x st sa : Addr} {S : Sch} {sc : Scn} {past und : List (Op × Scn)} (h : LiveAt K H x st sa S) (hd : StateD K H sa sc past und) (k : KBut sa H H') : LiveAt K H' x st sa S := by
  obtain ⟨f, p, q, u, hs⟩ := hd.slot
  exact h.keep k hs
theorem sc_Look : FnScope ["self", "door"] ["self", "door"] (defScope s_Live_look) := ⟨rfl, rfl, rfl, by decide +kernel, rfl, by decide +kernel, by decide +kernel⟩
theorem ok_Look (T : Txt w K mg) : FnR P w K mg base CX0 5 (He.ma K (cL K) "look") (spOp K isLook) := by
  obtain ⟨fd, F⟩ := T.f_Live_look
  obtain ⟨fd1, F1⟩ := T.f_seen_behind
  have GP : FnR P w K mg base CX0 2 (He.ma K (cSt K) "places_of") (spPlacesOf K) := ok_PlacesOf T
  have GE : FnR P w K mg base CX0 2 (He.ma K (cL K) "enter") (spEnter K) := ok_Enter T
  have GL : FnR P w K mg base CX0 1 (pga K (cL K) "layout_now") (spShow K rLay) := ok_LayNow T
  have GD : FnR P w K mg base CX0 1 (pga K (cSt K) "doors") (spStDoors K) := ok_StDoors T
  have GB : FnR P w K mg base CX0 1 (He.ga K "seen_behind") (spSeenB K) := ok_SeenB T
  have p := T.p_Store_doors
  refine fnR_mk F sc_Look (fun _ _ _ _ _ _ us hl => match us, hl with | [_, _], _ => rfl) (fun vs H Q E h => ?_) (fun cdv A outer s H vs Q E hr h => ?_)
  · obtain ⟨x, st, sa, S, n, sc, past, und, op, rfl, ok, _⟩ := h
    cases op <;> first | exact ok.elim | rfl
  · obtain ⟨x, st, sa, S, n, sc, past, und, op, rfl, ok, hL, hd, g, gd, va, ⟨l1, l2⟩, k⟩ := h
    cases op with
    | look d =>
      refine ⟨_, pss_cons (ps_expr (SlX.pe_methSl (pe_fld (pv 0) rfl) T.sc_Store T.m_Store_places_of GP (hr.mono (by decide)) pass0 (pa_cons (pv 1) pa_nil)))
        (pss_cons (ps_expr (pe_methR (pv 0) T.c_Live T.m_Live_enter GE (hr.mono (by decide)) pass0 (pa_cons (pe_tup (pa_cons pe_str (pa_cons (pv 1) pa_nil))) (pa_cons (pe_propR (pv 0) T.c_Live T.p_Live_layout_now GL (hr.mono (by decide)))
          (pa_cons (pe_ix ix_tup (pe_ix ix_tup (SlX.pe_propSl (E := E0) (pe_fld (pv 0) rfl) T.sc_Store p.at_ p.get p.tak p.rec_ GD (hr.mono (by decide)) (fun _ _ _ _ z => z)) (pv 1) (fun _ _ => rfl)) pe_int (fun _ _ => rfl)) pa_nil)))))
        (pss_one (ps_ret (pe_fn GB (hr.mono (by decide)) (by rfl) T.g_seen_behind F1.kp (pa_cons (pe_fld (pv 0) rfl) (pa_cons (pe_propR (pv 0) T.c_Live T.p_Live_layout_now GL (hr.mono (by decide))) (pa_cons (pv 1) pa_nil))))))), ?_⟩
      obtain ⟨⟨dx, hx⟩, hs, nss⟩ := id hL
      obtain ⟨dxs, _, _, _, _, slt, _⟩ := hs.slt
      refine ⟨_, rfl, x, cL K, dx, _, .ref st, rfl, hx, T.c_Live, T.n_Live_base, rfl, st, dxs, _, rfl, slt, _, rfl, st, S, d, rfl, hs, va, g.d4, g.tot, fun v1 H1 s1 => ?_⟩
      have hx1 := s1 _ _ hx
      refine ⟨_, rfl, x, dx, _, rfl, hx1, rfl, _, rfl, (by show 2 ≤ sizeLine; decide), fun t ht => ?_⟩
      have s2 : Same H (upd H1 t (.tup [.str "look", .int (d : Nat)])) := Same_trans s1 (Same_new ht)
      have t2 : (upd H1 t (.tup [.str "look", .int (d : Nat)])) t = some (.tup [.str "look", .int (d : Nat)]) := upd_same
      generalize upd H1 t (.tup [.str "look", .int (d : Nat)]) = H2 at s2 t2 ⊢
      have hx2 := s2 _ _ hx
      have hs2 := hs.same s2
      obtain ⟨dxs2, _, _, _, _, slt2, _⟩ := hs2.slt
      refine ⟨_, rfl, x, dx, _, rfl, hx2, x, st, sa, sc, past, und, rfl, ⟨dx, hx2⟩, hd.same s2, fun pl hpl => ⟨_, rfl, x, cL K, dx, _, .ref st, rfl, hx2, T.c_Live, T.n_Live_base, rfl, st, dxs2, _, rfl, slt2, st, S, rfl, hs2, fun pdr hpdr => ?_⟩⟩
      obtain ⟨des, hde, hdp⟩ := hpdr
      obtain ⟨y, hy, qd, rfl, hqd⟩ := paired_at2 hdp (List.getElem?_eq_getElem va)
      have hw := warm_at (List.getElem?_eq_getElem va)
      refine ⟨_, rfl, pdr, des, (d : Nat), _, rfl, rfl, SqT.of hde, atI_nat hy, qd, _, 0, _, rfl, rfl, SqT.of hqd, rfl, x, st, sa, pl, .ref t, .look d, sc.f.lay, _, sc, past, und, rfl, ⟨dx, hx2⟩, hd.same s2, by omega, ⟨t, rfl, t2⟩, hpl, fun H3 kb hd3 => ?_⟩
      rw [← hw] at hd3
      have hL3 : LiveAt K H3 x st sa S := (hL.same s2).stay (hd.same s2) kb
      obtain ⟨⟨dx3, hx3⟩, hs3, _⟩ := id hL3
      refine ⟨_, rfl, x, cL K, dx3, _, .ref st, rfl, hx3, T.c_Live, T.n_Live_base, rfl, _, rfl, x, dx3, _, rfl, hx3, x, st, sa, _, _, _, rfl, ⟨dx3, hx3⟩, hd3, fun pl3 hpl3 => ⟨_, rfl, st, pl3, S, sc.f.lay, d, rfl, hs3, hpl3, ?_, fun t4 H4 s4 h4 => ?_⟩⟩
      · have := gd.f.lay.six g
        omega
      · exact k H4 _ ((Same_kbut s2).trans (kb.trans (Same_kbut s4))) (hd3.same s4) (.tup (SqT.of h4) (dp_lay _))
    | _ => exact ok.elim
theorem sc_Put : FnScope ["self", "name", "place", "layout", "here"] ["self", "name", "place"] (defScope s_Live_put) := ⟨rfl, rfl, rfl, by decide +kernel, rfl, by decide +kernel, by decide +kernel⟩
theorem ok_Put (T : Txt w K mg) : FnR P w K mg base CX0 5 (He.ma K (cL K) "put") (spOp K isPut) := by
  obtain ⟨fd, F⟩ := T.f_Live_put
  obtain ⟨fd1, F1⟩ := T.f_check_crate
  obtain ⟨fd2, F2⟩ := T.f_exchanged
  obtain ⟨fd3, F3⟩ := T.f_warmth_of
  have GC : FnR P w K mg base CX0 3 (He.ga K "check_crate") (spCheckCrate K) := ok_CheckCrate T
  have GO : FnR P w K mg base CX0 2 (He.ma K (cSt K) "door_of") (spDoorOf K) := ok_DoorOf T
  have GE : FnR P w K mg base CX0 2 (He.ma K (cL K) "enter") (spEnter K) := ok_Enter T
  have GL : FnR P w K mg base CX0 1 (pga K (cL K) "layout_now") (spShow K rLay) := ok_LayNow T
  have GX : FnR P w K mg base CX0 1 (He.ga K "exchanged") spExch := ok_Exch T
  have GW : FnR P w K mg base CX0 3 (He.ga K "warmth_of") (spWarmthOf K) := ok_WarmthOf T
  refine fnR_mk F sc_Put (fun _ _ _ _ _ _ us hl => match us, hl with | [_, _, _], _ => rfl) (fun vs H Q E h => ?_) (fun cdv A outer s H vs Q E hr h => ?_)
  · obtain ⟨x, st, sa, S, n, sc, past, und, op, rfl, ok, _⟩ := h
    cases op <;> first | exact ok.elim | rfl
  · obtain ⟨x, st, sa, S, n, sc, past, und, op, rfl, ok, hL, hd, g, gd, va, ⟨l1, l2⟩, k⟩ := h
    have nd := sc_Put.nd
    cases op with
    | put z p =>
      refine ⟨_, pss_cons (ps_expr (pe_fn GC (hr.mono (by decide)) (by rfl) T.g_check_crate F1.kp (pa_cons (pe_fld (pv 0) rfl) (pa_cons (pv 1) pa_nil))))
        (pss_cons (ps_expr (SlX.pe_methSl (pe_fld (pv 0) rfl) T.sc_Store T.m_Store_door_of GO (hr.mono (by decide)) pass0 (pa_cons (pv 2) pa_nil)))
        (pss_cons (ps_set (i := 3) nd rfl (Or.inl rfl) (pe_propR (pv 0) T.c_Live T.p_Live_layout_now GL (hr.mono (by decide))))
        (pss_cons (ps_if (pt_cmpR op_notN (pe_ix ix_tup (pv 3) (pv 2) (fun _ _ => rfl)) pe_non (nomark _)) (pss_one ps_never) pss_nil)
        (pss_cons (ps_set (i := 4) nd rfl (Or.inl rfl) (pe_bmT PySem.F.slot_tuple_index PySem.F.type_tuple_index mt_tupIndex (pv 3) (pa_cons (pv 1) pa_nil)))
        (pss_cons (ps_expr (pe_methR (pv 0) T.c_Live T.m_Live_enter GE (hr.mono (by decide)) pass0 (pa_cons (pe_tup (pa_cons pe_str (pa_cons (pv 1) (pa_cons (pv 2) pa_nil))))
          (pa_cons (pe_fn GX (hr.mono (by decide)) (by rfl) T.g_exchanged F2.kp (pa_cons (pv 3) (pa_cons (pv 4) (pa_cons (pv 2) pa_nil))))
          (pa_cons (pe_fn GW (hr.mono (by decide)) (by rfl) T.g_warmth_of F3.kp (pa_cons (pe_fld (pv 0) rfl) (pa_cons (pv 4) (pa_cons (pv 2) pa_nil)))) pa_nil)))))
        (pss_one (ps_ret (pv 4)))))))), ?_⟩
      obtain ⟨⟨dx, hx⟩, hs, nss⟩ := id hL
      obtain ⟨dxs, _, _, _, _, slt, _⟩ := hs.slt
      obtain ⟨hz, hp⟩ := va
      have glen := gd.f.lay.len
      have six := gd.f.lay.six g
      have hp2 := (List.getElem?_eq_some_iff.mp hp).1
      obtain ⟨hi, hiv, hin⟩ := gd.f.lay.at_ hz
      refine ⟨_, rfl, x, cL K, dx, _, .ref st, rfl, hx, T.c_Live, T.n_Live_base, rfl, _, rfl, st, S, z, rfl, hs, hz, ?_⟩
      refine ⟨_, rfl, x, cL K, dx, _, .ref st, rfl, hx, T.c_Live, T.n_Live_base, rfl, st, dxs, _, rfl, slt, _, rfl, st, S, p, rfl, hs, by omega, ?_⟩
      refine ⟨_, rfl, x, dx, _, rfl, hx, x, st, sa, sc, past, und, rfl, ⟨dx, hx⟩, hd, fun pl hpl => ?_⟩
      refine ⟨_, rfl, _, rfl, pl, _, (p : Nat), .non, rfl, rfl, hpl.sq, atI_nat (lay_get hp), rfl, false, rfl, iteF ?_⟩
      refine ⟨_, rfl, pl, _, rfl, hpl, _, rfl, pl, _, z, place sc.f.lay z, rfl, rfl, hpl.sq, flat_lay _, hiv, hin, ?_⟩
      refine ⟨_, rfl, x, dx, _, rfl, hx, rfl, _, rfl, _, rfl, (by show 3 ≤ sizeLine; decide), fun t ht => ?_⟩
      have s2 : Same H (upd H t (.tup [.str "put", .str z, .int (p : Nat)])) := Same_new ht
      have t2 : (upd H t (.tup [.str "put", .str z, .int (p : Nat)])) t = some (.tup [.str "put", .str z, .int (p : Nat)]) := upd_same
      generalize upd H t (.tup [.str "put", .str z, .int (p : Nat)]) = H2 at s2 t2 ⊢
      refine ⟨_, rfl, _, rfl, _, rfl, pl, sc.f.lay, place sc.f.lay z, p, rfl, hpl.same s2, hi, hp2, by omega, fun q H3 s3 hq => ?_⟩
      have s23 := Same_trans s2 s3
      refine ⟨_, rfl, x, cL K, dx, _, .ref st, rfl, s23 _ _ hx, T.c_Live, T.n_Live_base, rfl, _, rfl, _, rfl, st, S, place sc.f.lay z, p, rfl, hs.same s23, by omega, by omega, fun H4 s4 => ?_⟩
      have s24 := Same_trans s23 s4
      refine ⟨x, st, sa, q, .ref t, .put z p, _, _, sc, past, und, rfl, ⟨dx, s24 _ _ hx⟩, hd.same s24, by omega, ⟨t, rfl, s4 _ _ (s3 _ _ t2)⟩, hq.same s4, fun H5 kb hd5 => ?_⟩
      exact ⟨_, rfl, k H5 _ ((Same_kbut s24).trans kb) hd5 (.int _)⟩
    | _ => exact ok.elim
end
end Ck
set_option Elab.async false
set_option linter.all false
set_option maxRecDepth 100000
set_option maxHeartbeats 4000000
namespace Ck
open PySem PySem.Spec PyProof.Rows L2
section
variable {P : Program} {w : World} {K : PySem.W.Frag} {mg : Str → Option Value} {base : Heap}
theorem sc_Exchange : FnScope ["self", "one", "other", "layout", "here", "there", "later"] ["self", "one", "other"] (defScope s_Live_exchange) := ⟨rfl, rfl, rfl, by decide +kernel, rfl, by decide +kernel, by decide +kernel⟩
theorem ok_Exchange (T : Txt w K mg) : FnR P w K mg base CX0 5 (He.ma K (cL K) "exchange") (spOp K isExch) := by
  obtain ⟨fd, F⟩ := T.f_Live_exchange
  obtain ⟨fd1, F1⟩ := T.f_check_crate
  obtain ⟨fd2, F2⟩ := T.f_exchanged
  obtain ⟨fd3, F3⟩ := T.f_warmth_of
  obtain ⟨fd4, F4⟩ := T.f_is_right
  have GC : FnR P w K mg base CX0 3 (He.ga K "check_crate") (spCheckCrate K) := ok_CheckCrate T
  have GE : FnR P w K mg base CX0 2 (He.ma K (cL K) "enter") (spEnter K) := ok_Enter T
  have GL : FnR P w K mg base CX0 1 (pga K (cL K) "layout_now") (spShow K rLay) := ok_LayNow T
  have GX : FnR P w K mg base CX0 1 (He.ga K "exchanged") spExch := ok_Exch T
  have GW : FnR P w K mg base CX0 3 (He.ga K "warmth_of") (spWarmthOf K) := ok_WarmthOf T
  have GR : FnR P w K mg base CX0 1 (He.ga K "is_right") spIsRight := ok_IsRight T
  refine fnR_mk F sc_Exchange (fun _ _ _ _ _ _ us hl => match us, hl with | [_, _, _], _ => rfl) (fun vs H Q E h => ?_) (fun cdv A outer s H vs Q E hr h => ?_)
  · obtain ⟨x, st, sa, S, n, sc, past, und, op, rfl, ok, _⟩ := h
    cases op <;> first | exact ok.elim | rfl
  · obtain ⟨x, st, sa, S, n, sc, past, und, op, rfl, ok, hL, hd, g, gd, va, ⟨l1, l2⟩, k⟩ := h
    have nd := sc_Exchange.nd
    cases op with
    | exch a b =>
      refine ⟨_, pss_cons (ps_expr (pe_fn GC (hr.mono (by decide)) (by rfl) T.g_check_crate F1.kp (pa_cons (pe_fld (pv 0) rfl) (pa_cons (pv 1) pa_nil))))
        (pss_cons (ps_expr (pe_fn GC (hr.mono (by decide)) (by rfl) T.g_check_crate F1.kp (pa_cons (pe_fld (pv 0) rfl) (pa_cons (pv 2) pa_nil))))
        (pss_cons (ps_if (pt_cmpR op_eq (pv 1) (pv 2) (nomark _)) (pss_one ps_never) pss_nil)
        (pss_cons (ps_set (i := 3) nd rfl (Or.inl rfl) (pe_propR (pv 0) T.c_Live T.p_Live_layout_now GL (hr.mono (by decide))))
        (pss_cons (ps_par (i := 4) (j := 5) rfl nd rfl rfl (by decide) rfl rfl (pa_cons (pe_bmT PySem.F.slot_tuple_index PySem.F.type_tuple_index mt_tupIndex (pv 3) (pa_cons (pv 1) pa_nil)) (pa_cons (pe_bmT PySem.F.slot_tuple_index PySem.F.type_tuple_index mt_tupIndex (pv 3) (pa_cons (pv 2) pa_nil)) pa_nil)) (by rfl))
        (pss_cons (ps_set (i := 6) nd rfl (Or.inl rfl) (pe_fn GX (hr.mono (by decide)) (by rfl) T.g_exchanged F2.kp (pa_cons (pv 3) (pa_cons (pv 4) (pa_cons (pv 5) pa_nil)))))
        (pss_cons (ps_expr (pe_methR (pv 0) T.c_Live T.m_Live_enter GE (hr.mono (by decide)) pass0 (pa_cons (pe_tup (pa_cons pe_str (pa_cons (pv 1) (pa_cons (pv 2) pa_nil)))) (pa_cons (pv 6)
          (pa_cons (pe_fn GW (hr.mono (by decide)) (by rfl) T.g_warmth_of F3.kp (pa_cons (pe_fld (pv 0) rfl) (pa_cons (pv 4) (pa_cons (pv 5) pa_nil)))) pa_nil)))))
        (pss_one (ps_ret (pe_fn GR (hr.mono (by decide)) (by rfl) T.g_is_right F4.kp (pa_cons (pv 6) pa_nil)))))))))), ?_⟩
      obtain ⟨⟨dx, hx⟩, hs, nss⟩ := id hL
      obtain ⟨ha, hb, hne⟩ := va
      have glen := gd.f.lay.len
      have six := gd.f.lay.six g
      obtain ⟨hi, hiv, hin⟩ := gd.f.lay.at_ ha
      obtain ⟨hj, hjv, hjn⟩ := gd.f.lay.at_ hb
      refine ⟨_, rfl, x, cL K, dx, _, .ref st, rfl, hx, T.c_Live, T.n_Live_base, rfl, _, rfl, st, S, a, rfl, hs, ha, ?_⟩
      refine ⟨_, rfl, x, cL K, dx, _, .ref st, rfl, hx, T.c_Live, T.n_Live_base, rfl, _, rfl, st, S, b, rfl, hs, hb, ?_⟩
      refine ⟨_, rfl, _, rfl, rfl, _, rfl, ?_⟩
      rw [decide_eq_false (show ¬ V.str a = V.str b from fun z => hne (V.str.inj z))]
      refine iteF ?_
      refine ⟨_, rfl, x, dx, _, rfl, hx, x, st, sa, sc, past, und, rfl, ⟨dx, hx⟩, hd, fun pl hpl => ?_⟩
      refine ⟨_, rfl, pl, _, rfl, hpl, _, rfl, pl, _, a, place sc.f.lay a, rfl, rfl, hpl.sq, flat_lay _, hiv, hin, _, rfl, pl, _, rfl, hpl, _, rfl, pl, _, b, place sc.f.lay b, rfl, rfl, hpl.sq, flat_lay _, hjv, hjn, _, _, rfl, ?_⟩
      have s0 : Same H H := Same.refl H
      refine ⟨_, rfl, _, rfl, _, rfl, pl, sc.f.lay, place sc.f.lay a, place sc.f.lay b, rfl, hpl.same s0, hi, hj, by omega, fun q H1 s1 hq => ?_⟩
      have s01 := Same_trans s0 s1
      refine ⟨_, rfl, x, dx, _, rfl, s01 _ _ hx, rfl, _, rfl, _, rfl, (by show 3 ≤ sizeLine; decide), fun t ht => ?_⟩
      have s12 : Same H1 (upd H1 t (.tup [.str "exchange", .str a, .str b])) := Same_new ht
      have t2 : (upd H1 t (.tup [.str "exchange", .str a, .str b])) t = some (.tup [.str "exchange", .str a, .str b]) := upd_same
      generalize upd H1 t (.tup [.str "exchange", .str a, .str b]) = H2 at s12 t2 ⊢
      have s2 := Same_trans s01 s12
      refine ⟨_, rfl, _, rfl, x, cL K, dx, _, .ref st, rfl, s2 _ _ hx, T.c_Live, T.n_Live_base, rfl, _, rfl, _, rfl, st, S, place sc.f.lay a, place sc.f.lay b, rfl, hs.same s2, by omega, by omega, fun H4 s4 => ?_⟩
      have s24 := Same_trans s2 s4
      have hq4 := (hq.same s12).same s4
      refine ⟨x, st, sa, q, .ref t, .exch a b, _, _, sc, past, und, rfl, ⟨dx, s24 _ _ hx⟩, hd.same s24, by omega, ⟨t, rfl, s4 _ _ t2⟩, hq4, fun H5 kb hd5 => ?_⟩
      have hq5 := hq4.keep (kb.kim (hd.same s24).notIm)
      have gs := gd.f.lay.swap hi hj
      refine ⟨_, rfl, q, _, rfl, hq5, by rw [swap_len]; omega, gs.words g, fun H6 s6 => ?_⟩
      exact k H6 _ ((Same_kbut s24).trans (kb.trans (Same_kbut s6))) (hd5.same s6) (.bl _)
    | _ => exact ok.elim
theorem sc_Shut : FnScope ["self", "layout", "warmth", "days"] ["self"] (defScope s_Live_shut) := ⟨rfl, rfl, rfl, by decide +kernel, rfl, by decide +kernel, by decide +kernel⟩
theorem ok_Shut (T : Txt w K mg) : FnR P w K mg base CX0 5 (He.ma K (cL K) "shut") (spOp K isShut) := by
  obtain ⟨fd, F⟩ := T.f_Live_shut
  have G : FnR P w K mg base CX0 1 (He.ma K (cS K) "go_on") (spGoOn K) := ok_GoOn T
  refine fnR_mk F sc_Shut (fun _ _ _ _ _ _ us hl => match us, hl with | [_], _ => rfl) (fun vs H Q E h => ?_) (fun cdv A outer s H vs Q E hr h => ?_)
  · obtain ⟨x, st, sa, S, n, sc, past, und, op, rfl, ok, _⟩ := h
    cases op <;> first | exact ok.elim | rfl
  · obtain ⟨x, st, sa, S, n, sc, past, und, op, rfl, ok, hL, hd, g, gd, va, ⟨l1, l2⟩, k⟩ := h
    have nd := sc_Shut.nd
    cases op with
    | shut =>
      refine ⟨_, pss_cons (ps_asg (SlX.pe_sl (pe_fld (pv 0) rfl)) (pg_tup rfl (pgs_cons (pg_name (i := 1) nd rfl (Or.inl rfl)) (pgs_cons (pg_name (i := 2) nd rfl (Or.inl rfl)) (pgs_cons (pg_name (i := 3) nd rfl (Or.inl rfl)) pgs_nil)))))
        (pss_cons (ps_expr (SlX.pe_methSl (pe_fld (pv 0) rfl) T.sc_State T.m_State_go_on G (hr.mono (by decide)) pass0 (pa_cons (pe_tup (pa_cons pe_str pa_nil)) (pa_cons (pe_tup (pa_cons (pv 1) (pa_cons pe_int (pa_cons (pe_tup (StX.pa_star (pv 3) (pa_cons (pv 2) pa_nil))) pa_nil)))) (pa_cons (SlX.pe_sl (pe_fld (pv 0) rfl)) pa_nil)))))
        (pss_one (ps_ret (pv 2)))), ?_⟩
      obtain ⟨⟨dx, hx⟩, hs0, nss⟩ := id hL
      obtain ⟨dxs, pf, pl0, pd, pp, es, pk, kvs, pu, eu, hs, hf, hl, hdd, hp, hes, hk, hkv, _⟩ := hd.slt
      have dl := gd.f.days
      refine ⟨_, rfl, x, cL K, dx, _, _, rfl, hx, T.c_Live, T.n_Live_held, rfl, sa, cS K, dxs, _, _, 0, _, rfl, hs, T.sc_State, T.sl_State_facts, rfl, pf, _, rfl, SqT.of hf, rfl, _, _, rfl, _, _, rfl, _, _, rfl, rfl, ?_⟩
      refine ⟨_, rfl, x, cL K, dx, _, _, rfl, hx, T.c_Live, T.n_Live_held, rfl, sa, dxs, _, rfl, hs, (by show 1 ≤ sizeLine; decide), fun t ht => ?_⟩
      have s1 : Same H (upd H t (.tup [.str "shut"])) := Same_new ht
      have t1 : (upd H t (.tup [.str "shut"])) t = some (.tup [.str "shut"]) := upd_same
      generalize upd H t (.tup [.str "shut"]) = H1 at s1 t1 ⊢
      refine ⟨_, rfl, _, rfl, pd, _, rfl, .inl (SqT.of (s1 _ _ hdd)), _, rfl, ?_, fun t2 ht2 => ?_⟩
      · rw [List.length_append, List.length_map, List.length_singleton]
        exact Nat.le_trans (show _ ≤ 1000 by omega) (by decide)
      have s2 : Same H1 (upd H1 t2 (.tup (sc.f.days.map V.int ++ [.int sc.f.warm]))) := Same_new ht2
      have e2 : (upd H1 t2 (.tup (sc.f.days.map V.int ++ [.int sc.f.warm]))) t2 = some (.tup ((sc.f.days ++ [sc.f.warm]).map V.int)) := by rw [upd_same, List.map_append]; rfl
      generalize upd H1 t2 (.tup (sc.f.days.map V.int ++ [.int sc.f.warm])) = H2 at s2 e2 ⊢
      refine ⟨(by show 3 ≤ sizeLine; decide), fun t3 ht3 => ?_⟩
      have s3 : Same H2 (upd H2 t3 (.tup [.ref pl0, .int 0, .ref t2])) := Same_new ht3
      have e3 : (upd H2 t3 (.tup [.ref pl0, .int 0, .ref t2])) t3 = some (.tup [.ref pl0, .int 0, .ref t2]) := upd_same
      generalize upd H2 t3 (.tup [.ref pl0, .int 0, .ref t2]) = H3 at s3 e3 ⊢
      have sA := Same_trans s1 (Same_trans s2 s3)
      have hd3 := hd.same sA
      obtain ⟨dxs', pf', pl0', pd', pp', es', pk', kvs', pu', eu', hs', _, _, _, _, _, hk', hkv', _⟩ := hd3.slt
      refine ⟨_, rfl, x, cL K, dx, _, _, rfl, sA _ _ hx, T.c_Live, T.n_Live_held, rfl, sa, cS K, dxs', _, _, 2, _, rfl, hs', T.sc_State, T.sl_State_shelf, rfl, ?_⟩
      exact ⟨sa, .ref t, .ref t3, .ref pk', sc, ⟨⟨sc.f.lay, 0, sc.f.days ++ [sc.f.warm]⟩, sc.kept⟩, past, und, .shut, rfl, hd3, by omega, ⟨t, rfl, s3 _ _ (s2 _ _ t1)⟩, ⟨t3, pl0, t2, rfl, e3, hl.same sA, s3 _ _ e2⟩, ⟨pk', kvs', rfl, hk', hkv'⟩, fun H' kb h => ⟨_, rfl, k H' _ ((Same_kbut sA).trans kb) h (.int _)⟩⟩
    | _ => exact ok.elim
theorem sc_Keep : FnScope ["self", "name", "held", "is_there"] ["self", "name"] (defScope s_Live_keep_as) := ⟨rfl, rfl, rfl, by decide +kernel, rfl, by decide +kernel, by decide +kernel⟩
theorem ok_Keep (T : Txt w K mg) : FnR P w K mg base CX0 5 (He.ma K (cL K) "keep_as") (spOp K isKeep) := by
  obtain ⟨fd, F⟩ := T.f_Live_keep_as
  obtain ⟨fd1, F1⟩ := T.f_is_word
  have G : FnR P w K mg base CX0 1 (He.ma K (cS K) "go_on") (spGoOn K) := ok_GoOn T
  have GW : FnR P w K mg base CX0 1 (He.ga K "is_word") spIsWord := ok_is_word T
  refine fnR_mk F sc_Keep (fun _ _ _ _ _ _ us hl => match us, hl with | [_, _], _ => rfl) (fun vs H Q E h => ?_) (fun cdv A outer s H vs Q E hr h => ?_)
  · obtain ⟨x, st, sa, S, n, sc, past, und, op, rfl, ok, _⟩ := h
    cases op <;> first | exact ok.elim | rfl
  · obtain ⟨x, st, sa, S, n, sc, past, und, op, rfl, ok, hL, hd, g, gd, va, ⟨l1, l2⟩, k⟩ := h
    have nd := sc_Keep.nd
    cases op with
    | keep z =>
      refine ⟨_, pss_cons (ps_if (pt_not (pt_val (pe_fn GW (hr.mono (by decide)) (by rfl) T.g_is_word F1.kp (pa_cons (pv 1) pa_nil)))) (pss_one ps_never) pss_nil)
        (pss_cons (ps_set (i := 2) nd rfl (Or.inl rfl) (pe_fld (pv 0) rfl))
        (pss_cons (ps_set (i := 3) nd rfl (Or.inl rfl) (pe_cmp (pc_din (Room_u1 hr) (pv 1) (SlX.pe_sl (pv 2)))))
        (pss_cons (ps_expr (SlX.pe_methSl (pv 2) T.sc_State T.m_State_go_on G (hr.mono (by decide)) pass0 (pa_cons (pe_tup (pa_cons pe_str (pa_cons (pv 1) pa_nil))) (pa_cons (SlX.pe_sl (pv 2))
          (pa_cons (pe_op (op_dictOr hr.units0) (SlX.pe_sl (pv 2)) (pe_disp (pps_cons (pv 1) (SlX.pe_sl (pv 2)) pps_nil) rfl rfl (by simp) (by decide))) pa_nil)))))
        (pss_one (ps_ret (pv 3)))))), ?_⟩
      obtain ⟨⟨dx, hx⟩, hs0, nss⟩ := id hL
      refine ⟨_, rfl, z, rfl, word_len1 va, fun H1 s1 => ⟨isWordB z, rfl, ?_⟩⟩
      rw [show isWordB z = true from va]
      refine iteF ?_
      have hd1 := hd.same s1
      obtain ⟨dxs, pf, pl0, pd, pp, es, pk, kvs, pu, eu, hs, hf, hl, hdd, hp, hes, hk, hkv, _⟩ := hd1.slt
      have kl := hkv.len
      have few := gd.few
      refine ⟨_, rfl, x, cL K, dx, _, _, rfl, s1 _ _ hx, T.c_Live, T.n_Live_held, rfl, ?_⟩
      refine ⟨_, rfl, _, rfl, sa, cS K, dxs, _, _, 2, _, rfl, hs, T.sc_State, T.sl_State_shelf, rfl, pk, valV kvs (Sum.inr z), rfl, DGet.k (k := Sum.inr z) hk, ?_⟩
      refine ⟨_, rfl, sa, dxs, _, rfl, hs, _, rfl, (by show 2 ≤ sizeLine; decide), fun t ht => ?_⟩
      have s2 : Same H1 (upd H1 t (.tup [.str "keep_as", .str z])) := Same_new ht
      have t2 : (upd H1 t (.tup [.str "keep_as", .str z])) t = some (.tup [.str "keep_as", .str z]) := upd_same
      generalize upd H1 t (.tup [.str "keep_as", .str z]) = H2 at s2 t2 ⊢
      have hd2 := hd1.same s2
      obtain ⟨dxs2, pf2, pl2, pd2, pp2, es2, pk2, kvs2, pu2, eu2, hs2, hf2, hl2, hdd2, _, _, hk2, hkv2, _⟩ := hd2.slt
      have kl2 := hkv2.len
      refine ⟨_, rfl, sa, cS K, dxs2, _, _, 0, _, rfl, hs2, T.sc_State, T.sl_State_facts, rfl, _, rfl, sa, cS K, dxs2, _, _, 2, _, rfl, hs2, T.sc_State, T.sl_State_shelf, rfl, fun q hq => ?_⟩
      have s3 : Same H2 (upd H2 q (.dK [])) := Same_new hq
      have q3 : (upd H2 q (.dK [])) q = some (.dK []) := upd_same
      have hd3 := hd2.same s3
      obtain ⟨dxs3, pf3, pl3, pd3, pp3, es3, pk3, kvs3, pu3, eu3, hs3, hf3, hl3, hdd3, _⟩ := hd3.slt
      refine ⟨_, rfl, _, rfl, sa, cS K, dxs3, _, _, 0, _, rfl, hs3, T.sc_State, T.sl_State_facts, rfl, q3, [(Sum.inr z, .ref pf3)], rfl, (by show 1 ≤ 15; decide), ?_⟩
      have s4 : Same H2 (upd (upd H2 q (.dK [])) q (.dK (mergeK [] [(Sum.inr z, .ref pf3)]))) := Same_upd s3 hq
      have q4 : (upd (upd H2 q (.dK [])) q (.dK (mergeK [] [(Sum.inr z, .ref pf3)]))) q = some (.dK [(Sum.inr z, .ref pf3)]) := upd_same
      have hf4 : FctP (upd (upd H2 q (.dK [])) q (.dK (mergeK [] [(Sum.inr z, .ref pf3)]))) (.ref pf3) sc.f := by
        have e : ∀ {b : Addr} {o : HO}, upd H2 q (.dK []) b = some o → o ≠ .dK [] → upd (upd H2 q (.dK [])) q (.dK (mergeK [] [(Sum.inr z, .ref pf3)])) b = some o := fun {b o} h n => by
          rw [upd_ne]
          · exact h
          · intro y
            rw [y, upd_same] at h
            exact n (Option.some.inj h).symm
        exact ⟨pf3, pl3, pd3, rfl, e hf3 (fun y => by cases y), hl3.mono fun o y => e y (fun y => by cases y), e hdd3 (fun y => by cases y)⟩
      generalize upd (upd H2 q (.dK [])) q (.dK (mergeK [] [(Sum.inr z, .ref pf3)])) = H4 at s4 q4 hf4 ⊢
      refine ⟨pk2, q, kvs2, [(Sum.inr z, .ref pf3)], rfl, rfl, .inl (s4 _ _ hk2), .inl q4, by rw [List.length_singleton]; omega, fun r hr2 => ?_⟩
      have s5 : Same H4 (upd H4 r (.dK (mergeK kvs2 [(Sum.inr z, .ref pf3)]))) := Same_new hr2
      have r5 : (upd H4 r (.dK (mergeK kvs2 [(Sum.inr z, .ref pf3)]))) r = some (.dK (putK kvs2 (Sum.inr z) (.ref pf3))) := upd_same
      generalize upd H4 r (.dK (mergeK kvs2 [(Sum.inr z, .ref pf3)])) = H5 at s5 r5 ⊢
      have s25 := Same_trans s4 s5
      have sA := Same_trans s1 (Same_trans s2 s25)
      have kv5 : KvR FctP H5 (putK kvs2 (Sum.inr z) (.ref pf3)) (putFk sc.kept z sc.f) := KvR.put (hkv2.keep fun v f y => FctP.keep (Same_kim s25) y) (hf4.keep (Same_kim s5))
      refine ⟨sa, .ref t, .ref pf2, .ref r, sc, ⟨sc.f, putFk sc.kept z sc.f⟩, past, und, .keep z, rfl, hd2.same s25, by omega, ⟨t, rfl, s25 _ _ t2⟩, FctP.keep (Same_kim s25) ⟨pf2, pl2, pd2, rfl, hf2, hl2, hdd2⟩, ⟨r, _, rfl, r5, kv5⟩, fun H' kb h => ⟨_, rfl, ?_⟩⟩
      refine k H' _ ((Same_kbut sA).trans kb) h ?_
      show Dp K H' _ (.bool (lookF sc.kept z).isSome)
      have e : (valV kvs (Sum.inr z)).isSome = (lookF sc.kept z).isSome := by
        rcases hkv.look (n := z) with ⟨y1, y2⟩ | ⟨v, f, y1, y2, _⟩ <;> rw [y1, y2] <;> rfl
      rw [e]
      exact .bl _
    | _ => exact ok.elim
theorem sc_Fetch : FnScope ["self", "name", "held"] ["self", "name"] (defScope s_Live_fetch) := ⟨rfl, rfl, rfl, by decide +kernel, rfl, by decide +kernel, by decide +kernel⟩
theorem ok_Fetch (T : Txt w K mg) : FnR P w K mg base CX0 5 (He.ma K (cL K) "fetch") (spOp K isFetch) := by
  obtain ⟨fd, F⟩ := T.f_Live_fetch
  have G : FnR P w K mg base CX0 1 (He.ma K (cS K) "go_on") (spGoOn K) := ok_GoOn T
  have GL : FnR P w K mg base CX0 1 (pga K (cL K) "layout_now") (spShow K rLay) := ok_LayNow T
  refine fnR_mk F sc_Fetch (fun _ _ _ _ _ _ us hl => match us, hl with | [_, _], _ => rfl) (fun vs H Q E h => ?_) (fun cdv A outer s H vs Q E hr h => ?_)
  · obtain ⟨x, st, sa, S, n, sc, past, und, op, rfl, ok, _⟩ := h
    cases op <;> first | exact ok.elim | rfl
  · obtain ⟨x, st, sa, S, n, sc, past, und, op, rfl, ok, hL, hd, g, gd, va, ⟨l1, l2⟩, k⟩ := h
    have nd := sc_Fetch.nd
    cases op with
    | fetch z =>
      refine ⟨_, pss_cons (ps_set (i := 2) nd rfl (Or.inl rfl) (pe_fld (pv 0) rfl))
        (pss_cons (ps_if (PW.pt (pw_or (pt_not (pt_val (pe_callB call_isi (by rfl) T.b_isinstance bo_isinstance (pa_cons (pv 1) (pa_cons (pe_bltn (v := .ty "str") (by rfl) T.b_str bo_str rfl) pa_nil)))))
          (pw_or1 (pt_cmp (pc_dnotin (Room_u1 hr) (pv 1) (SlX.pe_sl (pv 2))))))) (pss_one ps_never) pss_nil)
        (pss_cons (ps_expr (SlX.pe_methSl (pv 2) T.sc_State T.m_State_go_on G (hr.mono (by decide)) pass0 (pa_cons (pe_tup (pa_cons pe_str (pa_cons (pv 1) pa_nil))) (pa_cons (pe_dget (Room_u1 hr) (SlX.pe_sl (pv 2)) (pv 1) (fun _ _ => rfl)) (pa_cons (SlX.pe_sl (pv 2)) pa_nil)))))
        (pss_one (ps_ret (pe_propR (pv 0) T.c_Live T.p_Live_layout_now GL (hr.mono (by decide))))))), ?_⟩
      obtain ⟨⟨dx, hx⟩, hs0, nss⟩ := id hL
      obtain ⟨dxs, pf, pl0, pd, pp, es, pk, kvs, pu, eu, hs, hf, hl, hdd, hp, hes, hk, hkv, _⟩ := hd.slt
      obtain ⟨vf, f, hv, hlk, _⟩ : ∃ v f, valV kvs (Sum.inr z) = some v ∧ lookF sc.kept z = some f ∧ FctP H v f := by
        rcases hkv.look (n := z) with ⟨y1, y2⟩ | y
        · rw [show Valid S sc (.fetch z) = ((lookF sc.kept z).isSome = true) from rfl, y2] at va
          cases va
        · exact y
      refine ⟨_, rfl, x, cL K, dx, _, _, rfl, hx, T.c_Live, T.n_Live_held, rfl, ?_⟩
      refine ⟨_, rfl, _, _, _, _, true, rfl, .ty _, .base (.str _), kit_ty kb_ss, true, rfl, iteF ?_⟩
      refine ⟨_, rfl, _, rfl, sa, cS K, dxs, _, _, 2, _, rfl, hs, T.sc_State, T.sl_State_shelf, rfl, pk, valV kvs (Sum.inr z), rfl, DGet.k (k := Sum.inr z) hk, _, rfl, ?_⟩
      rw [hv]
      refine iteF ?_
      refine ⟨_, rfl, sa, dxs, _, rfl, hs, _, rfl, (by show 2 ≤ sizeLine; decide), fun t ht => ?_⟩
      have s2 : Same H (upd H t (.tup [.str "fetch", .str z])) := Same_new ht
      have t2 : (upd H t (.tup [.str "fetch", .str z])) t = some (.tup [.str "fetch", .str z]) := upd_same
      generalize upd H t (.tup [.str "fetch", .str z]) = H2 at s2 t2 ⊢
      have hd2 := hd.same s2
      obtain ⟨dxs2, pf2, pl2, pd2, pp2, es2, pk2, kvs2, pu2, eu2, hs2, hf2, hl2, hdd2, _, _, hk2, hkv2, _⟩ := hd2.slt
      obtain ⟨vf2, f2, hv2, hlk2, hF2⟩ : ∃ v f, valV kvs2 (Sum.inr z) = some v ∧ lookF sc.kept z = some f ∧ FctP H2 v f := by
        rcases hkv2.look (n := z) with ⟨y1, y2⟩ | y
        · rw [hlk] at y2
          cases y2
        · exact y
      refine ⟨_, rfl, sa, cS K, dxs2, _, _, 2, _, rfl, hs2, T.sc_State, T.sl_State_shelf, rfl, _, rfl, pk2, vf2, rfl, by rw [← hv2]; exact DGet.k (k := Sum.inr z) hk2, _, rfl, sa, cS K, dxs2, _, _, 2, _, rfl, hs2, T.sc_State, T.sl_State_shelf, rfl, ?_⟩
      refine ⟨sa, .ref t, vf2, .ref pk2, sc, ⟨f2, sc.kept⟩, past, und, .fetch z, rfl, hd2, by omega, ⟨t, rfl, t2⟩, hF2, ⟨pk2, kvs2, rfl, hk2, hkv2⟩, fun H3 kb hd3 => ?_⟩
      have hL3 : LiveAt K H3 x st sa S := (hL.same s2).stay hd2 kb
      obtain ⟨⟨dx3, hx3⟩, hs3, _⟩ := id hL3
      have e : stepS S sc (.fetch z) = ⟨f2, sc.kept⟩ := by show Scn.mk ((lookF sc.kept z).getD sc.f) sc.kept = _; rw [hlk2]; rfl
      have e2 : resD S sc (.fetch z) = .tuple (f2.lay.map dO) := by show PyData.tuple ((((lookF sc.kept z).getD sc.f)).lay.map dO) = _; rw [hlk2]; rfl
      refine ⟨_, rfl, x, dx3, _, rfl, hx3, x, st, sa, _, _, _, rfl, ⟨dx3, hx3⟩, hd3, fun pl3 hpl3 => ?_⟩
      exact k H3 _ ((Same_kbut s2).trans kb) (by rw [e]; exact hd3) (by rw [e2]; exact .tup hpl3.sq (dp_lay _))
    | _ => exact ok.elim
end
end Ck
set_option Elab.async false
set_option linter.all false
set_option maxRecDepth 100000
set_option maxHeartbeats 4000000
namespace Ck
open PySem PySem.Spec PyProof.Rows L2
theorem test_ne {a b : Str} {A B : Prop} (h : a ≠ b) (q : B) : if decide (V.str a = V.str b) = true then A else B := by
  rw [decide_eq_false (fun z => h (V.str.inj z))]
  exact iteF q
theorem test_eq {a : Str} {A B : Prop} (q : A) : if decide (V.str a = V.str a) = true then A else B := by
  rw [decide_eq_true rfl]
  exact iteT q
theorem cut_args (op : Op) : cutV (opVs op) (some 1) none = argsOf op := by
  rw [cut_tail _ (by rw [opVs_eq]; exact Nat.succ_pos _), opVs_eq]
  rfl
theorem cut_not (op : Op) : ¬ (HT.sIx (opVs op).length 0 (some 1) = 0 ∧ HT.sIx (opVs op).length (opVs op).length none = (opVs op).length) := fun hw => by
  have e : min (1 : Int).toNat (opVs op).length = 0 := hw.1
  rw [opVs_eq] at e
  have h1 : (1 : Int).toNat = 1 := rfl
  rw [List.length_cons] at e
  omega
section
variable {P : Program} {w : World} {K : PySem.W.Frag} {mg : Str → Option Value} {base : Heap}
/-! execute -/
def spExec (K : PySem.W.Frag) : Sp := fun vs H Q _ => ∃ (x st sa : Addr) (S : Sch) (n : Nat) (sc : Scn) (past und : List (Op × Scn)) (op : Op) (vo : V), vs = [.ref x, vo] ∧ OpH H vo op ∧ LiveAt K H x st sa S ∧ StateD K H sa sc past und ∧ GoodSch S ∧ Good S n sc ∧ Valid S sc op ∧ (past.length ≤ 900 ∧ n ≤ 900) ∧
  ∀ H' v, KBut sa H H' → StateD K H' sa (stepS S sc op) (past ++ [(op, sc)]) [] → Dp K H' v (resD S sc op) → Q v H'
theorem sc_Exec : FnScope ["self", "operation", "word", "rest"] ["self", "operation"] (defScope s_Live_execute) := ⟨rfl, rfl, rfl, by decide +kernel, rfl, by decide +kernel, by decide +kernel⟩
theorem ok_Exec (T : Txt w K mg) : FnR P w K mg base CX0 6 (He.ma K (cL K) "execute") (spExec K) := by
  obtain ⟨fd, F⟩ := T.f_Live_execute
  have G1 : FnR P w K mg base CX0 5 (He.ma K (cL K) "look") (spOp K isLook) := ok_Look T
  have G2 : FnR P w K mg base CX0 5 (He.ma K (cL K) "put") (spOp K isPut) := ok_Put T
  have G3 : FnR P w K mg base CX0 5 (He.ma K (cL K) "exchange") (spOp K isExch) := ok_Exchange T
  have G4 : FnR P w K mg base CX0 5 (He.ma K (cL K) "shut") (spOp K isShut) := ok_Shut T
  have G5 : FnR P w K mg base CX0 5 (He.ma K (cL K) "keep_as") (spOp K isKeep) := ok_Keep T
  have G6 : FnR P w K mg base CX0 5 (He.ma K (cL K) "fetch") (spOp K isFetch) := ok_Fetch T
  refine fnR_mk F sc_Exec (fun _ _ _ _ _ _ us hl => match us, hl with | [_, _], _ => rfl) (fun vs H Q E h => ?_) (fun cdv A outer s H vs Q E hr h => ?_)
  · obtain ⟨x, st, sa, S, n, sc, past, und, op, vo, rfl, _⟩ := h
    rfl
  · obtain ⟨x, st, sa, S, n, sc, past, und, op, vo, rfl, ⟨p, rfl, hp⟩, hL, hd, g, gd, va, ⟨l1, l2⟩, k⟩ := h
    have nd := sc_Exec.nd
    refine ⟨_, pss_cons (ps_par (i := 2) (j := 3) rfl nd rfl rfl (by decide) rfl rfl (pa_cons (pe_ix ix_tup (pv 1) pe_int (fun _ _ => rfl)) (pa_cons (pe_slice sl_tupA (pv 1) (po_some pe_int) po_none) pa_nil)) (by rfl))
      (pss_cons (ps_if (pt_cmpR op_eq (pv 2) pe_str (nomark _)) (pss_one (ps_ret (pe_methR (pv 0) T.c_Live T.m_Live_look G1 hr pass0 (pa_cons (pe_ix ix_tup (pv 3) pe_int (fun _ _ => rfl)) pa_nil)))) pss_nil)
      (pss_cons (ps_if (pt_cmpR op_eq (pv 2) pe_str (nomark _)) (pss_one (ps_ret (pe_methR (pv 0) T.c_Live T.m_Live_put G2 hr pass0 (pa_cons (pe_ix ix_tup (pv 3) pe_int (fun _ _ => rfl)) (pa_cons (pe_ix ix_tup (pv 3) pe_int (fun _ _ => rfl)) pa_nil))))) pss_nil)
      (pss_cons (ps_if (pt_cmpR op_eq (pv 2) pe_str (nomark _)) (pss_one (ps_ret (pe_methR (pv 0) T.c_Live T.m_Live_exchange G3 hr pass0 (pa_cons (pe_ix ix_tup (pv 3) pe_int (fun _ _ => rfl)) (pa_cons (pe_ix ix_tup (pv 3) pe_int (fun _ _ => rfl)) pa_nil))))) pss_nil)
      (pss_cons (ps_if (pt_cmpR op_eq (pv 2) pe_str (nomark _)) (pss_one (ps_ret (pe_methR0 (pv 0) T.c_Live T.m_Live_shut G4 hr pass0))) pss_nil)
      (pss_cons (ps_if (pt_cmpR op_eq (pv 2) pe_str (nomark _)) (pss_one (ps_ret (pe_methR (pv 0) T.c_Live T.m_Live_keep_as G5 hr pass0 (pa_cons (pe_ix ix_tup (pv 3) pe_int (fun _ _ => rfl)) pa_nil)))) pss_nil)
      (pss_cons (ps_if (pt_cmpR op_eq (pv 2) pe_str (nomark _)) (pss_one (ps_ret (pe_methR (pv 0) T.c_Live T.m_Live_fetch G6 hr pass0 (pa_cons (pe_ix ix_tup (pv 3) pe_int (fun _ _ => rfl)) pa_nil)))) pss_nil)
      (pss_one ps_never))))))), ?_⟩
    have e0 : (opVs op)[0]? = some (.str (opWord op)) := by rw [opVs_eq]; rfl
    refine ⟨_, rfl, p, _, 0, _, rfl, rfl, SqT.of hp, atI_nat (j := 0) e0, _, rfl, 1, rfl, p, _, rfl, SqT.of hp, fun hw => absurd hw (cut_not op), fun _ q hq => ⟨_, _, rfl, ?_⟩⟩
    have s1 : Same H (upd H q (.tup (cutV (opVs op) (some 1) none))) := Same_new hq
    have q1 : (upd H q (.tup (cutV (opVs op) (some 1) none))) q = some (.tup (argsOf op)) := by rw [upd_same, cut_args]
    generalize upd H q (.tup (cutV (opVs op) (some 1) none)) = H1 at s1 q1 ⊢
    have hL1 := hL.same s1
    have hd1 := hd.same s1
    obtain ⟨⟨dx, hx⟩, _⟩ := id hL1
    have kk : ∀ H' v, KBut sa H1 H' → StateD K H' sa (stepS S sc op) (past ++ [(op, sc)]) [] → Dp K H' v (resD S sc op) → Q v H' := fun H' v kb => k H' v ((Same_kbut s1).trans kb)
    cases op with
    | look d =>
      refine ⟨_, rfl, rfl, _, rfl, test_eq ?_⟩
      exact ⟨_, rfl, x, dx, _, rfl, hx, rfl, _, rfl, q, _, 0, _, rfl, rfl, SqT.of q1, rfl, x, st, sa, S, n, sc, past, und, .look d, rfl, trivial, hL1, hd1, g, gd, va, ⟨l1, l2⟩, kk⟩
    | put z d =>
      refine ⟨_, rfl, rfl, _, rfl, test_ne (by show ("put" : Str) ≠ _; decide +kernel) ?_⟩
      refine ⟨_, rfl, rfl, _, rfl, test_eq ?_⟩
      exact ⟨_, rfl, x, dx, _, rfl, hx, rfl, _, rfl, q, _, 0, _, rfl, rfl, SqT.of q1, rfl, _, rfl, q, _, 1, _, rfl, rfl, SqT.of q1, rfl, x, st, sa, S, n, sc, past, und, .put z d, rfl, trivial, hL1, hd1, g, gd, va, ⟨l1, l2⟩, kk⟩
    | exch a b =>
      refine ⟨_, rfl, rfl, _, rfl, test_ne (by show ("exchange" : Str) ≠ _; decide +kernel) ?_⟩
      refine ⟨_, rfl, rfl, _, rfl, test_ne (by show ("exchange" : Str) ≠ _; decide +kernel) ?_⟩
      refine ⟨_, rfl, rfl, _, rfl, test_eq ?_⟩
      exact ⟨_, rfl, x, dx, _, rfl, hx, rfl, _, rfl, q, _, 0, _, rfl, rfl, SqT.of q1, rfl, _, rfl, q, _, 1, _, rfl, rfl, SqT.of q1, rfl, x, st, sa, S, n, sc, past, und, .exch a b, rfl, trivial, hL1, hd1, g, gd, va, ⟨l1, l2⟩, kk⟩
    | shut =>
      refine ⟨_, rfl, rfl, _, rfl, test_ne (by show ("shut" : Str) ≠ _; decide +kernel) ?_⟩
      refine ⟨_, rfl, rfl, _, rfl, test_ne (by show ("shut" : Str) ≠ _; decide +kernel) ?_⟩
      refine ⟨_, rfl, rfl, _, rfl, test_ne (by show ("shut" : Str) ≠ _; decide +kernel) ?_⟩
      refine ⟨_, rfl, rfl, _, rfl, test_eq ?_⟩
      exact ⟨_, rfl, x, dx, _, rfl, hx, rfl, x, st, sa, S, n, sc, past, und, .shut, rfl, trivial, hL1, hd1, g, gd, va, ⟨l1, l2⟩, kk⟩
    | keep z =>
      refine ⟨_, rfl, rfl, _, rfl, test_ne (by show ("keep_as" : Str) ≠ _; decide +kernel) ?_⟩
      refine ⟨_, rfl, rfl, _, rfl, test_ne (by show ("keep_as" : Str) ≠ _; decide +kernel) ?_⟩
      refine ⟨_, rfl, rfl, _, rfl, test_ne (by show ("keep_as" : Str) ≠ _; decide +kernel) ?_⟩
      refine ⟨_, rfl, rfl, _, rfl, test_ne (by show ("keep_as" : Str) ≠ _; decide +kernel) ?_⟩
      refine ⟨_, rfl, rfl, _, rfl, test_eq ?_⟩
      exact ⟨_, rfl, x, dx, _, rfl, hx, rfl, _, rfl, q, _, 0, _, rfl, rfl, SqT.of q1, rfl, x, st, sa, S, n, sc, past, und, .keep z, rfl, trivial, hL1, hd1, g, gd, va, ⟨l1, l2⟩, kk⟩
    | fetch z =>
      refine ⟨_, rfl, rfl, _, rfl, test_ne (by show ("fetch" : Str) ≠ _; decide +kernel) ?_⟩
      refine ⟨_, rfl, rfl, _, rfl, test_ne (by show ("fetch" : Str) ≠ _; decide +kernel) ?_⟩
      refine ⟨_, rfl, rfl, _, rfl, test_ne (by show ("fetch" : Str) ≠ _; decide +kernel) ?_⟩
      refine ⟨_, rfl, rfl, _, rfl, test_ne (by show ("fetch" : Str) ≠ _; decide +kernel) ?_⟩
      refine ⟨_, rfl, rfl, _, rfl, test_ne (by show ("fetch" : Str) ≠ _; decide +kernel) ?_⟩
      refine ⟨_, rfl, rfl, _, rfl, test_eq ?_⟩
      exact ⟨_, rfl, x, dx, _, rfl, hx, rfl, _, rfl, q, _, 0, _, rfl, rfl, SqT.of q1, rfl, x, st, sa, S, n, sc, past, und, .fetch z, rfl, trivial, hL1, hd1, g, gd, va, ⟨l1, l2⟩, kk⟩
/-! Trial -/
def trialF (x o f c : Addr) : List (Str × V) := [("tested_store", .ref x), ("origin", .ref o), ("fresh", .ref f), ("chosen", .ref c)]
def spTrialInit (K : PySem.W.Frag) : Sp := fun vs H Q _ => ∃ (H0 : Hp) (y dx x st sa : Addr), vs = [.ref y, .ref x] ∧ H = upd (upd H0 dx (.own y)) y (.ins (cT K) dx []) ∧ H0 y = none ∧ H0 dx = none ∧ dx ≠ y ∧ LiveV K H0 x st sa ∧ ∀ H', Same H0 H' → H' y = some (.ins (cT K) dx (trialF x sa sa sa)) → Q .non H'
theorem sc_TrialInit : FnScope ["self", "live"] ["self", "live"] (defScope s_Trial_init) := ⟨rfl, rfl, rfl, by decide +kernel, rfl, by decide +kernel, by decide +kernel⟩
theorem ok_TrialInit (T : Txt w K mg) : FnR P w K mg base CX0 1 (He.ma K (cT K) "__init__") (spTrialInit K) := by
  obtain ⟨fd, F⟩ := T.f_Trial_init
  refine fnR_mk F sc_TrialInit (fun _ _ _ _ _ _ us hl => match us, hl with | [_, _], _ => rfl) (fun vs H Q E h => ?_) (fun cdv A outer s H vs Q E hr h => ?_)
  · obtain ⟨H0, y, dx, x, st, sa, rfl, _⟩ := h
    rfl
  · obtain ⟨H0, y, dx, x, st, sa, rfl, rfl, ny, ndx, nex, ⟨lx, hx⟩, k⟩ := h
    refine ⟨_, pss_cons (ps_fld (pv 0) (pv 1) rfl) (pss_cons (ps_fld (pv 0) (pe_fld (pv 1) rfl) rfl) (pss_cons (ps_fld (pv 0) (pe_fld (pv 1) rfl) rfl) (pss_one (ps_fld (pv 0) (pe_fld (pv 1) rfl) rfl)))), ?_⟩
    have nxy : x ≠ y := ne_of_none hx ny
    have s0 : Same H0 (upd (upd H0 dx (.own y)) y (.ins (cT K) dx [])) := Same_upd (Same_new ndx) ny
    have hy0 : (upd (upd H0 dx (.own y)) y (.ins (cT K) dx [])) y = some (.ins (cT K) dx []) := upd_same
    generalize upd (upd H0 dx (.own y)) y (.ins (cT K) dx []) = H at s0 hy0 ⊢
    have hx0 := s0 _ _ hx
    refine ⟨_, rfl, _, rfl, y, cT K, dx, [], rfl, hy0, T.c_Trial, T.n_Trial_tested_store, (by show 0 < 1000; decide), ?_⟩
    refine ⟨_, rfl, x, cL K, lx, _, .ref sa, rfl, by rw [upd_ne nxy]; exact hx0, T.c_Live, T.n_Live_held, rfl, _, rfl, y, cT K, dx, _, rfl, upd_same, T.c_Trial, T.n_Trial_origin, (by show 1 < 1000; decide), ?_⟩
    refine ⟨_, rfl, x, cL K, lx, _, .ref sa, rfl, by rw [upd_ne nxy, upd_ne nxy]; exact hx0, T.c_Live, T.n_Live_held, rfl, _, rfl, y, cT K, dx, _, rfl, upd_same, T.c_Trial, T.n_Trial_fresh, (by show 2 < 1000; decide), ?_⟩
    refine ⟨_, rfl, x, cL K, lx, _, .ref sa, rfl, by rw [upd_ne nxy, upd_ne nxy, upd_ne nxy]; exact hx0, T.c_Live, T.n_Live_held, rfl, _, rfl, y, cT K, dx, _, rfl, upd_same, T.c_Trial, T.n_Trial_chosen, (by show 3 < 1000; decide), ?_⟩
    exact k _ (Same_upd (Same_upd (Same_upd (Same_upd s0 ny) ny) ny) ny) upd_same
def spHold (K : PySem.W.Frag) : Sp := fun vs H Q _ => ∃ (y dx x o f c : Addr), vs = [.ref y] ∧ H y = some (.ins (cT K) dx (trialF x o f c)) ∧ Q .non (upd H y (.ins (cT K) dx (trialF x o f f)))
theorem sc_Hold : FnScope ["self"] ["self"] (defScope s_Trial_hold) := ⟨rfl, rfl, rfl, by decide +kernel, rfl, by decide +kernel, by decide +kernel⟩
theorem ok_Hold (T : Txt w K mg) : FnR P w K mg base CX0 1 (He.ma K (cT K) "hold") (spHold K) := by
  obtain ⟨fd, F⟩ := T.f_Trial_hold
  refine fnR_mk F sc_Hold (fun _ _ _ _ _ _ us hl => match us, hl with | [_], _ => rfl) (fun vs H Q E h => ?_) (fun cdv A outer s H vs Q E hr h => ?_)
  · obtain ⟨y, dx, x, o, f, c, rfl, _⟩ := h
    rfl
  · obtain ⟨y, dx, x, o, f, c, rfl, hy, k⟩ := h
    refine ⟨_, pss_one (ps_fld (pv 0) (pe_fld (pv 0) rfl) rfl), ?_⟩
    exact ⟨_, rfl, y, cT K, dx, _, .ref f, rfl, hy, T.c_Trial, T.n_Trial_fresh, rfl, _, rfl, y, cT K, dx, _, rfl, hy, T.c_Trial, T.n_Trial_chosen, (by show 4 < 1000; decide), k⟩
def spTEnter (K : PySem.W.Frag) : Sp := fun vs H Q _ => ∃ (y dy x lx st sa : Addr) (sc : Scn) (past und : List (Op × Scn)), vs = [.ref y] ∧ H y = some (.ins (cT K) dy (trialF x sa sa sa)) ∧ H x = some (.ins (cL K) lx (liveF st sa)) ∧ x ≠ y ∧ StateD K H sa sc past und ∧
  ∀ H' sb cc, (∀ b o, H b = some o → b ≠ x → b ≠ y → H' b = some o) → H' y = some (.ins (cT K) dy (trialF x sa sb cc)) → H' x = some (.ins (cL K) lx (liveF st sb)) → H sb = none → StateD K H' sb sc past und → Q (.ref y) H'
theorem sc_TEnter : FnScope ["self"] ["self"] (defScope s_Trial_enter) := ⟨rfl, rfl, rfl, by decide +kernel, rfl, by decide +kernel, by decide +kernel⟩
theorem ok_TEnter (T : Txt w K mg) : FnR P w K mg base CX0 4 (He.ma K (cT K) "__enter__") (spTEnter K) := by
  obtain ⟨fd, F⟩ := T.f_Trial_enter
  have G : FnR P w K mg base CX0 3 (He.ma K (cS K) "copied") (spCopied K) := ok_Copied T
  refine fnR_mk F sc_TEnter (fun _ _ _ _ _ _ us hl => match us, hl with | [_], _ => rfl) (fun vs H Q E h => ?_) (fun cdv A outer s H vs Q E hr h => ?_)
  · obtain ⟨y, dy, x, lx, st, sa, sc, past, und, rfl, _⟩ := h
    rfl
  · obtain ⟨y, dy, x, lx, st, sa, sc, past, und, rfl, hy, hx, nxy, hd, k⟩ := h
    refine ⟨_, pss_cons (ps_fld (pv 0) (pe_fld (pe_fld (pv 0) rfl) rfl) rfl) (pss_cons (ps_fld (pv 0) (SlX.pe_methSl0 (pe_fld (pv 0) rfl) T.sc_State T.m_State_copied G hr pass0) rfl) (pss_cons (ps_fld (pv 0) (SlX.pe_methSl0 (pe_fld (pv 0) rfl) T.sc_State T.m_State_copied G hr pass0) rfl)
      (pss_cons (ps_fld (pe_fld (pv 0) rfl) (pe_fld (pv 0) rfl) rfl) (pss_one (ps_ret (pv 0)))))), ?_⟩
    obtain ⟨f, p, kv, u, hs, hf, hp, hk, hu⟩ := hd
    refine ⟨_, rfl, y, cT K, dy, _, .ref x, rfl, hy, T.c_Trial, T.n_Trial_tested_store, rfl, x, cL K, lx, _, .ref sa, rfl, hx, T.c_Live, T.n_Live_held, rfl, _, rfl, y, cT K, dy, _, rfl, hy, T.c_Trial, T.n_Trial_origin, (by show 4 < 1000; decide), ?_⟩
    have k1 : ∀ b o, H b = some o → b ≠ x → b ≠ y → upd H y (.ins (cT K) dy (putF "origin" (.ref sa) (trialF x sa sa sa))) b = some o := fun b o e _ n => by rw [upd_ne n]; exact e
    have i1 : KNi H (upd H y (.ins (cT K) dy (putF "origin" (.ref sa) (trialF x sa sa sa)))) := KNi.upd hy
    have y1 : (upd H y (.ins (cT K) dy (putF "origin" (.ref sa) (trialF x sa sa sa)))) y = some (.ins (cT K) dy (trialF x sa sa sa)) := upd_same
    have x1 : (upd H y (.ins (cT K) dy (putF "origin" (.ref sa) (trialF x sa sa sa)))) x = some (.ins (cL K) lx (liveF st sa)) := by rw [upd_ne nxy]; exact hx
    have z1 : ∀ b, (upd H y (.ins (cT K) dy (putF "origin" (.ref sa) (trialF x sa sa sa)))) b = none → H b = none := fun b z => by
      cases q : H b with
      | none => rfl
      | some o =>
        by_cases e : b = y
        · rw [e, upd_same] at z; cases z
        · rw [upd_ne e, q] at z; cases z
    generalize upd H y (.ins (cT K) dy (putF "origin" (.ref sa) (trialF x sa sa sa))) = H1 at k1 i1 y1 x1 z1 ⊢
    obtain ⟨d1, slt1⟩ := (hs.ni i1).slt
    refine ⟨_, rfl, y, cT K, dy, _, .ref sa, rfl, y1, T.c_Trial, T.n_Trial_origin, rfl, sa, d1, _, rfl, slt1, sa, f, kv, p, u, rfl, hs.ni i1, fun cc H2 s2 nc hc => ?_⟩
    have y2 := s2 _ _ y1
    refine ⟨_, rfl, y, cT K, dy, _, rfl, y2, T.c_Trial, T.n_Trial_chosen, (by show 4 < 1000; decide), ?_⟩
    have x2 := s2 _ _ x1
    have i3 : KNi H2 (upd H2 y (.ins (cT K) dy (putF "chosen" (.ref cc) (trialF x sa sa sa)))) := KNi.upd y2
    have k3 : ∀ b o, H2 b = some o → b ≠ y → upd H2 y (.ins (cT K) dy (putF "chosen" (.ref cc) (trialF x sa sa sa))) b = some o := fun b o e n => by rw [upd_ne n]; exact e
    have y3 : (upd H2 y (.ins (cT K) dy (putF "chosen" (.ref cc) (trialF x sa sa sa)))) y = some (.ins (cT K) dy (trialF x sa sa cc)) := upd_same
    have x3 : (upd H2 y (.ins (cT K) dy (putF "chosen" (.ref cc) (trialF x sa sa sa)))) x = some (.ins (cL K) lx (liveF st sa)) := by rw [upd_ne nxy]; exact x2
    have z3 : ∀ b, (upd H2 y (.ins (cT K) dy (putF "chosen" (.ref cc) (trialF x sa sa sa)))) b = none → H2 b = none := fun b z => by
      cases q : H2 b with
      | none => rfl
      | some o =>
        by_cases e : b = y
        · rw [e, upd_same] at z; cases z
        · rw [upd_ne e, q] at z; cases z
    generalize upd H2 y (.ins (cT K) dy (putF "chosen" (.ref cc) (trialF x sa sa sa))) = H3 at i3 k3 y3 x3 z3 ⊢
    have hs3 := ((hs.ni i1).same s2).ni i3
    obtain ⟨d3, slt3⟩ := hs3.slt
    refine ⟨_, rfl, y, cT K, dy, _, .ref sa, rfl, y3, T.c_Trial, T.n_Trial_origin, rfl, sa, d3, _, rfl, slt3, sa, f, kv, p, u, rfl, hs3, fun sb H4 s4 nb hb => ?_⟩
    have y4 := s4 _ _ y3
    have x4 := s4 _ _ x3
    refine ⟨_, rfl, y, cT K, dy, _, rfl, y4, T.c_Trial, T.n_Trial_fresh, (by show 4 < 1000; decide), ?_⟩
    have i5 : KNi H4 (upd H4 y (.ins (cT K) dy (putF "fresh" (.ref sb) (trialF x sa sa cc)))) := KNi.upd y4
    have k5 : ∀ b o, H4 b = some o → b ≠ y → upd H4 y (.ins (cT K) dy (putF "fresh" (.ref sb) (trialF x sa sa cc))) b = some o := fun b o e n => by rw [upd_ne n]; exact e
    have y5 : (upd H4 y (.ins (cT K) dy (putF "fresh" (.ref sb) (trialF x sa sa cc)))) y = some (.ins (cT K) dy (trialF x sa sb cc)) := upd_same
    have x5 : (upd H4 y (.ins (cT K) dy (putF "fresh" (.ref sb) (trialF x sa sa cc)))) x = some (.ins (cL K) lx (liveF st sa)) := by rw [upd_ne nxy]; exact x4
    generalize upd H4 y (.ins (cT K) dy (putF "fresh" (.ref sb) (trialF x sa sa cc))) = H5 at i5 k5 y5 x5 ⊢
    refine ⟨_, rfl, y, cT K, dy, _, .ref sb, rfl, y5, T.c_Trial, T.n_Trial_fresh, rfl, _, rfl, y, cT K, dy, _, .ref x, rfl, y5, T.c_Trial, T.n_Trial_tested_store, rfl, x, cL K, lx, _, rfl, x5, T.c_Live, T.n_Live_held, (by show 2 < 1000; decide), _, rfl, ?_⟩
    have i6 : KNi H5 (upd H5 x (.ins (cL K) lx (putF "held" (.ref sb) (liveF st sa)))) := KNi.upd x5
    have iA : KNi H1 H5 := ((KNi.of_same s2).trans i3).trans ((KNi.of_same s4).trans i5)
    have iB := (i1.trans iA).trans i6
    have iC := iB.kim
    refine k _ sb cc (fun b o e n1 n2 => ?_) (by rw [upd_ne nxy.symm]; exact y5) upd_same (z1 _ (s2.free (z3 _ nb))) ⟨f, p, kv, u, SlotAt.ni i6 (SlotAt.ni i5 hb), hf.keep iC, hp.keep iC, KeptP.keep iC hk, hu.keep iC⟩
    rw [upd_ne n1]
    exact k5 _ _ (s4 _ _ (k3 _ _ (s2 _ _ (k1 _ _ e n1 n2)) n2)) n2
def spTExit (K : PySem.W.Frag) : Sp := fun vs H Q _ => ∃ (y dy x lx st sa sb : Addr) (sc : Scn) (past und : List (Op × Scn)) (f0 p0 k0 u0 : V), vs = [.ref y, .non, .non, .non] ∧ H y = some (.ins (cT K) dy (trialF x sa sb sb)) ∧ H x = some (.ins (cL K) lx (liveF st sb)) ∧ x ≠ y ∧ StateV K H sa f0 p0 k0 u0 ∧ StateD K H sb sc past und ∧ sa ≠ sb ∧
  ∀ H', (∀ b o, H b = some o → b ≠ sa → b ≠ x → H' b = some o) → H' x = some (.ins (cL K) lx (liveF st sa)) → StateD K H' sa sc past und → Q .non H'
theorem sc_TExit : FnScope ["self", "kind", "error", "trace"] ["self", "kind", "error", "trace"] (defScope s_Trial_exit) := ⟨rfl, rfl, rfl, by decide +kernel, rfl, by decide +kernel, by decide +kernel⟩
theorem ok_TExit (T : Txt w K mg) : FnR P w K mg base CX0 4 (He.ma K (cT K) "__exit__") (spTExit K) := by
  obtain ⟨fd, F⟩ := T.f_Trial_exit
  refine fnR_mk F sc_TExit (fun _ _ _ _ _ _ us hl => match us, hl with | [_, _, _, _], _ => rfl) (fun vs H Q E h => ?_) (fun cdv A outer s H vs Q E hr h => ?_)
  · obtain ⟨y, dy, x, lx, st, sa, sb, sc, past, und, f0, p0, k0, u0, rfl, _⟩ := h
    rfl
  · obtain ⟨y, dy, x, lx, st, sa, sb, sc, past, und, f0, p0, k0, u0, rfl, hy, hx, nxy, ⟨dx, h1, h2⟩, hd, nab, k⟩ := h
    refine ⟨_, pss_cons (SlX.ps_sl (pe_fld (pv 0) rfl) (SlX.pe_sl (pe_fld (pv 0) rfl))) (pss_cons (SlX.ps_sl (pe_fld (pv 0) rfl) (SlX.pe_sl (pe_fld (pv 0) rfl))) (pss_cons (SlX.ps_sl (pe_fld (pv 0) rfl) (SlX.pe_sl (pe_fld (pv 0) rfl))) (pss_cons (SlX.ps_sl (pe_fld (pv 0) rfl) (SlX.pe_sl (pe_fld (pv 0) rfl)))
      (pss_one (ps_fld (pe_fld (pv 0) rfl) (pe_fld (pv 0) rfl) rfl))))), ?_⟩
    obtain ⟨f, p, kv, u, hs, hf, hp, hk, hu⟩ := hd
    have nya : y ≠ sa := ne_of hy h1 (fun z => by unfold SlX.SlO at z; cases z)
    have nxa : x ≠ sa := ne_of hx h1 (fun z => by unfold SlX.SlO at z; cases z)
    have sl0 : ∀ {H' : Hp}, KBut sa H H' → ∃ d, SlX.Slt H' sb (cS K) d [some f, some p, some kv, some u] := fun kb => (SlotAt.keep kb nab.symm (SlotAt.notXd (K := K) (C := cS K) ⟨dx, h1, h2⟩) hs).slt
    obtain ⟨e0, t0⟩ := sl0 KBut.refl
    refine ⟨_, rfl, y, cT K, dy, _, .ref sb, rfl, hy, T.c_Trial, T.n_Trial_chosen, rfl, sb, cS K, e0, _, _, 0, f, rfl, t0, T.sc_State, T.sl_State_facts, rfl, _, rfl, y, cT K, dy, _, .ref sa, rfl, hy, T.c_Trial, T.n_Trial_origin, rfl, sa, cS K, dx, _, _, 0, rfl, .inr ⟨h1, h2⟩, T.sc_State, T.sl_State_facts, ?_⟩
    obtain ⟨k1, a1, d1⟩ := slot_put (vs' := SlX.putS 0 f [some f0, some p0, some k0, some u0]) h1 h2
    generalize SlX.slH H sa (cS K) dx (SlX.putS 0 f [some f0, some p0, some k0, some u0]) = H1 at k1 a1 d1 ⊢
    have y1 := k1 _ _ hy nya
    obtain ⟨e1, t1⟩ := sl0 k1
    refine ⟨_, rfl, y, cT K, dy, _, .ref sb, rfl, y1, T.c_Trial, T.n_Trial_chosen, rfl, sb, cS K, e1, _, _, 2, kv, rfl, t1, T.sc_State, T.sl_State_shelf, rfl, _, rfl, y, cT K, dy, _, .ref sa, rfl, y1, T.c_Trial, T.n_Trial_origin, rfl, sa, cS K, dx, _, _, 2, rfl, .inr ⟨a1, d1⟩, T.sc_State, T.sl_State_shelf, ?_⟩
    obtain ⟨k2, a2, d2⟩ := slot_put (vs' := SlX.putS 2 kv (SlX.putS 0 f [some f0, some p0, some k0, some u0])) a1 d1
    generalize SlX.slH H1 sa (cS K) dx (SlX.putS 2 kv (SlX.putS 0 f [some f0, some p0, some k0, some u0])) = H2 at k2 a2 d2 ⊢
    have y2 := k2 _ _ y1 nya
    obtain ⟨e2, t2⟩ := sl0 (k1.trans k2)
    refine ⟨_, rfl, y, cT K, dy, _, .ref sb, rfl, y2, T.c_Trial, T.n_Trial_chosen, rfl, sb, cS K, e2, _, _, 1, p, rfl, t2, T.sc_State, T.sl_State_past, rfl, _, rfl, y, cT K, dy, _, .ref sa, rfl, y2, T.c_Trial, T.n_Trial_origin, rfl, sa, cS K, dx, _, _, 1, rfl, .inr ⟨a2, d2⟩, T.sc_State, T.sl_State_past, ?_⟩
    obtain ⟨k3, a3, d3⟩ := slot_put (vs' := SlX.putS 1 p (SlX.putS 2 kv (SlX.putS 0 f [some f0, some p0, some k0, some u0]))) a2 d2
    generalize SlX.slH H2 sa (cS K) dx (SlX.putS 1 p (SlX.putS 2 kv (SlX.putS 0 f [some f0, some p0, some k0, some u0]))) = H3 at k3 a3 d3 ⊢
    have y3 := k3 _ _ y2 nya
    obtain ⟨e3, t3⟩ := sl0 ((k1.trans k2).trans k3)
    refine ⟨_, rfl, y, cT K, dy, _, .ref sb, rfl, y3, T.c_Trial, T.n_Trial_chosen, rfl, sb, cS K, e3, _, _, 3, u, rfl, t3, T.sc_State, T.sl_State_undone, rfl, _, rfl, y, cT K, dy, _, .ref sa, rfl, y3, T.c_Trial, T.n_Trial_origin, rfl, sa, cS K, dx, _, _, 3, rfl, .inr ⟨a3, d3⟩, T.sc_State, T.sl_State_undone, ?_⟩
    obtain ⟨k4, a4, d4⟩ := slot_put (vs' := SlX.putS 3 u (SlX.putS 1 p (SlX.putS 2 kv (SlX.putS 0 f [some f0, some p0, some k0, some u0])))) a3 d3
    generalize SlX.slH H3 sa (cS K) dx (SlX.putS 3 u (SlX.putS 1 p (SlX.putS 2 kv (SlX.putS 0 f [some f0, some p0, some k0, some u0])))) = H4 at k4 a4 d4 ⊢
    have kA := ((k1.trans k2).trans k3).trans k4
    have y4 := kA _ _ hy nya
    have x4 := kA _ _ hx nxa
    refine ⟨_, rfl, y, cT K, dy, _, .ref sa, rfl, y4, T.c_Trial, T.n_Trial_origin, rfl, _, rfl, y, cT K, dy, _, .ref x, rfl, y4, T.c_Trial, T.n_Trial_tested_store, rfl, x, cL K, lx, _, rfl, x4, T.c_Live, T.n_Live_held, (by show 2 < 1000; decide), ?_⟩
    have i5 : KNi H4 (upd H4 x (.ins (cL K) lx (putF "held" (.ref sa) (liveF st sb)))) := KNi.upd x4
    have iA := (KBut.kim kA (SlotAt.notIm (K := K) (C := cS K) ⟨dx, h1, h2⟩)).trans i5.kim
    refine k _ (fun b o e n1 n2 => by rw [upd_ne n2]; exact kA _ _ e n1) upd_same ⟨f, p, kv, u, SlotAt.ni i5 ⟨dx, a4, d4⟩, hf.keep iA, hp.keep iA, KeptP.keep iA hk, hu.keep iA⟩
end
end Ck
set_option Elab.async false
set_option linter.all false
set_option maxRecDepth 100000
set_option maxHeartbeats 4000000
namespace Ck
open PySem PySem.Spec PyProof.Rows L2
/-! ### runs of operations -/
def runS (S : Sch) : Scn → List Op → Scn
  | sc, [] => sc
  | sc, op :: r => runS S (stepS S sc op) r
def histS (S : Sch) : Scn → List Op → List (Op × Scn)
  | _, [] => []
  | sc, op :: r => (op, sc) :: histS S (stepS S sc op) r
def resS (S : Sch) : Scn → List Op → List PyData
  | _, [] => []
  | sc, op :: r => resD S sc op :: resS S (stepS S sc op) r
def ValidS (S : Sch) : Scn → List Op → Prop
  | _, [] => True
  | sc, op :: r => Valid S sc op ∧ ValidS S (stepS S sc op) r
def undS (und : List (Op × Scn)) : List Op → List (Op × Scn)
  | [] => und
  | _ :: _ => []
theorem runS_app (S : Sch) : ∀ (l m : List Op) (sc : Scn), runS S sc (l ++ m) = runS S (runS S sc l) m
  | [], _, _ => rfl
  | op :: l, m, sc => runS_app S l m (stepS S sc op)
theorem histS_app (S : Sch) : ∀ (l m : List Op) (sc : Scn), histS S sc (l ++ m) = histS S sc l ++ histS S (runS S sc l) m
  | [], _, _ => rfl
  | op :: l, m, sc => by
    show (op, sc) :: histS S (stepS S sc op) (l ++ m) = (op, sc) :: (histS S (stepS S sc op) l ++ histS S (runS S (stepS S sc op) l) m)
    rw [histS_app S l m]
theorem resS_app (S : Sch) : ∀ (l m : List Op) (sc : Scn), resS S sc (l ++ m) = resS S sc l ++ resS S (runS S sc l) m
  | [], _, _ => rfl
  | op :: l, m, sc => by
    show resD S sc op :: resS S (stepS S sc op) (l ++ m) = resD S sc op :: (resS S (stepS S sc op) l ++ resS S (runS S (stepS S sc op) l) m)
    rw [resS_app S l m]
theorem validS_app (S : Sch) : ∀ (l m : List Op) (sc : Scn), ValidS S sc (l ++ m) ↔ ValidS S sc l ∧ ValidS S (runS S sc l) m
  | [], m, sc => ⟨fun h => ⟨trivial, h⟩, fun h => h.2⟩
  | op :: l, m, sc => by
    show (Valid S sc op ∧ ValidS S (stepS S sc op) (l ++ m)) ↔ (Valid S sc op ∧ ValidS S (stepS S sc op) l) ∧ ValidS S (runS S (stepS S sc op) l) m
    rw [validS_app S l m, and_assoc]
theorem histS_len (S : Sch) : ∀ (l : List Op) (sc : Scn), (histS S sc l).length = l.length
  | [], _ => rfl
  | op :: l, sc => by
    show (histS S (stepS S sc op) l).length + 1 = l.length + 1
    rw [histS_len S l]
theorem histS_ops (S : Sch) : ∀ (l : List Op) (sc : Scn), (histS S sc l).map (·.1) = l
  | [], _ => rfl
  | op :: l, sc => by
    show op :: (histS S (stepS S sc op) l).map (·.1) = op :: l
    rw [histS_ops S l]
theorem take_one {α : Type} {l : List α} {i : Nat} {x : α} (h : l[i]? = some x) : l.take (i + 1) = l.take i ++ [x] := by
  rw [List.take_add_one, h]
  rfl
theorem lookF_mem : ∀ {kept : List (Str × Fct)} {n : Str} {f : Fct}, lookF kept n = some f → ∃ p ∈ kept, p.2 = f
  | [], n, f, h => by cases h
  | p :: r, n, f, h => by
    unfold lookF at h
    rw [List.find?_cons] at h
    by_cases e : p.1 = n
    · rw [decide_eq_true e] at h
      exact ⟨p, List.mem_cons_self, Option.some.inj h⟩
    · rw [decide_eq_false e] at h
      obtain ⟨q, hq, hf⟩ := lookF_mem (kept := r) (n := n) (f := f) h
      exact ⟨q, List.mem_cons_of_mem _ hq, hf⟩
theorem putFk_len (kept : List (Str × Fct)) (n : Str) (f : Fct) : (putFk kept n f).length ≤ kept.length + 1 := by
  unfold putFk
  split
  · rw [List.length_map]
    omega
  · rw [List.length_append, List.length_singleton]
    omega
theorem putFk_mem {kept : List (Str × Fct)} {n : Str} {f : Fct} {p : Str × Fct} (h : p ∈ putFk kept n f) : p.2 = f ∨ ∃ q ∈ kept, q.2 = p.2 := by
  unfold putFk at h
  split at h
  · obtain ⟨q, hq, e⟩ := List.mem_map.mp h
    split at e
    · exact .inl (by rw [← e])
    · exact .inr ⟨q, hq, by rw [e]⟩
  · rcases List.mem_append.mp h with h | h
    · exact .inr ⟨p, h, rfl⟩
    · exact .inl (by rw [List.mem_singleton.mp h])
theorem GoodF.mono {S : Sch} {n m : Nat} {f : Fct} (h : GoodF S n f) (l : n ≤ m) : GoodF S m f := ⟨h.lay, Nat.le_trans h.days l⟩
theorem Good.mono {S : Sch} {n m : Nat} {sc : Scn} (h : Good S n sc) (l : n ≤ m) : Good S m sc := ⟨h.f.mono l, Nat.le_trans h.few l, fun p hp => (h.kept p hp).mono l⟩
theorem good_step {S : Sch} {n : Nat} {sc : Scn} {op : Op} (h : Good S n sc) (va : Valid S sc op) : Good S (n + 1) (stepS S sc op) := by
  have l1 : n ≤ n + 1 := Nat.le_succ n
  have hf := h.f
  cases op with
  | look d => exact ⟨⟨hf.lay, Nat.le_trans hf.days l1⟩, Nat.le_trans h.few l1, fun p hp => (h.kept p hp).mono l1⟩
  | put z p =>
    obtain ⟨hz, hp⟩ := va
    exact ⟨⟨hf.lay.swap (hf.lay.at_ hz).1 (List.getElem?_eq_some_iff.mp hp).1, Nat.le_trans hf.days l1⟩, Nat.le_trans h.few l1, fun p hp => (h.kept p hp).mono l1⟩
  | exch a b =>
    obtain ⟨ha, hb, _⟩ := va
    exact ⟨⟨hf.lay.swap (hf.lay.at_ ha).1 (hf.lay.at_ hb).1, Nat.le_trans hf.days l1⟩, Nat.le_trans h.few l1, fun p hp => (h.kept p hp).mono l1⟩
  | shut => exact ⟨⟨hf.lay, by show (sc.f.days ++ [sc.f.warm]).length ≤ n + 1; rw [List.length_append, List.length_singleton]; have := hf.days; omega⟩, Nat.le_trans h.few l1, fun p hp => (h.kept p hp).mono l1⟩
  | keep z =>
    refine ⟨hf.mono l1, Nat.le_trans (putFk_len _ _ _) (Nat.succ_le_succ h.few), fun p hp => ?_⟩
    rcases putFk_mem hp with e | ⟨q, hq, e⟩
    · rw [e]
      exact hf.mono l1
    · rw [← e]
      exact (h.kept q hq).mono l1
  | fetch z =>
    refine ⟨?_, Nat.le_trans h.few l1, fun p hp => (h.kept p hp).mono l1⟩
    show GoodF S (n + 1) ((lookF sc.kept z).getD sc.f)
    cases e : lookF sc.kept z with
    | none => exact hf.mono l1
    | some f =>
      obtain ⟨p, hp, e2⟩ := lookF_mem e
      have := (h.kept p hp).mono l1
      rw [e2] at this
      exact this
theorem good_run {S : Sch} : ∀ {l : List Op} {n : Nat} {sc : Scn}, Good S n sc → ValidS S sc l → Good S (n + l.length) (runS S sc l)
  | [], n, sc, h, _ => h
  | op :: l, n, sc, h, v => by
    have := good_run (good_step h v.1) v.2
    rw [List.length_cons]
    exact this.mono (by omega)
theorem undS_snoc {und : List (Op × Scn)} (l : List Op) (op : Op) : undS und (l ++ [op]) = [] := by cases l <;> rfl
/-! ### results -/
def Flat1 (d : PyData) : Prop := (∃ l : Lay, d = .tuple (l.map dO)) ∨ (∃ i, d = .int i) ∨ ∃ b, d = .bool b
theorem resD_flat (S : Sch) (sc : Scn) (op : Op) : Flat1 (resD S sc op) := by
  cases op with
  | look d => exact .inl ⟨_, rfl⟩
  | put z p => exact .inr (.inl ⟨_, rfl⟩)
  | exch a b => exact .inr (.inr ⟨_, rfl⟩)
  | shut => exact .inr (.inl ⟨_, rfl⟩)
  | keep z => exact .inr (.inr ⟨_, rfl⟩)
  | fetch z => exact .inl ⟨_, rfl⟩
def KTup (H H' : Hp) : Prop := ∀ b o, H b = some o → ((∃ xs, o = .tup xs) ∨ ∃ ob xs, o = .frz ob (.tup xs)) → H' b = some o
theorem KTup.sq {K : PySem.W.Frag} {H H' : Hp} {a : Addr} {xs : List V} (k : KTup H H') (h : SqT K H a xs) : SqT K H' a xs := by
  rcases h with (h | ⟨o, h⟩) | h
  · exact .inl (.inl (k _ _ h (.inl ⟨_, rfl⟩)))
  · exact .inl (.inr ⟨o, k _ _ h (.inr ⟨_, _, rfl⟩)⟩)
  · exact .inr h
theorem dpO_any {K : PySem.W.Frag} {H H' : Hp} {v : V} {o : Option Str} (h : Dp K H v (dO o)) : Dp K H' v (dO o) := by
  cases o with
  | none => cases h; exact .non
  | some s => cases h; exact .str s
theorem dpLay_any {K : PySem.W.Frag} {H H' : Hp} : ∀ {xs : List V} {l : Lay}, DpAll K H xs (l.map dO) → DpAll K H' xs (l.map dO)
  | _, [], h => by cases h; exact .nil
  | _, o :: l, h => by
    rw [List.map_cons] at h
    cases h with
    | cons a b => exact .cons (dpO_any a) (dpLay_any b)
theorem dp_flat {K : PySem.W.Frag} {H H' : Hp} {v : V} {d : PyData} (k : KTup H H') (f : Flat1 d) (h : Dp K H v d) : Dp K H' v d := by
  rcases f with ⟨l, rfl⟩ | ⟨i, rfl⟩ | ⟨b, rfl⟩
  · cases h with
    | tup hs ha => exact .tup (k.sq hs) (dpLay_any ha)
  · cases h; exact .int i
  · cases h; exact .bl b
/-! ### all but lists stays -/
def KNl (H H' : Hp) : Prop := ∀ b o, H b = some o → (∀ xs, o ≠ .lst xs) → H' b = some o
section
variable {K : PySem.W.Frag} {H H' : Hp} {v : V} {a st sa x : Addr}
theorem KNl.upd {xs : List V} {o : HO} (h : H a = some (.lst xs)) : KNl H (upd H a o) := fun b u e n => by
  rw [upd_ne]
  · exact e
  · intro z
    rw [z, h] at e
    exact n _ (Option.some.inj e).symm
theorem KNl.ktup (k : KNl H H') : KTup H H' := fun b o e h => k b o e fun xs z => by
  rcases h with ⟨ys, h⟩ | ⟨ob, ys, h⟩ <;> (rw [h] at z; cases z)
theorem FctP.nl {f : Fct} (k : KNl H H') (h : FctP H v f) : FctP H' v f := by
  obtain ⟨p, pl, pd, e, h1, h2, h3⟩ := h
  exact ⟨p, pl, pd, e, k _ _ h1 (fun _ z => by cases z), h2.mono fun o y => k _ _ y (fun _ z => by cases z), k _ _ h3 (fun _ z => by cases z)⟩
theorem KeptP.nl {kept : List (Str × Fct)} (k : KNl H H') (h : KeptR FctP H v kept) : KeptR FctP H' v kept := by
  obtain ⟨q, kvs, e, h1, h2⟩ := h
  exact ⟨q, kvs, e, k _ _ h1 (fun _ z => by cases z), h2.keep fun _ _ q => FctP.nl k q⟩
theorem OpH.nl {op : Op} (k : KNl H H') (h : OpH H v op) : OpH H' v op := by
  obtain ⟨p, e, h1⟩ := h
  exact ⟨p, e, k _ _ h1 (fun _ z => by cases z)⟩
theorem EntP.nl {e : Op × Scn} (k : KNl H H') (h : EntP H v e) : EntP H' v e := by
  obtain ⟨a, vo, vf, vk, e, h1, h2, h3, h4⟩ := h
  exact ⟨a, vo, vf, vk, e, k _ _ h1 (fun _ z => by cases z), h2.nl k, h3.nl k, KeptP.nl k h4⟩
theorem PastP.nl {l : List (Op × Scn)} (k : KNl H H') (h : PastP H v l) : PastP H' v l := by
  obtain ⟨p, es, e, h1, h2⟩ := h
  exact ⟨p, es, e, k _ _ h1 (fun _ z => by cases z), Paired_mono h2 fun a b q => EntP.nl k q⟩
theorem SlotAt.nl {C : Addr} {vs : List (Option V)} (k : KNl H H') (h : SlotAt K C H a vs) : SlotAt K C H' a vs := by
  obtain ⟨dx, h1, h2⟩ := h
  exact ⟨dx, k _ _ h1 (fun _ z => by unfold SlX.SlO at z; cases z), k _ _ h2 (fun _ z => by cases z)⟩
theorem StateD.nl {sc : Scn} {past und : List (Op × Scn)} (k : KNl H H') (h : StateD K H a sc past und) : StateD K H' a sc past und := by
  obtain ⟨f, p, kk, u, h1, h2, h3, h4, h5⟩ := h
  exact ⟨f, p, kk, u, SlotAt.nl k h1, h2.nl k, h3.nl k, KeptP.nl k h4, h5.nl k⟩
end
end Ck
set_option Elab.async false
set_option linter.all false
set_option maxRecDepth 100000
set_option maxHeartbeats 4000000
namespace Ck
open PySem PySem.Spec PyProof.Rows L2
section
variable {P : Program} {w : World} {K : PySem.W.Frag} {mg : Str → Option Value} {base : Heap}
def ResP (K : PySem.W.Frag) (H : Hp) (acc : List V) (rs : List PyData) : Prop := Paired (fun v d => Dp K H v d ∧ Flat1 d) acc rs
theorem ResP.kt {H H' : Hp} {acc : List V} {rs : List PyData} (k : KTup H H') (h : ResP K H acc rs) : ResP K H' acc rs := Paired_mono h fun _ _ z => ⟨dp_flat k z.2 z.1, z.2⟩
theorem KBut.ktup {H H' : Hp} {r : Addr} (k : KBut r H H') (n : ∀ o, H r = some o → ¬ ((∃ xs, o = .tup xs) ∨ ∃ ob xs, o = .frz ob (.tup xs))) : KTup H H' := fun b o e h => k b o e fun z => n o (by rw [← z]; exact e) h
theorem SlotAt.notTup {C : Addr} {H : Hp} {a : Addr} {vs : List (Option V)} (h : SlotAt K C H a vs) : ∀ o, H a = some o → ¬ ((∃ xs, o = .tup xs) ∨ ∃ ob xs, o = .frz ob (.tup xs)) := fun o e z => by
  obtain ⟨dx, h1, _⟩ := h
  rw [h1] at e
  have e2 := Option.some.inj e
  rcases z with ⟨xs, z⟩ | ⟨ob, xs, z⟩ <;> (rw [z] at e2; unfold SlX.SlO at e2; cases e2)
def spApply (K : PySem.W.Frag) : Sp := fun vs H Q _ => ∃ (x st sa : Addr) (S : Sch) (n : Nat) (sc : Scn) (past und : List (Op × Scn)) (po : Addr) (vos : List V) (ops : List Op), vs = [.ref x, .ref po] ∧ H po = some (.lst vos) ∧ Paired (OpH H) vos ops ∧ LiveAt K H x st sa S ∧ StateD K H sa sc past und ∧ GoodSch S ∧ Good S n sc ∧ ValidS S sc ops ∧ (past.length + ops.length ≤ 900 ∧ n + ops.length ≤ 900) ∧
  ∀ H' l acc, KBut sa H H' → H l = none → H' l = some (.lst acc) → ResP K H' acc (resS S sc ops) → StateD K H' sa (runS S sc ops) (past ++ histS S sc ops) (undS und ops) → Q (.ref l) H'
theorem sc_Apply : FnScope ["self", "operations", "index", "operation", "trial", "found"] ["self", "operations"] (defScope s_Live_apply_all) := ⟨rfl, rfl, rfl, by decide +kernel, rfl, by decide +kernel, by decide +kernel⟩
theorem SqL.same {H H' : Hp} {a : Addr} {xs : List V} (k : Same H H') (h : SqL K H a xs) : SqL K H' a xs := by
  rcases h with (h | ⟨o, h⟩) | h
  · exact .inl (.inl (k _ _ h))
  · exact .inl (.inr ⟨o, k _ _ h⟩)
  · exact .inr h
theorem fr_ni {H H' : Hp} {x y C lx D dy : Addr} {fs gs : List (Str × V)} (hx : H x = some (.ins C lx fs)) (hy : H y = some (.ins D dy gs)) (fr : ∀ b o, H b = some o → b ≠ x → b ≠ y → H' b = some o) : KNi H H' := fun b o e n =>
  fr b o e (fun z => by rw [z, hx] at e; exact n _ _ _ (Option.some.inj e).symm) (fun z => by rw [z, hy] at e; exact n _ _ _ (Option.some.inj e).symm)
theorem ok_Apply (T : Txt w K mg) : FnR P w K mg base CX0 8 (He.ma K (cL K) "apply_all") (spApply K) := by
  obtain ⟨fd, F⟩ := T.f_Live_apply_all
  obtain ⟨fd1, F1⟩ := T.f_is_operation
  have GO : FnR P w K mg base CX0 1 (He.ga K "is_operation") spIsOp := ok_IsOp T
  have GX : FnR P w K mg base CX0 6 (He.ma K (cL K) "execute") (spExec K) := ok_Exec T
  have GI : FnR P w K mg base CX0 1 (He.ma K (cT K) "__init__") (spTrialInit K) := ok_TrialInit T
  have GH : FnR P w K mg base CX0 1 (He.ma K (cT K) "hold") (spHold K) := ok_Hold T
  have GE : FnR P w K mg base CX0 4 (He.ma K (cT K) "__enter__") (spTEnter K) := ok_TEnter T
  have GZ : FnR P w K mg base CX0 4 (He.ma K (cT K) "__exit__") (spTExit K) := ok_TExit T
  refine fnR_mk F sc_Apply (fun _ _ _ _ _ _ us hl => match us, hl with | [_, _], _ => rfl) (fun vs H Q E h => ?_) (fun cdv A outer s H vs Q E hr h => ?_)
  · obtain ⟨x, st, sa, S, n, sc, past, und, po, vos, ops, rfl, _⟩ := h
    rfl
  · obtain ⟨x, st, sa, S, n, sc, past, und, po, vos, ops, rfl, hpo, hops, hL, hd, g, gd, va, ⟨l1, l2⟩, k⟩ := h
    have nd := sc_Apply.nd
    refine ⟨_, pss_cons (ps_for PassesOwn.never rfl (pi_enum (by rfl) T.b_enumerate (pa_cons (pv 1) pa_nil)) (pg_tup rfl (pgs_cons (pg_name (i := 2) nd rfl (Or.inl rfl)) (pgs_cons (pg_name (i := 3) nd rfl (Or.inl rfl)) pgs_nil)))
        (pss_one (ps_if (pt_not (pt_val (pe_fn GO (hr.mono (by decide)) (by rfl) T.g_is_operation F1.kp (pa_cons (pv 3) pa_nil)))) (pss_one ps_never) pss_nil)))
      (pss_cons (ps_with (i := 4) nd rfl (Or.inl rfl) (Or.inl rfl) rfl (StX.pe_makeR (E := E0) T.mk_Trial GI (hr.mono (by decide)) (by rfl) T.g_Trial pass0 (pa_cons (pv 0) pa_nil)) T.m_Trial_enter T.m_Trial_exit GE GZ (hr.mono (by decide)) pass0
        (pss_cons (ps_setLc (i := 5) (own := [("operation", 3)]) (g := gName 3) (tt := tYes) rfl nd rfl rfl (sw_true rfl rfl rfl (by decide +kernel)) (pi_list (pv 1)) (blkOk_by (N := ["self", "operations", "index", "operation", "trial", "found"]) (sc := defScope s_Live_apply_all) (by decide +kernel))
            (fun _ _ _ _ _ => pg_name (i := 3) nd rfl (Or.inl rfl)) (fun _ _ _ _ _ => pts_nil) (fun _ _ _ _ _ => pe_methR (pv 0) T.c_Live T.m_Live_execute GX (hr.mono (by decide)) pass0 (pa_cons (pv 3) pa_nil)))
          (pss_one (ps_expr (pe_methR0 (pv 4) T.c_Trial T.m_Trial_hold GH (hr.mono (by decide)) pass0)))))
      (pss_one (ps_ret (pv 5)))), ?_⟩
    have lops := Paired.length hops
    obtain ⟨⟨lx, hx⟩, hs, nss⟩ := id hL
    refine ⟨_, rfl, po, vos, rfl, SqL.of hpo, for_it (walk_enum (xs := vos)) (fun i σ H' => ∃ v2 v3, σ = [some (.ref x), some (.ref po), v2, v3, none, none] ∧ Same H H') ⟨none, none, rfl, Same.refl _⟩ (fun i σ H' _ ⟨_, _, _, sm⟩ => SqL.of (sm _ _ hpo)) ?_ ?_⟩
    · rintro i v σ H1 H2 hi ⟨v2, v3, rfl, sm⟩ ⟨t, a, b, rfl, ht, rfl, ha, hb⟩
      obtain ⟨op, hop, hO⟩ := paired_at hops hb
      have st2 : Same H1 (upd H1 t (.tup [a, b])) := Same_new ht
      refine ⟨t, _, rfl, SqT.of upd_same, rfl, _, _, rfl, _, _, rfl, rfl, ?_⟩
      refine ⟨_, rfl, b, op, rfl, hO.keep (Same_kim (Same_trans sm st2)), fun H3 s3 => ⟨true, rfl, iteF ?_⟩⟩
      exact ⟨_, _, rfl, Same_trans sm (Same_trans st2 s3)⟩
    · rintro σ H1 ⟨v2, v3, rfl, s1⟩
      have hx1 := s1 _ _ hx
      refine ⟨_, rfl, fun y dy ny ndy ney => ⟨H1, y, dy, x, st, sa, rfl, rfl, ny, ndy, ney, ⟨lx, hx1⟩, fun H2 s2 hy => ⟨rfl, ?_⟩⟩⟩
      have hx2 := s2 _ _ hx1
      have nxy : x ≠ y := ne_of_none hx1 ny
      have s02 := Same_trans s1 s2
      have hd2 := hd.same s02
      refine ⟨y, dy, _, rfl, hy, y, dy, x, lx, st, sa, sc, past, und, rfl, hy, hx2, nxy, hd2, fun H3 sb cc fr hy3 hx3 nb hd3 => ?_⟩
      have ni23 : KNi H2 H3 := fr_ni hx2 hy fr
      have hs3 : StoreAt K H3 st S := (hs.same s02).ni ni23
      have nst : st ≠ sb := by
        obtain ⟨_, _, ⟨_, z, _⟩, _⟩ := hs.same s02
        exact ne_of_none z nb
      have hL3 : LiveAt K H3 x st sb S := ⟨⟨lx, hx3⟩, hs3, nst⟩
      have hl3 : ∀ {b : Addr} {o : HO}, H b = some o → (∀ C dx fs, o ≠ .ins C dx fs) → H3 b = some o := fun e n => ni23 _ _ (s02 _ _ e) n
      have hpo3 : H3 po = some (.lst vos) := hl3 hpo (fun _ _ _ z => by cases z)
      have hops3 : Paired (OpH H3) vos ops := Paired_mono hops fun a b z => (z.keep (Same_kim s02)).keep ni23.kim
      refine ⟨_, rfl, po, rfl, ⟨_, SqL.of hpo3⟩, fun D hD => lc_it (walk_list (xs := vos)) (fun i H' => ∃ acc, H' D = some (.lst acc) ∧ acc.length ≤ i ∧ KBut sb H3 H' ∧ StateD K H' sb (runS S sc (ops.take i)) (past ++ histS S sc (ops.take i)) (undS und (ops.take i)) ∧ ResP K H' acc (resS S sc (ops.take i)))
        ⟨[], upd_same, Nat.le_refl _, Same_kbut (Same_new hD), by rw [List.take_zero]; show StateD K _ sb sc (past ++ []) und; rw [List.append_nil]; exact hd3.same (Same_new hD), by rw [List.take_zero]; exact .nil⟩ (fun i H' _ ⟨acc, hDa, _, kb, _, _⟩ => ?_) ?_ ?_⟩
      · obtain ⟨f, p, q, u, ⟨_, hz, _⟩⟩ := hd3.slot
        exact SqL.of (kb _ _ hpo3 (ne_of hpo3 hz (fun z => by unfold SlX.SlO at z; cases z)))
      · rintro i v H4 H5 hi ⟨acc, hDa, hal, kb, hd4, hres⟩ ⟨rfl, hv⟩
        obtain ⟨op, hop, hO⟩ := paired_at hops3 hv
        obtain ⟨f, p, q, u, hsl⟩ := hd3.slot
        have hL4 := hL3.stay hd3 kb
        obtain ⟨⟨lx4, hx4⟩, _⟩ := id hL4
        have e1 := take_one hop
        have va2 : ValidS S sc (ops.take i ++ ops.drop i) := by rw [List.take_append_drop]; exact va
        obtain ⟨va3, va4⟩ := (validS_app S _ _ _).mp va2
        have hil : i < ops.length := (List.getElem?_eq_some_iff.mp hop).1
        have e2 : ops.drop i = op :: ops.drop (i + 1) := by
          rw [List.drop_eq_getElem_cons hil]
          congr 1
          exact (List.getElem?_eq_some_iff.mp hop).2
        rw [e2] at va4
        have gd4 := good_run gd va3
        have lt : (ops.take i).length ≤ i := by rw [List.length_take]; exact Nat.min_le_left _ _
        refine ⟨rfl, ?_⟩
        refine ⟨_, rfl, x, lx4, _, rfl, hx4, rfl, _, rfl, x, st, sb, S, _, _, _, _, op, v, rfl, hO.keep (kb.kim hsl.notIm), hL4, hd4, g, gd4, va4.1, ⟨by rw [List.length_append, histS_len]; omega, by omega⟩, fun H6 v6 kb6 hd6 hdp => ?_⟩
        have nDb : D ≠ sb := by
          intro z
          obtain ⟨_, hz, _⟩ := hsl
          rw [z] at hD
          rw [hz] at hD
          cases hD
        have hD6 := kb6 _ _ hDa nDb
        have nl6 : KNl H6 (upd H6 D (.lst (acc ++ [v6]))) := KNl.upd hD6
        refine ⟨acc, hD6, Nat.lt_of_le_of_lt hal (Nat.lt_of_lt_of_le (show i < 1000 by omega) (by decide)), acc ++ [v6], upd_same, by rw [List.length_append, List.length_singleton]; omega, fun b o e nb2 => ?_, ?_, ?_⟩
        · rw [upd_ne (ne_of_none e hD)]
          exact kb6 _ _ (kb _ _ e nb2) nb2
        · rw [e1, runS_app, histS_app, undS_snoc, ← List.append_assoc]
          exact hd6.nl nl6
        · rw [e1, resS_app]
          obtain ⟨f4, p4, q4, u4, hsl4⟩ := hd4.slot
          exact paired_app ((hres.kt (kb6.ktup hsl4.notTup)).kt nl6.ktup) (.cons ⟨dp_flat nl6.ktup (resD_flat _ _ _) hdp, resD_flat _ _ _⟩ .nil)
      · rintro H5 ⟨acc, hDa, hal, kb, hd5, hres⟩
        rw [lops, List.take_of_length_le (Nat.le_refl _)] at hd5 hres
        obtain ⟨f, p, q, u, hsl⟩ := hd3.slot
        have nyb : y ≠ sb := by
          obtain ⟨_, hz, _⟩ := hsl
          exact ne_of hy3 hz (fun z => by unfold SlX.SlO at z; cases z)
        have nxb : x ≠ sb := by
          obtain ⟨_, hz, _⟩ := hsl
          exact ne_of hx3 hz (fun z => by unfold SlX.SlO at z; cases z)
        have hy5 := kb _ _ hy3 nyb
        have hx5 := kb _ _ hx3 nxb
        refine ⟨_, rfl, y, dy, _, rfl, hy5, rfl, y, dy, x, sa, sb, cc, rfl, hy5, ?_⟩
        have ni6 : KNi H5 (upd H5 y (.ins (cT K) dy (trialF x sa sb sb))) := KNi.upd hy5
        have k6 : ∀ b o, H5 b = some o → b ≠ y → upd H5 y (.ins (cT K) dy (trialF x sa sb sb)) b = some o := fun b o e n => by rw [upd_ne n]; exact e
        have hy6 : (upd H5 y (.ins (cT K) dy (trialF x sa sb sb))) y = some (.ins (cT K) dy (trialF x sa sb sb)) := upd_same
        have hx6 : (upd H5 y (.ins (cT K) dy (trialF x sa sb sb))) x = some (.ins (cL K) lx (liveF st sb)) := by rw [upd_ne nxy]; exact hx5
        generalize upd H5 y (.ins (cT K) dy (trialF x sa sb sb)) = H6 at ni6 k6 hy6 hx6 ⊢
        obtain ⟨f0, p0, k0, u0, hsa2⟩ := hd2.slot
        have nab : sa ≠ sb := by
          obtain ⟨_, hz, _⟩ := hsa2
          exact ne_of_none hz nb
        have hsa3 := hsa2.ni ni23
        have hsa5 := hsa3.keep kb nab hsl.notXd
        have hsa6 := hsa5.ni ni6
        have nDa : D ≠ sa := by
          obtain ⟨_, hz, _⟩ := hsa3
          exact (ne_of_none hz hD).symm
        have nDy : D ≠ y := (ne_of_none hy3 hD).symm
        have nDx : D ≠ x := (ne_of_none hx3 hD).symm
        have hD6 := k6 _ _ hDa nDy
        refine ⟨y, dy, x, lx, st, sa, sb, _, _, _, f0, p0, k0, u0, rfl, hy6, hx6, nxy, hsa6, hd5.ni ni6, nab, fun H7 fr7 hx7 hd7 => ⟨_, rfl, ?_⟩⟩
        refine k H7 D acc (fun b o e na => ?_) ?_ (fr7 _ _ hD6 nDa nDx) (hres.kt ?_) hd7
        · by_cases ebx : b = x
          · rw [ebx] at e ⊢
            rw [hx] at e
            rw [hx7, Option.some.inj e]
          · have eb1 := s1 _ _ e
            have eb2 := s2 _ _ eb1
            have nby : b ≠ y := ne_of_none eb1 ny
            have nbb : b ≠ sb := ne_of_none eb2 nb
            exact fr7 _ _ (k6 _ _ (kb _ _ (fr _ _ eb2 ebx nby) nbb) nby) na ebx
        · cases e : H D with
          | none => rfl
          | some o =>
            have e2 := s02 _ _ e
            rw [fr _ _ e2 nDx nDy] at hD
            cases hD
        · intro b o e ho
          have nby : b ≠ y := fun z => by
            rw [z, hy5] at e
            rcases ho with ⟨xs, ho⟩ | ⟨ob, xs, ho⟩ <;> (rw [ho] at e; cases e)
          have nbx : b ≠ x := fun z => by
            rw [z, hx5] at e
            rcases ho with ⟨xs, ho⟩ | ⟨ob, xs, ho⟩ <;> (rw [ho] at e; cases e)
          have nba : b ≠ sa := fun z => by
            rw [z] at e
            exact hsa5.notTup _ e ho
          exact fr7 _ _ (k6 _ _ e nby) nba nbx
end
end Ck
set_option Elab.async false
set_option linter.all false
set_option maxRecDepth 100000
set_option maxHeartbeats 4000000
namespace Ck
open PySem PySem.Spec PyProof.Rows L2
theorem good_start {S : Sch} {lay : Lay} (h : GoodLay S lay) : Good S 0 ⟨⟨lay, 0, []⟩, []⟩ := ⟨⟨h, Nat.le_refl _⟩, Nat.le_refl _, fun p hp => by cases hp⟩
section
variable {P : Program} {w : World} {K : PySem.W.Frag} {mg : Str → Option Value} {base : Heap}
def spReplay (K : PySem.W.Frag) : Sp := fun vs H Q _ => ∃ (st pl po : Addr) (S : Sch) (lay : Lay) (vos : List V) (ops : List Op), vs = [.ref (cL K), .ref st, .ref pl, .ref po] ∧ StoreAt K H st S ∧ GoodSch S ∧ TupN H pl (layV lay) ∧ GoodLay S lay ∧ H po = some (.lst vos) ∧ Paired (OpH H) vos ops ∧ ValidS S ⟨⟨lay, 0, []⟩, []⟩ ops ∧ ops.length ≤ 800 ∧
  ∀ H' x sa, Same H H' → LiveAt K H' x st sa S → StateD K H' sa (runS S ⟨⟨lay, 0, []⟩, []⟩ ops) (histS S ⟨⟨lay, 0, []⟩, []⟩ ops) [] → Q (.ref x) H'
theorem sc_Replay : FnScope ["cls", "store", "layout", "operations", "live"] ["cls", "store", "layout", "operations"] (defScope s_Live_replay) := ⟨rfl, rfl, rfl, by decide +kernel, rfl, by decide +kernel, by decide +kernel⟩
theorem ok_Replay (T : Txt w K mg) : FnR P w K mg base CX0 9 (He5.wf K (cL K) "classmethod" "replay") (spReplay K) := by
  obtain ⟨fd, F⟩ := T.f_Live_replay
  have GI : FnR P w K mg base CX0 5 (He.ma K (cL K) "__init__") (spLiveInit K) := ok_LiveInit T
  have GA : FnR P w K mg base CX0 8 (He.ma K (cL K) "apply_all") (spApply K) := ok_Apply T
  refine fnR_mk F sc_Replay (fun _ _ _ _ _ _ us hl => match us, hl with | [_, _, _, _], _ => rfl) (fun vs H Q E h => ?_) (fun cdv A outer s H vs Q E hr h => ?_)
  · obtain ⟨st, pl, po, S, lay, vos, ops, rfl, _⟩ := h
    rfl
  · obtain ⟨st, pl, po, S, lay, vos, ops, rfl, hs, g, hpl, gl, hpo, hops, va, l8, k⟩ := h
    have nd := sc_Replay.nd
    refine ⟨_, pss_cons (ps_set (i := 4) nd rfl (Or.inl rfl) (pe_makeL (i := 0) (E := E0) T.mk_Live GI (hr.mono (by decide)) rfl (Or.inl rfl) pass0 (pa_cons (pv 1) (pa_cons (pv 2) pa_nil))))
      (pss_cons (ps_expr (pe_methR (pv 4) T.c_Live T.m_Live_apply_all GA hr pass0 (pa_cons (pv 3) pa_nil)))
      (pss_one (ps_ret (pv 4)))), ?_⟩
    refine ⟨rfl, _, rfl, _, rfl, fun x dx nx ndx nex => ⟨H, x, dx, st, pl, S, lay, rfl, rfl, nx, ndx, nex, hs, g, hpl, gl, fun H1 sa s1 na hL hd => ⟨rfl, ?_⟩⟩⟩
    obtain ⟨⟨lx, hx⟩, _⟩ := id hL
    refine ⟨_, rfl, x, lx, _, rfl, hx, rfl, _, rfl, x, st, sa, S, 0, _, [], [], po, vos, ops, rfl, s1 _ _ hpo, Paired_mono hops fun a b z => z.keep (Same_kim s1), hL, hd, g, good_start gl, va, ⟨by rw [List.length_nil]; omega, by omega⟩, fun H2 l acc kb nl hl hres hd2 => ?_⟩
    have e : undS [] ops = [] := by cases ops <;> rfl
    rw [e, List.nil_append] at hd2
    exact ⟨_, rfl, k H2 x sa (fun b o z => kb _ _ (s1 _ _ z) (ne_of_none z na)) (hL.stay hd kb) hd2⟩
end
end Ck
set_option Elab.async false
set_option linter.all false
set_option maxRecDepth 100000
set_option maxHeartbeats 4000000
namespace Ck
open PySem PySem.Spec PyProof.Rows L2
/-- the script: a list beside the row, or a written one -/
def ScrS (K : PySem.W.Frag) (H : Hp) (r sa : Addr) (ns : List Int) : Prop := (sa ≠ r ∧ SqL K H sa (ns.map V.int)) ∨ ∀ H', SqL K H' sa (ns.map V.int)
theorem ScrS.sq {K : PySem.W.Frag} {H : Hp} {r sa : Addr} {ns : List Int} (h : ScrS K H r sa ns) : SqL K H sa (ns.map V.int) := h.elim (·.2) (· H)
theorem ScrS.but {K : PySem.W.Frag} {H H' : Hp} {r sa : Addr} {ns : List Int} (h : ScrS K H r sa ns) (kb : KBut r H H') : ScrS K H' r sa ns := h.elim (fun z => .inl ⟨z.1, kb.sqL z.1 z.2⟩) .inr
theorem ScrS.new {K : PySem.W.Frag} {H : Hp} {r sa : Addr} {ns : List Int} (h : SqL K H sa (ns.map V.int)) (hr : H r = none) : ScrS K H r sa ns := by
  rcases h with (h | ⟨o, h⟩) | h
  · exact .inl ⟨ne_of_none h hr, .inl (.inl h)⟩
  · exact .inl ⟨ne_of_none h hr, .inl (.inr ⟨o, h⟩)⟩
  · exact .inr fun _ => .inr h
/-- the row that numbers are drawn from -/
def RowAt (K : PySem.W.Frag) (H : Hp) (r sa : Addr) : Prop := ∃ (ns : List Int) (i j k : Int), ScrS K H r sa ns ∧ H r = some (.lst [.ref sa, .int i, .int j, .int k]) ∧ (0 ≤ i ∧ 0 ≤ j ∧ j < 2147483647 ∧ 0 ≤ k)
section
variable {P : Program} {w : World} {K : PySem.W.Frag} {mg : Str → Option Value} {base : Heap}
theorem RowAt.same {H H' : Hp} {r sa : Addr} (s : Same H H') (h : RowAt K H r sa) : RowAt K H' r sa := by
  obtain ⟨ns, i, j, k, h1, h3, h4⟩ := h
  exact ⟨ns, i, j, k, h1.but (Same_kbut s), s _ _ h3, h4⟩
theorem RowAt.via {H H' : Hp} {r sa : Addr} {i j k : Int} (h : RowAt K H r sa) (kb : KBut r H H') (e : H' r = some (.lst [.ref sa, .int i, .int j, .int k])) (b : 0 ≤ i ∧ 0 ≤ j ∧ j < 2147483647 ∧ 0 ≤ k) : RowAt K H' r sa := by
  obtain ⟨ns, _, _, _, h1, _, _⟩ := h
  exact ⟨ns, i, j, k, h1.but kb, e, b⟩
/-- the row stays where a list that is new to an elder heap is written -/
theorem RowAt.updN {H0 H : Hp} {r sa l : Addr} {o : HO} (h0 : RowAt K H0 r sa) (k0 : KBut r H0 H) (hl : H0 l = none) (h : RowAt K H r sa) : RowAt K (upd H l o) r sa := by
  obtain ⟨ns, i, j, k, h1, h3, h4⟩ := h
  have hr : ∃ xs, H0 r = some (.lst xs) := let ⟨_, _, _, _, _, z, _⟩ := h0; ⟨_, z⟩
  obtain ⟨xs, hr⟩ := hr
  exact h0.via (fun b u e n => by rw [upd_ne (ne_of_none e hl)]; exact k0 b u e n) (by rw [upd_ne (ne_of_none hr hl)]; exact h3) h4
theorem RowAt.notIm {H : Hp} {r sa : Addr} (h : RowAt K H r sa) : ∀ o, H r = some o → ¬ Im o := fun o e i => by
  obtain ⟨ns, a, j, k, _, h3, _⟩ := h
  rw [h3] at e
  rw [← Option.some.inj e] at i
  obtain ⟨q, hq⟩ := i (.ref sa) List.mem_cons_self
  cases hq
theorem RowAt.isLst {H : Hp} {r sa : Addr} (h : RowAt K H r sa) : ∃ xs, H r = some (.lst xs) := let ⟨_, _, _, _, _, h3, _⟩ := h; ⟨_, h3⟩
/-- the row and its script behind a store into the row -/
theorem row_put {H : Hp} {r sa : Addr} {ns : List Int} {i j k : Int} (h1 : ScrS K H r sa ns) (h4 : 0 ≤ i ∧ 0 ≤ j ∧ j < 2147483647 ∧ 0 ≤ k) : KBut r H (upd H r (.lst [.ref sa, .int i, .int j, .int k])) ∧ RowAt K (upd H r (.lst [.ref sa, .int i, .int j, .int k])) r sa :=
  have kb : KBut r H (upd H r (.lst [.ref sa, .int i, .int j, .int k])) := fun b o e n => by rw [upd_ne n]; exact e
  ⟨kb, ns, i, j, k, h1.but kb, upd_same, h4⟩
def spTaken (K : PySem.W.Frag) : Sp := fun vs H Q _ => ∃ (r sa : Addr) (m : Nat), vs = [.ref r, .int (m : Nat)] ∧ RowAt K H r sa ∧ (0 < m ∧ m < 536870912) ∧ ∀ H' (d : Nat), KBut r H H' → RowAt K H' r sa → d < m → Q (.int (d : Nat)) H'
theorem sc_Taken : FnScope ["_law_row", "_law_many", "_law_found", "_law_cell"] ["_law_row", "_law_many"] (defScope s_law_taken) := ⟨rfl, rfl, rfl, by decide +kernel, rfl, by decide +kernel, by decide +kernel⟩
theorem mod_nat {a : Int} {m : Nat} (hm : 0 < m) : ∃ d : Nat, a % (m : Int) = (d : Nat) ∧ d < m := by
  have h1 := Int.emod_nonneg a (show (m : Int) ≠ 0 by omega)
  have h2 := Int.emod_lt_of_pos a (show (0 : Int) < m by omega)
  exact ⟨(a % (m : Int)).toNat, by omega, by omega⟩
theorem ok_Taken (T : Txt w K mg) : FnR P w K mg base CX0 1 (He.ga K "_law_taken") (spTaken K) := by
  obtain ⟨fd, F⟩ := T.f_law_taken
  refine fnR_mk F sc_Taken (fun _ _ _ _ _ _ us hl => match us, hl with | [_, _], _ => rfl) (fun vs H Q E h => ?_) (fun cdv A outer s H vs Q E hr h => ?_)
  · obtain ⟨r, sa, m, rfl, _⟩ := h
    rfl
  · obtain ⟨r, sa, m, rfl, ⟨ns, i, j, k, hsa, hrow, ⟨hi, hj0, hj1, hk⟩⟩, ⟨m0, m1⟩, kk⟩ := h
    have nd := sc_Taken.nd
    refine ⟨_, pss_cons (ps_if (pt_cmpR op_gt (pe_ix ix_list (pv 0) pe_int (fun _ _ => rfl)) pe_int (nomark _))
        (pss_cons (ps_set (i := 2) nd rfl (Or.inl rfl) (pe_op op_mod (pe_callTy call_int1 (by rfl) T.b_int bo_int (pa_cons (pe_ix ix_list (pv 0) pe_int (fun _ _ => rfl)) pa_nil)) (pv 1)))
        (pss_cons (ps_asg (pe_op op_fdiv (pe_ix ix_list (pv 0) pe_int (fun _ _ => rfl)) (pv 1)) (pg_sub (pv 0) pe_int set_list))
        (pss_one (ps_ret (pv 2))))) pss_nil)
      (pss_cons (ps_asg (pe_op op_add (pe_ix ix_list (pv 0) pe_int (fun _ _ => rfl)) pe_int) (pg_sub (pv 0) pe_int set_list))
      (pss_cons (ps_if (pt_cmpR op_gt (pe_ix ix_list (pv 0) pe_int (fun _ _ => rfl)) (pe_callB call_len_seq (by rfl) T.b_len bo_len (pa_cons (pe_ix ix_list (pv 0) pe_int (fun _ _ => rfl)) pa_nil)) (nomark _))
        (pss_cons (ps_asg (pe_op op_mod (pe_callTy call_int1 (by rfl) T.b_int bo_int (pa_cons (pe_op op_add (pe_op op_mul (pe_ix ix_list (pv 0) pe_int (fun _ _ => rfl)) pe_int) pe_int) pa_nil)) pe_int) (pg_sub (pv 0) pe_int set_list))
        (pss_one (ps_ret (pe_op op_mod (pe_callTy call_int1 (by rfl) T.b_int bo_int (pa_cons (pe_op op_fdiv (pe_ix ix_list (pv 0) pe_int (fun _ _ => rfl)) pe_int) pa_nil)) (pv 1))))) pss_nil)
      (pss_cons (ps_set (i := 3) nd rfl (Or.inl rfl) (pe_ix ix_list (pe_ix ix_list (pv 0) pe_int (fun _ _ => rfl)) (pe_op op_sub (pe_ix ix_list (pv 0) pe_int (fun _ _ => rfl)) pe_int) (fun _ _ => rfl)))
      (pss_cons (ps_asg (pe_op op_mod (pe_callTy call_int1 (by rfl) T.b_int bo_int (pa_cons (pe_op op_add (pe_op op_add (pe_op op_mul (pe_ix ix_list (pv 0) pe_int (fun _ _ => rfl)) pe_int) (pv 3)) pe_int) pa_nil)) pe_int) (pg_sub (pv 0) pe_int set_list))
      (pss_cons (ps_asg (pe_ifExp (pt_cmpR op_ge (pv 3) (pe_op op_pow pe_int pe_int) (nomark _)) (pe_op op_fdiv (pv 3) (pv 1)) pe_int) (pg_sub (pv 0) pe_int set_list))
      (pss_one (ps_ret (pe_op op_mod (pe_callTy call_int1 (by rfl) T.b_int bo_int (pa_cons (pv 3) pa_nil)) (pv 1))))))))), ?_⟩
    have m0' : (0 : Int) < m := by omega
    have cd : CDiv 0 (m : Int) := ⟨m0', by omega⟩
    refine ⟨_, rfl, r, _, 3, .int k, rfl, rfl, SqL.of hrow, rfl, k, 0, rfl, rfl, _, rfl, ite_b (fun hk2 => ?_) fun hk2 => ?_⟩
    · obtain ⟨d, e, hd⟩ := mod_nat (a := k) m0
      refine ⟨_, rfl, r, _, 3, .int k, rfl, rfl, SqL.of hrow, rfl, .inl ⟨k, rfl, _, rfl, k, m, rfl, rfl, m0', ?_⟩⟩
      refine ⟨_, rfl, r, _, 3, .int k, rfl, rfl, SqL.of hrow, rfl, _, rfl, k, m, rfl, rfl, cd, _, rfl, r, _, 3, 3, rfl, rfl, hrow, rfl, ?_⟩
      obtain ⟨kb, rw2⟩ := row_put (i := i) (j := j) (k := k / (m : Int)) hsa ⟨hi, hj0, hj1, Int.ediv_nonneg hk (by omega)⟩
      have z := kk _ d kb rw2 hd
      rw [← e] at z
      exact ⟨_, rfl, z⟩
    · refine ⟨_, rfl, r, _, 1, .int i, rfl, rfl, SqL.of hrow, rfl, i, 1, rfl, rfl, _, rfl, r, _, 1, 1, rfl, rfl, hrow, rfl, ?_⟩
      have hrow1 : (upd H r (.lst [.ref sa, .int (i + 1), .int j, .int k])) r = some (.lst [.ref sa, .int (i + 1), .int j, .int k]) := upd_same
      have kb1 : KBut r H (upd H r (.lst [.ref sa, .int (i + 1), .int j, .int k])) := fun b o e n => by rw [upd_ne n]; exact e
      show (tSeq _ _) _ _ (upd H r (.lst [.ref sa, .int (i + 1), .int j, .int k]))
      generalize upd H r (.lst [.ref sa, .int (i + 1), .int j, .int k]) = H1 at hrow1 kb1 ⊢
      have hsa1 := hsa.but kb1
      refine ⟨_, rfl, r, _, 1, .int (i + 1), rfl, rfl, SqL.of hrow1, rfl, _, rfl, r, _, 0, .ref sa, rfl, rfl, SqL.of hrow1, rfl, sa, _, rfl, .inl hsa1.sq, i + 1, (ns.map V.int).length, rfl, rfl, _, rfl, ite_b (fun hl => ?_) fun hl => ?_⟩
      · have jb : (j * 48271 + 11) % 2147483647 < 2147483647 := Int.emod_lt_of_pos _ (by decide)
        have jc : 0 ≤ (j * 48271 + 11) % 2147483647 := Int.emod_nonneg _ (by decide)
        refine ⟨_, rfl, r, _, 2, .int j, rfl, rfl, SqL.of hrow1, rfl, j, 48271, rfl, rfl, .inl ⟨by omega, by omega⟩, j * 48271, 11, rfl, rfl, .inl ⟨_, rfl, _, 2147483647, rfl, rfl, (show (0 : Int) < 2147483647 by decide), _, rfl, r, _, 2, 2, rfl, rfl, hrow1, rfl, ?_⟩⟩
        obtain ⟨kb, rw2⟩ := row_put (i := i + 1) (j := (j * 48271 + 11) % 2147483647) (k := k) hsa1 ⟨by omega, jc, jb, hk⟩
        have hrow2 : (upd H1 r (.lst [.ref sa, .int (i + 1), .int ((j * 48271 + 11) % 2147483647), .int k])) r = some (.lst [.ref sa, .int (i + 1), .int ((j * 48271 + 11) % 2147483647), .int k]) := upd_same
        obtain ⟨d, e, hd⟩ := mod_nat (a := (j * 48271 + 11) % 2147483647 / 7) m0
        have z := kk _ d (kb1.trans kb) rw2 hd
        rw [← e] at z
        exact ⟨_, rfl, r, _, 2, .int ((j * 48271 + 11) % 2147483647), rfl, rfl, SqL.of hrow2, rfl, _, 7, rfl, rfl, ⟨by decide, by decide⟩, .inl ⟨_, rfl, _, rfl, _, m, rfl, rfl, m0', z⟩⟩
      · rw [decide_eq_false_iff_not, List.length_map] at hl
        have lt : i.toNat < ns.length := by omega
        obtain ⟨c, hc⟩ : ∃ c, ns[i.toNat]? = some c := ⟨_, List.getElem?_eq_getElem lt⟩
        have hat : atI (ns.map V.int) (i + 1 - 1) = some (.int c) := by
          have e : i + 1 - 1 = ((i.toNat : Nat) : Int) := by omega
          rw [e]
          exact atI_nat (by rw [List.getElem?_map, hc]; rfl)
        refine ⟨_, rfl, r, _, 0, .ref sa, rfl, rfl, SqL.of hrow1, rfl, _, rfl, r, _, 1, .int (i + 1), rfl, rfl, SqL.of hrow1, rfl, i + 1, 1, rfl, rfl, sa, _, i + 1 - 1, .int c, rfl, rfl, hsa1.sq, hat, ?_⟩
        have jb : (j * 48271 + c + 11) % 2147483647 < 2147483647 := Int.emod_lt_of_pos _ (by decide)
        have jc : 0 ≤ (j * 48271 + c + 11) % 2147483647 := Int.emod_nonneg _ (by decide)
        refine ⟨_, rfl, r, _, 2, .int j, rfl, rfl, SqL.of hrow1, rfl, j, 48271, rfl, rfl, .inl ⟨by omega, by omega⟩, _, rfl, j * 48271, c, rfl, rfl, j * 48271 + c, 11, rfl, rfl, .inl ⟨_, rfl, _, 2147483647, rfl, rfl, (show (0 : Int) < 2147483647 by decide), _, rfl, r, _, 2, 2, rfl, rfl, hrow1, rfl, ?_⟩⟩
        have hrow2 : (upd H1 r (.lst [.ref sa, .int (i + 1), .int ((j * 48271 + c + 11) % 2147483647), .int k])) r = some (.lst [.ref sa, .int (i + 1), .int ((j * 48271 + c + 11) % 2147483647), .int k]) := upd_same
        have kb2 : KBut r H1 (upd H1 r (.lst [.ref sa, .int (i + 1), .int ((j * 48271 + c + 11) % 2147483647), .int k])) := fun b o e n => by rw [upd_ne n]; exact e
        show (tSeq _ _) _ _ (upd H1 r (.lst [.ref sa, .int (i + 1), .int ((j * 48271 + c + 11) % 2147483647), .int k]))
        generalize upd H1 r (.lst [.ref sa, .int (i + 1), .int ((j * 48271 + c + 11) % 2147483647), .int k]) = H2 at hrow2 kb2 ⊢
        have hsa2 := hsa1.but kb2
        obtain ⟨d, e, hd⟩ := mod_nat (a := c) m0
        have fin : ∀ q : Int, 0 ≤ q → Q (.int (c % (m : Int))) (upd H2 r (.lst [.ref sa, .int (i + 1), .int ((j * 48271 + c + 11) % 2147483647), .int q])) := fun q hq => by
          obtain ⟨kb, rw2⟩ := row_put (i := i + 1) (j := (j * 48271 + c + 11) % 2147483647) (k := q) hsa2 ⟨by omega, jc, jb, hq⟩
          rw [e]
          exact kk _ d ((kb1.trans kb2).trans kb) rw2 hd
        refine ⟨_, rfl, 10, 18, rfl, rfl, ⟨by decide, by decide, by decide⟩, c, _, rfl, rfl, _, rfl, ite_b (fun hbig => ?_) fun hbig => ?_⟩
        · have c0 : 0 ≤ c := by
            rw [decide_eq_true_eq] at hbig
            exact Int.le_trans (by decide) hbig
          exact ⟨_, rfl, _, rfl, c, m, rfl, rfl, cd, _, rfl, r, _, 3, 3, rfl, rfl, hrow2, rfl, _, rfl, .inl ⟨c, rfl, _, rfl, c, m, rfl, rfl, m0', fin _ (Int.ediv_nonneg c0 (by omega))⟩⟩
        · exact ⟨_, rfl, r, _, 3, 3, rfl, rfl, hrow2, rfl, _, rfl, .inl ⟨c, rfl, _, rfl, c, m, rfl, rfl, m0', fin _ (Int.le_refl _)⟩⟩
/-! _law_pick -/
def spPick (K : PySem.W.Frag) : Sp := fun vs H Q _ => ∃ (r sa p : Addr) (xs : List V), vs = [.ref r, .ref p] ∧ RowAt K H r sa ∧ ((H p = some (.lst xs) ∧ p ≠ r) ∨ H p = some (.tup xs)) ∧ (1 ≤ xs.length ∧ xs.length < 536870912) ∧ ∀ (H' : Hp) (i : Nat) (v : V), KBut r H H' → RowAt K H' r sa → xs[i]? = some v → Q v H'
theorem sc_Pick : FnScope ["_law_row", "_law_some"] ["_law_row", "_law_some"] (defScope s_law_pick) := ⟨rfl, rfl, rfl, by decide +kernel, rfl, by decide +kernel, by decide +kernel⟩
theorem ok_Pick (T : Txt w K mg) : FnR P w K mg base CX0 2 (He.ga K "_law_pick") (spPick K) := by
  obtain ⟨fd, F⟩ := T.f_law_pick
  obtain ⟨fd1, F1⟩ := T.f_law_taken
  have G : FnR P w K mg base CX0 1 (He.ga K "_law_taken") (spTaken K) := ok_Taken T
  refine fnR_mk F sc_Pick (fun _ _ _ _ _ _ us hl => match us, hl with | [_, _], _ => rfl) (fun vs H Q E h => ?_) (fun cdv A outer s H vs Q E hr h => ?_)
  · obtain ⟨r, sa, p, xs, rfl, _⟩ := h
    rfl
  · obtain ⟨r, sa, p, xs, rfl, hrow, hp, ⟨l1, l2⟩, k⟩ := h
    refine ⟨_, pss_one (ps_ret (pe_ix ix_seq (pv 1) (pe_fn G hr (by rfl) T.g_law_taken F1.kp (pa_cons (pv 0) (pa_cons (pe_callB call_len_seq (by rfl) T.b_len bo_len (pa_cons (pv 1) pa_nil)) pa_nil))) (fun _ _ => rfl))), ?_⟩
    have hq : SqL K H p xs ∨ SqT K H p xs := by
      rcases hp with ⟨h, _⟩ | h
      · exact .inl (SqL.of h)
      · exact .inr (SqT.of h)
    refine ⟨_, rfl, _, rfl, _, rfl, p, xs, rfl, hq, r, sa, xs.length, rfl, hrow, ⟨by omega, l2⟩, fun H' d kb rw2 hd => ?_⟩
    have hv : xs[d]? = some xs[d] := List.getElem?_eq_getElem hd
    rcases hp with ⟨h, n⟩ | h
    · exact .inl ⟨p, xs, (d : Nat), _, rfl, rfl, SqL.of (kb _ _ h n), atI_nat hv, k H' d _ kb rw2 hv⟩
    · refine .inr (.inl ⟨p, xs, (d : Nat), _, rfl, rfl, SqT.of (kb _ _ h ?_), atI_nat hv, k H' d _ kb rw2 hv⟩)
      obtain ⟨ys, hy⟩ := hrow.isLst
      exact ne_of h hy (fun z => by cases z)
end
end Ck
set_option Elab.async false
set_option linter.all false
set_option maxRecDepth 100000
set_option maxHeartbeats 4000000
namespace Ck
open PySem PySem.Spec PyProof.Rows L2
theorem walk_rng {n : Nat} : Walk (Itr 0 n) n (fun _ => True) (YFn fun i => .int (i : Nat)) :=
  Walk.mono walk_range (fun _ h => h) fun i H x H' _ _ y => ⟨y.1, by rw [y.2]; show V.int (0 + (i : Int)) = V.int (i : Nat); rw [Int.zero_add]⟩
section
variable {P : Program} {w : World} {K : PySem.W.Frag} {mg : Str → Option Value} {base : Heap}
/-! _law_store -/
def spStoreL (K : PySem.W.Frag) : Sp := fun vs H Q _ => ∃ (ps : Addr) (S : Sch), vs = [.ref ps] ∧ SchAt H ps S ∧ GoodSch S ∧ ∀ H' st, Same H H' → StoreAt K H' st S → Q (.ref st) H'
theorem sc_StoreL : FnScope ["_law_s"] ["_law_s"] (defScope s_law_store) := ⟨rfl, rfl, rfl, by decide +kernel, rfl, by decide +kernel, by decide +kernel⟩
theorem ok_StoreL (T : Txt w K mg) : FnR P w K mg base CX0 6 (He.ga K "_law_store") (spStoreL K) := by
  obtain ⟨fd, F⟩ := T.f_law_store
  have G : FnR P w K mg base CX0 4 (He.ma K (cSt K) "__init__") (spStoreInit K) := ok_StoreInit T
  refine fnR_mk F sc_StoreL (fun _ _ _ _ _ _ us hl => match us, hl with | [_], _ => rfl) (fun vs H Q E h => ?_) (fun cdv A outer s H vs Q E hr h => ?_)
  · obtain ⟨ps, S, rfl, _⟩ := h
    rfl
  · obtain ⟨ps, S, rfl, ⟨pd, pc, h1, h2, h3⟩, g, k⟩ := h
    refine ⟨_, pss_one (ps_ret (StX.pe_makeR (E := E0) T.mk_Store G hr (by rfl) T.g_Store pass0 (pa_cons (pe_ix ix_tup (pv 0) pe_int (fun _ _ => rfl)) (pa_cons (pe_ix ix_tup (pv 0) pe_int (fun _ _ => rfl)) pa_nil)))), ?_⟩
    refine ⟨_, rfl, ps, _, 0, .ref pd, rfl, rfl, SqT.of h1, rfl, _, rfl, ps, _, 1, .ref pc, rfl, rfl, SqT.of h1, rfl, fun x dx nx ndx nex => ?_⟩
    exact ⟨H, x, dx, pd, pc, S, rfl, rfl, nx, ndx, nex, h2, h3, g, fun H' sm hst => ⟨rfl, k H' x sm hst⟩⟩
/-! _law_edges -/
def spEdgesL : Sp := fun vs H Q _ => ∃ (ps : Addr) (S : Sch), vs = [.ref ps] ∧ SchAt H ps S ∧ (S.doors.length ≤ 4 ∧ S.edges.length ≤ 6) ∧ ∀ H' l, Same H H' → H l = none → H' l = some (.lst (edgeVs S)) → Q (.ref l) H'
theorem sc_EdgesL : FnScope ["_law_s", "_law_found", "_law_k"] ["_law_s"] (defScope s_law_edges) := ⟨rfl, rfl, rfl, by decide +kernel, rfl, by decide +kernel, by decide +kernel⟩
theorem ok_EdgesL (T : Txt w K mg) : FnR P w K mg base CX0 1 (He.ga K "_law_edges") spEdgesL := by
  obtain ⟨fd, F⟩ := T.f_law_edges
  refine fnR_mk F sc_EdgesL (fun _ _ _ _ _ _ us hl => match us, hl with | [_], _ => rfl) (fun vs H Q E h => ?_) (fun cdv A outer s H vs Q E hr h => ?_)
  · obtain ⟨ps, S, rfl, _⟩ := h
    rfl
  · obtain ⟨ps, S, rfl, hS, ⟨d4, e6⟩, k⟩ := h
    have nd := sc_EdgesL.nd
    refine ⟨_, pss_cons (ps_set (i := 1) nd rfl (Or.inl rfl) (pe_lst pa_nil))
      (pss_cons (ps_for PassesOwn.never rfl (pi_range1 (by rfl) T.b_range (pa_cons (pe_callB call_len_seq (by rfl) T.b_len bo_len (pa_cons (pe_ix ix_tup (pv 0) pe_int (fun _ _ => rfl)) pa_nil)) pa_nil)) (pg_name (i := 2) nd rfl (Or.inl rfl))
        (pss_one (ps_set (i := 1) nd rfl (Or.inl rfl) (pe_op op_cat (pv 1) (pe_op op_rep (pe_lst (pa_cons (pv 2) pa_nil)) (pe_ix ix_tup (pe_ix ix_tup (pe_ix ix_tup (pv 0) pe_int (fun _ _ => rfl)) (pv 2) (fun _ _ => rfl)) pe_int (fun _ _ => rfl)))))))
      (pss_one (ps_ret (pv 1)))), ?_⟩
    obtain ⟨pd, pc, h1, ⟨des, hde, hdp⟩, h3⟩ := id hS
    have hlen := Paired.length hdp
    have tot : sumN S.doors ≤ 6 := by rw [← edges_len 0]; exact e6
    refine ⟨Nat.zero_le _, fun l0 hl0 => ?_⟩
    have s0 : Same H (upd H l0 (.lst [])) := Same_new hl0
    have z0 : (upd H l0 (.lst [])) l0 = some (.lst []) := upd_same
    generalize upd H l0 (.lst []) = H0 at s0 z0 ⊢
    refine ⟨_, rfl, ps, _, 0, .ref pd, rfl, rfl, SqT.of (s0 _ _ h1), rfl, pd, des, rfl, .inr (SqT.of (s0 _ _ hde)), des.length, rfl, by omega, by omega, ?_⟩
    rw [Int.toNat_natCast, hlen]
    refine for_it (walk_rng (n := S.doors.length)) (fun i σ H' => ∃ l v2, σ = [some (.ref ps), some (.ref l), v2] ∧ Same H H' ∧ H l = none ∧ H' l = some (.lst ((edgesFrom 0 (S.doors.take i)).map fun e => V.int (e : Nat)))) ⟨l0, none, rfl, s0, hl0, z0⟩ (fun _ _ _ _ _ => trivial) ?_ ?_
    · rintro i v σ H1' H1 hi ⟨l, v2, rfl, sm, nl, hL⟩ ⟨rfl, rfl⟩
      obtain ⟨d, hd⟩ : ∃ d, S.doors[i]? = some d := ⟨_, List.getElem?_eq_getElem hi⟩
      obtain ⟨y, hy, q, rfl, hq⟩ := paired_at2 hdp hd
      refine ⟨_, rfl, _, rfl, (by show 1 ≤ sizeLine; decide), fun m hm => ?_⟩
      have s1 : Same H1 (upd H1 m (.lst [.int (i : Nat)])) := Same_new hm
      have m1 : (upd H1 m (.lst [.int (i : Nat)])) m = some (.lst [.int (i : Nat)]) := upd_same
      generalize upd H1 m (.lst [.int (i : Nat)]) = H3 at s1 m1 ⊢
      have s03 := Same_trans sm s1
      have de := sumN_take (i + 1) S.doors
      have hd2 : d.2 ≤ sumN S.doors := by
        have e := edges_take 0 i S.doors d hd
        have e2 := congrArg List.length e
        rw [edges_len, List.length_append, edges_len, List.length_replicate] at e2
        omega
      refine ⟨_, rfl, ps, _, 0, .ref pd, rfl, rfl, SqT.of (s03 _ _ h1), rfl, _, rfl, pd, des, (i : Nat), .ref q, rfl, rfl, SqT.of (s03 _ _ hde), atI_nat hy, q, _, 1, .int (d.2 : Nat), rfl, rfl, SqT.of (s03 _ _ hq), rfl, ?_⟩
      refine ⟨m, (d.2 : Nat), _, rfl, rfl, m1, by omega, by omega, ?_, fun m2 hm2 => ?_⟩
      · rw [Int.toNat_natCast, List.length_singleton]
        exact Nat.le_trans (show _ ≤ 10 by omega) (by decide)
      · rw [Int.toNat_natCast, flat_one]
        have s2 : Same H3 (upd H3 m2 (.lst (List.replicate d.2 (.int (i : Nat))))) := Same_new hm2
        have z2 : (upd H3 m2 (.lst (List.replicate d.2 (.int (i : Nat))))) m2 = some (.lst (List.replicate d.2 (.int (i : Nat)))) := upd_same
        generalize upd H3 m2 (.lst (List.replicate d.2 (V.int (i : Nat)))) = H4 at s2 z2 ⊢
        refine ⟨l, m2, _, _, rfl, rfl, s2 _ _ (s1 _ _ hL), z2, ?_, fun l2 hl2 => ?_⟩
        · rw [List.length_map, List.length_replicate, edges_len]
          have q1 := sumN_take i S.doors
          exact Nat.le_trans (show _ ≤ 20 by omega) (by decide)
        · have sA := Same_trans s03 s2
          refine ⟨l2, _, rfl, Same_trans sA (Same_new hl2), sA.free hl2, ?_⟩
          rw [upd_same, edges_take 0 i S.doors d hd, List.map_append, List.map_replicate, Nat.zero_add]
    · rintro σ H1 ⟨l, v2, rfl, sm, nl, hL⟩
      rw [List.take_of_length_le (Nat.le_refl _)] at hL
      exact ⟨_, rfl, k H1 l sm nl hL⟩
/-! _law_seen -/
def spSeenL : Sp := fun vs H Q _ => ∃ (ps pl : Addr) (S : Sch) (lay : Lay) (d : Nat), vs = [.ref ps, .ref pl, .int (d : Nat)] ∧ SchAt H ps S ∧ (S.doors.length ≤ 4 ∧ S.edges.length ≤ 6) ∧ TupN H pl (layV lay) ∧ lay.length = S.edges.length ∧ ∀ H' t, Same H H' → H' t = some (.tup (layV (seen S lay d))) → Q (.ref t) H'
theorem sc_SeenL : FnScope ["_law_s", "_law_layout", "_law_door", "_law_edges_here", "_law_k"] ["_law_s", "_law_layout", "_law_door"] (defScope s_law_seen) := ⟨rfl, rfl, rfl, by decide +kernel, rfl, by decide +kernel, by decide +kernel⟩
theorem ok_SeenL (T : Txt w K mg) : FnR P w K mg base CX0 2 (He.ga K "_law_seen") spSeenL := by
  obtain ⟨fd, F⟩ := T.f_law_seen
  obtain ⟨fd1, F1⟩ := T.f_law_edges
  have G : FnR P w K mg base CX0 1 (He.ga K "_law_edges") spEdgesL := ok_EdgesL T
  refine fnR_mk F sc_SeenL (fun _ _ _ _ _ _ us hl => match us, hl with | [_, _, _], _ => rfl) (fun vs H Q E h => ?_) (fun cdv A outer s H vs Q E hr h => ?_)
  · obtain ⟨ps, pl, S, lay, d, rfl, _⟩ := h
    rfl
  · obtain ⟨ps, pl, S, lay, d, rfl, hS, ⟨d4, e6⟩, hpl, hlen, k⟩ := h
    have nd := sc_SeenL.nd
    refine ⟨_, pss_cons (ps_set (i := 3) nd rfl (Or.inr rfl) (pe_fn G hr (by rfl) T.g_law_edges F1.kp (pa_cons (pv 0) pa_nil)))
      (pss_one (ps_ret (pe_callTy call_tuple_of (by rfl) T.b_tuple bo_tuple (pa_cons (pe_lc (own := [("_law_k", 4)]) (g := gName 4) rfl nd (pi_range1 (by rfl) T.b_range (pa_cons (pe_callB call_len_seq (by rfl) T.b_len bo_len (pa_cons (pv 1) pa_nil)) pa_nil)) (blkOk_by (N := ["_law_s", "_law_layout", "_law_door", "_law_edges_here", "_law_k"]) (sc := defScope s_law_seen) (by decide +kernel))
        (fun _ _ _ _ _ => pg_name (i := 4) nd rfl (Or.inl rfl)) (fun _ _ _ _ _ => pts_one (pt_cmpR op_eq (pe_ix (ixLK (K := K) rfl) (pv 3) (pv 4) (fun _ _ => rfl)) (pv 2) (nomark _))) (fun _ _ _ _ _ => pe_ix (ixTK (K := K) rfl) (pv 1) (pv 4) (fun _ _ => rfl))) pa_nil)))), ?_⟩
    refine ⟨_, rfl, ps, S, rfl, hS, ⟨d4, e6⟩, fun H1 l s1 nl hl => ?_⟩
    refine ⟨_, rfl, pl, _, rfl, .inr ((hpl.same s1).sq), (layV lay).length, rfl, by rw [layV_len]; omega, by rw [layV_len]; omega, ?_⟩
    rw [Int.toNat_natCast, layV_len]
    refine fun D hD => lc_pv (walk_rng (n := lay.length)) (fun i => (lay.zip S.edges)[i]?.bind fun p => if p.2 = d then some (vO p.1) else none) hD (fun _ _ => trivial) ?_ ?_
    · rintro i v H2 H3 hi pv ⟨rfl, rfl⟩
      obtain ⟨o, ho⟩ : ∃ o, lay[i]? = some o := ⟨_, List.getElem?_eq_getElem hi⟩
      have hi2 : i < S.edges.length := by omega
      obtain ⟨e, he⟩ : ∃ e, S.edges[i]? = some e := ⟨_, List.getElem?_eq_getElem hi2⟩
      have hev : (edgeVs S)[i]? = some (.int (e : Nat)) := by unfold edgeVs; rw [List.getElem?_map, he]; rfl
      refine ⟨rfl, ?_⟩
      refine ⟨_, rfl, _, rfl, l, _, (i : Nat), .int (e : Nat), rfl, rfl, SqL.of (pv.1 _ _ hl), atI_nat hev, _, rfl, rfl, _, rfl, ?_⟩
      by_cases hed : e = d
      · rw [decide_eq_true (by rw [hed])]
        exact iteT ⟨_, rfl, _, rfl, pl, _, (i : Nat), vO o, rfl, rfl, ((hpl.same s1).same pv.1).sq, atI_nat (lay_get ho), pvL_put hD pv (Same.refl _) (by rw [bind_at (zip_at ho he)]; exact if_pos hed) (by omega)⟩
      · rw [decide_eq_false (by intro z; injection z with z; exact hed (Int.ofNat.inj z))]
        exact iteF (pvL_skip pv (Same.refl _) (by rw [bind_at (zip_at ho he)]; exact if_neg hed))
    · intro H2 ⟨sm, hl2⟩
      have en : lay.length = (lay.zip S.edges).length := by rw [List.length_zip, hlen, Nat.min_self]
      rw [en, resL_all, seen_V] at hl2
      exact ⟨D, _, rfl, .inl ⟨SqL.of hl2, fun t ht => k _ t (Same_trans s1 (Same_trans sm (Same_new ht))) upd_same⟩⟩
/-! _law_turned -/
theorem sc_TurnedL : FnScope ["_law_layout", "_law_one", "_law_other", "_law_found"] ["_law_layout", "_law_one", "_law_other"] (defScope s_law_turned) := ⟨rfl, rfl, rfl, by decide +kernel, rfl, by decide +kernel, by decide +kernel⟩
/-- the law's own turns a layout by the layout itself, not by the list -/
theorem ok_TurnedL (T : Txt w K mg) : FnR P w K mg base CX0 1 (He.ga K "_law_turned") spExch := by
  obtain ⟨fd, F⟩ := T.f_law_turned
  refine fnR_mk F sc_TurnedL (fun _ _ _ _ _ _ us hl => match us, hl with | [_, _, _], _ => rfl) (fun vs H Q E h => ?_) (fun cdv A outer s H vs Q E hr h => ?_)
  · obtain ⟨p, lay, i, j, rfl, _⟩ := h
    rfl
  · obtain ⟨p, lay, i, j, rfl, hp, hi, hj, hl, k⟩ := h
    have nd := sc_TurnedL.nd
    refine ⟨_, pss_cons (ps_set (i := 3) nd rfl (Or.inl rfl) (pe_callTy call_list_of (by rfl) T.b_list bo_list (pa_cons (pv 0) pa_nil)))
      (pss_cons (ps_asg (pe_tup (pa_cons (pe_ix ix_tup (pv 0) (pv 2) (fun _ _ => rfl)) (pa_cons (pe_ix ix_tup (pv 0) (pv 1) (fun _ _ => rfl)) pa_nil))) (pg_tup rfl (pgs_cons (pg_sub (pv 3) (pv 1) set_list) (pgs_cons (pg_sub (pv 3) (pv 2) set_list) pgs_nil))))
      (pss_one (ps_ret (pe_callTy call_tupleN (by rfl) T.b_tuple bo_tuple (pa_cons (pv 3) pa_nil))))), ?_⟩
    refine ⟨_, rfl, p, _, rfl, .inr hp.sq, fun l hl2 => ?_⟩
    have hL : (upd H l (.lst (layV lay))) l = some (.lst (layV lay)) := upd_same
    have hp1 : TupN (upd H l (.lst (layV lay))) p (layV lay) := hp.same (Same_new hl2)
    refine ⟨_, rfl, _, rfl, p, _, (j : Nat), _, rfl, rfl, hp1.sq, atI_nat (lay_get (getD_at hj)), _, rfl, _, rfl, p, _, (i : Nat), _, rfl, rfl, hp1.sq, atI_nat (lay_get (getD_at hi)), (by show 2 ≤ sizeLine; decide), fun t ht => ?_⟩
    have nlt : l ≠ t := ne_of_none hL ht
    refine ⟨t, _, rfl, SqT.of upd_same, rfl, _, _, rfl, _, rfl, _, rfl, l, layV lay, (i : Nat), i, rfl, rfl, by rw [upd_ne nlt]; exact hL, ixN_at (by rw [layV_len]; exact hi), ?_⟩
    refine ⟨_, _, rfl, _, rfl, _, rfl, l, _, (j : Nat), j, rfl, rfl, upd_same, ixN_at (by rw [List.length_set, layV_len]; exact hj), rfl, ?_⟩
    refine ⟨_, rfl, l, _, rfl, SqL.of upd_same, fun m o hm ho => k m _ ?_ (by rw [← swap_V]; exact TupN.new ho)⟩
    have t0 : H t = none := by
      rw [upd_ne nlt.symm] at ht
      exact ht
    have s1 : Same H (upd (upd (upd (upd H l (.lst (layV lay))) t (.tup [vO (lay.getD j none), vO (lay.getD i none)])) l (.lst ((layV lay).set i (vO (lay.getD j none))))) l (.lst (((layV lay).set i (vO (lay.getD j none))).set j (vO (lay.getD i none))))) := Same_upd (Same_upd (Same_upd (Same_new hl2) t0) hl2) hl2
    exact Same_upd s1 (s1.free hm)
/-! _law_both -/
def spBothL : Sp := fun vs H Q _ => ∃ (ps : Addr) (S : Sch) (i j : Nat), vs = [.ref ps, .int (i : Nat), .int (j : Nat)] ∧ SchAt H ps S ∧ (S.doors.length ≤ 4 ∧ S.edges.length ≤ 6) ∧ i < S.edges.length ∧ j < S.edges.length ∧ ∀ H', Same H H' → Q (.int (both S i j)) H'
theorem sc_BothL : FnScope ["_law_s", "_law_here", "_law_there", "_law_edges_here", "_law_door"] ["_law_s", "_law_here", "_law_there"] (defScope s_law_both) := ⟨rfl, rfl, rfl, by decide +kernel, rfl, by decide +kernel, by decide +kernel⟩
theorem ok_BothL (T : Txt w K mg) : FnR P w K mg base CX0 2 (He.ga K "_law_both") spBothL := by
  obtain ⟨fd, F⟩ := T.f_law_both
  obtain ⟨fd1, F1⟩ := T.f_law_edges
  have G : FnR P w K mg base CX0 1 (He.ga K "_law_edges") spEdgesL := ok_EdgesL T
  refine fnR_mk F sc_BothL (fun _ _ _ _ _ _ us hl => match us, hl with | [_, _, _], _ => rfl) (fun vs H Q E h => ?_) (fun cdv A outer s H vs Q E hr h => ?_)
  · obtain ⟨ps, S, i, j, rfl, _⟩ := h
    rfl
  · obtain ⟨ps, S, i, j, rfl, hS, de, hi, hj, k⟩ := h
    have nd := sc_BothL.nd
    refine ⟨_, pss_cons (ps_set (i := 3) nd rfl (Or.inl rfl) (pe_fn G hr (by rfl) T.g_law_edges F1.kp (pa_cons (pv 0) pa_nil)))
      (pss_one (ps_ret (pe_callB (cr_sum rfl) (by rfl) T.b_sum bo_sum (pa_cons (pe_lc (own := [("_law_door", 4)]) (g := gName 4) (tt := tYes) rfl nd (pi_list (pe_callB (cr_sortedSet rfl) (by rfl) T.b_sorted bo_sorted (pa_cons (pe_callTy (call_setL rfl) (by rfl) T.b_set bo_set (pa_cons (pe_lst
          (pa_cons (pe_ix ix_list (pv 3) (pv 1) (fun _ _ => rfl)) (pa_cons (pe_ix ix_list (pv 3) (pv 2) (fun _ _ => rfl)) pa_nil))) pa_nil)) pa_nil))) (blkOk_by (N := ["_law_s", "_law_here", "_law_there", "_law_edges_here", "_law_door"]) (sc := defScope s_law_both) (by decide +kernel))
        (fun _ _ _ _ _ => pg_name (i := 4) nd rfl (Or.inl rfl)) (fun _ _ _ _ _ => pts_nil) (fun _ _ _ _ _ => pe_ix (ixTK (K := K) rfl) (pe_ix (ixTK (K := K) rfl) (pe_ix (ixTK (K := K) rfl) (pv 0) pe_int (fun _ _ => rfl)) (pv 4) (fun _ _ => rfl)) pe_int (fun _ _ => rfl))) pa_nil)))), ?_⟩
    refine ⟨_, rfl, ps, S, rfl, hS, de, fun H1 l s1 nl hl => ?_⟩
    refine ⟨_, rfl, _, rfl, l, _, (i : Nat), .int (S.edge i : Nat), rfl, rfl, SqL.of hl, atI_nat (edge_at hi), _, rfl, _, rfl, l, _, (j : Nat), .int (S.edge j : Nat), rfl, rfl, SqL.of hl, atI_nat (edge_at hj), (by show 2 ≤ sizeLine; decide), fun l2 hl2 => ?_⟩
    refine ⟨l2, [((S.edge i : Nat) : Int), ((S.edge j : Nat) : Int)], rfl, SqL.of upd_same, (by show 2 ≤ 1000; decide), fun p c hc hp => ?_⟩
    refine ⟨p, _, c, rfl, upd_same, Nat.lt_of_le_of_lt hc (by show 2 < 64; decide), fun ns q pw mem hlen hq => ?_⟩
    have sA := Same_trans s1 (Same_trans (Same_new (o := .lst [.int (S.edge i : Nat), .int (S.edge j : Nat)]) hl2) (Same_trans (Same_new (o := SetO w p (fun z => decide (z ∈ [((S.edge i : Nat) : Int), ((S.edge j : Nat) : Int)])) c) hp) (Same_new (o := .lst (ns.map V.int)) hq)))
    have hn2 : ns.length ≤ 2 := by rw [hlen]; exact hc
    obtain ⟨pd, pc, h1, ⟨des, hde, hdp⟩, h3⟩ := id hS
    refine ⟨q, rfl, ⟨_, SqL.of upd_same⟩, fun D hD => lc_pv (walk_list (xs := ns.map V.int)) (fun i => ns[i]?.bind fun e => some (.int (warmI S e))) hD (fun H1 sm => SqL.of (sm _ _ upd_same)) ?_ ?_⟩
    · rintro m v H2 H3 hm pv ⟨rfl, hv⟩
      obtain ⟨e, he, rfl⟩ := map_at hv
      have hmem := (mem e).mp (List.mem_of_getElem? he)
      rw [decide_eq_true_eq] at hmem
      obtain ⟨x, rfl, hx⟩ : ∃ x : Nat, e = (x : Nat) ∧ x < S.doors.length := by
        rcases List.mem_cons.mp hmem with z | z
        · exact ⟨_, z, edge_lt hi⟩
        · exact ⟨_, List.mem_singleton.mp z, edge_lt hj⟩
      have sB := Same_trans sA pv.1
      obtain ⟨y, hy, qd, rfl, hqd⟩ := paired_at2 hdp (List.getElem?_eq_getElem hx)
      refine ⟨rfl, ?_⟩
      refine ⟨_, rfl, ps, _, 0, .ref pd, rfl, rfl, SqT.of (sB _ _ h1), rfl, _, rfl, pd, des, (x : Nat), _, rfl, rfl, SqT.of (sB _ _ hde), atI_nat hy, qd, _, 0, _, rfl, rfl, SqT.of (sB _ _ hqd), rfl, pvL_put hD pv (Same.refl _) ?_ ?_⟩
      · rw [bind_at he]
        show some (V.int (S.warm ((x : Nat) : Int).toNat)) = _
        rw [Int.toNat_natCast, warm_at (List.getElem?_eq_getElem hx)]
      · rw [List.length_map] at hm
        omega
    · intro H2 ⟨sm, hl3⟩
      rw [List.length_map, resL_map] at hl3
      refine ⟨D, ns.map (warmI S), rfl, SqL.of (by rw [hl3, List.map_map]; rfl), ?_⟩
      rw [both_sum pw mem]
      exact k H2 (Same_trans sA sm)
end
end Ck
set_option Elab.async false
set_option linter.all false
set_option maxRecDepth 100000
set_option maxHeartbeats 4000000
namespace Ck
open PySem PySem.Spec PyProof.Rows L2
def DoorsL (H : Hp) (des : List V) (ds : List (Int × Nat)) : Prop := Paired (fun e (d : Int × Nat) => ∃ q, e = V.ref q ∧ H q = some (.tup [.int d.1, .int (d.2 : Nat)])) des ds
theorem DoorsL.kt {H H' : Hp} {des : List V} {ds : List (Int × Nat)} (k : KTup H H') (h : DoorsL H des ds) : DoorsL H' des ds := Paired_mono h fun a b ⟨q, e, z⟩ => ⟨q, e, k _ _ z (.inl ⟨_, rfl⟩)⟩
theorem KTup.same {H H' : Hp} (s : Same H H') : KTup H H' := fun b o e _ => s _ _ e
theorem KTup.trans {H H1 H' : Hp} (a : KTup H H1) (b : KTup H1 H') : KTup H H' := fun p o e h => b p o (a p o e h) h
section
variable {P : Program} {w : World} {K : PySem.W.Frag} {mg : Str → Option Value} {base : Heap}
theorem RowAt.ktup {H H' : Hp} {r sa : Addr} (h : RowAt K H r sa) (k : KBut r H H') : KTup H H' := k.ktup fun o e z => by
  obtain ⟨xs, hx⟩ := h.isLst
  rw [hx] at e
  have e2 := Option.some.inj e
  rcases z with ⟨ys, z⟩ | ⟨ob, ys, z⟩ <;> (rw [z] at e2; cases e2)
/-! _law_scheme -/
def spScheme (K : PySem.W.Frag) : Sp := fun vs H Q _ => ∃ (r sa : Addr), vs = [.ref r, .int 5, .int 4] ∧ RowAt K H r sa ∧ ∀ H' p S, KBut r H H' → RowAt K H' r sa → SchAt H' p S → GoodSch S → Q (.ref p) H'
theorem sc_Scheme : FnScope ["_law_row", "_law_most", "_law_crates", "_law_found", "_law_left", "_law_count", "_law_size", "_law_door"] ["_law_row", "_law_most", "_law_crates"] (defScope s_law_scheme) := ⟨rfl, rfl, rfl, by decide +kernel, rfl, by decide +kernel, by decide +kernel⟩
theorem sumN_app (a b : List (Int × Nat)) : sumN (a ++ b) = sumN a + sumN b := by unfold sumN; rw [List.map_append, List.sum_append]
theorem sumN_one (d : Int × Nat) : sumN [d] = d.2 := by show d.2 + 0 = d.2; rfl
theorem sumN_pos {ds : List (Int × Nat)} (h : ds ≠ []) (hd : ∀ d ∈ ds, 1 ≤ d.2) : 1 ≤ sumN ds := by
  cases ds with
  | nil => exact absurd rfl h
  | cons d r =>
    have := hd d List.mem_cons_self
    show 1 ≤ (d.2 + (r.map (·.2)).sum)
    omega
theorem cut5 (c : Nat) : cutV (cr5.map V.str) none (some ((c : Nat) : Int)) = (cr5.take c).map V.str := by
  unfold cutV
  rw [HT.sIx_nat]
  show List.take (min c 5 - 0) (List.drop 0 (cr5.map V.str)) = _
  rw [Nat.sub_zero, List.drop_zero, ← List.map_take, ← take_min]
theorem ok_Scheme (T : Txt w K mg) : FnR P w K mg base CX0 2 (He.ga K "_law_scheme") (spScheme K) := by
  obtain ⟨fd, F⟩ := T.f_law_scheme
  obtain ⟨fd1, F1⟩ := T.f_law_taken
  have G : FnR P w K mg base CX0 1 (He.ga K "_law_taken") (spTaken K) := ok_Taken T
  refine fnR_mk F sc_Scheme (fun _ _ _ _ _ _ us hl => match us, hl with | [_, _, _], _ => rfl) (fun vs H Q E h => ?_) (fun cdv A outer s H vs Q E hr h => ?_)
  · obtain ⟨r, sa, rfl, _⟩ := h
    rfl
  · obtain ⟨r, sa, rfl, hrow, k⟩ := h
    have nd := sc_Scheme.nd
    refine ⟨_, pss_cons (ps_par (i := 3) (j := 4) rfl nd rfl rfl (by decide) rfl rfl (pa_cons (pe_lst pa_nil) (pa_cons (pe_op op_add pe_int (pe_fn G hr (by rfl) T.g_law_taken F1.kp (pa_cons (pv 0) (pa_cons (pv 1) pa_nil)))) pa_nil)) (by rfl))
      (pss_cons (ps_while PassesOwn.never (PW.pt (pw_and (pt_cmpR op_gt (pv 4) pe_int (nomark _)) (pw_and1 (pt_cmpR op_lt (pe_callB call_len_seq (by rfl) T.b_len bo_len (pa_cons (pv 3) pa_nil)) pe_int (nomark _)))))
        (pss_cons (ps_set (i := 5) nd rfl (Or.inl rfl) (pe_callB (call_min2 rfl) (by rfl) T.b_min bo_min (pa_cons (pv 4) (pa_cons (pe_op op_add pe_int (pe_fn G hr (by rfl) T.g_law_taken F1.kp (pa_cons (pv 0) (pa_cons pe_int pa_nil)))) pa_nil))))
        (pss_cons (ps_expr (pe_bm PySem.F.plainAttrs_list PySem.F.slot_list_append PySem.F.type_list_append mt_append (pv 3) (pa_cons (pe_tup (pa_cons (pe_op op_add pe_int (pe_fn G hr (by rfl) T.g_law_taken F1.kp (pa_cons (pv 0) (pa_cons pe_int pa_nil)))) (pa_cons (pv 5) pa_nil))) pa_nil)))
        (pss_one (ps_set (i := 4) nd rfl (Or.inl rfl) (pe_op op_sub (pv 4) (pv 5)))))))
      (pss_cons (ps_set (i := 6) nd rfl (Or.inl rfl) (pe_callB (cr_sum rfl) (by rfl) T.b_sum bo_sum (pa_cons (pe_lc (own := [("_law_door", 7)]) (g := gName 7) (tt := tYes) rfl nd (pi_list (pv 3)) (blkOk_by (N := ["_law_row", "_law_most", "_law_crates", "_law_found", "_law_left", "_law_count", "_law_size", "_law_door"]) (sc := defScope s_law_scheme) (by decide +kernel))
          (fun _ _ _ _ _ => pg_name (i := 7) nd rfl (Or.inl rfl)) (fun _ _ _ _ _ => pts_nil) (fun _ _ _ _ _ => pe_ix (ixTK (K := K) rfl) (pv 7) pe_int (fun _ _ => rfl))) pa_nil)))
      (pss_cons (ps_set (i := 5) nd rfl (Or.inl rfl) (pe_callB (call_min2 rfl) (by rfl) T.b_min bo_min (pa_cons (pe_op op_add pe_int (pe_fn G hr (by rfl) T.g_law_taken F1.kp (pa_cons (pv 0) (pa_cons (pv 2) pa_nil)))) (pa_cons (pv 6) pa_nil))))
      (pss_one (ps_ret (pe_tup (pa_cons (pe_callTy call_tuple_of (by rfl) T.b_tuple bo_tuple (pa_cons (pv 3) pa_nil)) (pa_cons (pe_callTy call_tuple_of (by rfl) T.b_tuple bo_tuple (pa_cons (pe_slice sl_list (pe_lst (pa_cons pe_str (pa_cons pe_str (pa_cons pe_str (pa_cons pe_str (pa_cons pe_str pa_nil)))))) po_none (po_some (pv 5))) pa_nil)) pa_nil)))))))), ?_⟩
    refine ⟨Nat.zero_le _, fun l hl => ?_⟩
    have s0 : Same H (upd H l (.lst [])) := Same_new hl
    have z0 : (upd H l (.lst [])) l = some (.lst []) := upd_same
    generalize upd H l (.lst []) = H0 at s0 z0 ⊢
    obtain ⟨xs0, hx0⟩ := hrow.isLst
    have nrl : r ≠ l := ne_of_none hx0 hl
    have row0 := hrow.same s0
    refine ⟨_, rfl, _, rfl, r, sa, 5, rfl, row0, ⟨by decide, by decide⟩, fun H1 d0 kb1 row1 hd0 => ⟨1, d0, rfl, rfl, _, _, rfl, ?_⟩⟩
    have z1 := kb1 _ _ z0 nrl.symm
    have k01 : KBut r H H1 := (Same_kbut s0).trans kb1
    refine ⟨fun m σ H' => ∃ (ds : List (Int × Nat)) (des : List V) (left : Nat) (v5 : Option V), σ = [some (.ref r), some (.int 5), some (.int 4), some (.ref l), some (.int (left : Nat)), v5, none, none] ∧ m = left ∧ H' l = some (.lst des) ∧ DoorsL H' des ds ∧ RowAt K H' r sa ∧ KBut r H H' ∧
      (∀ d ∈ ds, (1 ≤ d.1 ∧ d.1 ≤ 99) ∧ 1 ≤ d.2 ∧ d.2 ≤ 4) ∧ sumN ds + left ≤ 5 ∧ ds.length ≤ 4 ∧ (ds = [] → 1 ≤ left), ⟨1 + d0, [], [], 1 + d0, none, ?_, rfl, z1, .nil, row1, k01, fun d h => absurd h List.not_mem_nil, (show 0 + (1 + d0) ≤ 5 by omega), Nat.zero_le _, fun _ => Nat.le_add_right 1 d0⟩, ?_⟩
    · rw [show ((1 + d0 : Nat) : Int) = 1 + (d0 : Int) by omega]
      rfl
    · rintro left σ H2 ⟨ds, des, left0, v5, rfl, rfl, hL, hds, row2, k02, gds, hsum, hl4, hne⟩
      have ldes := Paired.length hds
      refine ⟨_, rfl, (left : Nat), 0, rfl, rfl, _, rfl, ite_b (fun h1 => ⟨_, rfl, l, des, rfl, .inl (SqL.of hL), des.length, 4, rfl, rfl, _, rfl, ite_b (fun h2 => ?body) (fun h2 => ?f2)⟩) (fun h1 => iteF ?f1)⟩
      case body =>
        rw [decide_eq_true_eq] at h1 h2
        refine ⟨fun σ' H' => ∃ m', m' < left ∧ ∃ (ds : List (Int × Nat)) (des : List V) (left : Nat) (v5 : Option V), σ' = [some (.ref r), some (.int 5), some (.int 4), some (.ref l), some (.int (left : Nat)), v5, none, none] ∧ m' = left ∧ H' l = some (.lst des) ∧ DoorsL H' des ds ∧ RowAt K H' r sa ∧ KBut r H H' ∧
          (∀ d ∈ ds, (1 ≤ d.1 ∧ d.1 ≤ 99) ∧ 1 ≤ d.2 ∧ d.2 ≤ 4) ∧ sumN ds + left ≤ 5 ∧ ds.length ≤ 4 ∧ (ds = [] → 1 ≤ left), fun _ _ h => h, ?_⟩
        refine ⟨_, rfl, _, rfl, r, sa, 3, rfl, row2, ⟨by decide, by decide⟩, fun H3 d1 kb3 row3 hd1 => ⟨1, d1, rfl, rfl, left, 1 + (d1 : Int), rfl, ?_⟩⟩
        have ec : (if 1 + (d1 : Int) < (left : Int) then 1 + (d1 : Int) else (left : Int)) = ((min left (1 + d1) : Nat) : Int) := by split <;> omega
        rw [ec]
        have hc1 : 1 ≤ min left (1 + d1) := by omega
        have hc2 : min left (1 + d1) ≤ left := Nat.min_le_left _ _
        have hc3 : min left (1 + d1) ≤ 4 := by omega
        generalize min left (1 + d1) = c at hc1 hc2 hc3 ⊢
        have hL3 := kb3 _ _ hL nrl.symm
        refine ⟨_, rfl, .inl ⟨rfl, _, SqL.of hL3⟩, _, rfl, r, sa, 9, rfl, row3, ⟨by decide, by decide⟩, fun H4 d2 kb4 row4 hd2 => ⟨1, d2, rfl, rfl, _, rfl, (by show 2 ≤ sizeLine; decide), fun t ht => ?_⟩⟩
        have hL4 := kb4 _ _ hL3 nrl.symm
        have s5 : Same H4 (upd H4 t (.tup [.int (1 + (d2 : Int)), .int (c : Nat)])) := Same_new ht
        have t5 : (upd H4 t (.tup [.int (1 + (d2 : Int)), .int (c : Nat)])) t = some (.tup [.int (1 + (d2 : Int)), .int (c : Nat)]) := upd_same
        generalize upd H4 t (.tup [.int (1 + (d2 : Int)), .int (c : Nat)]) = H5 at s5 t5 ⊢
        have hL5 := s5 _ _ hL4
        have row5 := row4.same s5
        have nl6 : KNl H5 (upd H5 l (.lst (des ++ [.ref t]))) := KNl.upd hL5
        have hds5 : DoorsL H5 des ds := ((hds.kt (row2.ktup kb3)).kt (row3.ktup kb4)).kt (KTup.same s5)
        refine ⟨l, des, .ref t, rfl, rfl, hL5, Nat.lt_of_lt_of_le (show des.length < 100 by omega) (by decide), _, rfl, _, rfl, left, c, rfl, rfl, ?_⟩
        have es : ((left : Nat) : Int) - (c : Nat) = ((left - c : Nat) : Int) := by omega
        refine ⟨left - c, by omega, ds ++ [(1 + (d2 : Int), c)], des ++ [.ref t], left - c, some (.int (c : Nat)), (by rw [← es]; rfl), rfl, upd_same, paired_app (hds5.kt nl6.ktup) (.cons ⟨t, rfl, nl6 _ _ t5 (fun _ z => by cases z)⟩ .nil), ?_, fun b o e nb => ?_, fun d hd => ?_, ?_, ?_, fun z => ?_⟩
        · exact hrow.updN (fun b o e nb => s5 _ _ (kb4 _ _ (kb3 _ _ (k02 _ _ e nb) nb) nb)) hl row5
        · rw [upd_ne (ne_of_none e hl)]
          exact s5 _ _ (kb4 _ _ (kb3 _ _ (k02 _ _ e nb) nb) nb)
        · rcases List.mem_append.mp hd with h | h
          · exact gds d h
          · rw [List.mem_singleton.mp h]
            exact ⟨⟨by show 1 ≤ 1 + (d2 : Int); omega, by show 1 + (d2 : Int) ≤ 99; omega⟩, hc1, hc3⟩
        · rw [sumN_app, sumN_one]
          show sumN ds + c + (left - c) ≤ 5
          omega
        · rw [List.length_append, List.length_singleton]
          omega
        · exact absurd z (by simp)
      all_goals
        have hn : ds ≠ [] := by
          intro e
          have a1 := hne e
          have a2 : ds.length = 0 := by rw [e]; rfl
          simp only [decide_eq_true_eq, decide_eq_false_iff_not] at *
          omega
        have hpos := sumN_pos hn fun d hd => (gds d hd).2.1
        refine ⟨_, rfl, l, rfl, ⟨_, SqL.of hL⟩, fun D hD => lc_pv (walk_list (xs := des)) (fun i => ds[i]?.bind fun d => some (.int (d.2 : Nat))) hD (fun H3 sm => SqL.of (sm _ _ hL)) ?_ ?_⟩
        · rintro i v H3 H4 hi pv ⟨rfl, hv⟩
          obtain ⟨d, hdi, q, rfl, hq⟩ := paired_at hds hv
          exact ⟨rfl, _, rfl, q, _, 1, _, rfl, rfl, SqT.of (pv.1 _ _ hq), rfl, pvL_put hD pv (Same.refl _) (bind_at hdi) (by omega)⟩
        · intro H3 ⟨s3, hD3⟩
          rw [ldes, resL_map] at hD3
          have row3 := row2.same s3
          refine ⟨D, (ds.map (·.2)).map (fun n : Nat => (n : Int)), rfl, SqL.of (by rw [hD3, List.map_map, List.map_map]; rfl), ?_⟩
          rw [sum_cast]
          have esz : ((ds.map (·.2)).sum : Nat) = sumN ds := rfl
          rw [esz]
          refine ⟨_, rfl, _, rfl, r, sa, 4, rfl, row3, ⟨by decide, by decide⟩, fun H4 d4 kb4 row4 hd4 => ⟨1, d4, rfl, rfl, _, rfl, 1 + (d4 : Int), (sumN ds : Nat), rfl, ?_⟩⟩
          have ec : (if ((sumN ds : Nat) : Int) < 1 + (d4 : Int) then ((sumN ds : Nat) : Int) else 1 + (d4 : Int)) = ((min (1 + d4) (sumN ds) : Nat) : Int) := by split <;> omega
          rw [ec]
          have hc1 : 1 ≤ min (1 + d4) (sumN ds) := by omega
          have hc2 : min (1 + d4) (sumN ds) ≤ sumN ds := Nat.min_le_right _ _
          have hc3 : min (1 + d4) (sumN ds) ≤ 5 := by omega
          generalize min (1 + d4) (sumN ds) = c at hc1 hc2 hc3 ⊢
          have hL4 := kb4 _ _ (s3 _ _ hL) nrl.symm
          have hds4 : DoorsL H4 des ds := (hds.kt (KTup.same s3)).kt (row3.ktup kb4)
          refine ⟨_, rfl, l, des, rfl, .inl ⟨SqL.of hL4, fun pd hpd => ?_⟩⟩
          have s5 : Same H4 (upd H4 pd (.tup des)) := Same_new hpd
          have p5 : (upd H4 pd (.tup des)) pd = some (.tup des) := upd_same
          generalize upd H4 pd (.tup des) = H5 at s5 p5 ⊢
          refine ⟨(by show 5 ≤ sizeLine; decide), fun q hq => ⟨_, rfl, c, rfl, q, cr5.map V.str, rfl, SqL.of upd_same, fun p hp => ?_⟩⟩
          have s6 : Same H5 (upd H5 q (.lst (cr5.map V.str))) := Same_new hq
          have p6 : (upd (upd H5 q (.lst (cr5.map V.str))) p (.lst (cutV (cr5.map V.str) none (some ((c : Nat) : Int))))) p = some (.lst ((cr5.take c).map V.str)) := by rw [upd_same, cut5]
          have s7 : Same (upd H5 q (.lst (cr5.map V.str))) (upd (upd H5 q (.lst (cr5.map V.str))) p (.lst (cutV (cr5.map V.str) none (some ((c : Nat) : Int))))) := Same_new hp
          have s57 := Same_trans s6 s7
          refine ⟨p, _, rfl, .inl ⟨SqL.of p6, fun pc hpc => ?_⟩⟩
          have s8 := Same_trans s57 (Same_new (o := .tup ((cr5.take c).map V.str)) hpc)
          refine ⟨(by show 2 ≤ sizeLine; decide), fun t ht => ?_⟩
          have s9 := Same_trans s8 (Same_new (o := .tup [.ref pd, .ref pc]) ht)
          have sA := Same_trans s5 s9
          have npt : pc ≠ t := ne_of_none upd_same ht
          have lcr : (cr5.take c).length = c := by rw [List.length_take, cr5_len]; omega
          have el : (Sch.mk ds (cr5.take c)).edges.length = sumN ds := edges_len 0 ds
          refine k _ t ⟨ds, cr5.take c⟩ (fun b o e nb => sA _ _ (kb4 _ _ (s3 _ _ (k02 _ _ e nb)) nb)) (row4.same sA) ⟨pd, pc, upd_same, ⟨des, s9 _ _ p5, hds4.kt (KTup.same sA)⟩, by rw [upd_ne npt]; exact upd_same⟩ ⟨?_, hl4, fun d hd => (gds d hd).1, fun d hd => (gds d hd).2, by rw [el]; omega, ⟨c, rfl⟩, by show 1 ≤ (cr5.take c).length; omega, by rw [el]; show (cr5.take c).length ≤ _; omega⟩
          show 1 ≤ ds.length
          exact Nat.pos_of_ne_zero fun z => hn (List.length_eq_zero_iff.mp z)
end
end Ck
set_option Elab.async false
set_option linter.all false
set_option maxRecDepth 100000
set_option maxHeartbeats 4000000
namespace Ck
open PySem PySem.Spec PyProof.Rows L2
theorem inV_lay (n : Str) (l : Lay) : inV (.str n) (layV l) = decide (n ∈ names l) := by
  unfold inV layV names
  induction l with
  | nil => simp
  | cons o l ih =>
    rw [List.map_cons, List.any_cons, ih]
    cases o with
    | none =>
      rw [List.filterMap_cons]
      rfl
    | some s =>
      have e : eqV (vO (some s)) (.str n) = decide (s = n) := by
        show (s == n) = decide (s = n)
        rw [Bool.eq_iff_iff, beq_iff_eq, decide_eq_true_eq]
      rw [e, Bool.eq_iff_iff, Bool.or_eq_true, decide_eq_true_eq, decide_eq_true_eq, decide_eq_true_eq, List.filterMap_cons]
      show _ ↔ n ∈ s :: _
      rw [List.mem_cons]
      exact or_congr ⟨Eq.symm, Eq.symm⟩ Iff.rfl
theorem nodup_le {α : Type} [DecidableEq α] : ∀ {l m : List α}, l.Nodup → (∀ z ∈ l, z ∈ m) → l.length ≤ m.length
  | [], m, _, _ => Nat.zero_le _
  | x :: l, m, nd, sub => by
    obtain ⟨hx, nd2⟩ := List.nodup_cons.mp nd
    have hm := sub x List.mem_cons_self
    have := nodup_le (l := l) (m := m.erase x) nd2 fun z hz => (List.mem_erase_of_ne (fun (e : z = x) => hx (by rw [← e]; exact hz))).mpr (sub z (List.mem_cons_of_mem _ hz))
    rw [List.length_erase_of_mem hm] at this
    have hp := List.length_pos_of_mem hm
    rw [List.length_cons]
    omega
theorem names_snoc (l : Lay) (o : Option Str) : names (l ++ [o]) = names l ++ o.toList := by
  unfold names
  rw [List.filterMap_append]
  cases o <;> rfl
theorem count_lay (l : Lay) : (layV l).count .non + (names l).length = l.length := by
  unfold layV names
  induction l with
  | nil => rfl
  | cons o l ih =>
    cases o with
    | none =>
      rw [List.map_cons, List.filterMap_cons, List.length_cons]
      show (V.non :: List.map vO l).count .non + (List.filterMap id l).length = _
      rw [List.count_cons_self]
      omega
    | some s =>
      rw [List.map_cons, List.filterMap_cons, List.length_cons]
      show (V.str s :: List.map vO l).count .non + (s :: List.filterMap id l).length = _
      rw [List.count_cons_of_ne (fun e => by cases e), List.length_cons]
      omega
structure PGood (S : Sch) (n : Nat) (l : Lay) : Prop where
  len : l.length = n
  nd : (names l).Nodup
  sub : ∀ z ∈ names l, z ∈ S.crates
  room : n + S.crates.length ≤ (names l).length + S.edges.length
theorem PGood.full {S : Sch} (g : GoodSch S) {l : Lay} (h : PGood S S.edges.length l) : GoodLay S l := by
  refine ⟨h.len, (List.perm_ext_iff_of_nodup h.nd g.nodup).mpr fun z => ⟨h.sub z, fun hz => ?_⟩⟩
  by_cases e : z ∈ names l
  · exact e
  · have nd : (z :: names l).Nodup := List.nodup_cons.mpr ⟨e, h.nd⟩
    have := nodup_le nd (m := S.crates) fun y hy => by
      rcases List.mem_cons.mp hy with q | q
      · rw [q]; exact hz
      · exact h.sub y q
    have r := h.room
    rw [List.length_cons] at this
    omega
/-- what may be put next -/
def exts (S : Sch) (l : Lay) : Lay := (if (((layV l).count .non : Nat) : Int) < ((S.edges.length : Nat) : Int) - ((S.crates.length : Nat) : Int) then [none] else []) ++ (S.crates.filter fun z => !decide (z ∈ names l)).map some
theorem exts_good {S : Sch} (g : GoodSch S) {n : Nat} {l : Lay} (h : PGood S n l) {o : Option Str} (ho : o ∈ exts S l) : PGood S (n + 1) (l ++ [o]) := by
  have hc := count_lay l
  have hl := h.len
  have hr := h.room
  refine ⟨by rw [List.length_append, List.length_singleton, hl], ?_, ?_, ?_⟩ <;> rw [names_snoc]
  all_goals
    unfold exts at ho
    rcases List.mem_append.mp ho with q | q
  · split at q
    · rw [List.mem_singleton.mp q]
      show (names l ++ []).Nodup
      rw [List.append_nil]
      exact h.nd
    · cases q
  · obtain ⟨z, hz, rfl⟩ := List.mem_map.mp q
    obtain ⟨hz1, hz2⟩ := List.mem_filter.mp hz
    have hz3 : z ∉ names l := by simpa using hz2
    show (names l ++ [z]).Nodup
    rw [List.nodup_append]
    exact ⟨h.nd, by simp, fun a ha b hb e => hz3 (by rw [← List.mem_singleton.mp hb, ← e]; exact ha)⟩
  · split at q
    · rw [List.mem_singleton.mp q]
      intro z hz
      exact h.sub z (by simpa using hz)
    · cases q
  · obtain ⟨z, hz, rfl⟩ := List.mem_map.mp q
    obtain ⟨hz1, hz2⟩ := List.mem_filter.mp hz
    intro y hy
    rcases List.mem_append.mp hy with q2 | q2
    · exact h.sub y q2
    · have e : y = z := by simpa using q2
      rw [e]
      exact hz1
  · split at q
    · rename_i hlt
      rw [List.mem_singleton.mp q]
      show n + 1 + S.crates.length ≤ (names l ++ []).length + S.edges.length
      rw [List.append_nil]
      omega
    · cases q
  · obtain ⟨z, hz, rfl⟩ := List.mem_map.mp q
    show n + 1 + S.crates.length ≤ (names l ++ [z]).length + S.edges.length
    rw [List.length_append, List.length_singleton]
    omega
theorem exts_ne {S : Sch} (g : GoodSch S) {n : Nat} {l : Lay} (h : PGood S n l) (hn : n < S.edges.length) : exts S l ≠ [] := by
  have hc := count_lay l
  have hl := h.len
  have hr := h.room
  have ct := g.ct
  unfold exts
  split
  · exact fun z => by simp at z
  · rename_i hlt
    intro z
    have e : (S.crates.filter fun z => !decide (z ∈ names l)) = [] := by
      have := (List.append_eq_nil_iff.mp z).2
      exact List.map_eq_nil_iff.mp this
    have sub : ∀ y ∈ S.crates, y ∈ names l := fun y hy => by
      by_cases q : y ∈ names l
      · exact q
      · have : y ∈ S.crates.filter fun z => !decide (z ∈ names l) := List.mem_filter.mpr ⟨hy, by simpa using q⟩
        rw [e] at this
        cases this
    have := nodup_le g.nodup sub
    omega
theorem exts_len (S : Sch) (l : Lay) : (exts S l).length ≤ 1 + S.crates.length := by
  unfold exts
  rw [List.length_append, List.length_map]
  have h1 := List.length_filter_le (fun z => !decide (z ∈ names l)) S.crates
  have h2 : (if (((layV l).count .non : Nat) : Int) < ((S.edges.length : Nat) : Int) - ((S.crates.length : Nat) : Int) then [(none : Option Str)] else []).length ≤ 1 := by split <;> simp
  omega
def LaysL (H : Hp) (xs : List V) (lays : List Lay) : Prop := Paired (fun v lay => ∃ p, v = V.ref p ∧ TupN H p (layV lay)) xs lays
theorem LaysL.same {H H' : Hp} {xs : List V} {lays : List Lay} (s : Same H H') (h : LaysL H xs lays) : LaysL H' xs lays := Paired_mono h fun a b ⟨q, e, z⟩ => ⟨q, e, z.same s⟩
theorem LaysL.nl {H H' : Hp} {xs : List V} {lays : List Lay} (s : KNl H H') (h : LaysL H xs lays) : LaysL H' xs lays := Paired_mono h fun a b ⟨q, e, z⟩ => ⟨q, e, z.mono fun o y => s _ _ y (fun _ z => by cases z)⟩
theorem notInK {X : Cx} {K : PySem.W.Frag} (h : X.K = K) : OpR X (compareOp .NotIn) (rIn K true) := by
  subst h
  exact op_notIn_seq
def rCatTN (K : PySem.W.Frag) : R2 := fun x y H Q => ∃ a b xs ys, x = .ref a ∧ y = .ref b ∧ SqT K H a xs ∧ SqT K H b ys ∧ ys ≠ [] ∧ xs.length + ys.length ≤ sizeLine ∧ (xs = [] → Q (.ref b) H) ∧
    (xs ≠ [] → ∀ p (o : Obj), H p = none → o.dict = none → Q (.ref p) (upd H p (.frz o (.tup (xs ++ ys)))))
theorem catTNK {X : Cx} {K : PySem.W.Frag} (h : X.K = K) : OpR X (binaryOp .Add) (rCatTN K) := by
  subst h
  exact op_catTN
section
variable {P : Program} {w : World} {K : PySem.W.Frag} {mg : Str → Option Value} {base : Heap}
def spLayouts : Sp := fun vs H Q _ => ∃ (ps : Addr) (S : Sch), vs = [.ref ps] ∧ SchAt H ps S ∧ GoodSch S ∧ ∀ H' l xs lays, Same H H' → H' l = some (.lst xs) → LaysL H' xs lays → (∀ lay ∈ lays, GoodLay S lay) → 1 ≤ lays.length → lays.length ≤ 46656 → Q (.ref l) H'
theorem sc_Layouts : FnScope ["_law_s", "_law_size", "_law_found", "_law_turn", "_law_longer", "_law_some", "_law_left", "_law_name", "_law_free", "_law_one"] ["_law_s"] (defScope s_law_layouts) := ⟨rfl, rfl, rfl, by decide +kernel, rfl, by decide +kernel, by decide +kernel⟩
theorem ok_Layouts (T : Txt w K mg) : FnR P w K mg base CX0 2 (He.ga K "_law_layouts") spLayouts := by
  obtain ⟨fd, F⟩ := T.f_law_layouts
  obtain ⟨fd1, F1⟩ := T.f_law_edges
  have G : FnR P w K mg base CX0 1 (He.ga K "_law_edges") spEdgesL := ok_EdgesL T
  refine fnR_mk F sc_Layouts (fun _ _ _ _ _ _ us hl => match us, hl with | [_], _ => rfl) (fun vs H Q E h => ?_) (fun cdv A outer s H vs Q E hr h => ?_)
  · obtain ⟨ps, S, rfl, _⟩ := h
    rfl
  · obtain ⟨ps, S, rfl, hS, g, k⟩ := h
    have nd := sc_Layouts.nd
    refine ⟨_, pss_cons (ps_par (i := 1) (j := 2) rfl nd rfl rfl (by decide) rfl rfl (pa_cons (pe_callB call_len_seq (by rfl) T.b_len bo_len (pa_cons (pe_fn G hr (by rfl) T.g_law_edges F1.kp (pa_cons (pv 0) pa_nil)) pa_nil)) (pa_cons (pe_lst (pa_cons (pe_tupN pa_nil) pa_nil)) pa_nil)) (by rfl))
      (pss_cons (ps_for PassesOwn.never rfl (pi_range1 (by rfl) T.b_range (pa_cons (pv 1) pa_nil)) (pg_name (i := 3) nd rfl (Or.inl rfl))
        (pss_cons (ps_set (i := 4) nd rfl (Or.inl rfl) (pe_lst pa_nil))
        (pss_cons (ps_for PassesOwn.never rfl (pi_list (pv 2)) (pg_name (i := 5) nd rfl (Or.inr rfl))
          (pss_cons (ps_setLc (i := 6) (own := [("_law_name", 7)]) (g := gName 7) rfl nd rfl rfl (sw_true rfl rfl rfl (by decide +kernel)) (pi_tup (pe_ix ix_tup (pv 0) pe_int (fun _ _ => rfl))) (blkOk_by (N := ["_law_s", "_law_size", "_law_found", "_law_turn", "_law_longer", "_law_some", "_law_left", "_law_name", "_law_free", "_law_one"]) (sc := defScope s_law_layouts) (by decide +kernel))
              (fun _ _ _ _ _ => pg_name (i := 7) nd rfl (Or.inl rfl)) (fun _ _ _ _ _ => pts_one (pt_cmpR (notInK (K := K) rfl) (pv 7) (pv 5) (by rfl))) (fun _ _ _ _ _ => pv 7))
          (pss_cons (ps_set (i := 8) nd rfl (Or.inl rfl) (pe_ifExp (pt_cmpR op_lt (pe_bmT PySem.F.slot_tuple_count PySem.F.type_tuple_count mt_tupCountN (pv 5) (pa_cons pe_non pa_nil)) (pe_op op_sub (pv 1) (pe_callB call_len_seq (by rfl) T.b_len bo_len (pa_cons (pe_ix ix_tup (pv 0) pe_int (fun _ _ => rfl)) pa_nil))) (nomark _)) (pe_lst (pa_cons pe_non pa_nil)) (pe_lst pa_nil)))
          (pss_one (ps_set (i := 4) nd rfl (Or.inl rfl) (pe_op op_cat (pv 4) (pe_lc (own := [("_law_one", 9)]) (g := gName 9) (tt := tYes) rfl nd (pi_list (pe_op op_cat (pv 8) (pv 6))) (blkOk_by (N := ["_law_s", "_law_size", "_law_found", "_law_turn", "_law_longer", "_law_some", "_law_left", "_law_name", "_law_free", "_law_one"]) (sc := defScope s_law_layouts) (by decide +kernel))
              (fun _ _ _ _ _ => pg_name (i := 9) nd rfl (Or.inl rfl)) (fun _ _ _ _ _ => pts_nil) (fun _ _ _ _ _ => pe_op (catTNK (K := K) rfl) (pv 5) (pe_tupN (pa_cons (pv 9) pa_nil)))))))))
          )
        (pss_one (ps_set (i := 2) nd rfl (Or.inl rfl) (pv 4))))))
      (pss_one (ps_ret (pv 2)))), ?_⟩
    obtain ⟨pd, pc, hp1, hp2, hp3⟩ := id hS
    have c5 := g.c5
    have e6 := g.tot
    refine ⟨_, rfl, ps, S, rfl, hS, ⟨g.d4, g.tot⟩, fun H1 le s1 nle hle => ?_⟩
    refine ⟨le, _, rfl, .inl (SqL.of hle), Nat.zero_le _, fun t ob ht hob => ⟨(by show 1 ≤ sizeLine; decide), fun l0 hl0 => ⟨_, _, rfl, ?_⟩⟩⟩
    have s2 : Same H (upd H1 t (.frz ob (.tup []))) := Same_trans s1 (Same_new ht)
    have t2 : TupN (upd H1 t (.frz ob (.tup []))) t (layV []) := TupN.new hob
    generalize upd H1 t (.frz ob (.tup [])) = H2 at s2 t2 hl0 ⊢
    have s3 : Same H (upd H2 l0 (.lst [.ref t])) := Same_trans s2 (Same_new hl0)
    have t3 : TupN (upd H2 l0 (.lst [.ref t])) t (layV []) := t2.same (Same_new hl0)
    have z3 : (upd H2 l0 (.lst [.ref t])) l0 = some (.lst [.ref t]) := upd_same
    generalize upd H2 l0 (.lst [V.ref t]) = H3 at s3 t3 z3 ⊢
    rw [edgeVs_len]
    refine ⟨_, rfl, ((S.edges.length : Nat) : Int), rfl, by omega, by omega, ?_⟩
    rw [Int.toNat_natCast]
    refine for_it (walk_rng (n := S.edges.length)) (fun i σ H' => ∃ (lf : Addr) (xs : List V) (lays : List Lay) (v3 v4 v5 v6 v8 : Option V), σ = [some (.ref ps), some (.int (S.edges.length : Nat)), some (.ref lf), v3, v4, v5, v6, none, v8, none] ∧ Same H H' ∧ H' lf = some (.lst xs) ∧ LaysL H' xs lays ∧ (∀ lay ∈ lays, PGood S i lay) ∧ 1 ≤ lays.length ∧ lays.length ≤ 6 ^ i)
      ⟨l0, _, [[]], none, none, none, none, none, rfl, s3, z3, .cons ⟨t, rfl, t3⟩ .nil, fun lay hl => ?_, Nat.le_refl _, Nat.le_refl _⟩ (fun _ _ _ _ _ => trivial) ?_ ?_
    · rw [List.mem_singleton.mp hl]
      exact ⟨rfl, List.nodup_nil, fun z hz => (by cases hz), by show 0 + S.crates.length ≤ 0 + S.edges.length; have := g.ct; omega⟩
    · rintro i v σ H4' H4 hi ⟨lf, xs, lays, v3, v4, v5, v6, v8, rfl, sm, hlf, hlays, hg, hl1, hl6⟩ ⟨rfl, rfl⟩
      have lxs := Paired.length hlays
      have p6 : 6 ^ i ≤ 46656 := Nat.le_trans (Nat.pow_le_pow_right (by decide) (show i ≤ 6 by omega)) (by decide)
      refine ⟨Nat.zero_le _, fun ll hll => ?_⟩
      have s5 : Same H4 (upd H4 ll (.lst [])) := Same_new hll
      have z5 : (upd H4 ll (.lst [])) ll = some (.lst []) := upd_same
      generalize upd H4 ll (.lst []) = H5 at s5 z5 ⊢
      refine ⟨_, rfl, lf, rfl, ⟨_, SqL.of (s5 _ _ hlf)⟩, for_it (walk_list (xs := xs)) (fun j σ H' => ∃ (lg : Addr) (ys : List V) (outs : List Lay) (v5 v6 v8 : Option V), σ = [some (.ref ps), some (.int (S.edges.length : Nat)), some (.ref lf), some (.int (i : Nat)), some (.ref lg), v5, v6, none, v8, none] ∧ Same H5 H' ∧ H' lg = some (.lst ys) ∧ LaysL H' ys outs ∧ (∀ lay ∈ outs, PGood S (i + 1) lay) ∧ outs.length ≤ 6 * j ∧ (1 ≤ j → 1 ≤ outs.length))
        ⟨ll, [], [], v5, v6, v8, rfl, Same.refl _, z5, .nil, fun lay hl => absurd hl List.not_mem_nil, Nat.zero_le _, fun z => absurd z (by decide)⟩ (fun j σ H' _ ⟨_, _, _, _, _, _, _, sj, _⟩ => SqL.of (sj _ _ (s5 _ _ hlf))) ?_ ?_⟩
      · rintro j v σ H6' H6 hj ⟨lg, ys, outs, v5, v6, v8, rfl, sj, hlg, houts, hog, ho6, ho1⟩ ⟨rfl, hv⟩
        obtain ⟨lay, hlay, p, rfl, hp⟩ := paired_at hlays hv
        have hp6 : TupN H6 p (layV lay) := (hp.same s5).same sj
        have sA : Same H H6 := Same_trans sm (Same_trans s5 sj)
        have gl := hg lay (List.mem_of_getElem? hlay)
        have lys := Paired.length houts
        refine ⟨_, rfl, ps, _, 1, .ref pc, rfl, rfl, SqT.of (sA _ _ hp1), rfl, pc, rfl, ⟨_, SqT.of (sA _ _ hp3)⟩, fun D hD => lc_pv (walk_tup (xs := S.crates.map V.str)) (fun i => S.crates[i]?.bind fun z => if z ∈ names lay then none else some (.str z)) hD (fun H7 s7 => SqT.of (s7 _ _ (sA _ _ hp3))) ?_ ?_⟩
        · rintro m v H7' H7 hm pv ⟨rfl, hv⟩
          obtain ⟨z, hz, rfl⟩ := map_at hv
          rw [List.length_map] at hm
          refine ⟨rfl, ?_⟩
          refine ⟨_, rfl, _, rfl, p, layV lay, rfl, .inr (hp6.same pv.1).sq, rfl, flat_lay _, _, rfl, ?_⟩
          rw [inV_lay]
          by_cases hin : z ∈ names lay
          · rw [decide_eq_true hin]
            exact iteF (pvL_skip pv (Same.refl _) (by rw [bind_at hz, if_pos hin]))
          · rw [decide_eq_false hin]
            exact iteT ⟨_, rfl, pvL_put hD pv (Same.refl _) (by rw [bind_at hz, if_neg hin]) (by omega)⟩
        · intro H7 ⟨s7, hD7⟩
          rw [List.length_map, resL_all] at hD7
          have ef : S.crates.filterMap (fun z => if z ∈ names lay then none else some (V.str z)) = layV ((S.crates.filter fun z => !decide (z ∈ names lay)).map some) := by
            unfold layV
            rw [List.map_map]
            induction S.crates with
            | nil => rfl
            | cons z r ih =>
              rw [List.filterMap_cons, List.filter_cons, ih]
              by_cases hin : z ∈ names lay
              · rw [if_pos hin, if_neg (by simp [hin])]
              · rw [if_neg hin, if_pos (by simp [hin])]
                rfl
          rw [ef] at hD7
          have hp7 : TupN H7 p (layV lay) := hp6.same s7
          have sB : Same H H7 := Same_trans sA s7
          refine ⟨_, rfl, p, layV lay, rfl, hp7, p, layV lay, rfl, rfl, hp7.sq, fun y hy => ?_, _, rfl, _, rfl, ps, _, 1, .ref pc, rfl, rfl, SqT.of (sB _ _ hp1), rfl, pc, _, rfl, .inr (SqT.of (sB _ _ hp3)), ((S.edges.length : Nat) : Int), _, rfl, rfl, (((layV lay).count .non : Nat) : Int), _, rfl, rfl, _, rfl, ?_⟩
          · obtain ⟨o, _, rfl⟩ := List.mem_map.mp hy
            cases o with
            | none => exact .inl rfl
            | some z => exact .inr ⟨z, rfl⟩
          · rw [List.length_map]
            refine ite_b (fun hc => ⟨(by show 1 ≤ sizeLine; decide), fun l8 hl8 => ?_⟩) (fun hc => ⟨Nat.zero_le _, fun l8 hl8 => ?_⟩)
            all_goals
              first
              | (have hfr : exts S lay = [none] ++ (S.crates.filter fun z => !decide (z ∈ names lay)).map some := by
                  unfold exts
                  rw [if_pos (of_decide_eq_true hc)]
                 have z8 : (upd H7 l8 (.lst [.non])) l8 = some (.lst (layV [none])) := upd_same
                 have s8 : Same H7 (upd H7 l8 (.lst [.non])) := Same_new hl8
                 show (tSeq _ _) _ _ (upd H7 l8 (.lst [.non]))
                 generalize upd H7 l8 (.lst [V.non]) = H8 at z8 s8 ⊢
                 generalize ([none] : Lay) = fr at z8 hfr)
              | (have hfr : exts S lay = [] ++ (S.crates.filter fun z => !decide (z ∈ names lay)).map some := by
                  unfold exts
                  rw [if_neg (of_decide_eq_false hc)]
                 have z8 : (upd H7 l8 (.lst [])) l8 = some (.lst (layV [])) := upd_same
                 have s8 : Same H7 (upd H7 l8 (.lst [])) := Same_new hl8
                 show (tSeq _ _) _ _ (upd H7 l8 (.lst []))
                 generalize upd H7 l8 (.lst ([] : List V)) = H8 at z8 s8 ⊢
                 generalize ([] : Lay) = fr at z8 hfr)
              have hD8 := s8 _ _ hD7
              have elen := exts_len S lay
              have hex : layV fr ++ layV ((S.crates.filter fun z => !decide (z ∈ names lay)).map some) = layV (exts S lay) := by
                rw [hfr]
                unfold layV
                rw [List.map_append]
              have hfl : (layV fr).length + (layV ((S.crates.filter fun z => !decide (z ∈ names lay)).map some)).length = (exts S lay).length := by
                rw [← List.length_append, hex, layV_len]
              refine ⟨_, rfl, _, rfl, _, rfl, l8, D, _, _, rfl, rfl, z8, hD8, by rw [hfl]; exact Nat.le_trans (show _ ≤ 100 by omega) (by decide), fun l9 hl9 => ?_⟩
              rw [hex]
              have s9 : Same H8 (upd H8 l9 (.lst (layV (exts S lay)))) := Same_new hl9
              have z9 : (upd H8 l9 (.lst (layV (exts S lay)))) l9 = some (.lst (layV (exts S lay))) := upd_same
              generalize upd H8 l9 (.lst (layV (exts S lay))) = H9 at s9 z9 ⊢
              have s69 : Same H6 H9 := Same_trans s7 (Same_trans s8 s9)
              have hp9 : TupN H9 p (layV lay) := hp6.same s69
              refine ⟨l9, rfl, ⟨_, SqL.of z9⟩, fun D2 hD2 => lc_it (walk_list (xs := layV (exts S lay))) (fun m H' => ∃ acc outs2, H' D2 = some (.lst acc) ∧ Same H9 H' ∧ LaysL H' acc outs2 ∧ (∀ lay2 ∈ outs2, PGood S (i + 1) lay2) ∧ outs2.length = m)
                ⟨[], [], upd_same, Same_new hD2, .nil, fun _ h => absurd h List.not_mem_nil, rfl⟩ (fun m H' _ ⟨_, _, _, sx, _⟩ => SqL.of (sx _ _ z9)) ?_ ?_⟩
              · rintro m v HA' HA hm ⟨acc, outs2, hacc, sx, hlo, hgo, hlen2⟩ ⟨rfl, hv⟩
                obtain ⟨o, ho, rfl⟩ := lay_at hv
                rw [layV_len] at hm
                have go := exts_good g gl (List.mem_of_getElem? ho)
                have lacc := Paired.length hlo
                have hpA : TupN HA p (layV lay) := hp9.same sx
                have key : ∀ {HB : Hp} {q : Addr}, Same HA HB → TupN HB q (layV (lay ++ [o])) → ∃ acc, HB D2 = some (.lst acc) ∧ acc.length < sizeLine ∧ ∃ acc2 outs2, (upd HB D2 (.lst (acc ++ [.ref q]))) D2 = some (.lst acc2) ∧ Same H9 (upd HB D2 (.lst (acc ++ [.ref q]))) ∧ LaysL (upd HB D2 (.lst (acc ++ [.ref q]))) acc2 outs2 ∧ (∀ lay2 ∈ outs2, PGood S (i + 1) lay2) ∧ outs2.length = m + 1 := fun {HB q} sab hq => by
                  have hB := sab _ _ hacc
                  have nl : KNl HB (upd HB D2 (.lst (acc ++ [.ref q]))) := KNl.upd hB
                  refine ⟨acc, hB, Nat.lt_of_lt_of_le (show acc.length < 100 by omega) (by decide), acc ++ [.ref q], outs2 ++ [lay ++ [o]], upd_same, Same_upd (Same_trans sx sab) hD2, paired_app ((hlo.same sab).nl nl) (.cons ⟨q, rfl, hq.mono fun o y => nl _ _ y (fun _ z => by cases z)⟩ .nil), fun lay2 h2 => ?_, by rw [List.length_append, List.length_singleton, hlen2]⟩
                  rcases List.mem_append.mp h2 with h2 | h2
                  · exact hgo _ h2
                  · rw [List.mem_singleton.mp h2]
                    exact go
                have el : layV (lay ++ [o]) = layV lay ++ [vO o] := by unfold layV; rw [List.map_append]; rfl
                refine ⟨rfl, ?_⟩
                refine ⟨_, rfl, _, rfl, (by show 1 ≤ sizeLine; decide), fun t3 ob3 ht3 hob3 => ?_⟩
                have sT : Same HA (upd HA t3 (.frz ob3 (.tup [vO o]))) := Same_new ht3
                have tT : TupN (upd HA t3 (.frz ob3 (.tup [vO o]))) t3 [vO o] := TupN.new hob3
                generalize upd HA t3 (.frz ob3 (.tup [vO o])) = HT at sT tT ⊢
                refine ⟨p, t3, layV lay, [vO o], rfl, rfl, (hpA.same sT).sq, tT.sq, by simp, ?_, fun e => key sT (by rw [el, e]; exact tT), fun _ q3 ob4 hq3 hob4 => ?_⟩
                · rw [layV_len, gl.len, List.length_singleton]
                  exact Nat.le_trans (show _ ≤ 100 by omega) (by decide)
                · exact key (Same_trans sT (Same_new hq3)) (by rw [el]; exact TupN.new hob4)
              · rintro HA ⟨acc, outs2, hacc, sx, hlo, hgo, hlen2⟩
                rw [layV_len] at hlen2
                have lacc := Paired.length hlo
                have s6A : Same H6 HA := Same_trans s69 sx
                have p62 : lays.length ≤ 46656 := Nat.le_trans hl6 p6
                refine ⟨lg, D2, ys, acc, rfl, rfl, s6A _ _ hlg, hacc, ?_, fun l10 hl10 => ?_⟩
                · rw [lys, lacc, hlen2]
                  exact Nat.le_trans (show _ ≤ 300000 by omega) (by decide)
                · have sN : Same HA (upd HA l10 (.lst (ys ++ acc))) := Same_new hl10
                  refine ⟨l10, ys ++ acc, outs ++ outs2, _, _, _, rfl, Same_trans sj (Same_trans s6A sN), upd_same, paired_app ((houts.same s6A).same sN) (hlo.same sN), fun lay2 h2 => ?_, ?_, fun _ => ?_⟩
                  · rcases List.mem_append.mp h2 with h2 | h2
                    · exact hog _ h2
                    · exact hgo _ h2
                  · rw [List.length_append, hlen2]
                    omega
                  · rw [List.length_append, hlen2]
                    have := List.length_pos_iff.mpr (exts_ne g gl hi)
                    omega
      · rintro σ H6 ⟨lg, ys, outs, v5, v6, v8, rfl, sj, hlg, houts, hog, ho6, ho1⟩
        rw [lxs] at ho6 ho1
        refine ⟨_, rfl, lg, ys, outs, _, _, _, _, _, rfl, Same_trans sm (Same_trans s5 sj), hlg, houts, hog, ho1 hl1, ?_⟩
        rw [Nat.pow_succ]
        omega
    · rintro σ H4 ⟨lf, xs, lays, v3, v4, v5, v6, v8, rfl, sm, hlf, hlays, hg, hl1, hl6⟩
      refine ⟨_, rfl, k H4 lf xs lays sm hlf hlays (fun lay hl => (hg lay hl).full g) hl1 (Nat.le_trans hl6 (Nat.le_trans (Nat.pow_le_pow_right (by decide) e6) (by decide)))⟩
end
end Ck
set_option Elab.async false
set_option linter.all false
set_option maxRecDepth 100000
set_option maxHeartbeats 4000000
namespace Ck
open PySem PySem.Spec PyProof.Rows L2
def KW (sc : Scn) : Prop := ∀ p ∈ sc.kept, isWordB p.1 = true
theorem kw_step {S : Sch} {sc : Scn} {op : Op} (h : KW sc) (va : Valid S sc op) : KW (stepS S sc op) := by
  cases op with
  | keep z =>
    show ∀ p ∈ putFk sc.kept z sc.f, isWordB p.1 = true
    unfold putFk
    split
    · intro p hp
      obtain ⟨q, hq, e⟩ := List.mem_map.mp hp
      split at e
      · rw [← e]; exact h q hq
      · rw [← e]; exact h q hq
    · intro p hp
      rcases List.mem_append.mp hp with hp | hp
      · exact h p hp
      · rw [List.mem_singleton.mp hp]; exact va
  | _ => exact h
section
variable {P : Program} {w : World} {K : PySem.W.Frag} {mg : Str → Option Value} {base : Heap}
def spShows (K : PySem.W.Frag) : Sp := fun vs H Q _ => ∃ (x st sa : Addr) (S : Sch) (n : Nat) (sc : Scn) (past und : List (Op × Scn)) (v : V), vs = [.ref x, v] ∧ LiveV K H x st sa ∧ StateD K H sa sc past und ∧ ScnL H v sc ∧ GoodSch S ∧ Good S n sc ∧ n ≤ 60 ∧ KW sc ∧ ∀ H', Same H H' → Q (.bl true) H'
theorem sc_Shows : FnScope ["_law_live", "_law_scene"] ["_law_live", "_law_scene"] (defScope s_law_shows) := ⟨rfl, rfl, rfl, by decide +kernel, rfl, by decide +kernel, by decide +kernel⟩
theorem ok_Shows (T : Txt w K mg) : FnR P w K mg base CX0 3 (He.ga K "_law_shows") (spShows K) := by
  obtain ⟨fd, F⟩ := T.f_law_shows
  have GL : FnR P w K mg base CX0 1 (pga K (cL K) "layout_now") (spShow K rLay) := ok_LayNow T
  have GW : FnR P w K mg base CX0 1 (pga K (cL K) "warmth_now") (spShow K rWarm) := ok_WarmNow T
  have GD : FnR P w K mg base CX0 1 (pga K (cL K) "day_warmths") (spShow K rDays) := ok_Days T
  have GK : FnR P w K mg base CX0 1 (pga K (cL K) "kept_under") (spShow K rKept) := ok_KeptU T
  refine fnR_mk F sc_Shows (fun _ _ _ _ _ _ us hl => match us, hl with | [_, _], _ => rfl) (fun vs H Q E h => ?_) (fun cdv A outer s H vs Q E hr h => ?_)
  · obtain ⟨x, st, sa, S, n, sc, past, und, v, rfl, _⟩ := h
    rfl
  · obtain ⟨x, st, sa, S, n, sc, past, und, v, rfl, ⟨dx, hx⟩, hd, ⟨p, pl, pd, pk, rfl, hp, hpl, hpd, ⟨pk2, kvs, epk, hpk, hkv⟩⟩, g, gd, n60, kw, k⟩ := h
    cases epk
    refine ⟨_, pss_cons (ps_if (PW.pt (pw_or (pt_cmpR (op_neD hr.units) (pe_propR (pv 0) T.c_Live T.p_Live_layout_now GL hr) (pe_ix ix_tup (pv 1) pe_int (fun _ _ => rfl)) (nomark _)) (pw_or1 (pt_cmpR op_ne (pe_propR (pv 0) T.c_Live T.p_Live_warmth_now GW hr) (pe_ix ix_tup (pv 1) pe_int (fun _ _ => rfl)) (nomark _))))) (pss_one (ps_ret pe_bl)) pss_nil)
      (pss_one (ps_ret (pe_and (pe_cmpR (op_eqD hr.units) (pe_propR (pv 0) T.c_Live T.p_Live_day_warmths GD hr) (pe_ix ix_tup (pv 1) pe_int (fun _ _ => rfl)) (nomark _))
        (pe_one (pe_cmpR (op_eqD hr.units) (pe_propR (pv 0) T.c_Live T.p_Live_kept_under GK hr) (pe_callB (call_sortedD rfl) (by rfl) T.b_sorted bo_sorted (pa_cons (pe_ix ix_tup (pv 1) pe_int (fun _ _ => rfl)) pa_nil)) (nomark _)))))), ?_⟩
    have few := gd.few
    have kl := hkv.len
    refine ⟨_, rfl, x, dx, _, rfl, hx, x, st, sa, sc, past, und, rfl, ⟨dx, hx⟩, hd, fun pl2 hpl2 => ?_⟩
    refine ⟨_, rfl, p, _, 0, .ref pl, rfl, rfl, SqT.of hp, rfl, ne_dp (.tup hpl2.sq (dp_lay _)) (.tup hpl.sq (dp_lay _)) (shp_lay (gd.f.lay.words g)) (by decide) ⟨false, rfl, iteF ?_⟩⟩
    refine ⟨_, rfl, x, dx, _, rfl, hx, x, st, sa, sc, past, und, rfl, ⟨dx, hx⟩, hd, _, rfl, p, _, 1, .int sc.f.warm, rfl, rfl, SqT.of hp, rfl, rfl, _, rfl, ?_⟩
    rw [decide_eq_true rfl]
    refine iteF ?_
    refine ⟨_, rfl, x, dx, _, rfl, hx, x, st, sa, sc, past, und, rfl, ⟨dx, hx⟩, hd, fun l1 H1 s1 h1 => ?_⟩
    refine ⟨_, rfl, p, _, 2, .ref pd, rfl, rfl, SqT.of (s1 _ _ hp), rfl, eq_dp (.lst (SqL.of h1) (dp_ints _)) (.lst (SqL.of (s1 _ _ hpd)) (dp_ints _)) (shp_intL _) (by decide) ⟨true, rfl, ?_⟩⟩
    refine ⟨_, rfl, x, dx, _, rfl, s1 _ _ hx, x, st, sa, sc, past, und, rfl, ⟨dx, s1 _ _ hx⟩, hd.same s1, by omega, fun ys l2 H2 s2 py sy h2 => ?_⟩
    have s02 := Same_trans s1 s2
    refine ⟨_, rfl, p, _, 3, .ref pk, rfl, rfl, SqT.of (s02 _ _ hp), rfl, pk, kvs, _, rfl, .inl (s02 _ _ hpk), hkv.keys, by rw [List.length_map]; omega, fun zs l3 pz sz hl3 => ?_⟩
    have e : zs = ys := sorted_one sz sy (pz.trans py.symm)
    rw [e]
    have s3 : Same H2 (upd H2 l3 (.lst (ys.map V.str))) := Same_new hl3
    refine eq_dp (.lst (SqL.of (s3 _ _ h2)) (dp_strs ys)) (.lst (SqL.of upd_same) (dp_strs ys)) (shp_strL fun z hz => ?_) (by decide) (k _ (Same_trans s02 s3))
    obtain ⟨q, hq, eq⟩ := List.mem_map.mp (py.mem_iff.mp hz)
    rw [← eq]
    exact kw q hq
end
end Ck
set_option Elab.async false
set_option linter.all false
set_option maxRecDepth 100000
set_option maxHeartbeats 4000000
namespace Ck
open PySem PySem.Spec PyProof.Rows L2
theorem PSs_weak {X : Cx} {b : List Stmt} {t t' : TS} (h : PSs X b t) (w : ∀ D σ H, t' D σ H → t D σ H) : PSs X b t' := ⟨fun pins s σ H D I h' => h.run pins s σ H D I (w D σ H h')⟩
def freeR (l : Lay) (i : Nat) : Option V := l[i]?.bind fun o => match o with
  | none => some (V.int (i : Nat))
  | some _ => none
def freeV (l : Lay) : List V := resL (freeR l) l.length
theorem freeV_mem {l : Lay} {v : V} (h : v ∈ freeV l) : ∃ i : Nat, v = .int (i : Nat) ∧ l[i]? = some none := by
  unfold freeV resL at h
  obtain ⟨i, _, e⟩ := List.mem_filterMap.mp h
  unfold freeR at e
  cases q : l[i]? with
  | none => rw [q] at e; cases e
  | some o =>
    rw [q] at e
    cases o with
    | none => exact ⟨i, (Option.some.inj e).symm, q⟩
    | some z => cases e
section
variable {P : Program} {w : World} {K : PySem.W.Frag} {mg : Str → Option Value} {base : Heap}
abbrev sN : List Str := ["_law_row", "_law_s", "_law_scene", "_law_layout", "_law_warmth", "_law_days", "_law_stored", "_law_kind", "_law_word", "_law_name", "_law_free", "_law_k", "_law_place", "_law_here", "_law_later", "_law_other", "_law_one", "_law_there", "_law_names", "_law_more", "_law_door"]
theorem sc_Step : FnScope sN ["_law_row", "_law_s", "_law_scene"] (defScope s_law_step) := ⟨rfl, rfl, rfl, by decide +kernel, rfl, by decide +kernel, by decide +kernel⟩
/-- what a drawn operation hands on -/
def StepR (K : PySem.W.Frag) (r ra : Addr) (S : Sch) (sc : Scn) (H : Hp) (Q : VK) : Prop := ∀ H' q vo vs' vr op, KBut r H H' → RowAt K H' r ra → H' q = some (.tup [vo, vs', vr]) → OpH H' vo op → ScnL H' vs' (stepS S sc op) → Dp K H' vr (resD S sc op) → Valid S sc op → Q (.ref q) H'
theorem StepR.later {H H1 : Hp} {r ra : Addr} {S : Sch} {sc : Scn} {Q : VK} (kb : KBut r H H1) (k : StepR K r ra S sc H Q) : StepR K r ra S sc H1 Q := fun H' q vo vs' vr op kb' => k H' q vo vs' vr op (kb.trans kb')
def tLeaf (K : PySem.W.Frag) (extra : Sch → Scn → Str → Str → Prop) : TS := fun D σ H => ∃ (r ra ps p pl pd pk fl : Addr) (S : Sch) (n kind : Nat) (sc : Scn) (word name : Str),
  σ = [some (.ref r), some (.ref ps), some (.ref p), some (.ref pl), some (.int sc.f.warm), some (.ref pd), some (.ref pk), some (.int (kind : Nat)), some (.str word), some (.str name), some (.ref fl), none, none, none, none, none, none, none, none, none, none] ∧
  RowAt K H r ra ∧ SchAt H ps S ∧ GoodSch S ∧ H p = some (.tup [.ref pl, .int sc.f.warm, .ref pd, .ref pk]) ∧ TupN H pl (layV sc.f.lay) ∧ H pd = some (.lst (sc.f.days.map V.int)) ∧ KeptR FctL H (.ref pk) sc.kept ∧ Good S n sc ∧ n ≤ 900 ∧ name ∈ S.crates ∧ isWordB word = true ∧
  (H fl = some (.lst (freeV sc.f.lay)) ∧ fl ≠ r) ∧ extra S sc word name ∧ StepR K r ra S sc H D.rt
theorem tLeaf.same {ex : Sch → Scn → Str → Str → Prop} {D : Ends} {σ : L2.St} {H H' : Hp} (h : tLeaf K ex D σ H) (s : Same H H') : tLeaf K ex D σ H' := by
  obtain ⟨r, ra, ps, p, pl, pd, pk, fl, S, n, kind, sc, word, name, e, row, hS, g, hp, hpl, hpd, hk, gd, n9, hname, hword, ⟨hfl, nfr⟩, hx, k⟩ := h
  exact ⟨r, ra, ps, p, pl, pd, pk, fl, S, n, kind, sc, word, name, e, row.same s, hS.keep (Same_kim s), g, s _ _ hp, hpl.same s, s _ _ hpd, KeptL.keep (Same_kim s) hk, gd, n9, hname, hword, ⟨s _ _ hfl, nfr⟩, hx, k.later (Same_kbut s)⟩
abbrev tL (K : PySem.W.Frag) : TS := tLeaf K fun _ _ _ _ => True
theorem ite_yes {b : Bool} {A B : Prop} (h : b = true) (q : A) : if b = true then A else B := by rw [if_pos h]; exact q
theorem ite_no {b : Bool} {A B : Prop} (h : b = false) (q : B) : if b = true then A else B := by rw [h]; exact iteF q
def spStep (K : PySem.W.Frag) : Sp := fun vs H Q _ => ∃ (r ra ps : Addr) (S : Sch) (n : Nat) (sc : Scn) (v : V), vs = [.ref r, .ref ps, v] ∧ RowAt K H r ra ∧ SchAt H ps S ∧ GoodSch S ∧ ScnL H v sc ∧ Good S n sc ∧ n ≤ 900 ∧ StepR K r ra S sc H Q
theorem ok_Step (T : Txt w K mg) : FnR P w K mg base CX0 4 (He.ga K "_law_step") (spStep K) := by
  obtain ⟨fd, F⟩ := T.f_law_step
  obtain ⟨fd1, F1⟩ := T.f_law_taken
  obtain ⟨fd2, F2⟩ := T.f_law_pick
  obtain ⟨fd3, F3⟩ := T.f_law_turned
  obtain ⟨fd4, F4⟩ := T.f_law_both
  obtain ⟨fd5, F5⟩ := T.f_law_seen
  have GT : FnR P w K mg base CX0 1 (He.ga K "_law_taken") (spTaken K) := ok_Taken T
  have GP : FnR P w K mg base CX0 2 (He.ga K "_law_pick") (spPick K) := ok_Pick T
  have GX : FnR P w K mg base CX0 1 (He.ga K "_law_turned") spExch := ok_TurnedL T
  have GB : FnR P w K mg base CX0 2 (He.ga K "_law_both") spBothL := ok_BothL T
  have GS : FnR P w K mg base CX0 2 (He.ga K "_law_seen") spSeenL := ok_SeenL T
  refine fnR_mk F sc_Step (fun _ _ _ _ _ _ us hl => match us, hl with | [_, _, _], _ => rfl) (fun vs H Q E h => ?_) (fun cdv A outer s H vs Q E hr h => ?_)
  · obtain ⟨r, ra, ps, S, n, sc, v, rfl, _⟩ := h
    rfl
  · obtain ⟨r, ra, ps, S, n, sc, v, rfl, row, hS, g, hsc, gd, n9, k⟩ := h
    have nd := sc_Step.nd
    have u1 := Room_u1 hr
    refine ⟨_, pss_cons (ps_asg (pv 2) (pg_tup rfl (pgs_cons (pg_name (i := 3) nd rfl (Or.inr rfl)) (pgs_cons (pg_name (i := 4) nd rfl (Or.inl rfl)) (pgs_cons (pg_name (i := 5) nd rfl (Or.inl rfl)) (pgs_cons (pg_name (i := 6) nd rfl (Or.inl rfl)) pgs_nil))))))
      (pss_cons (ps_asg (pe_tup (pa_cons (pe_fn GT (hr.mono (by decide)) (by rfl) T.g_law_taken F1.kp (pa_cons (pv 0) (pa_cons pe_int pa_nil))) (pa_cons (pe_fn GP (hr.mono (by decide)) (by rfl) T.g_law_pick F2.kp (pa_cons (pv 0) (pa_cons (pe_lst (pa_cons pe_str (pa_cons pe_str pa_nil))) pa_nil)))
          (pa_cons (pe_fn GP (hr.mono (by decide)) (by rfl) T.g_law_pick F2.kp (pa_cons (pv 0) (pa_cons (pe_ix ix_tup (pv 1) pe_int (fun _ _ => rfl)) pa_nil))) pa_nil))))
        (pg_tup rfl (pgs_cons (pg_name (i := 7) nd rfl (Or.inl rfl)) (pgs_cons (pg_name (i := 8) nd rfl (Or.inl rfl)) (pgs_cons (pg_name (i := 9) nd rfl (Or.inr rfl)) pgs_nil)))))
      (pss_cons (ps_setLc (i := 10) (own := [("_law_k", 11)]) (g := gName 11) rfl nd rfl rfl (sw_true rfl rfl rfl (by decide +kernel)) (pi_range1 (by rfl) T.b_range (pa_cons (pe_callB call_len_seq (by rfl) T.b_len bo_len (pa_cons (pv 3) pa_nil)) pa_nil)) (blkOk_by (N := sN) (sc := defScope s_law_step) (by decide +kernel))
          (fun _ _ _ _ _ => pg_name (i := 11) nd rfl (Or.inl rfl)) (fun _ _ _ _ _ => pts_one (pt_cmpR op_isN (pe_ix (ixTK (K := K) rfl) (pv 3) (pv 11) (fun _ _ => rfl)) pe_non (nomark _))) (fun _ _ _ _ _ => pv 11))
      (PSs_weak (t' := tL K) (pss_cons (ps_if (PW.pt (pw_and (pt_cmpR op_lt (pv 7) pe_int (nomark _)) (pw_and1 (pt_cmpR (op_neL0 hr.units0) (pv 10) (pe_lst pa_nil) (nomark _)))))
          (PSs_weak (t' := tLeaf K fun _ sc _ _ => freeV sc.f.lay ≠ []) (pss_cons (ps_par (i := 12) (j := 13) rfl nd rfl rfl (by decide) rfl rfl (pa_cons (pe_fn GP (hr.mono (by decide)) (by rfl) T.g_law_pick F2.kp (pa_cons (pv 0) (pa_cons (pv 10) pa_nil))) (pa_cons (pe_bmT PySem.F.slot_tuple_index PySem.F.type_tuple_index mt_tupIndex (pv 3) (pa_cons (pv 9) pa_nil)) pa_nil)) (by rfl))
            (pss_cons (ps_set (i := 14) nd rfl (Or.inl rfl) (pe_fn GX (hr.mono (by decide)) (by rfl) T.g_law_turned F3.kp (pa_cons (pv 3) (pa_cons (pv 13) (pa_cons (pv 12) pa_nil)))))
            (pss_one (ps_ret (pe_tup (pa_cons (pe_tup (pa_cons pe_str (pa_cons (pv 9) (pa_cons (pv 12) pa_nil)))) (pa_cons (pe_tup (pa_cons (pv 14) (pa_cons (pe_op op_add (pv 4) (pe_fn GB (hr.mono (by decide)) (by rfl) T.g_law_both F4.kp (pa_cons (pv 1) (pa_cons (pv 13) (pa_cons (pv 12) pa_nil))))) (pa_cons (pv 5) (pa_cons (pv 6) pa_nil))))) (pa_cons (pv 13) pa_nil)))))))) (fun D σ H hh => ?gPut)) pss_nil)
      (PSs_weak (t' := tL K) (pss_cons (ps_if (PW.pt (pw_and (pt_cmpR op_lt (pv 7) pe_int (nomark _)) (pw_and1 (pt_cmpR op_gt (pe_callB call_len_seq (by rfl) T.b_len bo_len (pa_cons (pe_ix ix_tup (pv 1) pe_int (fun _ _ => rfl)) pa_nil)) pe_int (nomark _)))))
          (PSs_weak (t' := tLeaf K fun S _ _ _ => 1 < S.crates.length) (pss_cons (ps_set (i := 15) nd rfl (Or.inl rfl) (pe_fn GP (hr.mono (by decide)) (by rfl) T.g_law_pick F2.kp (pa_cons (pv 0) (pa_cons (pe_lc (own := [("_law_one", 16)]) (g := gName 16) rfl nd (pi_tup (pe_ix ix_tup (pv 1) pe_int (fun _ _ => rfl))) (blkOk_by (N := sN) (sc := defScope s_law_step) (by decide +kernel))
                (fun _ _ _ _ _ => pg_name (i := 16) nd rfl (Or.inl rfl)) (fun _ _ _ _ _ => pts_one (pt_cmpR op_ne (pv 16) (pv 9) (nomark _))) (fun _ _ _ _ _ => pv 16)) pa_nil))))
            (pss_cons (ps_par (i := 13) (j := 17) rfl nd rfl rfl (by decide) rfl rfl (pa_cons (pe_bmT PySem.F.slot_tuple_index PySem.F.type_tuple_index mt_tupIndex (pv 3) (pa_cons (pv 9) pa_nil)) (pa_cons (pe_bmT PySem.F.slot_tuple_index PySem.F.type_tuple_index mt_tupIndex (pv 3) (pa_cons (pv 15) pa_nil)) pa_nil)) (by rfl))
            (pss_cons (ps_set (i := 14) nd rfl (Or.inl rfl) (pe_fn GX (hr.mono (by decide)) (by rfl) T.g_law_turned F3.kp (pa_cons (pv 3) (pa_cons (pv 13) (pa_cons (pv 17) pa_nil)))))
            (pss_cons (ps_setLc (i := 18) (own := [("_law_one", 16)]) (g := gName 16) rfl nd rfl rfl (sw_true rfl rfl rfl (by decide +kernel)) (pi_tup (pv 14)) (blkOk_by (N := sN) (sc := defScope s_law_step) (by decide +kernel))
                (fun _ _ _ _ _ => pg_name (i := 16) nd rfl (Or.inl rfl)) (fun _ _ _ _ _ => pts_one (pt_cmpR op_notN (pv 16) pe_non (nomark _))) (fun _ _ _ _ _ => pv 16))
            (pss_cons (ps_set (i := 19) nd rfl (Or.inl rfl) (pe_op op_add (pv 4) (pe_fn GB (hr.mono (by decide)) (by rfl) T.g_law_both F4.kp (pa_cons (pv 1) (pa_cons (pv 13) (pa_cons (pv 17) pa_nil))))))
            (pss_one (ps_ret (pe_tup (pa_cons (pe_tup (pa_cons pe_str (pa_cons (pv 9) (pa_cons (pv 15) pa_nil)))) (pa_cons (pe_tup (pa_cons (pv 14) (pa_cons (pv 19) (pa_cons (pv 5) (pa_cons (pv 6) pa_nil))))) (pa_cons (pe_cmpR (op_eqD hr.units) (pv 18) (pe_callB cr_sortedS (by rfl) T.b_sorted bo_sorted (pa_cons (pv 18) pa_nil)) (nomark _)) pa_nil))))))))))) (fun D σ H hh => ?gExch)) pss_nil)
      (PSs_weak (t' := tL K) (pss_cons (ps_if (pt_cmpR op_eq (pv 7) pe_int (nomark _))
          (PSs_weak (t' := tL K) (pss_one (ps_ret (pe_tup (pa_cons (pe_tup (pa_cons pe_str pa_nil)) (pa_cons (pe_tup (pa_cons (pv 3) (pa_cons pe_int (pa_cons (pe_op op_cat (pv 5) (pe_lst (pa_cons (pv 4) pa_nil))) (pa_cons (pv 6) pa_nil))))) (pa_cons (pv 4) pa_nil)))))) (fun D σ H hh => ?gShut)) pss_nil)
      (PSs_weak (t' := tL K) (pss_cons (ps_if (PW.pt (pw_and (pt_cmpR op_eq (pv 7) pe_int (nomark _)) (pw_and1 (pt_cmp (pc_din u1 (pv 8) (pv 6))))))
          (PSs_weak (t' := tLeaf K fun _ sc word _ => (lookF sc.kept word).isSome = true) (pss_one (ps_ret (pe_tup (pa_cons (pe_tup (pa_cons pe_str (pa_cons (pv 8) pa_nil))) (pa_cons (pe_op op_catT (pe_dget u1 (pv 6) (pv 8) (fun _ _ => rfl)) (pe_tup (pa_cons (pv 6) pa_nil))) (pa_cons (pe_ix ix_tup (pe_dget u1 (pv 6) (pv 8) (fun _ _ => rfl)) pe_int (fun _ _ => rfl)) pa_nil)))))) (fun D σ H hh => ?gFetch)) pss_nil)
      (PSs_weak (t' := tL K) (pss_cons (ps_if (pt_cmpR op_gt (pv 7) pe_int (nomark _))
          (PSs_weak (t' := tL K) (pss_cons (ps_set (i := 19) nd rfl (Or.inl rfl) (pe_callTy call_dictD (by rfl) T.b_dict bo_dict (pa_cons (pv 6) pa_nil)))
            (pss_cons (ps_dput u1 (pv 19) (pv 8) (pe_slice sl_tupA (pv 2) po_none (po_some pe_int)) rfl)
            (pss_one (ps_ret (pe_tup (pa_cons (pe_tup (pa_cons pe_str (pa_cons (pv 8) pa_nil))) (pa_cons (pe_op op_catT (pe_slice sl_tupA (pv 2) po_none (po_some pe_int)) (pe_tup (pa_cons (pv 19) pa_nil))) (pa_cons (pe_cmp (pc_din u1 (pv 8) (pv 6))) pa_nil)))))))) (fun D σ H hh => ?gKeep)) pss_nil)
      (PSs_weak (t' := tL K) (pss_cons (ps_set (i := 20) nd rfl (Or.inl rfl) (pe_fn GT (hr.mono (by decide)) (by rfl) T.g_law_taken F1.kp (pa_cons (pv 0) (pa_cons (pe_callB call_len_seq (by rfl) T.b_len bo_len (pa_cons (pe_ix ix_tup (pv 1) pe_int (fun _ _ => rfl)) pa_nil)) pa_nil))))
        (pss_one (ps_ret (pe_tup (pa_cons (pe_tup (pa_cons pe_str (pa_cons (pv 20) pa_nil))) (pa_cons (pe_tup (pa_cons (pv 3) (pa_cons (pe_op op_add (pv 4) (pe_ix ix_tup (pe_ix ix_tup (pe_ix ix_tup (pv 1) pe_int (fun _ _ => rfl)) (pv 20) (fun _ _ => rfl)) pe_int (fun _ _ => rfl))) (pa_cons (pv 5) (pa_cons (pv 6) pa_nil))))) (pa_cons (pe_fn GS (hr.mono (by decide)) (by rfl) T.g_law_seen F5.kp (pa_cons (pv 1) (pa_cons (pv 3) (pa_cons (pv 20) pa_nil)))) pa_nil))))))) (fun D σ H hh => ?gLook)))
      (fun D σ H hh => ?gR5)))
      (fun D σ H hh => ?gR4)))
      (fun D σ H hh => ?gR3)))
      (fun D σ H hh => ?gR2)))
      (fun D σ H hh => ?gR1)))), ?main⟩
    case gR1 =>
      clear row hS g hsc gd n9 k
      obtain ⟨r, ra, ps, p, pl, pd, pk, fl, S, n, kind, sc, word, name, rfl, row, hS, g, hp, hpl, hpd, ⟨pk2, kvs, epk, hpk, hkv⟩, gd, n9, hname, hword, ⟨hfl, nfr⟩, hx, k⟩ := id hh
      cases epk
      have glen := gd.f.lay.len
      have six := gd.f.lay.six g
      obtain ⟨pd0, pc, hp1, ⟨des, hde, hdp⟩, hp3⟩ := id hS
      have hlen := Paired.length hdp
      refine ⟨_, rfl, (kind : Nat), 3, rfl, rfl, _, rfl, ite_b (fun h1 => ⟨_, rfl, Nat.zero_le _, fun q hq => ⟨fl, q, _, rfl, rfl, SqL.of (Same_new hq _ _ hfl), SqL.of upd_same, _, rfl, ite_b (fun h2 => ?_) (fun h2 => hh.same (Same_new hq))⟩⟩) (fun h1 => iteF hh)⟩
      have hne : freeV sc.f.lay ≠ [] := fun z => by rw [z] at h2; cases h2
      have lf : tLeaf K (fun _ sc _ _ => freeV sc.f.lay ≠ []) D _ H := ⟨r, ra, ps, p, pl, pd, pk, fl, S, n, kind, sc, word, name, rfl, row, hS, g, hp, hpl, hpd, ⟨pk, kvs, rfl, hpk, hkv⟩, gd, n9, hname, hword, ⟨hfl, nfr⟩, hne, k⟩
      exact lf.same (Same_new hq)
    case gR2 =>
      clear row hS g hsc gd n9 k
      obtain ⟨r, ra, ps, p, pl, pd, pk, fl, S, n, kind, sc, word, name, rfl, row, hS, g, hp, hpl, hpd, ⟨pk2, kvs, epk, hpk, hkv⟩, gd, n9, hname, hword, ⟨hfl, nfr⟩, hx, k⟩ := id hh
      cases epk
      have glen := gd.f.lay.len
      have six := gd.f.lay.six g
      obtain ⟨pd0, pc, hp1, ⟨des, hde, hdp⟩, hp3⟩ := id hS
      have hlen := Paired.length hdp
      refine ⟨_, rfl, (kind : Nat), 5, rfl, rfl, _, rfl, ite_b (fun h1 => ⟨_, rfl, ps, _, 1, .ref pc, rfl, rfl, SqT.of hp1, rfl, pc, _, rfl, .inr (SqT.of hp3), (S.crates.map V.str).length, 1, rfl, rfl, _, rfl, ite_b (fun h2 => ?_) (fun h2 => hh)⟩) (fun h1 => iteF hh)⟩
      have hne : 1 < S.crates.length := by
        rw [decide_eq_true_eq, List.length_map] at h2
        omega
      exact ⟨r, ra, ps, p, pl, pd, pk, fl, S, n, kind, sc, word, name, rfl, row, hS, g, hp, hpl, hpd, ⟨pk, kvs, rfl, hpk, hkv⟩, gd, n9, hname, hword, ⟨hfl, nfr⟩, hne, k⟩
    case gR3 =>
      clear row hS g hsc gd n9 k
      obtain ⟨r, ra, ps, p, pl, pd, pk, fl, S, n, kind, sc, word, name, rfl, row, hS, g, hp, hpl, hpd, ⟨pk2, kvs, epk, hpk, hkv⟩, gd, n9, hname, hword, ⟨hfl, nfr⟩, hx, k⟩ := id hh
      cases epk
      have glen := gd.f.lay.len
      have six := gd.f.lay.six g
      obtain ⟨pd0, pc, hp1, ⟨des, hde, hdp⟩, hp3⟩ := id hS
      have hlen := Paired.length hdp
      exact ⟨_, rfl, rfl, _, rfl, ite_b (fun _ => hh) (fun _ => hh)⟩
    case gR4 =>
      clear row hS g hsc gd n9 k
      obtain ⟨r, ra, ps, p, pl, pd, pk, fl, S, n, kind, sc, word, name, rfl, row, hS, g, hp, hpl, hpd, ⟨pk2, kvs, epk, hpk, hkv⟩, gd, n9, hname, hword, ⟨hfl, nfr⟩, hx, k⟩ := id hh
      cases epk
      have glen := gd.f.lay.len
      have six := gd.f.lay.six g
      obtain ⟨pd0, pc, hp1, ⟨des, hde, hdp⟩, hp3⟩ := id hS
      have hlen := Paired.length hdp
      refine ⟨_, rfl, rfl, _, rfl, ite_b (fun h1 => ⟨_, rfl, _, rfl, pk, valV kvs (Sum.inr word), rfl, DGet.k (k := Sum.inr word) hpk, _, rfl, ite_b (fun h2 => ?_) (fun h2 => hh)⟩) (fun h1 => iteF hh)⟩
      have hne : (lookF sc.kept word).isSome = true := by
        rcases hkv.look (n := word) with ⟨y1, y2⟩ | ⟨v, f, y1, y2, _⟩
        · rw [y1] at h2
          cases h2
        · rw [y2]
          rfl
      exact ⟨r, ra, ps, p, pl, pd, pk, fl, S, n, kind, sc, word, name, rfl, row, hS, g, hp, hpl, hpd, ⟨pk, kvs, rfl, hpk, hkv⟩, gd, n9, hname, hword, ⟨hfl, nfr⟩, hne, k⟩
    case gR5 =>
      clear row hS g hsc gd n9 k
      obtain ⟨r, ra, ps, p, pl, pd, pk, fl, S, n, kind, sc, word, name, rfl, row, hS, g, hp, hpl, hpd, ⟨pk2, kvs, epk, hpk, hkv⟩, gd, n9, hname, hword, ⟨hfl, nfr⟩, hx, k⟩ := id hh
      cases epk
      have glen := gd.f.lay.len
      have six := gd.f.lay.six g
      obtain ⟨pd0, pc, hp1, ⟨des, hde, hdp⟩, hp3⟩ := id hS
      have hlen := Paired.length hdp
      exact ⟨_, rfl, (kind : Nat), 6, rfl, rfl, _, rfl, ite_b (fun _ => hh) (fun _ => hh)⟩
    case gPut =>
      clear row hS g hsc gd n9 k
      obtain ⟨r, ra, ps, p, pl, pd, pk, fl, S, n, kind, sc, word, name, rfl, row, hS, g, hp, hpl, hpd, ⟨pk2, kvs, epk, hpk, hkv⟩, gd, n9, hname, hword, ⟨hfl, nfr⟩, hx, k⟩ := id hh
      cases epk
      have glen := gd.f.lay.len
      have six := gd.f.lay.six g
      obtain ⟨pd0, pc, hp1, ⟨des, hde, hdp⟩, hp3⟩ := id hS
      have hlen := Paired.length hdp
      obtain ⟨hi, hiv, hin⟩ := gd.f.lay.at_ hname
      refine ⟨_, rfl, _, rfl, r, ra, fl, _, rfl, row, .inl ⟨hfl, nfr⟩, ⟨List.length_pos_iff.mpr hx, Nat.lt_of_le_of_lt (resL_len _ _) (by omega)⟩, fun H1 i v kb1 row1 hv => ?_⟩
      obtain ⟨d, rfl, hd⟩ := freeV_mem (List.mem_of_getElem? hv)
      have hd2 := (List.getElem?_eq_some_iff.mp hd).1
      have ki1 := kb1.kim row.notIm
      have hpl1 := hpl.keep ki1
      refine ⟨_, rfl, pl, _, rfl, hpl1, _, rfl, pl, _, name, place sc.f.lay name, rfl, rfl, hpl1.sq, flat_lay _, hiv, hin, _, _, rfl, ?_⟩
      refine ⟨_, rfl, _, rfl, _, rfl, pl, sc.f.lay, place sc.f.lay name, d, rfl, hpl1, hi, hd2, by omega, fun q H2 s2 hq => ?_⟩
      refine ⟨_, rfl, _, rfl, (by show 3 ≤ sizeLine; decide), fun t1 ht1 => ?_⟩
      have s3 : Same H2 (upd H2 t1 (.tup [.str "put", .str name, .int (d : Nat)])) := Same_new ht1
      have e1 : (upd H2 t1 (.tup [.str "put", .str name, .int (d : Nat)])) t1 = some (.tup [.str "put", .str name, .int (d : Nat)]) := upd_same
      generalize upd H2 t1 (.tup [.str "put", .str name, .int (d : Nat)]) = H3 at s3 e1 ⊢
      have s13 := Same_trans s2 s3
      refine ⟨_, rfl, _, rfl, _, rfl, _, rfl, _, rfl, ps, S, place sc.f.lay name, d, rfl, (hS.keep ki1).keep (Same_kim s13), ⟨g.d4, g.tot⟩, by omega, by omega, fun H4 s4 => ⟨sc.f.warm, both S (place sc.f.lay name) d, rfl, rfl, _, rfl, _, rfl, (by show 4 ≤ sizeLine; decide), fun t2 ht2 => ⟨_, rfl, (by show 3 ≤ sizeLine; decide), fun t3 ht3 => ?_⟩⟩⟩
      have s5 : Same H4 (upd H4 t2 (.tup [.ref q, .int (sc.f.warm + both S (place sc.f.lay name) d), .ref pd, .ref pk])) := Same_new ht2
      have e2 : (upd H4 t2 (.tup [.ref q, .int (sc.f.warm + both S (place sc.f.lay name) d), .ref pd, .ref pk])) t2 = some (.tup [.ref q, .int (sc.f.warm + both S (place sc.f.lay name) d), .ref pd, .ref pk]) := upd_same
      generalize upd H4 t2 (.tup [.ref q, .int (sc.f.warm + both S (place sc.f.lay name) d), .ref pd, .ref pk]) = H5 at s5 e2 ht3 ⊢
      have s6 := Same_new (o := .tup [.ref t1, .ref t2, .int (place sc.f.lay name : Nat)]) ht3
      have sA := Same_trans s13 (Same_trans s4 (Same_trans s5 s6))
      have kiA := ki1.trans (Same_kim sA)
      exact k _ t3 _ _ _ (.put name d) (kb1.trans (Same_kbut sA)) (row1.same sA) upd_same ⟨t1, rfl, s6 _ _ (s5 _ _ (s4 _ _ e1))⟩ ⟨t2, q, pd, pk, rfl, s6 _ _ e2, (((hq.same s3).same s4).same s5).same s6, kiA _ _ hpd (im_ints _), KeptL.keep kiA ⟨pk, kvs, rfl, hpk, hkv⟩⟩ (.int _) ⟨hname, hd⟩
    case gExch =>
      clear row hS g hsc gd n9 k
      obtain ⟨r, ra, ps, p, pl, pd, pk, fl, S, n, kind, sc, word, name, rfl, row, hS, g, hp, hpl, hpd, ⟨pk2, kvs, epk, hpk, hkv⟩, gd, n9, hname, hword, ⟨hfl, nfr⟩, hx, k⟩ := id hh
      cases epk
      have glen := gd.f.lay.len
      have six := gd.f.lay.six g
      obtain ⟨pd0, pc, hp1, ⟨des, hde, hdp⟩, hp3⟩ := id hS
      have hlen := Paired.length hdp
      refine ⟨_, rfl, _, rfl, ps, _, 1, .ref pc, rfl, rfl, SqT.of hp1, rfl, pc, rfl, ⟨_, SqT.of hp3⟩, fun D2 hD => lc_pv (walk_tup (xs := S.crates.map V.str)) (fun i => S.crates[i]?.bind fun z => if z = name then none else some (.str z)) hD (fun H1 sm => SqT.of (sm _ _ hp3)) ?_ ?_⟩
      · rintro i v H1' H1 hi pv ⟨rfl, hv⟩
        obtain ⟨z, hz, rfl⟩ := map_at hv
        rw [List.length_map] at hi
        have c5 := g.c5
        refine ⟨rfl, ?_⟩
        refine ⟨_, rfl, _, rfl, rfl, _, rfl, ?_⟩
        by_cases hzn : z = name
        · rw [decide_eq_true (by rw [hzn])]
          exact iteF (pvL_skip pv (Same.refl _) (by rw [bind_at hz, if_pos hzn]))
        · rw [decide_eq_false (fun e => hzn (V.str.inj e))]
          exact iteT ⟨_, rfl, pvL_put hD pv (Same.refl _) (by rw [bind_at hz, if_neg hzn]) (by omega)⟩
      · intro H1 ⟨s1, hD1⟩
        rw [List.length_map, resL_all] at hD1
        have c5 := g.c5
        obtain ⟨xr, hxr⟩ := row.isLst
        have nDr : D2 ≠ r := (ne_of_none hxr hD).symm
        have l1 : 1 ≤ (S.crates.filterMap fun z => if z = name then none else some (V.str z)).length := by
          by_cases e : ∃ z ∈ S.crates, z ≠ name
          · obtain ⟨z, hz, hzn⟩ := e
            exact List.length_pos_of_mem (List.mem_filterMap.mpr ⟨z, hz, if_neg hzn⟩)
          · have := nodup_le g.nodup (m := [name]) fun z hz => List.mem_singleton.mpr (Decidable.byContradiction fun c => e ⟨z, hz, c⟩)
            rw [List.length_singleton] at this
            omega
        have l2 : (S.crates.filterMap fun z => if z = name then none else some (V.str z)).length ≤ S.crates.length := List.length_filterMap_le _ _
        have row1 := row.same s1
        refine ⟨r, ra, D2, _, rfl, row1, .inl ⟨hD1, nDr⟩, ⟨l1, by omega⟩, fun H2 i v kb2 row2 hv => ?_⟩
        obtain ⟨other, hoc, hov⟩ := List.mem_filterMap.mp (List.mem_of_getElem? hv)
        obtain ⟨hon, rfl⟩ : other ≠ name ∧ v = .str other := by
          split at hov
          · cases hov
          · rename_i c
            exact ⟨c, (Option.some.inj hov).symm⟩
        have kb12 : KBut r H H2 := (Same_kbut s1).trans kb2
        have ki2 := kb12.kim row.notIm
        have hpl2 := hpl.keep ki2
        obtain ⟨hi, hiv, hin⟩ := gd.f.lay.at_ hname
        obtain ⟨hj, hjv, hjn⟩ := gd.f.lay.at_ hoc
        refine ⟨_, rfl, pl, _, rfl, hpl2, _, rfl, pl, _, name, place sc.f.lay name, rfl, rfl, hpl2.sq, flat_lay _, hiv, hin, _, rfl, pl, _, rfl, hpl2, _, rfl, pl, _, other, place sc.f.lay other, rfl, rfl, hpl2.sq, flat_lay _, hjv, hjn, _, _, rfl, ?_⟩
        refine ⟨_, rfl, _, rfl, _, rfl, pl, sc.f.lay, place sc.f.lay name, place sc.f.lay other, rfl, hpl2, hi, hj, by omega, fun q H3 s3 hq => ?_⟩
        have gs := gd.f.lay.swap hi hj
        refine ⟨_, rfl, q, rfl, ⟨_, hq.sq⟩, fun D3 hD3 => lc_pv (walk_tup (xs := layV (swap sc.f.lay (place sc.f.lay name) (place sc.f.lay other)))) (fun i => (swap sc.f.lay (place sc.f.lay name) (place sc.f.lay other))[i]?.bind fun o => o.map V.str) hD3 (fun H4 s4 => (hq.same s4).sq) ?_ ?_⟩
        · rintro i v H4' H4 hi4 pv ⟨rfl, hv4⟩
          obtain ⟨o, ho, rfl⟩ := lay_at hv4
          rw [layV_len, swap_len] at hi4
          refine ⟨rfl, ?_⟩
          cases o with
          | none => exact ⟨_, rfl, rfl, false, rfl, iteF (pvL_skip pv (Same.refl _) (bind_at ho))⟩
          | some z => exact ⟨_, rfl, rfl, true, rfl, iteT ⟨_, rfl, pvL_put hD3 pv (Same.refl _) (bind_at ho) (by omega)⟩⟩
        · intro H4 ⟨s4, hD4⟩
          rw [layV_len, resL_all, names_V] at hD4
          have s34 := Same_trans s3 s4
          have nl := names_len (swap sc.f.lay (place sc.f.lay name) (place sc.f.lay other))
          rw [swap_len] at nl
          refine ⟨_, rfl, _, rfl, _, rfl, _, rfl, ps, S, place sc.f.lay name, place sc.f.lay other, rfl, (hS.keep ki2).keep (Same_kim s34), ⟨g.d4, g.tot⟩, by omega, by omega, fun H5 s5 => ⟨sc.f.warm, both S (place sc.f.lay name) (place sc.f.lay other), rfl, rfl, ?_⟩⟩
          refine ⟨_, rfl, _, rfl, (by show 3 ≤ sizeLine; decide), fun t1 ht1 => ?_⟩
          have s6 : Same H5 (upd H5 t1 (.tup [.str "exchange", .str name, .str other])) := Same_new ht1
          have e1 : (upd H5 t1 (.tup [.str "exchange", .str name, .str other])) t1 = some (.tup [.str "exchange", .str name, .str other]) := upd_same
          generalize upd H5 t1 (.tup [.str "exchange", .str name, .str other]) = H6 at s6 e1 ⊢
          refine ⟨_, rfl, _, rfl, _, rfl, _, rfl, (by show 4 ≤ sizeLine; decide), fun t2 ht2 => ?_⟩
          have s7 : Same H6 (upd H6 t2 (.tup [.ref q, .int (sc.f.warm + both S (place sc.f.lay name) (place sc.f.lay other)), .ref pd, .ref pk])) := Same_new ht2
          have e2 : (upd H6 t2 (.tup [.ref q, .int (sc.f.warm + both S (place sc.f.lay name) (place sc.f.lay other)), .ref pd, .ref pk])) t2 = some (.tup [.ref q, .int (sc.f.warm + both S (place sc.f.lay name) (place sc.f.lay other)), .ref pd, .ref pk]) := upd_same
          generalize upd H6 t2 (.tup [.ref q, .int (sc.f.warm + both S (place sc.f.lay name) (place sc.f.lay other)), .ref pd, .ref pk]) = H7 at s7 e2 ⊢
          have s57 := Same_trans s5 (Same_trans s6 s7)
          have hD7 := s57 _ _ hD4
          refine ⟨_, rfl, _, rfl, D3, _, rfl, SqL.of hD7, by omega, fun ys q2 perm srt hq2 => ?_⟩
          have s8 := Same_new (o := .lst (ys.map V.str)) hq2
          have hw := gs.words g
          refine ⟨.list ((names (swap sc.f.lay (place sc.f.lay name) (place sc.f.lay other))).map PyData.str), .list (ys.map PyData.str), .lst (SqL.of (s8 _ _ hD7)) (dp_strs _), .lst (SqL.of upd_same) (dp_strs _), (shp_strL hw).ok (by decide), (shp_strL fun z hz => hw z (perm.mem_iff.mp hz)).ok (by decide), ?_⟩
          rw [eqv_strL, sorted_eq perm srt]
          refine ⟨(by show 3 ≤ sizeLine; decide), fun t3 ht3 => ?_⟩
          have s9 := Same_new (o := .tup [.ref t1, .ref t2, .bl (sortedS (names (swap sc.f.lay (place sc.f.lay name) (place sc.f.lay other))))]) ht3
          have s79 := Same_trans s8 s9
          have sA := Same_trans s34 (Same_trans s57 s79)
          have kiA := ki2.trans (Same_kim sA)
          exact k _ t3 _ _ _ (.exch name other) (kb12.trans (Same_kbut sA)) (row2.same sA) upd_same ⟨t1, rfl, s79 _ _ (s7 _ _ e1)⟩ ⟨t2, q, pd, pk, rfl, s79 _ _ e2, (hq.same s4).same (Same_trans s57 s79), kiA _ _ hpd (im_ints _), KeptL.keep kiA ⟨pk, kvs, rfl, hpk, hkv⟩⟩ (.bl _) ⟨hname, hoc, fun e => hon e.symm⟩
    case gShut =>
      clear row hS g hsc gd n9 k
      obtain ⟨r, ra, ps, p, pl, pd, pk, fl, S, n, kind, sc, word, name, rfl, row, hS, g, hp, hpl, hpd, ⟨pk2, kvs, epk, hpk, hkv⟩, gd, n9, hname, hword, ⟨hfl, nfr⟩, hx, k⟩ := id hh
      cases epk
      have glen := gd.f.lay.len
      have six := gd.f.lay.six g
      obtain ⟨pd0, pc, hp1, ⟨des, hde, hdp⟩, hp3⟩ := id hS
      have hlen := Paired.length hdp
      have dl := gd.f.days
      refine ⟨(by show 1 ≤ sizeLine; decide), fun t1 ht1 => ?_⟩
      have s1 : Same H (upd H t1 (.tup [.str "shut"])) := Same_new ht1
      have e1 : (upd H t1 (.tup [.str "shut"])) t1 = some (.tup [.str "shut"]) := upd_same
      generalize upd H t1 (.tup [.str "shut"]) = H1 at s1 e1 ⊢
      refine ⟨_, rfl, _, rfl, _, rfl, (by show 1 ≤ sizeLine; decide), fun l1 hl1 => ?_⟩
      have s2 : Same H1 (upd H1 l1 (.lst [.int sc.f.warm])) := Same_new hl1
      have z2 : (upd H1 l1 (.lst [.int sc.f.warm])) l1 = some (.lst [.int sc.f.warm]) := upd_same
      generalize upd H1 l1 (.lst [.int sc.f.warm]) = H2 at s2 z2 ⊢
      refine ⟨pd, l1, _, _, rfl, rfl, s2 _ _ (s1 _ _ hpd), z2, ?_, fun l2 hl2 => ?_⟩
      · rw [List.length_map, List.length_singleton]
        exact Nat.le_trans (show _ ≤ 1000 by omega) (by decide)
      have s3 : Same H2 (upd H2 l2 (.lst (sc.f.days.map V.int ++ [.int sc.f.warm]))) := Same_new hl2
      have z3 : (upd H2 l2 (.lst (sc.f.days.map V.int ++ [.int sc.f.warm]))) l2 = some (.lst ((sc.f.days ++ [sc.f.warm]).map V.int)) := by rw [upd_same, List.map_append]; rfl
      generalize upd H2 l2 (.lst (sc.f.days.map V.int ++ [.int sc.f.warm])) = H3 at s3 z3 ⊢
      refine ⟨_, rfl, (by show 4 ≤ sizeLine; decide), fun t2 ht2 => ?_⟩
      have s4 : Same H3 (upd H3 t2 (.tup [.ref pl, .int 0, .ref l2, .ref pk])) := Same_new ht2
      have e4 : (upd H3 t2 (.tup [.ref pl, .int 0, .ref l2, .ref pk])) t2 = some (.tup [.ref pl, .int 0, .ref l2, .ref pk]) := upd_same
      generalize upd H3 t2 (.tup [.ref pl, .int 0, .ref l2, .ref pk]) = H4 at s4 e4 ⊢
      refine ⟨_, rfl, (by show 3 ≤ sizeLine; decide), fun t3 ht3 => ?_⟩
      have s5 := Same_new (o := .tup [.ref t1, .ref t2, .int sc.f.warm]) ht3
      have sA := Same_trans s1 (Same_trans s2 (Same_trans s3 (Same_trans s4 s5)))
      exact k _ t3 _ _ _ .shut (Same_kbut sA) (row.same sA) upd_same ⟨t1, rfl, s5 _ _ (s4 _ _ (s3 _ _ (s2 _ _ e1)))⟩ ⟨t2, pl, l2, pk, rfl, s5 _ _ e4, hpl.same sA, s5 _ _ (s4 _ _ z3), KeptL.keep (Same_kim sA) ⟨pk, kvs, rfl, hpk, hkv⟩⟩ (.int _) trivial
    case gFetch =>
      clear row hS g hsc gd n9 k
      obtain ⟨r, ra, ps, p, pl, pd, pk, fl, S, n, kind, sc, word, name, rfl, row, hS, g, hp, hpl, hpd, ⟨pk2, kvs, epk, hpk, hkv⟩, gd, n9, hname, hword, ⟨hfl, nfr⟩, hx, k⟩ := id hh
      cases epk
      have glen := gd.f.lay.len
      have six := gd.f.lay.six g
      obtain ⟨pd0, pc, hp1, ⟨des, hde, hdp⟩, hp3⟩ := id hS
      have hlen := Paired.length hdp
      obtain ⟨vf, f, hv, hlk, ⟨pf, plf, pdf, rfl, hf1, hf2, hf3⟩⟩ : ∃ v f, valV kvs (Sum.inr word) = some v ∧ lookF sc.kept word = some f ∧ FctL H v f := by
        rcases hkv.look (n := word) with ⟨y1, y2⟩ | y
        · rw [y2] at hx
          cases hx
        · exact y
      have hdg : ∀ {H' : Hp}, Same H H' → DGet H' pk (.str word) (some (.ref pf)) := fun s => by rw [← hv]; exact DGet.k (k := Sum.inr word) (s _ _ hpk)
      refine ⟨_, rfl, (by show 2 ≤ sizeLine; decide), fun t1 ht1 => ?_⟩
      have s1 : Same H (upd H t1 (.tup [.str "fetch", .str word])) := Same_new ht1
      have e1 : (upd H t1 (.tup [.str "fetch", .str word])) t1 = some (.tup [.str "fetch", .str word]) := upd_same
      generalize upd H t1 (.tup [.str "fetch", .str word]) = H1 at s1 e1 ⊢
      refine ⟨_, rfl, _, rfl, pk, .ref pf, rfl, hdg s1, _, rfl, (by show 1 ≤ sizeLine; decide), fun t2 ht2 => ?_⟩
      have s2 : Same H1 (upd H1 t2 (.tup [.ref pk])) := Same_new ht2
      have e2 : (upd H1 t2 (.tup [.ref pk])) t2 = some (.tup [.ref pk]) := upd_same
      generalize upd H1 t2 (.tup [.ref pk]) = H2 at s2 e2 ⊢
      have s12 := Same_trans s1 s2
      refine ⟨pf, t2, _, _, rfl, rfl, SqT.of (s12 _ _ hf1), SqT.of e2, by simp, (by show 3 + 1 ≤ sizeLine; decide), fun z => (by cases z), fun _ t3 ht3 => ?_⟩
      have s3 : Same H2 (upd H2 t3 (.tup ([.ref plf, .int f.warm, .ref pdf] ++ [.ref pk]))) := Same_new ht3
      have e3 : (upd H2 t3 (.tup ([.ref plf, .int f.warm, .ref pdf] ++ [.ref pk]))) t3 = some (.tup [.ref plf, .int f.warm, .ref pdf, .ref pk]) := upd_same
      generalize upd H2 t3 (.tup ([V.ref plf, .int f.warm, .ref pdf] ++ [.ref pk])) = H3 at s3 e3 ⊢
      have s13 := Same_trans s12 s3
      refine ⟨_, rfl, _, rfl, pk, .ref pf, rfl, hdg s13, pf, _, 0, .ref plf, rfl, rfl, SqT.of (s13 _ _ hf1), rfl, (by show 3 ≤ sizeLine; decide), fun t4 ht4 => ?_⟩
      have s4 := Same_new (o := .tup [.ref t1, .ref t3, .ref plf]) ht4
      have sA := Same_trans s13 s4
      have es : stepS S sc (.fetch word) = ⟨f, sc.kept⟩ := by show Scn.mk ((lookF sc.kept word).getD sc.f) sc.kept = _; rw [hlk]; rfl
      have er : resD S sc (.fetch word) = .tuple (f.lay.map dO) := by show PyData.tuple ((((lookF sc.kept word).getD sc.f)).lay.map dO) = _; rw [hlk]; rfl
      exact k _ t4 _ _ _ (.fetch word) (Same_kbut sA) (row.same sA) upd_same ⟨t1, rfl, s4 _ _ (s3 _ _ (s2 _ _ e1))⟩ (by rw [es]; exact ⟨t3, plf, pdf, pk, rfl, s4 _ _ e3, hf2.same sA, sA _ _ hf3, KeptL.keep (Same_kim sA) ⟨pk, kvs, rfl, hpk, hkv⟩⟩) (by rw [er]; exact .tup ((hf2.same sA).sq) (dp_lay _)) hx
    case gKeep =>
      clear row hS g hsc gd n9 k
      obtain ⟨r, ra, ps, p, pl, pd, pk, fl, S, n, kind, sc, word, name, rfl, row, hS, g, hp, hpl, hpd, ⟨pk2, kvs, epk, hpk, hkv⟩, gd, n9, hname, hword, ⟨hfl, nfr⟩, hx, k⟩ := id hh
      cases epk
      have glen := gd.f.lay.len
      have six := gd.f.lay.six g
      obtain ⟨pd0, pc, hp1, ⟨des, hde, hdp⟩, hp3⟩ := id hS
      have hlen := Paired.length hdp
      have few := gd.few
      have kl := hkv.len
      have cn : ¬ (HT.sIx [V.ref pl, .int sc.f.warm, .ref pd, .ref pk].length 0 none = 0 ∧ HT.sIx [V.ref pl, .int sc.f.warm, .ref pd, .ref pk].length [V.ref pl, .int sc.f.warm, .ref pd, .ref pk].length (some 3) = [V.ref pl, .int sc.f.warm, .ref pd, .ref pk].length) := fun z => by
        have z2 : (3 : Nat) = 4 := z.2
        omega
      have ce : cutV [V.ref pl, .int sc.f.warm, .ref pd, .ref pk] none (some 3) = [V.ref pl, .int sc.f.warm, .ref pd] := rfl
      refine ⟨_, rfl, pk, kvs, rfl, .inl hpk, fun m hm => ?_⟩
      have s1 : Same H (upd H m (.dK kvs)) := Same_new hm
      have m1 : (upd H m (.dK kvs)) m = some (.dK kvs) := upd_same
      generalize upd H m (.dK kvs) = H1 at s1 m1 ⊢
      refine ⟨_, rfl, 3, rfl, p, _, rfl, SqT.of (s1 _ _ hp), fun hw => absurd hw cn, fun _ q hq => ?_⟩
      rw [ce]
      have s2 : Same H1 (upd H1 q (.tup [.ref pl, .int sc.f.warm, .ref pd])) := Same_new hq
      have q2 : (upd H1 q (.tup [.ref pl, .int sc.f.warm, .ref pd])) q = some (.tup [.ref pl, .int sc.f.warm, .ref pd]) := upd_same
      generalize upd H1 q (.tup [V.ref pl, .int sc.f.warm, .ref pd]) = H2 at s2 q2 ⊢
      have s12 := Same_trans s1 s2
      have m2 := s2 _ _ m1
      refine ⟨_, rfl, _, rfl, m, _, rfl, DPut.k (k := Sum.inr word) m2 (Nat.lt_of_lt_of_le (show kvs.length < 1000 by omega) (by decide)), ?_⟩
      have s3 : Same H (upd H2 m (.dK (putK kvs (Sum.inr word) (.ref q)))) := Same_upd s12 hm
      have m3 : (upd H2 m (.dK (putK kvs (Sum.inr word) (.ref q)))) m = some (.dK (putK kvs (Sum.inr word) (.ref q))) := upd_same
      have nqm : q ≠ m := (ne_of_none m1 hq).symm
      have q3 : (upd H2 m (.dK (putK kvs (Sum.inr word) (.ref q)))) q = some (.tup [.ref pl, .int sc.f.warm, .ref pd]) := by rw [upd_ne nqm]; exact q2
      generalize upd H2 m (.dK (putK kvs (Sum.inr word) (.ref q))) = H3 at s3 m3 q3 ⊢
      refine ⟨_, rfl, (by show 2 ≤ sizeLine; decide), fun t1 ht1 => ?_⟩
      have s4 : Same H3 (upd H3 t1 (.tup [.str "keep_as", .str word])) := Same_new ht1
      have e4 : (upd H3 t1 (.tup [.str "keep_as", .str word])) t1 = some (.tup [.str "keep_as", .str word]) := upd_same
      generalize upd H3 t1 (.tup [.str "keep_as", .str word]) = H4 at s4 e4 ⊢
      have s04 := Same_trans s3 s4
      refine ⟨_, rfl, 3, rfl, p, _, rfl, SqT.of (s04 _ _ hp), fun hw => absurd hw cn, fun _ q2 hq2 => ?_⟩
      rw [ce]
      have s5 : Same H4 (upd H4 q2 (.tup [.ref pl, .int sc.f.warm, .ref pd])) := Same_new hq2
      have e5 : (upd H4 q2 (.tup [.ref pl, .int sc.f.warm, .ref pd])) q2 = some (.tup [.ref pl, .int sc.f.warm, .ref pd]) := upd_same
      generalize upd H4 q2 (.tup [V.ref pl, .int sc.f.warm, .ref pd]) = H5 at s5 e5 ⊢
      refine ⟨_, rfl, (by show 1 ≤ sizeLine; decide), fun t2 ht2 => ?_⟩
      have s6 : Same H5 (upd H5 t2 (.tup [.ref m])) := Same_new ht2
      have e6 : (upd H5 t2 (.tup [.ref m])) t2 = some (.tup [.ref m]) := upd_same
      generalize upd H5 t2 (.tup [.ref m]) = H6 at s6 e6 ⊢
      refine ⟨q2, t2, _, _, rfl, rfl, SqT.of (s6 _ _ e5), SqT.of e6, by simp, (by show 3 + 1 ≤ sizeLine; decide), fun z => (by cases z), fun _ t3 ht3 => ?_⟩
      have s7 : Same H6 (upd H6 t3 (.tup ([.ref pl, .int sc.f.warm, .ref pd] ++ [.ref m]))) := Same_new ht3
      have e7 : (upd H6 t3 (.tup ([.ref pl, .int sc.f.warm, .ref pd] ++ [.ref m]))) t3 = some (.tup [.ref pl, .int sc.f.warm, .ref pd, .ref m]) := upd_same
      generalize upd H6 t3 (.tup ([V.ref pl, .int sc.f.warm, .ref pd] ++ [.ref m])) = H7 at s7 e7 ⊢
      have s37 := Same_trans s4 (Same_trans s5 (Same_trans s6 s7))
      have s07 := Same_trans s3 s37
      refine ⟨_, rfl, _, rfl, pk, valV kvs (Sum.inr word), rfl, DGet.k (k := Sum.inr word) (s07 _ _ hpk), (by show 3 ≤ sizeLine; decide), fun t4 ht4 => ?_⟩
      have s8 := Same_new (o := .tup [.ref t1, .ref t3, .bl (valV kvs (Sum.inr word)).isSome]) ht4
      have s38 := Same_trans s37 s8
      have sA := Same_trans s07 s8
      have e : (valV kvs (Sum.inr word)).isSome = (lookF sc.kept word).isSome := by
        rcases hkv.look (n := word) with ⟨y1, y2⟩ | ⟨v, f, y1, y2, _⟩ <;> rw [y1, y2] <;> rfl
      have kvA : KvR FctL _ (putK kvs (Sum.inr word) (.ref q)) (putFk sc.kept word sc.f) := KvR.put (hkv.keep fun v f y => FctL.keep (Same_kim sA) y) ⟨q, pl, pd, rfl, s38 _ _ q3, hpl.same sA, sA _ _ hpd⟩
      exact k _ t4 _ _ _ (.keep word) (Same_kbut sA) (row.same sA) upd_same ⟨t1, rfl, s8 _ _ (s7 _ _ (s6 _ _ (s5 _ _ e4)))⟩ ⟨t3, pl, pd, m, rfl, s8 _ _ e7, hpl.same sA, sA _ _ hpd, m, _, rfl, s38 _ _ m3, kvA⟩ (by rw [e]; exact .bl _) hword
    case gLook =>
      clear row hS g hsc gd n9 k
      obtain ⟨r, ra, ps, p, pl, pd, pk, fl, S, n, kind, sc, word, name, rfl, row, hS, g, hp, hpl, hpd, ⟨pk2, kvs, epk, hpk, hkv⟩, gd, n9, hname, hword, ⟨hfl, nfr⟩, hx, k⟩ := id hh
      cases epk
      have glen := gd.f.lay.len
      have six := gd.f.lay.six g
      obtain ⟨pd0, pc, hp1, ⟨des, hde, hdp⟩, hp3⟩ := id hS
      have hlen := Paired.length hdp
      have d0 := g.d0
      have d4 := g.d4
      refine ⟨_, rfl, _, rfl, ps, _, 0, .ref pd0, rfl, rfl, SqT.of hp1, rfl, pd0, des, rfl, .inr (SqT.of hde), r, ra, des.length, rfl, row, ⟨by omega, by omega⟩, fun H1 d kb1 row1 hd => ?_⟩
      rw [hlen] at hd
      have ki1 := kb1.kim row.notIm
      refine ⟨_, rfl, (by show 2 ≤ sizeLine; decide), fun t1 ht1 => ?_⟩
      have s2 : Same H1 (upd H1 t1 (.tup [.str "look", .int (d : Nat)])) := Same_new ht1
      have e2 : (upd H1 t1 (.tup [.str "look", .int (d : Nat)])) t1 = some (.tup [.str "look", .int (d : Nat)]) := upd_same
      generalize upd H1 t1 (.tup [.str "look", .int (d : Nat)]) = H2 at s2 e2 ⊢
      have ki2 := ki1.trans (Same_kim s2)
      obtain ⟨y, hy, qd, rfl, hqd⟩ := paired_at2 hdp (List.getElem?_eq_getElem hd)
      have hw := warm_at (List.getElem?_eq_getElem hd)
      refine ⟨_, rfl, _, rfl, _, rfl, ps, _, 0, .ref pd0, rfl, rfl, SqT.of (ki2 _ _ hp1 trivial), rfl, _, rfl, pd0, des, (d : Nat), _, rfl, rfl, SqT.of (ki2 _ _ hde trivial), atI_nat hy, qd, _, 0, _, rfl, rfl, SqT.of (ki2 _ _ hqd trivial), rfl, sc.f.warm, _, rfl, rfl, ?_⟩
      rw [← hw]
      refine ⟨_, rfl, _, rfl, (by show 4 ≤ sizeLine; decide), fun t2 ht2 => ?_⟩
      have s3 : Same H2 (upd H2 t2 (.tup [.ref pl, .int (sc.f.warm + S.warm d), .ref pd, .ref pk])) := Same_new ht2
      have e3 : (upd H2 t2 (.tup [.ref pl, .int (sc.f.warm + S.warm d), .ref pd, .ref pk])) t2 = some (.tup [.ref pl, .int (sc.f.warm + S.warm d), .ref pd, .ref pk]) := upd_same
      generalize upd H2 t2 (.tup [.ref pl, .int (sc.f.warm + S.warm d), .ref pd, .ref pk]) = H3 at s3 e3 ⊢
      have ki3 := ki2.trans (Same_kim s3)
      refine ⟨_, rfl, _, rfl, _, rfl, ps, pl, S, sc.f.lay, d, rfl, hS.keep ki3, ⟨g.d4, g.tot⟩, hpl.keep ki3, glen, fun H4 t s4 ht => ?_⟩
      refine ⟨(by show 3 ≤ sizeLine; decide), fun t3 ht3 => ?_⟩
      have s5 := Same_new (o := .tup [.ref t1, .ref t2, .ref t]) ht3
      have sA := Same_trans s2 (Same_trans s3 (Same_trans s4 s5))
      have kiA := ki1.trans (Same_kim sA)
      exact k _ t3 _ _ _ (.look d) (kb1.trans (Same_kbut sA)) (row1.same sA) upd_same ⟨t1, rfl, s5 _ _ (s4 _ _ (s3 _ _ e2))⟩ ⟨t2, pl, pd, pk, rfl, s5 _ _ (s4 _ _ e3), hpl.keep kiA, kiA _ _ hpd (im_ints _), KeptL.keep kiA ⟨pk, kvs, rfl, hpk, hkv⟩⟩ (.tup (SqT.of (s5 _ _ ht)) (dp_lay _)) hd
    case main =>
      obtain ⟨p, pl, pd, pk, rfl, hp, hpl, hpd, hk⟩ := hsc
      obtain ⟨pd0, pc, hp1, hp2, hp3⟩ := id hS
      have six := gd.f.lay.six g
      have c5 := g.c5
      have c0 := g.c0
      refine ⟨_, rfl, p, _, rfl, SqT.of hp, rfl, _, _, rfl, _, _, rfl, _, _, rfl, _, _, rfl, rfl, ?_⟩
      refine ⟨_, rfl, r, ra, 9, rfl, row, ⟨by decide, by decide⟩, fun H1 kind kb1 row1 hkind => ?_⟩
      refine ⟨_, rfl, (by show 2 ≤ sizeLine; decide), fun l hl => ?_⟩
      have s2 : Same H1 (upd H1 l (.lst [.str "x", .str "y"])) := Same_new hl
      have e2 : (upd H1 l (.lst [.str "x", .str "y"])) l = some (.lst [.str "x", .str "y"]) := upd_same
      obtain ⟨xr, hxr⟩ := row1.isLst
      have nlr : l ≠ r := (ne_of_none hxr hl).symm
      generalize upd H1 l (.lst [.str "x", .str "y"]) = H2 at s2 e2 ⊢
      have row2 := row1.same s2
      refine ⟨r, ra, l, _, rfl, row2, .inl ⟨e2, nlr⟩, ⟨by decide, by decide⟩, fun H3 i3 v3 kb3 row3 hv3 => ?_⟩
      obtain ⟨word, rfl, hword⟩ : ∃ z, v3 = .str z ∧ isWordB z = true := by
        have hm := List.mem_of_getElem? hv3
        rcases List.mem_cons.mp hm with e | e
        · exact ⟨_, e, by decide +kernel⟩
        · exact ⟨_, List.mem_singleton.mp e, by decide +kernel⟩
      have kbA : KBut r H H3 := kb1.trans ((Same_kbut s2).trans kb3)
      have kiA := kbA.kim row.notIm
      refine ⟨_, rfl, _, rfl, ps, _, 1, .ref pc, rfl, rfl, SqT.of (kiA _ _ hp1 trivial), rfl, r, ra, pc, _, rfl, row3, .inr (kiA _ _ hp3 trivial), ⟨by rw [List.length_map]; exact c0, by rw [List.length_map]; omega⟩, fun H4 i4 v4 kb4 row4 hv4 => ?_⟩
      obtain ⟨name, hname, rfl⟩ := map_at hv4
      have kbB := kbA.trans kb4
      have kiB := kbB.kim row.notIm
      refine ⟨(by show 3 ≤ sizeLine; decide), fun t ht => ?_⟩
      have s5 : Same H4 (upd H4 t (.tup [.int (kind : Nat), .str word, .str name])) := Same_new ht
      refine ⟨t, _, rfl, SqT.of upd_same, rfl, _, _, rfl, _, _, rfl, _, _, rfl, rfl, ?_⟩
      generalize upd H4 t (.tup [.int (kind : Nat), .str word, .str name]) = H5 at s5 ⊢
      have row5 := row4.same s5
      have kbC := kbB.trans (Same_kbut s5)
      have kiC := kbC.kim row.notIm
      have hpl5 := hpl.keep kiC
      refine ⟨_, rfl, pl, _, rfl, .inr hpl5.sq, (layV sc.f.lay).length, rfl, by rw [layV_len]; omega, by rw [layV_len]; omega, ?_⟩
      rw [Int.toNat_natCast, layV_len]
      refine fun D hD => lc_pv (walk_rng (n := sc.f.lay.length)) (freeR sc.f.lay) hD (fun _ _ => trivial) ?_ ?_
      · rintro i v H6' H6 hi pv ⟨rfl, rfl⟩
        obtain ⟨o, ho⟩ : ∃ o, sc.f.lay[i]? = some o := ⟨_, List.getElem?_eq_getElem hi⟩
        refine ⟨rfl, ?_⟩
        refine ⟨_, rfl, _, rfl, pl, _, (i : Nat), vO o, rfl, rfl, (hpl5.same pv.1).sq, atI_nat (lay_get ho), rfl, _, rfl, ?_⟩
        cases o with
        | none => exact iteT ⟨_, rfl, pvL_put hD pv (Same.refl _) (by unfold freeR; rw [bind_at ho]) (by omega)⟩
        | some z => exact iteF (pvL_skip pv (Same.refl _) (by unfold freeR; rw [bind_at ho]))
      · intro H6 ⟨s6, hD6⟩
        have kbD := kbC.trans (Same_kbut s6)
        have kiD := kbD.kim row.notIm
        obtain ⟨xr5, hxr5⟩ := row5.isLst
        exact ⟨r, ra, ps, p, pl, pd, pk, D, S, n, kind, sc, word, name, rfl, row5.same s6, hS.keep kiD, g, kiD _ _ hp trivial, hpl.keep kiD, kiD _ _ hpd (im_ints _), KeptL.keep kiD hk, gd, n9, List.mem_of_getElem? hname, hword, ⟨hD6, (ne_of_none hxr5 hD).symm⟩, trivial, k.later kbD⟩
end
end Ck
set_option Elab.async false
set_option linter.all false
set_option maxRecDepth 100000
set_option maxHeartbeats 4000000
namespace Ck
open PySem PySem.Spec PyProof.Rows L2
/-! ### the timeline -/
abbrev s0 (lay : Lay) : Scn := ⟨⟨lay, 0, []⟩, []⟩
def behS (S : Sch) : Scn → List Op → List (Op × Scn)
  | _, [] => []
  | sc, op :: r => (op, stepS S sc op) :: behS S (stepS S sc op) r
def undF (S : Sch) : Scn → List Op → List (Op × Scn)
  | _, [] => []
  | sc, op :: r => undF S (stepS S sc op) r ++ [(op, stepS S sc op)]
theorem behS_app (S : Sch) : ∀ (l m : List Op) (sc : Scn), behS S sc (l ++ m) = behS S sc l ++ behS S (runS S sc l) m
  | [], _, _ => rfl
  | op :: l, m, sc => by
    show (op, stepS S sc op) :: behS S (stepS S sc op) (l ++ m) = (op, stepS S sc op) :: (behS S (stepS S sc op) l ++ behS S (runS S (stepS S sc op) l) m)
    rw [behS_app S l m]
theorem behS_ops (S : Sch) : ∀ (l : List Op) (sc : Scn), (behS S sc l).map (·.1) = l
  | [], _ => rfl
  | op :: l, sc => by
    show op :: (behS S (stepS S sc op) l).map (·.1) = op :: l
    rw [behS_ops S l]
theorem behS_len (S : Sch) (l : List Op) (sc : Scn) : (behS S sc l).length = l.length := by
  have := congrArg List.length (behS_ops S l sc)
  rw [List.length_map] at this
  exact this
theorem undF_len (S : Sch) : ∀ (l : List Op) (sc : Scn), (undF S sc l).length = l.length
  | [], _ => rfl
  | op :: l, sc => by
    show (undF S (stepS S sc op) l ++ [_]).length = l.length + 1
    rw [List.length_append, undF_len S l]
    rfl
theorem kw_run {S : Sch} : ∀ {l : List Op} {sc : Scn}, KW sc → ValidS S sc l → KW (runS S sc l)
  | [], _, h, _ => h
  | op :: l, sc, h, v => kw_run (l := l) (kw_step h v.1) v.2
/-! ### shapes -/
def opD : Op → PyData
  | .look d => .tuple [.str "look", .int (d : Nat)]
  | .put n p => .tuple [.str "put", .str n, .int (p : Nat)]
  | .exch a b => .tuple [.str "exchange", .str a, .str b]
  | .shut => .tuple [.str "shut"]
  | .keep n => .tuple [.str "keep_as", .str n]
  | .fetch n => .tuple [.str "fetch", .str n]
theorem op_dp {K : PySem.W.Frag} {H : Hp} {v : V} {op : Op} (h : OpH H v op) : Dp K H v (opD op) := by
  obtain ⟨p, rfl, h⟩ := h
  cases op with
  | look d => exact .tup (SqT.of h) (.cons (.str _) (.cons (.int _) .nil))
  | put n p => exact .tup (SqT.of h) (.cons (.str _) (.cons (.str _) (.cons (.int _) .nil)))
  | exch a b => exact .tup (SqT.of h) (.cons (.str _) (.cons (.str _) (.cons (.str _) .nil)))
  | shut => exact .tup (SqT.of h) (.cons (.str _) .nil)
  | keep n => exact .tup (SqT.of h) (.cons (.str _) (.cons (.str _) .nil))
  | fetch n => exact .tup (SqT.of h) (.cons (.str _) (.cons (.str _) .nil))
theorem shp_con {z : Str} (h : PyData.strOk z = true) : Shp 0 (.str z) := ⟨h, Nat.le_refl _⟩
theorem shp_all1 {ds : List PyData} (h : ∀ d ∈ ds, Shp 0 d) : Shp 1 (.tuple ds) := shp_tuple h
theorem shp_op {S : Sch} {sc : Scn} {op : Op} (g : GoodSch S) (kw : KW sc) (va : Valid S sc op) : Shp 1 (opD op) := by
  have c : ∀ z ∈ (["look", "put", "exchange", "shut", "keep_as", "fetch"] : List Str), PyData.strOk z = true := by decide +kernel
  cases op with
  | look d =>
    refine shp_all1 fun x hx => ?_
    rcases List.mem_cons.mp hx with rfl | hx
    · exact shp_con (c _ (by simp))
    · rw [List.mem_singleton.mp hx]; exact shp_int _
  | put n p =>
    refine shp_all1 fun x hx => ?_
    rcases List.mem_cons.mp hx with rfl | hx
    · exact shp_con (c _ (by simp))
    · rcases List.mem_cons.mp hx with rfl | hx
      · exact shp_str (g.words _ va.1)
      · rw [List.mem_singleton.mp hx]; exact shp_int _
  | exch a b =>
    refine shp_all1 fun x hx => ?_
    rcases List.mem_cons.mp hx with rfl | hx
    · exact shp_con (c _ (by simp))
    · rcases List.mem_cons.mp hx with rfl | hx
      · exact shp_str (g.words _ va.1)
      · rw [List.mem_singleton.mp hx]; exact shp_str (g.words _ va.2.1)
  | shut =>
    refine shp_all1 fun x hx => ?_
    rw [List.mem_singleton.mp hx]
    exact shp_con (c _ (by simp))
  | keep n =>
    refine shp_all1 fun x hx => ?_
    rcases List.mem_cons.mp hx with rfl | hx
    · exact shp_con (c _ (by simp))
    · rw [List.mem_singleton.mp hx]; exact shp_str va
  | fetch n =>
    refine shp_all1 fun x hx => ?_
    rcases List.mem_cons.mp hx with rfl | hx
    · exact shp_con (c _ (by simp))
    · rw [List.mem_singleton.mp hx]
      have : ∃ p ∈ sc.kept, p.1 = n := by
        have va' : (lookF sc.kept n).isSome = true := va
        unfold lookF at va'
        rw [Option.isSome_map, List.find?_isSome] at va'
        obtain ⟨p, hp, e⟩ := va'
        exact ⟨p, hp, of_decide_eq_true e⟩
      obtain ⟨p, hp, e⟩ := this
      rw [← e]
      exact shp_str (kw p hp)
theorem shp_ops {S : Sch} (g : GoodSch S) : ∀ {l : List Op} {sc : Scn}, KW sc → ValidS S sc l → ∀ d ∈ l.map opD, Shp 1 d
  | [], _, _, _, d, hd => by cases hd
  | op :: l, sc, kw, v, d, hd => by
    rcases List.mem_cons.mp hd with e | hd
    · rw [e]
      exact shp_op g kw v.1
    · exact shp_ops g (kw_step kw v.1) v.2 d hd
theorem shp_res {S : Sch} {n : Nat} {sc : Scn} {op : Op} (g : GoodSch S) (gd : Good S n sc) (va : Valid S sc op) : Shp 1 (resD S sc op) := by
  cases op with
  | look d =>
    refine shp_lay fun z hz => gd.f.lay.words g z ?_
    obtain ⟨o, ho, e⟩ := List.mem_filterMap.mp hz
    have e2 : o = some z := e
    rw [e2] at ho
    unfold seen at ho
    obtain ⟨p, hp, e3⟩ := List.mem_map.mp ho
    have h1 := (List.mem_filter.mp hp).1
    have h2 := (List.of_mem_zip (a := p.1) (b := p.2) h1).1
    rw [e3] at h2
    exact List.mem_filterMap.mpr ⟨_, h2, rfl⟩
  | put z p => exact (shp_int _).mono (Nat.zero_le _)
  | exch a b => exact (shp_bool _).mono (Nat.zero_le _)
  | shut => exact (shp_int _).mono (Nat.zero_le _)
  | keep z => exact (shp_bool _).mono (Nat.zero_le _)
  | fetch z =>
    show Shp 1 (.tuple (((lookF sc.kept z).getD sc.f).lay.map dO))
    cases e : lookF sc.kept z with
    | none => exact shp_lay (gd.f.lay.words g)
    | some f =>
      obtain ⟨p, hp, e2⟩ := lookF_mem e
      have := (gd.kept p hp).lay
      rw [e2] at this
      exact shp_lay (this.words g)
/-! ### the law's own lists -/
def PE (H : Hp) (v : V) (e : Op × Scn) : Prop := ∃ a vs vo, v = V.ref a ∧ H a = some (.tup [vs, vo]) ∧ ScnL H vs e.2 ∧ OpH H vo e.1
def E0' (H : Hp) (v : V) (sc : Scn) : Prop := ∃ a vs, v = V.ref a ∧ H a = some (.tup [vs, .non]) ∧ ScnL H vs sc
def EntsP (H : Hp) (xs : List V) (sc : Scn) (pp : List (Op × Scn)) : Prop := ∃ e0 es, xs = e0 :: es ∧ E0' H e0 sc ∧ Paired (PE H) es pp
theorem PE.keep {H H' : Hp} {v : V} {e : Op × Scn} (k : KIm H H') (h : PE H v e) : PE H' v e := by
  obtain ⟨a, vs, vo, rfl, h1, h2, h3⟩ := h
  exact ⟨a, vs, vo, rfl, k _ _ h1 trivial, h2.keep k, h3.keep k⟩
theorem PEs.keep {H H' : Hp} {ys : List V} {pp : List (Op × Scn)} (k : KIm H H') (h : Paired (PE H) ys pp) : Paired (PE H') ys pp := Paired_mono h fun a b z => z.keep k
theorem EntsP.keep {H H' : Hp} {xs : List V} {sc : Scn} {pp : List (Op × Scn)} (k : KIm H H') (h : EntsP H xs sc pp) : EntsP H' xs sc pp := by
  obtain ⟨e0, es, rfl, ⟨a, vs, rfl, h1, h2⟩, h3⟩ := h
  exact ⟨_, es, rfl, ⟨a, vs, rfl, k _ _ h1 trivial, h2.keep k⟩, PEs.keep k h3⟩
theorem EntsP.last {H : Hp} {xs : List V} {S : Sch} {sc : Scn} {ps : List Op} (h : EntsP H xs sc (behS S sc ps)) : ∃ a vs vo, atI xs (-1) = some (V.ref a) ∧ H a = some (.tup [vs, vo]) ∧ ScnL H vs (runS S sc ps) := by
  obtain ⟨e0, es, rfl, ⟨a, vs, rfl, h1, h2⟩, h3⟩ := h
  rcases List.eq_nil_or_concat ps with e | ⟨ps', op, e⟩
  · subst e
    cases h3
    exact ⟨a, vs, .non, atI_last ([] : List V) (V.ref a), h1, h2⟩
  · rw [List.concat_eq_append] at e
    subst e
    rw [behS_app] at h3
    obtain ⟨es', e, rfl, _, ⟨b, vs', vo', rfl, q1, q2, _⟩⟩ := paired_last h3
    exact ⟨b, vs', vo', atI_last (V.ref a :: es') (V.ref b), q1, by rw [runS_app]; exact q2⟩
theorem EntsP.len {H : Hp} {xs : List V} {sc : Scn} {pp : List (Op × Scn)} (h : EntsP H xs sc pp) : xs.length = pp.length + 1 := by
  obtain ⟨e0, es, rfl, _, h3⟩ := h
  rw [List.length_cons, Paired.length h3]
theorem EntsP.ref {H : Hp} {xs : List V} {sc : Scn} {pp : List (Op × Scn)} (h : EntsP H xs sc pp) : ∃ a, V.ref a ∈ xs := by
  obtain ⟨e0, es, rfl, ⟨a, vs, rfl, _⟩, _⟩ := h
  exact ⟨a, List.mem_cons_self⟩
structure LBase (K : PySem.W.Frag) (H : Hp) (r ra pS pl x st sa : Addr) (S : Sch) (lay : Lay) (lp lf : Addr) (xs ys : List V) : Prop where
  row : RowAt K H r ra
  sch : SchAt H pS S
  tup : TupN H pl (layV lay)
  live : LiveAt K H x st sa S
  hp : H lp = some (.lst xs)
  hf : H lf = some (.lst ys)
  npr : lp ≠ r
  nfr : lf ≠ r
  npf : lp ≠ lf
section
variable {K : PySem.W.Frag} {H H' : Hp} {r ra pS pl x st sa lp lf : Addr} {S : Sch} {lay : Lay} {xs ys : List V} {sc : Scn} {past und : List (Op × Scn)}
theorem LiveAt.nl (k : KNl H H') (h : LiveAt K H x st sa S) : LiveAt K H' x st sa S := by
  obtain ⟨⟨dx, hx⟩, ⟨pe, pp, h1, h2, ⟨pd, pc, q1, ⟨des, q2, q3⟩, q4⟩⟩, n⟩ := h
  exact ⟨⟨dx, k _ _ hx (fun _ z => by cases z)⟩, ⟨pe, pp, h1.nl k, k _ _ h2 (fun _ z => by cases z), pd, pc, k _ _ q1 (fun _ z => by cases z), ⟨des, k _ _ q2 (fun _ z => by cases z), Paired_mono q3 fun a b ⟨q, e, z⟩ => ⟨q, e, k _ _ z (fun _ z => by cases z)⟩⟩, k _ _ q4 (fun _ z => by cases z)⟩, n⟩
theorem RowAt.nl (h : RowAt K H r ra) (k : KBut r H H') : KNl H H' := fun b o e n => k b o e fun z => by
  obtain ⟨zs, hz⟩ := h.isLst
  rw [z, hz] at e
  exact n _ (Option.some.inj e).symm
theorem RowAt.slot {C : Addr} {vs : List (Option V)} (h : RowAt K H r ra) (k : KBut sa H H') (hs : SlotAt K C H sa vs) : RowAt K H' r ra := by
  obtain ⟨ns, i, j, q, h1, h3, h4⟩ := h
  obtain ⟨dx, hz, _⟩ := hs
  have nl : ∀ {b : Addr} {zs : List V}, H b = some (.lst zs) → b ≠ sa := fun e => ne_of e hz (fun z => by unfold SlX.SlO at z; cases z)
  refine ⟨ns, i, j, q, ?_, k _ _ h3 (nl h3), h4⟩
  rcases h1 with ⟨n, (h | ⟨o, h⟩) | h⟩ | h
  · exact .inl ⟨n, .inl (.inl (k _ _ h (nl h)))⟩
  · exact .inl ⟨n, .inl (.inr ⟨o, k _ _ h (ne_of h hz (fun z => by unfold SlX.SlO at z; cases z))⟩)⟩
  · exact .inl ⟨n, .inr h⟩
  · exact .inr h
theorem RowAt.pop {zs : List V} {a : Addr} (h : RowAt K H r ra) (hl : H lp = some (.lst xs)) (ha : V.ref a ∈ xs) (n : lp ≠ r) : RowAt K (upd H lp (.lst zs)) r ra := by
  obtain ⟨ns, i, j, q, h1, h3, h4⟩ := h
  refine ⟨ns, i, j, q, ?_, by rw [upd_ne n.symm]; exact h3, h4⟩
  rcases h1 with ⟨nr, (h | ⟨o, h⟩) | h⟩ | h
  · have nrl : ra ≠ lp := fun z => by
      rw [z, hl] at h
      have e : xs = ns.map V.int := by injection (Option.some.inj h)
      rw [e] at ha
      obtain ⟨q, _, e⟩ := List.mem_map.mp ha
      cases e
    exact .inl ⟨nr, .inl (.inl (by rw [upd_ne nrl]; exact h))⟩
  · have nrl : ra ≠ lp := fun z => by
      rw [z, hl] at h
      cases h
    exact .inl ⟨nr, .inl (.inr ⟨o, by rw [upd_ne nrl]; exact h⟩)⟩
  · exact .inl ⟨nr, .inr h⟩
  · exact .inr h
theorem KIm.pop {zs : List V} {a : Addr} (hl : H lp = some (.lst xs)) (ha : V.ref a ∈ xs) : KIm H (upd H lp (.lst zs)) := fun b o e i => by
  rw [upd_ne]
  · exact e
  · intro z
    rw [z, hl] at e
    rw [← Option.some.inj e] at i
    obtain ⟨q, e⟩ := i _ ha
    cases e
theorem LBase.same (s : Same H H') (h : LBase K H r ra pS pl x st sa S lay lp lf xs ys) : LBase K H' r ra pS pl x st sa S lay lp lf xs ys :=
  ⟨h.row.same s, h.sch.keep (Same_kim s), h.tup.same s, h.live.same s, s _ _ h.hp, s _ _ h.hf, h.npr, h.nfr, h.npf⟩
theorem LBase.rowM (k : KBut r H H') (rw' : RowAt K H' r ra) (h : LBase K H r ra pS pl x st sa S lay lp lf xs ys) : LBase K H' r ra pS pl x st sa S lay lp lf xs ys :=
  have nl := h.row.nl k
  ⟨rw', h.sch.keep (k.kim h.row.notIm), h.tup.keep (k.kim h.row.notIm), h.live.nl nl, k _ _ h.hp h.npr, k _ _ h.hf h.nfr, h.npr, h.nfr, h.npf⟩
theorem LBase.slot (k : KBut sa H H') (hd : StateD K H sa sc past und) (h : LBase K H r ra pS pl x st sa S lay lp lf xs ys) : LBase K H' r ra pS pl x st sa S lay lp lf xs ys := by
  obtain ⟨f, p, q, u, hs⟩ := hd.slot
  have ki := k.kim hs.notIm
  have nl : ∀ {b : Addr} {zs : List V}, H b = some (.lst zs) → b ≠ sa := fun e => by
    obtain ⟨_, hz, _⟩ := hs
    exact ne_of e hz (fun z => by unfold SlX.SlO at z; cases z)
  exact ⟨h.row.slot k hs, h.sch.keep ki, h.tup.keep ki, h.live.stay hd k, k _ _ h.hp (nl h.hp), k _ _ h.hf (nl h.hf), h.npr, h.nfr, h.npf⟩
theorem LBase.newF {l : Addr} {zs : List V} (h : LBase K H r ra pS pl x st sa S lay lp lf xs ys) (s : Same H H') (n : H l = none) (e : H' l = some (.lst zs)) : LBase K H' r ra pS pl x st sa S lay lp l xs zs := by
  have b := h.same s
  obtain ⟨q, hq⟩ := h.row.isLst
  exact ⟨b.row, b.sch, b.tup, b.live, b.hp, e, b.npr, (ne_of_none hq n).symm, ne_of_none h.hp n⟩
theorem LBase.newP {l : Addr} {zs : List V} (h : LBase K H r ra pS pl x st sa S lay lp lf xs ys) (s : Same H H') (n : H l = none) (e : H' l = some (.lst zs)) : LBase K H' r ra pS pl x st sa S lay l lf zs ys := by
  have b := h.same s
  obtain ⟨q, hq⟩ := h.row.isLst
  exact ⟨b.row, b.sch, b.tup, b.live, e, b.hf, (ne_of_none hq n).symm, b.nfr, (ne_of_none h.hf n).symm⟩
theorem LBase.popP {zs : List V} {a : Addr} (h : LBase K H r ra pS pl x st sa S lay lp lf xs ys) (ha : V.ref a ∈ xs) : LBase K (upd H lp (.lst zs)) r ra pS pl x st sa S lay lp lf zs ys :=
  ⟨h.row.pop h.hp ha h.npr, h.sch.keep (KIm.pop h.hp ha), h.tup.keep (KIm.pop h.hp ha), h.live.nl (KNl.upd h.hp), upd_same, by rw [upd_ne h.npf.symm]; exact h.hf, h.npr, h.nfr, h.npf⟩
theorem LBase.popF {zs : List V} {a : Addr} (h : LBase K H r ra pS pl x st sa S lay lp lf xs ys) (ha : V.ref a ∈ ys) : LBase K (upd H lf (.lst zs)) r ra pS pl x st sa S lay lp lf xs zs :=
  ⟨h.row.pop h.hf ha h.nfr, h.sch.keep (KIm.pop h.hf ha), h.tup.keep (KIm.pop h.hf ha), h.live.nl (KNl.upd h.hf), by rw [upd_ne h.npf]; exact h.hp, upd_same, h.npr, h.nfr, h.npf⟩
end
/-- what holds between two turns, of at most m operations -/
def LInv (K : PySem.W.Frag) (ra : Addr) (S : Sch) (lay : Lay) (m : Nat) (σ : L2.St) (H : Hp) : Prop := ∃ (r pS pl x st sa lp lf : Addr) (xs ys : List V) (ps fs : List Op) (v7 v8 v9 v10 v11 : Option V),
  σ = [some (.ref ra), some (.ref r), some (.ref pS), some (.ref pl), some (.ref x), some (.ref lp), some (.ref lf), v7, v8, v9, v10, v11, none, none, none] ∧ LBase K H r ra pS pl x st sa S lay lp lf xs ys ∧
  StateD K H sa (runS S (s0 lay) ps) (histS S (s0 lay) ps) (undF S (runS S (s0 lay) ps) fs) ∧ ValidS S (s0 lay) (ps ++ fs) ∧ ps.length + fs.length ≤ m ∧ EntsP H xs (s0 lay) (behS S (s0 lay) ps) ∧ Paired (PE H) ys (undF S (runS S (s0 lay) ps) fs)
theorem LInv.le {K : PySem.W.Frag} {ra : Addr} {S : Sch} {lay : Lay} {m n : Nat} {σ : L2.St} {H : Hp} (h : LInv K ra S lay m σ H) (l : m ≤ n) : LInv K ra S lay n σ H := by
  obtain ⟨r, pS, pl, x, st, sa, lp, lf, xs, ys, ps, fs, v7, v8, v9, v10, v11, e, b, hd, va, hl, hp, hf⟩ := h
  exact ⟨r, pS, pl, x, st, sa, lp, lf, xs, ys, ps, fs, v7, v8, v9, v10, v11, e, b, hd, va, Nat.le_trans hl l, hp, hf⟩
def tB (K : PySem.W.Frag) : TS := fun D σ H => ∃ (ra : Addr) (S : Sch) (lay : Lay) (m : Nat), GoodSch S ∧ GoodLay S lay ∧ m ≤ 40 ∧ LInv K ra S lay m σ H ∧ ∀ σ' H', LInv K ra S lay (m + 1) σ' H' → D.nx σ' H'
def tE (K : PySem.W.Frag) : TS := fun D σ H => ∃ (ra : Addr) (S : Sch) (lay : Lay) (m : Nat), GoodSch S ∧ GoodLay S lay ∧ m ≤ 41 ∧ LInv K ra S lay m σ H ∧ ∀ σ' H', LInv K ra S lay m σ' H' → D.nx σ' H'
theorem pe_ops {H : Hp} {es : List V} {pp : List (Op × Scn)} (h : Paired (PE H) es pp) : ∃ os, Paired (fun e o => ∃ a vs, e = V.ref a ∧ H a = some (.tup [vs, o])) es os ∧ Paired (OpH H) os (pp.map (·.1)) := by
  induction h with
  | nil => exact ⟨[], .nil, .nil⟩
  | cons q t ih =>
    obtain ⟨a, vs, vo, e, h1, _, h2⟩ := q
    obtain ⟨os, h3, h4⟩ := ih
    exact ⟨vo :: os, .cons ⟨a, vs, e, h1⟩ h3, .cons h2 h4⟩
theorem ops_dp {K : PySem.W.Frag} {H : Hp} {os : List V} {ps : List Op} (h : Paired (OpH H) os ps) : DpAll K H os (ps.map opD) := by
  induction h with
  | nil => exact .nil
  | cons q t ih => exact .cons (op_dp q) ih
end Ck
set_option Elab.async false
set_option linter.all false
set_option maxRecDepth 100000
set_option maxHeartbeats 4000000
namespace Ck
open PySem PySem.Spec PyProof.Rows L2
section
variable {P : Program} {w : World} {K : PySem.W.Frag} {mg : Str → Option Value} {base : Heap}
abbrev lN : List Str := ["_law_script", "_law_row", "_law_s", "_law_layout", "_law_live", "_law_past", "_law_future", "_law_turn", "_law_kind", "_law_operation", "_law_scene", "_law_due", "_law_done", "_law_one", "_law_again"]
theorem sc_Law : FnScope lN ["_law_script"] (defScope s_law) := ⟨rfl, rfl, rfl, by decide +kernel, rfl, by decide +kernel, by decide +kernel⟩
def spLaw (K : PySem.W.Frag) : Sp := fun vs H Q _ => ∃ (a : Addr) (ns : List Int), vs = [.ref a] ∧ SqL K H a (ns.map V.int) ∧ ns.length ≤ 63 ∧ ∀ H', Q (.bl true) H'
theorem body_law (T : Txt w K mg) (f : Addr) (cdv : Value) (A : Around) (outer : List Env) (s : Shared) (H : Hp) (vs : List V) (Q : VK) (E : XK) (hr : Room 12 (A.deeper (envOfC "law" (defScope s_law) s.heap.objs.size f cdv))) (h : spLaw K vs H Q E) :
    ∃ t, PSs (cxOf CX0 P w K mg base lN "law" (defScope s_law) f cdv A outer s H E).nox (defBody s_law) t ∧ t { nx := fun _ H' => Q .non H', rt := Q } (start lN vs) H := by
  obtain ⟨fd1, F1⟩ := T.f_law_taken
  obtain ⟨fd2, F2⟩ := T.f_law_pick
  obtain ⟨fd3, F3⟩ := T.f_law_scheme
  obtain ⟨fd4, F4⟩ := T.f_law_layouts
  obtain ⟨fd5, F5⟩ := T.f_law_store
  obtain ⟨fd6, F6⟩ := T.f_law_step
  obtain ⟨fd7, F7⟩ := T.f_law_shows
  have G1 : FnR P w K mg base CX0 1 (He.ga K "_law_taken") (spTaken K) := ok_Taken T
  have G2 : FnR P w K mg base CX0 2 (He.ga K "_law_pick") (spPick K) := ok_Pick T
  have G3 : FnR P w K mg base CX0 2 (He.ga K "_law_scheme") (spScheme K) := ok_Scheme T
  have G4 : FnR P w K mg base CX0 2 (He.ga K "_law_layouts") spLayouts := ok_Layouts T
  have G5 : FnR P w K mg base CX0 6 (He.ga K "_law_store") (spStoreL K) := ok_StoreL T
  have G6 : FnR P w K mg base CX0 4 (He.ga K "_law_step") (spStep K) := ok_Step T
  have G7 : FnR P w K mg base CX0 3 (He.ga K "_law_shows") (spShows K) := ok_Shows T
  have GI : FnR P w K mg base CX0 5 (He.ma K (cL K) "__init__") (spLiveInit K) := ok_LiveInit T
  have GU : FnR P w K mg base CX0 2 (He.ma K (cL K) "undo") (spUndo K) := ok_Undo T
  have GR : FnR P w K mg base CX0 2 (He.ma K (cL K) "redo") (spRedo K) := ok_Redo T
  have GA : FnR P w K mg base CX0 8 (He.ma K (cL K) "apply_all") (spApply K) := ok_Apply T
  have GP : FnR P w K mg base CX0 9 (He5.wf K (cL K) "classmethod" "replay") (spReplay K) := ok_Replay T
  have GH : FnR P w K mg base CX0 1 (pga K (cL K) "history") (spShow K rHist) := ok_Hist T
  have nd := sc_Law.nd
  refine ⟨_, pss_cons (ps_set (i := 1) nd rfl (Or.inl rfl) (pe_lst (pa_cons (pv 0) (pa_cons pe_int (pa_cons pe_int (pa_cons pe_int pa_nil))))))
    (pss_cons (ps_set (i := 2) nd rfl (Or.inl rfl) (pe_fn G3 (hr.mono (by decide)) (by rfl) T.g_law_scheme F3.kp (pa_cons (pv 1) (pa_cons pe_int (pa_cons pe_int pa_nil)))))
    (pss_cons (ps_set (i := 3) nd rfl (Or.inl rfl) (pe_fn G2 (hr.mono (by decide)) (by rfl) T.g_law_pick F2.kp (pa_cons (pv 1) (pa_cons (pe_fn G4 (hr.mono (by decide)) (by rfl) T.g_law_layouts F4.kp (pa_cons (pv 2) pa_nil)) pa_nil))))
    (pss_cons (ps_par3 (i := 4) (j := 5) (l := 6) rfl nd rfl rfl rfl (by decide) (by decide) (by decide) rfl rfl rfl
        (pa_cons (StX.pe_makeR (E := E0) T.mk_Live GI (hr.mono (by decide)) (by rfl) T.g_Live pass0 (pa_cons (pe_fn G5 (hr.mono (by decide)) (by rfl) T.g_law_store F5.kp (pa_cons (pv 2) pa_nil)) (pa_cons (pv 3) pa_nil)))
        (pa_cons (pe_lst (pa_cons (pe_tup (pa_cons (pe_tup (pa_cons (pv 3) (pa_cons pe_int (pa_cons (pe_lst pa_nil) (pa_cons pe_dnewK pa_nil))))) (pa_cons pe_non pa_nil))) pa_nil))
        (pa_cons (pe_lst pa_nil) pa_nil))) (by rfl))
    (pss_cons (ps_for PassesOwn.never rfl (pi_range1 (by rfl) T.b_range (pa_cons (pe_fn G1 (hr.mono (by decide)) (by rfl) T.g_law_taken F1.kp (pa_cons (pv 1) (pa_cons pe_int pa_nil))) pa_nil)) (pg_name (i := 7) nd rfl (Or.inl rfl))
      (pss_cons (ps_set (i := 8) nd rfl (Or.inl rfl) (pe_fn G1 (hr.mono (by decide)) (by rfl) T.g_law_taken F1.kp (pa_cons (pv 1) (pa_cons pe_int pa_nil))))
      (pss_cons (ps_if (pt_cmpR op_eq (pv 8) pe_int (nomark _))
          (PSs_weak (t' := tB K) (pss_cons (ps_if (pt_cmpR op_ne (pe_methR0 (pv 4) T.c_Live T.m_Live_undo GU (hr.mono (by decide)) pass0) (pe_cmpR op_gt (pe_callB call_len_seq (by rfl) T.b_len bo_len (pa_cons (pv 5) pa_nil)) pe_int (nomark _)) (nomark _)) (pss_one ps_never) pss_nil)
            (pss_one (ps_set (i := 6) nd rfl (Or.inl rfl) (pe_op op_cat (pv 6) (pe_ifExp (pt_cmpR op_gt (pe_callB call_len_seq (by rfl) T.b_len bo_len (pa_cons (pv 5) pa_nil)) pe_int (nomark _)) (pe_lst (pa_cons (pe_bm0 PySem.F.plainAttrs_list PySem.F.slot_list_pop PySem.F.type_list_pop mt_pop (pv 5)) pa_nil)) (pe_lst pa_nil)))))) (fun D σ H hh => ?gUndo))
          (pss_one (ps_if (pt_cmpR op_eq (pv 8) pe_int (nomark _))
            (PSs_weak (t' := tB K) (pss_cons (ps_if (pt_cmpR op_ne (pe_methR0 (pv 4) T.c_Live T.m_Live_redo GR (hr.mono (by decide)) pass0) (pe_cmpR (op_neL0 hr.units0) (pv 6) (pe_lst pa_nil) (nomark _)) (nomark _)) (pss_one ps_never) pss_nil)
              (pss_one (ps_set (i := 5) nd rfl (Or.inl rfl) (pe_op op_cat (pv 5) (pe_ifExp (pt_cmpR (op_neL0 hr.units0) (pv 6) (pe_lst pa_nil) (nomark _)) (pe_lst (pa_cons (pe_bm0 PySem.F.plainAttrs_list PySem.F.slot_list_pop PySem.F.type_list_pop mt_pop (pv 6)) pa_nil)) (pe_lst pa_nil)))))) (fun D σ H hh => ?gRedo))
            (PSs_weak (t' := tB K) (pss_cons (ps_asg (pe_fn G6 (hr.mono (by decide)) (by rfl) T.g_law_step F6.kp (pa_cons (pv 1) (pa_cons (pv 2) (pa_cons (pe_ix ix_tup (pe_ix ix_list (pv 5) (pe_un un_neg pe_int) (fun _ _ => rfl)) pe_int (fun _ _ => rfl)) pa_nil)))) (pg_tup rfl (pgs_cons (pg_name (i := 9) nd rfl (Or.inl rfl)) (pgs_cons (pg_name (i := 10) nd rfl (Or.inl rfl)) (pgs_cons (pg_name (i := 11) nd rfl (Or.inl rfl)) pgs_nil)))))
              (pss_cons (ps_if (pt_cmpR (op_neD hr.units) (pe_methR (pv 4) T.c_Live T.m_Live_apply_all GA (hr.mono (by decide)) pass0 (pa_cons (pe_lst (pa_cons (pv 9) pa_nil)) pa_nil)) (pe_lst (pa_cons (pv 11) pa_nil)) (nomark _)) (pss_one ps_never) pss_nil)
              (pss_one (ps_par (i := 5) (j := 6) rfl nd rfl rfl (by decide) rfl rfl (pa_cons (pe_op op_cat (pv 5) (pe_lst (pa_cons (pe_tup (pa_cons (pv 10) (pa_cons (pv 9) pa_nil))) pa_nil))) (pa_cons (pe_lst pa_nil) pa_nil)) (by rfl))))) (fun D σ H hh => ?gStep)))))
      (PSs_weak (t' := tE K) (pss_one (ps_if (pt_not (pt_val (pe_fn G7 (hr.mono (by decide)) (by rfl) T.g_law_shows F7.kp (pa_cons (pv 4) (pa_cons (pe_ix ix_tup (pe_ix ix_list (pv 5) (pe_un un_neg pe_int) (fun _ _ => rfl)) pe_int (fun _ _ => rfl)) pa_nil))))) (pss_one ps_never) pss_nil)) (fun D σ H hh => ?gShow)))))
    (pss_cons (ps_setLc (i := 12) (own := [("_law_one", 13)]) (g := gName 13) (tt := tYes) rfl nd rfl rfl (sw_true rfl rfl rfl (by decide +kernel)) (pi_list (pe_slice sl_list (pv 5) (po_some pe_int) po_none)) (blkOk_by (N := lN) (sc := defScope s_law) (by decide +kernel))
        (fun _ _ _ _ _ => pg_name (i := 13) nd rfl (Or.inl rfl)) (fun _ _ _ _ _ => pts_nil) (fun _ _ _ _ _ => pe_ix (ixTK (K := K) rfl) (pv 13) pe_int (fun _ _ => rfl)))
    (pss_cons (ps_if (pt_cmpR (op_neD hr.units) (pe_propR (pv 4) T.c_Live T.p_Live_history GH (hr.mono (by decide))) (pv 12) (nomark _)) (pss_one ps_never) pss_nil)
    (pss_cons (ps_set (i := 14) nd rfl (Or.inl rfl) (ClX.pe_cmeth (E := E0) (pe_glob (v := .ref (cL K)) (by rfl) T.g_Live rfl) T.cr_Live T.cm_replay GP (hr.mono (by decide)) pass0 (pa_cons (pe_fn G5 (hr.mono (by decide)) (by rfl) T.g_law_store F5.kp (pa_cons (pv 2) pa_nil)) (pa_cons (pv 3) (pa_cons (pv 12) pa_nil)))))
    (pss_one (ps_ret (pe_and (pe_fn G7 (hr.mono (by decide)) (by rfl) T.g_law_shows F7.kp (pa_cons (pv 14) (pa_cons (pe_ix ix_tup (pe_ix ix_list (pv 5) (pe_un un_neg pe_int) (fun _ _ => rfl)) pe_int (fun _ _ => rfl)) pa_nil)))
      (pe_one (pe_cmpR (op_eqD hr.units) (pe_propR (pv 14) T.c_Live T.p_Live_history GH (hr.mono (by decide))) (pv 12) (nomark _)))))))))))))
    , ?main⟩
  case gUndo =>
    clear h
    obtain ⟨ra, S, lay, m, g, gl, hm, ⟨r, pS, pl, x, st, sa, lp, lf, xs, ys, ps, fs, v7, v8, v9, v10, v11, rfl, b, hd, va, hl, hxs, hys⟩, k⟩ := hh
    obtain ⟨⟨dx, hx⟩, hst, nss⟩ := id b.live
    have lxs := hxs.len
    rw [behS_len] at lxs
    have lys := Paired.length hys
    rw [undF_len] at lys
    have lund : (undF S (runS S (s0 lay) ps) fs).length ≤ 1000 := by rw [undF_len]; omega
    rcases List.eq_nil_or_concat ps with e | ⟨ps', op, e⟩
    · subst e
      have elen : decide ((1 : Int) < ((xs.length : Nat) : Int)) = false := decide_eq_false (by rw [lxs]; show ¬ (1 : Int) < ((0 + 1 : Nat) : Int); decide)
      refine ⟨_, rfl, x, dx, _, rfl, hx, rfl, x, st, sa, _, _, _, rfl, ⟨dx, hx⟩, hd, lund, fun _ H1 s1 => ?_, fun past0 op sc1 e => absurd e (by simp [histS])⟩
      have b1 := b.same s1
      refine ⟨_, rfl, lp, xs, rfl, .inl (SqL.of b1.hp), ((xs.length : Nat) : Int), 1, rfl, rfl, rfl, false, (by show V.bl (!decide (V.bl false = V.bl (decide ((1 : Int) < ((xs.length : Nat) : Int))))) = V.bl false; rw [elen]; rfl), iteF ?_⟩
      refine ⟨_, rfl, _, rfl, lp, xs, rfl, .inl (SqL.of b1.hp), ((xs.length : Nat) : Int), 1, rfl, rfl, _, rfl, ite_no elen ⟨Nat.zero_le _, fun l hl2 => ?_⟩⟩
      have s2 : Same H1 (upd H1 l (.lst [])) := Same_new hl2
      refine ⟨lf, l, ys, [], rfl, rfl, s2 _ _ b1.hf, upd_same, by rw [lys]; exact Nat.le_trans (show _ ≤ 100 by show fs.length + 0 ≤ 100; omega) (by decide), fun l2 hl3 => ?_⟩
      have s3 := Same_new (o := .lst (ys ++ [])) hl3
      have s13 := Same_trans s2 s3
      have sA := Same_trans s1 s13
      have b3 := b1.newF s13 (s2.free hl3) (zs := ys ++ []) upd_same
      rw [List.append_nil] at b3 ⊢
      exact k _ _ ⟨r, pS, pl, x, st, sa, lp, l2, xs, ys, [], fs, v7, v8, v9, v10, v11, rfl, b3, hd.same (by rw [List.append_nil] at sA; exact sA), va, by omega, hxs.keep (Same_kim (by rw [List.append_nil] at sA; exact sA)), PEs.keep (Same_kim (by rw [List.append_nil] at sA; exact sA)) hys⟩
    · rw [List.concat_eq_append] at e
      subst e
      rw [List.length_append, List.length_singleton] at lxs hl
      have elen : decide ((1 : Int) < ((xs.length : Nat) : Int)) = true := decide_eq_true (by omega)
      have hhist : histS S (s0 lay) (ps' ++ [op]) = histS S (s0 lay) ps' ++ [(op, runS S (s0 lay) ps')] := histS_app S ps' [op] (s0 lay)
      refine ⟨_, rfl, x, dx, _, rfl, hx, rfl, x, st, sa, _, _, _, rfl, ⟨dx, hx⟩, hd, lund, fun z => absurd z (by rw [hhist]; simp), fun past0 op1 sc1 e H1 kb hd1 => ?_⟩
      rw [hhist] at e
      obtain ⟨e1, e2⟩ := List.append_inj' e rfl
      have e3 : (op, runS S (s0 lay) ps') = (op1, sc1) := by injection e2
      injection e3 with e4 e5
      subst e1 e4 e5
      have b1 := b.slot kb hd
      have ki1 := kb.kim hd.notIm
      refine ⟨_, rfl, lp, xs, rfl, .inl (SqL.of b1.hp), ((xs.length : Nat) : Int), 1, rfl, rfl, rfl, false, (by show V.bl (!decide (V.bl true = V.bl (decide ((1 : Int) < ((xs.length : Nat) : Int))))) = V.bl false; rw [elen]; rfl), iteF ?_⟩
      rw [behS_app] at hxs
      obtain ⟨e0, es, rfl, he0, hes⟩ := hxs
      obtain ⟨es', e', rfl, hes', he'⟩ := paired_last hes
      have hlast : (e0 :: (es' ++ [e']))[(e0 :: (es' ++ [e'])).length - 1]? = some e' := by
        rw [List.length_cons, Nat.add_sub_cancel, List.length_append, List.length_singleton]
        show (e0 :: (es' ++ [e']))[es'.length + 1]? = some e'
        rw [List.getElem?_cons_succ, List.getElem?_append_right (Nat.le_refl _), Nat.sub_self]
        rfl
      have hdrop : (e0 :: (es' ++ [e'])).dropLast = e0 :: es' := by
        show ((e0 :: es') ++ [e']).dropLast = _
        rw [List.dropLast_concat]
      obtain ⟨ae, vse, voe, re, _⟩ := id he'
      have hmem : V.ref ae ∈ e0 :: (es' ++ [e']) := by rw [re]; simp
      refine ⟨_, rfl, _, rfl, lp, _, rfl, .inl (SqL.of b1.hp), _, 1, rfl, rfl, _, rfl, ite_yes elen ⟨_, rfl, .inl ⟨rfl, _, SqL.of b1.hp⟩, lp, _, e', rfl, rfl, b1.hp, hlast, (by show 1 ≤ sizeLine; decide), fun l hl2 => ?_⟩⟩
      rw [hdrop] at hl2 ⊢
      have b2 := b1.popP (zs := e0 :: es') hmem
      have nl2 : KNl H1 (upd H1 lp (.lst (e0 :: es'))) := KNl.upd b1.hp
      have ki2 : KIm H1 (upd H1 lp (.lst (e0 :: es'))) := KIm.pop b1.hp hmem
      generalize upd H1 lp (.lst (e0 :: es')) = H2 at b2 nl2 ki2 hl2 ⊢
      have s3 : Same H2 (upd H2 l (.lst [e'])) := Same_new hl2
      refine ⟨lf, l, ys, [e'], rfl, rfl, s3 _ _ b2.hf, upd_same, by rw [lys]; exact Nat.le_trans (show _ ≤ 100 by show fs.length + 1 ≤ 100; omega) (by decide), fun l2 hl3 => ?_⟩
      have s4 := Same_new (o := .lst (ys ++ [e'])) hl3
      have s24 := Same_trans s3 s4
      have b4 := b2.newF s24 (s3.free hl3) (zs := ys ++ [e']) upd_same
      have kiA := ki1.trans (ki2.trans (Same_kim s24))
      have hr1 : runS S (s0 lay) (ps' ++ [op]) = stepS S (runS S (s0 lay) ps') op := runS_app S ps' [op] (s0 lay)
      rw [hr1] at hd1 hys
      exact k _ _ ⟨r, pS, pl, x, st, sa, lp, l2, e0 :: es', ys ++ [e'], ps', op :: fs, v7, v8, v9, v10, v11, rfl, b4, (hd1.nl nl2).same s24, by rw [List.append_assoc] at va; exact va, by rw [List.length_cons]; omega, EntsP.keep kiA ⟨e0, es', rfl, he0, hes'⟩, paired_app (PEs.keep kiA hys) (.cons (PE.keep kiA he') .nil)⟩
  case gRedo =>
    clear h
    obtain ⟨ra, S, lay, m, g, gl, hm, ⟨r, pS, pl, x, st, sa, lp, lf, xs, ys, ps, fs, v7, v8, v9, v10, v11, rfl, b, hd, va, hl, hxs, hys⟩, k⟩ := hh
    obtain ⟨⟨dx, hx⟩, hst, nss⟩ := id b.live
    have lxs := hxs.len
    rw [behS_len] at lxs
    have lys := Paired.length hys
    rw [undF_len] at lys
    have lpast : (histS S (s0 lay) ps).length ≤ 1000 := by rw [histS_len]; omega
    cases fs with
    | nil =>
      have ey : ys = [] := List.length_eq_zero_iff.mp lys
      subst ey
      refine ⟨_, rfl, x, dx, _, rfl, hx, rfl, x, st, sa, _, _, _, rfl, ⟨dx, hx⟩, hd, lpast, fun _ H1 s1 => ?_, fun und0 op sc1 e => absurd e (by simp [undF])⟩
      have b1 := b.same s1
      refine ⟨_, rfl, Nat.zero_le _, fun q hq => ?_⟩
      have s2 : Same H1 (upd H1 q (.lst [])) := Same_new hq
      have q2 : (upd H1 q (.lst [])) q = some (.lst []) := upd_same
      generalize upd H1 q (.lst ([] : List V)) = H2 at s2 q2 ⊢
      have b2 := b1.same s2
      refine ⟨lf, q, [], rfl, rfl, SqL.of b2.hf, SqL.of q2, rfl, _, rfl, iteF ?_⟩
      refine ⟨_, rfl, _, rfl, Nat.zero_le _, fun q3 hq3 => ?_⟩
      have s3 : Same H2 (upd H2 q3 (.lst [])) := Same_new hq3
      have e3 : (upd H2 q3 (.lst [])) q3 = some (.lst []) := upd_same
      show ∃ a b xs, _
      generalize upd H2 q3 (.lst ([] : List V)) = H3 at s3 e3 ⊢
      have b3 := b2.same s3
      refine ⟨lf, q3, [], rfl, rfl, SqL.of b3.hf, SqL.of e3, _, rfl, iteF ⟨Nat.zero_le _, fun l hl2 => ?_⟩⟩
      have s4 : Same H3 (upd H3 l (.lst [])) := Same_new hl2
      refine ⟨lp, l, xs, [], rfl, rfl, s4 _ _ b3.hp, upd_same, by rw [lxs]; exact Nat.le_trans (show _ ≤ 100 by show ps.length + 1 + 0 ≤ 100; omega) (by decide), fun l2 hl3 => ?_⟩
      have s5 := Same_new (o := .lst (xs ++ [])) hl3
      have s35 := Same_trans s4 s5
      have sA := Same_trans s1 (Same_trans s2 (Same_trans s3 s35))
      have b5 := b3.newP s35 (s4.free hl3) (zs := xs ++ []) upd_same
      rw [List.append_nil] at b5 sA ⊢
      exact k _ _ ⟨r, pS, pl, x, st, sa, l2, lf, xs, [], ps, [], v7, v8, v9, v10, v11, rfl, b5, hd.same sA, va, by omega, hxs.keep (Same_kim sA), .nil⟩
    | cons op fs =>
      have hu : undF S (runS S (s0 lay) ps) (op :: fs) = undF S (stepS S (runS S (s0 lay) ps) op) fs ++ [(op, stepS S (runS S (s0 lay) ps) op)] := rfl
      rw [hu] at hys
      obtain ⟨ys', e', rfl, hys', he'⟩ := paired_last hys
      have hne : (ys' ++ [e']).isEmpty = false := by cases ys' <;> rfl
      refine ⟨_, rfl, x, dx, _, rfl, hx, rfl, x, st, sa, _, _, _, rfl, ⟨dx, hx⟩, hd, lpast, fun z => absurd z (by rw [hu]; simp), fun und0 op1 sc1 e H1 kb hd1 => ?_⟩
      rw [hu] at e
      obtain ⟨e1, e2⟩ := List.append_inj' e rfl
      have e3 : (op, stepS S (runS S (s0 lay) ps) op) = (op1, sc1) := by injection e2
      injection e3 with e4 e5
      subst e1 e4 e5
      have b1 := b.slot kb hd
      have ki1 := kb.kim hd.notIm
      refine ⟨_, rfl, Nat.zero_le _, fun q hq => ?_⟩
      have s2 : Same H1 (upd H1 q (.lst [])) := Same_new hq
      have q2 : (upd H1 q (.lst [])) q = some (.lst []) := upd_same
      generalize upd H1 q (.lst ([] : List V)) = H2 at s2 q2 ⊢
      have b2 := b1.same s2
      refine ⟨lf, q, ys' ++ [e'], rfl, rfl, SqL.of b2.hf, SqL.of q2, rfl, _, rfl, ?_⟩
      rw [hne]
      refine iteF ?_
      obtain ⟨ae, vse, voe, re, _⟩ := id he'
      have hmem : V.ref ae ∈ ys' ++ [e'] := by rw [re]; simp
      have hlast : (ys' ++ [e'])[(ys' ++ [e']).length - 1]? = some e' := by
        rw [List.length_append, List.length_singleton, Nat.add_sub_cancel, List.getElem?_append_right (Nat.le_refl _), Nat.sub_self]
        rfl
      have hdrop : (ys' ++ [e']).dropLast = ys' := List.dropLast_concat
      refine ⟨_, rfl, _, rfl, Nat.zero_le _, fun q3 hq3 => ?_⟩
      have s3 : Same H2 (upd H2 q3 (.lst [])) := Same_new hq3
      have e3 : (upd H2 q3 (.lst [])) q3 = some (.lst []) := upd_same
      show ∃ a b xs, _
      generalize upd H2 q3 (.lst ([] : List V)) = H3 at s3 e3 ⊢
      have b3 := b2.same s3
      refine ⟨lf, q3, ys' ++ [e'], rfl, rfl, SqL.of b3.hf, SqL.of e3, _, rfl, ?_⟩
      rw [hne]
      refine iteT ⟨_, rfl, .inl ⟨rfl, _, SqL.of b3.hf⟩, lf, _, e', rfl, rfl, b3.hf, hlast, (by show 1 ≤ sizeLine; decide), fun l hl2 => ?_⟩
      rw [hdrop] at hl2 ⊢
      have b4 := b3.popF (zs := ys') hmem
      have nl4 : KNl H3 (upd H3 lf (.lst ys')) := KNl.upd b3.hf
      have ki4 : KIm H3 (upd H3 lf (.lst ys')) := KIm.pop b3.hf hmem
      generalize upd H3 lf (.lst ys') = H4 at b4 nl4 ki4 hl2 ⊢
      have s5 : Same H4 (upd H4 l (.lst [e'])) := Same_new hl2
      refine ⟨lp, l, xs, [e'], rfl, rfl, s5 _ _ b4.hp, upd_same, by rw [lxs]; exact Nat.le_trans (show _ ≤ 100 by show ps.length + 1 + 1 ≤ 100; omega) (by decide), fun l2 hl3 => ?_⟩
      have s6 := Same_new (o := .lst (xs ++ [e'])) hl3
      have s46 := Same_trans s5 s6
      have b6 := b4.newP s46 (s5.free hl3) (zs := xs ++ [e']) upd_same
      have s13 := Same_trans s2 s3
      have kiA := ki1.trans ((Same_kim s13).trans (ki4.trans (Same_kim s46)))
      have hr1 : runS S (s0 lay) (ps ++ [op]) = stepS S (runS S (s0 lay) ps) op := runS_app S ps [op] (s0 lay)
      have hh1 : histS S (s0 lay) (ps ++ [op]) = histS S (s0 lay) ps ++ [(op, runS S (s0 lay) ps)] := histS_app S ps [op] (s0 lay)
      have hb1 : behS S (s0 lay) (ps ++ [op]) = behS S (s0 lay) ps ++ [(op, stepS S (runS S (s0 lay) ps) op)] := behS_app S ps [op] (s0 lay)
      obtain ⟨e0, es, rfl, he0, hes⟩ := hxs.keep kiA
      rw [List.length_cons] at hl
      exact k _ _ ⟨r, pS, pl, x, st, sa, l2, lf, _, ys', ps ++ [op], fs, v7, v8, v9, v10, v11, rfl, b6, by rw [hr1, hh1]; exact ((hd1.same s13).nl nl4).same s46, by rw [List.append_assoc]; exact va, by rw [List.length_append, List.length_singleton]; omega, ⟨e0, es ++ [e'], rfl, he0, by rw [hb1]; exact paired_app hes (.cons (PE.keep kiA he') .nil)⟩, by rw [hr1]; exact PEs.keep kiA hys'⟩
  case gStep =>
    clear h
    obtain ⟨ra, S, lay, m, g, gl, hm, ⟨r, pS, pl, x, st, sa, lp, lf, xs, ys, ps, fs, v7, v8, v9, v10, v11, rfl, b, hd, va, hl, hxs, hys⟩, k⟩ := hh
    obtain ⟨⟨dx, hx⟩, hst, nss⟩ := id b.live
    have lxs := hxs.len
    rw [behS_len] at lxs
    have lys := Paired.length hys
    rw [undF_len] at lys
    obtain ⟨va1, _⟩ := (validS_app S ps fs (s0 lay)).mp va
    have gd := good_run (good_start gl) va1
    rw [Nat.zero_add] at gd
    obtain ⟨a, vs, vo0, hlast, ha, hscn⟩ := hxs.last
    refine ⟨_, rfl, _, rfl, _, rfl, 1, rfl, lp, xs, -1, .ref a, rfl, rfl, SqL.of b.hp, hlast, a, _, 0, vs, rfl, rfl, SqT.of ha, rfl, r, ra, pS, S, ps.length, _, vs, rfl, b.row, b.sch, g, hscn, gd, by omega, fun H1 q vo vs' vr op kb1 row1 hq ho1 hs1 hdr va2 => ?_⟩
    refine ⟨q, _, rfl, SqT.of hq, rfl, _, _, rfl, _, _, rfl, _, _, rfl, rfl, ?_⟩
    have b1 := b.rowM kb1 row1
    have nl1 := b.row.nl kb1
    have ki1 := kb1.kim b.row.notIm
    have hd1 := hd.nl nl1
    have hxs1 := hxs.keep ki1
    obtain ⟨⟨dx1, hx1⟩, _⟩ := id b1.live
    refine ⟨_, rfl, x, dx1, _, rfl, hx1, rfl, _, rfl, (by show 1 ≤ sizeLine; decide), fun l hl2 => ?_⟩
    have s2 : Same H1 (upd H1 l (.lst [vo])) := Same_new hl2
    have z2 : (upd H1 l (.lst [vo])) l = some (.lst [vo]) := upd_same
    generalize upd H1 l (.lst [vo]) = H2 at s2 z2 ⊢
    have b2 := b1.same s2
    have hd2 := hd1.same s2
    refine ⟨x, st, sa, S, ps.length, _, _, _, l, [vo], [op], rfl, z2, .cons (ho1.keep (Same_kim s2)) .nil, b2.live, hd2, g, gd, ⟨va2, trivial⟩, ⟨by rw [histS_len]; show ps.length + 1 ≤ 900; omega, by show ps.length + 1 ≤ 900; omega⟩, fun H3 l3 acc kb3 nl3 hl3 hres hd3 => ?_⟩
    have b3 := b2.slot kb3 hd2
    have ki3 := kb3.kim hd2.notIm
    obtain ⟨f0, p0, k0, u0, hsl⟩ := hd2.slot
    have kt3 := kb3.ktup hsl.notTup
    have hres' : ∃ v, acc = [v] ∧ Dp K H3 v (resD S (runS S (s0 lay) ps) op) := by
      cases hres with
      | cons q t =>
        cases t
        exact ⟨_, rfl, q.1⟩
    obtain ⟨v, rfl, hv⟩ := hres'
    refine ⟨_, rfl, (by show 1 ≤ sizeLine; decide), fun l4 hl4 => ?_⟩
    have s4 : Same H3 (upd H3 l4 (.lst [vr])) := Same_new hl4
    have z4 : (upd H3 l4 (.lst [vr])) l4 = some (.lst [vr]) := upd_same
    generalize upd H3 l4 (.lst [vr]) = H4 at s4 z4 ⊢
    have flat := resD_flat S (runS S (s0 lay) ps) op
    have hdr4 : Dp K H4 vr (resD S (runS S (s0 lay) ps) op) := dp_flat (KTup.same s4) flat (dp_flat kt3 flat (dp_flat (KTup.same s2) flat hdr))
    have hv4 : Dp K H4 v (resD S (runS S (s0 lay) ps) op) := dp_flat (KTup.same s4) flat hv
    refine ne_dp (d := .list [resD S (runS S (s0 lay) ps) op]) (n := 2) (.lst (SqL.of (s4 _ _ hl3)) (.cons hv4 .nil)) (.lst (SqL.of z4) (.cons hdr4 .nil)) (shp_list fun d hd => by rw [List.mem_singleton.mp hd]; exact shp_res g gd va2) (by decide) ⟨false, rfl, iteF ?_⟩
    have b4 := b3.same s4
    refine ⟨_, rfl, _, rfl, _, rfl, (by show 2 ≤ sizeLine; decide), fun t ht => ⟨(by show 1 ≤ sizeLine; decide), fun l5 hl5 => ?_⟩⟩
    have s5 : Same H4 (upd H4 t (.tup [vs', vo])) := Same_new ht
    have t5 : (upd H4 t (.tup [vs', vo])) t = some (.tup [vs', vo]) := upd_same
    generalize upd H4 t (.tup [vs', vo]) = H5 at s5 t5 hl5 ⊢
    have s6 : Same H5 (upd H5 l5 (.lst [.ref t])) := Same_new hl5
    have z6 : (upd H5 l5 (.lst [.ref t])) l5 = some (.lst [.ref t]) := upd_same
    generalize upd H5 l5 (.lst [V.ref t]) = H6 at s6 z6 ⊢
    have s46 := Same_trans s5 s6
    have b6 := b4.same s46
    refine ⟨lp, l5, xs, [.ref t], rfl, rfl, b6.hp, z6, by rw [lxs]; exact Nat.le_trans (show _ ≤ 100 by show ps.length + 1 + 1 ≤ 100; omega) (by decide), fun l6 hl6 => ?_⟩
    have s7 : Same H6 (upd H6 l6 (.lst (xs ++ [.ref t]))) := Same_new hl6
    have b7 := b6.newP s7 hl6 (zs := xs ++ [.ref t]) upd_same
    generalize upd H6 l6 (.lst (xs ++ [V.ref t])) = H7 at s7 b7 ⊢
    refine ⟨Nat.zero_le _, fun l7 hl7 => ⟨_, _, rfl, ?_⟩⟩
    have s8 := Same_new (o := .lst []) hl7
    have b8 := b7.newF s8 hl7 (zs := []) upd_same
    have s58 := Same_trans s6 (Same_trans s7 s8)
    have s48 := Same_trans s5 s58
    have s38 := Same_trans s4 s48
    have kiA := ki1.trans ((Same_kim s2).trans (ki3.trans (Same_kim s38)))
    have kiB := (Same_kim s2).trans (ki3.trans (Same_kim s38))
    have hr1 : runS S (s0 lay) (ps ++ [op]) = stepS S (runS S (s0 lay) ps) op := runS_app S ps [op] (s0 lay)
    have hh1 : histS S (s0 lay) (ps ++ [op]) = histS S (s0 lay) ps ++ [(op, runS S (s0 lay) ps)] := histS_app S ps [op] (s0 lay)
    have hb1 : behS S (s0 lay) (ps ++ [op]) = behS S (s0 lay) ps ++ [(op, stepS S (runS S (s0 lay) ps) op)] := behS_app S ps [op] (s0 lay)
    obtain ⟨e0, es, rfl, he0, hes⟩ := hxs.keep kiA
    refine k _ _ ⟨r, pS, pl, x, st, sa, l6, l7, _, [], ps ++ [op], [], v7, v8, _, _, _, rfl, b8, by rw [hr1, hh1]; exact hd3.same s38, by rw [List.append_nil]; exact (validS_app S ps [op] (s0 lay)).mpr ⟨va1, va2, trivial⟩, by rw [List.length_append, List.length_singleton, List.length_nil]; omega, ⟨e0, es ++ [.ref t], rfl, he0, ?_⟩, .nil⟩
    rw [hb1]
    exact paired_app hes (.cons ⟨t, vs', vo, rfl, s58 _ _ t5, hs1.keep kiB, ho1.keep kiB⟩ .nil)
  case gShow =>
    clear h
    obtain ⟨ra, S, lay, m, g, gl, hm, ⟨r, pS, pl, x, st, sa, lp, lf, xs, ys, ps, fs, v7, v8, v9, v10, v11, rfl, b, hd, va, hl, hxs, hys⟩, k⟩ := hh
    obtain ⟨⟨dx, hx⟩, hst, nss⟩ := id b.live
    have lxs := hxs.len
    rw [behS_len] at lxs
    have lys := Paired.length hys
    rw [undF_len] at lys
    obtain ⟨va1, _⟩ := (validS_app S ps fs (s0 lay)).mp va
    have gd := good_run (good_start gl) va1
    rw [Nat.zero_add] at gd
    obtain ⟨a, vs, vo0, hlast, ha, hscn⟩ := hxs.last
    have kw : KW (runS S (s0 lay) ps) := kw_run (fun p hp => by cases hp) va1
    refine ⟨_, rfl, _, rfl, 1, rfl, lp, xs, -1, .ref a, rfl, rfl, SqL.of b.hp, hlast, a, _, 0, vs, rfl, rfl, SqT.of ha, rfl, x, st, sa, S, ps.length, _, _, _, vs, rfl, ⟨dx, hx⟩, hd, hscn, g, gd, by omega, kw, fun H1 s1 => ⟨true, rfl, iteF ?_⟩⟩
    exact k _ _ ⟨r, pS, pl, x, st, sa, lp, lf, xs, ys, ps, fs, v7, v8, v9, v10, v11, rfl, b.same s1, hd.same s1, va, hl, hxs.keep (Same_kim s1), PEs.keep (Same_kim s1) hys⟩
  case main =>
    obtain ⟨a, ns, rfl, hS, _, k⟩ := h
    refine ⟨_, rfl, (by show 4 ≤ sizeLine; decide), fun r hr0 => ?_⟩
    have kb0 : KBut r H (upd H r (.lst [.ref a, .int 0, .int 0, .int 0])) := fun b o e n => by rw [upd_ne n]; exact e
    have row0 : RowAt K (upd H r (.lst [.ref a, .int 0, .int 0, .int 0])) r a := ⟨ns, 0, 0, 0, (ScrS.new hS hr0).but kb0, upd_same, by decide, by decide, by decide, by decide⟩
    generalize upd H r (.lst [.ref a, .int 0, .int 0, .int 0]) = H0 at row0 ⊢
    refine ⟨_, rfl, r, a, rfl, row0, fun H1 pS S kb1 row1 hSch g => ?_⟩
    refine ⟨_, rfl, _, rfl, pS, S, rfl, hSch, g, fun H2 l xs lays s2 hl hlays hgl h1 h2 => ?_⟩
    have row2 := row1.same s2
    have lxs := Paired.length hlays
    have nlr : l ≠ r := fun z => by
      obtain ⟨ns', i', j', k', _, h3, _⟩ := row2
      rw [← z, hl] at h3
      have e : xs = [.ref a, .int i', .int j', .int k'] := by injection (Option.some.inj h3)
      obtain ⟨y, hy, p, hp, _⟩ := paired_at hlays (i := 1) (x := .int i') (by rw [e]; rfl)
      cases hp
    refine ⟨r, a, l, xs, rfl, row2, .inl ⟨hl, nlr⟩, ⟨by omega, by omega⟩, fun H3 i v kb3 row3 hv => ?_⟩
    obtain ⟨lay, hlay, pl, rfl, hpl2⟩ := paired_at hlays hv
    have gl := hgl lay (List.mem_of_getElem? hlay)
    have ki3 := kb3.kim row2.notIm
    have hpl := hpl2.keep ki3
    have sch3 := (hSch.keep (Same_kim s2)).keep ki3
    refine ⟨_, rfl, pS, S, rfl, sch3, g, fun H4 st s4 hst => ⟨_, rfl, fun x dx nx ndx nex => ⟨H4, x, dx, st, pl, S, lay, rfl, rfl, nx, ndx, nex, hst, g, hpl.same s4, gl, fun H5 sa s5 na hL hd => ⟨rfl, ?_⟩⟩⟩⟩
    have s35 := Same_trans s4 s5
    have row5 := row3.same s35
    have sch5 := sch3.keep (Same_kim s35)
    have hpl5 := hpl.same s35
    refine ⟨_, rfl, Nat.zero_le _, fun ld hld kd hkd => ⟨(by show 4 ≤ sizeLine; decide), fun t1 ht1 => ?_⟩⟩
    have s6 : Same H5 (upd H5 ld (.lst [])) := Same_new hld
    have z6 : (upd H5 ld (.lst [])) ld = some (.lst []) := upd_same
    generalize upd H5 ld (.lst ([] : List V)) = H6 at s6 z6 hkd ht1 ⊢
    have s7 : Same H6 (upd H6 kd (.dK [])) := Same_new hkd
    have z7 : (upd H6 kd (.dK [])) kd = some (.dK []) := upd_same
    generalize upd H6 kd (.dK []) = H7 at s7 z7 ht1 ⊢
    have s8 : Same H7 (upd H7 t1 (.tup [.ref pl, .int 0, .ref ld, .ref kd])) := Same_new ht1
    have z8 : (upd H7 t1 (.tup [.ref pl, .int 0, .ref ld, .ref kd])) t1 = some (.tup [.ref pl, .int 0, .ref ld, .ref kd]) := upd_same
    generalize upd H7 t1 (.tup [.ref pl, .int 0, .ref ld, .ref kd]) = H8 at s8 z8 ⊢
    refine ⟨(by show 2 ≤ sizeLine; decide), fun t2 ht2 => ⟨(by show 1 ≤ sizeLine; decide), fun lp hlp => ⟨Nat.zero_le _, fun lf hlf => ⟨_, _, _, rfl, ?_⟩⟩⟩⟩
    have s9 : Same H8 (upd H8 t2 (.tup [.ref t1, .non])) := Same_new ht2
    have z9 : (upd H8 t2 (.tup [.ref t1, .non])) t2 = some (.tup [.ref t1, .non]) := upd_same
    generalize upd H8 t2 (.tup [.ref t1, .non]) = H9 at s9 z9 hlp hlf ⊢
    have s59 := Same_trans s6 (Same_trans s7 (Same_trans s8 s9))
    have row9 := row5.same s59
    obtain ⟨q9, hq9⟩ := row9.isLst
    have sA : Same H9 (upd H9 lp (.lst [.ref t2])) := Same_new hlp
    have zA : (upd H9 lp (.lst [.ref t2])) lp = some (.lst [.ref t2]) := upd_same
    have npr : lp ≠ r := (ne_of_none hq9 hlp).symm
    generalize upd H9 lp (.lst [.ref t2]) = HA at sA zA hlf ⊢
    have nfr : lf ≠ r := (ne_of_none (sA _ _ hq9) hlf).symm
    have npf : lp ≠ lf := ne_of_none zA hlf
    have sB : Same HA (upd HA lf (.lst [])) := Same_new hlf
    have zB : (upd HA lf (.lst [])) lf = some (.lst []) := upd_same
    generalize upd HA lf (.lst ([] : List V)) = HB at sB zB ⊢
    have s8B := Same_trans s9 (Same_trans sA sB)
    have s7B := Same_trans s8 s8B
    have s5B := Same_trans s59 (Same_trans sA sB)
    have inv0 : LInv K a S lay 0 [some (.ref a), some (.ref r), some (.ref pS), some (.ref pl), some (.ref x), some (.ref lp), some (.ref lf), none, none, none, none, none, none, none, none] HB :=
      ⟨r, pS, pl, x, st, sa, lp, lf, [.ref t2], [], [], [], none, none, none, none, none, rfl, ⟨row5.same s5B, sch5.keep (Same_kim s5B), hpl5.same s5B, hL.same s5B, sB _ _ zA, zB, npr, nfr, npf⟩, hd.same s5B, trivial, Nat.le_refl _,
        ⟨.ref t2, [], rfl, ⟨t2, .ref t1, rfl, sB _ _ (sA _ _ z9), t1, pl, ld, kd, rfl, s8B _ _ z8, hpl5.same s5B, s7B _ _ (s7 _ _ z6), kd, [], rfl, s7B _ _ z7, .nil⟩, .nil⟩, .nil⟩
    refine ⟨_, rfl, r, a, 41, rfl, row5.same s5B, ⟨by decide, by decide⟩, fun HC d kbC rowC hd41 => ⟨(d : Nat), rfl, by omega, by omega, ?_⟩⟩
    rw [Int.toNat_natCast]
    have invC : LInv K a S lay 0 [some (.ref a), some (.ref r), some (.ref pS), some (.ref pl), some (.ref x), some (.ref lp), some (.ref lf), none, none, none, none, none, none, none, none] HC := by
      have row' := row5.same s5B
      have ki := kbC.kim row'.notIm
      have nl := row'.nl kbC
      exact ⟨r, pS, pl, x, st, sa, lp, lf, [.ref t2], [], [], [], none, none, none, none, none, rfl, LBase.rowM kbC rowC ⟨row', sch5.keep (Same_kim s5B), hpl5.same s5B, hL.same s5B, sB _ _ zA, zB, npr, nfr, npf⟩, (hd.same s5B).nl nl, trivial, Nat.le_refl _,
        EntsP.keep ki ⟨.ref t2, [], rfl, ⟨t2, .ref t1, rfl, sB _ _ (sA _ _ z9), t1, pl, ld, kd, rfl, s8B _ _ z8, hpl5.same s5B, s7B _ _ (s7 _ _ z6), kd, [], rfl, s7B _ _ z7, .nil⟩, .nil⟩, .nil⟩
    refine for_it (walk_rng (n := d)) (fun i σ H' => LInv K a S lay i σ H') invC (fun _ _ _ _ _ => trivial) ?_ ?_
    · rintro i v σ HD' HD hi ⟨r, pS, pl, x, st, sa, lp, lf, xs, ys, ps, fs, v7, v8, v9, v10, v11, rfl, b, hd, va, hl, hxs, hys⟩ ⟨rfl, rfl⟩
      refine ⟨_, rfl, r, a, 6, rfl, b.row, ⟨by decide, by decide⟩, fun HE kind kbE rowE hk6 => ?_⟩
      have bE := b.rowM kbE rowE
      have ki := kbE.kim b.row.notIm
      have inv1 : LInv K a S lay i [some (.ref a), some (.ref r), some (.ref pS), some (.ref pl), some (.ref x), some (.ref lp), some (.ref lf), some (.int (i : Nat)), some (.int (kind : Nat)), v9, v10, v11, none, none, none] HE :=
        ⟨r, pS, pl, x, st, sa, lp, lf, xs, ys, ps, fs, _, _, v9, v10, v11, rfl, bE, hd.nl (b.row.nl kbE), va, hl, hxs.keep ki, PEs.keep ki hys⟩
      exact ⟨_, rfl, rfl, _, rfl, ite_b (fun _ => ⟨a, S, lay, i, g, gl, by omega, inv1, fun σ' H' h' => ⟨a, S, lay, i + 1, g, gl, by omega, h', fun _ _ z => z⟩⟩)
        (fun _ => ⟨_, rfl, rfl, _, rfl, ite_b (fun _ => ⟨a, S, lay, i, g, gl, by omega, inv1, fun σ' H' h' => ⟨a, S, lay, i + 1, g, gl, by omega, h', fun _ _ z => z⟩⟩)
          (fun _ => ⟨a, S, lay, i, g, gl, by omega, inv1, fun σ' H' h' => ⟨a, S, lay, i + 1, g, gl, by omega, h', fun _ _ z => z⟩⟩)⟩)⟩
    · rintro σ HD ⟨r, pS, pl, x, st, sa, lp, lf, xs, ys, ps, fs, v7, v8, v9, v10, v11, rfl, b, hd, va, hl, hxs, hys⟩
      obtain ⟨⟨dx, hx⟩, hst, nss⟩ := id b.live
      obtain ⟨va1, _⟩ := (validS_app S ps fs (s0 lay)).mp va
      have gd := good_run (good_start gl) va1
      rw [Nat.zero_add] at gd
      have kw0 : KW (s0 lay) := fun p hp => by cases hp
      have kw : KW (runS S (s0 lay) ps) := kw_run kw0 va1
      obtain ⟨al, vs, vo0, hlast, ha, hscn⟩ := hxs.last
      obtain ⟨e0, es, rfl, he0, hes⟩ := id hxs
      obtain ⟨os, hos, hop⟩ := pe_ops hes
      rw [behS_ops] at hop
      have l1 := Paired.length hos
      have l2 := Paired.length hop
      have shp : Shp 2 (.list (ps.map opD)) := shp_list (shp_ops g kw0 va1)
      refine ⟨_, rfl, 1, rfl, lp, _, rfl, SqL.of b.hp, fun l2 hl2 => ?_⟩
      have ec : cutV (e0 :: es) (some 1) none = es := by rw [cut_tail (e0 :: es) (by rw [List.length_cons]; exact Nat.succ_pos _)]; rfl
      rw [ec]
      have s2 : Same HD (upd HD l2 (.lst es)) := Same_new hl2
      have z2 : (upd HD l2 (.lst es)) l2 = some (.lst es) := upd_same
      generalize upd HD l2 (.lst es) = HE at s2 z2 ⊢
      refine ⟨l2, rfl, ⟨_, SqL.of z2⟩, fun D hD => lc_pv (walk_list (xs := es)) (fun i => os[i]?.bind fun o => some (id o)) hD (fun H3 sm => SqL.of (sm _ _ z2)) ?_ ?_⟩
      · rintro i v H3' H3 hi pv ⟨rfl, hv⟩
        obtain ⟨o, ho, a', vs', rfl, ha'⟩ := paired_at hos hv
        refine ⟨rfl, ?_⟩
        exact ⟨_, rfl, a', _, 1, o, rfl, rfl, SqT.of (pv.1 _ _ (s2 _ _ ha')), rfl, pvL_put hD pv (Same.refl _) (bind_at ho) (by omega)⟩
      · intro H3 ⟨s3, hD3⟩
        rw [l1, resL_map, List.map_id] at hD3
        have s03 := Same_trans s2 s3
        have b3 := b.same s03
        have hd3 := hd.same s03
        obtain ⟨⟨dx3, hx3⟩, _⟩ := id b3.live
        refine ⟨_, rfl, x, dx3, _, rfl, hx3, x, st, sa, _, _, _, rfl, ⟨dx3, hx3⟩, hd3, by rw [histS_len]; omega, fun p os2 H4 s4 hp2 hop2 => ?_⟩
        rw [histS_ops] at hop2
        have s04 := Same_trans s03 s4
        have hop4 : Paired (OpH H4) os ps := Paired_mono hop fun _ _ z => z.keep (Same_kim s04)
        refine ⟨_, rfl, ne_dp (d := .list (ps.map opD)) (n := 2) (.lst (SqL.of hp2) (ops_dp hop2)) (.lst (SqL.of (s4 _ _ hD3)) (ops_dp hop4)) shp (by decide) ⟨false, rfl, iteF ?_⟩⟩
        have b4 := b3.same s4
        refine ⟨rfl, _, rfl, pS, S, rfl, b4.sch, g, fun H5 st2 s5 hst2 => ⟨_, rfl, _, rfl, st2, pl, D, S, lay, os, ps, rfl, hst2, g, b4.tup.same s5, gl, s5 _ _ (s4 _ _ hD3), Paired_mono hop4 fun _ _ z => z.keep (Same_kim s5), va1, by omega, fun H6 x2 sa2 s6 hL6 hd6 => ?_⟩⟩
        have s06 := Same_trans s04 (Same_trans s5 s6)
        have s46 := Same_trans s5 s6
        obtain ⟨⟨dx6, hx6⟩, _⟩ := id hL6
        refine ⟨_, rfl, _, rfl, 1, rfl, lp, _, -1, .ref al, rfl, rfl, SqL.of (s06 _ _ b.hp), hlast, al, _, 0, vs, rfl, rfl, SqT.of (s06 _ _ ha), rfl, x2, st2, sa2, S, ps.length, _, _, _, vs, rfl, ⟨dx6, hx6⟩, hd6, hscn.keep (Same_kim s06), g, gd, by omega, kw, fun H7 s7 => ⟨true, rfl, ?_⟩⟩
        refine ⟨_, rfl, x2, dx6, _, rfl, s7 _ _ hx6, x2, st2, sa2, _, _, _, rfl, ⟨dx6, s7 _ _ hx6⟩, hd6.same s7, by rw [histS_len]; omega, fun p3 os3 H8 s8 hp3 hop3 => ?_⟩
        rw [histS_ops] at hop3
        have s48 := Same_trans s46 (Same_trans s7 s8)
        exact ⟨_, rfl, eq_dp (d := .list (ps.map opD)) (n := 2) (.lst (SqL.of hp3) (ops_dp hop3)) (.lst (SqL.of (s48 _ _ (s4 _ _ hD3))) (ops_dp (Paired_mono hop4 fun _ _ z => z.keep (Same_kim s48)))) shp (by decide) (k _)⟩
end
end Ck
set_option Elab.async false
set_option linter.all false
set_option maxRecDepth 100000
set_option maxHeartbeats 4000000
namespace Ck
open PySem PySem.Spec PyProof.Rows L2
theorem walk {l : PySem.W.OpenLaw} {q : Program} {loose : List Str} {XP : (Str → Option Value) → Heap → Prop} {YP : World → Heap → Prop} {d : DefRec} {K : Params → PySem.W.Frag} (hn : l.most = some 63) (hdf : d.params.defaults = []) (hnm : d.name = "law")
    (hY : ∀ (w : World) (h : Heap), YP w h → (K w.params).In h) (F : ∀ w : World, Says w (K w.params)) :
    PySem.W.WalkO q loose XP YP l.row.toRowW d [] (fun f vs => PySem.call f vs) := by
  refine L2.walk_of (n := 63) (k := 13) (x := "_law_script") (CX := fun _ => CX0) (sp := fun w => spLaw (K w.params)) hn (by decide) hdf ⟨rfl, by decide, by decide⟩ hY (fun w mg fa h KX G hmg => ?_) (fun _ _ a ns hl _ hS => ⟨a, ns, rfl, hS, hl, fun _ => rfl⟩) fun _ _ _ _ _ z => z
  have T : Txt w (K w.params) mg := txt_of (F w) KX G
  rw [hnm, T.g_law] at hmg
  obtain ⟨fd, F0⟩ := T.f_law
  cases hmg
  have len : ∀ vs H Q E, spLaw (K w.params) vs H Q E → vs.length = (["_law_script"] : List Str).length := fun vs H Q E h => by
    obtain ⟨a, ns, rfl, _⟩ := h
    rfl
  refine ⟨fd, fun s v => ?_, fun base _ _ => F0.ok (k := 12) sc_Law len fun cdv A outer s H vs Q E hr h => body_law T _ cdv A outer s H vs Q E hr h⟩
  obtain ⟨oc, od, kV, doc, pm, an, cdv, ct, osl, rfl, lk, hcd⟩ := F0.ex
  exact .of_eq rfl
end Ck
open PySem PySem.W PyProof.Rows
set_option maxRecDepth 100000 in
set_option maxHeartbeats 0 in
theorem PySem.Challenge.cw_coldcrates_k70_whole_lives_of_long_histo_holds : PySem.Challenge.rw_coldcrates_k70_whole_lives_of_long_histo.Holds := by
  w_on; o_law; k_head; (case hw => w_witness2)
  k_fill
  refine Ck.walk (l := PySem.Challenge.rw_coldcrates_k70_whole_lives_of_long_histo) rfl rfl rfl (fun w h Y => PySem.W.kIn_of Y) ?F
  intro w
  refine ⟨?a, ?e, ?d⟩
  case a =>
    show He5.obsA Ck.fa Ck.fn _ = He5.valA Ck.fn
    kernel_rfl
  case e => kernel_rfl
  case d => kernel_rfl
