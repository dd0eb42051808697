import PyProof.Rows.All
import PyProof.DictCopy
import PyProof.DictUpdate
import HandS.EndBits
import KE.GoesEnum
import HandS.EndTab
import HandS.HeadHook4
import HandS.HeadNt
import KE.KNestM
import Wide.All
import OpenK.AllK
import Wide.FinOn
import KE.KStateDown
import KE.DataMinMax
import KE.LtData
import KE.KWithOwn
import KE.KDictKeyed
import KE.KDictWalk
import KE.GoesDict
import KE.GoesRaise
import HandS.ForMost
import HandS.ForExc
import HandS.More
import HandS.Slots
import HandS.SlotsOwn
import HandS.Property
import HandS.ClsMeth
import HandS.Star
import HandS.Strs
import HandS.Conv
import HandS.Deep
import HandS.Flow
import HandS.Zip
import HandS.Walk
import HandS.StrMore
import HandS.TupAny
import HandS.Wide
import HandS.WideMore
import HandS.IsInst
import HandS.Hot
import HandS.HotCalls
import HandS.Finally
import HandS.Set
import HandS.NoneIn
import HandS.CallLocal
import HandS.Style
import HandS.Small
import HandS.Defaults
import HandS.Head0
import HandS.Head1
import HandS.Head2
import HandS.HeadEnd
import HandS.HeadHook1
import HandS.HeadHook2
import HandS.HeadHook3
import PySem.Challenge.RW_coldcrates_k57_whole_stores_through_text
import KE.KeyNested
import HandS.DictTup
import KE.KEqDict
import KE.KDictDisplayH
import HandS.Lambda
import HandS.Nested
import KE.DataCmp
import HandS.SetFor
import HandS.WordsExc
import HandS.Text
import KE.GoesComp
import HandS.FStrTup
set_option Elab.async false
set_option linter.all false
set_option maxRecDepth 100000

set_option maxHeartbeats 4000000
/-! CCText: the text by places, what the top has left (facts by name). -/
namespace CC
open PySem PySem.Spec PyProof.Rows L2
def top (i : Nat) : Stmt := PySem.Challenge.pw_coldcrates_k57_whole_stores_through_text.main.body.getD i (.Pass ⟨0, 0, 0, 0⟩)
abbrev s_InvalidStore___init__ : Stmt := inClass (top 3) 0
abbrev n_InvalidStore___init__ : List Str := ["self", "part"]
theorem sc_InvalidStore___init__ : FnScope n_InvalidStore___init__ ["self", "part"] (defScope s_InvalidStore___init__) := ⟨rfl, rfl, rfl, by decide +kernel, rfl, by decide +kernel, by decide +kernel⟩
abbrev s_InvalidOperation___init__ : Stmt := inClass (top 11) 0
abbrev n_InvalidOperation___init__ : List Str := ["self", "index"]
theorem sc_InvalidOperation___init__ : FnScope n_InvalidOperation___init__ ["self", "index"] (defScope s_InvalidOperation___init__) := ⟨rfl, rfl, rfl, by decide +kernel, rfl, by decide +kernel, by decide +kernel⟩
abbrev s_InvalidText___init__ : Stmt := inClass (top 12) 0
abbrev n_InvalidText___init__ : List Str := ["self", "row", "word"]
theorem sc_InvalidText___init__ : FnScope n_InvalidText___init__ ["self", "row", "word"] (defScope s_InvalidText___init__) := ⟨rfl, rfl, rfl, by decide +kernel, rfl, by decide +kernel, by decide +kernel⟩
abbrev s_DecodeError___init__ : Stmt := inClass (top 13) 0
abbrev n_DecodeError___init__ : List Str := ["self", "offset"]
theorem sc_DecodeError___init__ : FnScope n_DecodeError___init__ ["self", "offset"] (defScope s_DecodeError___init__) := ⟨rfl, rfl, rfl, by decide +kernel, rfl, by decide +kernel, by decide +kernel⟩
abbrev s_is_number : Stmt := top 22
abbrev n_is_number : List Str := ["value", "smallest", "largest"]
theorem sc_is_number : FnScope n_is_number ["value", "smallest", "largest"] (defScope s_is_number) := ⟨rfl, rfl, rfl, by decide +kernel, rfl, by decide +kernel, by decide +kernel⟩
abbrev s_is_word : Stmt := top 23
abbrev n_is_word : List Str := ["value", "letter"]
theorem sc_is_word : FnScope n_is_word ["value"] (defScope s_is_word) := ⟨rfl, rfl, rfl, by decide +kernel, rfl, by decide +kernel, by decide +kernel⟩
abbrev s_is_door : Stmt := top 24
abbrev n_is_door : List Str := ["value"]
theorem sc_is_door : FnScope n_is_door ["value"] (defScope s_is_door) := ⟨rfl, rfl, rfl, by decide +kernel, rfl, by decide +kernel, by decide +kernel⟩
abbrev s_are_doors : Stmt := top 25
abbrev n_are_doors : List Str := ["row", "door", "warmth", "places"]
theorem sc_are_doors : FnScope n_are_doors ["row"] (defScope s_are_doors) := ⟨rfl, rfl, rfl, by decide +kernel, rfl, by decide +kernel, by decide +kernel⟩
abbrev s_are_crates : Stmt := top 26
abbrev n_are_crates : List Str := ["row", "places", "name", "one", "other"]
theorem sc_are_crates : FnScope n_are_crates ["row", "places"] (defScope s_are_crates) := ⟨rfl, rfl, rfl, by decide +kernel, rfl, by decide +kernel, by decide +kernel⟩
abbrev s_Store___init__ : Stmt := inClass (top 27) 1
abbrev n_Store___init__ : List Str := ["self", "doors", "crates", "edges", "door", "warmth", "places"]
theorem sc_Store___init__ : FnScope n_Store___init__ ["self", "doors", "crates"] (defScope s_Store___init__) := ⟨rfl, rfl, rfl, by decide +kernel, rfl, by decide +kernel, by decide +kernel⟩
abbrev s_Store_doors : Stmt := inClass (top 27) 2
abbrev n_Store_doors : List Str := ["self"]
theorem sc_Store_doors : FnScope n_Store_doors ["self"] (defScope s_Store_doors) := ⟨rfl, rfl, rfl, by decide +kernel, rfl, by decide +kernel, by decide +kernel⟩
abbrev s_Store_crates : Stmt := inClass (top 27) 3
abbrev n_Store_crates : List Str := ["self"]
theorem sc_Store_crates : FnScope n_Store_crates ["self"] (defScope s_Store_crates) := ⟨rfl, rfl, rfl, by decide +kernel, rfl, by decide +kernel, by decide +kernel⟩
abbrev s_Store_size : Stmt := inClass (top 27) 4
abbrev n_Store_size : List Str := ["self"]
theorem sc_Store_size : FnScope n_Store_size ["self"] (defScope s_Store_size) := ⟨rfl, rfl, rfl, by decide +kernel, rfl, by decide +kernel, by decide +kernel⟩
abbrev s_Store___len__ : Stmt := inClass (top 27) 5
abbrev n_Store___len__ : List Str := ["self"]
theorem sc_Store___len__ : FnScope n_Store___len__ ["self"] (defScope s_Store___len__) := ⟨rfl, rfl, rfl, by decide +kernel, rfl, by decide +kernel, by decide +kernel⟩
abbrev s_Store_door_of : Stmt := inClass (top 27) 7
abbrev n_Store_door_of : List Str := ["self", "place"]
theorem sc_Store_door_of : FnScope n_Store_door_of ["self", "place"] (defScope s_Store_door_of) := ⟨rfl, rfl, rfl, by decide +kernel, rfl, by decide +kernel, by decide +kernel⟩
abbrev s_Store_places_of : Stmt := inClass (top 27) 8
abbrev n_Store_places_of : List Str := ["self", "door", "place", "edge"]
theorem sc_Store_places_of : FnScope n_Store_places_of ["self", "door"] (defScope s_Store_places_of) := ⟨rfl, rfl, rfl, by decide +kernel, rfl, by decide +kernel, by decide +kernel⟩
abbrev s_is_layout : Stmt := top 28
abbrev n_is_layout : List Str := ["store", "value", "name"]
theorem sc_is_layout : FnScope n_is_layout ["store", "value"] (defScope s_is_layout) := ⟨rfl, rfl, rfl, by decide +kernel, rfl, by decide +kernel, by decide +kernel⟩
abbrev s_check_layout : Stmt := top 29
abbrev n_check_layout : List Str := ["store", "layout"]
theorem sc_check_layout : FnScope n_check_layout ["store", "layout"] (defScope s_check_layout) := ⟨rfl, rfl, rfl, by decide +kernel, rfl, by decide +kernel, by decide +kernel⟩
abbrev s_check_crate : Stmt := top 30
abbrev n_check_crate : List Str := ["store", "name"]
theorem sc_check_crate : FnScope n_check_crate ["store", "name"] (defScope s_check_crate) := ⟨rfl, rfl, rfl, by decide +kernel, rfl, by decide +kernel, by decide +kernel⟩
abbrev s_seen_behind : Stmt := top 31
abbrev n_seen_behind : List Str := ["store", "layout", "door", "name", "edge"]
theorem sc_seen_behind : FnScope n_seen_behind ["store", "layout", "door"] (defScope s_seen_behind) := ⟨rfl, rfl, rfl, by decide +kernel, rfl, by decide +kernel, by decide +kernel⟩
abbrev s_exchanged : Stmt := top 33
abbrev n_exchanged : List Str := ["layout", "one", "other", "found"]
theorem sc_exchanged : FnScope n_exchanged ["layout", "one", "other"] (defScope s_exchanged) := ⟨rfl, rfl, rfl, by decide +kernel, rfl, by decide +kernel, by decide +kernel⟩
abbrev s_all_steps : Stmt := top 35
abbrev n_all_steps : List Str := ["store", "layout", "found", "here", "name", "place", "other", "doors", "warmth", "door"]
theorem sc_all_steps : FnScope n_all_steps ["store", "layout"] (defScope s_all_steps) := ⟨rfl, rfl, rfl, by decide +kernel, rfl, by decide +kernel, by decide +kernel⟩
abbrev s_all_ways : Stmt := top 36
abbrev n_all_ways : List Str := ["store", "layout", "best", "waiting", "cost", "here", "step", "warmth", "other", "more", "name", "one"]
theorem sc_all_ways : FnScope n_all_ways ["store", "layout"] (defScope s_all_ways) := ⟨rfl, rfl, rfl, by decide +kernel, rfl, by decide +kernel, by decide +kernel⟩
abbrev s_least_steps : Stmt := top 37
abbrev n_least_steps : List Str := ["store", "layout", "goal", "found"]
theorem sc_least_steps : FnScope n_least_steps ["store", "layout", "goal"] (defScope s_least_steps) := ⟨rfl, rfl, rfl, by decide +kernel, rfl, by decide +kernel, by decide +kernel⟩
abbrev s_is_right : Stmt := top 38
abbrev n_is_right : List Str := ["layout", "names", "name"]
theorem sc_is_right : FnScope n_is_right ["layout"] (defScope s_is_right) := ⟨rfl, rfl, rfl, by decide +kernel, rfl, by decide +kernel, by decide +kernel⟩
abbrev s_is_sorted : Stmt := top 39
abbrev n_is_sorted : List Str := ["store", "layout"]
theorem sc_is_sorted : FnScope n_is_sorted ["store", "layout"] (defScope s_is_sorted) := ⟨rfl, rfl, rfl, by decide +kernel, rfl, by decide +kernel, by decide +kernel⟩
abbrev s_is_operation : Stmt := top 42
abbrev n_is_operation : List Str := ["value"]
theorem sc_is_operation : FnScope n_is_operation ["value"] (defScope s_is_operation) := ⟨rfl, rfl, rfl, by decide +kernel, rfl, by decide +kernel, by decide +kernel⟩
abbrev s_warmth_of : Stmt := top 43
abbrev n_warmth_of : List Str := ["store", "one", "other", "edges", "door"]
theorem sc_warmth_of : FnScope n_warmth_of ["store", "one", "other"] (defScope s_warmth_of) := ⟨rfl, rfl, rfl, by decide +kernel, rfl, by decide +kernel, by decide +kernel⟩
abbrev s_State___init__ : Stmt := inClass (top 44) 1
abbrev n_State___init__ : List Str := ["self", "facts", "shelf", "past", "undone"]
theorem sc_State___init__ : FnScope n_State___init__ ["self", "facts", "shelf", "past", "undone"] (defScope s_State___init__) := ⟨rfl, rfl, rfl, by decide +kernel, rfl, by decide +kernel, by decide +kernel⟩
abbrev s_State_copied : Stmt := inClass (top 44) 2
abbrev n_State_copied : List Str := ["self"]
theorem sc_State_copied : FnScope n_State_copied ["self"] (defScope s_State_copied) := ⟨rfl, rfl, rfl, by decide +kernel, rfl, by decide +kernel, by decide +kernel⟩
abbrev s_State_go_on : Stmt := inClass (top 44) 3
abbrev n_State_go_on : List Str := ["self", "operation", "facts", "shelf"]
theorem sc_State_go_on : FnScope n_State_go_on ["self", "operation", "facts", "shelf"] (defScope s_State_go_on) := ⟨rfl, rfl, rfl, by decide +kernel, rfl, by decide +kernel, by decide +kernel⟩
abbrev s_State_go_back : Stmt := inClass (top 44) 4
abbrev n_State_go_back : List Str := ["self", "operation", "facts", "shelf"]
theorem sc_State_go_back : FnScope n_State_go_back ["self"] (defScope s_State_go_back) := ⟨rfl, rfl, rfl, by decide +kernel, rfl, by decide +kernel, by decide +kernel⟩
abbrev s_State_go_again : Stmt := inClass (top 44) 5
abbrev n_State_go_again : List Str := ["self", "operation", "facts", "shelf"]
theorem sc_State_go_again : FnScope n_State_go_again ["self"] (defScope s_State_go_again) := ⟨rfl, rfl, rfl, by decide +kernel, rfl, by decide +kernel, by decide +kernel⟩
abbrev s_Live___init__ : Stmt := inClass (top 45) 0
abbrev n_Live___init__ : List Str := ["self", "store", "layout"]
theorem sc_Live___init__ : FnScope n_Live___init__ ["self", "store", "layout"] (defScope s_Live___init__) := ⟨rfl, rfl, rfl, by decide +kernel, rfl, by decide +kernel, by decide +kernel⟩
abbrev s_Live_replay : Stmt := inClass (top 45) 1
abbrev n_Live_replay : List Str := ["cls", "store", "layout", "operations", "live"]
theorem sc_Live_replay : FnScope n_Live_replay ["cls", "store", "layout", "operations"] (defScope s_Live_replay) := ⟨rfl, rfl, rfl, by decide +kernel, rfl, by decide +kernel, by decide +kernel⟩
abbrev s_Live_layout_now : Stmt := inClass (top 45) 2
abbrev n_Live_layout_now : List Str := ["self"]
theorem sc_Live_layout_now : FnScope n_Live_layout_now ["self"] (defScope s_Live_layout_now) := ⟨rfl, rfl, rfl, by decide +kernel, rfl, by decide +kernel, by decide +kernel⟩
abbrev s_Live_warmth_now : Stmt := inClass (top 45) 3
abbrev n_Live_warmth_now : List Str := ["self"]
theorem sc_Live_warmth_now : FnScope n_Live_warmth_now ["self"] (defScope s_Live_warmth_now) := ⟨rfl, rfl, rfl, by decide +kernel, rfl, by decide +kernel, by decide +kernel⟩
abbrev s_Live_day_warmths : Stmt := inClass (top 45) 4
abbrev n_Live_day_warmths : List Str := ["self"]
theorem sc_Live_day_warmths : FnScope n_Live_day_warmths ["self"] (defScope s_Live_day_warmths) := ⟨rfl, rfl, rfl, by decide +kernel, rfl, by decide +kernel, by decide +kernel⟩
abbrev s_Live_kept_under : Stmt := inClass (top 45) 5
abbrev n_Live_kept_under : List Str := ["self"]
theorem sc_Live_kept_under : FnScope n_Live_kept_under ["self"] (defScope s_Live_kept_under) := ⟨rfl, rfl, rfl, by decide +kernel, rfl, by decide +kernel, by decide +kernel⟩
abbrev s_Live_history : Stmt := inClass (top 45) 6
abbrev n_Live_history : List Str := ["self", "operation", "facts", "shelf"]
theorem sc_Live_history : FnScope n_Live_history ["self"] (defScope s_Live_history) := ⟨rfl, rfl, rfl, by decide +kernel, rfl, by decide +kernel, by decide +kernel⟩
abbrev s_Live_enter : Stmt := inClass (top 45) 7
abbrev n_Live_enter : List Str := ["self", "operation", "layout", "more", "before", "warmth", "days"]
theorem sc_Live_enter : FnScope n_Live_enter ["self", "operation", "layout", "more"] (defScope s_Live_enter) := ⟨rfl, rfl, rfl, by decide +kernel, rfl, by decide +kernel, by decide +kernel⟩
abbrev s_Live_look : Stmt := inClass (top 45) 8
abbrev n_Live_look : List Str := ["self", "door"]
theorem sc_Live_look : FnScope n_Live_look ["self", "door"] (defScope s_Live_look) := ⟨rfl, rfl, rfl, by decide +kernel, rfl, by decide +kernel, by decide +kernel⟩
abbrev s_Live_put : Stmt := inClass (top 45) 9
abbrev n_Live_put : List Str := ["self", "name", "place", "layout", "here"]
theorem sc_Live_put : FnScope n_Live_put ["self", "name", "place"] (defScope s_Live_put) := ⟨rfl, rfl, rfl, by decide +kernel, rfl, by decide +kernel, by decide +kernel⟩
abbrev s_Live_exchange : Stmt := inClass (top 45) 10
abbrev n_Live_exchange : List Str := ["self", "one", "other", "layout", "here", "there", "later"]
theorem sc_Live_exchange : FnScope n_Live_exchange ["self", "one", "other"] (defScope s_Live_exchange) := ⟨rfl, rfl, rfl, by decide +kernel, rfl, by decide +kernel, by decide +kernel⟩
abbrev s_Live_shut : Stmt := inClass (top 45) 11
abbrev n_Live_shut : List Str := ["self", "layout", "warmth", "days"]
theorem sc_Live_shut : FnScope n_Live_shut ["self"] (defScope s_Live_shut) := ⟨rfl, rfl, rfl, by decide +kernel, rfl, by decide +kernel, by decide +kernel⟩
abbrev s_Live_keep_as : Stmt := inClass (top 45) 12
abbrev n_Live_keep_as : List Str := ["self", "name", "held", "is_there"]
theorem sc_Live_keep_as : FnScope n_Live_keep_as ["self", "name"] (defScope s_Live_keep_as) := ⟨rfl, rfl, rfl, by decide +kernel, rfl, by decide +kernel, by decide +kernel⟩
abbrev s_Live_fetch : Stmt := inClass (top 45) 13
abbrev n_Live_fetch : List Str := ["self", "name", "held"]
theorem sc_Live_fetch : FnScope n_Live_fetch ["self", "name"] (defScope s_Live_fetch) := ⟨rfl, rfl, rfl, by decide +kernel, rfl, by decide +kernel, by decide +kernel⟩
abbrev s_Live_undo : Stmt := inClass (top 45) 14
abbrev n_Live_undo : List Str := ["self"]
theorem sc_Live_undo : FnScope n_Live_undo ["self"] (defScope s_Live_undo) := ⟨rfl, rfl, rfl, by decide +kernel, rfl, by decide +kernel, by decide +kernel⟩
abbrev s_Live_redo : Stmt := inClass (top 45) 15
abbrev n_Live_redo : List Str := ["self"]
theorem sc_Live_redo : FnScope n_Live_redo ["self"] (defScope s_Live_redo) := ⟨rfl, rfl, rfl, by decide +kernel, rfl, by decide +kernel, by decide +kernel⟩
abbrev s_Live_execute : Stmt := inClass (top 45) 16
abbrev n_Live_execute : List Str := ["self", "operation", "word", "rest"]
theorem sc_Live_execute : FnScope n_Live_execute ["self", "operation"] (defScope s_Live_execute) := ⟨rfl, rfl, rfl, by decide +kernel, rfl, by decide +kernel, by decide +kernel⟩
abbrev s_Live_apply_all : Stmt := inClass (top 45) 17
abbrev n_Live_apply_all : List Str := ["self", "operations", "index", "operation", "trial", "found"]
theorem sc_Live_apply_all : FnScope n_Live_apply_all ["self", "operations"] (defScope s_Live_apply_all) := ⟨rfl, rfl, rfl, by decide +kernel, rfl, by decide +kernel, by decide +kernel⟩
abbrev s_Trial___init__ : Stmt := inClass (top 46) 0
abbrev n_Trial___init__ : List Str := ["self", "live"]
theorem sc_Trial___init__ : FnScope n_Trial___init__ ["self", "live"] (defScope s_Trial___init__) := ⟨rfl, rfl, rfl, by decide +kernel, rfl, by decide +kernel, by decide +kernel⟩
abbrev s_Trial_hold : Stmt := inClass (top 46) 1
abbrev n_Trial_hold : List Str := ["self"]
theorem sc_Trial_hold : FnScope n_Trial_hold ["self"] (defScope s_Trial_hold) := ⟨rfl, rfl, rfl, by decide +kernel, rfl, by decide +kernel, by decide +kernel⟩
abbrev s_Trial___enter__ : Stmt := inClass (top 46) 2
abbrev n_Trial___enter__ : List Str := ["self"]
theorem sc_Trial___enter__ : FnScope n_Trial___enter__ ["self"] (defScope s_Trial___enter__) := ⟨rfl, rfl, rfl, by decide +kernel, rfl, by decide +kernel, by decide +kernel⟩
abbrev s_Trial___exit__ : Stmt := inClass (top 46) 3
abbrev n_Trial___exit__ : List Str := ["self", "kind", "error", "trace"]
theorem sc_Trial___exit__ : FnScope n_Trial___exit__ ["self", "kind", "error", "trace"] (defScope s_Trial___exit__) := ⟨rfl, rfl, rfl, by decide +kernel, rfl, by decide +kernel, by decide +kernel⟩
abbrev s_checksum : Stmt := top 52
abbrev n_checksum : List Str := ["values", "found", "value"]
theorem sc_checksum : FnScope n_checksum ["values"] (defScope s_checksum) := ⟨rfl, rfl, rfl, by decide +kernel, rfl, by decide +kernel, by decide +kernel⟩
abbrev s_encode_store : Stmt := top 53
abbrev n_encode_store : List Str := ["store", "found", "warmth", "places", "name", "letter"]
theorem sc_encode_store : FnScope n_encode_store ["store"] (defScope s_encode_store) := ⟨rfl, rfl, rfl, by decide +kernel, rfl, by decide +kernel, by decide +kernel⟩
abbrev s_Reader___init__ : Stmt := inClass (top 54) 0
abbrev n_Reader___init__ : List Str := ["self", "values"]
theorem sc_Reader___init__ : FnScope n_Reader___init__ ["self", "values"] (defScope s_Reader___init__) := ⟨rfl, rfl, rfl, by decide +kernel, rfl, by decide +kernel, by decide +kernel⟩
abbrev s_Reader_item : Stmt := inClass (top 54) 1
abbrev n_Reader_item : List Str := ["self", "low", "high"]
theorem sc_Reader_item : FnScope n_Reader_item ["self", "low", "high"] (defScope s_Reader_item) := ⟨rfl, rfl, rfl, by decide +kernel, rfl, by decide +kernel, by decide +kernel⟩
abbrev s_Reader_read_door : Stmt := inClass (top 54) 2
abbrev n_Reader_read_door : List Str := ["self", "warmth"]
theorem sc_Reader_read_door : FnScope n_Reader_read_door ["self"] (defScope s_Reader_read_door) := ⟨rfl, rfl, rfl, by decide +kernel, rfl, by decide +kernel, by decide +kernel⟩
abbrev s_Reader_read_crate : Stmt := inClass (top 54) 3
abbrev n_Reader_read_crate : List Str := ["self", "count", "turn"]
theorem sc_Reader_read_crate : FnScope n_Reader_read_crate ["self"] (defScope s_Reader_read_crate) := ⟨rfl, rfl, rfl, by decide +kernel, rfl, by decide +kernel, by decide +kernel⟩
abbrev s_Reader_finish : Stmt := inClass (top 54) 4
abbrev n_Reader_finish : List Str := ["self", "check"]
theorem sc_Reader_finish : FnScope n_Reader_finish ["self"] (defScope s_Reader_finish) := ⟨rfl, rfl, rfl, by decide +kernel, rfl, by decide +kernel, by decide +kernel⟩
abbrev s_decode_store : Stmt := top 55
abbrev n_decode_store : List Str := ["values", "reader", "rows", "names", "turn"]
theorem sc_decode_store : FnScope n_decode_store ["values"] (defScope s_decode_store) := ⟨rfl, rfl, rfl, by decide +kernel, rfl, by decide +kernel, by decide +kernel⟩
abbrev s_format_store : Stmt := top 61
abbrev n_format_store : List Str := ["store", "rows", "warmth", "places", "row"]
theorem sc_format_store : FnScope n_format_store ["store"] (defScope s_format_store) := ⟨rfl, rfl, rfl, by decide +kernel, rfl, by decide +kernel, by decide +kernel⟩
abbrev s_is_count : Stmt := top 62
abbrev n_is_count : List Str := ["word", "sign"]
theorem sc_is_count : FnScope n_is_count ["word"] (defScope s_is_count) := ⟨rfl, rfl, rfl, by decide +kernel, rfl, by decide +kernel, by decide +kernel⟩
abbrev s_Row___init__ : Stmt := inClass (top 63) 0
abbrev n_Row___init__ : List Str := ["self", "number", "text"]
theorem sc_Row___init__ : FnScope n_Row___init__ ["self", "number", "text"] (defScope s_Row___init__) := ⟨rfl, rfl, rfl, by decide +kernel, rfl, by decide +kernel, by decide +kernel⟩
abbrev s_Row_has_more : Stmt := inClass (top 63) 1
abbrev n_Row_has_more : List Str := ["self"]
theorem sc_Row_has_more : FnScope n_Row_has_more ["self"] (defScope s_Row_has_more) := ⟨rfl, rfl, rfl, by decide +kernel, rfl, by decide +kernel, by decide +kernel⟩
abbrev s_Row_fail : Stmt := inClass (top 63) 2
abbrev n_Row_fail : List Str := ["self"]
theorem sc_Row_fail : FnScope n_Row_fail ["self"] (defScope s_Row_fail) := ⟨rfl, rfl, rfl, by decide +kernel, rfl, by decide +kernel, by decide +kernel⟩
abbrev s_Row_next_word : Stmt := inClass (top 63) 3
abbrev n_Row_next_word : List Str := ["self", "is_right"]
theorem sc_Row_next_word : FnScope n_Row_next_word ["self", "is_right"] (defScope s_Row_next_word) := ⟨rfl, rfl, rfl, by decide +kernel, rfl, by decide +kernel, by decide +kernel⟩
abbrev s_Row_read_crates : Stmt := inClass (top 63) 4
abbrev n_Row_read_crates : List Str := ["self", "found", "last"]
theorem sc_Row_read_crates : FnScope n_Row_read_crates ["self"] (defScope s_Row_read_crates) := ⟨rfl, rfl, rfl, by decide +kernel, rfl, by decide +kernel, by decide +kernel⟩
abbrev s_heads_at : Stmt := top 64
abbrev n_heads_at : List Str := ["rows", "names"]
theorem sc_heads_at : FnScope n_heads_at ["rows", "names"] (defScope s_heads_at) := ⟨rfl, rfl, rfl, by decide +kernel, rfl, by decide +kernel, by decide +kernel⟩
abbrev s_parse_store : Stmt := top 65
abbrev n_parse_store : List Str := ["text", "rows", "names", "lines", "number", "line", "row", "heads", "warmth"]
theorem sc_parse_store : FnScope n_parse_store ["text"] (defScope s_parse_store) := ⟨rfl, rfl, rfl, by decide +kernel, rfl, by decide +kernel, by decide +kernel⟩
abbrev s_law_taken : Stmt := top 67
abbrev n_law_taken : List Str := ["_law_row", "_law_many", "_law_found", "_law_cell"]
theorem sc_law_taken : FnScope n_law_taken ["_law_row", "_law_many"] (defScope s_law_taken) := ⟨rfl, rfl, rfl, by decide +kernel, rfl, by decide +kernel, by decide +kernel⟩
abbrev s_law_store : Stmt := top 68
abbrev n_law_store : List Str := ["_law_row", "_law_rows", "_law_many", "_law_k", "_law_places", "_law_one"]
theorem sc_law_store : FnScope n_law_store ["_law_row"] (defScope s_law_store) := ⟨rfl, rfl, rfl, by decide +kernel, rfl, by decide +kernel, by decide +kernel⟩
abbrev s_law_layouts : Stmt := top 69
abbrev n_law_layouts : List Str := ["_law_store_here", "_law_rows", "_law_place", "_law_more", "_law_one", "_law_left", "_law_name"]
theorem sc_law_layouts : FnScope n_law_layouts ["_law_store_here"] (defScope s_law_layouts) := ⟨rfl, rfl, rfl, by decide +kernel, rfl, by decide +kernel, by decide +kernel⟩
abbrev s_law_layout : Stmt := top 70
abbrev n_law_layout : List Str := ["_law_row", "_law_store_here", "_law_every"]
theorem sc_law_layout : FnScope n_law_layout ["_law_row", "_law_store_here"] (defScope s_law_layout) := ⟨rfl, rfl, rfl, by decide +kernel, rfl, by decide +kernel, by decide +kernel⟩
abbrev s_law_op : Stmt := top 71
abbrev n_law_op : List Str := ["_law_row", "_law_pick", "_law_names", "_law_name"]
theorem sc_law_op : FnScope n_law_op ["_law_row"] (defScope s_law_op) := ⟨rfl, rfl, rfl, by decide +kernel, rfl, by decide +kernel, by decide +kernel⟩
abbrev s_law_facts : Stmt := top 72
abbrev n_law_facts : List Str := ["_law_live", "_law_told_here"]
theorem sc_law_facts : FnScope n_law_facts ["_law_live"] (defScope s_law_facts) := ⟨rfl, rfl, rfl, by decide +kernel, rfl, by decide +kernel, by decide +kernel⟩
abbrev s_law_told : Stmt := top 73
abbrev n_law_told : List Str := ["_law_live", "_law_operation"]
theorem sc_law_told : FnScope n_law_told ["_law_live", "_law_operation"] (defScope s_law_told) := ⟨rfl, rfl, rfl, by decide +kernel, rfl, by decide +kernel, by decide +kernel⟩
abbrev s_law_is_right : Stmt := top 74
abbrev n_law_is_right : List Str := ["_law_store_here", "_law_live", "_law_operation", "_law_two", "_law_told_here", "_law_before", "_law_lives", "_law_later", "_law_more", "_law_warmth", "_law_steps"]
theorem sc_law_is_right : FnScope n_law_is_right ["_law_store_here", "_law_live", "_law_operation", "_law_two"] (defScope s_law_is_right) := ⟨rfl, rfl, rfl, by decide +kernel, rfl, by decide +kernel, by decide +kernel⟩
abbrev s_law : Stmt := top 75
abbrev n_law : List Str := ["_law_script", "_law_row", "_law_turn", "_law_store_here", "_law_layout_here", "_law_lives", "_law_again", "_law_operation", "_law_before", "_law_told_here", "_law_live", "_law_total"]
theorem sc_law : FnScope n_law ["_law_script"] (defScope s_law) := ⟨rfl, rfl, rfl, by decide +kernel, rfl, by decide +kernel, by decide +kernel⟩

/-! ### facts of the written part, by name -/
abbrev gA (K : PySem.W.Frag) (x : Str) : Addr := He.ga K x
abbrev mA (K : PySem.W.Frag) (C m : Str) : Addr := He.ma K (He.ga K C) m
/-- the getter behind a property's record, the def behind a classmethod's -/
def recA (K : PySem.W.Frag) (a : Addr) (T : String) : Addr := match PySem.W.recIn K a T with
  | some (.ref g :: _) => g
  | _ => 0
abbrev pA (K : PySem.W.Frag) (C f : Str) : Addr := recA K (mA K C f) "property"
abbrev cA (K : PySem.W.Frag) (C f : Str) : Addr := recA K (mA K C f) "classmethod"
/-- where a def stands -/
inductive At where
  | g (x : Str)
  | m (C x : Str)
  | p (C x : Str)
  | c (C x : Str)
def At.adr (K : PySem.W.Frag) : At → Addr
  | .g x => gA K x
  | .m C x => mA K C x
  | .p C x => pA K C x
  | .c C x => cA K C x
inductive Fx where
  | glo (x : Str)
  | gv (x : Str)
  | free (x : Str)
  | int (x : Str) (i : Int)
  | str (x z : Str)
  | cls (x : Str)
  | scls (x : Str)
  | noat (x f : Str)
  | meth (x m : Str)
  | mkr (x : Str)
  | exc (x : Str)
  | exm (x y : Str) (b : Bool)
  | prop (x f : Str)
  | slot (x f : Str) (i : Nat)
  | cread (x : Str)
  | cmet (x f : Str)
def Fx.says (K : PySem.W.Frag) (mg : Str → Option Value) : Fx → Prop
  | .glo x => mg x = some (.ref (gA K x)) ∧ PySem.W.keepIn K (.ref (gA K x)) = true
  | .gv x => mg x = some (.ref (gA K x))
  | .free x => mg x = none
  | .int x i => ∃ t, mg x = some (.int i t)
  | .str x z => ∃ t, mg x = some (.str z t)
  | .cls x => Cls K (gA K x)
  | .scls x => SlX.SCls K (gA K x)
  | .noat x f => NoAttr K (gA K x) f
  | .meth x m => Meth K (gA K x) m (mA K x m)
  | .mkr x => Mk K (gA K x) (mA K x "__init__")
  | .exc x => PySem.W.excIn K (gA K x) He.veBase "ValueError.__new__" = true ∧ PySem.W.keepIn K (.ref (gA K x)) = true ∧ PySem.W.subIn K (.ref (gA K x)) (.type "BaseException") = some true ∧ PySem.W.typeIn K (.ref (gA K x)) = some (.type "type")
  | .exm x y b => PySem.W.exmOne K (.ref (gA K x)) (.ref (gA K y)) = some b
  | .prop x f => PropOf K (gA K x) f (mA K x f) (pA K x f)
  | .slot x f i => SlX.Slot1 K (gA K x) f (mA K x f) i
  | .cread x => ClX.CRead K (gA K x) (.type "type")
  | .cmet x f => ClX.CMet K (gA K x) (.type "type") f (mA K x f) (cA K x f)
def Fx.ok (K : PySem.W.Frag) : Fx → Bool
  | .glo x => He.eqO (PySem.W.nsIn K mainGlobals x) (some (some (.ref (gA K x)))) && PySem.W.keepIn K (.ref (gA K x))
  | .gv x => He.eqO (PySem.W.nsIn K mainGlobals x) (some (some (.ref (gA K x))))
  | .free x => (He.Fa.free x).ok K
  | .int x i => (He.Fa.int x i).ok K
  | .str x z => (He.Fa.str x z).ok K
  | .cls x => (He.Fa.cls x).ok K
  | .scls x => PySem.W.plainGet K (gA K x) Str.empty && (PySem.W.isClsIn K (gA K x) && (PySem.W.plainOver K (gA K x) && He.eqO (PySem.W.findIn K (.ref (gA K x)) "__setattr__") (some (some (.builtin "object.__setattr__")))))
  | .noat x f => (He.Fa.noat x f).ok K
  | .meth x m => (He.Fa.meth x m).ok K
  | .mkr x => (He.Fa.mkr x).ok K
  | .exc x => (He.Fa.exc x).ok K
  | .exm x y b => (He.Fa.exm x y b).ok K
  | .prop x f => He.eqO (PySem.W.findIn K (.ref (gA K x)) f) (some (some (.ref (mA K x f)))) && (He.eqO (PySem.W.specialIn K (.ref (mA K x f)) "__get__") (some (some (.builtin "property.__get__"))) &&
      (decide (PySem.W.takesIn K (.ref (mA K x f)) = some true) && (match PySem.W.recIn K (mA K x f) "property" with
        | some (.ref g :: _) => decide (g = pA K x f)
        | _ => false)))
  | .slot x f i => He.eqO (PySem.W.findIn K (.ref (gA K x)) f) (some (some (.ref (mA K x f)))) && (He.eqO (PySem.W.specialIn K (.ref (mA K x f)) "__get__") (some (some (.builtin "member_descriptor.__get__"))) &&
      (decide (PySem.W.takesIn K (.ref (mA K x f)) = some true) && (decide (PySem.W.typeIn K (.ref (mA K x f)) = some (.type "member_descriptor")) && (decide (PySem.W.slotIn K (mA K x f) (gA K x) = some i) && decide (i < 1000)))))
  | .cread x => PySem.W.readsIn K (gA K x) (.type "type") && He.eqO (PySem.W.specialIn K (.ref (gA K x)) "__getattribute__") (some (some (.builtin "type.__getattribute__")))
  | .cmet x f => (match PySem.W.findCls K (.ref (gA K x)) (.type "type") f with
        | some (.get (.builtin n) (.ref p) .none (.ref C)) => decide (n = "classmethod.__get__") && (decide (p = mA K x f) && decide (C = gA K x))
        | _ => false) && ((match PySem.W.recIn K (mA K x f) "classmethod" with
        | some (.ref g :: _) => decide (g = cA K x f)
        | _ => false) && PySem.W.fnIn K (cA K x f))
section
variable {K : PySem.W.Frag} {h : Heap} {mg : Str → Option Value}
theorem rec_ok {a g : Addr} {T : String} (c : (match PySem.W.recIn K a T with
        | some (.ref u :: _) => decide (u = g)
        | _ => false) = true) : ∃ rest, PySem.W.recIn K a T = some (.ref g :: rest) := by
  cases e : PySem.W.recIn K a T with
  | none => rw [e] at c; cases c
  | some l =>
    rw [e] at c
    cases l with
    | nil => cases c
    | cons v r =>
      cases v with
      | ref u =>
        have z : u = g := of_decide_eq_true c
        exact ⟨r, by rw [z]⟩
      | _ => cases c
theorem Fx.sound (X : K.In h) (G : h.Ns mainGlobals mg) {f : Fx} (c : f.ok K = true) : f.says K mg := by
  cases f with
  | glo x =>
    obtain ⟨c1, c2⟩ := He.ba c
    exact ⟨PySem.W.mg_of X G (He.eqO_ok c1), c2⟩
  | gv x => exact PySem.W.mg_of X G (He.eqO_ok c)
  | free x => exact He.free_ok X G c
  | int x i => exact He.int_ok X G c
  | str x z => exact He.str_ok X G c
  | cls x => exact He.cls_ok c
  | scls x =>
    obtain ⟨c1, c⟩ := He.ba c
    obtain ⟨c2, c⟩ := He.ba c
    obtain ⟨c3, c4⟩ := He.ba c
    exact ⟨c1, c2, c3, He.eqO_ok c4⟩
  | noat x f => exact He.noat_ok c
  | meth x m => exact He.meth_ok c
  | mkr x => exact He.mkr_ok c
  | exc x => exact He.exc_ok c
  | exm x y b => exact He.exm_ok c
  | prop x f =>
    obtain ⟨c1, c⟩ := He.ba c
    obtain ⟨c2, c⟩ := He.ba c
    obtain ⟨c3, c4⟩ := He.ba c
    exact ⟨He.eqO_ok c1, He.eqO_ok c2, of_decide_eq_true c3, rec_ok c4⟩
  | slot x f i =>
    obtain ⟨c1, c⟩ := He.ba c
    obtain ⟨c2, c⟩ := He.ba c
    obtain ⟨c3, c⟩ := He.ba c
    obtain ⟨c4, c⟩ := He.ba c
    obtain ⟨c5, c6⟩ := He.ba c
    exact ⟨He.eqO_ok c1, He.eqO_ok c2, of_decide_eq_true c3, of_decide_eq_true c4, of_decide_eq_true c5, of_decide_eq_true c6⟩
  | cread x =>
    obtain ⟨c1, c2⟩ := He.ba c
    exact ⟨c1, He.eqO_ok c2⟩
  | cmet x f =>
    obtain ⟨c1, c⟩ := He.ba c
    obtain ⟨c2, c3⟩ := He.ba c
    refine ⟨?_, rec_ok c2, c3⟩
    cases e : PySem.W.findCls K (.ref (gA K x)) (.type "type") f with
    | none => rw [e] at c1; cases c1
    | some r =>
      rw [e] at c1
      split at c1
      · rename_i n p C hr
        obtain ⟨d1, d⟩ := He.ba c1
        obtain ⟨d2, d3⟩ := He.ba d
        have e1 := of_decide_eq_true d1
        have e2 := of_decide_eq_true d2
        have e3 := of_decide_eq_true d3
        rw [hr, e1, e2, e3]
      · cases c1
end
/-- one def: where it stands, its name, qualified name, statement -/
structure DfM where
  at_ : At
  name : Str
  qual : Str
  st : Stmt
abbrev FnV : Type := Option (Str × Str × Arguments × FuncBody × Scope × Addr × List (Str × Addr) × Value × Addr)
def DfM.obs (K : PySem.W.Frag) (d : DfM) : FnV := match K.lookup (d.at_.adr K) with
  | some ⟨_, _, .func fd, _⟩ => some (fd.name, fd.qualname, fd.params, fd.body, fd.scope, fd.globals, fd.closure, fd.defaults, fd.builtins)
  | _ => none
def DfM.val (d : DfM) : FnV := some (d.name, d.qual, defArgs d.st, .stmts (defBody d.st), defScope d.st, mainGlobals, [], .none, builtinsNs)
def DfM.ok (K : PySem.W.Frag) (d : DfM) : Bool := PySem.W.keepIn K (.ref (d.at_.adr K)) && (match K.lookup (d.at_.adr K) with
  | some ⟨_, _, .func fd, _⟩ => PySem.W.codeIn K fd.code d.qual
  | _ => false)
def DfM.says (K : PySem.W.Frag) (d : DfM) : Prop := ∃ fd, Fun K d.name d.qual d.st (d.at_.adr K) fd
theorem DfM.sound {K : PySem.W.Frag} {d : DfM} (e : d.obs K = d.val) (c : d.ok K = true) : d.says K := by
  obtain ⟨c1, c2⟩ := He.ba c
  unfold DfM.obs at e
  cases q : K.lookup (d.at_.adr K) with
  | none =>
    rw [q] at c2
    cases c2
  | some o =>
    obtain ⟨oc, od, dt, osl⟩ := o
    rw [q] at c2 e
    cases dt with
    | func fd =>
      obtain ⟨n1, n2, n3, n4, n5, n6, n7, n8, n9, n10, n11, n12, n13, n14, n15⟩ := fd
      have e2 : (some (n1, n2, n3, n4, n5, n6, n7, n8, n15) : FnV) = some (d.name, d.qual, defArgs d.st, .stmts (defBody d.st), defScope d.st, mainGlobals, [], .none, builtinsNs) := e
      simp only [Option.some.injEq, Prod.mk.injEq] at e2
      obtain ⟨h1, h2, h3, h4, h5, h6, h7, h8, h9⟩ := e2
      subst h1 h2 h3 h4 h5 h6 h7 h8 h9
      exact ⟨_, fun_mk q c2 c1⟩
    | _ => cases c2
def sizesL : List (Str × Int) := [(("look" : Str), (2 : Int)), ("put", 3), ("exchange", 3), ("shut", 1), ("keep_as", 2), ("fetch", 2), ("undo", 1), ("redo", 1)]
def fx0 : List Fx := [(.glo "StoreError" : Fx), (.glo "InvalidStore" : Fx), (.glo "UnknownPlace" : Fx), (.glo "UnknownDoor" : Fx), (.glo "UnknownCrate" : Fx), (.glo "InvalidLayout" : Fx), (.glo "TakenPlace" : Fx), (.glo "InvalidName" : Fx), (.glo "UnknownKept" : Fx), (.glo "InvalidOperation" : Fx), (.glo "InvalidText" : Fx), (.glo "DecodeError" : Fx), (.glo "is_number" : Fx), (.glo "is_word" : Fx), (.glo "is_door" : Fx), (.glo "are_doors" : Fx), (.glo "are_crates" : Fx), (.glo "Store" : Fx), (.glo "is_layout" : Fx), (.glo "check_layout" : Fx), (.glo "check_crate" : Fx), (.glo "seen_behind" : Fx), (.glo "exchanged" : Fx), (.glo "all_steps" : Fx), (.glo "all_ways" : Fx), (.glo "least_steps" : Fx), (.glo "is_right" : Fx), (.glo "is_sorted" : Fx), (.glo "is_operation" : Fx), (.glo "warmth_of" : Fx)]
def fx1 : List Fx := [(.glo "State" : Fx), (.glo "Live" : Fx), (.glo "Trial" : Fx), (.glo "checksum" : Fx), (.glo "encode_store" : Fx), (.glo "Reader" : Fx), (.glo "decode_store" : Fx), (.glo "format_store" : Fx), (.glo "is_count" : Fx), (.glo "Row" : Fx), (.glo "heads_at" : Fx), (.glo "parse_store" : Fx), (.glo "_law_taken" : Fx), (.glo "_law_store" : Fx), (.glo "_law_layouts" : Fx), (.glo "_law_layout" : Fx), (.glo "_law_op" : Fx), (.glo "_law_facts" : Fx), (.glo "_law_told" : Fx), (.glo "_law_is_right" : Fx), (.glo "law" : Fx), (.gv "SIZES" : Fx), (.free "isinstance" : Fx), (.free "int" : Fx), (.free "bool" : Fx), (.free "str" : Fx), (.free "tuple" : Fx), (.free "len" : Fx), (.free "all" : Fx), (.free "sum" : Fx)]
def fx2 : List Fx := [(.free "min" : Fx), (.free "enumerate" : Fx), (.free "zip" : Fx), (.free "sorted" : Fx), (.free "list" : Fx), (.free "set" : Fx), (.free "range" : Fx), (.str "LETTERS" "abcdefghijklmnopqrstuvwxyz" : Fx), (.int "MAX_LETTERS" 8 : Fx), (.int "MAX_DOORS" 4 : Fx), (.int "MAX_WARMTH" 99 : Fx), (.int "MAX_BEHIND" 4 : Fx), (.int "MAX_PLACES" 6 : Fx), (.int "MAX_CRATES" 5 : Fx), (.int "FIRST" 71 : Fx), (.int "CHECK_START" 4 : Fx), (.int "CHECK_TIMES" 11 : Fx), (.int "CHECK_REST" 251 : Fx), (.str "DOOR" "door" : Fx), (.str "CRATES" "crates" : Fx), (.str "DIGITS" "0123456789" : Fx), (.int "MOST_DIGITS" 2 : Fx), (.cls "Live" : Fx), (.cls "Trial" : Fx), (.cls "Reader" : Fx), (.cls "Row" : Fx), (.scls "Store" : Fx), (.scls "State" : Fx), (.noat "Live" "base" : Fx), (.noat "Live" "held" : Fx)]
def fx3 : List Fx := [(.noat "Trial" "tested_store" : Fx), (.noat "Trial" "origin" : Fx), (.noat "Trial" "fresh" : Fx), (.noat "Trial" "chosen" : Fx), (.noat "Reader" "data" : Fx), (.noat "Reader" "spot" : Fx), (.noat "Row" "number" : Fx), (.noat "Row" "words" : Fx), (.noat "Row" "spot" : Fx), (.meth "Live" "look" : Fx), (.meth "Live" "put" : Fx), (.meth "Live" "exchange" : Fx), (.meth "Live" "shut" : Fx), (.meth "Live" "keep_as" : Fx), (.meth "Live" "fetch" : Fx), (.meth "Live" "undo" : Fx), (.meth "Live" "redo" : Fx), (.meth "Live" "execute" : Fx), (.meth "Live" "apply_all" : Fx), (.meth "Live" "enter" : Fx), (.meth "Trial" "hold" : Fx), (.meth "Trial" "__enter__" : Fx), (.meth "Trial" "__exit__" : Fx), (.meth "State" "copied" : Fx), (.meth "State" "go_on" : Fx), (.meth "State" "go_back" : Fx), (.meth "State" "go_again" : Fx), (.meth "Store" "door_of" : Fx), (.meth "Store" "places_of" : Fx), (.meth "Store" "__len__" : Fx)]
def fx4 : List Fx := [(.meth "Reader" "item" : Fx), (.meth "Reader" "read_door" : Fx), (.meth "Reader" "read_crate" : Fx), (.meth "Reader" "finish" : Fx), (.meth "Row" "has_more" : Fx), (.meth "Row" "fail" : Fx), (.meth "Row" "next_word" : Fx), (.meth "Row" "read_crates" : Fx), (.mkr "Store" : Fx), (.mkr "State" : Fx), (.mkr "Live" : Fx), (.mkr "Trial" : Fx), (.mkr "Reader" : Fx), (.mkr "Row" : Fx), (.exc "UnknownPlace" : Fx), (.exm "UnknownPlace" "StoreError" true : Fx), (.exc "UnknownDoor" : Fx), (.exm "UnknownDoor" "StoreError" true : Fx), (.exc "UnknownCrate" : Fx), (.exm "UnknownCrate" "StoreError" true : Fx), (.exc "TakenPlace" : Fx), (.exm "TakenPlace" "StoreError" true : Fx), (.exc "UnknownKept" : Fx), (.exm "UnknownKept" "StoreError" true : Fx), (.prop "Store" "doors" : Fx), (.prop "Store" "crates" : Fx), (.prop "Store" "size" : Fx), (.prop "Live" "layout_now" : Fx), (.prop "Live" "warmth_now" : Fx), (.prop "Live" "day_warmths" : Fx)]
def fx5 : List Fx := [(.prop "Live" "kept_under" : Fx), (.prop "Live" "history" : Fx), (.slot "Store" "edges" 0 : Fx), (.slot "Store" "parts" 1 : Fx), (.slot "State" "facts" 0 : Fx), (.slot "State" "past" 1 : Fx), (.slot "State" "shelf" 2 : Fx), (.slot "State" "undone" 3 : Fx), (.cread "Live" : Fx), (.cmet "Live" "replay" : Fx)]
def df0 : List DfM := [(⟨.g "is_number", "is_number", "is_number", s_is_number⟩ : DfM), (⟨.g "is_word", "is_word", "is_word", s_is_word⟩ : DfM), (⟨.g "is_door", "is_door", "is_door", s_is_door⟩ : DfM), (⟨.g "are_doors", "are_doors", "are_doors", s_are_doors⟩ : DfM), (⟨.g "are_crates", "are_crates", "are_crates", s_are_crates⟩ : DfM), (⟨.m "Store" "__init__", "__init__", "Store.__init__", s_Store___init__⟩ : DfM), (⟨.p "Store" "doors", "doors", "Store.doors", s_Store_doors⟩ : DfM), (⟨.p "Store" "crates", "crates", "Store.crates", s_Store_crates⟩ : DfM), (⟨.p "Store" "size", "size", "Store.size", s_Store_size⟩ : DfM), (⟨.m "Store" "__len__", "__len__", "Store.__len__", s_Store___len__⟩ : DfM), (⟨.m "Store" "door_of", "door_of", "Store.door_of", s_Store_door_of⟩ : DfM), (⟨.m "Store" "places_of", "places_of", "Store.places_of", s_Store_places_of⟩ : DfM), (⟨.g "is_layout", "is_layout", "is_layout", s_is_layout⟩ : DfM), (⟨.g "check_layout", "check_layout", "check_layout", s_check_layout⟩ : DfM), (⟨.g "check_crate", "check_crate", "check_crate", s_check_crate⟩ : DfM), (⟨.g "seen_behind", "seen_behind", "seen_behind", s_seen_behind⟩ : DfM), (⟨.g "exchanged", "exchanged", "exchanged", s_exchanged⟩ : DfM), (⟨.g "all_steps", "all_steps", "all_steps", s_all_steps⟩ : DfM), (⟨.g "all_ways", "all_ways", "all_ways", s_all_ways⟩ : DfM), (⟨.g "least_steps", "least_steps", "least_steps", s_least_steps⟩ : DfM), (⟨.g "is_right", "is_right", "is_right", s_is_right⟩ : DfM), (⟨.g "is_sorted", "is_sorted", "is_sorted", s_is_sorted⟩ : DfM), (⟨.g "is_operation", "is_operation", "is_operation", s_is_operation⟩ : DfM), (⟨.g "warmth_of", "warmth_of", "warmth_of", s_warmth_of⟩ : DfM), (⟨.m "State" "__init__", "__init__", "State.__init__", s_State___init__⟩ : DfM), (⟨.m "State" "copied", "copied", "State.copied", s_State_copied⟩ : DfM), (⟨.m "State" "go_on", "go_on", "State.go_on", s_State_go_on⟩ : DfM), (⟨.m "State" "go_back", "go_back", "State.go_back", s_State_go_back⟩ : DfM), (⟨.m "State" "go_again", "go_again", "State.go_again", s_State_go_again⟩ : DfM), (⟨.m "Live" "__init__", "__init__", "Live.__init__", s_Live___init__⟩ : DfM)]
def df1 : List DfM := [(⟨.c "Live" "replay", "replay", "Live.replay", s_Live_replay⟩ : DfM), (⟨.p "Live" "layout_now", "layout_now", "Live.layout_now", s_Live_layout_now⟩ : DfM), (⟨.p "Live" "warmth_now", "warmth_now", "Live.warmth_now", s_Live_warmth_now⟩ : DfM), (⟨.p "Live" "day_warmths", "day_warmths", "Live.day_warmths", s_Live_day_warmths⟩ : DfM), (⟨.p "Live" "kept_under", "kept_under", "Live.kept_under", s_Live_kept_under⟩ : DfM), (⟨.p "Live" "history", "history", "Live.history", s_Live_history⟩ : DfM), (⟨.m "Live" "enter", "enter", "Live.enter", s_Live_enter⟩ : DfM), (⟨.m "Live" "look", "look", "Live.look", s_Live_look⟩ : DfM), (⟨.m "Live" "put", "put", "Live.put", s_Live_put⟩ : DfM), (⟨.m "Live" "exchange", "exchange", "Live.exchange", s_Live_exchange⟩ : DfM), (⟨.m "Live" "shut", "shut", "Live.shut", s_Live_shut⟩ : DfM), (⟨.m "Live" "keep_as", "keep_as", "Live.keep_as", s_Live_keep_as⟩ : DfM), (⟨.m "Live" "fetch", "fetch", "Live.fetch", s_Live_fetch⟩ : DfM), (⟨.m "Live" "undo", "undo", "Live.undo", s_Live_undo⟩ : DfM), (⟨.m "Live" "redo", "redo", "Live.redo", s_Live_redo⟩ : DfM), (⟨.m "Live" "execute", "execute", "Live.execute", s_Live_execute⟩ : DfM), (⟨.m "Live" "apply_all", "apply_all", "Live.apply_all", s_Live_apply_all⟩ : DfM), (⟨.m "Trial" "__init__", "__init__", "Trial.__init__", s_Trial___init__⟩ : DfM), (⟨.m "Trial" "hold", "hold", "Trial.hold", s_Trial_hold⟩ : DfM), (⟨.m "Trial" "__enter__", "__enter__", "Trial.__enter__", s_Trial___enter__⟩ : DfM), (⟨.m "Trial" "__exit__", "__exit__", "Trial.__exit__", s_Trial___exit__⟩ : DfM), (⟨.g "checksum", "checksum", "checksum", s_checksum⟩ : DfM), (⟨.g "encode_store", "encode_store", "encode_store", s_encode_store⟩ : DfM), (⟨.m "Reader" "__init__", "__init__", "Reader.__init__", s_Reader___init__⟩ : DfM), (⟨.m "Reader" "item", "item", "Reader.item", s_Reader_item⟩ : DfM), (⟨.m "Reader" "read_door", "read_door", "Reader.read_door", s_Reader_read_door⟩ : DfM), (⟨.m "Reader" "read_crate", "read_crate", "Reader.read_crate", s_Reader_read_crate⟩ : DfM), (⟨.m "Reader" "finish", "finish", "Reader.finish", s_Reader_finish⟩ : DfM), (⟨.g "decode_store", "decode_store", "decode_store", s_decode_store⟩ : DfM), (⟨.g "format_store", "format_store", "format_store", s_format_store⟩ : DfM)]
def df2 : List DfM := [(⟨.g "is_count", "is_count", "is_count", s_is_count⟩ : DfM), (⟨.m "Row" "__init__", "__init__", "Row.__init__", s_Row___init__⟩ : DfM), (⟨.m "Row" "has_more", "has_more", "Row.has_more", s_Row_has_more⟩ : DfM), (⟨.m "Row" "fail", "fail", "Row.fail", s_Row_fail⟩ : DfM), (⟨.m "Row" "next_word", "next_word", "Row.next_word", s_Row_next_word⟩ : DfM), (⟨.m "Row" "read_crates", "read_crates", "Row.read_crates", s_Row_read_crates⟩ : DfM), (⟨.g "heads_at", "heads_at", "heads_at", s_heads_at⟩ : DfM), (⟨.g "parse_store", "parse_store", "parse_store", s_parse_store⟩ : DfM), (⟨.g "_law_taken", "_law_taken", "_law_taken", s_law_taken⟩ : DfM), (⟨.g "_law_store", "_law_store", "_law_store", s_law_store⟩ : DfM), (⟨.g "_law_layouts", "_law_layouts", "_law_layouts", s_law_layouts⟩ : DfM), (⟨.g "_law_layout", "_law_layout", "_law_layout", s_law_layout⟩ : DfM), (⟨.g "_law_op", "_law_op", "_law_op", s_law_op⟩ : DfM), (⟨.g "_law_facts", "_law_facts", "_law_facts", s_law_facts⟩ : DfM), (⟨.g "_law_told", "_law_told", "_law_told", s_law_told⟩ : DfM), (⟨.g "_law_is_right", "_law_is_right", "_law_is_right", s_law_is_right⟩ : DfM), (⟨.g "law", "law", "law", s_law⟩ : DfM)]
structure Txt (K : PySem.W.Frag) (mg : Str → Option Value) (w : World) : Prop where
  x0 : ∀ f ∈ fx0, f.says K mg
  x1 : ∀ f ∈ fx1, f.says K mg
  x2 : ∀ f ∈ fx2, f.says K mg
  x3 : ∀ f ∈ fx3, f.says K mg
  x4 : ∀ f ∈ fx4, f.says K mg
  x5 : ∀ f ∈ fx5, f.says K mg
  y0 : ∀ d ∈ df0, d.says K
  y1 : ∀ d ∈ df1, d.says K
  y2 : ∀ d ∈ df2, d.says K
  sizes : ∃ es n, KDict K w (gA K "SIZES") es n
  sizeV : ∀ q ∈ sizesL, ∃ u, PySem.W.nsIn K (gA K "SIZES") q.1 = some (some u) ∧ RelV (.int q.2) u
section
variable {K : PySem.W.Frag} {mg : Str → Option Value} {w : World}
theorem Txt.g_StoreError (T : Txt K mg w) : (.glo "StoreError" : Fx).says K mg := T.x0 _ (List.mem_of_getElem? (i := 0) rfl)
theorem Txt.g_InvalidStore (T : Txt K mg w) : (.glo "InvalidStore" : Fx).says K mg := T.x0 _ (List.mem_of_getElem? (i := 1) rfl)
theorem Txt.g_UnknownPlace (T : Txt K mg w) : (.glo "UnknownPlace" : Fx).says K mg := T.x0 _ (List.mem_of_getElem? (i := 2) rfl)
theorem Txt.g_UnknownDoor (T : Txt K mg w) : (.glo "UnknownDoor" : Fx).says K mg := T.x0 _ (List.mem_of_getElem? (i := 3) rfl)
theorem Txt.g_UnknownCrate (T : Txt K mg w) : (.glo "UnknownCrate" : Fx).says K mg := T.x0 _ (List.mem_of_getElem? (i := 4) rfl)
theorem Txt.g_InvalidLayout (T : Txt K mg w) : (.glo "InvalidLayout" : Fx).says K mg := T.x0 _ (List.mem_of_getElem? (i := 5) rfl)
theorem Txt.g_TakenPlace (T : Txt K mg w) : (.glo "TakenPlace" : Fx).says K mg := T.x0 _ (List.mem_of_getElem? (i := 6) rfl)
theorem Txt.g_InvalidName (T : Txt K mg w) : (.glo "InvalidName" : Fx).says K mg := T.x0 _ (List.mem_of_getElem? (i := 7) rfl)
theorem Txt.g_UnknownKept (T : Txt K mg w) : (.glo "UnknownKept" : Fx).says K mg := T.x0 _ (List.mem_of_getElem? (i := 8) rfl)
theorem Txt.g_InvalidOperation (T : Txt K mg w) : (.glo "InvalidOperation" : Fx).says K mg := T.x0 _ (List.mem_of_getElem? (i := 9) rfl)
theorem Txt.g_InvalidText (T : Txt K mg w) : (.glo "InvalidText" : Fx).says K mg := T.x0 _ (List.mem_of_getElem? (i := 10) rfl)
theorem Txt.g_DecodeError (T : Txt K mg w) : (.glo "DecodeError" : Fx).says K mg := T.x0 _ (List.mem_of_getElem? (i := 11) rfl)
theorem Txt.g_is_number (T : Txt K mg w) : (.glo "is_number" : Fx).says K mg := T.x0 _ (List.mem_of_getElem? (i := 12) rfl)
theorem Txt.g_is_word (T : Txt K mg w) : (.glo "is_word" : Fx).says K mg := T.x0 _ (List.mem_of_getElem? (i := 13) rfl)
theorem Txt.g_is_door (T : Txt K mg w) : (.glo "is_door" : Fx).says K mg := T.x0 _ (List.mem_of_getElem? (i := 14) rfl)
theorem Txt.g_are_doors (T : Txt K mg w) : (.glo "are_doors" : Fx).says K mg := T.x0 _ (List.mem_of_getElem? (i := 15) rfl)
theorem Txt.g_are_crates (T : Txt K mg w) : (.glo "are_crates" : Fx).says K mg := T.x0 _ (List.mem_of_getElem? (i := 16) rfl)
theorem Txt.g_Store (T : Txt K mg w) : (.glo "Store" : Fx).says K mg := T.x0 _ (List.mem_of_getElem? (i := 17) rfl)
theorem Txt.g_is_layout (T : Txt K mg w) : (.glo "is_layout" : Fx).says K mg := T.x0 _ (List.mem_of_getElem? (i := 18) rfl)
theorem Txt.g_check_layout (T : Txt K mg w) : (.glo "check_layout" : Fx).says K mg := T.x0 _ (List.mem_of_getElem? (i := 19) rfl)
theorem Txt.g_check_crate (T : Txt K mg w) : (.glo "check_crate" : Fx).says K mg := T.x0 _ (List.mem_of_getElem? (i := 20) rfl)
theorem Txt.g_seen_behind (T : Txt K mg w) : (.glo "seen_behind" : Fx).says K mg := T.x0 _ (List.mem_of_getElem? (i := 21) rfl)
theorem Txt.g_exchanged (T : Txt K mg w) : (.glo "exchanged" : Fx).says K mg := T.x0 _ (List.mem_of_getElem? (i := 22) rfl)
theorem Txt.g_all_steps (T : Txt K mg w) : (.glo "all_steps" : Fx).says K mg := T.x0 _ (List.mem_of_getElem? (i := 23) rfl)
theorem Txt.g_all_ways (T : Txt K mg w) : (.glo "all_ways" : Fx).says K mg := T.x0 _ (List.mem_of_getElem? (i := 24) rfl)
theorem Txt.g_least_steps (T : Txt K mg w) : (.glo "least_steps" : Fx).says K mg := T.x0 _ (List.mem_of_getElem? (i := 25) rfl)
theorem Txt.g_is_right (T : Txt K mg w) : (.glo "is_right" : Fx).says K mg := T.x0 _ (List.mem_of_getElem? (i := 26) rfl)
theorem Txt.g_is_sorted (T : Txt K mg w) : (.glo "is_sorted" : Fx).says K mg := T.x0 _ (List.mem_of_getElem? (i := 27) rfl)
theorem Txt.g_is_operation (T : Txt K mg w) : (.glo "is_operation" : Fx).says K mg := T.x0 _ (List.mem_of_getElem? (i := 28) rfl)
theorem Txt.g_warmth_of (T : Txt K mg w) : (.glo "warmth_of" : Fx).says K mg := T.x0 _ (List.mem_of_getElem? (i := 29) rfl)
theorem Txt.g_State (T : Txt K mg w) : (.glo "State" : Fx).says K mg := T.x1 _ (List.mem_of_getElem? (i := 0) rfl)
theorem Txt.g_Live (T : Txt K mg w) : (.glo "Live" : Fx).says K mg := T.x1 _ (List.mem_of_getElem? (i := 1) rfl)
theorem Txt.g_Trial (T : Txt K mg w) : (.glo "Trial" : Fx).says K mg := T.x1 _ (List.mem_of_getElem? (i := 2) rfl)
theorem Txt.g_checksum (T : Txt K mg w) : (.glo "checksum" : Fx).says K mg := T.x1 _ (List.mem_of_getElem? (i := 3) rfl)
theorem Txt.g_encode_store (T : Txt K mg w) : (.glo "encode_store" : Fx).says K mg := T.x1 _ (List.mem_of_getElem? (i := 4) rfl)
theorem Txt.g_Reader (T : Txt K mg w) : (.glo "Reader" : Fx).says K mg := T.x1 _ (List.mem_of_getElem? (i := 5) rfl)
theorem Txt.g_decode_store (T : Txt K mg w) : (.glo "decode_store" : Fx).says K mg := T.x1 _ (List.mem_of_getElem? (i := 6) rfl)
theorem Txt.g_format_store (T : Txt K mg w) : (.glo "format_store" : Fx).says K mg := T.x1 _ (List.mem_of_getElem? (i := 7) rfl)
theorem Txt.g_is_count (T : Txt K mg w) : (.glo "is_count" : Fx).says K mg := T.x1 _ (List.mem_of_getElem? (i := 8) rfl)
theorem Txt.g_Row (T : Txt K mg w) : (.glo "Row" : Fx).says K mg := T.x1 _ (List.mem_of_getElem? (i := 9) rfl)
theorem Txt.g_heads_at (T : Txt K mg w) : (.glo "heads_at" : Fx).says K mg := T.x1 _ (List.mem_of_getElem? (i := 10) rfl)
theorem Txt.g_parse_store (T : Txt K mg w) : (.glo "parse_store" : Fx).says K mg := T.x1 _ (List.mem_of_getElem? (i := 11) rfl)
theorem Txt.g_law_taken (T : Txt K mg w) : (.glo "_law_taken" : Fx).says K mg := T.x1 _ (List.mem_of_getElem? (i := 12) rfl)
theorem Txt.g_law_store (T : Txt K mg w) : (.glo "_law_store" : Fx).says K mg := T.x1 _ (List.mem_of_getElem? (i := 13) rfl)
theorem Txt.g_law_layouts (T : Txt K mg w) : (.glo "_law_layouts" : Fx).says K mg := T.x1 _ (List.mem_of_getElem? (i := 14) rfl)
theorem Txt.g_law_layout (T : Txt K mg w) : (.glo "_law_layout" : Fx).says K mg := T.x1 _ (List.mem_of_getElem? (i := 15) rfl)
theorem Txt.g_law_op (T : Txt K mg w) : (.glo "_law_op" : Fx).says K mg := T.x1 _ (List.mem_of_getElem? (i := 16) rfl)
theorem Txt.g_law_facts (T : Txt K mg w) : (.glo "_law_facts" : Fx).says K mg := T.x1 _ (List.mem_of_getElem? (i := 17) rfl)
theorem Txt.g_law_told (T : Txt K mg w) : (.glo "_law_told" : Fx).says K mg := T.x1 _ (List.mem_of_getElem? (i := 18) rfl)
theorem Txt.g_law_is_right (T : Txt K mg w) : (.glo "_law_is_right" : Fx).says K mg := T.x1 _ (List.mem_of_getElem? (i := 19) rfl)
theorem Txt.g_law (T : Txt K mg w) : (.glo "law" : Fx).says K mg := T.x1 _ (List.mem_of_getElem? (i := 20) rfl)
theorem Txt.g_SIZES (T : Txt K mg w) : (.gv "SIZES" : Fx).says K mg := T.x1 _ (List.mem_of_getElem? (i := 21) rfl)
theorem Txt.b_isinstance (T : Txt K mg w) : (.free "isinstance" : Fx).says K mg := T.x1 _ (List.mem_of_getElem? (i := 22) rfl)
theorem Txt.b_int (T : Txt K mg w) : (.free "int" : Fx).says K mg := T.x1 _ (List.mem_of_getElem? (i := 23) rfl)
theorem Txt.b_bool (T : Txt K mg w) : (.free "bool" : Fx).says K mg := T.x1 _ (List.mem_of_getElem? (i := 24) rfl)
theorem Txt.b_str (T : Txt K mg w) : (.free "str" : Fx).says K mg := T.x1 _ (List.mem_of_getElem? (i := 25) rfl)
theorem Txt.b_tuple (T : Txt K mg w) : (.free "tuple" : Fx).says K mg := T.x1 _ (List.mem_of_getElem? (i := 26) rfl)
theorem Txt.b_len (T : Txt K mg w) : (.free "len" : Fx).says K mg := T.x1 _ (List.mem_of_getElem? (i := 27) rfl)
theorem Txt.b_all (T : Txt K mg w) : (.free "all" : Fx).says K mg := T.x1 _ (List.mem_of_getElem? (i := 28) rfl)
theorem Txt.b_sum (T : Txt K mg w) : (.free "sum" : Fx).says K mg := T.x1 _ (List.mem_of_getElem? (i := 29) rfl)
theorem Txt.b_min (T : Txt K mg w) : (.free "min" : Fx).says K mg := T.x2 _ (List.mem_of_getElem? (i := 0) rfl)
theorem Txt.b_enumerate (T : Txt K mg w) : (.free "enumerate" : Fx).says K mg := T.x2 _ (List.mem_of_getElem? (i := 1) rfl)
theorem Txt.b_zip (T : Txt K mg w) : (.free "zip" : Fx).says K mg := T.x2 _ (List.mem_of_getElem? (i := 2) rfl)
theorem Txt.b_sorted (T : Txt K mg w) : (.free "sorted" : Fx).says K mg := T.x2 _ (List.mem_of_getElem? (i := 3) rfl)
theorem Txt.b_list (T : Txt K mg w) : (.free "list" : Fx).says K mg := T.x2 _ (List.mem_of_getElem? (i := 4) rfl)
theorem Txt.b_set (T : Txt K mg w) : (.free "set" : Fx).says K mg := T.x2 _ (List.mem_of_getElem? (i := 5) rfl)
theorem Txt.b_range (T : Txt K mg w) : (.free "range" : Fx).says K mg := T.x2 _ (List.mem_of_getElem? (i := 6) rfl)
theorem Txt.c_LETTERS (T : Txt K mg w) : (.str "LETTERS" "abcdefghijklmnopqrstuvwxyz" : Fx).says K mg := T.x2 _ (List.mem_of_getElem? (i := 7) rfl)
theorem Txt.c_MAX_LETTERS (T : Txt K mg w) : (.int "MAX_LETTERS" 8 : Fx).says K mg := T.x2 _ (List.mem_of_getElem? (i := 8) rfl)
theorem Txt.c_MAX_DOORS (T : Txt K mg w) : (.int "MAX_DOORS" 4 : Fx).says K mg := T.x2 _ (List.mem_of_getElem? (i := 9) rfl)
theorem Txt.c_MAX_WARMTH (T : Txt K mg w) : (.int "MAX_WARMTH" 99 : Fx).says K mg := T.x2 _ (List.mem_of_getElem? (i := 10) rfl)
theorem Txt.c_MAX_BEHIND (T : Txt K mg w) : (.int "MAX_BEHIND" 4 : Fx).says K mg := T.x2 _ (List.mem_of_getElem? (i := 11) rfl)
theorem Txt.c_MAX_PLACES (T : Txt K mg w) : (.int "MAX_PLACES" 6 : Fx).says K mg := T.x2 _ (List.mem_of_getElem? (i := 12) rfl)
theorem Txt.c_MAX_CRATES (T : Txt K mg w) : (.int "MAX_CRATES" 5 : Fx).says K mg := T.x2 _ (List.mem_of_getElem? (i := 13) rfl)
theorem Txt.c_FIRST (T : Txt K mg w) : (.int "FIRST" 71 : Fx).says K mg := T.x2 _ (List.mem_of_getElem? (i := 14) rfl)
theorem Txt.c_CHECK_START (T : Txt K mg w) : (.int "CHECK_START" 4 : Fx).says K mg := T.x2 _ (List.mem_of_getElem? (i := 15) rfl)
theorem Txt.c_CHECK_TIMES (T : Txt K mg w) : (.int "CHECK_TIMES" 11 : Fx).says K mg := T.x2 _ (List.mem_of_getElem? (i := 16) rfl)
theorem Txt.c_CHECK_REST (T : Txt K mg w) : (.int "CHECK_REST" 251 : Fx).says K mg := T.x2 _ (List.mem_of_getElem? (i := 17) rfl)
theorem Txt.c_DOOR (T : Txt K mg w) : (.str "DOOR" "door" : Fx).says K mg := T.x2 _ (List.mem_of_getElem? (i := 18) rfl)
theorem Txt.c_CRATES (T : Txt K mg w) : (.str "CRATES" "crates" : Fx).says K mg := T.x2 _ (List.mem_of_getElem? (i := 19) rfl)
theorem Txt.c_DIGITS (T : Txt K mg w) : (.str "DIGITS" "0123456789" : Fx).says K mg := T.x2 _ (List.mem_of_getElem? (i := 20) rfl)
theorem Txt.c_MOST_DIGITS (T : Txt K mg w) : (.int "MOST_DIGITS" 2 : Fx).says K mg := T.x2 _ (List.mem_of_getElem? (i := 21) rfl)
theorem Txt.cls_Live (T : Txt K mg w) : (.cls "Live" : Fx).says K mg := T.x2 _ (List.mem_of_getElem? (i := 22) rfl)
theorem Txt.cls_Trial (T : Txt K mg w) : (.cls "Trial" : Fx).says K mg := T.x2 _ (List.mem_of_getElem? (i := 23) rfl)
theorem Txt.cls_Reader (T : Txt K mg w) : (.cls "Reader" : Fx).says K mg := T.x2 _ (List.mem_of_getElem? (i := 24) rfl)
theorem Txt.cls_Row (T : Txt K mg w) : (.cls "Row" : Fx).says K mg := T.x2 _ (List.mem_of_getElem? (i := 25) rfl)
theorem Txt.scls_Store (T : Txt K mg w) : (.scls "Store" : Fx).says K mg := T.x2 _ (List.mem_of_getElem? (i := 26) rfl)
theorem Txt.scls_State (T : Txt K mg w) : (.scls "State" : Fx).says K mg := T.x2 _ (List.mem_of_getElem? (i := 27) rfl)
theorem Txt.na_Live_base (T : Txt K mg w) : (.noat "Live" "base" : Fx).says K mg := T.x2 _ (List.mem_of_getElem? (i := 28) rfl)
theorem Txt.na_Live_held (T : Txt K mg w) : (.noat "Live" "held" : Fx).says K mg := T.x2 _ (List.mem_of_getElem? (i := 29) rfl)
theorem Txt.na_Trial_tested_store (T : Txt K mg w) : (.noat "Trial" "tested_store" : Fx).says K mg := T.x3 _ (List.mem_of_getElem? (i := 0) rfl)
theorem Txt.na_Trial_origin (T : Txt K mg w) : (.noat "Trial" "origin" : Fx).says K mg := T.x3 _ (List.mem_of_getElem? (i := 1) rfl)
theorem Txt.na_Trial_fresh (T : Txt K mg w) : (.noat "Trial" "fresh" : Fx).says K mg := T.x3 _ (List.mem_of_getElem? (i := 2) rfl)
theorem Txt.na_Trial_chosen (T : Txt K mg w) : (.noat "Trial" "chosen" : Fx).says K mg := T.x3 _ (List.mem_of_getElem? (i := 3) rfl)
theorem Txt.na_Reader_data (T : Txt K mg w) : (.noat "Reader" "data" : Fx).says K mg := T.x3 _ (List.mem_of_getElem? (i := 4) rfl)
theorem Txt.na_Reader_spot (T : Txt K mg w) : (.noat "Reader" "spot" : Fx).says K mg := T.x3 _ (List.mem_of_getElem? (i := 5) rfl)
theorem Txt.na_Row_number (T : Txt K mg w) : (.noat "Row" "number" : Fx).says K mg := T.x3 _ (List.mem_of_getElem? (i := 6) rfl)
theorem Txt.na_Row_words (T : Txt K mg w) : (.noat "Row" "words" : Fx).says K mg := T.x3 _ (List.mem_of_getElem? (i := 7) rfl)
theorem Txt.na_Row_spot (T : Txt K mg w) : (.noat "Row" "spot" : Fx).says K mg := T.x3 _ (List.mem_of_getElem? (i := 8) rfl)
theorem Txt.me_Live_look (T : Txt K mg w) : (.meth "Live" "look" : Fx).says K mg := T.x3 _ (List.mem_of_getElem? (i := 9) rfl)
theorem Txt.me_Live_put (T : Txt K mg w) : (.meth "Live" "put" : Fx).says K mg := T.x3 _ (List.mem_of_getElem? (i := 10) rfl)
theorem Txt.me_Live_exchange (T : Txt K mg w) : (.meth "Live" "exchange" : Fx).says K mg := T.x3 _ (List.mem_of_getElem? (i := 11) rfl)
theorem Txt.me_Live_shut (T : Txt K mg w) : (.meth "Live" "shut" : Fx).says K mg := T.x3 _ (List.mem_of_getElem? (i := 12) rfl)
theorem Txt.me_Live_keep_as (T : Txt K mg w) : (.meth "Live" "keep_as" : Fx).says K mg := T.x3 _ (List.mem_of_getElem? (i := 13) rfl)
theorem Txt.me_Live_fetch (T : Txt K mg w) : (.meth "Live" "fetch" : Fx).says K mg := T.x3 _ (List.mem_of_getElem? (i := 14) rfl)
theorem Txt.me_Live_undo (T : Txt K mg w) : (.meth "Live" "undo" : Fx).says K mg := T.x3 _ (List.mem_of_getElem? (i := 15) rfl)
theorem Txt.me_Live_redo (T : Txt K mg w) : (.meth "Live" "redo" : Fx).says K mg := T.x3 _ (List.mem_of_getElem? (i := 16) rfl)
theorem Txt.me_Live_execute (T : Txt K mg w) : (.meth "Live" "execute" : Fx).says K mg := T.x3 _ (List.mem_of_getElem? (i := 17) rfl)
theorem Txt.me_Live_apply_all (T : Txt K mg w) : (.meth "Live" "apply_all" : Fx).says K mg := T.x3 _ (List.mem_of_getElem? (i := 18) rfl)
theorem Txt.me_Live_enter (T : Txt K mg w) : (.meth "Live" "enter" : Fx).says K mg := T.x3 _ (List.mem_of_getElem? (i := 19) rfl)
theorem Txt.me_Trial_hold (T : Txt K mg w) : (.meth "Trial" "hold" : Fx).says K mg := T.x3 _ (List.mem_of_getElem? (i := 20) rfl)
theorem Txt.me_Trial___enter__ (T : Txt K mg w) : (.meth "Trial" "__enter__" : Fx).says K mg := T.x3 _ (List.mem_of_getElem? (i := 21) rfl)
theorem Txt.me_Trial___exit__ (T : Txt K mg w) : (.meth "Trial" "__exit__" : Fx).says K mg := T.x3 _ (List.mem_of_getElem? (i := 22) rfl)
theorem Txt.me_State_copied (T : Txt K mg w) : (.meth "State" "copied" : Fx).says K mg := T.x3 _ (List.mem_of_getElem? (i := 23) rfl)
theorem Txt.me_State_go_on (T : Txt K mg w) : (.meth "State" "go_on" : Fx).says K mg := T.x3 _ (List.mem_of_getElem? (i := 24) rfl)
theorem Txt.me_State_go_back (T : Txt K mg w) : (.meth "State" "go_back" : Fx).says K mg := T.x3 _ (List.mem_of_getElem? (i := 25) rfl)
theorem Txt.me_State_go_again (T : Txt K mg w) : (.meth "State" "go_again" : Fx).says K mg := T.x3 _ (List.mem_of_getElem? (i := 26) rfl)
theorem Txt.me_Store_door_of (T : Txt K mg w) : (.meth "Store" "door_of" : Fx).says K mg := T.x3 _ (List.mem_of_getElem? (i := 27) rfl)
theorem Txt.me_Store_places_of (T : Txt K mg w) : (.meth "Store" "places_of" : Fx).says K mg := T.x3 _ (List.mem_of_getElem? (i := 28) rfl)
theorem Txt.me_Store___len__ (T : Txt K mg w) : (.meth "Store" "__len__" : Fx).says K mg := T.x3 _ (List.mem_of_getElem? (i := 29) rfl)
theorem Txt.me_Reader_item (T : Txt K mg w) : (.meth "Reader" "item" : Fx).says K mg := T.x4 _ (List.mem_of_getElem? (i := 0) rfl)
theorem Txt.me_Reader_read_door (T : Txt K mg w) : (.meth "Reader" "read_door" : Fx).says K mg := T.x4 _ (List.mem_of_getElem? (i := 1) rfl)
theorem Txt.me_Reader_read_crate (T : Txt K mg w) : (.meth "Reader" "read_crate" : Fx).says K mg := T.x4 _ (List.mem_of_getElem? (i := 2) rfl)
theorem Txt.me_Reader_finish (T : Txt K mg w) : (.meth "Reader" "finish" : Fx).says K mg := T.x4 _ (List.mem_of_getElem? (i := 3) rfl)
theorem Txt.me_Row_has_more (T : Txt K mg w) : (.meth "Row" "has_more" : Fx).says K mg := T.x4 _ (List.mem_of_getElem? (i := 4) rfl)
theorem Txt.me_Row_fail (T : Txt K mg w) : (.meth "Row" "fail" : Fx).says K mg := T.x4 _ (List.mem_of_getElem? (i := 5) rfl)
theorem Txt.me_Row_next_word (T : Txt K mg w) : (.meth "Row" "next_word" : Fx).says K mg := T.x4 _ (List.mem_of_getElem? (i := 6) rfl)
theorem Txt.me_Row_read_crates (T : Txt K mg w) : (.meth "Row" "read_crates" : Fx).says K mg := T.x4 _ (List.mem_of_getElem? (i := 7) rfl)
theorem Txt.mk_Store (T : Txt K mg w) : (.mkr "Store" : Fx).says K mg := T.x4 _ (List.mem_of_getElem? (i := 8) rfl)
theorem Txt.mk_State (T : Txt K mg w) : (.mkr "State" : Fx).says K mg := T.x4 _ (List.mem_of_getElem? (i := 9) rfl)
theorem Txt.mk_Live (T : Txt K mg w) : (.mkr "Live" : Fx).says K mg := T.x4 _ (List.mem_of_getElem? (i := 10) rfl)
theorem Txt.mk_Trial (T : Txt K mg w) : (.mkr "Trial" : Fx).says K mg := T.x4 _ (List.mem_of_getElem? (i := 11) rfl)
theorem Txt.mk_Reader (T : Txt K mg w) : (.mkr "Reader" : Fx).says K mg := T.x4 _ (List.mem_of_getElem? (i := 12) rfl)
theorem Txt.mk_Row (T : Txt K mg w) : (.mkr "Row" : Fx).says K mg := T.x4 _ (List.mem_of_getElem? (i := 13) rfl)
theorem Txt.ex_UnknownPlace (T : Txt K mg w) : (.exc "UnknownPlace" : Fx).says K mg := T.x4 _ (List.mem_of_getElem? (i := 14) rfl)
theorem Txt.xm_UnknownPlace (T : Txt K mg w) : (.exm "UnknownPlace" "StoreError" true : Fx).says K mg := T.x4 _ (List.mem_of_getElem? (i := 15) rfl)
theorem Txt.ex_UnknownDoor (T : Txt K mg w) : (.exc "UnknownDoor" : Fx).says K mg := T.x4 _ (List.mem_of_getElem? (i := 16) rfl)
theorem Txt.xm_UnknownDoor (T : Txt K mg w) : (.exm "UnknownDoor" "StoreError" true : Fx).says K mg := T.x4 _ (List.mem_of_getElem? (i := 17) rfl)
theorem Txt.ex_UnknownCrate (T : Txt K mg w) : (.exc "UnknownCrate" : Fx).says K mg := T.x4 _ (List.mem_of_getElem? (i := 18) rfl)
theorem Txt.xm_UnknownCrate (T : Txt K mg w) : (.exm "UnknownCrate" "StoreError" true : Fx).says K mg := T.x4 _ (List.mem_of_getElem? (i := 19) rfl)
theorem Txt.ex_TakenPlace (T : Txt K mg w) : (.exc "TakenPlace" : Fx).says K mg := T.x4 _ (List.mem_of_getElem? (i := 20) rfl)
theorem Txt.xm_TakenPlace (T : Txt K mg w) : (.exm "TakenPlace" "StoreError" true : Fx).says K mg := T.x4 _ (List.mem_of_getElem? (i := 21) rfl)
theorem Txt.ex_UnknownKept (T : Txt K mg w) : (.exc "UnknownKept" : Fx).says K mg := T.x4 _ (List.mem_of_getElem? (i := 22) rfl)
theorem Txt.xm_UnknownKept (T : Txt K mg w) : (.exm "UnknownKept" "StoreError" true : Fx).says K mg := T.x4 _ (List.mem_of_getElem? (i := 23) rfl)
theorem Txt.pr_Store_doors (T : Txt K mg w) : (.prop "Store" "doors" : Fx).says K mg := T.x4 _ (List.mem_of_getElem? (i := 24) rfl)
theorem Txt.pr_Store_crates (T : Txt K mg w) : (.prop "Store" "crates" : Fx).says K mg := T.x4 _ (List.mem_of_getElem? (i := 25) rfl)
theorem Txt.pr_Store_size (T : Txt K mg w) : (.prop "Store" "size" : Fx).says K mg := T.x4 _ (List.mem_of_getElem? (i := 26) rfl)
theorem Txt.pr_Live_layout_now (T : Txt K mg w) : (.prop "Live" "layout_now" : Fx).says K mg := T.x4 _ (List.mem_of_getElem? (i := 27) rfl)
theorem Txt.pr_Live_warmth_now (T : Txt K mg w) : (.prop "Live" "warmth_now" : Fx).says K mg := T.x4 _ (List.mem_of_getElem? (i := 28) rfl)
theorem Txt.pr_Live_day_warmths (T : Txt K mg w) : (.prop "Live" "day_warmths" : Fx).says K mg := T.x4 _ (List.mem_of_getElem? (i := 29) rfl)
theorem Txt.pr_Live_kept_under (T : Txt K mg w) : (.prop "Live" "kept_under" : Fx).says K mg := T.x5 _ (List.mem_of_getElem? (i := 0) rfl)
theorem Txt.pr_Live_history (T : Txt K mg w) : (.prop "Live" "history" : Fx).says K mg := T.x5 _ (List.mem_of_getElem? (i := 1) rfl)
theorem Txt.sl_Store_edges (T : Txt K mg w) : (.slot "Store" "edges" 0 : Fx).says K mg := T.x5 _ (List.mem_of_getElem? (i := 2) rfl)
theorem Txt.sl_Store_parts (T : Txt K mg w) : (.slot "Store" "parts" 1 : Fx).says K mg := T.x5 _ (List.mem_of_getElem? (i := 3) rfl)
theorem Txt.sl_State_facts (T : Txt K mg w) : (.slot "State" "facts" 0 : Fx).says K mg := T.x5 _ (List.mem_of_getElem? (i := 4) rfl)
theorem Txt.sl_State_past (T : Txt K mg w) : (.slot "State" "past" 1 : Fx).says K mg := T.x5 _ (List.mem_of_getElem? (i := 5) rfl)
theorem Txt.sl_State_shelf (T : Txt K mg w) : (.slot "State" "shelf" 2 : Fx).says K mg := T.x5 _ (List.mem_of_getElem? (i := 6) rfl)
theorem Txt.sl_State_undone (T : Txt K mg w) : (.slot "State" "undone" 3 : Fx).says K mg := T.x5 _ (List.mem_of_getElem? (i := 7) rfl)
theorem Txt.cr_Live (T : Txt K mg w) : (.cread "Live" : Fx).says K mg := T.x5 _ (List.mem_of_getElem? (i := 8) rfl)
theorem Txt.cm_Live_replay (T : Txt K mg w) : (.cmet "Live" "replay" : Fx).says K mg := T.x5 _ (List.mem_of_getElem? (i := 9) rfl)
theorem Txt.d_is_number (T : Txt K mg w) : (⟨.g "is_number", "is_number", "is_number", s_is_number⟩ : DfM).says K := T.y0 _ (List.mem_of_getElem? (i := 0) rfl)
theorem Txt.d_is_word (T : Txt K mg w) : (⟨.g "is_word", "is_word", "is_word", s_is_word⟩ : DfM).says K := T.y0 _ (List.mem_of_getElem? (i := 1) rfl)
theorem Txt.d_is_door (T : Txt K mg w) : (⟨.g "is_door", "is_door", "is_door", s_is_door⟩ : DfM).says K := T.y0 _ (List.mem_of_getElem? (i := 2) rfl)
theorem Txt.d_are_doors (T : Txt K mg w) : (⟨.g "are_doors", "are_doors", "are_doors", s_are_doors⟩ : DfM).says K := T.y0 _ (List.mem_of_getElem? (i := 3) rfl)
theorem Txt.d_are_crates (T : Txt K mg w) : (⟨.g "are_crates", "are_crates", "are_crates", s_are_crates⟩ : DfM).says K := T.y0 _ (List.mem_of_getElem? (i := 4) rfl)
theorem Txt.d_Store___init__ (T : Txt K mg w) : (⟨.m "Store" "__init__", "__init__", "Store.__init__", s_Store___init__⟩ : DfM).says K := T.y0 _ (List.mem_of_getElem? (i := 5) rfl)
theorem Txt.d_Store_doors (T : Txt K mg w) : (⟨.p "Store" "doors", "doors", "Store.doors", s_Store_doors⟩ : DfM).says K := T.y0 _ (List.mem_of_getElem? (i := 6) rfl)
theorem Txt.d_Store_crates (T : Txt K mg w) : (⟨.p "Store" "crates", "crates", "Store.crates", s_Store_crates⟩ : DfM).says K := T.y0 _ (List.mem_of_getElem? (i := 7) rfl)
theorem Txt.d_Store_size (T : Txt K mg w) : (⟨.p "Store" "size", "size", "Store.size", s_Store_size⟩ : DfM).says K := T.y0 _ (List.mem_of_getElem? (i := 8) rfl)
theorem Txt.d_Store___len__ (T : Txt K mg w) : (⟨.m "Store" "__len__", "__len__", "Store.__len__", s_Store___len__⟩ : DfM).says K := T.y0 _ (List.mem_of_getElem? (i := 9) rfl)
theorem Txt.d_Store_door_of (T : Txt K mg w) : (⟨.m "Store" "door_of", "door_of", "Store.door_of", s_Store_door_of⟩ : DfM).says K := T.y0 _ (List.mem_of_getElem? (i := 10) rfl)
theorem Txt.d_Store_places_of (T : Txt K mg w) : (⟨.m "Store" "places_of", "places_of", "Store.places_of", s_Store_places_of⟩ : DfM).says K := T.y0 _ (List.mem_of_getElem? (i := 11) rfl)
theorem Txt.d_is_layout (T : Txt K mg w) : (⟨.g "is_layout", "is_layout", "is_layout", s_is_layout⟩ : DfM).says K := T.y0 _ (List.mem_of_getElem? (i := 12) rfl)
theorem Txt.d_check_layout (T : Txt K mg w) : (⟨.g "check_layout", "check_layout", "check_layout", s_check_layout⟩ : DfM).says K := T.y0 _ (List.mem_of_getElem? (i := 13) rfl)
theorem Txt.d_check_crate (T : Txt K mg w) : (⟨.g "check_crate", "check_crate", "check_crate", s_check_crate⟩ : DfM).says K := T.y0 _ (List.mem_of_getElem? (i := 14) rfl)
theorem Txt.d_seen_behind (T : Txt K mg w) : (⟨.g "seen_behind", "seen_behind", "seen_behind", s_seen_behind⟩ : DfM).says K := T.y0 _ (List.mem_of_getElem? (i := 15) rfl)
theorem Txt.d_exchanged (T : Txt K mg w) : (⟨.g "exchanged", "exchanged", "exchanged", s_exchanged⟩ : DfM).says K := T.y0 _ (List.mem_of_getElem? (i := 16) rfl)
theorem Txt.d_all_steps (T : Txt K mg w) : (⟨.g "all_steps", "all_steps", "all_steps", s_all_steps⟩ : DfM).says K := T.y0 _ (List.mem_of_getElem? (i := 17) rfl)
theorem Txt.d_all_ways (T : Txt K mg w) : (⟨.g "all_ways", "all_ways", "all_ways", s_all_ways⟩ : DfM).says K := T.y0 _ (List.mem_of_getElem? (i := 18) rfl)
theorem Txt.d_least_steps (T : Txt K mg w) : (⟨.g "least_steps", "least_steps", "least_steps", s_least_steps⟩ : DfM).says K := T.y0 _ (List.mem_of_getElem? (i := 19) rfl)
theorem Txt.d_is_right (T : Txt K mg w) : (⟨.g "is_right", "is_right", "is_right", s_is_right⟩ : DfM).says K := T.y0 _ (List.mem_of_getElem? (i := 20) rfl)
theorem Txt.d_is_sorted (T : Txt K mg w) : (⟨.g "is_sorted", "is_sorted", "is_sorted", s_is_sorted⟩ : DfM).says K := T.y0 _ (List.mem_of_getElem? (i := 21) rfl)
theorem Txt.d_is_operation (T : Txt K mg w) : (⟨.g "is_operation", "is_operation", "is_operation", s_is_operation⟩ : DfM).says K := T.y0 _ (List.mem_of_getElem? (i := 22) rfl)
theorem Txt.d_warmth_of (T : Txt K mg w) : (⟨.g "warmth_of", "warmth_of", "warmth_of", s_warmth_of⟩ : DfM).says K := T.y0 _ (List.mem_of_getElem? (i := 23) rfl)
theorem Txt.d_State___init__ (T : Txt K mg w) : (⟨.m "State" "__init__", "__init__", "State.__init__", s_State___init__⟩ : DfM).says K := T.y0 _ (List.mem_of_getElem? (i := 24) rfl)
theorem Txt.d_State_copied (T : Txt K mg w) : (⟨.m "State" "copied", "copied", "State.copied", s_State_copied⟩ : DfM).says K := T.y0 _ (List.mem_of_getElem? (i := 25) rfl)
theorem Txt.d_State_go_on (T : Txt K mg w) : (⟨.m "State" "go_on", "go_on", "State.go_on", s_State_go_on⟩ : DfM).says K := T.y0 _ (List.mem_of_getElem? (i := 26) rfl)
theorem Txt.d_State_go_back (T : Txt K mg w) : (⟨.m "State" "go_back", "go_back", "State.go_back", s_State_go_back⟩ : DfM).says K := T.y0 _ (List.mem_of_getElem? (i := 27) rfl)
theorem Txt.d_State_go_again (T : Txt K mg w) : (⟨.m "State" "go_again", "go_again", "State.go_again", s_State_go_again⟩ : DfM).says K := T.y0 _ (List.mem_of_getElem? (i := 28) rfl)
theorem Txt.d_Live___init__ (T : Txt K mg w) : (⟨.m "Live" "__init__", "__init__", "Live.__init__", s_Live___init__⟩ : DfM).says K := T.y0 _ (List.mem_of_getElem? (i := 29) rfl)
theorem Txt.d_Live_replay (T : Txt K mg w) : (⟨.c "Live" "replay", "replay", "Live.replay", s_Live_replay⟩ : DfM).says K := T.y1 _ (List.mem_of_getElem? (i := 0) rfl)
theorem Txt.d_Live_layout_now (T : Txt K mg w) : (⟨.p "Live" "layout_now", "layout_now", "Live.layout_now", s_Live_layout_now⟩ : DfM).says K := T.y1 _ (List.mem_of_getElem? (i := 1) rfl)
theorem Txt.d_Live_warmth_now (T : Txt K mg w) : (⟨.p "Live" "warmth_now", "warmth_now", "Live.warmth_now", s_Live_warmth_now⟩ : DfM).says K := T.y1 _ (List.mem_of_getElem? (i := 2) rfl)
theorem Txt.d_Live_day_warmths (T : Txt K mg w) : (⟨.p "Live" "day_warmths", "day_warmths", "Live.day_warmths", s_Live_day_warmths⟩ : DfM).says K := T.y1 _ (List.mem_of_getElem? (i := 3) rfl)
theorem Txt.d_Live_kept_under (T : Txt K mg w) : (⟨.p "Live" "kept_under", "kept_under", "Live.kept_under", s_Live_kept_under⟩ : DfM).says K := T.y1 _ (List.mem_of_getElem? (i := 4) rfl)
theorem Txt.d_Live_history (T : Txt K mg w) : (⟨.p "Live" "history", "history", "Live.history", s_Live_history⟩ : DfM).says K := T.y1 _ (List.mem_of_getElem? (i := 5) rfl)
theorem Txt.d_Live_enter (T : Txt K mg w) : (⟨.m "Live" "enter", "enter", "Live.enter", s_Live_enter⟩ : DfM).says K := T.y1 _ (List.mem_of_getElem? (i := 6) rfl)
theorem Txt.d_Live_look (T : Txt K mg w) : (⟨.m "Live" "look", "look", "Live.look", s_Live_look⟩ : DfM).says K := T.y1 _ (List.mem_of_getElem? (i := 7) rfl)
theorem Txt.d_Live_put (T : Txt K mg w) : (⟨.m "Live" "put", "put", "Live.put", s_Live_put⟩ : DfM).says K := T.y1 _ (List.mem_of_getElem? (i := 8) rfl)
theorem Txt.d_Live_exchange (T : Txt K mg w) : (⟨.m "Live" "exchange", "exchange", "Live.exchange", s_Live_exchange⟩ : DfM).says K := T.y1 _ (List.mem_of_getElem? (i := 9) rfl)
theorem Txt.d_Live_shut (T : Txt K mg w) : (⟨.m "Live" "shut", "shut", "Live.shut", s_Live_shut⟩ : DfM).says K := T.y1 _ (List.mem_of_getElem? (i := 10) rfl)
theorem Txt.d_Live_keep_as (T : Txt K mg w) : (⟨.m "Live" "keep_as", "keep_as", "Live.keep_as", s_Live_keep_as⟩ : DfM).says K := T.y1 _ (List.mem_of_getElem? (i := 11) rfl)
theorem Txt.d_Live_fetch (T : Txt K mg w) : (⟨.m "Live" "fetch", "fetch", "Live.fetch", s_Live_fetch⟩ : DfM).says K := T.y1 _ (List.mem_of_getElem? (i := 12) rfl)
theorem Txt.d_Live_undo (T : Txt K mg w) : (⟨.m "Live" "undo", "undo", "Live.undo", s_Live_undo⟩ : DfM).says K := T.y1 _ (List.mem_of_getElem? (i := 13) rfl)
theorem Txt.d_Live_redo (T : Txt K mg w) : (⟨.m "Live" "redo", "redo", "Live.redo", s_Live_redo⟩ : DfM).says K := T.y1 _ (List.mem_of_getElem? (i := 14) rfl)
theorem Txt.d_Live_execute (T : Txt K mg w) : (⟨.m "Live" "execute", "execute", "Live.execute", s_Live_execute⟩ : DfM).says K := T.y1 _ (List.mem_of_getElem? (i := 15) rfl)
theorem Txt.d_Live_apply_all (T : Txt K mg w) : (⟨.m "Live" "apply_all", "apply_all", "Live.apply_all", s_Live_apply_all⟩ : DfM).says K := T.y1 _ (List.mem_of_getElem? (i := 16) rfl)
theorem Txt.d_Trial___init__ (T : Txt K mg w) : (⟨.m "Trial" "__init__", "__init__", "Trial.__init__", s_Trial___init__⟩ : DfM).says K := T.y1 _ (List.mem_of_getElem? (i := 17) rfl)
theorem Txt.d_Trial_hold (T : Txt K mg w) : (⟨.m "Trial" "hold", "hold", "Trial.hold", s_Trial_hold⟩ : DfM).says K := T.y1 _ (List.mem_of_getElem? (i := 18) rfl)
theorem Txt.d_Trial___enter__ (T : Txt K mg w) : (⟨.m "Trial" "__enter__", "__enter__", "Trial.__enter__", s_Trial___enter__⟩ : DfM).says K := T.y1 _ (List.mem_of_getElem? (i := 19) rfl)
theorem Txt.d_Trial___exit__ (T : Txt K mg w) : (⟨.m "Trial" "__exit__", "__exit__", "Trial.__exit__", s_Trial___exit__⟩ : DfM).says K := T.y1 _ (List.mem_of_getElem? (i := 20) rfl)
theorem Txt.d_checksum (T : Txt K mg w) : (⟨.g "checksum", "checksum", "checksum", s_checksum⟩ : DfM).says K := T.y1 _ (List.mem_of_getElem? (i := 21) rfl)
theorem Txt.d_encode_store (T : Txt K mg w) : (⟨.g "encode_store", "encode_store", "encode_store", s_encode_store⟩ : DfM).says K := T.y1 _ (List.mem_of_getElem? (i := 22) rfl)
theorem Txt.d_Reader___init__ (T : Txt K mg w) : (⟨.m "Reader" "__init__", "__init__", "Reader.__init__", s_Reader___init__⟩ : DfM).says K := T.y1 _ (List.mem_of_getElem? (i := 23) rfl)
theorem Txt.d_Reader_item (T : Txt K mg w) : (⟨.m "Reader" "item", "item", "Reader.item", s_Reader_item⟩ : DfM).says K := T.y1 _ (List.mem_of_getElem? (i := 24) rfl)
theorem Txt.d_Reader_read_door (T : Txt K mg w) : (⟨.m "Reader" "read_door", "read_door", "Reader.read_door", s_Reader_read_door⟩ : DfM).says K := T.y1 _ (List.mem_of_getElem? (i := 25) rfl)
theorem Txt.d_Reader_read_crate (T : Txt K mg w) : (⟨.m "Reader" "read_crate", "read_crate", "Reader.read_crate", s_Reader_read_crate⟩ : DfM).says K := T.y1 _ (List.mem_of_getElem? (i := 26) rfl)
theorem Txt.d_Reader_finish (T : Txt K mg w) : (⟨.m "Reader" "finish", "finish", "Reader.finish", s_Reader_finish⟩ : DfM).says K := T.y1 _ (List.mem_of_getElem? (i := 27) rfl)
theorem Txt.d_decode_store (T : Txt K mg w) : (⟨.g "decode_store", "decode_store", "decode_store", s_decode_store⟩ : DfM).says K := T.y1 _ (List.mem_of_getElem? (i := 28) rfl)
theorem Txt.d_format_store (T : Txt K mg w) : (⟨.g "format_store", "format_store", "format_store", s_format_store⟩ : DfM).says K := T.y1 _ (List.mem_of_getElem? (i := 29) rfl)
theorem Txt.d_is_count (T : Txt K mg w) : (⟨.g "is_count", "is_count", "is_count", s_is_count⟩ : DfM).says K := T.y2 _ (List.mem_of_getElem? (i := 0) rfl)
theorem Txt.d_Row___init__ (T : Txt K mg w) : (⟨.m "Row" "__init__", "__init__", "Row.__init__", s_Row___init__⟩ : DfM).says K := T.y2 _ (List.mem_of_getElem? (i := 1) rfl)
theorem Txt.d_Row_has_more (T : Txt K mg w) : (⟨.m "Row" "has_more", "has_more", "Row.has_more", s_Row_has_more⟩ : DfM).says K := T.y2 _ (List.mem_of_getElem? (i := 2) rfl)
theorem Txt.d_Row_fail (T : Txt K mg w) : (⟨.m "Row" "fail", "fail", "Row.fail", s_Row_fail⟩ : DfM).says K := T.y2 _ (List.mem_of_getElem? (i := 3) rfl)
theorem Txt.d_Row_next_word (T : Txt K mg w) : (⟨.m "Row" "next_word", "next_word", "Row.next_word", s_Row_next_word⟩ : DfM).says K := T.y2 _ (List.mem_of_getElem? (i := 4) rfl)
theorem Txt.d_Row_read_crates (T : Txt K mg w) : (⟨.m "Row" "read_crates", "read_crates", "Row.read_crates", s_Row_read_crates⟩ : DfM).says K := T.y2 _ (List.mem_of_getElem? (i := 5) rfl)
theorem Txt.d_heads_at (T : Txt K mg w) : (⟨.g "heads_at", "heads_at", "heads_at", s_heads_at⟩ : DfM).says K := T.y2 _ (List.mem_of_getElem? (i := 6) rfl)
theorem Txt.d_parse_store (T : Txt K mg w) : (⟨.g "parse_store", "parse_store", "parse_store", s_parse_store⟩ : DfM).says K := T.y2 _ (List.mem_of_getElem? (i := 7) rfl)
theorem Txt.d_law_taken (T : Txt K mg w) : (⟨.g "_law_taken", "_law_taken", "_law_taken", s_law_taken⟩ : DfM).says K := T.y2 _ (List.mem_of_getElem? (i := 8) rfl)
theorem Txt.d_law_store (T : Txt K mg w) : (⟨.g "_law_store", "_law_store", "_law_store", s_law_store⟩ : DfM).says K := T.y2 _ (List.mem_of_getElem? (i := 9) rfl)
theorem Txt.d_law_layouts (T : Txt K mg w) : (⟨.g "_law_layouts", "_law_layouts", "_law_layouts", s_law_layouts⟩ : DfM).says K := T.y2 _ (List.mem_of_getElem? (i := 10) rfl)
theorem Txt.d_law_layout (T : Txt K mg w) : (⟨.g "_law_layout", "_law_layout", "_law_layout", s_law_layout⟩ : DfM).says K := T.y2 _ (List.mem_of_getElem? (i := 11) rfl)
theorem Txt.d_law_op (T : Txt K mg w) : (⟨.g "_law_op", "_law_op", "_law_op", s_law_op⟩ : DfM).says K := T.y2 _ (List.mem_of_getElem? (i := 12) rfl)
theorem Txt.d_law_facts (T : Txt K mg w) : (⟨.g "_law_facts", "_law_facts", "_law_facts", s_law_facts⟩ : DfM).says K := T.y2 _ (List.mem_of_getElem? (i := 13) rfl)
theorem Txt.d_law_told (T : Txt K mg w) : (⟨.g "_law_told", "_law_told", "_law_told", s_law_told⟩ : DfM).says K := T.y2 _ (List.mem_of_getElem? (i := 14) rfl)
theorem Txt.d_law_is_right (T : Txt K mg w) : (⟨.g "_law_is_right", "_law_is_right", "_law_is_right", s_law_is_right⟩ : DfM).says K := T.y2 _ (List.mem_of_getElem? (i := 15) rfl)
theorem Txt.d_law (T : Txt K mg w) : (⟨.g "law", "law", "law", s_law⟩ : DfM).says K := T.y2 _ (List.mem_of_getElem? (i := 16) rfl)
end
end CC
set_option maxHeartbeats 0
/-! CCHead: the head, its facts read by a Hook. -/
namespace CC
open PySem PySem.Spec PyProof.Rows L2
/-- the code object of the def at a, its table -/
def codeA (K : PySem.W.Frag) (a : Addr) : Addr := match K.lookup a with
  | some ⟨_, _, .func fd, _⟩ => (match fd.code with
    | .ref c => c
    | _ => 0)
  | _ => 0
def tabA (K : PySem.W.Frag) (a : Addr) : Addr := He.tabOf K (codeA K a)
def tab1 (g : Addr → Option Obj) (K : PySem.W.Frag) (a : Addr) : Bool := PySem.W.codeHdIn K (codeA K a) (tabA K a) && (match g (tabA K a) with
  | some o => He.emptyTab o
  | none => false)
def tabsM (g : Addr → Option Obj) (K : PySem.W.Frag) : Bool := tab1 g K (mA K "Row" "read_crates") && (tab1 g K (gA K "parse_store") && !(tabA K (mA K "Row" "read_crates") == tabA K (gA K "parse_store")))
def sizeB (K : PySem.W.Frag) : Bool := sizesL.all fun q => match PySem.W.nsIn K (gA K "SIZES") q.1 with
  | some (some (.int i _)) => decide (i = q.2)
  | _ => false
abbrev AlM : Type := (Bool × List FnV) × Option (List (Option (Str × Int)))
def okM (K : PySem.W.Frag) : Bool := fx0.all (Fx.ok K) && (fx1.all (Fx.ok K) && (fx2.all (Fx.ok K) && (fx3.all (Fx.ok K) && (fx4.all (Fx.ok K) && (fx5.all (Fx.ok K) && (df0.all (DfM.ok K) && (df1.all (DfM.ok K) && (df2.all (DfM.ok K) && sizeB K))))))))
def dfs : List DfM := df0 ++ (df1 ++ df2)
def obsK (g : Addr → Option Obj) (K : PySem.W.Frag) : AlM := ((okM K && tabsM g K, dfs.map (DfM.obs K)), He.dicW K (gA K "SIZES"))
def valM (w : World) : AlM := ((true, dfs.map DfM.val), some (He.keysIn w.params (sizesL.map Prod.fst)))
def obsM (g : Addr → Option Obj) : AlM := obsK g (He.frT g (He5.asA g 5))
/-- what is told of the head -/
structure SaysM (w : World) (h : Heap) (K : PySem.W.Frag) : Prop where
  ok : okM K = true
  fn : dfs.map (DfM.obs K) = dfs.map DfM.val
  dic : He.dicW K (gA K "SIZES") = some (He.keysIn w.params (sizesL.map Prod.fst))
  hd1 : PySem.W.codeHdIn K (codeA K (mA K "Row" "read_crates")) (tabA K (mA K "Row" "read_crates")) = true
  hd2 : PySem.W.codeHdIn K (codeA K (gA K "parse_store")) (tabA K (gA K "parse_store")) = true
  out1 : K.lookup (tabA K (mA K "Row" "read_crates")) = none
  out2 : K.lookup (tabA K (gA K "parse_store")) = none
  em1 : h.get? (tabA K (mA K "Row" "read_crates")) = some { cls := .none, data := .fields #[] }
  em2 : h.get? (tabA K (gA K "parse_store")) = some { cls := .none, data := .fields #[] }
  ne : tabA K (mA K "Row" "read_crates") ≠ tabA K (gA K "parse_store")
theorem tab1_of {h : Heap} {as : List Addr} {a : Addr} (e : tab1 h.get? (He.frT h.get? as) a = true) : PySem.W.codeHdIn (He.frT h.get? as) (codeA (He.frT h.get? as) a) (tabA (He.frT h.get? as) a) = true ∧ (He.frT h.get? as).lookup (tabA (He.frT h.get? as) a) = none ∧ h.get? (tabA (He.frT h.get? as) a) = some { cls := .none, data := .fields #[] } := by
  obtain ⟨h1, h2⟩ := He.ba e
  refine ⟨h1, ?_⟩
  cases q : h.get? (tabA (He.frT h.get? as) a) with
  | none => rw [q] at h2; cases h2
  | some o =>
    rw [q] at h2
    exact ⟨He.frT_none q h2, by rw [He.emptyTab_eq h2]⟩
theorem saysM_of {w : World} {h : Heap} (e : obsM h.get? = valM w) : SaysM w h (He.frT h.get? (He5.asA h.get? 5)) := by
  unfold obsM obsK valM at e
  obtain ⟨e12, e3⟩ := Prod.mk.inj e
  obtain ⟨e1, e2⟩ := Prod.mk.inj e12
  obtain ⟨h1, h2⟩ := He.ba e1
  obtain ⟨h3, h4⟩ := He.ba h2
  obtain ⟨h5, h6⟩ := He.ba h4
  obtain ⟨a1, a2, a3⟩ := tab1_of h3
  obtain ⟨b1, b2, b3⟩ := tab1_of h5
  exact ⟨h1, e2, e3, a1, b1, a2, b2, a3, b3, fun z => by rw [z] at h6; simp at h6⟩
def hookM : PySem.W.Hook where
  α := AlM
  obs := fun s => obsM s.heap.get?
  val := fun w => valM w
  says := fun w h => ∃ K : PySem.W.Frag, K.In h ∧ SaysM w h K
  of := fun _ _ e => ⟨_, He.frT_in, saysM_of e⟩
  keeps := fun _ _ _ ⟨K, hK, c⟩ k => ⟨K, PySem.W.Frag.In.keeps hK k, ⟨c.ok, c.fn, c.dic, c.hd1, c.hd2, c.out1, c.out2, k _ _ c.em1, k _ _ c.em2, c.ne⟩⟩
def obT (s : PySem.W.SharedT) : AlM := obsM (HandSHeadRun.getT s)
theorem hookM_obs (s : Shared) : hookM.obs s = obsM s.heap.get? := by
  delta hookM
  rfl
theorem obT_eq (s : PySem.W.SharedT) : obT s = hookM.obs s.abs := by
  rw [hookM_obs]
  unfold obT
  exact congrArg obsM (funext fun a => HandSHeadRun.getT_eq s a)
theorem SaysM.txt {w : World} {h : Heap} {K : PySem.W.Frag} {mg : Str → Option Value} (c : SaysM w h K) (X : K.In h) (G : h.Ns mainGlobals mg) : Txt K mg w := by
  obtain ⟨f0, z⟩ := He.ba c.ok
  obtain ⟨f1, z⟩ := He.ba z
  obtain ⟨f2, z⟩ := He.ba z
  obtain ⟨f3, z⟩ := He.ba z
  obtain ⟨f4, z⟩ := He.ba z
  obtain ⟨f5, z⟩ := He.ba z
  obtain ⟨d0, z⟩ := He.ba z
  obtain ⟨d1, z⟩ := He.ba z
  obtain ⟨d2, z⟩ := He.ba z
  have fx : ∀ {l : List Fx}, l.all (Fx.ok K) = true → ∀ f ∈ l, f.says K mg := fun {l} a f hf => Fx.sound X G (List.all_eq_true.mp a f hf)
  have dx : ∀ {l : List DfM}, l.all (DfM.ok K) = true → (∀ d ∈ l, d ∈ dfs) → ∀ d ∈ l, d.says K := fun {l} a m d hd => by
    obtain ⟨i, hi, e⟩ := List.mem_iff_getElem.mp (m d hd)
    have e2 : (dfs.map (DfM.obs K))[i]? = (dfs.map DfM.val)[i]? := by rw [c.fn]
    rw [List.getElem?_map, List.getElem?_map, List.getElem?_eq_getElem hi, e] at e2
    exact DfM.sound (Option.some.inj e2) (List.all_eq_true.mp a d hd)
  have m0 : ∀ d ∈ df0, d ∈ dfs := fun d hd => by unfold dfs; exact List.mem_append_left _ hd
  have m1 : ∀ d ∈ df1, d ∈ dfs := fun d hd => by unfold dfs; exact List.mem_append_right _ (List.mem_append_left _ hd)
  have m2 : ∀ d ∈ df2, d ∈ dfs := fun d hd => by unfold dfs; exact List.mem_append_right _ (List.mem_append_right _ hd)
  have g0 := fx (l := fx0) f0
  have g1 := fx (l := fx1) f1
  have g2 := fx (l := fx2) f2
  have g3 := fx (l := fx3) f3
  have g4 := fx (l := fx4) f4
  have g5 := fx (l := fx5) f5
  have k0 := dx (l := df0) d0 m0
  have k1 := dx (l := df1) d1 m1
  have k2 := dx (l := df2) d2 m2
  have kd := He.dicW_ok c.dic
  refine ⟨g0, g1, g2, g3, g4, g5, k0, k1, k2, kd, fun q hq => ?_⟩
  have h2 := List.all_eq_true.mp z q hq
  cases e : PySem.W.nsIn K (gA K "SIZES") q.1 with
  | none => rw [e] at h2; cases h2
  | some r =>
    rw [e] at h2
    cases r with
    | none => cases h2
    | some u =>
      cases u with
      | int i t =>
        have hi : i = q.2 := of_decide_eq_true h2
        exact ⟨_, rfl, t, by rw [hi]⟩
      | _ => cases h2
abbrev RowR : PySem.W.OpenRow := PySem.W.OpenLaw.row PySem.Challenge.rw_coldcrates_k57_whole_stores_through_text
def loose1 : List PySem.Str := [("_wall" : PySem.Str), ("__name__" : PySem.Str), ("StoreError" : PySem.Str), ("InvalidStore" : PySem.Str), ("UnknownPlace" : PySem.Str), ("UnknownDoor" : PySem.Str), ("UnknownCrate" : PySem.Str), ("InvalidLayout" : PySem.Str), ("TakenPlace" : PySem.Str), ("InvalidName" : PySem.Str), ("UnknownKept" : PySem.Str), ("InvalidOperation" : PySem.Str), ("InvalidText" : PySem.Str), ("DecodeError" : PySem.Str), ("LETTERS" : PySem.Str), ("MAX_LETTERS" : PySem.Str), ("MAX_DOORS" : PySem.Str), ("MAX_WARMTH" : PySem.Str), ("MAX_BEHIND" : PySem.Str), ("MAX_PLACES" : PySem.Str), ("MAX_CRATES" : PySem.Str), ("is_number" : PySem.Str), ("is_word" : PySem.Str), ("is_door" : PySem.Str), ("are_doors" : PySem.Str), ("are_crates" : PySem.Str), ("Store" : PySem.Str), ("is_layout" : PySem.Str), ("check_layout" : PySem.Str), ("check_crate" : PySem.Str), ("seen_behind" : PySem.Str), ("exchanged" : PySem.Str), ("all_steps" : PySem.Str), ("all_ways" : PySem.Str), ("least_steps" : PySem.Str)]
def loose2 : List PySem.Str := [("is_right" : PySem.Str), ("is_sorted" : PySem.Str), ("SIZES" : PySem.Str), ("is_operation" : PySem.Str), ("warmth_of" : PySem.Str), ("State" : PySem.Str), ("Live" : PySem.Str), ("Trial" : PySem.Str), ("FIRST" : PySem.Str), ("CHECK_START" : PySem.Str), ("CHECK_TIMES" : PySem.Str), ("CHECK_REST" : PySem.Str), ("checksum" : PySem.Str), ("encode_store" : PySem.Str), ("Reader" : PySem.Str), ("decode_store" : PySem.Str), ("DOOR" : PySem.Str), ("CRATES" : PySem.Str), ("DIGITS" : PySem.Str), ("MOST_DIGITS" : PySem.Str), ("format_store" : PySem.Str), ("is_count" : PySem.Str), ("Row" : PySem.Str), ("heads_at" : PySem.Str), ("parse_store" : PySem.Str), ("_law_taken" : PySem.Str), ("_law_store" : PySem.Str), ("_law_layouts" : PySem.Str), ("_law_layout" : PySem.Str), ("_law_op" : PySem.Str), ("_law_facts" : PySem.Str), ("_law_told" : PySem.Str), ("_law_is_right" : PySem.Str)]
def loose : List PySem.Str := loose1 ++ loose2
end CC
set_option maxHeartbeats 0
/-! CCRun: the top, run by the kernel, once for each thing that is looked at behind it: less is held at a time. -/
namespace CC
namespace HdRun
open PySem PySem.W PySem.Calls PyProof.Rows
/-- the state behind the top -/
noncomputable def hdEnd (p : Program) (w : World) (os : OsState) : Option SharedT := HandSHeadRun.endF (HandSHeadRun.stepQ (HandSHeadRun.denQ HandSHeadRun.tabQ) p w) 9000 p w os
def hdFrag (s : SharedT) : Frag := He.frT (HandSHeadRun.getT s) (He5.asA (HandSHeadRun.getT s) 5)
def hdFx (K : Frag) : Bool := fx0.all (Fx.ok K) && (fx1.all (Fx.ok K) && (fx2.all (Fx.ok K) && (fx3.all (Fx.ok K) && (fx4.all (Fx.ok K) && fx5.all (Fx.ok K)))))
def hdDf (g : Addr → Option Obj) (K : Frag) : Bool := df0.all (DfM.ok K) && (df1.all (DfM.ok K) && (df2.all (DfM.ok K) && (sizeB K && tabsM g K)))
def HdA (r : OpenRow) (q : Program) (loose : List PySem.Str) (w : World) : Prop := ∀ os : OsState, (hdEnd r.prog w os).map (fun s => (HandSHeadRun.looksF r.prog (boot_heap w.params) s.abs, HandSHeadRun.seenQ q loose (importedModules r.prog.main.body) (fun s => xlAt q [] s && recOk r.toRowW.records s) s.abs)) = some (true, openGood q loose)
def HdB (r : OpenRow) (w : World) : Prop := ∀ os : OsState, (hdEnd r.prog w os).map (fun s => hdFx (hdFrag s)) = some true
def HdC (r : OpenRow) (w : World) : Prop := ∀ os : OsState, (hdEnd r.prog w os).map (fun s => hdDf (HandSHeadRun.getT s) (hdFrag s)) = some true
def HdD (r : OpenRow) (w : World) : Prop := ∀ os : OsState, (hdEnd r.prog w os).map (fun s => (dfs.map (DfM.obs (hdFrag s)), He.dicW (hdFrag s) (gA (hdFrag s) "SIZES"))) = some (dfs.map DfM.val, some (He.keysIn w.params (sizesL.map Prod.fst)))
theorem hd_ok {g : Addr → Option Obj} {K : Frag} (b : hdFx K = true) (c : hdDf g K = true) : (okM K && tabsM g K) = true := by
  unfold hdFx at b
  unfold hdDf at c
  unfold okM
  simp only [Bool.and_eq_true] at b c ⊢
  obtain ⟨b0, b1, b2, b3, b4, b5⟩ := b
  obtain ⟨c0, c1, c2, c3, c4⟩ := c
  exact ⟨⟨b0, b1, b2, b3, b4, b5, c0, c1, c2, c3⟩, c4⟩
theorem hd_obT {w : World} {s : SharedT} (b : hdFx (hdFrag s) = true) (c : hdDf (HandSHeadRun.getT s) (hdFrag s) = true) (d : (dfs.map (DfM.obs (hdFrag s)), He.dicW (hdFrag s) (gA (hdFrag s) "SIZES")) = (dfs.map DfM.val, some (He.keysIn w.params (sizesL.map Prod.fst)))) : obT s = valM w := by
  have h := hd_ok (g := HandSHeadRun.getT s) b c
  obtain ⟨d1, d2⟩ := Prod.mk.inj d
  unfold obT obsM obsK valM
  unfold hdFrag at h d1 d2
  rw [h, d1, d2]
theorem hd_eq {r : OpenRow} {q : Program} {loose : List PySem.Str} {w : World} (A : HdA r q loose w) (B : HdB r w) (C : HdC r w) (D : HdD r w) : HandSHeadRun.RunEq r q hookM obT 9000 loose w := by
  intro os
  have a := A os
  have b := B os
  have c := C os
  have d := D os
  unfold hdEnd at a b c d
  generalize HandSHeadRun.endF (HandSHeadRun.stepQ (HandSHeadRun.denQ HandSHeadRun.tabQ) r.prog w) 9000 r.prog w os = o at a b c d ⊢
  cases o with
  | none => cases b
  | some s =>
    have a := Option.some.inj a
    have z : obT s = valM w := hd_obT (Option.some.inj b) (Option.some.inj c) (Option.some.inj d)
    obtain ⟨a1, a2⟩ := Prod.mk.inj a
    exact congrArg some (Prod.ext a1 (Prod.ext a2 z))
/-- the world's word that the top asks -/
def hdWord (w : World) (b : Bool) : World := w.withFollow "special-get-raises" b
theorem hd_A0 (w : World) : HdA RowR (view RowR.prog [75]) loose (hdWord w false) := by
  intro os
  kernel_rfl
theorem hd_A1 (w : World) : HdA RowR (view RowR.prog [75]) loose (hdWord w true) := by
  intro os
  kernel_rfl
theorem hd_B0 (w : World) : HdB RowR (hdWord w false) := by
  intro os
  kernel_rfl
theorem hd_B1 (w : World) : HdB RowR (hdWord w true) := by
  intro os
  kernel_rfl
theorem hd_C0 (w : World) : HdC RowR (hdWord w false) := by
  intro os
  kernel_rfl
theorem hd_C1 (w : World) : HdC RowR (hdWord w true) := by
  intro os
  kernel_rfl
theorem hd_D0 (w : World) : HdD RowR (hdWord w false) := by
  intro os
  kernel_rfl
theorem hd_D1 (w : World) : HdD RowR (hdWord w true) := by
  intro os
  kernel_rfl
theorem hd_run (w : World) : HandSHeadRun.RunEq RowR (view RowR.prog [75]) hookM obT 9000 loose w :=
  byRow2 "special-get-raises" (fun w => hd_eq (hd_A0 w) (hd_B0 w) (hd_C0 w) (hd_D0 w)) (fun w => hd_eq (hd_A1 w) (hd_B1 w) (hd_C1 w) (hd_D1 w)) w
end HdRun
end CC
set_option maxHeartbeats 4000000
/-! CCLib: how a def of the text keeps a promise; short rules. -/
namespace CC
open PySem PySem.Spec PyProof.Rows L2
/-- a def keeps a promise, its parameters bound by place -/
def OkF (P : Program) (w : World) (K : PySem.W.Frag) (mg : Str → Option Value) (base : Heap) (CX : CXT) (k : Nat) (f : Addr) (ps : List Str) (sp : Sp) : Prop := ∃ fd, FnOk P w K mg base CX k f fd ps sp ∧ Binds K fd ps []
section
variable {P : Program} {w : World} {K : PySem.W.Frag} {mg : Str → Option Value} {base : Heap}
theorem OkF.mono {CX : CXT} {j k : Nat} {f : Addr} {ps : List Str} {sp : Sp} (F : OkF P w K mg base CX j f ps sp) (h : j ≤ k) : OkF P w K mg base CX k f ps sp :=
  let ⟨fd, a, b⟩ := F
  ⟨fd, a.mono h, b⟩
theorem OkF.imp {CX : CXT} {k : Nat} {f : Addr} {ps : List Str} {sp sp' : Sp} (F : OkF P w K mg base CX k f ps sp) (h : ∀ vs H Q E, sp' vs H Q E → sp vs H Q E) : OkF P w K mg base CX k f ps sp' :=
  let ⟨fd, a, b⟩ := F
  ⟨fd, a.imp h, b⟩
theorem OkF.raw {CX : CXT} {k : Nat} {f : Addr} {ps : List Str} {sp : Sp} (F : OkF P w K mg base CX k f ps sp) : FnR P w K mg base CX k f sp := by
  obtain ⟨fd, a, b⟩ := F
  exact (a.raw b .nil).imp fun vs H Q E h => by rw [List.append_nil]; exact h
/-- nothing leaves it by an error -/
theorem mk0 {x qual : Str} {st : Stmt} {f : Addr} {N ps : List Str} {k : Nat} {sp : Sp} (D : ∃ fd, Fun K x qual st f fd) (S : FnScope N ps (defScope st))
    (bd : ∀ (kV doc pm : Value) (an : Option Addr) (cdv ct : Value) (us : List Value), us.length = ps.length → bindArgs (PySem.W.fnOf x qual (defArgs st) (defBody st) (defScope st) .none kV doc pm an cdv ct) ⟨us, []⟩ = pure (ps.zip us))
    (len : ∀ vs H Q E, sp vs H Q E → vs.length = ps.length)
    (hb : ∀ (cdv : Value) (A : Around) (outer : List Env) (s : Shared) (H : Hp) (vs : List V) (Q : VK) (E : XK), Room k (A.deeper (envOfC qual (defScope st) s.heap.objs.size f cdv)) → sp vs H Q E →
      ∃ t, PSs (cxOf CX0 P w K mg base N qual (defScope st) f cdv A outer s H E).nox (defBody st) t ∧ t { nx := fun _ H' => Q .non H', rt := Q } (start N vs) H) : OkF P w K mg base CX0 (k + 1) f ps sp := by
  obtain ⟨fd, F⟩ := D
  exact ⟨fd, F.ok S len hb, F.binds bd⟩
/-- it may raise -/
theorem mkX {x qual : Str} {st : Stmt} {f : Addr} {N ps : List Str} {k : Nat} {sp : Sp} (D : ∃ fd, Fun K x qual st f fd) (S : FnScope N ps (defScope st))
    (bd : ∀ (kV doc pm : Value) (an : Option Addr) (cdv ct : Value) (us : List Value), us.length = ps.length → bindArgs (PySem.W.fnOf x qual (defArgs st) (defBody st) (defScope st) .none kV doc pm an cdv ct) ⟨us, []⟩ = pure (ps.zip us))
    (len : ∀ vs H Q E, sp vs H Q E → vs.length = ps.length)
    (hb : ∀ (cdv : Value) (A : Around) (outer : List Env) (s : Shared) (H : Hp) (vs : List V) (Q : VK) (E : XK), Room k (A.deeper (envOfC qual (defScope st) s.heap.objs.size f cdv)) → sp vs H Q E →
      ∃ t, PSs (cxOf (L2.CX P w) P w K mg base N qual (defScope st) f cdv A outer s H E) (defBody st) t ∧ t { nx := fun _ H' => Q .non H', rt := Q } (start N vs) H) : OkF P w K mg base (L2.CX P w) (k + 1) f ps sp := by
  obtain ⟨fd, F⟩ := D
  exact ⟨fd, F.okX S len hb, F.binds bd⟩
end
theorem Room.un1 {k : Nat} {A : Around} (r : Room k A) : A.units + 1 < cLine := by have := r.units; omega
/-! ### what a reading asks may be asked otherwise -/
theorem OpR.imp {X : Cx} {f : Value → Value → Sem Value} {r r' : R2} (h : OpR X f r) (i : ∀ x y H Q, r' x y H Q → r x y H Q) : OpR X f r' := fun pins s σ H x y v u Q I rx ry q => h pins s σ H x y v u Q I rx ry (i _ _ _ _ q)
theorem CallR.imp {X : Cx} {f : Value} {r r' : List V → Hp → VK → Prop} (h : CallR X f r) (i : ∀ xs H Q, r' xs H Q → r xs H Q) : CallR X f r' := fun pins s σ H xs us Q I r q => h pins s σ H xs us Q I r (i _ _ _ q)
theorem IxR.imp {X : Cx} {r r' : R2} (h : IxR X r) (i : ∀ x y H Q, r' x y H Q → r x y H Q) : IxR X r' := fun value slice pins s σ H x y v u Q I rx ry q => h value slice pins s σ H x y v u Q I rx ry (i _ _ _ _ q)
/-! ### isinstance by the kind of value -/
def tyO : Option HO → Option String
  | some (.tup _) => some "tuple"
  | some (.frz _ (.tup _)) => some "tuple"
  | some (.lst _) => some "list"
  | some (.dK _) => some "dict"
  | _ => none
def tyN (H : Hp) : V → Option String
  | .non => some "NoneType"
  | .bl _ => some "bool"
  | .int _ => some "int"
  | .str _ => some "str"
  | .ref a => tyO (H a)
  | _ => none
theorem tyN_non {H : Hp} : tyN H .non = some "NoneType" := rfl
theorem tyN_bl {H : Hp} {b : Bool} : tyN H (.bl b) = some "bool" := rfl
theorem tyN_int {H : Hp} {i : Int} : tyN H (.int i) = some "int" := rfl
theorem tyN_str {H : Hp} {z : Str} : tyN H (.str z) = some "str" := rfl
theorem tyN_ref {H : Hp} {a : Addr} : tyN H (.ref a) = tyO (H a) := rfl
def isB (t n : String) : Bool := t == n || (t == "bool" && n == "int")
theorem isB_1 : isB "int" "int" = true := by decide
theorem isB_2 : isB "int" "bool" = false := by decide
theorem isB_3 : isB "str" "str" = true := by decide
theorem isB_4 : isB "tuple" "tuple" = true := by decide
theorem isB_5 : isB "NoneType" "str" = false := by decide
theorem isB_6 : isB "bool" "int" = true := by decide
theorem isB_7 : isB "bool" "bool" = true := by decide
theorem isB_8 : isB "NoneType" "tuple" = false := by decide
theorem sz1 {n : Nat} : (n ≤ sizeLine) = (n ≤ 16777216) := by rw [sizeLine_eq]
theorem atI_0 {α : Type} {x : α} {r : List α} : atI (x :: r) 0 = some x := atI_nat (j := 0) rfl
theorem atI_1 {α : Type} {x y : α} {r : List α} : atI (x :: y :: r) 1 = some y := atI_nat (j := 1) rfl
theorem tyX_of {K : PySem.W.Frag} {H : Hp} {x : V} {t : String} (h : tyN H x = some t) : TyX K H x (.type t) := by
  cases x with
  | non => cases h; exact .base .non
  | bl b => cases h; exact .base (.bl b)
  | int i => cases h; exact .base (.int i)
  | str z => cases h; exact .base (.str z)
  | ref a =>
    have h : tyO (H a) = some t := h
    cases e : H a with
    | none => rw [e] at h; cases h
    | some o =>
      rw [e] at h
      cases o with
      | tup xs => cases h; exact .base (.tup e)
      | lst xs => cases h; exact .base (.lst e)
      | dK kvs => cases h; exact .base (.dK e)
      | frz ob u =>
        cases u with
        | tup xs => cases h; exact .fTuple e
        | _ => cases h
      | _ => cases h
  | _ => cases h
theorem kitN {K : PySem.W.Frag} {H : Hp} {x : V} {t n : String} (h : tyN H x = some t) (hn : n = "int" ∨ n = "bool" ∨ n = "str" ∨ n = "tuple") : PySem.W.kitOne K (.type t) (.type n) = some (isB t n) := by
  have ht : t = "NoneType" ∨ t = "bool" ∨ t = "int" ∨ t = "str" ∨ t = "tuple" ∨ t = "list" ∨ t = "dict" := by
    cases x with
    | ref a =>
      have h : tyO (H a) = some t := h
      cases e : H a with
      | none => rw [e] at h; cases h
      | some o =>
        rw [e] at h
        cases o with
        | tup xs => cases h; simp
        | lst xs => cases h; simp
        | dK kvs => cases h; simp
        | frz ob u =>
          cases u with
          | tup xs => cases h; simp
          | _ => cases h
        | _ => cases h
    | _ => cases h <;> simp
  rcases hn with rfl | rfl | rfl | rfl <;> rcases ht with rfl | rfl | rfl | rfl | rfl | rfl | rfl <;> exact kit_ty (by decide +kernel)
def rIsF : List V → Hp → VK → Prop := fun xs H Q => ∃ (x : V) (n t : String), xs = [x, .ty n] ∧ tyN H x = some t ∧ (n = "int" ∨ n = "bool" ∨ n = "str" ∨ n = "tuple") ∧ Q (.bl (isB t n)) H
theorem call_isiF {X : Cx} : CallR X (.builtin "isinstance") rIsF := CallR.imp call_isi fun xs H Q ⟨x, n, t, e, ht, hn, q⟩ => ⟨x, .ty n, .type t, .type n, _, e, .ty n, tyX_of ht, kitN ht hn, q⟩
/-! ### what the tracked heap tells -/
/-- a list or a tuple stands there -/
abbrev Sq (H : Hp) (p : Addr) (xs : List V) : Prop := Rd H p (.tup xs) ∨ H p = some (.lst xs)
def rIxF : R2 := fun x y H Q => ∃ p xs i v, x = .ref p ∧ y = .int i ∧ Sq H p xs ∧ atI xs i = some v ∧ Q v H
theorem ix_F {X : Cx} : IxR X rIxF := IxR.imp ix_seq fun x y H Q ⟨p, xs, i, v, e1, e2, h, ha, q⟩ => h.elim (fun h => .inr (.inl ⟨p, xs, i, v, e1, e2, .inl h, ha, q⟩)) fun h => .inl ⟨p, xs, i, v, e1, e2, .of h, ha, q⟩
def rLenF : List V → Hp → VK → Prop := fun vs H Q => ∃ p xs, vs = [.ref p] ∧ Sq H p xs ∧ Q (.int (xs.length : Nat)) H
theorem call_lenF {X : Cx} : CallR X (.builtin "len") rLenF := CallR.imp call_len fun vs H Q ⟨p, xs, e, h, q⟩ => ⟨_, _, e, h.elim (fun h => .inr ⟨_, .inl h, rfl⟩) fun h => .inl ⟨_, .of h, rfl⟩, q⟩
/-- an instance with slots stands there -/
def SA (H : Hp) (a C : Addr) (vs : List (Option V)) : Prop := ∃ dx, SlX.Slt H a C dx vs ∧ dx ≠ a
section
variable {X : Cx} {e o value : Expr} {es : List Expr} {t : TA} {te ta tv : TE} {p pos pos' apos : Pos} {x f m : Str}
theorem pe_gi {i : Int} (h : ∃ t, X.mg x = some (.int i t)) (hg : Gl X x := by rfl) (hd : (x == ("__debug__" : Str)) = false := by decide) : PE X (.Name x pos) (tC (.int i)) := by
  obtain ⟨t, h⟩ := h
  exact pe_glob hg h ⟨t, rfl⟩ hd
theorem pe_gs {z : Str} (h : ∃ t, X.mg x = some (.str z t)) (hg : Gl X x := by rfl) (hd : (x == ("__debug__" : Str)) = false := by decide) : PE X (.Name x pos) (tC (.str z)) := by
  obtain ⟨t, h⟩ := h
  exact pe_glob hg h ⟨t, rfl⟩ hd
theorem pe_ty (n : String) (hm : X.mg x = none) (hg : Gl X x := by rfl) (hv : bootBuiltins x = some (.type n) := by decide +kernel) (hn : x ≠ "__name__" := by decide) (hd : (x == ("__debug__" : Str)) = false := by decide) : PE X (.Name x pos) (tC (.ty n)) :=
  pe_bltn hg hm hv rfl hn hd
/-- f(e, ..) by a positional promise -/
def tCR (sp : Sp) (E : XK) (t : TA) : TE := fun σ H Q => t σ H fun vs H1 => sp vs H1 Q E
theorem pe_cR {CX : CXT} {k j : Nat} {f : Addr} {sp : Sp} {E : XK} (F : FnR X.prog X.w X.K X.mg X.base CX k f sp) (hr : Room j X.A) (hm : X.mg x = some (.ref f) ∧ PySem.W.keepIn X.K (.ref f) = true) (hx : Passes CX X E) (ha : PA X (e :: es) t)
    (hle : k ≤ j := by decide) (hg : Gl X x := by rfl) (hdb : (x == ("__debug__" : Str)) = false := by decide) (he : starEach (e :: es) X.env = (false, eval e X.env) :: starEach es X.env := by rfl) (hpl : (backTo pos (starEach es X.env)).any (·.1) = false := by rfl) :
    PE X (.Call (.Name x p) (e :: es) [] pos) (tCR sp E t) := by
  refine ⟨fun pins s σ H Q I h => wpAny_Call_Name_kw (ld_glob I hg hm.1 ?_ hdb)⟩
  refine PySem.W.callWith_K (h₀ := X.base) I.ok.mod.kin hm.2 (thn (ha.run pos pins s σ H _ I h) fun us s1 ⟨vs, H1, I1, r, q⟩ => ⟨I1.kIn, ?_⟩) he hpl
  exact wpAny_call (run_fnR F (hr.mono hle) hx I1 r q)
/-- C(e, ..) -/
theorem pe_mk {CX : CXT} {k j : Nat} {C f : Addr} {ps : List Str} {sp : Sp} {E : XK} (M : Mk X.K C f) (F : OkF X.prog X.w X.K X.mg X.base CX k f ps sp) (hr : Room j X.A) (hm : X.mg x = some (.ref C)) (hx : Passes CX X E) (ha : PA X (e :: es) t)
    (hle : k + 1 ≤ j := by decide) (hg : Gl X x := by rfl) (hdb : (x == ("__debug__" : Str)) = false := by decide) (he : starEach (e :: es) X.env = (false, eval e X.env) :: starEach es X.env := by rfl) (hpl : (backTo pos (starEach es X.env)).any (·.1) = false := by rfl) :
    PE X (.Call (.Name x p) (e :: es) [] pos) (tMake C sp [] E t) := by
  obtain ⟨fd, a, b⟩ := F
  exact pe_make M a (hr.mono hle) hg hm b .nil hx ha hdb he hpl
/-- a name takes a value -/
theorem st {i : Nat} {e : Expr} {te : TE} (nd : X.N.Nodup) (he : PE X e te) (hi : X.N[i]? = some x := by rfl) (hx : Loc X.env.scope x := by first | exact Or.inl rfl | exact Or.inr rfl)
    (hs : swapsWith e (some (.Name x p)) pos.line X.env = pure false := by rfl) (hf : X.fn x = true ∨ X.env.scope.names.lookup x = some .local := by first | exact .inl rfl | exact .inr rfl) : PS X (.Assign [.Name x p] e pos) (tAsg te (gName i)) := ps_set nd hi hx he hs hf
/-! instances with a dict, their class known -/
def tFl (C : Addr) (ta : TE) (f : Str) : TE := fun σ H Q => ta σ H fun x H1 => ∃ a dx fs v, x = .ref a ∧ H1 a = some (.ins C dx fs) ∧ fs.lookup f = some v ∧ Q v H1
theorem pe_flF {C : Addr} (c : Cls X.K C) (n : NoAttr X.K C f) (he : PE X e ta) (hb : attributeBase e f X.env (eval e X.env) = eval e X.env := by rfl) : PE X (.Attribute e f pos) (tFl C ta f) := by
  refine ⟨fun pins s σ H Q I h => attr_of hb (thn (he.run pins s σ H _ I h) fun u s1 ⟨x, H1, I1, rx, a, dx, fs, v, ex, ea, l, q⟩ => ?_)⟩
  subst ex
  cases rx
  exact getattr_ok I1 ea c n l fun u' s2 I2 ru => ⟨v, H1, I2, ru, q⟩
def sFl (C : Addr) (ta tv : TE) (f : Str) : TS := fun D σ H => tv σ H fun y H1 => ta σ H1 fun x H2 => ∃ a dx fs, x = .ref a ∧ H2 a = some (.ins C dx fs) ∧ fs.length < 1000 ∧ D.nx σ (upd H2 a (.ins C dx (putF f y fs)))
theorem ps_flF {C : Addr} (c : Cls X.K C) (n : NoAttr X.K C f) (ha : PE X o ta) (hv : PE X value tv) (hs : swapsWith value (some (.Attribute o f pos')) pos.line X.env = pure false := by rfl) : PS X (.Assign [.Attribute o f pos'] value pos) (sFl C ta tv f) := by
  refine ⟨fun pins s σ H D I h => plainObj_wpAny_Assign_Attribute (thn (hv.run pins s σ H _ I h) fun u s1 ⟨y, H1, I1, ry, q⟩ => thn (ha.run pins s1 σ H1 _ I1 q) fun ov s2 ⟨x, H2, I2, rx, a, dx, fs, ex, ea, l, q2⟩ => ?_) hs⟩
  subst ex
  cases rx
  exact setattr_ok I2 ea c n l ry fun s3 I3 => ⟨σ, _, I3, q2⟩
/-- o.f += e, whole numbers -/
def sFlAug (C : Addr) (ta tv : TE) (f : Str) : TS := fun D σ H => ta σ H fun x H1 => ∃ a dx fs i, x = .ref a ∧ H1 a = some (.ins C dx fs) ∧ fs.lookup f = some (.int i) ∧ tv σ H1 fun y H2 => ∃ j dx' fs', y = .int j ∧ H2 a = some (.ins C dx' fs') ∧ fs'.length < 1000 ∧ D.nx σ (upd H2 a (.ins C dx' (putF f (.int (i + j)) fs')))
theorem ps_flAug {C : Addr} (c : Cls X.K C) (n : NoAttr X.K C f) (ha : PE X o ta) (hv : PE X value tv) : PS X (.AugAssign (.Attribute o f pos') .Add value pos) (sFlAug C ta tv f) := by
  refine ⟨fun pins s σ H D I h => wpAny_AugAssign_AttributeAny (thn (ha.run pins s σ H _ I h) fun ov s1 ⟨x, H1, I1, rx, a, dx, fs, i, ex, ea, l, q⟩ => ?_)⟩
  subst ex
  cases rx
  refine getattr_ok I1 ea c n l fun u s2 I2 ru => thn (hv.run pins s2 σ H1 _ I2 q) fun w3 s3 ⟨y, H2, I3, ry, j, dx', fs', ey, ea', l', q3⟩ => ?_
  exact thn (in_add pins s3 σ H2 (.int i) y u w3 (fun z H3 => z = .int (i + j) ∧ H3 = H2) I3 ru ry ⟨i, j, rfl, ey, rfl, rfl⟩) fun w4 s4 ⟨z, H3, I4, rz, ez, eH⟩ => by
    subst ez
    rw [eH] at I4
    exact setattr_ok I4 ea' c n l' rz fun s5 I5 => ⟨σ, _, I5, q3⟩
/-- o.m(e, ..) -/
theorem pe_meF {CX : CXT} {k j : Nat} {C g : Addr} {sp : Sp} {E : XK} {pl : Sem Bool} (c : Cls X.K C) (hm : Meth X.K C m g) (F : FnR X.prog X.w X.K X.mg X.base CX k g sp) (hr : Room j X.A) (hx : Passes CX X E) (he : PE X o ta) (ha : PA X (e :: es) t) (hle : k ≤ j := by decide)
    (hst : starEach (e :: es) X.env = (false, eval e X.env) :: starEach es X.env := by rfl) (hpl : (backTo pos (starEach es X.env)).any (·.1) = false := by rfl)
    (ht : eval (.Call (.Attribute o m apos) (e :: es) [] pos) X.env = (do
      let ov ← eval o X.env; standAt apos.atName
      let (f, first) ← holding [ov] (getMethod ov m pl); callWith pos f first (backTo pos (starEach (e :: es) X.env)) (backToKw pos (keywordEach [] X.env))) := by rfl) :
    PE X (.Call (.Attribute o m apos) (e :: es) [] pos) (tMethR C m sp E ta t) := pe_methR he c hm F (hr.mono hle) hx ha hst hpl ht
theorem pe_meF0 {CX : CXT} {k j : Nat} {C g : Addr} {sp : Sp} {E : XK} {pl : Sem Bool} (c : Cls X.K C) (hm : Meth X.K C m g) (F : FnR X.prog X.w X.K X.mg X.base CX k g sp) (hr : Room j X.A) (hx : Passes CX X E) (he : PE X o ta) (hle : k ≤ j := by decide)
    (ht : eval (.Call (.Attribute o m apos) [] [] pos) X.env = (do
      let ov ← eval o X.env; standAt apos.atName
      let (f, first) ← holding [ov] (getMethod ov m pl); callWith pos f first (backTo pos (starEach [] X.env)) (backToKw pos (keywordEach [] X.env))) := by rfl) :
    PE X (.Call (.Attribute o m apos) [] [] pos) (tMethR C m sp E ta tNil) := by
  refine ⟨fun pins s σ H Q I h => PySem.W.methodCall_KW (pl := pl) (thn (he.run pins s σ H _ I h) fun u s1 ⟨x, H1, I1, rx, a, dx, fs, ex, ea, l, q⟩ => ?_) ht⟩
  subst ex
  cases rx
  refine getmeth_ok I1 ea c hm l ?_
  exact PySem.W.callWith_K0 (first := [.ref a]) I1.kIn hm.kp (wpAny_call (run_fnR (us := [.ref a]) (vs := [.ref a]) F (hr.mono hle) hx I1 (.cons rfl .nil) q))
/-- o.f, a property of an instance with a dict -/
def tPrF (C : Addr) (sp : Sp) (E : XK) (ta : TE) : TE := fun σ H Q => ta σ H fun x H1 => ∃ a dx fs, x = .ref a ∧ H1 a = some (.ins C dx fs) ∧ sp [.ref a] H1 Q E
theorem pe_prF {CX : CXT} {k j : Nat} {C p g : Addr} {sp : Sp} {E : XK} (c : Cls X.K C) (hp : PropOf X.K C f p g) (F : FnR X.prog X.w X.K X.mg X.base CX k g sp) (hr : Room j X.A) (hx : Passes CX X.nox E) (he : PE X e ta) (hle : k + 1 ≤ j := by decide)
    (hab : attributeBase e f X.env (eval e X.env) = eval e X.env := by rfl) : PE X (.Attribute e f pos) (tPrF C sp E ta) := by
  refine ⟨fun pins s σ H Q I h => attr_of hab (thn (he.run pins s σ H _ I h) fun u s1 ⟨x, H1, I1, rx, a, dx, fs, ex, ea, q⟩ => ?_)⟩
  subst ex
  cases rx
  obtain ⟨mA, O, _, _, _, _⟩ := ins_get I1.hok ea
  obtain ⟨od, J, _⟩ := O.look
  obtain ⟨rest, hrec⟩ := hp.rec_
  have I2 := I1.tok (s1.toks + 1)
  have hc : (PySem.W.clsIn X.K C).isSome = true := by
    obtain ⟨cd, hc, _⟩ := PySem.W.any_some c.hd
    rw [hc] <;> rfl
  have hr2 : Room k X.A.in1 := (hr.mono hle).in1
  refine PySem.W.get_bind I1.kIn J (PySem.W.plainGet_of (c.get f)).1 (PySem.W.findObj_data hc hp.at_ hp.get hp.tak) (PySem.W.plainGet_of (c.get f)).2 (wpAny_call (PySem.W.prop_get (s := { s1 with toks := s1.toks + 1 }) I1.kIn hrec ?_))
  refine codeAny_mono (F X.A.in1 X.stack { s1 with toks := s1.toks + 1 } H1 [.ref a] [.ref a] Q E hr2 I2.env0.in1 (.cons rfl .nil) q) fun r s' hq => ?_
  cases r with
  | error er => exact False.elim (hx pins σ H1 { s1 with toks := s1.toks + 1 } er s' (I2.wish _) hq)
  | ok fl =>
    cases fl with
    | ret u =>
      obtain ⟨v, H', I3, rv, q3⟩ := I2.after hq
      exact wpAny_of_eq (PySem.W.handedOut_of (handed_of rv)) ⟨v, H', I3, rv, q3⟩
    | next => exact False.elim hq
    | brk => exact False.elim hq
    | cont => exact False.elim hq
/-! instances with slots, their class known -/
def tSls (C : Addr) (i : Nat) (ta : TE) : TE := fun σ H Q => ta σ H fun x H1 => ∃ a vs v, x = .ref a ∧ SA H1 a C vs ∧ vs[i]? = some (some v) ∧ Q v H1
theorem pe_slS {C p : Addr} {i : Nat} (c : SlX.SCls X.K C) (k : SlX.Slot1 X.K C f p i) (he : PE X e ta) (hb : attributeBase e f X.env (eval e X.env) = eval e X.env := by rfl) : PE X (.Attribute e f pos) (tSls C i ta) := by
  refine ⟨fun pins s σ H Q I h => attr_of hb (thn (he.run pins s σ H _ I h) fun u s1 ⟨x, H1, I1, rx, a, vs, v, ex, ⟨dx, hs, _⟩, l, q⟩ => ?_)⟩
  subst ex
  cases rx
  exact SlX.getslot_ok I1 hs c k l fun u' s2 I2 ru => ⟨v, H1, I2, ru, q⟩
def sSls (C : Addr) (i : Nat) (ta tv : TE) : TS := fun D σ H => tv σ H fun y H1 => ta σ H1 fun x H2 => ∃ a dx vs, x = .ref a ∧ SlX.Slt H2 a C dx vs ∧ D.nx σ (SlX.slH H2 a C dx (SlX.putS i y vs))
theorem ps_slS {C p : Addr} {i : Nat} (c : SlX.SCls X.K C) (k : SlX.Slot1 X.K C f p i) (ha : PE X o ta) (hv : PE X value tv) (hs : swapsWith value (some (.Attribute o f pos')) pos.line X.env = pure false := by rfl) : PS X (.Assign [.Attribute o f pos'] value pos) (sSls C i ta tv) := by
  refine ⟨fun pins s σ H D I h => plainObj_wpAny_Assign_Attribute (thn (hv.run pins s σ H _ I h) fun u s1 ⟨y, H1, I1, ry, q⟩ => thn (ha.run pins s1 σ H1 _ I1 q) fun ov s2 ⟨x, H2, I2, rx, a, dx, vs, ex, hsl, q2⟩ => ?_) hs⟩
  subst ex
  cases rx
  exact SlX.setslot_ok I2 hsl c k ry fun s3 I3 => ⟨σ, _, I3, q2⟩
def tMeS (C : Addr) (sp : Sp) (E : XK) (ta : TE) (t : TA) : TE := fun σ H Q => ta σ H fun x H1 => ∃ a vs, x = .ref a ∧ SA H1 a C vs ∧ t σ H1 fun ws H2 => sp (x :: ws) H2 Q E
theorem pe_meS {CX : CXT} {k j : Nat} {C g : Addr} {sp : Sp} {E : XK} {pl : Sem Bool} (c : SlX.SCls X.K C) (hm : Meth X.K C m g) (F : FnR X.prog X.w X.K X.mg X.base CX k g sp) (hr : Room j X.A) (hx : Passes CX X E) (he : PE X o ta) (ha : PA X (e :: es) t) (hle : k ≤ j := by decide)
    (hst : starEach (e :: es) X.env = (false, eval e X.env) :: starEach es X.env := by rfl) (hpl : (backTo pos (starEach es X.env)).any (·.1) = false := by rfl)
    (ht : eval (.Call (.Attribute o m apos) (e :: es) [] pos) X.env = (do
      let ov ← eval o X.env; standAt apos.atName
      let (f, first) ← holding [ov] (getMethod ov m pl); callWith pos f first (backTo pos (starEach (e :: es) X.env)) (backToKw pos (keywordEach [] X.env))) := by rfl) :
    PE X (.Call (.Attribute o m apos) (e :: es) [] pos) (tMeS C sp E ta t) := by
  refine ⟨fun pins s σ H Q I h => PySem.W.methodCall_KW (pl := pl) (thn (he.run pins s σ H _ I h) fun u s1 ⟨x, H1, I1, rx, a, vs, ex, ⟨dx, hsl, _⟩, q⟩ => ?_) ht⟩
  subst ex
  cases rx
  refine SlX.getmethsl_ok I1 hsl c hm ?_
  refine PySem.W.callWith_K (first := [.ref a]) (h₀ := X.base) I.ok.mod.kin hm.kp (thn (ha.run pos pins s1 σ H1 _ I1 q) fun us s2 ⟨ws, H2, I2, r, q2⟩ => ⟨I2.kIn, ?_⟩) hst hpl
  exact wpAny_call (run_fnR (us := .ref a :: us) (vs := .ref a :: ws) F (hr.mono hle) hx I2 (.cons rfl r) q2)
theorem pe_meS0 {CX : CXT} {k j : Nat} {C g : Addr} {sp : Sp} {E : XK} {pl : Sem Bool} (c : SlX.SCls X.K C) (hm : Meth X.K C m g) (F : FnR X.prog X.w X.K X.mg X.base CX k g sp) (hr : Room j X.A) (hx : Passes CX X E) (he : PE X o ta) (hle : k ≤ j := by decide)
    (ht : eval (.Call (.Attribute o m apos) [] [] pos) X.env = (do
      let ov ← eval o X.env; standAt apos.atName
      let (f, first) ← holding [ov] (getMethod ov m pl); callWith pos f first (backTo pos (starEach [] X.env)) (backToKw pos (keywordEach [] X.env))) := by rfl) :
    PE X (.Call (.Attribute o m apos) [] [] pos) (tMeS C sp E ta tNil) := by
  refine ⟨fun pins s σ H Q I h => PySem.W.methodCall_KW (pl := pl) (thn (he.run pins s σ H _ I h) fun u s1 ⟨x, H1, I1, rx, a, vs, ex, ⟨dx, hsl, _⟩, q⟩ => ?_) ht⟩
  subst ex
  cases rx
  refine SlX.getmethsl_ok I1 hsl c hm ?_
  exact PySem.W.callWith_K0 (first := [.ref a]) I1.kIn hm.kp (wpAny_call (run_fnR (us := [.ref a]) (vs := [.ref a]) F (hr.mono hle) hx I1 (.cons rfl .nil) q))
def tPrS (C : Addr) (sp : Sp) (E : XK) (ta : TE) : TE := fun σ H Q => ta σ H fun x H1 => ∃ a vs, x = .ref a ∧ SA H1 a C vs ∧ sp [.ref a] H1 Q E
theorem pe_prS {k j : Nat} {C p g : Addr} {sp : Sp} (c : SlX.SCls X.K C) (hp : PropOf X.K C f p g) (F : FnR X.prog X.w X.K X.mg X.base CX0 k g sp) (hr : Room j X.A) (he : PE X e ta) (hle : k + 1 ≤ j := by decide) (hb : attributeBase e f X.env (eval e X.env) = eval e X.env := by rfl) :
    PE X (.Attribute e f pos) (tPrS C sp E0 ta) := by
  refine ⟨fun pins s σ H Q I h => attr_of hb (thn (he.run pins s σ H _ I h) fun w s1 ⟨x, H1, I1, rx, a, vs, ex, ⟨dx, hs, _⟩, q⟩ => ?_)⟩
  subst ex
  cases rx
  exact SlX.getprop_sl I1 hs c hp.at_ hp.get hp.tak hp.rec_ F (hr.mono hle) (fun _ _ _ _ z => z) q
end
end CC
set_option maxHeartbeats 4000000
/-! CCRead: readings by functions of the heap; frames; comprehensions that only add. -/
namespace CC
open PySem PySem.Spec PyProof.Rows L2
/-! ### frames -/
/-- all that stood stands -/
def Ext (H H' : Hp) : Prop := ∀ a o, H a = some o → H' a = some o
/-- all that stood stands, but at s -/
def Kp (s : Addr) (H H' : Hp) : Prop := ∀ a o, a ≠ s → H a = some o → H' a = some o
theorem Ext.refl (H : Hp) : Ext H H := fun _ _ h => h
theorem Ext.trans {H H1 H2 : Hp} (a : Ext H H1) (b : Ext H1 H2) : Ext H H2 := fun x o h => b x o (a x o h)
theorem Ext.new {H : Hp} {a : Addr} {o : HO} (h : H a = none) : Ext H (upd H a o) := fun b u e => by
  rw [upd_ne (fun z => by subst z; rw [h] at e; cases e)]
  exact e
theorem Ext.kp {H H' : Hp} (e : Ext H H') (s : Addr) : Kp s H H' := fun a o _ h => e a o h
theorem Kp.refl (s : Addr) (H : Hp) : Kp s H H := fun _ _ _ h => h
theorem Kp.trans {s : Addr} {H H1 H2 : Hp} (a : Kp s H H1) (b : Kp s H1 H2) : Kp s H H2 := fun x o n h => b x o n (a x o n h)
theorem Kp.set {s : Addr} {H : Hp} {o : HO} : Kp s H (upd H s o) := fun b u n e => by
  rw [upd_ne n]
  exact e
/-- an address that did not stand is new -/
theorem Ext.of_kp {s : Addr} {H H' : Hp} (k : Kp s H H') (h : H s = none) : Ext H H' := fun a o e => k a o (fun z => by subst z; rw [h] at e; cases e) e
theorem scal_ii {a b : Int} : scal (.int a) (.int b) = true := rfl
theorem scal_ss {a b : Str} : scal (.str a) (.str b) = true := rfl
theorem scal_bb {a b : Bool} : scal (.bl a) (.bl b) = true := rfl
theorem scal_nn : scal .non .non = true := rfl
theorem scal_ns {b : Str} : scal .non (.str b) = true := rfl
theorem scal_sn {b : Str} : scal (.str b) .non = true := rfl
/-! ### readings by the object that stands there -/
def tupO : Option HO → Option (List V)
  | some (.tup xs) => some xs
  | some (.frz _ (.tup xs)) => some xs
  | _ => none
def lstO : Option HO → Option (List V)
  | some (.lst xs) => some xs
  | _ => none
def seqO : Option HO → Option (List V)
  | some (.tup xs) => some xs
  | some (.frz _ (.tup xs)) => some xs
  | some (.lst xs) => some xs
  | _ => none
def dKO : Option HO → Option (List (Key × V))
  | some (.dK xs) => some xs
  | _ => none
theorem tupO_tup {xs : List V} : tupO (some (.tup xs)) = some xs := rfl
theorem lstO_lst {xs : List V} : lstO (some (.lst xs)) = some xs := rfl
theorem seqO_tup {xs : List V} : seqO (some (.tup xs)) = some xs := rfl
theorem seqO_lst {xs : List V} : seqO (some (.lst xs)) = some xs := rfl
theorem dKO_dK {xs : List (Key × V)} : dKO (some (.dK xs)) = some xs := rfl
theorem tyO_tup {xs : List V} : tyO (some (.tup xs)) = some "tuple" := rfl
theorem tyO_lst {xs : List V} : tyO (some (.lst xs)) = some "list" := rfl
theorem tyO_dK {xs : List (Key × V)} : tyO (some (.dK xs)) = some "dict" := rfl
theorem tyO_frz {ob : Obj} {xs : List V} : tyO (some (.frz ob (.tup xs))) = some "tuple" := rfl
theorem tupO_frz {ob : Obj} {xs : List V} : tupO (some (.frz ob (.tup xs))) = some xs := rfl
theorem seqO_frz {ob : Obj} {xs : List V} : seqO (some (.frz ob (.tup xs))) = some xs := rfl
theorem of_tupO {o : Option HO} {xs : List V} (h : tupO o = some xs) : o = some (.tup xs) ∨ ∃ ob, o = some (.frz ob (.tup xs)) := by
  unfold tupO at h
  split at h
  · cases h; exact .inl rfl
  · cases h; exact .inr ⟨_, rfl⟩
  · cases h
theorem seqO_of {o : Option HO} {xs : List V} (h : tupO o = some xs) : seqO o = some xs := by
  rcases of_tupO h with rfl | ⟨ob, rfl⟩ <;> rfl
theorem tyO_of {o : Option HO} {xs : List V} (h : tupO o = some xs) : tyO o = some "tuple" := by
  rcases of_tupO h with rfl | ⟨ob, rfl⟩ <;> rfl
theorem Ext.tupO {H H' : Hp} {a : Addr} {xs : List V} (e : Ext H H') (h : CC.tupO (H a) = some xs) : CC.tupO (H' a) = some xs := by
  rcases of_tupO h with z | ⟨ob, z⟩ <;> rw [e _ _ z] <;> rfl
theorem sqT_of {K : PySem.W.Frag} {H : Hp} {a : Addr} {xs : List V} (h : tupO (H a) = some xs) : SqT K H a xs := .inl (of_tupO h)
theorem of_lstO {o : Option HO} {xs : List V} (h : lstO o = some xs) : o = some (.lst xs) := by
  unfold lstO at h
  split at h
  · cases h; rfl
  · cases h
theorem of_seqO {H : Hp} {a : Addr} {xs : List V} (h : seqO (H a) = some xs) : Rd H a (.tup xs) ∨ H a = some (.lst xs) := by
  have g : ∀ o, seqO o = some xs → (o = some (.tup xs) ∨ ∃ ob, o = some (.frz ob (.tup xs))) ∨ o = some (.lst xs) := fun o h => by
    unfold seqO at h
    split at h
    · cases h; exact .inl (.inl rfl)
    · cases h; exact .inl (.inr ⟨_, rfl⟩)
    · cases h; exact .inr rfl
    · cases h
  exact g _ h
theorem of_dKO {o : Option HO} {xs : List (Key × V)} (h : dKO o = some xs) : o = some (.dK xs) := by
  unfold dKO at h
  split at h
  · cases h; rfl
  · cases h
theorem impPE {X : Cx} {e : Expr} {t t' : TE} (h : PE X e t) (i : ∀ σ H Q, t' σ H Q → t σ H Q) : PE X e t' := ⟨fun pins s σ H Q I q => h.run pins s σ H Q I (i _ _ _ q)⟩
theorem impPA {X : Cx} {e : List Expr} {t t' : TA} (h : PA X e t) (i : ∀ σ H Q, t' σ H Q → t σ H Q) : PA X e t' := ⟨fun pos pins s σ H Q I q => h.run pos pins s σ H Q I (i _ _ _ q)⟩
theorem impPS {X : Cx} {e : Stmt} {t t' : TS} (h : PS X e t) (i : ∀ D σ H, t' D σ H → t D σ H) : PS X e t' := ⟨fun pins s σ H D I q => h.run pins s σ H D I (i _ _ _ q)⟩
theorem impPG {X : Cx} {e : Expr} {t t' : TG} (h : PG X e t) (i : ∀ v σ H Q, t' v σ H Q → t v σ H Q) : PG X e t' := ⟨fun pins s σ H v u Q I r q => h.run pins s σ H v u Q I r (i _ _ _ _ q)⟩
/-- what a reading asks of its walk -/
def mono3 (f : TE) : Prop := ∀ σ H Q Q', (∀ v H, Q v H → Q' v H) → f σ H Q → f σ H Q'
section
variable {X : Cx} {e e2 o : Expr} {es : List Expr} {te ta tb : TE} {t : TA} {p pos tpos : Pos}
/-- x[i] -/
def rIxG : R2 := fun x y H Q => ∃ p i xs v, x = .ref p ∧ y = .int i ∧ seqO (H p) = some xs ∧ atI xs i = some v ∧ Q v H
theorem ix_G : IxR X rIxG := IxR.imp ix_F fun x y H Q ⟨p, i, xs, v, e1, e2, h, ha, q⟩ => ⟨p, xs, i, v, e1, e2, of_seqO h, ha, q⟩
def rLenG : List V → Hp → VK → Prop := fun vs H Q => ∃ p xs, vs = [.ref p] ∧ seqO (H p) = some xs ∧ Q (.int (xs.length : Nat)) H
theorem call_lenG : CallR X (.builtin "len") rLenG := CallR.imp call_lenF fun vs H Q ⟨p, xs, e, h, q⟩ => ⟨p, xs, e, of_seqO h, q⟩
def rInG (neg : Bool) : R2 := fun x y H Q => ∃ p xs, y = .ref p ∧ seqO (H p) = some xs ∧ flatV x = true ∧ xs.all flatV = true ∧ Q (.bl (if neg then !inV x xs else inV x xs)) H
theorem op_inG : OpR X (compareOp .In) (rInG false) := OpR.imp op_in_seq fun x y H Q ⟨p, xs, e, h, a, b, q⟩ => ⟨p, xs, e, (of_seqO h).elim (fun h => .inr (.inl h)) (fun h => .inl (.of h)), a, b, q⟩
theorem op_notInG : OpR X (compareOp .NotIn) (rInG true) := OpR.imp op_notIn_seq fun x y H Q ⟨p, xs, e, h, a, b, q⟩ => ⟨p, xs, e, (of_seqO h).elim (fun h => .inr (.inl h)) (fun h => .inl (.of h)), a, b, q⟩
def rAllG : List V → Hp → VK → Prop := fun vs H Q => ∃ (p : Addr) (bs : List Bool), vs = [.ref p] ∧ lstO (H p) = some (bs.map V.bl) ∧ Q (.bl (bs.all id)) H
theorem cr_allG (hc : X.calm = true) : CallR X (.builtin "all") rAllG := CallR.imp (cr_all hc) fun vs H Q ⟨p, bs, e, h, q⟩ => ⟨p, bs, e, .of (of_lstO h), q⟩
def rSumG : List V → Hp → VK → Prop := fun vs H Q => ∃ (p : Addr) (ns : List Int), vs = [.ref p] ∧ lstO (H p) = some (ns.map V.int) ∧ Q (.int ns.sum) H
theorem cr_sumG (hc : X.calm = true) : CallR X (.builtin "sum") rSumG := CallR.imp (cr_sum hc) fun vs H Q ⟨p, bs, e, h, q⟩ => ⟨p, bs, e, .of (of_lstO h), q⟩
def rListG : List V → Hp → VK → Prop := fun vs H Q => ∃ p xs, vs = [.ref p] ∧ seqO (H p) = some xs ∧ ∀ l, H l = none → Q (.ref l) (upd H l (.lst xs))
theorem call_listG : CallR X (.type "list") rListG := CallR.imp call_list_of fun vs H Q ⟨p, xs, e, h, q⟩ => ⟨p, xs, e, (of_seqO h).elim (fun h => .inr (.inl h)) (fun h => .inl (.of h)), q⟩
/-- tuple(a list) -/
def rTupG : List V → Hp → VK → Prop := fun vs H Q => ∃ p xs, vs = [.ref p] ∧ lstO (H p) = some xs ∧ ∀ l, H l = none → Q (.ref l) (upd H l (.tup xs))
theorem call_tupleG : CallR X (.type "tuple") rTupG := CallR.imp call_tuple_of fun vs H Q ⟨p, xs, e, h, q⟩ => ⟨p, xs, e, .inl ⟨.of (of_lstO h), q⟩⟩
end
/-! ### readings closed upwards -/
def up (t : TE) : TE := fun σ H Q => ∃ Q', t σ H Q' ∧ ∀ v H, Q' v H → Q v H
def upT (t : TT) : TT := fun σ H Q => ∃ Q', t σ H Q' ∧ ∀ v H, Q' v H → Q v H
def upA (t : TA) : TA := fun σ H Q => ∃ Q', t σ H Q' ∧ ∀ v H, Q' v H → Q v H
def upG (t : TG) : TG := fun x σ H Q => ∃ Q', t x σ H Q' ∧ ∀ σ H, Q' σ H → Q σ H
theorem upPE {X : Cx} {e : Expr} {t : TE} (h : PE X e t) : PE X e (CC.up t) := ⟨fun pins s σ H Q I ⟨Q', q, i⟩ => thn (h.run pins s σ H Q' I q) fun _ _ ⟨v, H', a, b, c⟩ => ⟨v, H', a, b, i _ _ c⟩⟩
theorem upPTs {X : Cx} {e : List Expr} {t : TT} (h : PTs X e t) : PTs X e (CC.upT t) := ⟨fun pins s σ H Q I ⟨Q', q, i⟩ => thn (h.run pins s σ H Q' I q) fun _ _ ⟨H', a, c⟩ => ⟨H', a, i _ _ c⟩⟩
theorem upPA {X : Cx} {e : List Expr} {t : TA} (h : PA X e t) : PA X e (CC.upA t) := ⟨fun pos pins s σ H Q I ⟨Q', q, i⟩ => thn (h.run pos pins s σ H Q' I q) fun _ _ ⟨v, H', a, b, c⟩ => ⟨v, H', a, b, i _ _ c⟩⟩
theorem upPG {X : Cx} {e : Expr} {t : TG} (h : PG X e t) : PG X e (CC.upG t) := ⟨fun pins s σ H v u Q I r ⟨Q', q, i⟩ => thn (h.run pins s σ H v u Q' I r q) fun _ _ ⟨v, H', a, c⟩ => ⟨v, H', a, i _ _ c⟩⟩
/-! ### what a loop walks: its things, and what must stand -/
abbrev TSrc := L2.St → Hp → (List V → (Hp → Prop) → Hp → Prop) → Prop
abbrev TSrc2 := L2.St → Hp → (List (V × V) → (Hp → Prop) → Hp → Prop) → Prop
def PSrc (X : Cx) (tg e : Expr) (s : TSrc) : Prop := ∃ wi, PI X tg e wi ∧ ∀ σ H (R : It → Hp → Prop) (S : List V → (Hp → Prop) → Hp → Prop), s σ H S → (∀ J xs G H1, Walk J xs.length G (YAt xs) → (∀ H2, Ext H1 H2 → G H2) → S xs G H1 → R J H1) → wi σ H R
def PSrc2 (X : Cx) (tg e : Expr) (s : TSrc2) : Prop := ∃ wi, PI X tg e wi ∧ ∀ σ H (R : It → Hp → Prop) (S : List (V × V) → (Hp → Prop) → Hp → Prop), s σ H S → (∀ J (xs : List (V × V)) G H1, Walk J xs.length G (YPair (fun i => xs[i]?.map Prod.fst) (fun i => xs[i]?.map Prod.snd)) → (∀ H2, Ext H1 H2 → G H2) → S xs G H1 → R J H1) → wi σ H R
def srcTup (tl : TE) : TSrc := fun σ H R => tl σ H fun x H1 => ∃ p xs, x = .ref p ∧ tupO (H1 p) = some xs ∧ R xs (fun H => tupO (H p) = some xs) H1
def srcLst (tl : TE) : TSrc := fun σ H R => tl σ H fun x H1 => ∃ p xs, x = .ref p ∧ lstO (H1 p) = some xs ∧ R xs (fun H => H p = some (.lst xs)) H1
def srcStr (te : TE) : TSrc := fun σ H R => te σ H fun x H1 => ∃ z : Str, x = .str z ∧ R (z.cps.toList.map fun c => .str ⟨#[c]⟩) (fun _ => True) H1
def srcRng (ta : TA) : TSrc := fun σ H R => ta σ H fun vs H1 => ∃ n : Nat, vs = [.int n] ∧ n ≤ 16777216 ∧ R ((List.range n).map fun (i : Nat) => .int (i : Int)) (fun _ => True) H1
def srcEnum (ta : TA) : TSrc2 := fun σ H R => ta σ H fun vs H1 => ∃ p xs, vs = [.ref p] ∧ lstO (H1 p) = some xs ∧ R ((xs.zipIdx).map fun q => (.int (q.2 : Nat), q.1)) (fun H => H p = some (.lst xs)) H1
def srcZip (ta : TA) : TSrc2 := fun σ H R => ta σ H fun vs H1 => ∃ p q xs ys, vs = [.ref p, .ref q] ∧ tupO (H1 p) = some xs ∧ tupO (H1 q) = some ys ∧ R (xs.zip ys) (fun H => tupO (H p) = some xs ∧ tupO (H q) = some ys) H1
section
variable {X : Cx} {tg e e2 : Expr} {te : TE} {ta : TA} {p pos tpos : Pos} {elts : List Expr} {kk : Nat}
theorem sr_tup (h : PE X e te) : PSrc X tg e (srcTup te) := ⟨_, pi_tup (upPE h), fun σ H R S q k => ⟨_, q, fun v H1 ⟨p, xs, a, b, c⟩ => ⟨p, a, ⟨xs, (sqT_of b)⟩, k _ _ _ _ (walk_tup.mono (fun H (h : tupO (H p) = some xs) => sqT_of h) fun _ _ _ _ _ _ y => y) (fun H2 x => x.tupO b) c⟩⟩⟩
theorem sr_lst (h : PE X e te) : PSrc X tg e (srcLst te) := ⟨_, pi_list (upPE h), fun σ H R S q k => ⟨_, q, fun v H1 ⟨p, xs, a, b, c⟩ => ⟨p, a, ⟨xs, .of (of_lstO b)⟩, k _ _ _ _ (walk_list.mono (fun H (h : H p = some (.lst xs)) => .of h) fun _ _ _ _ _ _ y => y) (fun H2 x => x _ _ (of_lstO b)) c⟩⟩⟩
theorem sr_str (h : PE X e te) : PSrc X tg e (srcStr te) := ⟨_, pi_str (upPE h), fun σ H R S q k => ⟨_, q, fun v H1 ⟨z, a, c⟩ => ⟨z, a, k _ _ _ _ (by
  have w := walk_str (z := z)
  have e : (z.cps.toList.map fun c => V.str ⟨#[c]⟩).length = z.cps.size := by simp
  rw [e]
  exact w.mono (fun _ h => h) fun i H x H' _ _ ⟨y1, c, y2, y3⟩ => ⟨y1, by subst y3; rw [List.getElem?_map, Array.getElem?_toList, y2]; rfl⟩) (fun H2 x => trivial) c⟩⟩⟩
theorem sr_rng (hm : X.mg "range" = none) (h : PA X [e] ta) (hg : Gl X "range" := by rfl) (hs : starEach [e] X.env = [(false, eval e X.env)] := by rfl) : PSrc X tg (.Call (.Name "range" p) [e] [] pos) (srcRng ta) := ⟨_, pi_range1 hg hm (upPA h) hs, fun σ H R S q k => ⟨_, q, fun v H1 ⟨n, a, b, c⟩ => ⟨(n : Int), a, by omega, by omega, k _ _ _ _ (by
  have w := walk_range (lo := 0) (n := n)
  have e : ((List.range n).map fun (i : Nat) => V.int i).length = n := by simp
  rw [e]
  exact w.mono (fun _ h => h) fun i H x H' hi _ ⟨y1, y2⟩ => ⟨y1, by subst y2; rw [List.getElem?_map, List.getElem?_range hi]; simp⟩) (fun H2 x => trivial) c⟩⟩⟩
theorem sr_enum (hm : X.mg "enumerate" = none) (h : PA X [e] ta) (hg : Gl X "enumerate" := by rfl) (hs : starEach [e] X.env = [(false, eval e X.env)] := by rfl) : PSrc2 X (.Tuple elts kk tpos) (.Call (.Name "enumerate" p) [e] [] pos) (srcEnum ta) := ⟨_, pi_enum hg hm (upPA h) hs, fun σ H R S q k => ⟨_, q, fun v H1 ⟨p, xs, a, b, c⟩ => ⟨p, xs, a, .of (of_lstO b), k _ _ _ _ (by
  have w := walk_enum (K := X.K) (a := p) (xs := xs)
  have e : ((xs.zipIdx).map fun q => (V.int (q.2 : Nat), q.1)).length = xs.length := by simp
  rw [e]
  refine w.mono (fun H (h : H p = some (.lst xs)) => .of h) fun i H x H' hi _ ⟨T, x', y', y1, y2, y3, y4, y5⟩ => ⟨T, x', y', y1, y2, y3, ?_, ?_⟩
  · cases y4
    simp [hi]
  · simp at y5
    simp [y5]) (fun H2 x => x _ _ (of_lstO b)) c⟩⟩⟩
theorem walk_zipT {K : PySem.W.Frag} {a b : Addr} {xs ys : List V} {n : Nat} (hn : n = min xs.length ys.length) : Walk (RZ.ItzT K a b) n (fun H => SqT K H a xs ∧ SqT K H b ys) (YPair (fun i => xs[i]?) (fun i => ys[i]?)) := by
  subst hn
  refine ⟨fun i _ hi q => ?_, fun _ q => ⟨xs, ys, q.1, q.2, by omega⟩, fun i H v H' _ q y => ?_⟩
  · have h1 : i < xs.length := by omega
    have h2 : i < ys.length := by omega
    exact ⟨xs, ys, xs[i], ys[i], q.1, q.2, by simp [h1], by simp [h2]⟩
  · obtain ⟨T, x, z, h1, h2, h3, h4, h5⟩ := y
    exact ⟨T, x, z, h1, h2, h3, h4 xs q.1, h5 ys q.2⟩
theorem sr_zip (hm : X.mg "zip" = none) (h : PA X [e, e2] ta) (hg : Gl X "zip" := by rfl) (hs : starEach [e, e2] X.env = (false, eval e X.env) :: starEach [e2] X.env := by rfl) (hpl : (backTo pos (starEach [e2] X.env)).any (·.1) = false := by rfl) :
    PSrc2 X (.Tuple elts kk tpos) (.Call (.Name "zip" p) [e, e2] [] pos) (srcZip ta) := ⟨_, RZ.pi_zipA hg hm (upPA h) hs hpl, fun σ H R S q k => ⟨_, q, fun v H1 ⟨p, q, xs, ys, a, b, b2, c⟩ => ⟨p, q, xs, ys, a, .inr ⟨(sqT_of b), (sqT_of b2), k _ _ _ _ (by
  have w := walk_zipT (K := X.K) (a := p) (b := q) (xs := xs) (ys := ys) (n := (xs.zip ys).length) (by simp)
  refine w.mono (fun H (h : tupO (H p) = some xs ∧ tupO (H q) = some ys) => ⟨sqT_of h.1, sqT_of h.2⟩) fun i H x H' hi _ ⟨T, x', y', y1, y2, y3, y4, y5⟩ => ⟨T, x', y', y1, y2, y3, ?_, ?_⟩
  · have z : (xs.zip ys)[i]? = some (x', y') := List.getElem?_zip_eq_some.mpr ⟨y4, y5⟩
    simp only [z, Option.map_some]
  · have z : (xs.zip ys)[i]? = some (x', y') := List.getElem?_zip_eq_some.mpr ⟨y4, y5⟩
    simp only [z, Option.map_some]) (fun H2 x => ⟨x.tupO b, x.tupO b2⟩) c⟩⟩⟩⟩
end
/-! ### comprehensions that only add -/
/-- one thing by one -/
def tLcF (src : TSrc) (g : TG) (tt : TT) (te : TE) (vs : List Nat) : TE := fun σ H Q => src σ H fun xs G H1 => ∃ (α : Type) (l : List α) (emb : α → V) (F : α → Option V), xs = l.map emb ∧ l.length ≤ 16777216 ∧
  (∀ a, a ∈ l → ∀ H2, Ext H1 H2 → g (emb a) (wipe σ vs) H2 fun σ3 H3 => wipe σ3 vs = wipe σ vs ∧ tt σ3 H3 fun b H4 => if b = true then te σ3 H4 fun y H5 => Ext H2 H5 ∧ F a = some y else Ext H2 H4 ∧ F a = none) ∧
  ∀ D H2, H1 D = none → Ext H1 H2 → H2 D = some (.lst (l.filterMap F)) → Q (.ref D) H2
def tLcP (src : TSrc2) (g : TG) (tt : TT) (te : TE) (vs : List Nat) : TE := fun σ H Q => src σ H fun xs G H1 => ∃ (α : Type) (l : List α) (f1 f2 : α → V) (F : α → Option V), xs = l.map (fun a => (f1 a, f2 a)) ∧ l.length ≤ 16777216 ∧
  (∀ a, a ∈ l → ∀ H0 T, Ext H1 H0 → H0 T = none → g (.ref T) (wipe σ vs) (upd H0 T (.tup [f1 a, f2 a])) fun σ3 H3 => wipe σ3 vs = wipe σ vs ∧ tt σ3 H3 fun b H4 => if b = true then te σ3 H4 fun y H5 => Ext H0 H5 ∧ F a = some y else Ext H0 H4 ∧ F a = none) ∧
  ∀ D H2, H1 D = none → Ext H1 H2 → H2 D = some (.lst (l.filterMap F)) → Q (.ref D) H2
theorem take_fm {α β : Type} {F : α → Option β} {l : List α} {i : Nat} {a : α} (h : l[i]? = some a) : (l.take (i + 1)).filterMap F = (l.take i).filterMap F ++ (F a).toList := by
  rw [List.take_add_one, List.filterMap_append, h]
  cases e : F a <;> simp [e]
theorem fm_le {α β : Type} {F : α → Option β} {l : List α} {i : Nat} (hi : i < l.length) : ((l.take i).filterMap F).length < l.length := by
  have := List.length_filterMap_le F (l.take i)
  rw [List.length_take] at this
  omega
theorem lc_coreF {α : Type} {l : List α} {F : α → Option V} {J : It} {G : Hp → Prop} {Y : Nat → Hp → V → Hp → Prop} {g : TG} {tt : TT} {te : TE} {vs : List Nat} {σ : L2.St} {H1 : Hp} {Q : VK} (w : Walk J l.length G Y) (hG : ∀ H2, Ext H1 H2 → G H2) (hl : l.length ≤ 16777216)
    (hs : ∀ i a H x H', l[i]? = some a → Ext H1 H → Y i H x H' → g x (wipe σ vs) H' fun σ3 H3 => wipe σ3 vs = wipe σ vs ∧ tt σ3 H3 fun b H4 => if b = true then te σ3 H4 fun y H5 => Ext H H5 ∧ F a = some y else Ext H H4 ∧ F a = none)
    (hq : ∀ D H2, H1 D = none → Ext H1 H2 → H2 D = some (.lst (l.filterMap F)) → Q (.ref D) H2) :
    ∀ D, H1 D = none → ∃ W : Nat → Nat → Hp → Prop, (∃ m, W 0 m (upd H1 D (.lst []))) ∧ ∀ i m H, W i m H →
  (J.stop i H ∧ Q (.ref D) H) ∨ (J.go i H ∧ ∃ Nx : Hp → Prop, (∀ H', Nx H' → ∃ m', m' < m ∧ W (i + 1) m' H') ∧ ∀ x H', J.yld i H x H' → upG g x (wipe σ vs) H' fun σ2 H2 => wipe σ2 vs = wipe σ vs ∧ upT tt σ2 H2 fun b H3 =>
    if b = true then up te σ2 H3 fun y H4 => ∃ acc, H4 D = some (.lst acc) ∧ acc.length < sizeLine ∧ Nx (upd H4 D (.lst (acc ++ [y]))) else Nx H3) := by
  intro D hD
  refine lc_it (Qd := fun H => Q (.ref D) H) w (fun i H => Ext H1 H ∧ H D = some (.lst ((l.take i).filterMap F))) ⟨Ext.new hD, by simp [upd_same]⟩ (fun i H _ h => hG H h.1) (fun i x H H' hi ⟨e, hacc⟩ y => ?_) (fun H ⟨e, h⟩ => hq D H hD e (by simpa using h))
  obtain ⟨a, ha⟩ : ∃ a, l[i]? = some a := ⟨l[i], by simp [hi]⟩
  refine ⟨_, hs i a H x H' ha e y, fun σ3 H3 ⟨q1, q2⟩ => ⟨q1, _, q2, fun b H4 q3 => ?_⟩⟩
  cases b with
  | false =>
    obtain ⟨k, z⟩ := q3
    refine ⟨e.trans k, ?_⟩
    rw [take_fm ha, z, k _ _ hacc]
    simp
  | true =>
    refine ⟨_, q3, fun v H5 ⟨k, z⟩ => ⟨_, k _ _ hacc, ?_, ?_, ?_⟩⟩
    · have := fm_le (F := F) hi
      rw [sizeLine_eq]
      omega
    · intro b o hb
      have := (e.trans k) b o hb
      rw [upd_ne (fun zz => by subst zz; rw [hD] at hb; cases hb)]
      exact this
    · rw [upd_same, take_fm ha, z]
      rfl
section
variable {X : Cx} {elt tg iter : Expr} {ifs : List Expr} {scope : Scope} {own : List (Str × Nat)} {pos spos py : Pos} {g : TG} {tt : TT} {te : TE} {s1 : TSrc} {s2 : TSrc2} {i : Nat} {y : Str}
theorem lcF_of (s : PSrc X tg iter s1) {K : TE → Prop} (hK : ∀ wi, PI X tg iter wi → K (tLc wi (upG g) (upT tt) (up te) (own.map (·.2)))) : ∃ t, K t ∧ ∀ σ H Q, tLcF s1 g tt te (own.map (·.2)) σ H Q → t σ H Q := by
  obtain ⟨wi, h, k⟩ := s
  refine ⟨_, hK wi h, fun σ H Q q => k σ H _ _ q fun J xs G H1 w hG ⟨α, l, emb, F, e, hl, hs, hq⟩ => ?_⟩
  subst e
  rw [List.length_map] at w
  refine lc_coreF (F := F) w hG hl (fun i a H x H' ha hx ⟨y1, y2⟩ => ?_) hq
  rw [List.getElem?_map, ha] at y2
  cases y2
  subst y1
  exact hs a (List.mem_of_getElem? ha) _ hx
theorem lcP_of (s : PSrc2 X tg iter s2) {K : TE → Prop} (hK : ∀ wi, PI X tg iter wi → K (tLc wi (upG g) (upT tt) (up te) (own.map (·.2)))) : ∃ t, K t ∧ ∀ σ H Q, tLcP s2 g tt te (own.map (·.2)) σ H Q → t σ H Q := by
  obtain ⟨wi, h, k⟩ := s
  refine ⟨_, hK wi h, fun σ H Q q => k σ H _ _ q fun J xs G H1 w hG ⟨α, l, f1, f2, F, e, hl, hs, hq⟩ => ?_⟩
  subst e
  rw [List.length_map] at w
  refine lc_coreF (F := F) w hG hl (fun i a H x H' ha hx ⟨T, x', y', y1, y2, y3, y4, y5⟩ => ?_) hq
  simp only [List.getElem?_map, ha, Option.map_some, Option.some.injEq] at y4 y5
  subst y4 y5
  subst y1 y3
  exact hs a (List.mem_of_getElem? ha) _ T hx y2
abbrev Oks (X : Cx) (scope : Scope) (f : Cx → Prop) : Prop := ∀ (s : Shared) (H : Hp) (C : Addr) (cl : List (Str × Addr)) (fp : List Addr), f (X.blk s H scope (compEnvC scope cl C X.env) fp)
theorem lcF (hc : X.calm = true) (hN : X.N.Nodup) (s : PSrc X tg iter s1) (ok : BlkOk X.N X.env.scope scope own) (hg : Oks X scope fun Y => PG Y tg g) (ht : Oks X scope fun Y => PTs Y ifs tt) (he : Oks X scope fun Y => PE Y elt te)
    (hs : ∀ x, foldedSetIterable iter X.env x = pure x := by intro _; rfl) : PE X (.ListComp elt [⟨tg, iter, ifs, 0⟩] scope pos) (tLcF s1 g tt te (own.map (·.2))) := by
  obtain ⟨t, h, i⟩ := lcF_of (K := fun t => PE X (.ListComp elt [⟨tg, iter, ifs, 0⟩] scope pos) t) s (g := g) (tt := tt) (te := te) (own := own) fun wi hi => pe_lc hc hN hi ok (fun s H C cl fp => upPG (hg s H C cl fp)) (fun s H C cl fp => upPTs (ht s H C cl fp)) (fun s H C cl fp => upPE (he s H C cl fp)) hs
  exact impPE h i
theorem lcP (hc : X.calm = true) (hN : X.N.Nodup) (s : PSrc2 X tg iter s2) (ok : BlkOk X.N X.env.scope scope own) (hg : Oks X scope fun Y => PG Y tg g) (ht : Oks X scope fun Y => PTs Y ifs tt) (he : Oks X scope fun Y => PE Y elt te)
    (hs : ∀ x, foldedSetIterable iter X.env x = pure x := by intro _; rfl) : PE X (.ListComp elt [⟨tg, iter, ifs, 0⟩] scope pos) (tLcP s2 g tt te (own.map (·.2))) := by
  obtain ⟨t, h, i⟩ := lcP_of (K := fun t => PE X (.ListComp elt [⟨tg, iter, ifs, 0⟩] scope pos) t) s (g := g) (tt := tt) (te := te) (own := own) fun wi hi => pe_lc hc hN hi ok (fun s H C cl fp => upPG (hg s H C cl fp)) (fun s H C cl fp => upPTs (ht s H C cl fp)) (fun s H C cl fp => upPE (he s H C cl fp)) hs
  exact impPE h i
theorem setLcF (hc : X.calm = true) (hN : X.N.Nodup) (hsw : swapsWith (.ListComp elt [⟨tg, iter, ifs, 0⟩] scope pos) (some (.Name y py)) spos.line X.env = pure true) (s : PSrc X tg iter s1) (ok : BlkOk X.N X.env.scope scope own) (hg : Oks X scope fun Y => PG Y tg g) (ht : Oks X scope fun Y => PTs Y ifs tt) (he : Oks X scope fun Y => PE Y elt te)
    (hy : X.N[i]? = some y := by rfl) (hyl : X.env.scope.names.lookup y = some .local := by rfl) (hs : ∀ x, foldedSetIterable iter X.env x = pure x := by intro _; rfl) : PS X (.Assign [.Name y py] (.ListComp elt [⟨tg, iter, ifs, 0⟩] scope pos) spos) (tAsg (tLcF s1 g tt te (own.map (·.2))) (gName i)) := by
  obtain ⟨t, h, j⟩ := lcF_of (K := fun t => PS X (.Assign [.Name y py] (.ListComp elt [⟨tg, iter, ifs, 0⟩] scope pos) spos) (tAsg t (gName i))) s (g := g) (tt := tt) (te := te) (own := own) fun wi hi => ps_setLc hc hN hy hyl hsw hi ok (fun s H C cl fp => upPG (hg s H C cl fp)) (fun s H C cl fp => upPTs (ht s H C cl fp)) (fun s H C cl fp => upPE (he s H C cl fp)) hs
  exact impPS h fun D σ H q => j _ _ _ q
theorem setLcP (hc : X.calm = true) (hN : X.N.Nodup) (hsw : swapsWith (.ListComp elt [⟨tg, iter, ifs, 0⟩] scope pos) (some (.Name y py)) spos.line X.env = pure true) (s : PSrc2 X tg iter s2) (ok : BlkOk X.N X.env.scope scope own) (hg : Oks X scope fun Y => PG Y tg g) (ht : Oks X scope fun Y => PTs Y ifs tt) (he : Oks X scope fun Y => PE Y elt te)
    (hy : X.N[i]? = some y := by rfl) (hyl : X.env.scope.names.lookup y = some .local := by rfl) (hs : ∀ x, foldedSetIterable iter X.env x = pure x := by intro _; rfl) : PS X (.Assign [.Name y py] (.ListComp elt [⟨tg, iter, ifs, 0⟩] scope pos) spos) (tAsg (tLcP s2 g tt te (own.map (·.2))) (gName i)) := by
  obtain ⟨t, h, j⟩ := lcP_of (K := fun t => PS X (.Assign [.Name y py] (.ListComp elt [⟨tg, iter, ifs, 0⟩] scope pos) spos) (tAsg t (gName i))) s (g := g) (tt := tt) (te := te) (own := own) fun wi hi => ps_setLc hc hN hy hyl hsw hi ok (fun s H C cl fp => upPG (hg s H C cl fp)) (fun s H C cl fp => upPTs (ht s H C cl fp)) (fun s H C cl fp => upPE (he s H C cl fp)) hs
  exact impPS h fun D σ H q => j _ _ _ q
end
/-! ### for loops: the invariant by what is left -/
def tForF (src : TSrc) (g : TG) (tb : TS) : TS := fun D σ H => src σ H fun xs G H1 => ∃ (α : Type) (l : List α) (emb : α → V) (Pv : List α → L2.St → Hp → Prop), xs = l.map emb ∧ Pv l σ H1 ∧ (∀ r σ H, Pv r σ H → G H) ∧
  (∀ a r σ H, Pv (a :: r) σ H → g (emb a) σ H fun σ2 H2 => tb { D with nx := Pv r, ct := Pv r, bk := D.nx } σ2 H2) ∧ ∀ σ H, Pv [] σ H → D.nx σ H
def tForP (src : TSrc2) (g : TG) (tb : TS) : TS := fun D σ H => src σ H fun xs G H1 => ∃ (α : Type) (l : List α) (f1 f2 : α → V) (Pv : List α → L2.St → Hp → Prop), xs = l.map (fun a => (f1 a, f2 a)) ∧ Pv l σ H1 ∧ (∀ r σ H, Pv r σ H → G H) ∧
  (∀ a r σ H T, Pv (a :: r) σ H → H T = none → g (.ref T) σ (upd H T (.tup [f1 a, f2 a])) fun σ2 H2 => tb { D with nx := Pv r, ct := Pv r, bk := D.nx } σ2 H2) ∧ ∀ σ H, Pv [] σ H → D.nx σ H
theorem drop_of {α : Type} {l : List α} {i : Nat} {a : α} (h : l[i]? = some a) : l.drop i = a :: l.drop (i + 1) := by
  obtain ⟨hi, e⟩ := List.getElem?_eq_some_iff.mp h
  rw [List.drop_eq_getElem_cons hi, e]
section
variable {X : Cx} {tg iter : Expr} {body : List Stmt} {g : TG} {tb : TS} {pos : Pos} {s1 : TSrc} {s2 : TSrc2}
theorem forF (hp : PassesOwn (model X.prog X.w) X.A X.env X.xe) (hc : X.calm = true) (s : PSrc X tg iter s1) (hg : PG X tg g) (hb : PSs X body tb) (hs : ∀ x, foldedSetIterable iter X.env x = pure x := by intro _; rfl) : PS X (.For tg iter body [] pos) (tForF s1 g tb) := by
  obtain ⟨wi, h, k⟩ := s
  refine impPS (ps_for hp hc h hg hb hs) fun D σ H q => k σ H _ _ q fun J xs G H1 w hG ⟨α, l, emb, Pv, e, h0, hg0, hs0, hd⟩ => ?_
  subst e
  rw [List.length_map] at w
  refine for_it w (fun i σ H => Pv (l.drop i) σ H) h0 (fun i σ H _ z => hg0 _ _ _ z) (fun i x σ H H' hi p ⟨y1, y2⟩ => ?_) (fun σ H z => hd σ H (by simpa using z))
  obtain ⟨a, ha⟩ : ∃ a, l[i]? = some a := ⟨l[i], by simp [hi]⟩
  rw [List.getElem?_map, ha] at y2
  cases y2
  subst y1
  rw [drop_of ha] at p
  exact hs0 a _ σ _ p
theorem forP (hp : PassesOwn (model X.prog X.w) X.A X.env X.xe) (hc : X.calm = true) (s : PSrc2 X tg iter s2) (hg : PG X tg g) (hb : PSs X body tb) (hs : ∀ x, foldedSetIterable iter X.env x = pure x := by intro _; rfl) : PS X (.For tg iter body [] pos) (tForP s2 g tb) := by
  obtain ⟨wi, h, k⟩ := s
  refine impPS (ps_for hp hc h hg hb hs) fun D σ H q => k σ H _ _ q fun J xs G H1 w hG ⟨α, l, f1, f2, Pv, e, h0, hg0, hs0, hd⟩ => ?_
  subst e
  rw [List.length_map] at w
  refine for_it w (fun i σ H => Pv (l.drop i) σ H) h0 (fun i σ H _ z => hg0 _ _ _ z) (fun i x σ H H' hi p ⟨T, x', y', y1, y2, y3, y4, y5⟩ => ?_) (fun σ H z => hd σ H (by simpa using z))
  obtain ⟨a, ha⟩ : ∃ a, l[i]? = some a := ⟨l[i], by simp [hi]⟩
  simp only [List.getElem?_map, ha, Option.map_some, Option.some.injEq] at y4 y5
  subst y4 y5
  subst y1 y3
  rw [drop_of ha] at p
  exact hs0 a _ σ H T p y2
end
section
variable {X : Cx} {a b e : Expr} {es es' : List Expr} {ta tb te to : TE} {t : TA} {p apos pos : Pos} {k n : Nat} {ts : TGs}
def gTupG (n : Nat) (t : TGs) : TG := fun v σ H Q => ∃ a xs, v = .ref a ∧ tupO (H a) = some xs ∧ xs.length = n ∧ t xs σ H Q
theorem pg_tupG (hc : X.calm = true) (h : PGs X es ts) (hn : (assignEach es X.env).length = n := by rfl) (hst : (assignEach es X.env).findIdx? (·.1) = none := by rfl) : PG X (.Tuple es k pos) (gTupG n ts) :=
  impPG (pg_tup hc h hn hst) fun v σ H Q ⟨a, xs, e, h, l, q⟩ => ⟨a, xs, e, (sqT_of h), l, q⟩
def tStarG (te : TE) (t : TA) : TA := fun σ H Q => te σ H fun x H1 => ∃ p xs, x = .ref p ∧ seqO (H1 p) = some xs ∧ t σ H1 fun ys H2 => Q (xs ++ ys) H2
theorem pa_starG (he : PE X e te) (hr : PA X es t) (hs : starEach (.Starred e p :: es) X.env = (true, eval e X.env) :: starEach es X.env := by rfl) : PA X (.Starred e p :: es) (tStarG te t) :=
  impPA (StX.pa_star (upPE he) hr hs) fun σ H Q q => ⟨_, q, fun v H1 ⟨p, xs, e, h, q⟩ => ⟨p, xs, e, (of_seqO h).elim (fun h => .inl (.inl h)) (fun h => .inr (.of h)), q⟩⟩
theorem impSl {r r' : V → Option Int → Option Int → Hp → VK → Prop} (h : SlR X r) (i : ∀ x l u H Q, r' x l u H Q → r x l u H Q) : SlR X r' := fun pins s σ H x v vl vu lo hi sl Q I rx hs pl pu q => h pins s σ H x v vl vu lo hi sl Q I rx hs pl pu (i _ _ _ _ _ q)
theorem cutV_whole {xs : List V} {lo hi : Option Int} (h : HT.sIx xs.length 0 lo = 0 ∧ HT.sIx xs.length xs.length hi = xs.length) : cutV xs lo hi = xs := by
  unfold cutV
  rw [h.1, h.2]
  simp
theorem cutV_lo {xs : List V} {k : Nat} : cutV xs (some (k : Int)) none = xs.drop k := by
  unfold cutV
  rw [HT.sIx_nat, HT.sIx_none, List.take_of_length_le (by rw [List.length_drop]; omega)]
  by_cases h : k ≤ xs.length
  · rw [Nat.min_eq_left h]
  · rw [Nat.min_eq_right (by omega), List.drop_of_length_le (by omega), List.drop_of_length_le (by omega)]
theorem cutV_hi {xs : List V} {k : Nat} : cutV xs none (some (k : Int)) = xs.take k := by
  unfold cutV
  rw [HT.sIx_nat, HT.sIx_none, List.drop_zero, Nat.sub_zero]
  by_cases h : k ≤ xs.length
  · rw [Nat.min_eq_left h]
  · rw [Nat.min_eq_right (by omega), List.take_of_length_le (by omega), List.take_of_length_le (by omega)]
theorem cutV_1 {xs : List V} : cutV xs (some 1) none = xs.drop 1 := cutV_lo (k := 1)
theorem cutV_last {xs : List V} : cutV xs none (some (-1)) = xs.dropLast := by
  unfold cutV
  rw [HT.sIx_none, List.drop_zero, Nat.sub_zero, List.dropLast_eq_take]
  congr 1
  show (if (-1 : Int) < 0 then ((-1 : Int) + (xs.length : Int)).toNat else min (-1 : Int).toNat xs.length) = xs.length - 1
  rw [if_pos (by decide)]
  omega
def rSlTG : V → Option Int → Option Int → Hp → VK → Prop := fun x lo hi H Q => ∃ a xs, x = .ref a ∧ tupO (H a) = some xs ∧ ∀ p H', Ext H H' → tupO (H' p) = some (cutV xs lo hi) → Q (.ref p) H'
theorem sl_tupG : SlR X rSlTG := impSl sl_tupA fun x l u H Q ⟨a, xs, e, h, q⟩ => ⟨a, xs, e, (sqT_of h), fun z => q a H (.refl H) (by rw [cutV_whole z]; exact h), fun _ p hp => q p _ (.new hp) (by rw [upd_same]; rfl)⟩
def rSlLG : V → Option Int → Option Int → Hp → VK → Prop := fun x lo hi H Q => ∃ a xs, x = .ref a ∧ lstO (H a) = some xs ∧ ∀ p, H p = none → Q (.ref p) (upd H p (.lst (cutV xs lo hi)))
theorem sl_lstG : SlR X rSlLG := impSl sl_list fun x l u H Q ⟨a, xs, e, h, q⟩ => ⟨a, xs, e, .of (of_lstO h), q⟩
/-- t + u; the empty ones give the other back -/
def rCatTG : R2 := fun x y H Q => ∃ a b xs ys, x = .ref a ∧ y = .ref b ∧ tupO (H a) = some xs ∧ tupO (H b) = some ys ∧ xs.length + ys.length ≤ 16777216 ∧ ∀ p H', Ext H H' → tupO (H' p) = some (xs ++ ys) → Q (.ref p) H'
theorem op_catTG : OpR X (binaryOp .Add) rCatTG := OpR.imp op_catA fun x y H Q ⟨a, b, xs, ys, e1, e2, h1, h2, l, q⟩ => ⟨a, b, xs, ys, e1, e2, (sqT_of h1), (sqT_of h2), by rw [sizeLine_eq]; exact l,
  fun z => q b H (.refl H) (by rw [h2, z]; rfl), fun _ z => q a H (.refl H) (by rw [h1, z, List.append_nil]), fun _ _ p hp => q p _ (.new hp) (by rw [upd_same]; rfl)⟩
def tJoinG (to te : TE) : TE := fun σ H Q => to σ H fun x H1 => (∃ a, x = .str a) ∧ te σ H1 fun y H2 => ∃ (a : Str) (p : Addr) (ys : List Str), x = .str a ∧ y = .ref p ∧ seqO (H2 p) = some (ys.map V.str) ∧ (ys.map (·.length)).sum + ys.length * a.length ≤ 16777216 ∧ Q (.str (Txt.join a ys)) H2
theorem pe_joinG (ho : PE X a ta) (he : PE X e te) (hs : starEach [e] X.env = [(false, eval e X.env)] := by rfl) (hbase : attributeBase a "join" X.env (eval a X.env) = eval a X.env := by rfl) (hline : (apos.endLine == pos.line) = true := by rfl) :
    PE X (.Call (.Attribute a "join" apos) [e] [] pos) (tJoinG ta te) := impPE (pe_join (upPE ho) (upPE he) hs hbase hline) fun σ H Q q => ⟨_, q, fun x H1 ⟨hx, q1⟩ => ⟨hx, _, q1, fun y H2 ⟨a, p, ys, e1, e2, h, l, q2⟩ => ⟨a, p, ys, e1, by rw [e2], (of_seqO h).elim (fun h => .inr (.inl h)) (fun h => .inl (.of h)), l, q2⟩⟩⟩
def rSortedSG : List V → Hp → VK → Prop := fun vs H Q => ∃ (a : Addr) (xs : List Str), vs = [V.ref a] ∧ lstO (H a) = some (xs.map V.str) ∧ xs.length < 64 ∧
  ∀ (ys : List Str) (p : Addr), ys.Perm xs → sortedS ys = true → H p = none → Q (.ref p) (upd H p (.lst (ys.map V.str)))
theorem cr_sortedSG : CallR X (.builtin "sorted") rSortedSG := CallR.imp cr_sortedS fun vs H Q ⟨a, xs, e, h, q⟩ => ⟨a, xs, e, .of (of_lstO h), q⟩
/-- l.append(e) -/
def tApp (to te : TE) : TE := fun σ H Q => to σ H fun x H1 => ∃ l xs0, x = .ref l ∧ lstO (H1 l) = some xs0 ∧ te σ H1 fun y H2 => ∃ xs, lstO (H2 l) = some xs ∧ xs.length < 16777216 ∧ Q .non (upd H2 l (.lst (xs ++ [y])))
theorem pe_app (h : PE X e (tBM X.K "list" rAppend (up ta) (tCons (up te) tNil))) : PE X e (tApp ta te) := impPE h fun σ H Q q => ⟨_, q, fun x H1 ⟨l, xs0, ex, h0, q1⟩ => by
      subst ex
      exact ⟨.inl ⟨rfl, _, .of (of_lstO h0)⟩, _, q1, fun y H2 ⟨xs, h, hz, q2⟩ => ⟨l, xs, y, rfl, rfl, of_lstO h, by rw [sizeLine_eq]; exact hz, q2⟩⟩⟩
/-- l.extend(a list) -/
def tExd (to te : TE) : TE := fun σ H Q => to σ H fun x H1 => ∃ l xs0, x = .ref l ∧ lstO (H1 l) = some xs0 ∧ te σ H1 fun y H2 => ∃ b xs zs, y = .ref b ∧ lstO (H2 l) = some xs ∧ lstO (H2 b) = some zs ∧ xs.length + zs.length ≤ 16777216 ∧ Q .non (upd H2 l (.lst (xs ++ zs)))
theorem pe_exd (h : PE X e (tBM X.K "list" rExtend (up ta) (tCons (up te) tNil))) : PE X e (tExd ta te) := impPE h fun σ H Q q => ⟨_, q, fun x H1 ⟨l, xs0, ex, h0, q1⟩ => by
      subst ex
      exact ⟨.inl ⟨rfl, _, .of (of_lstO h0)⟩, _, q1, fun y H2 ⟨b, xs, zs, ey, h, hb, hz, q2⟩ => by
        subst ey
        exact ⟨l, b, xs, zs, rfl, rfl, of_lstO h, of_lstO hb, by rw [sizeLine_eq]; exact hz, q2⟩⟩⟩
end
end CC
set_option maxHeartbeats 4000000
/-! CCMir: what the program keeps, as plain things, and how it stands in the heap. -/
namespace CC
open PySem PySem.Spec PyProof.Rows L2
abbrev Lay := List (Option Str)
def layV : Option Str → V
  | none => .non
  | some z => .str z
abbrev Doors := List (Int × Int)
def names3 : List Str := ["fig", "kiwi", "plum"]
structure Sto where
  ds : Doors
  n : Nat
  deriving DecidableEq
def Sto.cs (s : Sto) : List Str := names3.take s.n
def esOf : Doors → Nat → List Int
  | [], _ => []
  | d :: r, i => List.replicate d.2.toNat (i : Int) ++ esOf r (i + 1)
def Sto.es (s : Sto) : List Int := esOf s.ds 0
def pls (ds : Doors) : Int := (ds.map Prod.snd).sum
structure DsOk (ds : Doors) : Prop where
  d1 : 1 ≤ ds.length
  d2 : ds.length ≤ 3
  dw : ∀ d, d ∈ ds → (1 ≤ d.1 ∧ d.1 ≤ 9) ∧ 1 ≤ d.2 ∧ d.2 ≤ 2
  ps : pls ds ≤ 4
structure Sto.Ok (s : Sto) : Prop where
  d : DsOk s.ds
  n1 : 1 ≤ s.n
  n3 : s.n ≤ 3
  np : (s.n : Int) ≤ pls s.ds
/-- refs, each to a thing that is told -/
def RefsAt {α : Type} (R : Hp → Addr → α → Prop) (H : Hp) (a : Addr) (xs : List α) : Prop := ∃ l : List (Addr × α), H a = some (.tup (l.map fun q => .ref q.1)) ∧ l.map Prod.snd = xs ∧ ∀ q, q ∈ l → R H q.1 q.2
theorem RefsAt.mono {α : Type} {R : Hp → Addr → α → Prop} {H H' : Hp} {a : Addr} {xs : List α} (h : RefsAt R H a xs) (ha : ∀ xs, H a = some (.tup xs) → H' a = some (.tup xs)) (hR : ∀ a x, R H a x → R H' a x) : RefsAt R H' a xs :=
  let ⟨l, e, m, k⟩ := h
  ⟨l, ha _ e, m, fun q hq => hR _ _ (k q hq)⟩
def DoorAt (H : Hp) (a : Addr) (d : Int × Int) : Prop := H a = some (.tup [.int d.1, .int d.2])
abbrev DoorsAt (H : Hp) (a : Addr) (ds : Doors) : Prop := RefsAt DoorAt H a ds
/-- tuples and dicts stand -/
structure Tup (H H' : Hp) : Prop where
  t : ∀ a xs, H a = some (.tup xs) → H' a = some (.tup xs)
  d : ∀ a xs, H a = some (.dK xs) → H' a = some (.dK xs)
  f : ∀ a o u, H a = some (.frz o u) → H' a = some (.frz o u)
theorem Tup.tO {H H' : Hp} (e : Tup H H') {a : Addr} {xs : List V} (h : tupO (H a) = some xs) : tupO (H' a) = some xs := by
  rcases of_tupO h with z | ⟨ob, z⟩
  · rw [e.t _ _ z]; rfl
  · rw [e.f _ _ _ z]; rfl
theorem Ext.tup {H H' : Hp} (e : Ext H H') : Tup H H' := ⟨fun a xs h => e a _ h, fun a xs h => e a _ h, fun a _ _ h => e a _ h⟩
theorem Tup.refl (H : Hp) : Tup H H := ⟨fun _ _ h => h, fun _ _ h => h, fun _ _ _ h => h⟩
theorem Tup.trans {H H1 H2 : Hp} (a : Tup H H1) (b : Tup H1 H2) : Tup H H2 := ⟨fun x xs h => b.t x xs (a.t x xs h), fun x xs h => b.d x xs (a.d x xs h), fun x o u h => b.f x o u (a.f x o u h)⟩
theorem Kp.tup {s : Addr} {H H' : Hp} (e : Kp s H H') (h1 : ∀ xs, H s ≠ some (.tup xs)) (h2 : ∀ xs, H s ≠ some (.dK xs)) (h3 : ∀ o u, H s ≠ some (.frz o u)) : Tup H H' := ⟨fun a xs h => e a _ (fun z => by subst z; exact h1 _ h) h, fun a xs h => e a _ (fun z => by subst z; exact h2 _ h) h, fun a o u h => e a _ (fun z => by subst z; exact h3 _ _ h) h⟩
theorem DoorsAt.mono {H H' : Hp} {a : Addr} {ds : Doors} (h : DoorsAt H a ds) (e : Tup H H') : DoorsAt H' a ds := RefsAt.mono h (fun xs => e.t a xs) fun b d => e.t b _
def LayAt (H : Hp) (a : Addr) (l : Lay) : Prop := tupO (H a) = some (l.map layV)
theorem LayAt.mono {H H' : Hp} {a : Addr} {l : Lay} (h : LayAt H a l) (e : Tup H H') : LayAt H' a l := e.tO h
/-- a tuple without a dict -/
def TupX (H : Hp) (a : Addr) (xs : List V) : Prop := ∃ o, H a = some (.frz o (.tup xs)) ∧ o.dict = none
theorem TupX.mono {H H' : Hp} {a : Addr} {xs : List V} (h : TupX H a xs) (e : Tup H H') : TupX H' a xs := let ⟨o, h1, h2⟩ := h; ⟨o, e.f _ _ _ h1, h2⟩
theorem TupX.tO {H : Hp} {a : Addr} {xs : List V} (h : TupX H a xs) : tupO (H a) = some xs := by
  obtain ⟨o, h1, _⟩ := h
  rw [h1]
  rfl
abbrev LayX (H : Hp) (a : Addr) (l : Lay) : Prop := TupX H a (l.map layV)
theorem LayX.at {H : Hp} {a : Addr} {l : Lay} (h : LayX H a l) : LayAt H a l := TupX.tO h
/-- an instance with slots, wholly made -/
def SB (H : Hp) (a C : Addr) (vs : List V) : Prop := ∃ dx, H a = some (SlX.SlO a C dx (vs.map some)) ∧ H dx = some (.xd [])
theorem SB.ne {a C dx : Addr} {vs : List (Option V)} : SlX.SlO a C dx vs ≠ .xd [] := SlX.slO_not
theorem SB.sa {H : Hp} {a C : Addr} {vs : List V} (h : SB H a C vs) : SA H a C (vs.map some) := by
  obtain ⟨dx, h1, h2⟩ := h
  exact ⟨dx, .inr ⟨h1, h2⟩, fun z => by subst z; rw [h2] at h1; exact SB.ne (Option.some.inj h1).symm⟩
theorem SB.ext {H H' : Hp} {a C : Addr} {vs : List V} (h : SB H a C vs) (e : Ext H H') : SB H' a C vs := by
  obtain ⟨dx, h1, h2⟩ := h
  exact ⟨dx, e _ _ h1, e _ _ h2⟩
theorem SB.kp {H H' : Hp} {a C s : Addr} {vs : List V} (h : SB H a C vs) (e : Kp s H H') (n : a ≠ s) (hs : H s ≠ some (.xd [])) : SB H' a C vs := by
  obtain ⟨dx, h1, h2⟩ := h
  exact ⟨dx, e _ _ n h1, e _ _ (fun z => by subst z; exact hs h2) h2⟩
section
variable (K : PySem.W.Frag)
/-- a store stands there -/
def StoAt (H : Hp) (a : Addr) (s : Sto) : Prop := ∃ ea pa da ca, SB H a (gA K "Store") [.ref ea, .ref pa] ∧ H ea = some (.tup (s.es.map V.int)) ∧ H pa = some (.tup [.ref da, .ref ca]) ∧ DoorsAt H da s.ds ∧ H ca = some (.tup (s.cs.map V.str))
end
variable {K : PySem.W.Frag}
theorem StoAt.ext {H H' : Hp} {a : Addr} {s : Sto} (h : StoAt K H a s) (e : Ext H H') : StoAt K H' a s := by
  obtain ⟨ea, pa, da, ca, h1, h2, h3, h4, h5⟩ := h
  exact ⟨ea, pa, da, ca, h1.ext e, e _ _ h2, e _ _ h3, h4.mono e.tup, e _ _ h5⟩
theorem tupS {H : Hp} {s : Addr} {a C dx : Addr} {vs : List (Option V)} (h : H s = some (SlX.SlO a C dx vs)) : ∀ xs, H s ≠ some (.tup xs) := fun xs z => by
  rw [h] at z
  exact nomatch Option.some.inj z
theorem dKS {H : Hp} {s : Addr} {a C dx : Addr} {vs : List (Option V)} (h : H s = some (SlX.SlO a C dx vs)) : ∀ xs, H s ≠ some (.dK xs) := fun xs z => by
  rw [h] at z
  exact nomatch Option.some.inj z
theorem frzS {H : Hp} {s : Addr} {a C dx : Addr} {vs : List (Option V)} (h : H s = some (SlX.SlO a C dx vs)) : ∀ o u, H s ≠ some (.frz o u) := fun o u z => by
  rw [h] at z
  exact nomatch Option.some.inj z
/-! ### plain facts of a good store -/
theorem pls_cons {d : Int × Int} {r : Doors} : pls (d :: r) = d.2 + pls r := by simp [pls]
theorem esOf_len : ∀ {ds : Doors} {i : Nat}, (∀ d, d ∈ ds → 1 ≤ d.2) → ((esOf ds i).length : Int) = pls ds
  | [], _, _ => rfl
  | d :: r, i, h => by
    have h1 := h d List.mem_cons_self
    have h2 := esOf_len (ds := r) (i := i + 1) fun x hx => h x (List.mem_cons_of_mem _ hx)
    rw [esOf, List.length_append, List.length_replicate, pls_cons]
    omega
theorem Sto.Ok.len {s : Sto} (h : s.Ok) : (s.es.length : Int) = pls s.ds := esOf_len fun d hd => (h.d.dw d hd).2.1
theorem esOf_mem : ∀ {ds : Doors} {i : Nat} {e : Int}, e ∈ esOf ds i → (i : Int) ≤ e ∧ e < i + ds.length
  | [], _, _, h => by simp [esOf] at h
  | d :: r, i, e, h => by
    rw [esOf, List.mem_append, List.mem_replicate] at h
    rcases h with h | h
    · have := h.2
      simp only [List.length_cons]
      omega
    · have := esOf_mem h
      simp only [List.length_cons]
      omega
theorem Sto.n_cases {s : Sto} (h : s.Ok) : s.cs = [("fig" : Str)] ∨ s.cs = [("fig" : Str), "kiwi"] ∨ s.cs = [("fig" : Str), "kiwi", "plum"] := by
  have h1 := h.n1
  have h3 := h.n3
  have : s.n = 1 ∨ s.n = 2 ∨ s.n = 3 := by omega
  rcases this with e | e | e
  · exact .inl (by simp [Sto.cs, e, names3])
  · exact .inr (.inl (by simp [Sto.cs, e, names3]))
  · exact .inr (.inr (by simp [Sto.cs, e, names3]))
theorem Sto.cs_len {s : Sto} (h : s.Ok) : s.cs.length = s.n := by
  have := h.n3
  simp [Sto.cs, names3]
  omega
def lettersS : Str := "abcdefghijklmnopqrstuvwxyz"
def isWordB (z : Str) : Bool := decide ((1 : Int) ≤ z.length) && decide ((z.length : Int) ≤ 8) && z.cps.toList.all fun c => decide (c ∈ lettersS.cps.toList)
theorem word_cs {s : Sto} (h : s.Ok) : ∀ z, z ∈ s.cs → isWordB z = true := by
  intro z hz
  have : z ∈ names3 := List.mem_of_mem_take hz
  simp [names3] at this
  rcases this with rfl | rfl | rfl <;> decide +kernel
end CC
set_option maxHeartbeats 4000000
/-! CCEnum: enumerate(a tuple). -/
namespace PySem
open Sem (wp)
set_option maxHeartbeats 4000000 in
theorem cc_enumerate_newB {v : Value} {o : Obj} {H : Heap → Prop} (B : Begins v o H) :
    Meets (Builtin.«enumerate.__new__» ⟨[.type "enumerate", v], []⟩) (fun _ R s => H s.heap ∧
      R (.ok (.ret (.ref (s.heap.push o).objs.size))) { s with heap := (s.heap.push o).push { cls := .type "enumerate", data := .fields #[.none, .bool false, .ref s.heap.objs.size, rawInt 0, .none, .none] } }) :=
  .of_wp fun prog w A R s h => by
    obtain ⟨hp, g, d, tk, os⟩ := s; obtain ⟨h1, h⟩ := h
    have hsub := sub_enumerate
    have q1 : ∀ {A' : Around} {E : Value → Shared → Prop} {Q : Value → Shared → Prop}, Q (.ref hp.objs.size) ⟨hp.push o, g, d, tk, os⟩ → wpAny (model prog w) A' (pyIter v) Q E ⟨hp, g, d, tk, os⟩ :=
      fun q => B.iter prog w _ _ ⟨hp, g, d, tk, os⟩ _ h1 q
    wp_walk using q1
    refine wpAny_stack_any fun st => wpAny_pure ?_
    split
    · rename_i c _ _ _ _ _
      cases (c == Value.type "enumerate")
      · wp_walk using q1
        exact ⟨_, rfl, h⟩
      · wp_walk using q1
        exact ⟨_, rfl, h⟩
    · wp_walk using q1
      exact ⟨_, rfl, h⟩
section
variable {prog : Program} {w : World} {A : Around} {E : Value → Shared → Prop} {s : Shared}
theorem cc_enum_begins {v : Value} {o : Obj} {H : Heap → Prop} {Q : Value → Shared → Prop} (B : Begins v o H) (h1 : H s.heap)
    (h : ∀ h', IsEnum h' (s.heap.objs.size + 1) s.heap.objs.size 0 .none → h'.get? s.heap.objs.size = some o → h'.objs.size = s.heap.objs.size + 2 →
      (∀ b o, s.heap.get? b = some o → h'.get? b = some o) → Q (.ref (s.heap.objs.size + 1)) { s with heap := h' }) :
    wpAny (model prog w) A (call (.type "enumerate") [v]) Q E s := by
  refine callType_new F.called_enumerate (by decide) (F.typeCall_enumerate_1 _) (F.newCall_enumerate_1 _) (fun obj => F.args_object_init_2 obj _) F.entry_enumerate_new
    (cc_enumerate_newB B) ⟨h1, ?_⟩
  have hz : (s.heap.push o).objs.size = s.heap.objs.size + 1 := Heap.size_push ..
  show _ ∧ _
  rw [hz]
  have he : IsEnum ((s.heap.push o).push { cls := .type "enumerate", data := .fields #[.none, .bool false, .ref s.heap.objs.size, rawInt 0, .none, .none] }) (s.heap.objs.size + 1) s.heap.objs.size 0 .none := by
    have := Heap.get?_push_size (s.heap.push o) (o := { cls := .type "enumerate", data := .fields #[.none, .bool false, .ref s.heap.objs.size, rawInt 0, .none, .none] }) rfl
    rw [hz] at this; exact this
  refine ⟨⟨_, he, rfl⟩, h _ he (Heap.get?_push_of_some _ (Heap.get?_push_size _ B.free)) (by rw [Heap.size_push, hz]) fun b o x => Heap.get?_push_of_some _ (Heap.get?_push_of_some _ x)⟩
end
end PySem
namespace CC
open PySem PySem.Spec PyProof.Rows L2
/-- the tuple at a, each item in a new pair -/
def IteT (K : PySem.W.Frag) (a : Addr) : It :=
  ⟨fun i H => ∃ (xs : List V) (x : V), SqT K H a xs ∧ xs[i]? = some x, fun i H v H' => ∃ T x, v = .ref T ∧ H T = none ∧ H' = upd H T (.tup [.int (i : Nat), x]) ∧ ∀ xs, SqT K H a xs → xs[i]? = some x, fun i H => ∃ xs : List V, SqT K H a xs ∧ xs.length ≤ i⟩
theorem turn_enumT {P : Program} {w : World} {K : PySem.W.Frag} {elts : List Expr} {kk : Nat} {tpos : Pos} (a e it : Addr) (hai : a ≠ it) :
    Turn P w K (.Tuple elts kk tpos) (IteT K a) [e, it] e (fun i h => (∃ old, IsEnum h e it ((i : Nat) : Int) old) ∧ h.IsTupleIter it a i ∧ e ≠ it ∧ e ≠ a) where
  mem := by simp
  obj := fun i h st b hb => by
    obtain ⟨⟨old, he⟩, ⟨o, ho, hc, hd⟩, _⟩ := st
    have e' : b = e ∨ b = it := by simpa using hb
    rcases e' with z | z
    · rw [z]; exact ⟨_, he, fun v q => nomatch q⟩
    · rw [z]; exact ⟨o, ho, fun v q => by rw [hd] at q; cases q⟩
  keep := fun i h h' st k => let ⟨⟨old, he⟩, hi, hne⟩ := st; ⟨⟨old, k e (by simp) _ he⟩, hi.at fun o q => k it (by simp) o q, hne⟩
  item := by
    intro X hP hw hK hc i pins s σ H E I hf st hg
    subst hP hw hK
    obtain ⟨⟨old, he⟩, hit, hne, hea⟩ := st
    obtain ⟨xs, x, hq, hx⟩ := hg
    obtain ⟨its, rv, p, hz⟩ := I.tuple hq
    obtain ⟨u, hu, ru⟩ := rv.get hx
    have hel : e < s.heap.objs.size := Heap.lt_size he
    have hil : it < s.heap.objs.size := by obtain ⟨_, q, _⟩ := hit; exact Heap.lt_size q
    have D := Draws.tuple (prog := X.prog) (w := X.w) (A := X.A.in1) (I.ok.hd hc) it a hai its.toArray
    have hi : i < its.toArray.size := by
      have := (List.getElem?_eq_some_iff.mp hu).1
      simpa using this
    refine wpAny_pyNext_enum_itemC D he (⟨hit, p⟩ : s.heap.IsTupleIter it a i ∧ s.heap.IsTuple a its.toArray) hi hne (by simp [hne, hea]) fun x' h' tk hP ho hit' hT hsz hk => ?_
    have ex : x' = u := by
      have h1 : its.toArray[i]? = some u := by simpa using hu
      rw [h1] at hP
      exact (Option.some.inj hP).symm
    subst ex
    refine ⟨_, rfl, wpAny_letOwnedTupleGo_enum (s := { s with heap := h', toks := tk + 1 }) ho fun h'' he' sb => ?_⟩
    have hT2 : h''.get? s.heap.objs.size = some { cls := .type "tuple", data := .seq #[.int i tk, x'] } := (sb.2 _ (Nat.ne_of_gt hel)).trans hT
    have new : ObjOk X.prog X.w (upd H s.heap.objs.size (.tup [.int (i : Nat), x])) h'' s.heap.objs.size (.tup [.int (i : Nat), x]) :=
      ⟨by show 2 ≤ sizeLine; decide, [.int i tk, x'], .cons ⟨_, rfl⟩ (.cons ru .nil), ⟨_, hT2, rfl, _, rfl⟩⟩
    have I1 : Inv X pins σ (upd H s.heap.objs.size (.tup [.int (i : Nat), x])) { s with heap := h'', toks := tk + 1 } :=
      I.turnedNew (ch := [e, it]) (fun b ob hb q => (sb.2 b (fun z => hb (by simp [z]))).trans (hk b ob (fun z => hb (by simp [z])) (fun z => hb (by simp [z])) q)) hf (Nat.le_refl _) new
    refine ⟨.ref s.heap.objs.size, _, I1, rfl, ⟨_, x, rfl, I.hok.fresh (Nat.le_refl _), rfl, fun ys hy => by
      obtain ⟨its2, rv2, p2, _⟩ := I.tuple hy
      have : its2.toArray = its.toArray := by
        obtain ⟨o1, a1, b1, n1, c1⟩ := p
        obtain ⟨o2, a2, b2, n2, c2⟩ := p2
        rw [a1] at a2
        cases a2
        rw [c1] at c2
        cases c2
        rfl
      have e3 : its2 = its := by simpa using this
      subst e3
      rw [Vals.inj rv2 rv]
      exact hx⟩, ⟨⟨x', ?_⟩, hit'.1.at fun o q => (sb.2 it (Ne.symm hne)).trans q, hne, hea⟩, fun b hb => ?_⟩
    · have e1 : ((i + 1 : Nat) : Int) = (i : Int) + 1 := by omega
      rw [e1]; exact he'
    · have hb' : b < s.heap.objs.size := by
        have e' : b = e ∨ b = it := by simpa using hb
        rcases e' with z | z
        · rw [z]; exact hel
        · rw [z]; exact hil
      rw [upd_ne (Nat.ne_of_lt hb')]
      exact (hf b hb).1
  done := by
    intro X hP hw hK hc i pins s σ H E I hf st hg
    subst hP hw hK
    obtain ⟨⟨old, he⟩, hit, hne, hea⟩ := st
    obtain ⟨xs, hq, hx⟩ := hg
    obtain ⟨its, rv, p, hz⟩ := I.tuple hq
    obtain ⟨f0, f1, f2, f3, f4, f5⟩ := hf it (by simp)
    have hl := rv.length
    have hT : s.TypeIs (.ref e) "enumerate" := ⟨_, he, rfl⟩
    unfold pyNext
    refine wpAny_bind (wpAny_attempt (wpAny_callSpecial?_slot (name := Str.ofString "__next__") hT F.slot_enumerate_next
      (wpAny_call_entry F.slot_enumerate_next hT F.entry_enumerate_next ?_ (F.args_enumerate_next_1 _))))
    show wpAny _ _ (field (.ref e) 2 >>= _) _ _ _
    refine wpAny_bind (wpAny_field he rfl (x := .ref it) rfl ?_)
    refine wpAny_bind (RZ.nextOf_tuple_end (I.ok.hd hc) hit p (by simp; omega) fun h' x eb hx' => ?_)
    obtain ⟨o, ho, hc⟩ := hx'
    refine wpAny_bind (wpAny_isInstance (T := "StopIteration") (b := true) ⟨o, ho, hc⟩ isSubtype_stop ?_)
    exact wpAny_pure ⟨rfl, I.turned (t' := s.toks) (fun b o hb q => eb b o hb q) f0 f1 f3 f4 f5⟩
  self := fun A i s Q E st h => let ⟨⟨_, he⟩, _⟩ := st; wpAny_pyIter_enum he h
def iEnumT (K : PySem.W.Frag) (ta : TA) : TI := fun σ H R => ta σ H fun vs H1 => ∃ a xs, vs = [.ref a] ∧ SqT K H1 a xs ∧ R (IteT K a) H1
theorem pi_enumT {X : Cx} {e : Expr} {ta : TA} {p pos tpos : Pos} {elts : List Expr} {kk : Nat} (hg : Gl X "enumerate") (hm : X.mg "enumerate" = none) (ha : PA X [e] ta) (hs : starEach [e] X.env = [(false, eval e X.env)] := by rfl) :
    PI X (.Tuple elts kk tpos) (.Call (.Name "enumerate" p) [e] [] pos) (iEnumT X.K ta) := by
  refine ⟨fun pins s σ H R I h => ?_⟩
  refine Call_ (ld_blt I hg hm boot_enumerate (PyProof.Rows.callWith_type1 (thn (ha.run pos pins s σ H _ I h) fun us s1 ⟨vs, H1, I1, r1, q1⟩ => ?_) hs rfl))
  obtain ⟨a, xs, ex, hq, q⟩ := q1
  subst ex
  cases r1 with
  | cons r rr =>
    cases rr
    cases r
    obtain ⟨its, rv, p', hz⟩ := I1.tuple hq
    have hal : a < s1.heap.objs.size := by obtain ⟨_, z, _⟩ := p'; exact Heap.lt_size z
    refine cc_enum_begins (begins_tuple a its.toArray) p' fun h' he hit hsz hk => wpAny_pyIter_enum he ?_
    have I2 : Inv X pins σ H1 { s1 with heap := h' } := I1.kept (t' := s1.toks) hk
    refine ⟨s1.heap.objs.size + 1, [s1.heap.objs.size + 1, s1.heap.objs.size], _, _, H1, rfl, I2, turn_enumT a (s1.heap.objs.size + 1) s1.heap.objs.size (Nat.ne_of_lt hal), ⟨⟨.none, he⟩, ⟨_, hit, rfl, rfl⟩, Nat.succ_ne_self _, Nat.ne_of_gt (Nat.lt_succ_of_lt hal)⟩, fun b hb => ?_, q⟩
    have e' : b = s1.heap.objs.size + 1 ∨ b = s1.heap.objs.size := by simpa using hb
    have hle : s1.heap.objs.size ≤ b := by
      rcases e' with z | z
      · rw [z]; exact Nat.le_add_right _ _
      · rw [z]; exact Nat.le_refl _
    exact I1.fpOk hle (I1.hok.fresh hle)
theorem walk_enumT {K : PySem.W.Frag} {a : Addr} {xs : List V} : Walk (IteT K a) xs.length (fun H => SqT K H a xs) (YPair (fun i => some (.int (i : Nat))) (fun i => xs[i]?)) := by
  refine ⟨fun i _ hi q => ⟨xs, xs[i], q, by simp [hi]⟩, fun _ q => ⟨xs, q, Nat.le_refl _⟩, fun i H v H' _ q y => ?_⟩
  obtain ⟨T, x, h1, h2, h3, h4⟩ := y
  exact ⟨T, .int (i : Nat), x, h1, h2, h3, rfl, h4 xs q⟩
def srcEnumT (ta : TA) : TSrc2 := fun σ H R => ta σ H fun vs H1 => ∃ p xs, vs = [.ref p] ∧ tupO (H1 p) = some xs ∧ R ((xs.zipIdx).map fun q => (.int (q.2 : Nat), q.1)) (fun H => tupO (H p) = some xs) H1
theorem sr_enumT {X : Cx} {e : Expr} {ta : TA} {p pos tpos : Pos} {elts : List Expr} {kk : Nat} (hm : X.mg "enumerate" = none) (h : PA X [e] ta) (hg : Gl X "enumerate" := by rfl) (hs : starEach [e] X.env = [(false, eval e X.env)] := by rfl) : PSrc2 X (.Tuple elts kk tpos) (.Call (.Name "enumerate" p) [e] [] pos) (srcEnumT ta) := ⟨_, pi_enumT hg hm (upPA h) hs, fun σ H R S q k => ⟨_, q, fun v H1 ⟨p, xs, a, b, c⟩ => ⟨p, xs, a, sqT_of b, k _ _ _ _ (by
  have w := walk_enumT (K := X.K) (a := p) (xs := xs)
  have e : ((xs.zipIdx).map fun q => (V.int (q.2 : Nat), q.1)).length = xs.length := by simp
  rw [e]
  refine w.mono (fun H (h : tupO (H p) = some xs) => sqT_of h) fun i H x H' hi _ ⟨T, x', y', y1, y2, y3, y4, y5⟩ => ⟨T, x', y', y1, y2, y3, ?_, ?_⟩
  · cases y4
    simp [hi]
  · simp at y5
    simp [y5]) (fun H2 x => x.tupO b) c⟩⟩⟩
end CC
set_option maxHeartbeats 4000000
/-! CCRules1: len of an own class; int(true); what else the layer has not. -/
namespace CC
open PySem PySem.Spec PyProof.Rows L2
section
variable {X : Cx}
def rLenS (C : Addr) (sp : Sp) : List V → Hp → VK → Prop := fun vs H Q => ∃ a ws, vs = [.ref a] ∧ SA H a C ws ∧ sp [.ref a] H (fun v H' => ∃ n : Nat, v = .int n ∧ n < 1000000 ∧ Q (.int n) H') E0
theorem call_lenS {C g : Addr} {sp : Sp} {k j : Nat} (hm : Meth X.K C "__len__" g) (F : FnR X.prog X.w X.K X.mg X.base CX0 k g sp) (hr : Room j X.A) (hle : k + 1 ≤ j := by decide) : CallR X (.builtin "len") (rLenS C sp) := by
  intro pins s σ H xs us Q I r ⟨a, ws, e, ⟨dx, hs, hne⟩, q⟩
  subst e
  cases r with
  | cons r rr =>
    cases rr
    cases r
    obtain ⟨sl, od, r, J, _⟩ := SlX.slt_inst I hs
    obtain ⟨m, fr⟩ := I.fr
    refine PySem.W.len_K fr I.ok.mod.kin J hm.at_ hm.fn (wpAny_call ?_)
    have hr2 : Room k X.A.in1 := (hr.mono hle).in1
    refine codeAny_mono (F X.A.in1 X.stack s H [.ref a] [.ref a] _ E0 hr2 I.env0.in1 (.cons rfl .nil) q) fun r s' hq => ?_
    cases r with
    | error er => exact False.elim hq
    | ok fl =>
      cases fl with
      | ret u =>
        obtain ⟨v, H', I3, rv, n, ev, hn, q3⟩ := I.after hq
        subst ev
        obtain ⟨t, rfl⟩ := rv
        exact ⟨⟨by omega, by omega⟩, .int n, H', I3.tok _, ⟨_, rfl⟩, q3⟩
      | next => exact False.elim hq
      | brk => exact False.elim hq
      | cont => exact False.elim hq
end
end CC
set_option maxHeartbeats 4000000
/-! CCData: data that are compared. -/
namespace CC
open PySem PySem.Spec PyProof.Rows L2
theorem dpAll_map {α : Type} {K : PySem.W.Frag} {H : Hp} {f : α → V} {g : α → PyData} : ∀ {l : List α}, (∀ a, a ∈ l → Dp K H (f a) (g a)) → DpAll K H (l.map f) (l.map g)
  | [], _ => .nil
  | a :: r, h => .cons (h a List.mem_cons_self) (dpAll_map fun b hb => h b (List.mem_cons_of_mem _ hb))
def dOk (n : Nat) (d : PyData) : Prop := d.canLay0 = true ∧ d.depth ≤ n
theorem dOk_all {n : Nat} : ∀ {ds : List PyData}, (∀ d, d ∈ ds → dOk n d) → PyData.canLayAll0 ds = true ∧ PyData.depthAll ds ≤ n
  | [], _ => ⟨by simp [PyData.canLayAll0], by simp [PyData.depthAll]⟩
  | d :: r, h => by
    have h1 := h d List.mem_cons_self
    have h2 := dOk_all (ds := r) fun x hx => h x (List.mem_cons_of_mem _ hx)
    refine ⟨by simp [PyData.canLayAll0, h1.1, h2.1], ?_⟩
    have := h1.2
    have := h2.2
    simp only [PyData.depthAll]
    omega
theorem dOk.tup {n : Nat} {ds : List PyData} (h : ∀ d, d ∈ ds → dOk n d) : dOk (n + 1) (.tuple ds) := ⟨by simp only [PyData.canLay0]; exact (dOk_all h).1, by simp only [PyData.depth]; exact Nat.succ_le_succ (dOk_all h).2⟩
theorem dOk.lst {n : Nat} {ds : List PyData} (h : ∀ d, d ∈ ds → dOk n d) : dOk (n + 1) (.list ds) := ⟨by simp only [PyData.canLay0]; exact (dOk_all h).1, by simp only [PyData.depth]; exact Nat.succ_le_succ (dOk_all h).2⟩
theorem dOk.int {n : Nat} {i : Int} : dOk n (.int i) := ⟨by simp only [PyData.canLay0], by simp only [PyData.depth]; omega⟩
theorem dOk.bool {n : Nat} {i : Bool} : dOk n (.bool i) := ⟨by simp only [PyData.canLay0], by simp only [PyData.depth]; omega⟩
theorem dOk.none {n : Nat} : dOk n .none := ⟨by simp only [PyData.canLay0], by simp only [PyData.depth]; omega⟩
theorem dOk.str {n : Nat} {z : Str} (h : PyData.strOk z = true) : dOk n (.str z) := ⟨by simp only [PyData.canLay0]; exact h, by simp only [PyData.depth]; omega⟩
theorem dOk.mono {n m : Nat} {d : PyData} (h : dOk n d) (l : n ≤ m) : dOk m d := ⟨h.1, Nat.le_trans h.2 l⟩
theorem dOk.shaped {n : Nat} {d : PyData} (h : dOk n d) (l : n ≤ 64) : SeqAt.shaped d = true := by
  have := h.2
  simp only [SeqAt.shaped, h.1, Bool.true_and, decide_eq_true_eq]
  omega
mutual
theorem eqv_self : ∀ d : PyData, d.canLay0 = true → PyData.eqv d d = true
  | .none, _ => by simp [PyData.eqv]
  | .bool _, _ => by simp [PyData.eqv]
  | .int _, _ => by simp [PyData.eqv]
  | .str _, _ => by simp [PyData.eqv]
  | .list xs, h => by
    simp only [PyData.eqv]
    exact eqv_selfAll xs (by simpa [PyData.canLay0] using h)
  | .tuple xs, h => by
    simp only [PyData.eqv]
    exact eqv_selfAll xs (by simpa [PyData.canLay0] using h)
  | .dict _, h => by simp [PyData.canLay0] at h
theorem eqv_selfAll : ∀ d : List PyData, PyData.canLayAll0 d = true → PyData.eqvAll d d = true
  | [], _ => by simp [PyData.eqvAll]
  | x :: r, h => by
    simp only [PyData.canLayAll0, Bool.and_eq_true] at h
    simp only [PyData.eqvAll, eqv_self x h.1, eqv_selfAll r h.2, Bool.and_self]
end
def layD : Option Str → PyData
  | none => .none
  | some z => .str z
theorem Dp.lay {K : PySem.W.Frag} {H : Hp} {a : Addr} {l : Lay} (h : LayAt H a l) : Dp K H (.ref a) (.tuple (l.map layD)) := .tup (sqT_of h) (dpAll_map fun x _ => by cases x <;> constructor)
theorem names_ok {z : Str} (h : z ∈ names3) : PyData.strOk z = true := by
  simp [names3] at h
  rcases h with rfl | rfl | rfl <;> decide +kernel
/-- all names of the layout are names -/
def LayN (l : Lay) : Prop := ∀ z, some z ∈ l → z ∈ names3
theorem LayN.dOk {l : Lay} (h : LayN l) : dOk 1 (.tuple (l.map layD)) := dOk.tup fun d hd => by
  obtain ⟨x, hx, rfl⟩ := List.mem_map.mp hd
  cases x with
  | none => exact dOk.none
  | some z => exact dOk.str (names_ok (h z hx))
end CC
set_option maxHeartbeats 4000000
/-! CCTup: tuples that are known to have no dict; their index. -/
namespace CC
open PySem PySem.Spec PyProof.Rows L2
section
variable {X : Cx}
/-- a new tuple of the model, tracked with its object -/
theorem frz_ok {H : Hp} {h : Heap} {a : Addr} {xs : List V} {us : List Value} (hz : xs.length ≤ sizeLine) (r : Vals xs us) (hg : h.get? a = some { cls := .type "tuple", data := .seq us.toArray }) :
    ObjOk X.prog X.w (upd H a (.frz { cls := .type "tuple", data := .seq us.toArray } (.tup xs))) h a (.frz { cls := .type "tuple", data := .seq us.toArray } (.tup xs)) :=
  ⟨hg, hz, us, r, _, hg, rfl, _, rfl⟩
def rTupX : List V → Hp → VK → Prop := fun vs H Q => ∃ p xs, vs = [.ref p] ∧ lstO (H p) = some xs ∧ ∀ l o, H l = none → o.dict = none → Q (.ref l) (upd H l (.frz o (.tup xs)))
theorem call_tupleX : CallR X (.type "tuple") rTupX := by
  intro pins s σ H xs us Q I r h
  obtain ⟨p, ys, rfl, hq, q⟩ := h
  rw [Vals.ref1 r]
  obtain ⟨its, r', pl, hz⟩ := I.list (.of (of_lstO hq))
  have hlen := r'.length
  refine call_tuple_list pl.isList (fun h' kp => ?_) (by simp only [List.size_toArray] <;> omega)
  have I1 : Inv X pins σ H { s with heap := h' } := I.kept (t' := s.toks) kp
  have I2 : Inv X pins σ (upd H h'.objs.size (.frz { cls := .type "tuple", data := .seq its.toArray } (.tup ys))) { s with heap := h'.push { cls := .type "tuple", data := .seq its.toArray } } :=
    I1.laid (t' := s.toks) (fun b o e => Heap.get?_push_of_some _ e) (Nat.le_refl _) (frz_ok hz r' (Heap.get?_push_size _ rfl))
  exact ⟨.ref h'.objs.size, _, I2, rfl, q _ _ (I1.hok.fresh (Nat.le_refl _)) rfl⟩
/-- (a, ..), tracked with its object -/
def tTupX (t : TA) : TE := fun σ H Q => t σ H fun xs H1 => xs.length ≤ 16777216 ∧ ∀ p o, H1 p = none → o.dict = none → Q (.ref p) (upd H1 p (.frz o (.tup xs)))
theorem pe_tupX {es : List Expr} {t : TA} {pos : Pos} {x1} (h : PA X es t) : PE X (.Tuple es x1 pos) (tTupX t) := by
  refine ⟨fun pins s σ H Q I hq => ?_⟩
  refine wpAny_Tuple_spliced (thn (h.run pos pins s σ H _ I hq) fun us s1 ⟨xs, H1, I1, r, z, q⟩ => ⟨by rw [← r.length, sizeLine_eq]; exact z, ?_⟩)
  have hf : H1 s1.heap.objs.size = none := I1.hok.fresh (Nat.le_refl _)
  exact ⟨.ref s1.heap.objs.size, _, I1.laid (t' := s1.toks) (fun b u e => Heap.get?_push_of_some _ e) (Nat.le_refl _) (frz_ok (by rw [sizeLine_eq]; exact z) r (Heap.get?_push_size _ rfl)), rfl, q _ _ hf rfl⟩
/-- t + u, u not empty and known to have no dict -/
def rCatX : R2 := fun x y H Q => ∃ a b xs ys, x = .ref a ∧ y = .ref b ∧ tupO (H a) = some xs ∧ TupX H b ys ∧ ys ≠ [] ∧ xs.length + ys.length ≤ 16777216 ∧ ∀ p H', Ext H H' → TupX H' p (xs ++ ys) → Q (.ref p) H'
theorem op_catX : OpR X (binaryOp .Add) rCatX := by
  intro pins s σ H x y v u Q I rx ry h
  obtain ⟨a, b, xs, ys, rfl, rfl, ha, hb, hy, hz, q⟩ := h
  cases rx
  cases ry
  obtain ⟨its, r1, p1, _⟩ := I.tuple (sqT_of ha)
  obtain ⟨its2, r2, p2, _⟩ := I.tuple (sqT_of hb.tO)
  by_cases hx : xs = []
  · subst hx
    cases r1
    exact cat_tup0 p1 p2 ⟨.ref b, H, I, rfl, q b H (.refl H) hb⟩
  · refine HT.cat_tup p1 p2 (fun z => hx (r1.nil_iff.mp z)) (fun z => absurd (r2.nil_iff.mp z) hy) (fun z => ?_) (by rw [← r1.length, ← r2.length, sizeLine_eq]; exact hz)
    have hn := I.hok.fresh (Nat.le_refl s.heap.objs.size)
    have hlen : (xs ++ ys).length ≤ sizeLine := by rw [List.length_append, sizeLine_eq]; exact hz
    exact ⟨.ref s.heap.objs.size, _, I.laid (t' := s.toks) (fun b ob q => Heap.get?_push_of_some _ q) (Nat.le_refl _) (frz_ok hlen (r1.append r2) (Heap.get?_push_size _ rfl)), rfl, q _ _ (.new hn) ⟨_, upd_same, rfl⟩⟩
/-- the first place of z -/
def tTix (to te : TE) : TE := fun σ H Q => to σ H fun x H1 => ∃ a l, x = .ref a ∧ LayX H1 a l ∧ te σ H1 fun y H2 => ∃ z j, y = .str z ∧ LayX H2 a l ∧ l[j]? = some (some z) ∧ (∀ m, m < j → l[m]? ≠ some (some z)) ∧ Q (.int (j : Nat)) H2
theorem tix_call {pins : List (Addr × Obj)} {s : Shared} {σ : L2.St} {H : Hp} {a : Addr} {l : Lay} {z : Str} {t : Tok} {j : Nat} {Q : VK} (I : Inv X pins σ H s) (hl : LayX H a l) (hj : l[j]? = some (some z)) (hno : ∀ m, m < j → l[m]? ≠ some (some z)) (q : Q (.int (j : Nat)) H) :
    wpAny (model X.prog X.w) X.A (call (.builtin "tuple.index") [.ref a, .str z t]) (EP X pins σ Q) X.xe s := by
  obtain ⟨its, r, pl, hz⟩ := I.tuple (sqT_of hl.tO)
  obtain ⟨⟨cls, dd, dt, sl⟩, ho, hc, n, hd⟩ := pl
  simp only at hc hd
  subst hc
  subst hd
  have hlen : its.toArray.size = l.length := by rw [List.size_toArray, ← r.length, List.length_map]
  have hjl : j < its.toArray.size := by rw [hlen]; exact (List.getElem?_eq_some_iff.mp hj).1
  have fl : (l.map layV).all flatV = true := by
    rw [List.all_map]
    exact List.all_eq_true.mpr fun x _ => by cases x <;> rfl
  have at' : ∀ (m : Nat) (hm : m < its.toArray.size), ∃ y, l[m]? = some y ∧ eqU (.str z) its.toArray[m] = eqV (layV y) (.str z) := fun m hm => by
    have hm' : m < l.length := by rw [← hlen]; exact hm
    obtain ⟨u, hu, ru⟩ := r.get (i := m) (x := layV l[m]) (by simp [hm'])
    refine ⟨l[m], List.getElem?_eq_getElem hm', ?_⟩
    have e := (List.getElem?_eq_some_iff.mp hu).2
    have e2 : its.toArray[m] = u := by rw [← e]; simp
    rw [e2]
    exact eqU_of ru (by cases l[m] <;> rfl)
  refine call_meets PySem.F.slot_tuple_index ⟨_, ho, rfl⟩ PySem.F.entry_tuple_index (PySem.F.args_tuple_index_2 _ _) (TI.tuple_indexAt a its.toArray n dd sl (.str z t) (eqU (.str z)) j hjl ?_ ?_)
    ⟨ho, fun w hw => mem_eqAt (x := .str z) ⟨t, rfl⟩ rfl r fl w (by simpa using hw), ⟨.int (j : Nat), H, I.tok _, ⟨_, rfl⟩, q⟩⟩
  · obtain ⟨y, h1, h2⟩ := at' j hjl
    rw [hj] at h1
    cases h1
    rw [h2]
    show (z == z) = true
    exact beq_self_eq_true z
  · intro m hm hmj
    obtain ⟨y, h1, h2⟩ := at' m hm
    rw [h2]
    cases y with
    | none => rfl
    | some y =>
      show (y == z) = false
      exact beq_eq_false_iff_ne.mpr fun e => hno m hmj (e ▸ h1)
theorem pe_tix {o e : Expr} {to te : TE} {apos cpos : Pos} (ho : PE X o to) (he : PE X e te)
    (hbase : attributeBase o "index" X.env (eval o X.env) = eval o X.env := by rfl)
    (hfew : ((backTo cpos (starEach [e] X.env)).all (fun x => !x.1) && (backToKw cpos (keywordEach [] X.env)).all (fun x => x.1.isSome)
      && decide (([e] : List Expr).length + ([] : List Keyword).length + (if ([] : List Keyword).isEmpty then 0 else 1) < 30)) = true := by rfl)
    (hline : (apos.endLine == cpos.line) = true := by rfl) (hs : starEach [e] X.env = (false, eval e X.env) :: starEach [] X.env := by rfl) (hplain : (backTo cpos (starEach [] X.env)).any (·.1) = false := by rfl) :
    PE X (.Call (.Attribute o "index" apos) [e] [] cpos) (tTix to te) := by
  refine ⟨fun pins s σ H Q I h => ?_⟩
  refine wpAny_Call_method_late hbase hfew hline rfl (thn (ho.run pins s σ H _ I h) fun v s1 ⟨x, H1, I1, r1, a, l, ex, hl, q1⟩ => ?_)
  subst ex
  cases r1
  obtain ⟨ob, hob, hd⟩ := id hl
  have hget : s1.heap.get? a = some ob := (I1.hok a _ hob).1
  have hT : s1.TypeIs (.ref a) "tuple" := by
    obtain ⟨its, _, ⟨o2, ho2, hc2, _⟩, _⟩ := I1.tuple (sqT_of hl.tO)
    exact ⟨o2, ho2, hc2⟩
  refine ⟨"tuple", "tuple.index", PySem.F.plainAttrs_tuple, PySem.F.slot_tuple_index, PySem.F.type_tuple_index, hT, fun b e => by cases e; exact ⟨ob, hget, hd⟩, ?_⟩
  have ha : PA X [e] (tCons (up te) tNil) := pa_cons (upPE he) pa_nil (hs := hs)
  have q2 : (tCons (up te) tNil) σ H1 fun vs H2 => ∃ z j, vs = [.str z] ∧ LayX H2 a l ∧ l[j]? = some (some z) ∧ (∀ m, m < j → l[m]? ≠ some (some z)) ∧ Q (.int (j : Nat)) H2 := by
    exact ⟨_, q1, fun y H2 ⟨z, j, e, a1, a2, a3, a4⟩ => ⟨z, j, by rw [e], a1, a2, a3, a4⟩⟩
  have hA := ha.run cpos pins s1 σ H1 _ I1 q2
  rw [hs] at hA ⊢
  refine Calls.callWith_builtin (by show (false || (backTo cpos (starEach [] X.env)).any (·.1)) = false; rw [hplain] <;> rfl) (Calls.evalArgs_plain ?_)
  exact thn hA fun us s2 ⟨vs, H2, I2, r2, z, j, e2, hl2, hj, hno, q3⟩ => by
    subst e2
    obtain ⟨u, rfl, t, rfl⟩ := Vals.one r2
    exact tix_call I2 hl2 hj hno q3
end
end CC
set_option maxHeartbeats 4000000
/-! CCDor: dict | dict. -/
namespace PySem
open Sem (wp)
section
variable {prog : Program} {w : World} {K : Type} [DecidableEq K] {knd : KeyKind prog w K} {A : Around} {E : Value → Shared → Prop} {s : Shared}
theorem cc_copyOf {id0 : String} {d : Addr} {kvs : List (K × Value)} {Q : Value → Shared → Prop} (hd : (d == sysModules) = false) (hm : s.heap.DictOf knd d kvs) (hsz : kvs.length ≤ sizeLine)
    (h : ∀ h', h'.DictOf knd s.heap.objs.size kvs → (∀ b o, s.heap.get? b = some o → h'.get? b = some o) → Q (.ref s.heap.objs.size) { s with heap := h' }) :
    wpAny (model prog w) A (Builtin.Dict.copyOf id0 (.ref d)) Q E s := by
  obtain ⟨o, es, ep, ho, hc, hdat, hk, hp, hn⟩ := id hm
  have hes : es.size ≤ sizeLine + 1 := by
    have e1 := hp.length; have e2 : es.toList.length = es.size := by simp
    omega
  unfold Builtin.Dict.copyOf
  refine wpAny_bind (wpAny_pure ?_)
  unfold Builtin.Dict.showsAll
  rw [if_neg (by rw [hd]; exact Bool.false_ne_true)]
  refine wpAny_bind (wpAny_pure ?_)
  refine wpAny_bind (wpAny_dictEntries ho hdat ?_)
  by_cases hemp : es.isEmpty = true
  · rw [if_pos hemp]
    have e0 : es = #[] := Array.isEmpty_iff.mp hemp
    subst e0
    refine wpAny_bind (wpAny_rule (wpAny_newObj_type ?_))
    exact (h (s.heap.push { cls := .type "dict", data := .dict #[] }) ⟨{ cls := .type "dict", data := .dict #[] }, #[], 0, Heap.get?_push_size _ rfl, ⟨rfl, rfl, rfl⟩, rfl, hk, hp, hn⟩ fun b o' e => Heap.get?_push_of_some _ e)
  · rw [if_neg hemp]
    refine wpAny_bind ?_
    unfold Builtin.Dict.readDirectly
    refine wpAny_bind (wpAny_isInstance hm.typeIs isSubtype_dict_dict ?_)
    simp only [Bool.not_true, Bool.false_eq_true, if_false]
    refine wpAny_bind (wpAny_specialOf hm.typeIs F.slot_dict_iter.lookup (wpAny_pure ?_))
    simp only [beq_self_eq_true, if_true]
    refine wpAny_bind (wpAny_entriesForEmpty (knd := knd) ho hdat hk (wpAny_newObj_type ?_ hes))
    exact (h (s.heap.push { cls := .type "dict", data := .dict es }) ⟨{ cls := .type "dict", data := .dict es }, es, 0, Heap.get?_push_size _ rfl, ⟨rfl, rfl, rfl⟩, rfl, hk, hp, hn⟩ fun b o' e => Heap.get?_push_of_some _ e)
theorem cc_updateFrom {id0 : String} {d o : Addr} {kvs more : List (K × Value)} {v : Value} {Q : Fin → Shared → Prop} (hdo : d ≠ o) (hoS : (o == sysModules) = false) (hd : s.heap.DictOf knd d kvs) (ho : s.heap.DictOf knd o more) (hsz : kvs.length + more.length ≤ sizeLine)
    (h : ∀ h', h'.DictOf knd d (merged kvs more) → Heap.SameBut d s.heap h' → Q (.done (.ret v)) { s with heap := h' }) :
    wpAny (model prog w) A (Builtin.Dict.updateFrom id0 d (.ref o) [] v) Q E s := by
  unfold Builtin.Dict.updateFrom
  refine wpAny_bind (wpAny_typeOf ho.typeIs ?_)
  rw [if_neg (by decide)]
  refine wpAny_bind ?_
  unfold Builtin.Dict.merge
  refine wpAny_bind ?_
  unfold Builtin.Dict.readDirectly
  refine wpAny_bind (wpAny_isInstance ho.typeIs isSubtype_dict_dict ?_)
  simp only [Bool.not_true, Bool.false_eq_true, if_false]
  refine wpAny_bind (wpAny_specialOf ho.typeIs F.slot_dict_iter.lookup (wpAny_pure ?_))
  simp only [beq_self_eq_true, if_true]
  refine wpAny_bind (wpAny_pure ?_)
  refine wpAny_mergeDict (hsz := hsz) hdo hoS hd ho fun h' hd' ho' hs' => ?_
  show wpAny _ _ (Builtin.Dict.addKeywords d [] >>= _) _ _ _
  exact wpAny_bind (wpAny_pure (wpAny_pure (h h' hd' hs')))
theorem cc_dict_or (knd : KeyKind prog w K) (a b : Addr) (ha : (a == sysModules) = false) (hb : (b == sysModules) = false) :
    MeetsIn prog w (Builtin.«dict.__or__» ⟨[.ref a, .ref b], []⟩) (fun _ R s => ∃ kvs more, s.heap.DictOf knd a kvs ∧ s.heap.DictOf knd b more ∧ kvs.length + more.length ≤ sizeLine ∧
      ∀ h', h'.DictOf knd s.heap.objs.size (merged kvs more) → (∀ b o, s.heap.get? b = some o → h'.get? b = some o) → R (.ok (.ret (.ref s.heap.objs.size))) { s with heap := h' }) :=
  .of_wp fun A R s ⟨kvs, more, h1, h2, hsz, h⟩ => by
    unfold Builtin.«dict.__or__»
    refine wpAny_bind (m := Builtin.Dict.dictSlotArgs "__or__" _) ?_
    unfold Builtin.Dict.dictSlotArgs
    refine wpAny_bind (m := Builtin.Dict.notOrdered "__or__" _) (wpAny_pure ?_)
    refine wpAny_bind (wpAny_pure ?_)
    refine wpAny_pure ?_
    show wpAny (model prog w) A.in1 (do
      if !(← isInstance (Value.ref a) (.type "dict") <&&> isInstance (Value.ref b) (.type "dict")) then rule "dict.__or__.not-a-dict"; return ← ret .notImplemented
      let new ← Builtin.Dict.copyOf "dict.__or__" (Value.ref a)
      holding [new] (Builtin.Dict.updateFrom "dict.__or__" (← Builtin.Dict.addrOf new) (Value.ref b) [] new)) _ _ _
    refine wpAny_bind (wpAny_bind (wpAny_isInstance h1.typeIs isSubtype_dict_dict ?_))
    show wpAny _ _ (isInstance (Value.ref b) (.type "dict")) _ _ _
    refine wpAny_isInstance h2.typeIs isSubtype_dict_dict ?_
    simp only [Bool.not_true, Bool.false_eq_true, if_false]
    refine wpAny_bind (cc_copyOf ha h1 (by omega) fun h' d' k => ?_)
    refine wpAny_bind (wpAny_pure ?_)
    obtain ⟨ob, esb, epb, hob, rb⟩ := id h2
    have hlt : b < s.heap.objs.size := Heap.lt_size hob
    refine wpAny_holding (cc_updateFrom (knd := knd) (Nat.ne_of_gt hlt) hb d' ⟨ob, esb, epb, k _ _ hob, rb⟩ hsz fun h'' d'' sb => ⟨_, rfl, h h'' d'' fun c o e => ?_⟩)
    exact (sb.2 c (Nat.ne_of_lt (Heap.lt_size e))).trans (k c o e)
end
end PySem
namespace CC
open PySem PySem.Spec PyProof.Rows L2
section
variable {X : Cx}
/-- d | e: the keys of d, then the new ones of e -/
def rDor : R2 := fun x y H Q => ∃ a b kvs more, x = .ref a ∧ y = .ref b ∧ dKO (H a) = some kvs ∧ dKO (H b) = some more ∧ kvs.length + more.length ≤ 16777216 ∧ ∀ p, H p = none → Q (.ref p) (upd H p (.dK (mergeK kvs more)))
theorem op_dor : OpR X (binaryOp .BitOr) rDor := by
  intro pins s σ H x y v u Q I rx ry ⟨a, b, kvs, more, ex, ey, ha, hb, hz, q⟩
  subst ex ey
  cases rx
  cases ry
  obtain ⟨z1, h1, vs, r1, d1⟩ := dk_of I.hok (of_dKO ha)
  obtain ⟨z2, h2, ws, r2, d2⟩ := dk_of I.hok (of_dKO hb)
  have hn := I.hok.fresh (Nat.le_refl s.heap.objs.size)
  refine wpAny_binaryOp_same (T := "dict") d1.typeIs d2.typeIs PySem.F.fills_dict_or PySem.F.slot_dict_or ?_
  refine call_meetsIn PySem.F.slot_dict_or d1.typeIs PySem.F.entry_dict_or (PySem.F.args_dict_or_2 _ _) (cc_dict_or (mixKind X.prog X.w) a b h1 h2) ⟨vs, ws, d1, d2, ?_, fun h' d' k => ⟨(nomatch ·), .ref _, _, I.laid (t' := s.toks) k (Nat.le_refl _) ?_, rfl, q _ hn⟩⟩
  · rw [← r1.length, ← r2.length, sizeLine_eq]
    exact hz
  · have hl : (mergeK kvs more).length ≤ sizeLine := by
      have := length_mergeK more kvs
      rw [sizeLine_eq]
      omega
    exact ⟨hl, beq_eq_false_iff_ne.mpr (Ne.symm (Nat.ne_of_lt I.big)), _, r2.merge r1, d'⟩
end
end CC
namespace CC
open PySem PySem.Spec PyProof.Rows L2
section
variable {X : Cx}
/-- t == () , whatever t holds -/
def rEq0 : R2 := fun x y H Q => ∃ a b xs, x = .ref a ∧ y = .ref b ∧ tupO (H a) = some xs ∧ tupO (H b) = some [] ∧ Q (.bl (decide (xs = []))) H
theorem op_eq0 (hu : X.A.units + 1 < cLine) : OpR X (compareOp .Eq) rEq0 := by
  intro pins s σ H x y v u Q I rx ry ⟨a, b, xs, ex, ey, ha, hb, q⟩
  subst ex ey
  cases rx
  cases ry
  obtain ⟨its, r1, p1, _⟩ := I.tuple (sqT_of ha)
  obtain ⟨its2, r2, p2, _⟩ := I.tuple (sqT_of hb)
  cases r2
  refine SeqAt.eq_tupleAt (e := fun _ => true) p1 p2 (by omega) (fun j h1 h2 => by simp at h2) ⟨.bl (decide (xs = [])), H, I, ?_, q⟩
  have hl := r1.length
  show Value.bool _ = Value.bool _
  cases xs with
  | nil =>
    have : its = [] := List.length_eq_zero_iff.mp hl.symm
    subst this
    rfl
  | cons x r =>
    cases its with
    | nil => simp at hl
    | cons y t => simp
end
end CC
set_option maxHeartbeats 4000000
/-! CCWith: with an own manager whose suite may raise; a comprehension whose element raises. -/
namespace CC
open PySem PySem.Spec PyProof.Rows L2 L2H
/-! ### an exception goes on its way -/
section
variable {X : Cx} {pins : List (Addr × Obj)} {σ : L2.St} {H : Hp} {s6 : Shared} {Wout : WX}
theorem pass_tail {α : Type} {what : String} {env : Env} {a T : Addr} {cls : Value} {d : Option Addr} {oe oT : Obj} {vs ts : Array Value} {fl : Value} {Q : α → Shared → Prop} (hs : X.stack = X.env :: X.outer) (hf : X.env.frame = some X.env.locals) (hfe : env.frame = X.env.frame) (tk : Takes X Wout)
    (J6 : Inv X pins σ H s6) (ga : s6.heap.get? a = some oe) (hz : Zc cls d oe) (hd : oe.data = .fields vs) (hv1 : vs[1]? = some (.ref T)) (hTe : T ≠ a) (gT : s6.heap.get? T = some oT) (hdT : oT.data = .fields ts) (ht3 : ts[3]? = some fl) (na6 : H a = none) (nT6 : H T = none)
    (far0 : ∀ b o, X.s_0.heap.get? b = some o → b ≠ a ∧ b ≠ T) (farP : ∀ p ∈ X.pn ++ pins, p.1 ≠ a ∧ p.1 ≠ T) (q6 : Wout cls d σ H) : wpAny (model X.prog X.w) X.A (passOn what (.ref a) env : Sem α) Q X.xe s6 := by
  obtain ⟨G, g1, g2⟩ := restrict s6.heap fun b => !(decide (b = a) || decide (b = T))
  have gIn : ∀ b o, G.get? b = some o → s6.heap.get? b = some o ∧ b ≠ a ∧ b ≠ T := fun b o e => by
    cases q : (!(decide (b = a) || decide (b = T))) with
    | false => rw [g2 b q] at e; cases e
    | true =>
      rw [g1 b q] at e
      simp only [Bool.not_eq_true', Bool.or_eq_false_iff, decide_eq_false_iff_not] at q
      exact ⟨e, q.1, q.2⟩
  have gOf : ∀ b o, b ≠ a → b ≠ T → s6.heap.get? b = some o → G.get? b = some o := fun b o h1 h2 e => by
    rw [g1 b (by simp [h1, h2])]
    exact e
  have I6 : Inv X pins σ H { s6 with heap := G } := J6.less (fun b o e => (gIn b o e).1) gOf ⟨oe, vs, ga, hd⟩ ⟨oT, ts, gT, hdT⟩ na6 nT6 far0 farP
  have B6in : ∀ b o, (PySem.W.hideAll G (frs X.stack)).get? b = some o → s6.heap.get? b = some o := fun b o e => (gIn b o (PySem.W.of_hideAll _ e)).1
  have Bno : ∀ b, (b = a ∨ b = T) → (PySem.W.hideAll G (frs X.stack)).get? b = none := fun b hb => by
    cases q : (PySem.W.hideAll G (frs X.stack)).get? b with
    | none => rfl
    | some o =>
      obtain ⟨_, n1, n2⟩ := gIn b o (PySem.W.of_hideAll _ q)
      rcases hb with z | z
      · exact absurd z n1
      · exact absurd z n2
  have tr : HandSPX.TracedZ s6.heap (PySem.W.hideAll G (frs X.stack)) a (Zc cls d) fl := ⟨oe, vs, T, oT, ts, ga, hz, hd, hv1, Bno T (.inr rfl), hTe, gT, hdT, ht3⟩
  have ff := funFrames_none (B := PySem.W.hideAll G (frs X.stack)) J6.stack fun b hb => PySem.W.hideAll_none _ hb
  unfold PySem.passOn
  refine wpAny_bind (wpAny_field ga hd hv1 ?_)
  rw [if_neg (show ¬ ((Value.ref T == Value.none) = true) from by simp)]
  have goOn : wpAny (model X.prog X.w) X.A (setFlight (.ref a) env.frame) (fun _ s7 => wpAny (model X.prog X.w) X.A (throw (.ref a) : Sem α) Q X.xe s7) X.xe s6 := by
    rw [hfe, hf]
    refine HandSPX.setFlight_anyZ (l := X.stack) B6in ff tr fun h7 k1 k2 k3 up7 => wpAny_throw (tk _ _ ?_)
    refine ⟨a, PySem.W.hideAll G (frs X.stack), { s6 with heap := G }, pins, σ, H, cls, d, rfl, I6, fun b o e hb => PySem.W.hideAll_get _ e hb, ?_, .inr (.inr ⟨k1, Bno a (.inl rfl), k2, k3⟩), na6, rfl, J6.bare, q6⟩
    exact Heap.UpToSlots.trans (Heap.UpToSlots.of_keeps fun b o e => (gIn b o e).1) up7
  first
    | exact wpAny_bind (wpAny_pure (wpAny_bind goOn))
    | exact wpAny_bind goOn
end
/-! ### a def that is called while an exception is handled, and raises nothing -/
structure FnHot (P : Program) (w : World) (K : PySem.W.Frag) (mg : Str → Option Value) (base : Heap) (k : Nat) (f : Addr) (fd : FuncData) (ps : List Str) (sp : Sp) : Prop where
  len : ∀ vs H Q E, sp vs H Q E → vs.length = ps.length
  run : ∀ (A : Around) (outer : List Env) (s : Shared) (H : Hp) (args : Args) (us : List Value) (vs : List V) (Q : VK) (p : Addr × Obj), RoomH k A → PinOk outer H s p → Env0 P w K mg base A outer s H → BindsTo s fd args (ps.zip us) → Vals vs us → sp vs H Q E0 →
    codeAny (model P w) A (.call (.ref f) args) (CR CX0 outer P w H s Q E0) s
theorem fn_ofHot {P : Program} {w : World} {K : PySem.W.Frag} {mg : Str → Option Value} {base : Heap} {k : Nat} {f : Addr} {name qual : Str} {params : Arguments} {body : List Stmt} {scope : Scope} {dV kV doc pm cdv ct oc : Value} {an od : Option Addr}
    {osl : Array (Option Value)} {N ps : List Str} {sp : Sp} (lk : K.lookup f = some ⟨oc, od, .func (PySem.W.fnOf name qual params body scope dV kV doc pm an cdv ct), osl⟩) (hcd : PySem.W.codeIn K cdv qual = true) (S : FnScope N ps scope)
    (len : ∀ vs H Q E, sp vs H Q E → vs.length = ps.length)
    (hbody : ∀ (A : Around) (outer : List Env) (s : Shared) (H : Hp) (vs : List V) (Q : VK) (p : Addr × Obj), RoomH k (A.deeper (envOfC qual scope s.heap.objs.size f cdv)) → sp vs H Q E0 →
      ∃ t, PSs (cxH CX0 P w K mg base N qual scope f cdv A outer s H E0 p) body t ∧ t { nx := fun _ H' => Q .non H', rt := Q } (L2.start N vs) H) :
    FnHot P w K mg base (k + 1) f (PySem.W.fnOf name qual params body scope dV kV doc pm an cdv ct) ps sp := by
  refine ⟨len, fun A outer s H args us vs Q p hr hpin e0 hb r hsp => ?_⟩
  have hl := len _ _ _ _ hsp
  have KX : K.In s.heap := e0.mod.kin.keeps fun b o e => (e0.bs b o e).1
  have lim : s.heap.NoLimit := e0.mod.nolimit.keeps fun b o e => (e0.bs b o e).1
  have hkind : ∀ y ∈ ps.zip us, scope.names.lookup y.1 = some .local ∨ (scope.names.lookup y.1 = some .cell ∧ ((cellsFrom (s.heap.objs.size + 1) scope.names []).lookup y.1).isSome = true) := fun ⟨n, v⟩ hy => by
    rcases S.par n (List.of_mem_zip hy).1 with q | q
    · exact .inl q
    · exact .inr ⟨q, PySem.W.cellsFrom_some _ _ _ (.inl q)⟩
  refine codeAny_call_function hr.depth (KX _ _ lk) rfl S.co S.gen rfl (PySem.W.codeRec_of KX hcd) (hb _ _ _ _ ?_)
  refine wpAny_newFunctionEnv_cells S.kind hkind fun env he s1 x => ?_
  subst he
  refine ⟨lim.keeps x.toInCall.keep, codeAny_func ?_⟩
  obtain ⟨t, ht, hq⟩ := hbody A outer s H vs Q p (hr.deeper _) hsp
  have I : Inv (cxH CX0 P w K mg base N qual scope f cdv A outer s H E0 p) [] (L2.start N vs) H s1 := inv_startH S hpin e0 hl r x
  refine wpAny_mono (ht.run [] s1 (L2.start N vs) H _ I hq) (fun fl s' hs => ?_) fun e s' hs => hs
  have fin : ∀ {σ' : L2.St} {H' : Hp} {v : V} {u : Value}, Inv (cxH CX0 P w K mg base N qual scope f cdv A outer s H E0 p) [] σ' H' s' → RelV v u → Q v H' → CE outer P w H s Q u s' :=
    fun {σ' H' v u} J rv q => ⟨v, H', J.os, J.bare, J.base, J.hok, rv, q⟩
  cases fl with
  | ret u =>
    obtain ⟨v, σ', H', J, rv, q⟩ := hs
    exact fin J rv q
  | next =>
    obtain ⟨σ', H', J, q⟩ := hs
    exact fin (v := V.non) (u := Value.none) J rfl q
  | brk =>
    obtain ⟨_, _, _, q⟩ := hs
    exact False.elim q
  | cont =>
    obtain ⟨_, _, _, q⟩ := hs
    exact False.elim q
def OkHot (P : Program) (w : World) (K : PySem.W.Frag) (mg : Str → Option Value) (base : Heap) (k : Nat) (f : Addr) (ps : List Str) (sp : Sp) : Prop := ∃ fd, FnHot P w K mg base k f fd ps sp ∧ Binds K fd ps []
theorem mkHot {P : Program} {w : World} {K : PySem.W.Frag} {mg : Str → Option Value} {base : Heap} {x qual : Str} {st : Stmt} {f : Addr} {N ps : List Str} {k : Nat} {sp : Sp} (D : ∃ fd, Fun K x qual st f fd) (S : FnScope N ps (defScope st))
    (bd : ∀ (kV doc pm : Value) (an : Option Addr) (cdv ct : Value) (us : List Value), us.length = ps.length → bindArgs (PySem.W.fnOf x qual (defArgs st) (defBody st) (defScope st) .none kV doc pm an cdv ct) ⟨us, []⟩ = pure (ps.zip us))
    (len : ∀ vs H Q E, sp vs H Q E → vs.length = ps.length)
    (hb : ∀ (cdv : Value) (A : Around) (outer : List Env) (s : Shared) (H : Hp) (vs : List V) (Q : VK) (p : Addr × Obj), sp vs H Q E0 →
      ∃ t, PSs (cxH CX0 P w K mg base N qual (defScope st) f cdv A outer s H E0 p) (defBody st) t ∧ t { nx := fun _ H' => Q .non H', rt := Q } (start N vs) H) : OkHot P w K mg base (k + 1) f ps sp := by
  obtain ⟨fd, F⟩ := D
  obtain ⟨oc, od, kV, doc, pm, an, cdv, ct, osl, e, lk, hcd⟩ := F.ex
  refine ⟨fd, ?_, F.binds bd⟩
  subst e
  exact fn_ofHot lk hcd S len fun A outer s H vs Q p _ hsp => hb cdv A outer s H vs Q p hsp
/-! ### with -/
section
open PySem.W
variable {prog : Program} {w : World} {A : Around} {E : Value → Shared → Prop} {s : Shared} {env : Env} {K : PySem.W.Frag} {x C L fe fx : Addr} {ox : Obj} {od : Option Obj} {pos : Pos}
/-- the suite's exception meets the manager's exit -/
def ExitHot (prog : Program) (w : World) (A : Around) (E : Value → Shared → Prop) (env : Env) (x fx : Addr) (Q : Flow → Shared → Prop) (e : Value) (s' : Shared) : Prop :=
  wpAny (model prog w) A (noteFrame e env) (fun _ s1 => wpAny (model prog w) A (setFlight e none) (fun _ s2 => wpAny (model prog w) A (typeOf e) (fun t s3 => wpAny (model prog w) A (tracebackOf e) (fun tb s4 =>
    wpAny (model prog w) A (run (.call (.ref fx) ⟨[.ref x] ++ [t, e, tb], []⟩) (some e)) (fun f s5 => f = .ret .none ∧ wpAny (model prog w) A (PySem.passOn "with" e env : Sem Flow) Q E s5) E s4) E s3) E s2) E s1) E s'
theorem kw_coreX {b : Value → Sem Unit} {bdy : Sem Flow} {Q : Flow → Shared → Prop} (X : K.In s.heap) (I : InstAt s.heap x ox C od) (he : findIn K (.ref C) "__enter__" = some (some (.ref fe))) (hfe : isFn K (.ref fe) = true) (hx : findIn K (.ref C) "__exit__" = some (some (.ref fx))) (hfx : isFn K (.ref fx) = true)
    (h : wpAny (model prog w) A (call (.ref fe) [.ref x]) (fun v s₂ => wpAny (model prog w) A (b v) (fun _ s₃ => wpAny (model prog w) A bdy (fun f s₄ => wpAny (model prog w) A (call (.ref fx) [.ref x, .none, .none, .none]) (fun _ s₅ => Q f s₅) E s₄) (ExitHot prog w A E env x fx Q) s₃) (fun _ _ => False) s₂) E s) :
    wpAny (model prog w) A (withItem false pos env (pure (.ref x)) (some b) bdy) Q E s := by
  obtain ⟨cd, hcd, ae⟩ := kw_along he
  obtain ⟨cd', hcd', ax⟩ := kw_along hx
  cases hcd.symm.trans hcd'
  obtain ⟨hh, g, d, tt, os⟩ := s
  have L1 : Looks (model prog w) hh (specialOnItsLine (.ref x) "__enter__") (some (.ref fe), cd.mro) := kw_special X I hcd ae
  have L2 : Looks (model prog w) hh (specialOnItsLine (.ref x) "__exit__") (some (.ref fx), cd.mro) := kw_special X I hcd ax
  have L3 : Looks (model prog w) hh (bindSpecial (.ref fe) (.ref x)) (.ref fe, [.ref x]) := bind_fn X _ (beq_iff_eq.mp hfe)
  have L4 : Looks (model prog w) hh (bindSpecial (.ref fx) (.ref x)) (.ref fx, [.ref x]) := bind_fn X _ (beq_iff_eq.mp hfx)
  have L5 : Looks (model prog w) hh (aMethodOfAnotherBuiltinTypeStops (.ref fe) cd.mro) () := Looks.of_pure rfl
  have L6 : Looks (model prog w) hh (aMethodOfAnotherBuiltinTypeStops (.ref fx) cd.mro) () := Looks.of_pure rfl
  unfold withItem
  refine wpAny_bind (wpAny_pure ?_)
  refine wpAny_bind (wpAny_standAt ?_)
  simp only [Bool.false_eq_true, if_false]
  kw_lk
  refine wpAny_mono h (fun v s₂ h₂ => ?_) fun _ _ z => z
  kw_lk
  refine wpAny_attempt (kw_held ?_)
  show wpAny _ _ (b v >>= fun _ => bdy) _ _ _
  refine wpAny_bind (wpAny_mono h₂ (fun _ s₃ h₃ => wpAny_mono h₃ (fun f s₄ h₄ => ?_) fun e s₄ h₄ => ?_) fun _ _ z => z.elim)
  · kw_lk
    refine wpAny_mono h₄ (fun _ s₅ h₅ => ?_) fun _ _ z => z
    kw_lk
    exact h₅
  · show wpAny _ _ (noteFrame e env >>= _) _ _ _
    refine wpAny_bind (wpAny_mono h₄ (fun _ s₅ h₅ => wpAny_bind (wpAny_mono h₅ (fun _ s₆ h₆ => ?_) fun _ _ z => z)) fun _ _ z => z)
    refine wpAny_bind (wpAny_standAt (wpAny_holding ?_))
    refine wpAny_bind (wpAny_mono h₆ (fun t s₇ h₇ => wpAny_bind (wpAny_mono h₇ (fun tb s₈ h₈ => wpAny_bind ?_) fun _ _ z => z)) fun _ _ z => z)
    unfold withItem.marked
    refine wpAny_bind (wpAny_mono h₈ (fun f s₉ h₉ => ?_) fun _ _ z => z)
    obtain ⟨rfl, h₉⟩ := h₉
    refine wpAny_pure ?_
    refine wpAny_bind (wpAny_pure ?_)
    refine wpAny_bind (wpAny_pure ?_)
    simp only [Bool.false_eq_true, if_false]
    exact h₉
end
section
variable {X : Cx}
/-- what is wished of the suite's exception: the manager a's exit, then Wout -/
def wX (spX : Sp) (a : Addr) (Wout : WX) : WX := fun cls d σ H => ∃ Cc : Addr, cls = .ref Cc ∧ ∀ (e : Addr) (t : V), spX [.ref a, .ref Cc, .ref e, t] H (fun r H' => r = .non ∧ Wout cls d σ H') E0
theorem exit_exc {pins : List (Addr × Obj)} {D : Ends} {Wout : WX} {u : Value} {s' : Shared} {m fx : Addr} {ps : List Str} {spX : Sp} {k j : Nat} (hs : X.stack = X.env :: X.outer) (hf : X.env.frame = some X.env.locals) (hex : X.ex = []) (ok : X.Ok) (tk : Takes X Wout) (FX : OkHot X.prog X.w X.K X.mg X.base k fx ps spX) (hr : Room j X.A) (hle : k ≤ j)
    (xx : XE (X.tr (X.pn ++ pins) (ExitHot X.prog X.w X.A X.xe X.env m fx (SP X pins D))) (wX spX m Wout) u s') : ExitHot X.prog X.w X.A X.xe X.env m fx (SP X pins D) u s' := by
  have hfr : X.A.frames = some (X.env :: X.outer) := by rw [ok.frames, hs]
  obtain ⟨a, B, sI, pins', σ', H', cls, d, rfl, J', nb, up, sky, na, os, ag, Cc, ecls, hw⟩ := xx
  subst ecls
  have J : Inv X pins σ' H' sI := J'.ofTry ok
  have sky' : L2.Sky B (X.env :: X.outer) a (Zc (.ref Cc) d) X.env.locals s'.heap := by rw [← hs]; exact sky
  have fin : ∀ h1, HandSPX.HeldZ B (X.env :: X.outer) a (Zc (.ref Cc) d) X.env.locals h1 → s'.heap.UpToSlots h1 → wpAny (model X.prog X.w) X.A (setFlight (.ref a) none) (fun _ s2 => wpAny (model X.prog X.w) X.A (typeOf (.ref a)) (fun t s3 => wpAny (model X.prog X.w) X.A (tracebackOf (.ref a)) (fun tb s4 =>
      wpAny (model X.prog X.w) X.A (run (.call (.ref fx) ⟨[.ref m] ++ [t, .ref a, tb], []⟩) (some (.ref a))) (fun f s5 => f = .ret .none ∧ wpAny (model X.prog X.w) X.A (PySem.passOn "with" (.ref a) X.env : Sem Flow) (SP X pins D) X.xe s5) X.xe s4) X.xe s3) X.xe s2) X.xe { s' with heap := h1 } := fun h1 hh1 up1 => by
    refine HandSPX.landsZ hh1 fun h3 fl3 up3 => ?_
    have J3 : Inv X pins σ' H' { s' with heap := h3 } := J.landed nb fl3.1 ((up.trans up1).trans up3) os ag
    obtain ⟨k1, k2, k3, oe, vs, T, oT, ts, he3, hz, hd, hv1, hnT, hTe, hT, hdT, ht3⟩ := id fl3
    have nT : H' T = none := (J.inGround nb).gone hnT
    have notFr : ∀ (b : Addr) (o : Obj) (fv : Array Value), h3.get? b = some o → o.data = .fields fv → b ∉ frs (X.env :: X.outer) := fun b o fv e dd hm => by
      obtain ⟨_, o', e', hnf⟩ := k3.mem hm
      have eo : o = o' := Option.some.inj (e.symm.trans e')
      rw [← eo] at hnf
      exact hnf _ dd
    have fa := notFr a oe vs he3 hd
    have fT := notFr T oT ts hT hdT
    refine wpAny_typeOf_ref he3 ?_
    rw [hz.1]
    -- the traceback that is handed over
    have tbk : ∀ {Q' : Value → Shared → Prop}, (∀ t u, RelV t u → Q' u { s' with heap := h3 }) → wpAny (model X.prog X.w) X.A (tracebackOf (.ref a)) Q' X.xe { s' with heap := h3 } := fun {Q'} hQ => by
      have h1s : 1 < ts.size := by
        have := (Array.getElem?_eq_some_iff.mp ht3).1
        omega
      unfold tracebackOf
      refine wpAny_bind (wpAny_field he3 hd hv1 ?_)
      refine wpAny_bind (wpAny_field hT hdT (x := ts[1]) (by simp [h1s]) ?_)
      by_cases z : (ts[1] == Value.none) = true
      · rw [if_pos z]
        exact wpAny_pure (hQ .non .none rfl)
      · rw [if_neg z]
        exact wpAny_pure (hQ (.ref T) (.ref T) rfl)
    refine tbk fun t tbv rt => ?_
    obtain ⟨fd, F, hb⟩ := FX
    have us3 : Vals [.ref m, .ref Cc, .ref a, t] [.ref m, .ref Cc, .ref a, tbv] := .cons rfl (.cons rfl (.cons rfl (.cons rt .nil)))
    have hsp := hw a t
    have hlen := F.len _ _ _ _ hsp
    have bb := hb { s' with heap := h3 } [.ref m, .ref Cc, .ref a, tbv] J3.kIn (by rw [List.append_nil, ← us3.length]; exact hlen)
    rw [List.append_nil] at bb
    have e0 : Env0 X.prog X.w X.K X.mg X.base (X.A.mark (some (.ref a))) X.stack { s' with heap := h3 } H' := by
      have e := J3.env0
      exact ⟨e.frames, e.mod, e.bs, e.bsz, e.funs, e.frf, e.hok, e.bare⟩
    have hpin : PinOk X.stack H' { s' with heap := h3 } (a, oe) := ⟨he3, na, by rw [hs]; exact fa, fun v z => by
      have z2 : oe.data = .cell v := z
      rw [hd] at z2
      cases z2⟩
    have hrh : RoomH k (X.A.mark (some (.ref a))) := by
      have := roomH_of (hr.mono hle)
      exact ⟨this.dp, this.un⟩
    refine wpAny_run (codeAny_mono (F.run _ X.stack _ H' ⟨[.ref m, .ref Cc, .ref a, tbv], []⟩ _ _ _ (a, oe) hrh hpin e0 bb us3 hsp) fun r s5 hq => ?_) (by intro x; exact ref_ne_byPass a (Option.some.inj x))
    cases r with
    | error er => exact False.elim hq
    | ok fl =>
      cases fl with
      | next => exact False.elim hq
      | brk => exact False.elim hq
      | cont => exact False.elim hq
      | ret uu =>
        obtain ⟨v, H6, os6, bare6, un6, hok6, rv, ev, q6⟩ := (show CE X.stack X.prog X.w H' { s' with heap := h3 } (fun r H'' => r = .non ∧ Wout (.ref Cc) d σ' H'') uu s5 from hq)
        subst ev
        cases rv
        obtain ⟨v2, H7, J6, _, e7⟩ := J3.after (Q := fun _ H'' => H'' = H6) (u := Value.none) ⟨.non, H6, os6, bare6, un6, hok6, rfl, rfl⟩
        subst e7
        have faS : a ∉ frs X.stack := by rw [hs]; exact fa
        have fTS : T ∉ frs X.stack := by rw [hs]; exact fT
        have far : ∀ b o, sI.heap.get? b = some o → b ≠ a ∧ b ≠ T := fun b o e => by
          by_cases hb : b ∈ frs X.stack
          · rw [hs] at hb
            exact ⟨fun z => fa (by rw [← z]; exact hb), fun z => fT (by rw [← z]; exact hb)⟩
          · have q := nb b o e hb
            exact ⟨fun z => by
              rw [z, k2] at q
              exact (nomatch q), fun z => by
              rw [z, hnT] at q
              cases q⟩
        have far0 : ∀ b o, X.s_0.heap.get? b = some o → b ≠ a ∧ b ≠ T := fun b o e => by
          obtain ⟨o', q⟩ := J.base.there b o e (by rw [hex]; simp)
          exact far b o' q
        have farP : ∀ p ∈ X.pn ++ pins, p.1 ≠ a ∧ p.1 ≠ T := fun p hp => far p.1 p.2 (J.pin p hp).1
        exact ⟨rfl, pass_tail hs hf rfl tk J6 (un6.keep a oe he3 na faS (by simp)) hz hd hv1 hTe (un6.keep T oT hT nT fTS (by simp)) hdT ht3 (un6.free a oe he3 na (by simp)) (un6.free T oT hT nT (by simp)) far0 farP q6⟩
  show wpAny (model X.prog X.w) X.A (noteFrame (.ref a) X.env) _ _ _
  rcases sky' with ⟨hB, hn, hl, oe, vs, he0, hz, hd, hv1⟩ | fl | hh
  · exact HandSPX.look_newZ Zc.steady hfr hl hf he0 hB hn hd hv1 hz fin
  · exact HandSPX.looks_onZ Zc.steady hfr hf fl fin
  · exact HandSPX.againZ hf hh.2.2.2 (fin s'.heap hh (Heap.UpToSlots.refl _))
/-- with C(..) as name: suite -/
def tWithX (C : Addr) (i : Nat) (spE spX : Sp) (te : TE) (tb : WX → TS) (Wout : WX) : TS := fun D σ H => te σ H fun x H1 => ∃ a dx fs, x = .ref a ∧ H1 a = some (.ins C dx fs) ∧
  spE [.ref a] H1 (fun v H2 => tb (wX spX a Wout) { nx := fun σ' H' => spX [.ref a, .non, .non, .non] H' (fun _ H'' => D.nx σ' H'') E0, rt := fun _ _ => False } (σ.set i (some v)) H2) E0
theorem ps_withX {C fe fx : Addr} {i k k2 j : Nat} {y : Str} {ps : List Str} {spE spX : Sp} {Wout : WX} {ctx : Expr} {te : TE} {tb : WX → TS} {py pos : Pos} {body : List Stmt} (hs : X.stack = X.env :: X.outer) (hf : X.env.frame = some X.env.locals) (hex : X.ex = []) (tk : Takes X Wout)
    (hN : X.N.Nodup) (hi : X.N[i]? = some y) (hy : Loc X.env.scope y) (c : Cls X.K C) (hE : Meth X.K C "__enter__" fe) (hX : Meth X.K C "__exit__" fx) (FE : FnR X.prog X.w X.K X.mg X.base CX0 k fe spE) (FX : FnR X.prog X.w X.K X.mg X.base CX0 k fx spX)
    (FH : OkHot X.prog X.w X.K X.mg X.base k2 fx ps spX) (hr : Room j X.A) (hle : k ≤ j) (hle2 : k2 ≤ j) (he : PE X ctx te)
    (hb : ∀ (W : WX) (pn : List (Addr × Obj)) (xe : Value → Shared → Prop), Takes (X.tr pn xe) W → PassesOwn (model X.prog X.w) X.A X.env xe → PSs (X.tr pn xe) body (tb W))
    (hfn : X.fn y = true ∨ X.env.scope.names.lookup y = some .local := by first | exact .inl rfl | exact .inr rfl) :
    PS X (.With [⟨ctx, some (.Name y py)⟩] body pos) (tWithX C i spE spX te tb Wout) := by
  refine ⟨fun pins s σ H D I h => ?_⟩
  have ok := I.ok
  rw [arm_exec_With]
  refine wpAny_bind (wpAny_standAt ?_)
  rw [arm_withItems_cons, arm_withItems_nil]
  unfold withItem
  refine wpAny_bind (thn (he.run pins s σ H _ I h) fun u s1 ⟨x, H1, I1, rx, a, dx, fs, ex, ea, q⟩ => ?_)
  subst ex
  cases rx
  obtain ⟨mA, O, _, _, _, _⟩ := ins_get I1.hok ea
  obtain ⟨od, J, _⟩ := O.look
  have core := kw_coreX (pos := ctx.pos) (env := X.env) (b := assign (.Name y py) X.env) (bdy := execs body X.env) (Q := SP X pins D) (A := X.A) (E := X.xe) (prog := X.prog) (w := X.w) I1.kIn J hE.at_ hE.fn hX.at_ hX.fn (?_)
  · unfold withItem at core
    exact core
  refine thn (wpAny_call (run_fnR (E := E0) (us := [.ref a]) (vs := [.ref a]) FE (hr.mono hle) pass0 I1 (.cons rfl .nil) q)) fun v s2 ⟨vv, H2, I2, rv, q2⟩ => ?_
  refine wpAny_assign_Name (store_ok I2 hN hi hy rv (fun s3 I3 => ?_) hfn)
  have tk' : Takes (X.tr (X.pn ++ pins) (ExitHot X.prog X.w X.A X.xe X.env a fx (SP X pins D))) (wX spX a Wout) := fun u s' xx => exit_exc hs hf hex ok tk FH hr hle2 xx
  have hbr := (hb (wX spX a Wout) (X.pn ++ pins) (ExitHot X.prog X.w X.A X.xe X.env a fx (SP X pins D)) tk' PassesOwn.looking).run [] s3 _ H2 _ (I3.toTry _) q2
  refine wpAny_mono hbr (fun f s4 hsp => ?_) fun _ _ z => z
  cases f with
  | ret u =>
    obtain ⟨_, _, _, _, _, q⟩ := hsp
    exact False.elim q
  | brk =>
    obtain ⟨_, _, _, q⟩ := hsp
    exact False.elim q
  | cont =>
    obtain ⟨_, _, _, q⟩ := hsp
    exact False.elim q
  | next =>
    obtain ⟨σ4, H4, I4, q4⟩ := hsp
    have I4' := I4.ofTry ok
    exact thn (wpAny_call (run_fnR (E := E0) (us := [.ref a, .none, .none, .none]) (vs := [.ref a, .non, .non, .non]) FX (hr.mono hle) pass0 I4' (.cons rfl (.cons rfl (.cons rfl (.cons rfl .nil)))) q4)) fun _ s5 ⟨_, H5, I5, _, q5⟩ => ⟨σ4, H5, I5, q5⟩
end
end CC
set_option maxHeartbeats 4000000
/-! CCG: defs that are called where no display is under way; str of a list or a tuple. -/
namespace CC
open PySem PySem.Spec PyProof.Rows L2
/-- a promise by positional values, kept where nothing is guarded -/
def FnG (P : Program) (w : World) (K : PySem.W.Frag) (mg : Str → Option Value) (base : Heap) (k : Nat) (f : Addr) (sp : Sp) : Prop :=
  ∀ (A : Around) (outer : List Env) (s : Shared) (H : Hp) (us : List Value) (vs : List V) (Q : VK) (E : XK), Room k A → A.guards = some [] → Env0 P w K mg base A outer s H → Vals vs us → sp vs H Q E → codeAny (model P w) A (.call (.ref f) ⟨us, []⟩) (CR CX0 outer P w H s Q E) s
theorem mkG {P : Program} {w : World} {K : PySem.W.Frag} {mg : Str → Option Value} {base : Heap} {x qual : Str} {st : Stmt} {f : Addr} {N ps : List Str} {k : Nat} {sp : Sp} (D : ∃ fd, Fun K x qual st f fd) (S : FnScope N ps (defScope st))
    (bd : ∀ (kV doc pm : Value) (an : Option Addr) (cdv ct : Value) (us : List Value), us.length = ps.length → bindArgs (PySem.W.fnOf x qual (defArgs st) (defBody st) (defScope st) .none kV doc pm an cdv ct) ⟨us, []⟩ = pure (ps.zip us))
    (len : ∀ vs H Q E, sp vs H Q E → vs.length = ps.length)
    (hb : ∀ (cdv : Value) (A : Around) (outer : List Env) (s : Shared) (H : Hp) (vs : List V) (Q : VK) (E : XK), Room k (A.deeper (envOfC qual (defScope st) s.heap.objs.size f cdv)) → (A.deeper (envOfC qual (defScope st) s.heap.objs.size f cdv)).guards = some [] → sp vs H Q E →
      ∃ t, PSs (cxOf CX0 P w K mg base N qual (defScope st) f cdv A outer s H E).nox (defBody st) t ∧ t { nx := fun _ H' => Q .non H', rt := Q } (start N vs) H) : FnG P w K mg base (k + 1) f sp := by
  intro A outer s H us vs Q E hr hg e0 rv hs
  obtain ⟨fd, F⟩ := D
  have nl : us.length = ps.length := by rw [← rv.length, len _ _ _ _ hs]
  have B := F.binds bd s us (e0.mod.kin.keeps fun b o e => (e0.bs b o e).1) (by rw [List.append_nil]; exact nl)
  rw [List.append_nil] at B
  obtain ⟨oc, od, kV, doc, pm, an, cdv, ct, osl, efd, lk, hcd⟩ := F.ex
  subst efd
  have gr : ∀ b o, base.get? b = some o → s.heap.get? b = some o := fun b o e => (e0.bs b o e).1
  have inK := e0.mod.kin.keeps gr
  have kd : ∀ y, y ∈ ps.zip us → (defScope st).names.lookup y.1 = some .local ∨ ((defScope st).names.lookup y.1 = some .cell ∧ ((cellsFrom (s.heap.objs.size + 1) (defScope st).names []).lookup y.1).isSome = true) := fun y hy =>
    (S.par y.1 (List.of_mem_zip hy).1).imp id fun c => ⟨c, PySem.W.cellsFrom_some _ _ _ (.inl c)⟩
  obtain ⟨t, ht, hq⟩ := hb cdv A outer s H vs Q E (hr.deeper _) hg hs
  refine codeAny_call_function hr.depth (inK _ _ lk) rfl S.co S.gen rfl (PySem.W.codeRec_of inK hcd) (B _ _ _ _ (wpAny_newFunctionEnv_cells S.kind kd fun env he s1 x1 => ?_))
  subst he
  have I1 : Inv (cxOf CX0 P w K mg base N qual (defScope st) f cdv A outer s H E) [] (start N vs) H s1 := inv_start S hr.hd e0 (len _ _ _ _ hs) rv x1
  refine ⟨(e0.mod.nolimit.keeps gr).keeps x1.toInCall.keep, codeAny_func (wpAny_mono (ht.nox.run [] s1 (start N vs) H _ I1 hq) (fun fl s2 h2 => ?_) fun _ _ z => z)⟩
  cases fl with
  | brk => exact (show False from h2.elim fun _ z => z.elim fun _ z => z.2).elim
  | cont => exact (show False from h2.elim fun _ z => z.elim fun _ z => z.2).elim
  | next =>
    obtain ⟨_, H2, J, q⟩ := h2
    exact ⟨V.non, H2, J.os, J.bare, J.base, J.hok, rfl, q⟩
  | ret u =>
    obtain ⟨v, _, H2, J, r, q⟩ := h2
    exact ⟨v, H2, J.os, J.bare, J.base, J.hok, r, q⟩
section
variable {X : Cx} {e : Expr} {es : List Expr} {t : TA} {p pos : Pos} {x : Str}
/-- f(e, ..), where nothing is guarded -/
theorem pe_cG {k j : Nat} {f : Addr} {sp : Sp} {E : XK} (F : FnG X.prog X.w X.K X.mg X.base k f sp) (hr : Room j X.A) (hgd : X.A.guards = some []) (hm : X.mg x = some (.ref f) ∧ PySem.W.keepIn X.K (.ref f) = true) (ha : PA X (e :: es) t)
    (hle : k ≤ j := by decide) (hg : Gl X x := by rfl) (hdb : (x == ("__debug__" : Str)) = false := by decide) (he : starEach (e :: es) X.env = (false, eval e X.env) :: starEach es X.env := by rfl) (hpl : (backTo pos (starEach es X.env)).any (·.1) = false := by rfl) :
    PE X (.Call (.Name x p) (e :: es) [] pos) (tCR sp E t) := by
  refine ⟨fun pins s σ H Q I h => wpAny_Call_Name_kw (ld_glob I hg hm.1 ?_ hdb)⟩
  refine PySem.W.callWith_K (h₀ := X.base) I.ok.mod.kin hm.2 (thn (ha.run pos pins s σ H _ I h) fun us s1 ⟨vs, H1, I1, r, q⟩ => ⟨I1.kIn, ?_⟩) he hpl
  refine wpAny_call (codeAny_mono (F X.A X.stack s1 H1 us vs Q E (hr.mono hle) hgd I1.env0 r q) fun r2 s2 h2 => ?_)
  cases r2 with
  | error er => exact h2.elim
  | ok fl =>
    cases fl with
    | ret u => exact I1.after h2
    | next => exact h2.elim
    | brk => exact h2.elim
    | cont => exact h2.elim
/-- str of a list or a tuple -/
def rStrD (K : PySem.W.Frag) : List V → Hp → VK → Prop := fun vs H Q => ∃ (a : Addr) (d : PyData), vs = [.ref a] ∧ Dp K H (.ref a) d ∧ d.showable = true ∧ d.hasDict = false ∧ d.depth ≤ 16 ∧ d.shown.length ≤ sizeLine ∧ Q (.str d.shown) H
theorem call_strD (hg : X.A.guards = some []) (hu : X.A.units + 32 < cLine) : CallR X (.type "str") (rStrD X.K) := by
  intro pins s σ H vs us Q I r ⟨a, d, ev, dp, h1, h2, h3, h4, q⟩
  subst ev
  cases r with
  | cons r rr =>
    cases rr
    cases r
    obtain ⟨as, rd⟩ := Dp.reads I d (.ref a) (.ref a) dp rfl
    exact str_of_reads rd h1 (PyData.noDict_hsm h2) hg (by omega) (fun _ _ e => e) (fun h' u tk hk => ⟨.str d.shown, H, I.kept (t' := tk) hk, ⟨_, rfl⟩, q⟩) h4
theorem call_strK (K : PySem.W.Frag) (hg : X.A.guards = some []) (hu : X.A.units + 32 < cLine) (hK : X.K = K) : CallR X (.type "str") (rStrD K) := by
  subst hK
  exact call_strD hg hu
def rStrB : List V → Hp → VK → Prop := fun xs H Q => ∃ b, xs = [.bl b] ∧ Q (.str (if b then ("True" : Str) else ("False" : Str))) H
theorem call_str_bool : CallR X (.type "str") rStrB := by
  intro pins s σ H xs us Q I r ⟨b, e, q⟩
  subst e
  cases r with
  | cons r rr =>
    cases rr
    cases r
    cases b
    · exact PySem.P.str_of_bool ⟨.str _, H, I.tok _, ⟨_, rfl⟩, q⟩
    · exact PySem.P.str_of_bool ⟨.str _, H, I.tok _, ⟨_, rfl⟩, q⟩
end
end CC
set_option maxHeartbeats 4000000
/-! CCEnd: the law's call from outside, where nothing is guarded; tables of code objects are told. -/
namespace CC
open PySem PySem.Spec PyProof.Rows L2
open LamX (TabB)
section
variable {P : Program} {w : World} {K : PySem.W.Frag} {mg mb : Str → Option Value} {k : Nat} {fa a : Addr} {cs : List (Addr × Addr)} {sp : Sp} {s1 : Shared} {vs : List Value} {ns : List Int}
/-- what is tracked when the law is called: the tables, and the script if it is not written -/
def startH (K : PySem.W.Frag) (cs : List (Addr × Addr)) (a : Addr) (vs : List Value) (ns : List Int) : Hp := fun b =>
  if b ∈ cs.map Prod.snd then some (.tbl #[]) else if b = a ∧ K.lookup a = none then some (.frz { cls := .type "list", data := .seq vs.toArray } (.lst (ns.map V.int))) else none
theorem startH_some {b : Addr} {u : HO} (h : startH K cs a vs ns b = some u) : (b ∈ cs.map Prod.snd ∧ u = .tbl #[]) ∨ (b = a ∧ K.lookup a = none ∧ u = .frz { cls := .type "list", data := .seq vs.toArray } (.lst (ns.map V.int))) := by
  unfold startH at h
  split at h
  · rename_i hb
    exact .inl ⟨hb, (Option.some.inj h).symm⟩
  · split at h
    · rename_i hb
      exact .inr ⟨hb.1, hb.2, (Option.some.inj h).symm⟩
    · cases h
theorem callG (KX : K.In s1.heap) (hns : s1.heap.Ns mainGlobals mg) (hb : s1.heap.Ns builtinsNs mb) (hbb : ∀ x : Str, x ≠ "__name__" → mb x = bootBuiltins x) (hlim : s1.heap.NoLimit) (hg : s1.gens = #[])
    (hT : ∀ p, p ∈ cs → s1.heap.get? p.2 = some { cls := .none, data := .fields #[] }) (nT : ∀ p, p ∈ cs → K.lookup p.2 = none) (C : ∀ p, p ∈ cs → PySem.W.CodeHd s1.heap p.1 p.2)
    (hbm : ∃ (bm : Addr) (ob : Obj), mg "__builtins__" = some (.ref bm) ∧ bm ≠ builtinsNs ∧ s1.heap.get? bm = some ob ∧ ob.cls = .type "module" ∧ ob.dict = some builtinsNs ∧ ob.data = .plain)
    (ha : s1.heap.get? a = some { cls := .type "list", data := .seq vs.toArray }) (hi : IntsAre vs ns) (hl : ns.length ≤ sizeLine) (hr : Room k callerA)
    (F : ∀ base : Heap, K.In base → base.Ns mainGlobals mg → (∀ p, p ∈ cs → TabB base mg p.1 p.2) → FnG P w K mg base k fa sp)
    (hsp : ∀ H : Hp, (∀ p, p ∈ cs → H p.2 = some (.tbl #[])) → SqL K H a (ns.map V.int) → sp [.ref a] H (fun v _ => v = .bl true) fun _ _ _ => False) :
    codeAny (model P w) callerA (.call (.ref fa) ⟨[.ref a], []⟩) (fun r s2 => r = .ok (.ret (.bool true)) ∧ OldK s1.heap s2.heap ∧ s2.os = s1.os ∧ AllBare s2.gens) s1 := by
  have rel := vals_ints hi
  have memT : ∀ {b : Addr}, b ∈ cs.map Prod.snd → ∃ p, p ∈ cs ∧ p.2 = b := fun {b} h => by
    obtain ⟨p, h1, h2⟩ := List.mem_map.mp h
    exact ⟨p, h1, h2⟩
  have tabAt : ∀ {b : Addr}, b ∈ cs.map Prod.snd → s1.heap.get? b = some { cls := .none, data := .fields #[] } := fun {b} h => by
    obtain ⟨p, h1, h2⟩ := memT h
    rw [← h2]
    exact hT p h1
  have naT : a ∉ cs.map Prod.snd := fun h => by
    have z := tabAt h
    rw [ha] at z
    exact nomatch congrArg Obj.data (Option.some.inj z)
  have tH : ∀ p, p ∈ cs → startH K cs a vs ns p.2 = some (.tbl #[]) := fun p hp => if_pos (List.mem_map.mpr ⟨p, hp, rfl⟩)
  have sq : SqL K (startH K cs a vs ns) a (ns.map V.int) := by
    cases q : K.lookup a with
    | none =>
      refine .inl (.inr ⟨{ cls := .type "list", data := .seq vs.toArray }, ?_⟩)
      unfold startH
      rw [if_neg naT, if_pos ⟨rfl, q⟩]
    | some o =>
      have z := KX a o q
      rw [ha] at z
      refine .inr ⟨o, vs.toArray, 0, q, ?_, ?_, ?_, ?_, by simpa using rel⟩
      · rw [← Option.some.inj z]
      · rw [← Option.some.inj z]
      · rw [← Option.some.inj z]
      · rw [List.size_toArray, hi.length]
        exact hl
  have ok : HOk P w (startH K cs a vs ns) s1.heap := fun b u h => by
    rcases startH_some h with ⟨h1, rfl⟩ | ⟨rfl, _, rfl⟩
    · exact tabAt h1
    · exact ⟨ha, by rw [List.length_map]; exact hl, vs, _, rel, ha⟩
  -- the ground: what is not tracked
  have gr : ∀ {b : Addr} {o : Obj}, s1.heap.get? b = some o → startH K cs a vs ns b = none → (hidT s1.heap (startH K cs a vs ns)).get? b = some o := fun e n => hidT_get e n
  have free : ∀ {b : Addr} {o : Obj}, s1.heap.get? b = some o → (∀ xs n, o.data ≠ .seq xs n) → o.data ≠ .fields #[] → startH K cs a vs ns b = none := fun {b o} e n1 n2 => by
    cases q : startH K cs a vs ns b with
    | none => rfl
    | some u =>
      rcases startH_some q with ⟨h1, _⟩ | ⟨h1, _, _⟩
      · rw [tabAt h1] at e
        exact absurd (by rw [← Option.some.inj e]) n2
      · rw [h1, ha] at e
        exact absurd (by rw [← Option.some.inj e]) (n1 vs.toArray _)
  have nsG : ∀ {b : Addr} {m : Str → Option Value}, s1.heap.Ns b m → (hidT s1.heap (startH K cs a vs ns)).Ns b m := fun {b m} ⟨o, es, ep, e, d, r⟩ => ⟨o, es, ep, gr e (free e (fun xs n z => by rw [d] at z; cases z) (fun z => by rw [d] at z; cases z)), d, r⟩
  have KG : K.In (hidT s1.heap (startH K cs a vs ns)) := fun b o e => gr (KX b o e) (by
    cases q : startH K cs a vs ns b with
    | none => rfl
    | some u =>
      rcases startH_some q with ⟨h1, _⟩ | ⟨h1, h2, _⟩
      · obtain ⟨p, hp, z⟩ := memT h1
        rw [← z, nT p hp] at e
        cases e
      · rw [h1, h2] at e
        cases e)
  have M : L2.Mod K mg (hidT s1.heap (startH K cs a vs ns)) := by
    obtain ⟨mc, l1, l2⟩ := hlim
    exact ⟨KG, nsG hns, ⟨mb, nsG hb, hbb⟩, ⟨mc, nsG l1, l2⟩⟩
  have TB : ∀ p, p ∈ cs → TabB (hidT s1.heap (startH K cs a vs ns)) mg p.1 p.2 := fun p hp => by
    have hTp := hT p hp
    refine ⟨?_, ?_, fun z => ?_⟩
    · obtain ⟨o, us, file, tf, flags, tg, inF, text, tt, c1, c2, c3, c4, c5⟩ := C p hp
      refine ⟨o, us, file, tf, flags, tg, inF, text, tt, gr c1 (free c1 (fun xs n z => by rw [c3] at z; cases z) fun z => ?_), c2, c3, c4, c5⟩
      rw [c3] at z
      cases z
      simp at c4
    · obtain ⟨bm, ob, b1, b2, b3, b4, b5, b6⟩ := hbm
      refine ⟨bm, ob, b1, b2, fun z => ?_, fun z => ?_, gr b3 (free b3 (fun xs n z => by rw [b6] at z; cases z) fun z => by rw [b6] at z; cases z), b4, b5, b6⟩
      · obtain ⟨o, es, ep, e, d, _⟩ := hns
        rw [← z, b3] at e
        cases e
        rw [b6] at d
        cases d
      · rw [← z, b3] at hTp
        cases hTp
        cases b6
    · obtain ⟨o, es, ep, e, d, _⟩ := hns
      rw [z, hTp] at e
      cases e
      cases d
  have e0 : Env0 P w K mg (hidT s1.heap (startH K cs a vs ns)) callerA [] s1 (startH K cs a vs ns) :=
    { frames := rfl, mod := M, bs := fun b o e => of_hidT e, bsz := Nat.le_of_eq (hidT_size _ _), funs := trivial, frf := fun b z => absurd (show b ∈ ([] : List Addr) from z) List.not_mem_nil, hok := ok, bare := .of_eq hg }
  refine codeAny_mono (F _ KG (nsG hns) TB callerA [] s1 (startH K cs a vs ns) [.ref a] [.ref a] _ _ hr rfl e0 (.cons rfl .nil) (hsp _ tH sq)) fun r s2 hq => ?_
  cases r with
  | error e => exact hq.elim
  | ok fl =>
    cases fl with
    | next => exact hq.elim
    | brk => exact hq.elim
    | cont => exact hq.elim
    | ret u =>
      obtain ⟨v, H2, os, bare, un, ok2, rv, ev⟩ := hq
      have ev : v = .bl true := ev
      subst ev
      have rv : u = .bool true := rv
      subst rv
      -- what stood stands; a table may have grown
      have kept : ∀ b o, b ∉ cs.map Prod.snd → s1.heap.get? b = some o → s2.heap.get? b = some o := fun b o nb e => by
        cases q : startH K cs a vs ns b with
        | none => exact un.keep b o e q (fun z => absurd (show b ∈ ([] : List Addr) from z) List.not_mem_nil) (by simp)
        | some u =>
          rcases startH_some q with ⟨h1, _⟩ | ⟨h1, _, h3⟩
          · exact absurd h1 nb
          · have z := (ok2 b _ (un.frzs b _ _ (by rw [q, h3]))).1
            rw [h1, ha] at e
            rw [z]
            exact e
      have grew : ∀ p, p ∈ cs → ∃ more : Array Value, s2.heap.get? p.2 = some { cls := .none, data := .fields more } := fun p hp => by
        obtain ⟨more, z⟩ := un.tbls p.2 #[] (tH p hp)
        exact ⟨_, ok2 p.2 _ z⟩
      refine ⟨rfl, ⟨fun b o e => ?_, fun b o e => ?_⟩, os, bare⟩
      · by_cases hbT : b ∈ cs.map Prod.snd
        · obtain ⟨p, hp, z⟩ := memT hbT
          obtain ⟨more, hm⟩ := grew p hp
          subst z
          rw [hT p hp] at e
          cases e
          exact .inr (.inl ⟨((C p hp).tab (hT p hp)).isCodeTable, rfl, #[], more, rfl, by rw [Array.empty_append]; exact hm⟩)
        · exact .inl (kept b o hbT e)
      · by_cases hbT : b ∈ cs.map Prod.snd
        · obtain ⟨p, hp, z⟩ := memT hbT
          obtain ⟨more, hm⟩ := grew p hp
          exact ⟨_, by rw [← z]; exact hm⟩
        · exact ⟨o, kept b o hbT e⟩
end
end CC
set_option maxHeartbeats 4000000
/-! CCLcX: a comprehension whose element is a call that may raise. -/
namespace CC
open PySem PySem.Spec PyProof.Rows L2 L2H
section
variable {X : Cx} {pins : List (Addr × Obj)} {σ : L2.St} {W : WX} {EW : XK}
theorem comp_exc {H3 : Hp} {s3 : Shared} {scope : Scope} {ce : Env} {fp : List Addr} {pins' : List (Addr × Obj)} {σ' : L2.St} {H0 : Hp} {s : Shared} {u : Value} {s' : Shared} (hs : X.stack = X.env :: X.outer) (hf : X.env.frame = some X.env.locals) (hex : X.ex = []) (tk : Takes X W) (I3 : Inv X pins σ H3 s3)
    (f3 : ∀ b ∈ fp, FpOk X pins H3 b) (hce : ce.frame = X.env.frame) (cL : ce.locals = s3.heap.objs.size) (hW : ∀ cls d H, EW cls d H → W cls d σ H) (I : Inv (X.blk s3 H3 scope ce fp) pins' σ' H0 s) (c : L2.CX X.prog X.w X.stack H0 s EW u s') :
    notedBy (model X.prog X.w) X.A ce (CompFails (model X.prog X.w) X.A X.xe ce) u s' := by
  have ok := I3.ok
  have hfr : X.A.frames = some (X.env :: X.outer) := by rw [ok.frames, hs]
  obtain ⟨a, B, H', cls, d, rfl, fl, hok, ub, na, os, ag, hE⟩ := c
  obtain ⟨G, g1, g2⟩ := restrict s'.heap fun b => (B.get? b).isSome || decide (b ∈ frs X.stack)
  have st : B.StaysIn s'.heap := fl.1
  have gB : ∀ b o, B.get? b = some o → G.get? b = some o := fun b o e => by
    rw [g1 b (by simp [e])]
    exact st b o e
  have gF : ∀ b, b ∈ frs X.stack → G.get? b = s'.heap.get? b := fun b hb => g1 b (by simp [hb])
  have og : ∀ b o, G.get? b = some o → s'.heap.get? b = some o ∧ ((B.get? b).isSome = true ∨ b ∈ frs X.stack) := fun b o e => by
    cases q : ((B.get? b).isSome || decide (b ∈ frs X.stack)) with
    | false => rw [g2 b q] at e; cases e
    | true =>
      rw [g1 b q] at e
      exact ⟨e, by simpa [Bool.or_eq_true] using q⟩
  have J : Inv (X.blk s3 H3 scope ce fp) pins' σ' H' { s with heap := G, gens := s'.gens, drawn := s'.drawn, toks := s'.toks } := by
    refine I.call (ch := []) ⟨fun b o e n hb _ => gB b o (ub.keep b o e n hb), fun b o e n hb _ => ?_, fun b o e n _ => ub.free b o e n, fun b o e _ => ?_, ub.tups, ub.frzs, ub.tbls⟩ (hok.kept gB) ag (fun _ z => nomatch z)
    · obtain ⟨sl, q⟩ := ub.slot b o e hb
      exact ⟨sl, by rw [gF b hb]; exact q⟩
    · by_cases hb : b ∈ frs X.stack
      · obtain ⟨sl, q⟩ := ub.slot b o e hb
        exact ⟨_, by rw [gF b hb]; exact q⟩
      · obtain ⟨o', q⟩ := ub.there b o e hb
        exact ⟨o', gB b o' q⟩
  have nb : ∀ b o, G.get? b = some o → b ∉ frs X.stack → B.get? b = some o := fun b o e hb => by
    obtain ⟨e', h⟩ := og b o e
    rcases h with h | h
    · obtain ⟨o', q⟩ := Option.isSome_iff_exists.mp h
      have z := st b o' q
      rw [e'] at z; cases z
      exact q
    · exact absurd h hb
  have up : G.UpToSlots s'.heap := Heap.UpToSlots.of_keeps fun b o e => (og b o e).1
  rw [hs] at fl
  show wpAny (model X.prog X.w) X.A (noteFrame (.ref a) ce) _ _ s'
  rw [noteFrame_env _ hce]
  refine HandSPX.looks_onZ Zc.steady hfr hf fl fun h1 hh1 up1 => ?_
  obtain ⟨k1, k2, k3, oe, vs, T, oT, ts, he1, hz, hd, hv1, hnT, hTe, hT, hdT, ht3⟩ := id hh1
  have J1 : Inv (X.blk s3 H3 scope ce fp) pins' σ' H' { s' with heap := h1 } := J.landed nb k1 (up.trans up1) os ag
  have back : ∀ {s4 : Shared} {pins4 : List (Addr × Obj)}, Inv (X.blk s3 H3 scope ce fp) pins4 σ' H' s4 → Inv X pins σ H' s4 := fun {s4 pins4} I6 => I3.call' (ch := fp) I6.os I6.base I6.hok I6.bare fun b hb => ⟨(f3 b hb).2.2.2.1, (f3 b hb).2.1, (f3 b hb).2.2.2.2.1, (f3 b hb).2.2.2.2.2⟩
  have I7 := back J1
  have Is := back J
  have nT : H' T = none := (J.inGround nb).gone hnT
  have notFr : ∀ (b : Addr) (o : Obj) (fv : Array Value), h1.get? b = some o → o.data = .fields fv → b ∉ frs (X.env :: X.outer) := fun b o fv e dd hm => by
    obtain ⟨_, o', e', hnf⟩ := k3.mem hm
    have eo : o = o' := Option.some.inj (e.symm.trans e')
    rw [← eo] at hnf
    exact hnf _ dd
  have fa := notFr a oe vs he1 hd
  have fT := notFr T oT ts hT hdT
  have far : ∀ b o, G.get? b = some o → b ≠ a ∧ b ≠ T := fun b o e => by
    by_cases hb : b ∈ frs X.stack
    · rw [hs] at hb
      exact ⟨fun z => fa (by rw [← z]; exact hb), fun z => fT (by rw [← z]; exact hb)⟩
    · have q := nb b o e hb
      exact ⟨fun z => by
        rw [z, k2] at q
        exact (nomatch q), fun z => by
        rw [z, hnT] at q
        cases q⟩
  have far0 : ∀ b o, X.s_0.heap.get? b = some o → b ≠ a ∧ b ≠ T := fun b o e => by
    obtain ⟨o', q⟩ := Is.base.there b o e (by rw [hex]; simp)
    exact far b o' q
  have farP : ∀ p ∈ X.pn ++ pins, p.1 ≠ a ∧ p.1 ≠ T := fun p hp => far p.1 p.2 (Is.pin p hp).1
  obtain ⟨m, hn, _⟩ := J1.loc
  have hn : h1.Ns ce.locals m := hn
  have nC : H' ce.locals = none := J1.free
  refine ⟨m, hn, fun h2 m2 hn2 sb => ?_⟩
  have fC : FpOk X pins H' ce.locals := by
    have z := I3.fpOk (b := ce.locals) (H' := H') (by rw [cL]; exact Nat.le_refl _) nC
    exact z
  obtain ⟨f0, f1, f2, f3', f4, f5⟩ := fC
  have I8 : Inv X pins σ H' { s' with heap := h2 } := I7.turned (t' := s'.toks) (fun b o hb e => (sb.2 b hb).trans e) f0 f1 f3' f4 f5
  obtain ⟨oC, es, ep, hoC, hdC, _⟩ := id hn
  have naC : a ≠ ce.locals := fun z => by
    rw [z] at he1
    have eo : oC = oe := Option.some.inj (hoC.symm.trans he1)
    rw [← eo, hdC] at hd
    cases hd
  have nTC : T ≠ ce.locals := fun z => by
    rw [z] at hT
    have eo : oC = oT := Option.some.inj (hoC.symm.trans hT)
    rw [← eo, hdC] at hdT
    cases hdT
  exact pass_tail hs hf hce tk I8 ((sb.2 a naC).trans he1) hz hd hv1 hTe ((sb.2 T nTC).trans hT) hdT ht3 na nT far0 farP (hW _ _ _ hE)
end
section
variable {X : Cx}
theorem lcX_core {pins : List (Addr × Obj)} {s : Shared} {σ : L2.St} {H : Hp} {Q : VK} {elt tg iter : Expr} {ifs : List Expr} {scope : Scope} {own : List (Str × Nat)} {pos pos' : Pos} {wi : TI} {g : TG} {tt : TT} {te : TE} {W : WX} {EW : XK} {use : Option (Value → Sem Unit)} {Qf : Value → Shared → Prop}
    (hst : X.stack = X.env :: X.outer) (hfr : X.env.frame = some X.env.locals) (hex : X.ex = []) (tk : Takes X W) (hW : ∀ cls d H, EW cls d H → W cls d σ H) (hc : X.calm = true) (hN : X.N.Nodup) (I : Inv X pins σ H s) (hi : PI X tg iter wi) (ok : BlkOk X.N X.env.scope scope own)
    (hg : ∀ (s : Shared) (H : Hp) (C : Addr) (cl : List (Str × Addr)) (fp : List Addr), PG (X.blk s H scope (compEnvC scope cl C X.env) fp) tg g) (ht : ∀ (s : Shared) (H : Hp) (C : Addr) (cl : List (Str × Addr)) (fp : List Addr), PTs (X.blk s H scope (compEnvC scope cl C X.env) fp) ifs tt)
    (he : ∀ (s : Shared) (H : Hp) (C : Addr) (cl : List (Str × Addr)) (fp : List Addr) (xe : Value → Shared → Prop), Passes (L2.CX X.prog X.w) ((X.blk s H scope (compEnvC scope cl C X.env) fp).wish xe) EW → PE ((X.blk s H scope (compEnvC scope cl C X.env) fp).wish xe) elt te) (hs : ∀ x, foldedSetIterable iter X.env x = pure x)
    (h : tLc wi g tt te (own.map (·.2)) σ H Q)
    (hRR : ∀ D C s' m H', Inv X pins σ H' s' → Q (.ref D) H' → s'.heap.Ns C m → FpOk X pins H' C → ∀ cenv : Env, cenv.locals = C → compEnds (model X.prog X.w) X.A X.xe use Qf (.ref D) cenv (.ok .next) s') :
    wpAny (model X.prog X.w) X.A (comprehension (.ListComp elt [⟨tg, iter, ifs, 0⟩] scope pos) scope X.env pos' (newList []) false (eval iter X.env) use) Qf X.xe s := by
  have hfree : ∀ y ∈ scope.names, y.2 = .free → ∃ c, X.env.cells.lookup y.1 = some c := fun y hy e => by
    rcases ok.free y hy e with k | k
    · exact I.ok.has _ (.inl k)
    · exact I.ok.has _ (.inr k)
  refine PySem.comprehension_at (use := use) rfl hs (closure_ok hfree) ok.kind (fun y hy e => by rw [ok.uniq y hy, e])
    (thn (hi.run pins s σ H _ I h) fun xv s1 hx => thn hx fun itv s2 h2 => ?_)
  obtain ⟨it, fp, tn, J, H2, e, I2, T, st2, f2, q⟩ := h2
  subst e
  refine wpAny_newObj_type (newEnv_comp ?_) (by show 0 ≤ sizeLine; decide)
  generalize hD : s2.heap.objs.size = D
  have hDn : H2 D = none := I2.hok.fresh (Nat.le_of_eq hD)
  obtain ⟨W, ⟨m0, w0⟩, turn⟩ := q D hDn
  -- the new list
  generalize hs3 : ({ s2 with heap := s2.heap.push { cls := .type "list", data := .seq ([] : List Value).toArray } } : Shared) = s3
  have I3 : Inv X pins σ (upd H2 D (.lst [])) s3 := by
    rw [← hs3]
    refine I2.laid (t' := s2.toks) (fun b o e => Heap.get?_push_of_some _ e) (Nat.le_of_eq hD) ⟨Nat.zero_le _, [], 0, .nil, ?_⟩
    rw [← hD]
    exact Heap.get?_push_size _ rfl
  have h3 : s3.heap = s2.heap.push { cls := .type "list", data := .seq ([] : List Value).toArray } := by rw [← hs3]
  have sz : ∀ b ∈ fp, b < s2.heap.objs.size := fun b hb => by
    obtain ⟨o, e, _⟩ := T.obj _ _ st2 b hb
    exact Heap.lt_size e
  have f3 : ∀ b ∈ fp, FpOk X pins (upd H2 D (.lst [])) b ∧ b < s3.heap.objs.size := fun b hb => by
    have hlt := sz b hb
    refine ⟨⟨?_, (f2 b hb).2⟩, by rw [h3, Heap.size_push]; exact Nat.lt_succ_of_lt hlt⟩
    rw [upd_ne (by rw [← hD]; exact Nat.ne_of_lt hlt)]
    exact (f2 b hb).1
  have st3 : tn 0 s3.heap := T.keep _ _ _ st2 fun b _ o e => by rw [h3]; exact Heap.get?_push_of_some _ e
  have I4 := block_start I3 ok hN f3
  have pg := hg s3 (upd H2 D (.lst [])) s3.heap.objs.size (cellsFrom (s3.heap.objs.size + 1) scope.names (cloFrom X.env.cells scope.names [])) fp
  have pt := ht s3 (upd H2 D (.lst [])) s3.heap.objs.size (cellsFrom (s3.heap.objs.size + 1) scope.names (cloFrom X.env.cells scope.names [])) fp
  have pe := he s3 (upd H2 D (.lst [])) s3.heap.objs.size (cellsFrom (s3.heap.objs.size + 1) scope.names (cloFrom X.env.cells scope.names [])) fp
  show codeAny _ _ (.compStart (.ListComp elt [⟨tg, iter, ifs, 0⟩] scope pos) 0 (.ref it) (.ref D) (compEnvC scope (cellsFrom (s3.heap.objs.size + 1) scope.names (cloFrom X.env.cells scope.names [])) s3.heap.objs.size X.env)) (compEnds (model X.prog X.w) X.A X.xe use Qf (.ref D) (compEnvC scope (cellsFrom (s3.heap.objs.size + 1) scope.names (cloFrom X.env.cells scope.names [])) s3.heap.objs.size X.env)) { s3 with heap := pushCells (s3.heap.push { cls := .type "dict", data := .dict #[] }) scope.names }
  have nfp : ∀ b ∈ fp, (upd H2 D (.lst [])) b = none := fun b hb => (f3 b hb).1.1
  generalize hce : compEnvC scope (cellsFrom (s3.heap.objs.size + 1) scope.names (cloFrom X.env.cells scope.names [])) s3.heap.objs.size X.env = ce at I4 pg pt pe ⊢
  have cL : ce.locals = s3.heap.objs.size := by subst hce; rfl
  have cF : ce.frame = X.env.frame := by subst hce; rfl
  generalize hH3 : upd H2 D (.lst []) = H3 at I3 I4 pg pt pe w0 nfp f3
  generalize hs4 : ({ s3 with heap := pushCells (s3.heap.push { cls := .type "dict", data := .dict #[] }) scope.names } : Shared) = s4 at I4 ⊢
  have st4 : tn 0 s4.heap := T.keep _ _ _ st3 fun b _ o e => by rw [← hs4]; exact pushCells_keeps _ _ _ _ (Heap.get?_push_of_some _ e)
  have stat : ∀ {σ' : L2.St} {H' : Hp} {s' : Shared}, Inv (X.blk s3 H3 scope ce fp) [] σ' H' s' → (∀ b ∈ fp, H' b = none) → ∀ b ∈ fp, FpOk (X.blk s3 H3 scope ce fp) [] H' b := fun {σ' H' s'} I' hn b hb =>
    ⟨hn b hb, (I'.ok.exf b hb).1, I'.ok.exfs b hb, .inl hb, fun x c e => (I'.ok.exf b hb).2 x c e, fun p hp => absurd (show p ∈ ([] : List (Addr × Obj)) ++ [] from hp) (by simp)⟩
  have loop : codeAny (model X.prog X.w) X.A (.compLoop (.ListComp elt [⟨tg, iter, ifs, 0⟩] scope pos) 0 (.ref it) (.ref D) ce) (compEnds (model X.prog X.w) X.A X.xe use Qf (.ref D) ce) s4 := by
    refine compLoop_any (fun n s' => ∃ i H', Inv (X.blk s3 H3 scope ce fp) [] (wipe σ (own.map (·.2))) H' s' ∧ tn i s'.heap ∧ (∀ b ∈ fp, H' b = none) ∧ W i n H') ?_ m0 ⟨0, H3, I4, st4, nfp, w0⟩
    rintro n s5 ⟨i, H5, I5, st5, n5, w5⟩
    rcases turn i n H5 w5 with ⟨stop, qq⟩ | ⟨go, Nx, hNx, step⟩
    · have td := T.done (X.blk s3 H3 scope ce fp) rfl rfl rfl hc i [] s5 _ H5 (fun _ _ => False) I5 (stat I5 n5) st5 stop
      refine thnF td fun r s6 ⟨hr, I6⟩ => ?_
      subst hr
      -- back in the def's context
      have I7 : Inv X pins σ H5 s6 := I3.call' (ch := fp) I6.os I6.base I6.hok I6.bare fun b hb => ⟨(f3 b hb).1.2.2.2.1, (f3 b hb).1.2.1, (f3 b hb).1.2.2.2.2.1, (f3 b hb).1.2.2.2.2.2⟩
      have nC : H5 s3.heap.objs.size = none := by
        have z : H5 ce.locals = none := I6.free
        rw [cL] at z
        exact z
      obtain ⟨m, hn, _⟩ := I6.loc
      have hn : s6.heap.Ns ce.locals m := hn
      rw [cL] at hn
      exact hRR D s3.heap.objs.size s6 m H5 I7 qq hn (I3.fpOk (Nat.le_refl _) nC) ce cL
    · have ti := T.item (X.blk s3 H3 scope ce fp) rfl rfl rfl hc i [] s5 _ H5 (fun _ _ => False) I5 (stat I5 n5) st5 go
      refine thnF ti fun r s6 ⟨u, hr, h6⟩ => ?_
      subst hr
      refine thnF h6 fun _ s7 ⟨x, H7, I7, r7, y7, st7, n7⟩ => ?_
      have I7' := I7.pinned (stat I7 n7) (T.obj _ _ st7)
      refine thnF (pg.run _ s7 _ H7 x u _ I7' r7 (step x H7 y7)) fun _ s8 ⟨σ8, H8, I8, hw8, q8⟩ => ?_
      refine thnF (pt.run _ s8 σ8 H8 _ I8 q8) fun b s9 ⟨H9, I9, q9⟩ => ?_
      -- the turn's end
      have fin : ∀ {s' : Shared} {H' : Hp}, Inv (X.blk s3 H3 scope ce fp) ([] ++ pinsAt fp s7.heap) σ8 H' s' → Nx H' → ∃ m, m < n ∧ ∃ i H', Inv (X.blk s3 H3 scope ce fp) [] (wipe σ (own.map (·.2))) H' s' ∧ tn i s'.heap ∧ (∀ b ∈ fp, H' b = none) ∧ W i m H' := fun {s' H'} I' nx => by
        obtain ⟨m', hm, w'⟩ := hNx H' nx
        have pin' : ∀ b ∈ fp, ∀ o, s7.heap.get? b = some o → s'.heap.get? b = some o ∧ H' b = none := fun b hb o e =>
          let z := I'.pin (b, o) (List.mem_append_right _ (List.mem_append_right _ (mem_pinsAt hb e)))
          ⟨z.1, z.2.1⟩
        have hl : (wipe σ (own.map (·.2))).length = σ8.length := by rw [← hw8, wipe_length]
        refine ⟨m', hm, i + 1, H', (I'.unpinned (pins := [])).weak hl (fun j v e => ?_), T.keep _ _ _ st7 fun b hb o e => (pin' b hb o e).1, fun b hb => ?_, w'⟩
        · rw [← hw8] at e
          exact (wipe_some e).1
        · obtain ⟨o, e, _⟩ := T.obj _ _ st7 b hb
          exact (pin' b hb o e).2
      cases b with
      | false =>
        simp only [Bool.false_eq_true, if_false] at q9 ⊢
        exact fin I9 q9
      | true =>
        simp only [if_true] at q9 ⊢
        refine wpAny_mono ((pe (notedBy (model X.prog X.w) X.A ce (CompFails (model X.prog X.w) X.A X.xe ce)) (fun pins9 σ9 H9 s9 e s' I9 c9 => comp_exc hst hfr hex tk I3 (fun b hb => (f3 b hb).1) cF cL hW I9.unwish c9)).run _ s9 σ8 H9 _ (I9.wish _) q9) (fun z s10 h10 => ?_) (fun x s10 hx => ?_)
        rotate_left
        · cases use <;> exact hx
        obtain ⟨yv, H10, I10', r10, acc, hD10, hz10, nx⟩ := h10
        have I10 := I10'.unwish
        exact app_ok (X := X.blk s3 H3 scope ce fp) I10 hD10 hz10 r10 fun s11 I11 => fin I11 nx
  exact codeAny_compStart_list loop (T.self X.A 0 _ _ _ st4 loop)
theorem ps_setLcX {i : Nat} {y : Str} {py : Pos} {elt tg iter : Expr} {ifs : List Expr} {scope : Scope} {own : List (Str × Nat)} {pos spos : Pos} {wi : TI} {g : TG} {tt : TT} {te : TE} {W : WX} {EW : XK} (hst : X.stack = X.env :: X.outer) (hfr : X.env.frame = some X.env.locals) (hex : X.ex = []) (tk : Takes X W) (hW : ∀ cls d σ H, EW cls d H → W cls d σ H) (hc : X.calm = true) (hN : X.N.Nodup) (hy : X.N[i]? = some y) (hyl : X.env.scope.names.lookup y = some .local)
    (hsw : swapsWith (.ListComp elt [⟨tg, iter, ifs, 0⟩] scope pos) (some (.Name y py)) spos.line X.env = pure true) (hi : PI X tg iter wi) (ok : BlkOk X.N X.env.scope scope own)
    (hg : ∀ (s : Shared) (H : Hp) (C : Addr) (cl : List (Str × Addr)) (fp : List Addr), PG (X.blk s H scope (compEnvC scope cl C X.env) fp) tg g) (ht : ∀ (s : Shared) (H : Hp) (C : Addr) (cl : List (Str × Addr)) (fp : List Addr), PTs (X.blk s H scope (compEnvC scope cl C X.env) fp) ifs tt)
    (he : ∀ (s : Shared) (H : Hp) (C : Addr) (cl : List (Str × Addr)) (fp : List Addr) (xe : Value → Shared → Prop), Passes (L2.CX X.prog X.w) ((X.blk s H scope (compEnvC scope cl C X.env) fp).wish xe) EW → PE ((X.blk s H scope (compEnvC scope cl C X.env) fp).wish xe) elt te) (hs : ∀ x, foldedSetIterable iter X.env x = pure x := by intro _; rfl) :
    PS X (.Assign [.Name y py] (.ListComp elt [⟨tg, iter, ifs, 0⟩] scope pos) spos) (tAsg (tLc wi g tt te (own.map (·.2))) (gName i)) := by
  refine ⟨fun pins s σ H D I h => ?_⟩
  rw [exec_Assign_Name_used _ _ _ _ hsw]
  refine wpAny_bind (wpAny_standAt (wpAny_bind ?_))
  show wpAny _ X.A (do let _ ← comprehension (.ListComp elt [⟨tg, iter, ifs, 0⟩] scope pos) scope X.env (firstIterPos [⟨tg, iter, ifs, 0⟩] pos) (newList []) false (eval iter X.env) (some (assign (.Name y py) X.env))) _ _ s
  have h : tLc wi g tt te (own.map (·.2)) σ H (fun x H1 => gName i x σ H1 D.nx) := h
  refine wpAny_bind (thn (lcX_core (Qf := fun _ s' => SP X pins D .next s') hst hfr hex tk (fun c d H e => hW c d σ H e) hc hN I hi ok hg ht he hs h fun L C s' m H' I' q hn f ce hce => ?_) fun _ s' hq => wpAny_pure (wpAny_pure hq))
  show wpAny _ _ (assign (.Name y py) X.env (.ref L)) _ _ _
  refine wpAny_assign_Name (store_ok2 (v := V.ref L) I' hN hy (.inl hyl) rfl (fun s2 I2 ⟨a, sb, ha⟩ => ?_) (.inr hyl))
  obtain ⟨f0, f1, f2, f3, f4, f5⟩ := f
  have haC : C ≠ a := by
    rcases ha with z | z
    · rw [z]; exact f1
    · exact fun e => f4 y a z e.symm
  rw [hce]
  refine ⟨m, hn.sameBut sb haC, fun h3 sb3 => ?_⟩
  exact ⟨_, H', I2.turned (t' := s2.toks) (fun b o hb e => (sb3.2 b hb).trans e) f0 f1 f3 f4 f5, q⟩
end
end CC
set_option maxHeartbeats 4000000
/-! CCLcI: a comprehension read by an invariant over what is left and what is found. -/
namespace CC
open PySem PySem.Spec PyProof.Rows L2 L2H
def tLcI (src : TSrc) (g : TG) (tt : TT) (te : TE) (vs : List Nat) : TE := fun σ H Q => src σ H fun xs G H1 => ∃ (α : Type) (l : List α) (emb : α → V) (Pv : Addr → List α → List V → Hp → Prop), xs = l.map emb ∧ l.length ≤ 16777216 ∧
  (∀ D, H1 D = none → Pv D l [] (upd H1 D (.lst []))) ∧ (∀ D r acc H, Pv D r acc H → G H) ∧
  (∀ D a r acc H, Pv D (a :: r) acc H → g (emb a) (wipe σ vs) H fun σ3 H3 => wipe σ3 vs = wipe σ vs ∧ tt σ3 H3 fun b H4 => if b = true then te σ3 H4 fun y H5 => H5 D = some (.lst acc) ∧ Pv D r (acc ++ [y]) (upd H5 D (.lst (acc ++ [y]))) else Pv D r acc H4) ∧
  ∀ D acc H, Pv D [] acc H → Q (.ref D) H
theorem lc_coreI {α : Type} {l : List α} {emb : α → V} {J : It} {G : Hp → Prop} {g : TG} {tt : TT} {te : TE} {vs : List Nat} {σ : L2.St} {H1 : Hp} {Q : VK} {Pv : Addr → List α → List V → Hp → Prop} (w : Walk J l.length G (YAt (l.map emb))) (hl : l.length ≤ 16777216)
    (h0 : ∀ D, H1 D = none → Pv D l [] (upd H1 D (.lst []))) (hG : ∀ D r acc H, Pv D r acc H → G H)
    (hs : ∀ D a r acc H, Pv D (a :: r) acc H → g (emb a) (wipe σ vs) H fun σ3 H3 => wipe σ3 vs = wipe σ vs ∧ tt σ3 H3 fun b H4 => if b = true then te σ3 H4 fun y H5 => H5 D = some (.lst acc) ∧ Pv D r (acc ++ [y]) (upd H5 D (.lst (acc ++ [y]))) else Pv D r acc H4)
    (hq : ∀ D acc H, Pv D [] acc H → Q (.ref D) H) :
    ∀ D, H1 D = none → ∃ W : Nat → Nat → Hp → Prop, (∃ m, W 0 m (upd H1 D (.lst []))) ∧ ∀ i m H, W i m H →
  (J.stop i H ∧ Q (.ref D) H) ∨ (J.go i H ∧ ∃ Nx : Hp → Prop, (∀ H', Nx H' → ∃ m', m' < m ∧ W (i + 1) m' H') ∧ ∀ x H', J.yld i H x H' → upG g x (wipe σ vs) H' fun σ2 H2 => wipe σ2 vs = wipe σ vs ∧ upT tt σ2 H2 fun b H3 =>
    if b = true then up te σ2 H3 fun y H4 => ∃ acc, H4 D = some (.lst acc) ∧ acc.length < sizeLine ∧ Nx (upd H4 D (.lst (acc ++ [y]))) else Nx H3) := by
  intro D hD
  refine lc_it (Qd := fun H => Q (.ref D) H) w (fun i H => ∃ acc, acc.length ≤ i ∧ Pv D (l.drop i) acc H) ⟨[], Nat.le_refl _, h0 D hD⟩ (fun i H _ ⟨acc, _, h⟩ => hG _ _ _ _ h) (fun i x H H' hi ⟨acc, hn, p⟩ y => ?_) (fun H ⟨acc, _, h⟩ => hq D acc H (by simpa using h))
  obtain ⟨a, ha⟩ : ∃ a, l[i]? = some a := ⟨l[i], by simp [hi]⟩
  obtain ⟨y1, y2⟩ := y
  rw [List.getElem?_map, ha] at y2
  cases y2
  subst y1
  rw [drop_of ha] at p
  refine ⟨_, hs D a _ acc _ p, fun σ3 H3 ⟨q1, q2⟩ => ⟨q1, _, q2, fun b H4 q3 => ?_⟩⟩
  cases b with
  | false => exact ⟨acc, by omega, q3⟩
  | true => exact ⟨_, q3, fun v H5 ⟨k, z⟩ => ⟨_, k, by rw [sizeLine_eq]; omega, _, by rw [List.length_append, List.length_singleton]; omega, z⟩⟩
section
variable {X : Cx} {elt tg iter : Expr} {ifs : List Expr} {scope : Scope} {own : List (Str × Nat)} {pos spos py : Pos} {g : TG} {tt : TT} {te : TE} {s1 : TSrc} {i : Nat} {y : Str}
theorem lcI_of (s : PSrc X tg iter s1) {K : TE → Prop} (hK : ∀ wi, PI X tg iter wi → K (tLc wi (upG g) (upT tt) (up te) (own.map (·.2)))) : ∃ t, K t ∧ ∀ σ H Q, tLcI s1 g tt te (own.map (·.2)) σ H Q → t σ H Q := by
  obtain ⟨wi, h, k⟩ := s
  refine ⟨_, hK wi h, fun σ H Q q => k σ H _ _ q fun J xs G H1 w hG ⟨α, l, emb, Pv, e, hl, h0, hg, hs, hq⟩ => ?_⟩
  subst e
  rw [List.length_map] at w
  exact lc_coreI w hl h0 hg hs hq
theorem lcI (hc : X.calm = true) (hN : X.N.Nodup) (s : PSrc X tg iter s1) (ok : BlkOk X.N X.env.scope scope own) (hg : Oks X scope fun Y => PG Y tg g) (ht : Oks X scope fun Y => PTs Y ifs tt) (he : Oks X scope fun Y => PE Y elt te)
    (hs : ∀ x, foldedSetIterable iter X.env x = pure x := by intro _; rfl) : PE X (.ListComp elt [⟨tg, iter, ifs, 0⟩] scope pos) (tLcI s1 g tt te (own.map (·.2))) := by
  obtain ⟨t, h, i⟩ := lcI_of (K := fun t => PE X (.ListComp elt [⟨tg, iter, ifs, 0⟩] scope pos) t) s (g := g) (tt := tt) (te := te) (own := own) fun wi hi => pe_lc hc hN hi ok (fun s H C cl fp => upPG (hg s H C cl fp)) (fun s H C cl fp => upPTs (ht s H C cl fp)) (fun s H C cl fp => upPE (he s H C cl fp)) hs
  exact impPE h i
theorem setLcI (hc : X.calm = true) (hN : X.N.Nodup) (hsw : swapsWith (.ListComp elt [⟨tg, iter, ifs, 0⟩] scope pos) (some (.Name y py)) spos.line X.env = pure true) (s : PSrc X tg iter s1) (ok : BlkOk X.N X.env.scope scope own) (hg : Oks X scope fun Y => PG Y tg g) (ht : Oks X scope fun Y => PTs Y ifs tt) (he : Oks X scope fun Y => PE Y elt te)
    (hy : X.N[i]? = some y := by rfl) (hyl : X.env.scope.names.lookup y = some .local := by rfl) (hs : ∀ x, foldedSetIterable iter X.env x = pure x := by intro _; rfl) : PS X (.Assign [.Name y py] (.ListComp elt [⟨tg, iter, ifs, 0⟩] scope pos) spos) (tAsg (tLcI s1 g tt te (own.map (·.2))) (gName i)) := by
  obtain ⟨t, h, j⟩ := lcI_of (K := fun t => PS X (.Assign [.Name y py] (.ListComp elt [⟨tg, iter, ifs, 0⟩] scope pos) spos) (tAsg t (gName i))) s (g := g) (tt := tt) (te := te) (own := own) fun wi hi => ps_setLc hc hN hy hyl hsw hi ok (fun s H C cl fp => upPG (hg s H C cl fp)) (fun s H C cl fp => upPTs (ht s H C cl fp)) (fun s H C cl fp => upPE (he s H C cl fp)) hs
  exact impPS h fun D σ H q => j _ _ _ q
/-- the same, and the element may raise -/
theorem setLcIX {W : WX} (hst : X.stack = X.env :: X.outer) (hfr : X.env.frame = some X.env.locals) (hex : X.ex = []) (tk : Takes X W) (hc : X.calm = true) (hN : X.N.Nodup) (hsw : swapsWith (.ListComp elt [⟨tg, iter, ifs, 0⟩] scope pos) (some (.Name y py)) spos.line X.env = pure true) (s : PSrc X tg iter s1) (ok : BlkOk X.N X.env.scope scope own) (hg : Oks X scope fun Y => PG Y tg g) (ht : Oks X scope fun Y => PTs Y ifs tt)
    (he : ∀ (s : Shared) (H : Hp) (C : Addr) (cl : List (Str × Addr)) (fp : List Addr) (xe : Value → Shared → Prop), Passes (L2.CX X.prog X.w) ((X.blk s H scope (compEnvC scope cl C X.env) fp).wish xe) (fun c d H => ∀ σ, W c d σ H) → PE ((X.blk s H scope (compEnvC scope cl C X.env) fp).wish xe) elt te)
    (hy : X.N[i]? = some y := by rfl) (hyl : X.env.scope.names.lookup y = some .local := by rfl) (hs : ∀ x, foldedSetIterable iter X.env x = pure x := by intro _; rfl) : PS X (.Assign [.Name y py] (.ListComp elt [⟨tg, iter, ifs, 0⟩] scope pos) spos) (tAsg (tLcI s1 g tt te (own.map (·.2))) (gName i)) := by
  obtain ⟨t, h, j⟩ := lcI_of (K := fun t => PS X (.Assign [.Name y py] (.ListComp elt [⟨tg, iter, ifs, 0⟩] scope pos) spos) (tAsg t (gName i))) s (g := g) (tt := tt) (te := te) (own := own) fun wi hi => ps_setLcX hst hfr hex tk (EW := fun c d H => ∀ σ, W c d σ H) (fun _ _ σ _ h => h σ) hc hN hy hyl hsw hi ok (fun s H C cl fp => upPG (hg s H C cl fp)) (fun s H C cl fp => upPTs (ht s H C cl fp)) (fun s H C cl fp xe hx => upPE (he s H C cl fp xe hx)) hs
  exact impPS h fun D σ H q => j _ _ _ q
end
end CC
set_option maxHeartbeats 4000000
/-! CCLocal: a local name that holds a class is called. -/
namespace CC
open PySem PySem.Spec PyProof.Rows L2 StX
def tMakeL (i : Nat) (C : Addr) (sp : Sp) (E : XK) (t : TA) : TE := fun σ H Q => σ[i]? = some (some (.ref C)) ∧ tMakeR C sp E t σ H Q
theorem pe_mkL {X : Cx} {CX : CXT} {k j i : Nat} {f C : Addr} {sp : Sp} {E : XK} {x : Str} {p pos : Pos} {e : Expr} {es : List Expr} {t : TA} (M : Mk X.K C f) (F : FnR X.prog X.w X.K X.mg X.base CX k f sp) (hr : Room j X.A) (hx : Passes CX X E) (ha : PA X (e :: es) t) (hN : X.N[i]? = some x := by rfl) (hv : Vis X.env.scope x := by first | exact Or.inl rfl | exact Or.inr (Or.inl rfl) | exact Or.inr (Or.inr rfl)) (hle : k + 1 ≤ j := by decide)
    (hdb : (x == ("__debug__" : Str)) = false := by decide) (hcd : (x == ("__classdict__" : Str)) = false := by decide)
    (he : starEach (e :: es) X.env = (false, eval e X.env) :: starEach es X.env := by rfl) (hpl : (backTo pos (starEach es X.env)).any (·.1) = false := by rfl) : PE X (.Call (.Name x p) (e :: es) [] pos) (tMakeL i C sp E t) := by
  refine ⟨fun pins s σ H Q I h => ?_⟩
  obtain ⟨hs, ht⟩ := h
  refine wpAny_Call_Name_kw (thn ((pe_var (pos := p) hN hv hdb hcd).run pins s σ H (fun v H1 => v = .ref C ∧ H1 = H) I ⟨.ref C, hs, rfl, rfl⟩) fun u s1 ⟨v, H1, I1, r1, q1⟩ => ?_)
  obtain ⟨rfl, rfl⟩ := q1
  cases r1
  refine PySem.W.callWith_K (h₀ := X.base) I.ok.mod.kin M.kp (thn (ha.run pos pins s1 σ _ _ I1 ht) fun us s2 ⟨vs, H2, I2, r, q⟩ => ⟨I2.kIn, ?_⟩) he hpl
  exact run_makeR M F (hr.mono hle) hx I2 r q
end CC
set_option maxHeartbeats 4000000
/-! CCRules2: d.get(k, x) of a dict of the written part, k there. -/
namespace CC
open PySem PySem.Spec PyProof.Rows L2
def tKGet2 (K : PySem.W.Frag) (d : Addr) (td ty tx : TE) : TE := fun σ H Q => td σ H fun x H1 => x = .ref d ∧ ty σ H1 fun y H2 => tx σ H2 fun _ H3 => ∃ z, y = .str z ∧ ∃ u0, PySem.W.nsIn K d z = some (some u0) ∧ ∃ v, RelV v u0 ∧ Q v H3
theorem pe_kget2 {X : Cx} {d : Addr} {es : Array DictEntry} {n : Nat} {o e f : Expr} {apos cpos : Pos} {td ty tx : TE} (D : KDict X.K X.w d es n) (ho : PE X o td) (he : PE X e ty) (hf : PE X f tx) (m : M2 X o "get" apos e f cpos) : PE X (.Call (.Attribute o "get" apos) [e, f] [] cpos) (tKGet2 X.K d td ty tx) := by
  refine ⟨fun pins s σ H Q I h => ?_⟩
  refine wpAny_Call_method m.base m.few m.line PySem.F.plainAttrs_dict PySem.F.slot_dict_get PySem.F.type_dict_get (thn (ho.run pins s σ H _ I h) fun u s1 ⟨x, H1, I1, rx, ex, q1⟩ => ?_)
  subst ex
  obtain rfl : u = Value.ref d := rx
  refine ⟨kd_type D I1, fun b eb => (by cases eb; exact ⟨_, I1.kIn _ _ D.at_, rfl⟩), ?_⟩
  rw [m.trees]
  refine Calls.callWith_builtin rfl (Calls.evalArgs_plain (Calls.spliced_cons (thn (he.run pins s1 σ H1 _ I1 q1) fun iv s2 ⟨y, H2, I2, ry, q2⟩ =>
    Calls.spliced_cons (thn (hf.run pins s2 σ H2 _ I2 q2) fun fv s3 ⟨w', H3, I3, rw', z, ey, u0, hn, v, rv, q3⟩ => Calls.spliced_nil ?_))))
  subst ey
  obtain ⟨t, rfl⟩ := ry
  refine call_meetsIn PySem.F.slot_dict_get (kd_type D I3) PySem.F.entry_dict_get (PySem.F.args_dict_get_3 _ _ _) (meets_dict_get_default (strKind X.prog X.w) d (PySem.strKind_is X.prog X.w z t) D.low fv) ⟨_, PySem.W.mapOf_K (prog := X.prog) I3.kIn D.at_ D.lit, ?_⟩
  rw [PySem.W.find_K D.at_ hn]
  exact ⟨v, H3, I3.tok _, rv, q3⟩
end CC
set_option maxHeartbeats 4000000
/-! CCSet: set(list of ints), then sorted. -/
namespace CC
open PySem PySem.Spec PyProof.Rows L2
section
variable {P : Program} {w : World} {A : Around} {E : Value → Shared → Prop} {s : Shared}
set_option maxHeartbeats 6400000 in
theorem cc_set_listI {l : Addr} {items : Array Value} (ns : List Int) {Q : Value → Shared → Prop} (hh : A.handled = none) (hl : s.heap.IsList l items) (hit : IntsAre items.toList ns) (hb : ns.length + 1 < scanBound)
    (h : ∀ (h' : Heap) (tk c : Nat), SetR w h' s.heap.objs.size (fun j => decide (j ∈ ns)) c → c ≤ ns.length → (∀ b o, s.heap.get? b = some o → h'.get? b = some o) → Q (.ref s.heap.objs.size) { s with heap := h', toks := tk }) :
    wpAny (model P w) A (call (.type "set") [.ref l]) Q E s := by
  have hisz : items.size = ns.length := by
    have q := IntsAre.length hit
    rw [Array.length_toList] at q
    exact q
  obtain ⟨c, tl, hmro⟩ := F.called_set.mro
  have hmade := F.called_set.made
  have hsub := F.called_set.sub
  refine wpAny_call (codeAny_of_tree ?_)
  show wpAny _ _ (callAny (.type "set") _) _ _ _
  refine wpAny_pure ⟨Code.quiet_builtin _ (by decide +kernel), codeAny_builtin F.entry_type_call ?_⟩
  rw [Around.under_plain (weight_type_call_type "set" [.ref l] []) rfl]
  have h1 := F.called_set.notType
  have h2 := F.called_set.canCreate
  have hct := F.typeCall_set_1 (.ref l)
  repeat (any_goals (first | assumption | wp_step))

  refine codeAny_mono (code_set_led1 (.ref l) (E := E) (Q₁ := fun obj s₁ => obj = .ref s.heap.objs.size ∧ s₁ = { s with heap := s.heap.push { cls := .type "set", dict := none, data := .set #[] 0 (.fresh 0 0 (!w.params.followText "set-order")) } }) ⟨rfl, rfl⟩) fun r s₁ hr => ?_
  cases r with
  | error e => exact hr
  | ok fl =>
    cases fl with
    | ret obj =>
      obtain ⟨rfl, rfl⟩ := hr
      have hS : (s.heap.push { cls := .type "set", dict := none, data := .set #[] 0 (.fresh 0 0 (!w.params.followText "set-order")) }).get? s.heap.objs.size = some { cls := .type "set", dict := none, data := .set #[] 0 (.fresh 0 0 (!w.params.followText "set-order")) } := Heap.get?_push_size _ rfl
      have hT : Shared.TypeIs { s with heap := s.heap.push { cls := .type "set", dict := none, data := .set #[] 0 (.fresh 0 0 (!w.params.followText "set-order")) } } (.ref s.heap.objs.size) "set" := ⟨_, hS, rfl⟩
      have hli := F.called_set.init.lookup
      have hbi := F.called_set.init.bind (.ref s.heap.objs.size)
      repeat (any_goals (first | assumption | wp_step))

      refine codeAny_mono (codeAny_call_builtin (R := wants (fun r s₂ => r = .none ∧ ∃ h' tk c, s₂ = { s with heap := h', toks := tk } ∧ SetR w h' s.heap.objs.size (fun j => decide (j ∈ ns)) c ∧ c ≤ ns.length ∧
          (∀ b o, s.heap.get? b = some o → h'.get? b = some o)) E) F.called_set.init.plain F.entry_set_init (check_set_init_1 hT ?_)) fun r₂ s₂ hr₂ => ?_
      · obtain ⟨ol, hol, hcl, nl, hdl⟩ := hl
        obtain ⟨ocls, odict, odata, oslots⟩ := ol
        simp only at hcl hdl
        subst hcl; subst hdl
        have hol' : (s.heap.push { cls := .type "set", dict := none, data := .set #[] 0 (.fresh 0 0 (!w.params.followText "set-order")) }).get? l = some { cls := .type "list", dict := odict, data := .seq items nl, slots := oslots } := Heap.get?_push_of_some _ hol
        have hsls := F.sub_list_set
        have hslf := F.sub_list_frozenset
        have hne : (Value.type "list" == Value.type "dict") = false := by decide
        have hl1 : (s.heap.push { cls := .type "set", dict := none, data := .set #[] 0 (.fresh 0 0 (!w.params.followText "set-order")) }).IsList l items := ⟨_, hol', rfl, nl, rfl⟩
        unfold Builtin.«set.__init__» noKeywords Builtin.Frozenset.updateFrom
        generalize hPI : pyIter = PI
        wp_walk
        subst hPI

        refine wpAny_pyIter_list hl1 ?_
        refine wpAny_bind (wpAny_runValue ?_)
        have hlS : l < s.heap.objs.size := Heap.lt_size hol
        have hh3 : A.in1.in1.in1.handled = none := by simp [hh]
        have hz1 : (s.heap.push { cls := .type "set", dict := none, data := .set #[] 0 (.fresh 0 0 (!w.params.followText "set-order")) }).objs.size = s.heap.objs.size + 1 := Heap.size_push ..
        have hneI : l ≠ (s.heap.push { cls := .type "set", dict := none, data := .set #[] 0 (.fresh 0 0 (!w.params.followText "set-order")) }).objs.size := by
          rw [Heap.size_push]; exact Nat.ne_of_lt (Nat.lt_succ_of_lt hlS)
        have hSf : s.heap.objs.size ∉ [(s.heap.push { cls := .type "set", dict := none, data := .set #[] 0 (.fresh 0 0 (!w.params.followText "set-order")) }).objs.size, l] := by
          rw [Heap.size_push]; simp only [List.mem_cons, List.mem_singleton, List.not_mem_nil, or_false, not_or]
          exact ⟨Nat.ne_of_lt (Nat.lt_succ_self _), Nat.ne_of_gt hlS⟩
        have hval : ∀ (i : Nat) (v : Value), items[i]? = some v → ∃ k t, ns[i]? = some k ∧ v = .int k t := fun i v hv => by
          have hi : i < ns.length := by rw [← hisz]; exact (Array.getElem?_eq_some_iff.mp hv).1
          obtain ⟨t, e⟩ := PyProof.Rows.IntsAre.int_at hit i v (by rw [Array.getElem?_toList]; exact hv)
          refine ⟨ns[i], t, List.getElem?_eq_getElem hi, ?_⟩
          rw [e, List.getD_eq_getElem?_getD, List.getElem?_eq_getElem hi] <;> rfl
        refine set_update_ints ((Walks.list hh3 _ l hneI items).toS) s.heap.objs.size
          hSf ns hisz hb hval (items.size - 0) 0 _ (by omega) (Nat.zero_le _)
          ⟨⟨_, Heap.get?_push_size _ rfl, rfl, rfl⟩, (hl1.push _)⟩ ?hS0 ?hR
        case hS0 =>
          have hget : ((s.heap.push { cls := .type "set", dict := none, data := .set #[] 0 (.fresh 0 0 (!w.params.followText "set-order")) }).push { cls := .type "list_iterator", data := .fields #[.ref l, .int 0 0] }).get? s.heap.objs.size
              = some { cls := .type "set", dict := none, data := .set #[] 0 (.fresh 0 0 (!w.params.followText "set-order")) } := Heap.get?_push_of_some _ hS
          exact ⟨0, Nat.le_refl 0, setR_new_at hget⟩
        case hR =>
          intro s' c' hm hc' hS'
          obtain ⟨h', g2, d', tk', os'⟩ := s'
          have eg : g2 = s.gens := hm.gens
          have ed : d' = s.drawn := hm.drawn
          have eo : os' = s.os := hm.os
          subst eg; subst ed; subst eo
          show wpAny _ _ _ _ _ _
          refine wpAny_pure ?_
          show wpAny _ _ (ret Value.none) _ _ _
          rw [hisz] at hc'
          refine wpAny_pure ⟨rfl, h', tk', c', rfl, hS', hc', fun b o e => ?_⟩
          have hb0 : b < s.heap.objs.size := Heap.lt_size e
          have hb1 : b ≠ s.heap.objs.size := Nat.ne_of_lt hb0
          have hb2 : b ≠ (s.heap.push { cls := .type "set", dict := none, data := .set #[] 0 (.fresh 0 0 (!w.params.followText "set-order")) }).objs.size := by
            rw [Heap.size_push]; exact Nat.ne_of_lt (Nat.lt_succ_of_lt hb0)
          exact hm.heap b o (by simp only [List.mem_cons, List.mem_singleton, List.not_mem_nil, or_false, not_or]; exact ⟨hb1, hb2⟩) (Heap.get?_push_of_some _ (Heap.get?_push_of_some _ e))

      · cases r₂ with
        | error e => exact hr₂
        | ok fl₂ =>
          cases fl₂ with
          | ret r =>
            obtain ⟨rfl, h', tk, c', rfl, hS', hc', hk'⟩ := hr₂
            repeat (any_goals (first | assumption | wp_step))
            exact h _ _ _ hS' hc' hk'
          | _ => exact hr₂.elim
    | _ => exact hr.elim

end
section
variable {X : Cx}
def rSetI (w : World) : List V → Hp → VK → Prop := fun vs H Q => ∃ (p : Addr) (ns : List Int), vs = [.ref p] ∧ lstO (H p) = some (ns.map V.int) ∧ ns.length < 1000 ∧ ∀ q c, H q = none → c ≤ ns.length → Q (.ref q) (upd H q (SetO w q (fun j => decide (j ∈ ns)) c))
theorem call_setI (hc : X.calm = true) : CallR X (.type "set") (rSetI X.w) := by
  intro pins s σ H vs us Q I r ⟨p, ns, e, hp, hn, q⟩
  subst e
  rw [Vals.ref1 r]
  obtain ⟨its, rv, pl, hz⟩ := I.list (.of (of_lstO hp))
  refine cc_set_listI ns (I.ok.hd hc) pl.isList (by simpa using ints_of_vals rv) (by unfold scanBound; omega) fun h' tk c R hc' k => ?_
  have hq := I.hok.fresh (Nat.le_refl s.heap.objs.size)
  exact ⟨.ref _, _, I.laid (t' := tk) k (Nat.le_refl _) (setO_new R), rfl, q _ c hq hc'⟩
end
end CC
set_option maxHeartbeats 4000000
namespace CC
open PySem PySem.Spec PyProof.Rows L2
local macro_rules | `(tactic| walk_at "rd") => `(tactic| simp only [tVar, tC, tOp, tUn, rI0, rI, rU, rEq, rNe, tTest, tB, tAnd, tOr, tNot, tAndV, tOrV, tNotV, tIf, tChain, tIfS, tRet, tRetN, tSeq, tNext, tAsg, gName, tDrop, tCons, tNil, tCB, tCR, tTup, tLst, rIsF, tyN_non, tyN_bl, tyN_int, tyN_str, tyN_ref, isB_1, isB_2, isB_3, isB_4, isB_5, isB_6, isB_7, isB_8, tyO_tup, tyO_lst, tyO_dK, tyO_frz, rIxG, rLenG, rInG, rAllG, rSumG, rListG, rTupG, tLcF, tLcP, tForF, tForP, srcTup, srcLst, srcStr, srcRng, srcEnum, srcZip, srcEnumT, tYes, wipe, gTupG, gCons, gNil, tStarG, tSl, rSlTG, rSlLG, rCatTG, rRep, tJoinG, rSortedSG, tApp, tExd, tupO_tup, lstO_lst, seqO_tup, seqO_lst, dKO_dK, tNoPart, tPart, tFl, sFl, tSls, sSls, tMeS, tPrS, tPrF, tMethR, tMake, sFlAug, rLenS, L2.start, List.map_cons, List.map_nil, List.length_cons, List.length_nil, Nat.zero_add, Nat.reduceAdd, Nat.reduceSub, List.replicate_succ, List.replicate_zero, List.forall_mem_map, List.cons_append, List.nil_append, List.getElem?_cons_succ, List.getElem?_cons_zero, List.set_cons_zero, List.set_cons_succ, Option.some.injEq, V.int.injEq, V.str.injEq, V.bl.injEq, V.ref.injEq, V.ty.injEq, List.cons.injEq, HO.tup.injEq, HO.lst.injEq, HO.ins.injEq, reduceCtorEq, exists_eq_left', exists_eq_left, exists_eq_right', exists_eq_right, exists_and_left, exists_and_right, and_true, true_and, and_false, false_and, or_false, false_or, or_true, true_or, exists_const, exists_eq', exists_eq, scal_ii, scal_ss, scal_bb, scal_nn, scal_ns, scal_sn, upd_same, if_true, if_false, ite_true, ite_false, Bool.not_true, Bool.not_false, Bool.true_and, Bool.and_true, Bool.false_eq_true, decide_true, decide_false, sz1, atI_0, atI_1, and_assoc])
local macro_rules | `(tactic| walk_at "rh") => `(tactic| simp only [*, tVar, tC, tOp, tUn, rI0, rI, rU, rEq, rNe, tTest, tB, tAnd, tOr, tNot, tAndV, tOrV, tNotV, tIf, tChain, tIfS, tRet, tRetN, tSeq, tNext, tAsg, gName, tDrop, tCons, tNil, tCB, tCR, tTup, tLst, rIsF, tyN_non, tyN_bl, tyN_int, tyN_str, tyN_ref, isB_1, isB_2, isB_3, isB_4, isB_5, isB_6, isB_7, isB_8, tyO_tup, tyO_lst, tyO_dK, tyO_frz, rIxG, rLenG, rInG, rAllG, rSumG, rListG, rTupG, tLcF, tLcP, tForF, tForP, srcTup, srcLst, srcStr, srcRng, srcEnum, srcZip, srcEnumT, tYes, wipe, gTupG, gCons, gNil, tStarG, tSl, rSlTG, rSlLG, rCatTG, rRep, tJoinG, rSortedSG, tApp, tExd, tupO_tup, lstO_lst, seqO_tup, seqO_lst, dKO_dK, tNoPart, tPart, tFl, sFl, tSls, sSls, tMeS, tPrS, tPrF, tMethR, tMake, sFlAug, rLenS, L2.start, List.map_cons, List.map_nil, List.length_cons, List.length_nil, Nat.zero_add, Nat.reduceAdd, Nat.reduceSub, List.replicate_succ, List.replicate_zero, List.forall_mem_map, List.cons_append, List.nil_append, List.getElem?_cons_succ, List.getElem?_cons_zero, List.set_cons_zero, List.set_cons_succ, Option.some.injEq, V.int.injEq, V.str.injEq, V.bl.injEq, V.ref.injEq, V.ty.injEq, List.cons.injEq, HO.tup.injEq, HO.lst.injEq, HO.ins.injEq, reduceCtorEq, exists_eq_left', exists_eq_left, exists_eq_right', exists_eq_right, exists_and_left, exists_and_right, and_true, true_and, and_false, false_and, or_false, false_or, or_true, true_or, exists_const, exists_eq', exists_eq, scal_ii, scal_ss, scal_bb, scal_nn, scal_ns, scal_sn, upd_same, if_true, if_false, ite_true, ite_false, Bool.not_true, Bool.not_false, Bool.true_and, Bool.and_true, Bool.false_eq_true, decide_true, decide_false, sz1, atI_0, atI_1, and_assoc])
section
variable {P : Program} {w : World} {K : PySem.W.Frag} {mg : Str → Option Value} {base : Heap}
/-- is_number of an int -/
def spIsNumber : Sp := fun vs H Q _ => ∃ i lo hi : Int, vs = [.int i, .int lo, .int hi] ∧ Q (.bl (decide (lo ≤ i) && decide (i ≤ hi))) H
theorem ok_is_number (T : Txt K mg w) : OkF P w K mg base CX0 2 (gA K "is_number") ["value", "smallest", "largest"] spIsNumber := by
  refine mk0 (k := 1) T.d_is_number sc_is_number (fun _ _ _ _ _ _ us hl => match us, hl with | [_, _, _], _ => rfl) (fun vs H Q E h => ?_) (fun cdv A outer s H vs Q E hr h => ?_)
  · obtain ⟨i, lo, hi, rfl, _⟩ := h
    rfl
  · obtain ⟨i, lo, hi, rfl, q⟩ := h
    refine ⟨_, (pss_one (ps_ret (pe_and (pe_callB call_isiF rfl T.b_isinstance (by decide +kernel) (pa_cons (pv 0) (pa_cons (pe_ty "int" T.b_int) pa_nil))) (pe_and (pe_not (pe_callB call_isiF rfl T.b_isinstance (by decide +kernel) (pa_cons (pv 0) (pa_cons (pe_ty "bool" T.b_bool) pa_nil)))) (pe_one (pe_chain op_le op_le (pv 1) (pv 0) (pv 2))))))), ?_⟩
    walk_at "rd"
    by_cases h : lo ≤ i
    · simpa [h] using q
    · simpa [h] using q
def spIsWord : Sp := fun vs H Q _ => ∃ z : Str, vs = [.str z] ∧ z.length ≤ 1000 ∧ ∀ H', Ext H H' → Q (.bl (isWordB z)) H'
theorem ok_is_word (T : Txt K mg w) : OkF P w K mg base CX0 3 (gA K "is_word") ["value"] spIsWord := by
  refine mk0 (k := 2) T.d_is_word sc_is_word (fun _ _ _ _ _ _ us hl => match us, hl with | [_], _ => rfl) (fun vs H Q E h => ?_) (fun cdv A outer s H vs Q E hr h => ?_)
  · obtain ⟨z, rfl, _⟩ := h
    rfl
  · obtain ⟨z, rfl, hz, q⟩ := h
    refine ⟨_, (pss_cons (ps_if (PW.pt (pw_or (pt_not (pt_val (pe_callB call_isiF rfl T.b_isinstance (by decide +kernel) (pa_cons (pv 0) (pa_cons (pe_ty "str" T.b_str) pa_nil))))) (pw_or1 (pt_not (pt_chain op_le op_le pe_int (pe_callB call_len_str rfl T.b_len PySem.boot_len (pa_cons (pv 0) pa_nil)) (pe_gi T.c_MAX_LETTERS)))))) (pss_one (ps_ret pe_bl)) pss_nil)
    (pss_one (ps_ret (pe_callB (cr_allG rfl) rfl T.b_all (by decide +kernel) (pa_cons (lcF (own := [("letter", 1)]) rfl sc_is_word.nd (sr_str (pv 0)) (blkOk_by (N := n_is_word) (sc := defScope s_is_word) (by decide +kernel)) (fun _ _ _ _ _ => (pg_name (i := 1) sc_is_word.nd rfl (.inl rfl))) (fun _ _ _ _ _ => pts_nil) (fun _ _ _ _ _ => (pe_cmpR op_in_sign (pv 1) (pe_gs T.c_LETTERS) rfl))) pa_nil))))), ?_⟩
    walk_at "rd"
    refine ⟨by omega, ?_⟩
    by_cases h1 : (1 : Int) ≤ z.length
    · by_cases h2 : (z.length : Int) ≤ 8
      · rw [if_pos (by simpa using h1), if_neg (by simpa using h2)]
        refine ⟨_, z.cps.toList, _, rfl, by simp; have : z.cps.size = z.length := rfl; omega, fun c => some (.bl (decide (c ∈ lettersS.cps.toList))), fun c hc H2 e => ?_, fun D H2 hD e hl => ?_⟩
        · walk_at "rd"
          exact ⟨c, rfl, .refl _, rfl⟩
        · rw [hl]
          refine ⟨z.cps.toList.map fun c => decide (c ∈ lettersS.cps.toList), by simp [lstO], ?_⟩
          have := q H2 e
          simpa [isWordB, h1, h2] using this
      · rw [if_pos (by simpa using h1), if_pos (by simpa using h2)]
        simpa [isWordB, h2] using q H (.refl H)
    · rw [if_neg (by simpa using h1)]
      simpa [isWordB, h1] using q H (.refl H)
def spIsDoor : Sp := fun vs H Q _ => ∃ (a : Addr) (d : Int × Int), vs = [.ref a] ∧ DoorAt H a d ∧ ((1 ≤ d.1 ∧ d.1 ≤ 9) ∧ 1 ≤ d.2 ∧ d.2 ≤ 2) ∧ ∀ H', Ext H H' → Q (.bl true) H'
theorem ok_is_door (T : Txt K mg w) : OkF P w K mg base CX0 4 (gA K "is_door") ["value"] spIsDoor := by
  have F_is_number := ok_is_number (P := P) (base := base) T
  refine mk0 (k := 3) T.d_is_door sc_is_door (fun _ _ _ _ _ _ us hl => match us, hl with | [_], _ => rfl) (fun vs H Q E h => ?_) (fun cdv A outer s H vs Q E hr h => ?_)
  · obtain ⟨a, d, rfl, _⟩ := h
    rfl
  · obtain ⟨a, d, rfl, ha, ⟨⟨b1, b2⟩, b3, b4⟩, q⟩ := h
    refine ⟨_, (pss_cons (ps_if (PW.pt (pw_or (pt_not (pt_val (pe_callB call_isiF rfl T.b_isinstance (by decide +kernel) (pa_cons (pv 0) (pa_cons (pe_ty "tuple" T.b_tuple) pa_nil))))) (pw_or1 (pt_cmpR op_ne (pe_callB call_lenG rfl T.b_len PySem.boot_len (pa_cons (pv 0) pa_nil)) pe_int (nomark _))))) (pss_one (ps_ret pe_bl)) pss_nil)
    (pss_one (ps_ret (pe_and (pe_cR F_is_number.raw hr T.g_is_number pass0 (pa_cons (pe_ix ix_G (pv 0) pe_int (fun _ _ => rfl)) (pa_cons pe_int (pa_cons (pe_gi T.c_MAX_WARMTH) pa_nil)))) (pe_one (pe_cR F_is_number.raw hr T.g_is_number pass0 (pa_cons (pe_ix ix_G (pv 0) pe_int (fun _ _ => rfl)) (pa_cons pe_int (pa_cons (pe_gi T.c_MAX_BEHIND) pa_nil))))))))), ?_⟩
    have q1 := q H (.refl H)
    have ha : H a = some (.tup [.int d.1, .int d.2]) := ha
    walk_at "rh"
    simp only [spIsNumber]
    walk_at "rh"
    simp [show d.1 ≤ 99 by omega, show d.2 ≤ 4 by omega, q1]
def spAreDoors : Sp := fun vs H Q _ => ∃ (a : Addr) (ds : Doors), vs = [.ref a] ∧ DoorsAt H a ds ∧ DsOk ds ∧ ∀ H', Ext H H' → Q (.bl true) H'
theorem ok_are_doors (T : Txt K mg w) : OkF P w K mg base CX0 5 (gA K "are_doors") ["row"] spAreDoors := by
  have F_is_door := ok_is_door (P := P) (base := base) T
  refine mk0 (k := 4) T.d_are_doors sc_are_doors (fun _ _ _ _ _ _ us hl => match us, hl with | [_], _ => rfl) (fun vs H Q E h => ?_) (fun cdv A outer s H vs Q E hr h => ?_)
  · obtain ⟨a, d, rfl, _⟩ := h
    rfl
  · obtain ⟨a, ds, rfl, ⟨l, ha, hm, hR⟩, D, q⟩ := h
    have hlen : l.length = ds.length := by rw [← hm, List.length_map]
    have d1 := D.d1
    have d2 := D.d2
    refine ⟨_, (pss_cons (ps_if (PW.pt (pw_or (pt_not (pt_chain op_le op_le pe_int (pe_callB call_lenG rfl T.b_len PySem.boot_len (pa_cons (pv 0) pa_nil)) (pe_gi T.c_MAX_DOORS))) (pw_or1 (pt_not (pt_val (pe_callB (cr_allG rfl) rfl T.b_all (by decide +kernel) (pa_cons (lcF (own := [("door", 1)]) rfl sc_are_doors.nd (sr_tup (pv 0)) (blkOk_by (N := n_are_doors) (sc := defScope s_are_doors) (by decide +kernel)) (fun _ _ _ _ _ => (pg_name (i := 1) sc_are_doors.nd rfl (.inl rfl))) (fun _ _ _ _ _ => pts_nil) (fun _ _ _ _ _ => (pe_cR F_is_door.raw hr T.g_is_door pass0 (pa_cons (pv 1) pa_nil)))) pa_nil))))))) (pss_one (ps_ret pe_bl)) pss_nil)
    (pss_one (ps_ret (pe_cmpR op_le (pe_callB (cr_sumG rfl) rfl T.b_sum (by decide +kernel) (pa_cons (lcF (own := [("warmth", 2), ("places", 3)]) rfl sc_are_doors.nd (sr_tup (pv 0)) (blkOk_by (N := n_are_doors) (sc := defScope s_are_doors) (by decide +kernel)) (fun _ _ _ _ _ => (pg_tupG (n := 2) rfl (pgs_cons (pg_name (i := 2) sc_are_doors.nd rfl (.inl rfl)) (pgs_cons (pg_name (i := 3) sc_are_doors.nd rfl (.inl rfl)) pgs_nil)))) (fun _ _ _ _ _ => pts_nil) (fun _ _ _ _ _ => (pv 3))) pa_nil)) (pe_gi T.c_MAX_PLACES) (nomark _))))), ?_⟩
    walk_at "rh"
    rw [if_pos (by simp; omega), if_neg (by simp; omega)]
    refine ⟨_, l, fun q => .ref q.1, rfl, by omega, fun _ => some (.bl true), fun r hrl H2 e => ?_, fun B H2 hB e hl2 => ?_⟩
    · simp only [spIsDoor]
      walk_at "rh"
      have hd : r.2 ∈ ds := by rw [← hm]; exact List.mem_map_of_mem hrl
      obtain ⟨⟨b1, b2⟩, b3, b4⟩ := D.dw _ hd
      exact ⟨r.2, e _ _ (hR r hrl), b1, b2, b3, b4, fun _ z => z⟩
    · walk_at "rh"
      refine ⟨l.map fun _ => true, by simp, ?_⟩
      rw [if_neg (by simp)]
      have ha2 := e _ _ ha
      walk_at "rh"
      refine ⟨_, l, fun q => .ref q.1, rfl, by omega, fun q => some (.int q.2.2), fun r hrl H3 e3 => ?_, fun B H3 hB e3 hl3 => ?_⟩
      · have hr1 : H3 r.1 = some (.tup [.int r.2.1, .int r.2.2]) := e3 _ _ (e _ _ (hR r hrl))
        walk_at "rh"
        exact .refl _
      · walk_at "rh"
        refine ⟨l.map fun q => q.2.2, by simp, ?_⟩
        have : (l.map fun q => q.2.2).sum = pls ds := by rw [← hm, pls, List.map_map]; rfl
        rw [this]
        have := D.ps
        have := q H3 (e.trans e3)
        simpa [show pls ds ≤ 6 by omega] using this
def spAreCrates : Sp := fun vs H Q _ => ∃ (a : Addr) (s : Sto), vs = [.ref a, .int (pls s.ds)] ∧ H a = some (.tup (s.cs.map V.str)) ∧ s.Ok ∧ ∀ H', Ext H H' → Q (.bl true) H'
theorem ok_are_crates (T : Txt K mg w) : OkF P w K mg base CX0 5 (gA K "are_crates") ["row", "places"] spAreCrates := by
  have F_is_word := ok_is_word (P := P) (base := base) T
  refine mk0 (k := 4) T.d_are_crates sc_are_crates (fun _ _ _ _ _ _ us hl => match us, hl with | [_, _], _ => rfl) (fun vs H Q E h => ?_) (fun cdv A outer s H vs Q E hr h => ?_)
  · obtain ⟨a, d, rfl, _⟩ := h
    rfl
  · obtain ⟨a, st, rfl, ha, D, q⟩ := h
    have n1 := D.n1
    have n3 := D.n3
    have np := D.np
    have hl := Sto.cs_len D
    refine ⟨_, (pss_cons (ps_if (PW.pt (pw_or (pt_not (pt_chain op_le op_le pe_int (pe_callB call_lenG rfl T.b_len PySem.boot_len (pa_cons (pv 0) pa_nil)) (pe_callB (call_min2 rfl) rfl T.b_min (by decide +kernel) (pa_cons (pe_gi T.c_MAX_CRATES) (pa_cons (pv 1) pa_nil))))) (pw_or1 (pt_not (pt_val (pe_callB (cr_allG rfl) rfl T.b_all (by decide +kernel) (pa_cons (lcF (own := [("name", 2)]) rfl sc_are_crates.nd (sr_tup (pv 0)) (blkOk_by (N := n_are_crates) (sc := defScope s_are_crates) (by decide +kernel)) (fun _ _ _ _ _ => (pg_name (i := 2) sc_are_crates.nd rfl (.inl rfl))) (fun _ _ _ _ _ => pts_nil) (fun _ _ _ _ _ => (pe_cR F_is_word.raw hr T.g_is_word pass0 (pa_cons (pv 2) pa_nil)))) pa_nil))))))) (pss_one (ps_ret pe_bl)) pss_nil)
    (pss_one (ps_ret (pe_callB (cr_allG rfl) rfl T.b_all (by decide +kernel) (pa_cons (lcP (own := [("one", 3), ("other", 4)]) rfl sc_are_crates.nd (sr_zip T.b_zip (pa_cons (pv 0) (pa_cons (pe_slice sl_tupG (pv 0) (po_some pe_int) po_none) pa_nil))) (blkOk_by (N := n_are_crates) (sc := defScope s_are_crates) (by decide +kernel)) (fun _ _ _ _ _ => (pg_tupG (n := 2) rfl (pgs_cons (pg_name (i := 3) sc_are_crates.nd rfl (.inl rfl)) (pgs_cons (pg_name (i := 4) sc_are_crates.nd rfl (.inl rfl)) pgs_nil)))) (fun _ _ _ _ _ => pts_nil) (fun _ _ _ _ _ => (pe_cmpR op_lt_str (pv 3) (pv 4) (nomark _)))) pa_nil))))), ?_⟩
    walk_at "rh"
    rw [if_pos (by simp; omega), if_neg (by simp; omega)]
    refine ⟨_, st.cs, V.str, rfl, by omega, fun _ => some (.bl true), fun z hz H2 e => ?_, fun B H2 hB e hl2 => ?_⟩
    · have hw := word_cs D z hz
      have hz2 : z.length ≤ 1000 := by
        simp only [isWordB, Bool.and_eq_true, decide_eq_true_eq] at hw
        have := hw.1.2
        omega
      exact ⟨z, rfl, hz2, fun H' e' => ⟨e', by rw [hw]⟩⟩
    · walk_at "rh"
      refine ⟨st.cs.map fun _ => true, by simp, ?_⟩
      rw [if_neg (by simp)]
      have ha2 := e _ _ ha
      walk_at "rh"
      intro p H3 e3 hp
      have ha3 := e3 _ _ ha2
      rw [cutV_1] at hp
      walk_at "rh"
      refine ⟨_, st.cs.zip (st.cs.drop 1), fun a => .str a.1, fun a => .str a.2, by rw [← List.map_drop, List.zip_map]; rfl, ?_, fun a => some (.bl (decide (a.1.cps.toList < a.2.cps.toList))), fun z hz H4 T e4 hT => ?_, fun B H4 hB e4 hl4 => ?_⟩
      · rw [List.length_zip, List.length_drop]; omega
      · walk_at "rh"
        exact .new hT
      · walk_at "rh"
        refine ⟨(st.cs.zip (st.cs.drop 1)).map fun a => decide (a.1.cps.toList < a.2.cps.toList), by simp, ?_⟩
        have : ((st.cs.zip (st.cs.drop 1)).map fun a => decide (a.1.cps.toList < a.2.cps.toList)).all id = true := by
          rcases Sto.n_cases D with z | z | z <;> rw [z] <;> decide +kernel
        rw [this]
        exact q H4 (e.trans (e3.trans e4))
end
end CC
set_option maxHeartbeats 4000000
namespace CC
open PySem PySem.Spec PyProof.Rows L2
local macro_rules | `(tactic| walk_at "rd") => `(tactic| simp only [tVar, tC, tOp, tUn, rI0, rI, rU, rEq, rNe, tTest, tB, tAnd, tOr, tNot, tAndV, tOrV, tNotV, tIf, tChain, tIfS, tRet, tRetN, tSeq, tNext, tAsg, gName, tDrop, tCons, tNil, tCB, tCR, tTup, tLst, rIsF, tyN_non, tyN_bl, tyN_int, tyN_str, tyN_ref, isB_1, isB_2, isB_3, isB_4, isB_5, isB_6, isB_7, isB_8, tyO_tup, tyO_lst, tyO_dK, tyO_frz, rIxG, rLenG, rInG, rAllG, rSumG, rListG, rTupG, tLcF, tLcP, tForF, tForP, srcTup, srcLst, srcStr, srcRng, srcEnum, srcZip, srcEnumT, tYes, wipe, gTupG, gCons, gNil, tStarG, tSl, rSlTG, rSlLG, rCatTG, rRep, tJoinG, rSortedSG, tApp, tExd, tupO_tup, lstO_lst, seqO_tup, seqO_lst, dKO_dK, tNoPart, tPart, tFl, sFl, tSls, sSls, tMeS, tPrS, tPrF, tMethR, tMake, sFlAug, rLenS, L2.start, List.map_cons, List.map_nil, List.length_cons, List.length_nil, Nat.zero_add, Nat.reduceAdd, Nat.reduceSub, List.replicate_succ, List.replicate_zero, List.forall_mem_map, List.cons_append, List.nil_append, List.getElem?_cons_succ, List.getElem?_cons_zero, List.set_cons_zero, List.set_cons_succ, Option.some.injEq, V.int.injEq, V.str.injEq, V.bl.injEq, V.ref.injEq, V.ty.injEq, List.cons.injEq, HO.tup.injEq, HO.lst.injEq, HO.ins.injEq, reduceCtorEq, exists_eq_left', exists_eq_left, exists_eq_right', exists_eq_right, exists_and_left, exists_and_right, and_true, true_and, and_false, false_and, or_false, false_or, or_true, true_or, exists_const, exists_eq', exists_eq, scal_ii, scal_ss, scal_bb, scal_nn, scal_ns, scal_sn, spIsNumber, SlX.putS, SlX.slH, upd_same, if_true, if_false, ite_true, ite_false, Bool.not_true, Bool.not_false, Bool.true_and, Bool.and_true, Bool.false_eq_true, decide_true, decide_false, sz1, atI_0, atI_1, and_assoc])
local macro_rules | `(tactic| walk_at "rh") => `(tactic| simp only [*, tVar, tC, tOp, tUn, rI0, rI, rU, rEq, rNe, tTest, tB, tAnd, tOr, tNot, tAndV, tOrV, tNotV, tIf, tChain, tIfS, tRet, tRetN, tSeq, tNext, tAsg, gName, tDrop, tCons, tNil, tCB, tCR, tTup, tLst, rIsF, tyN_non, tyN_bl, tyN_int, tyN_str, tyN_ref, isB_1, isB_2, isB_3, isB_4, isB_5, isB_6, isB_7, isB_8, tyO_tup, tyO_lst, tyO_dK, tyO_frz, rIxG, rLenG, rInG, rAllG, rSumG, rListG, rTupG, tLcF, tLcP, tForF, tForP, srcTup, srcLst, srcStr, srcRng, srcEnum, srcZip, srcEnumT, tYes, wipe, gTupG, gCons, gNil, tStarG, tSl, rSlTG, rSlLG, rCatTG, rRep, tJoinG, rSortedSG, tApp, tExd, tupO_tup, lstO_lst, seqO_tup, seqO_lst, dKO_dK, tNoPart, tPart, tFl, sFl, tSls, sSls, tMeS, tPrS, tPrF, tMethR, tMake, sFlAug, rLenS, L2.start, List.map_cons, List.map_nil, List.length_cons, List.length_nil, Nat.zero_add, Nat.reduceAdd, Nat.reduceSub, List.replicate_succ, List.replicate_zero, List.forall_mem_map, List.cons_append, List.nil_append, List.getElem?_cons_succ, List.getElem?_cons_zero, List.set_cons_zero, List.set_cons_succ, Option.some.injEq, V.int.injEq, V.str.injEq, V.bl.injEq, V.ref.injEq, V.ty.injEq, List.cons.injEq, HO.tup.injEq, HO.lst.injEq, HO.ins.injEq, reduceCtorEq, exists_eq_left', exists_eq_left, exists_eq_right', exists_eq_right, exists_and_left, exists_and_right, and_true, true_and, and_false, false_and, or_false, false_or, or_true, true_or, exists_const, exists_eq', exists_eq, scal_ii, scal_ss, scal_bb, scal_nn, scal_ns, scal_sn, spIsNumber, SlX.putS, SlX.slH, upd_same, if_true, if_false, ite_true, ite_false, Bool.not_true, Bool.not_false, Bool.true_and, Bool.and_true, Bool.false_eq_true, decide_true, decide_false, sz1, atI_0, atI_1, and_assoc])
section
variable {P : Program} {w : World} {K : PySem.W.Frag} {mg : Str → Option Value} {base : Heap}
def spDoors (K : PySem.W.Frag) : Sp := fun vs H Q _ => ∃ (a : Addr) (s : Sto), vs = [.ref a] ∧ StoAt K H a s ∧ ∀ da, DoorsAt H da s.ds → Q (.ref da) H
theorem ok_Store_doors (T : Txt K mg w) : OkF P w K mg base CX0 2 (pA K "Store" "doors") ["self"] (spDoors K) := by
  refine mk0 (k := 1) T.d_Store_doors sc_Store_doors (fun _ _ _ _ _ _ us hl => match us, hl with | [_], _ => rfl) (fun vs H Q E h => ?_) (fun cdv A outer s H vs Q E hr h => ?_)
  · obtain ⟨a, d, rfl, _⟩ := h
    rfl
  · obtain ⟨a, st, rfl, ⟨ea, pa, da, ca, h1, h2, h3, h4, h5⟩, q⟩ := h
    have hs := h1.sa
    have q1 := q da h4
    refine ⟨_, (pss_one (ps_ret (pe_ix ix_G (pe_slS T.scls_Store T.sl_Store_parts (pv 0)) pe_int (fun _ _ => rfl)))), ?_⟩
    walk_at "rh"
    refine ⟨_, hs, ?_⟩
    walk_at "rh"
def spCrates (K : PySem.W.Frag) : Sp := fun vs H Q _ => ∃ (a : Addr) (s : Sto), vs = [.ref a] ∧ StoAt K H a s ∧ ∀ ca, H ca = some (.tup (s.cs.map V.str)) → Q (.ref ca) H
theorem ok_Store_crates (T : Txt K mg w) : OkF P w K mg base CX0 2 (pA K "Store" "crates") ["self"] (spCrates K) := by
  refine mk0 (k := 1) T.d_Store_crates sc_Store_crates (fun _ _ _ _ _ _ us hl => match us, hl with | [_], _ => rfl) (fun vs H Q E h => ?_) (fun cdv A outer s H vs Q E hr h => ?_)
  · obtain ⟨a, d, rfl, _⟩ := h
    rfl
  · obtain ⟨a, st, rfl, ⟨ea, pa, da, ca, h1, h2, h3, h4, h5⟩, q⟩ := h
    have hs := h1.sa
    have q1 := q ca h5
    refine ⟨_, (pss_one (ps_ret (pe_ix ix_G (pe_slS T.scls_Store T.sl_Store_parts (pv 0)) pe_int (fun _ _ => rfl)))), ?_⟩
    walk_at "rh"
    refine ⟨_, hs, ?_⟩
    walk_at "rh"
def spSize (K : PySem.W.Frag) : Sp := fun vs H Q _ => ∃ (a : Addr) (s : Sto), vs = [.ref a] ∧ StoAt K H a s ∧ Q (.int s.es.length) H
theorem ok_Store_size (T : Txt K mg w) : OkF P w K mg base CX0 2 (pA K "Store" "size") ["self"] (spSize K) := by
  refine mk0 (k := 1) T.d_Store_size sc_Store_size (fun _ _ _ _ _ _ us hl => match us, hl with | [_], _ => rfl) (fun vs H Q E h => ?_) (fun cdv A outer s H vs Q E hr h => ?_)
  · obtain ⟨a, d, rfl, _⟩ := h
    rfl
  · obtain ⟨a, st, rfl, ⟨ea, pa, da, ca, h1, h2, h3, h4, h5⟩, q⟩ := h
    have hs := h1.sa
    refine ⟨_, (pss_one (ps_ret (pe_callB call_lenG rfl T.b_len PySem.boot_len (pa_cons (pe_slS T.scls_Store T.sl_Store_edges (pv 0)) pa_nil)))), ?_⟩
    walk_at "rh"
    refine ⟨_, hs, ?_⟩
    walk_at "rh"
    simpa using q
def spLenS (K : PySem.W.Frag) : Sp := fun vs H Q _ => ∃ (a : Addr) (s : Sto), vs = [.ref a] ∧ StoAt K H a s ∧ Q (.int s.ds.length) H
theorem ok_Store___len__ (T : Txt K mg w) : OkF P w K mg base CX0 2 (mA K "Store" "__len__") ["self"] (spLenS K) := by
  refine mk0 (k := 1) T.d_Store___len__ sc_Store___len__ (fun _ _ _ _ _ _ us hl => match us, hl with | [_], _ => rfl) (fun vs H Q E h => ?_) (fun cdv A outer s H vs Q E hr h => ?_)
  · obtain ⟨a, d, rfl, _⟩ := h
    rfl
  · obtain ⟨a, st, rfl, ⟨ea, pa, da, ca, h1, h2, h3, ⟨l, h4, hm, hR⟩, h5⟩, q⟩ := h
    have hs := h1.sa
    have hlen : l.length = st.ds.length := by rw [← hm, List.length_map]
    refine ⟨_, (pss_one (ps_ret (pe_callB call_lenG rfl T.b_len PySem.boot_len (pa_cons (pe_ix ix_G (pe_slS T.scls_Store T.sl_Store_parts (pv 0)) pe_int (fun _ _ => rfl)) pa_nil)))), ?_⟩
    walk_at "rh"
    refine ⟨_, hs, ?_⟩
    walk_at "rh"
    simpa [hlen] using q
/-- i is a place -/
def inB (i : Int) (n : Nat) : Bool := decide (0 ≤ i) && decide (i ≤ (n : Int) - 1)
def spDoorOf (K : PySem.W.Frag) : Sp := fun vs H Q E => ∃ (a : Addr) (s : Sto) (i : Int), vs = [.ref a, .int i] ∧ StoAt K H a s ∧ (inB i s.es.length = true → ∀ e, s.es[i.toNat]? = some e → Q (.int e) H) ∧ (inB i s.es.length = false → E (.ref (gA K "UnknownPlace")) none H)
theorem atI_in {α : Type} {xs : List α} {i : Int} (h : inB i xs.length = true) : ∃ x, xs[i.toNat]? = some x ∧ atI xs i = some x := by
  simp only [inB, Bool.and_eq_true, decide_eq_true_eq] at h
  have hi : i.toNat < xs.length := by omega
  refine ⟨xs[i.toNat], by simp [hi], ?_⟩
  have h2 : xs[i.toNat]? = some xs[i.toNat] := by simp [hi]
  have := atI_nat h2
  rwa [show ((i.toNat : Nat) : Int) = i by omega] at this
theorem ok_Store_door_of (T : Txt K mg w) : OkF P w K mg base (L2.CX P w) 3 (mA K "Store" "door_of") ["self", "place"] (spDoorOf K) := by
  have F_is_number := ok_is_number (P := P) (base := base) T
  refine mkX (k := 2) T.d_Store_door_of sc_Store_door_of (fun _ _ _ _ _ _ us hl => match us, hl with | [_, _], _ => rfl) (fun vs H Q E h => ?_) (fun cdv A outer s H vs Q E hr h => ?_)
  · obtain ⟨a, d, i, rfl, _⟩ := h
    rfl
  · obtain ⟨a, st, i, rfl, ⟨ea, pa, da, ca, h1, h2, h3, h4, h5⟩, q1, q2⟩ := h
    have hs := h1.sa
    refine ⟨_, (pss_cons (ps_if (pt_not (pt_val (pe_cR F_is_number.raw hr T.g_is_number pass0 (pa_cons (pv 1) (pa_cons pe_int (pa_cons (pe_op op_sub (pe_callB call_lenG rfl T.b_len PySem.boot_len (pa_cons (pe_slS T.scls_Store T.sl_Store_edges (pv 0)) pa_nil)) pe_int) pa_nil)))))) (pss_one (ps_raise rfl (takes_of rfl rfl rfl rfl) (pmk_own PySem.F.excBase_ValueError T.ex_UnknownPlace.1 T.g_UnknownPlace.1 T.ex_UnknownPlace.2.1 (raises_own T.ex_UnknownPlace.2.2.1 T.ex_UnknownPlace.2.2.2) rfl))) pss_nil)
    (pss_one (ps_ret (pe_ix ix_G (pe_slS T.scls_Store T.sl_Store_edges (pv 0)) (pv 1) (fun _ _ => rfl))))), ?_⟩
    walk_at "rh"
    refine ⟨_, hs, ?_⟩
    walk_at "rh"
    rw [List.length_map]
    by_cases hb : inB i st.es.length = true
    · have hb1 : (decide (0 ≤ i) && decide (i ≤ (st.es.length : Int) - 1)) = true := hb
      obtain ⟨x, hx, hx2⟩ := atI_in (xs := st.es.map V.int) (by rw [List.length_map]; exact hb)
      rw [List.getElem?_map] at hx
      obtain ⟨e, he, rfl⟩ := Option.map_eq_some_iff.mp hx
      rw [hb1]
      have q3 := q1 hb e he
      refine (if_neg (by decide)).mpr ?_
      refine ⟨_, hs, ?_⟩
      walk_at "rh"
    · have hb1 : (decide (0 ≤ i) && decide (i ≤ (st.es.length : Int) - 1)) = false := by simpa [inB] using hb
      rw [hb1]
      exact q2 hb1
/-- the places behind door d -/
def placesL (es : List Int) (d : Int) : List V := (es.zipIdx).filterMap fun q => if q.1 = d then some (.int (q.2 : Nat)) else none
def spPlacesOf (K : PySem.W.Frag) : Sp := fun vs H Q E => ∃ (a : Addr) (s : Sto) (i : Int), vs = [.ref a, .int i] ∧ StoAt K H a s ∧ s.Ok ∧ (inB i s.ds.length = true → ∀ v H', Ext H H' → Q v H') ∧ (inB i s.ds.length = false → E (.ref (gA K "UnknownDoor")) none H)
theorem ok_Store_places_of (T : Txt K mg w) : OkF P w K mg base (L2.CX P w) 3 (mA K "Store" "places_of") ["self", "door"] (spPlacesOf K) := by
  have F_is_number := ok_is_number (P := P) (base := base) T
  refine mkX (k := 2) T.d_Store_places_of sc_Store_places_of (fun _ _ _ _ _ _ us hl => match us, hl with | [_, _], _ => rfl) (fun vs H Q E h => ?_) (fun cdv A outer s H vs Q E hr h => ?_)
  · obtain ⟨a, d, i, rfl, _⟩ := h
    rfl
  · obtain ⟨a, st, i, rfl, ⟨ea, pa, da, ca, h1, h2, h3, ⟨l, h4, hm, hR⟩, h5⟩, D, q1, q2⟩ := h
    have hs := h1.sa
    have hlen : l.length = st.ds.length := by rw [← hm, List.length_map]
    have hes : (st.es.length : Int) ≤ 4 := by rw [D.len]; exact D.d.ps
    refine ⟨_, (pss_cons (ps_if (pt_not (pt_val (pe_cR F_is_number.raw hr T.g_is_number pass0 (pa_cons (pv 1) (pa_cons pe_int (pa_cons (pe_op op_sub (pe_callB call_lenG rfl T.b_len PySem.boot_len (pa_cons (pe_ix ix_G (pe_slS T.scls_Store T.sl_Store_parts (pv 0)) pe_int (fun _ _ => rfl)) pa_nil)) pe_int) pa_nil)))))) (pss_one (ps_raise rfl (takes_of rfl rfl rfl rfl) (pmk_own PySem.F.excBase_ValueError T.ex_UnknownDoor.1 T.g_UnknownDoor.1 T.ex_UnknownDoor.2.1 (raises_own T.ex_UnknownDoor.2.2.1 T.ex_UnknownDoor.2.2.2) rfl))) pss_nil)
    (pss_one (ps_ret (pe_callTy call_tupleG rfl T.b_tuple (by decide +kernel) (pa_cons (lcP (own := [("place", 2), ("edge", 3)]) rfl sc_Store_places_of.nd (sr_enumT T.b_enumerate (pa_cons (pe_slS T.scls_Store T.sl_Store_edges (pv 0)) pa_nil)) (blkOk_by (N := n_Store_places_of) (sc := defScope s_Store_places_of) (by decide +kernel)) (fun _ _ _ _ _ => (pg_tupG (n := 2) rfl (pgs_cons (pg_name (i := 2) sc_Store_places_of.nd rfl (.inl rfl)) (pgs_cons (pg_name (i := 3) sc_Store_places_of.nd rfl (.inl rfl)) pgs_nil)))) (fun _ _ _ _ _ => (pts_one (pt_cmpR op_eq (pv 3) (pv 1) (nomark _)))) (fun _ _ _ _ _ => (pv 2))) pa_nil))))), ?_⟩
    walk_at "rh"
    refine ⟨_, hs, ?_⟩
    walk_at "rh"
    rw [List.length_map, hlen]
    by_cases hb : inB i st.ds.length = true
    · have hb1 : (decide (0 ≤ i) && decide (i ≤ (st.ds.length : Int) - 1)) = true := hb
      rw [hb1]
      refine (if_neg (by decide)).mpr ?_
      refine ⟨_, hs, ?_⟩
      walk_at "rh"
      refine ⟨_, st.es.zipIdx, fun q => .int (q.2 : Nat), fun q => .int q.1, by rw [List.zipIdx_map, List.map_map]; rfl, by simp; omega, fun q => if q.1 = i then some (.int (q.2 : Nat)) else none, fun r hrl H2 B e hB => ?_, fun B H2 hB e hl => ?_⟩
      · walk_at "rh"
        by_cases hi : r.1 = i
        · simp [hi, Ext.new hB]
        · simp [hi, Ext.new hB]
      · walk_at "rh"
        intro p hp
        exact q1 hb _ _ (e.trans (.new hp))
    · have hb1 : (decide (0 ≤ i) && decide (i ≤ (st.ds.length : Int) - 1)) = false := by simpa [inB] using hb
      rw [hb1]
      exact q2 hb1
/-- what lies behind a door -/
def seenL (s : Sto) (l : Lay) (d : Int) : Lay := (l.zip s.es).filterMap fun q => if q.2 = d then some q.1 else none
def spSeen (K : PySem.W.Frag) : Sp := fun vs H Q _ => ∃ (a b : Addr) (s : Sto) (l : Lay) (d : Int), vs = [.ref a, .ref b, .int d] ∧ StoAt K H a s ∧ LayAt H b l ∧ l.length ≤ 1000 ∧ ∀ p H', Ext H H' → LayAt H' p (seenL s l d) → Q (.ref p) H'
theorem ok_seen_behind (T : Txt K mg w) : OkF P w K mg base CX0 2 (gA K "seen_behind") ["store", "layout", "door"] (spSeen K) := by
  refine mk0 (k := 1) T.d_seen_behind sc_seen_behind (fun _ _ _ _ _ _ us hl => match us, hl with | [_, _, _], _ => rfl) (fun vs H Q E h => ?_) (fun cdv A outer s H vs Q E hr h => ?_)
  · obtain ⟨a, b, s, l, d, rfl, _⟩ := h
    rfl
  · obtain ⟨a, b, st, l, d, rfl, ⟨ea, pa, da, ca, h1, h2, h3, h4, h5⟩, hl, hz, q⟩ := h
    have hs := h1.sa
    have hl : tupO (H b) = some (l.map layV) := hl
    have hlS := seqO_of hl
    have hlT := tyO_of hl
    refine ⟨_, (pss_one (ps_ret (pe_callTy call_tupleG rfl T.b_tuple (by decide +kernel) (pa_cons (lcP (own := [("name", 3), ("edge", 4)]) rfl sc_seen_behind.nd (sr_zip T.b_zip (pa_cons (pv 1) (pa_cons (pe_slS T.scls_Store T.sl_Store_edges (pv 0)) pa_nil))) (blkOk_by (N := n_seen_behind) (sc := defScope s_seen_behind) (by decide +kernel)) (fun _ _ _ _ _ => (pg_tupG (n := 2) rfl (pgs_cons (pg_name (i := 3) sc_seen_behind.nd rfl (.inl rfl)) (pgs_cons (pg_name (i := 4) sc_seen_behind.nd rfl (.inl rfl)) pgs_nil)))) (fun _ _ _ _ _ => (pts_one (pt_cmpR op_eq (pv 4) (pv 2) (nomark _)))) (fun _ _ _ _ _ => (pv 3))) pa_nil)))), ?_⟩
    walk_at "rh"
    refine ⟨_, hs, ?_⟩
    walk_at "rh"
    refine ⟨_, l.zip st.es, fun q => layV q.1, fun q => .int q.2, by rw [List.zip_map]; rfl, by rw [List.length_zip]; omega, fun q => if q.2 = d then some (layV q.1) else none, fun r hrl H2 B e hB => ?_, fun B H2 hB e hl2 => ?_⟩
    · walk_at "rh"
      by_cases hi : r.2 = d
      · simp [hi, Ext.new hB]
      · simp [hi, Ext.new hB]
    · walk_at "rh"
      intro p hp
      refine q _ _ (e.trans (.new hp)) ?_
      unfold LayAt
      rw [upd_same, tupO_tup, seenL, List.map_filterMap]
      congr 2
      funext x
      by_cases hi : x.2 = d <;> simp [hi]
def spChkCrate (K : PySem.W.Frag) : Sp := fun vs H Q E => ∃ (a : Addr) (s : Sto) (z : Str), vs = [.ref a, .str z] ∧ StoAt K H a s ∧ (z ∈ s.cs → Q .non H) ∧ (z ∉ s.cs → E (.ref (gA K "UnknownCrate")) none H)
theorem inV_strs {z : Str} : ∀ {cs : List Str}, inV (.str z) (cs.map V.str) = decide (z ∈ cs)
  | [] => rfl
  | c :: r => by
    rw [List.map_cons]
    show (eqV (V.str c) (V.str z) || inV (.str z) (r.map V.str)) = _
    rw [inV_strs]
    show ((c == z) || _) = _
    by_cases h : c = z
    · subst h; simp
    · simp [h, Ne.symm h]
theorem flat_strs {cs : List Str} : (cs.map V.str).all flatV = true := by
  rw [List.all_map]
  exact List.all_eq_true.mpr fun _ _ => rfl
theorem ok_check_crate (T : Txt K mg w) : OkF P w K mg base (L2.CX P w) 4 (gA K "check_crate") ["store", "name"] (spChkCrate K) := by
  have F_Store_crates := ok_Store_crates (P := P) (base := base) T
  refine mkX (k := 3) T.d_check_crate sc_check_crate (fun _ _ _ _ _ _ us hl => match us, hl with | [_, _], _ => rfl) (fun vs H Q E h => ?_) (fun cdv A outer s H vs Q E hr h => ?_)
  · obtain ⟨a, d, i, rfl, _⟩ := h
    rfl
  · obtain ⟨a, st, z, rfl, hst, q1, q2⟩ := h
    obtain ⟨ea, pa, da, ca, h1, h2, h3, h4, h5⟩ := id hst
    have hs := h1.sa
    refine ⟨_, (pss_one (ps_if (PW.pt (pw_or (pt_not (pt_val (pe_callB call_isiF rfl T.b_isinstance (by decide +kernel) (pa_cons (pv 1) (pa_cons (pe_ty "str" T.b_str) pa_nil))))) (pw_or1 (pt_cmpR op_notInG (pv 1) (pe_prS T.scls_Store T.pr_Store_crates F_Store_crates.raw hr (pv 0)) rfl)))) (pss_one (ps_raise rfl (takes_of rfl rfl rfl rfl) (pmk_own PySem.F.excBase_ValueError T.ex_UnknownCrate.1 T.g_UnknownCrate.1 T.ex_UnknownCrate.2.1 (raises_own T.ex_UnknownCrate.2.2.1 T.ex_UnknownCrate.2.2.2) rfl))) pss_nil)), ?_⟩
    walk_at "rh"
    refine ⟨⟨_, hs⟩, a, st, rfl, hst, fun ca h5 => ?_⟩
    have f := flat_strs (cs := st.cs)
    have iv := inV_strs (z := z) (cs := st.cs)
    have fl : flatV (.str z) = true := rfl
    walk_at "rh"
    by_cases hz : z ∈ st.cs
    · simpa [hz] using q1 hz
    · simpa [hz] using q2 hz
/-- a layout of the store: as many as places, each crate once -/
structure IsLay (s : Sto) (l : Lay) : Prop where
  len : l.length = s.es.length
  prm : (l.filterMap id).Perm s.cs
theorem srt1 {ys : List Str} (h : ys.Perm [("fig" : Str)]) : ys = [("fig" : Str)] := List.perm_singleton.mp h
theorem srt2 {ys : List Str} (h : ys.Perm [("fig" : Str), "kiwi"]) (hs : sortedS ys = true) : ys = [("fig" : Str), "kiwi"] := by
  have hl := h.length_eq
  match ys, hl with
  | [a, b], _ =>
    have ha : a ∈ [("fig" : Str), "kiwi"] := h.subset (by simp)
    have hb : b ∈ [("fig" : Str), "kiwi"] := h.subset (by simp)
    simp only [List.mem_cons, List.mem_nil_iff, or_false] at ha hb
    rcases ha with rfl | rfl <;> rcases hb with rfl | rfl <;> first | rfl | (exfalso; revert h; decide +kernel) | (exfalso; revert hs; decide +kernel)
theorem srt3 {ys : List Str} (h : ys.Perm [("fig" : Str), "kiwi", "plum"]) (hs : sortedS ys = true) : ys = [("fig" : Str), "kiwi", "plum"] := by
  have hl := h.length_eq
  match ys, hl with
  | [a, b, c], _ =>
    have ha : a ∈ [("fig" : Str), "kiwi", "plum"] := h.subset (by simp)
    have hb : b ∈ [("fig" : Str), "kiwi", "plum"] := h.subset (by simp)
    have hc : c ∈ [("fig" : Str), "kiwi", "plum"] := h.subset (by simp)
    simp only [List.mem_cons, List.mem_nil_iff, or_false] at ha hb hc
    rcases ha with rfl | rfl | rfl <;> rcases hb with rfl | rfl | rfl <;> rcases hc with rfl | rfl | rfl <;> first | rfl | (exfalso; revert h; decide +kernel) | (exfalso; revert hs; decide +kernel)
theorem srt_cs {s : Sto} (D : s.Ok) {ys : List Str} (h : ys.Perm s.cs) (hs : sortedS ys = true) : ys = s.cs := by
  rcases Sto.n_cases D with z | z | z
  · rw [z] at h ⊢
    exact srt1 h
  · rw [z] at h ⊢
    exact srt2 h hs
  · rw [z] at h ⊢
    exact srt3 h hs
theorem names_V : ∀ {l : Lay}, (l.map layV).filterMap (fun x => if x = .non then none else some x) = (l.filterMap id).map V.str
  | [] => rfl
  | none :: r => by simpa [layV] using names_V (l := r)
  | some z :: r => by simpa [layV] using names_V (l := r)
theorem len_names {l : Lay} : (l.filterMap id).length ≤ l.length := List.length_filterMap_le _ _
def spIsLayout (K : PySem.W.Frag) : Sp := fun vs H Q _ => ∃ (a b : Addr) (s : Sto) (l : Lay), vs = [.ref a, .ref b] ∧ StoAt K H a s ∧ s.Ok ∧ LayAt H b l ∧ IsLay s l ∧ ∀ H', Ext H H' → Q (.bl true) H'
theorem ok_is_layout (T : Txt K mg w) : OkF P w K mg base CX0 4 (gA K "is_layout") ["store", "value"] (spIsLayout K) := by
  have F_Store_crates := ok_Store_crates (P := P) (base := base) T
  have F_Store_size := ok_Store_size (P := P) (base := base) T
  refine mk0 (k := 3) T.d_is_layout sc_is_layout (fun _ _ _ _ _ _ us hl => match us, hl with | [_, _], _ => rfl) (fun vs H Q E h => ?_) (fun cdv A outer s H vs Q E hr h => ?_)
  · obtain ⟨a, b, s, l, rfl, _⟩ := h
    rfl
  · obtain ⟨a, b, st, l, rfl, hst, D, hl, IL, q⟩ := h
    obtain ⟨ea, pa, da, ca, h1, h2, h3, h4, h5⟩ := id hst
    have hs := h1.sa
    have hes : (st.es.length : Int) ≤ 4 := by rw [D.len]; exact D.d.ps
    have hlen := IL.len
    have hl : tupO (H b) = some (l.map layV) := hl
    have hlS := seqO_of hl
    have hlT := tyO_of hl
    refine ⟨_, (pss_cons (ps_if (PW.pt (pw_or (pt_not (pt_val (pe_callB call_isiF rfl T.b_isinstance (by decide +kernel) (pa_cons (pv 1) (pa_cons (pe_ty "tuple" T.b_tuple) pa_nil))))) (pw_or1 (pt_cmpR op_ne (pe_callB call_lenG rfl T.b_len PySem.boot_len (pa_cons (pv 1) pa_nil)) (pe_prS T.scls_Store T.pr_Store_size F_Store_size.raw hr (pv 0)) (nomark _))))) (pss_one (ps_ret pe_bl)) pss_nil)
    (pss_cons (ps_if (pt_not (pt_val (pe_callB (cr_allG rfl) rfl T.b_all (by decide +kernel) (pa_cons (lcF (own := [("name", 2)]) rfl sc_is_layout.nd (sr_tup (pv 1)) (blkOk_by (N := n_is_layout) (sc := defScope s_is_layout) (by decide +kernel)) (fun _ _ _ _ _ => (pg_name (i := 2) sc_is_layout.nd rfl (.inl rfl))) (fun _ _ _ _ _ => pts_nil) (fun _ _ _ _ _ => (pe_or (pe_cmpR op_isN (pv 2) pe_non (nomark _)) (pe_one (pe_callB call_isiF rfl T.b_isinstance (by decide +kernel) (pa_cons (pv 2) (pa_cons (pe_ty "str" T.b_str) pa_nil))))))) pa_nil)))) (pss_one (ps_ret pe_bl)) pss_nil)
    (pss_one (ps_ret (pe_cmpR (op_eqD hr.units) (pe_callTy call_tupleG rfl T.b_tuple (by decide +kernel) (pa_cons (pe_callB cr_sortedSG rfl T.b_sorted (by decide +kernel) (pa_cons (lcF (own := [("name", 2)]) rfl sc_is_layout.nd (sr_tup (pv 1)) (blkOk_by (N := n_is_layout) (sc := defScope s_is_layout) (by decide +kernel)) (fun _ _ _ _ _ => (pg_name (i := 2) sc_is_layout.nd rfl (.inl rfl))) (fun _ _ _ _ _ => (pts_one (pt_cmpR op_notN (pv 2) pe_non (nomark _)))) (fun _ _ _ _ _ => (pv 2))) pa_nil)) pa_nil)) (pe_prS T.scls_Store T.pr_Store_crates F_Store_crates.raw hr (pv 0)) (nomark _)))))), ?_⟩
    walk_at "rh"
    refine ⟨⟨_, hs⟩, a, st, rfl, hst, ?_⟩
    walk_at "rh"
    rw [if_neg (by simp; omega)]
    refine ⟨_, l, layV, rfl, by omega, fun _ => some (.bl true), fun z hz H2 e => ?_, fun B H2 hB e hl2 => ?_⟩
    · cases z with
      | none => simp [layV, Ext.refl]
      | some z => simp [layV, Ext.refl, tyN, isB]
    · have hl3 := e.tupO hl
      walk_at "rh"
      refine ⟨l.map fun _ => true, by simp, ?_⟩
      rw [if_neg (by simp)]
      refine ⟨_, l, layV, rfl, by omega, fun z => z.map V.str, fun z hz H3 e3 => ?_, fun B H3 hB e3 hl4 => ?_⟩
      · cases z with
        | none => simp [layV, Ext.refl]
        | some z => simp [layV, Ext.refl]
      · walk_at "rh"
        have ee := e.trans e3
        refine ⟨l.filterMap id, by rw [List.map_filterMap]; rfl, by have := len_names (l := l); omega, fun ys p hp1 hp2 hp => ?_⟩
        have hy : ys = st.cs := srt_cs D (hp1.trans IL.prm) hp2
        subst hy
        intro l2 hl2
        have e4 := ee.trans ((Ext.new hp).trans (.new (o := .tup (st.cs.map V.str)) hl2))
        refine ⟨⟨_, (h1.ext e4).sa⟩, a, st, rfl, hst.ext e4, fun ca2 hca => ?_⟩
        refine ⟨.tuple (st.cs.map .str), .tuple (st.cs.map .str), .tup (.of upd_same) (dpAll_map fun z _ => .str z), .tup (.of hca) (dpAll_map fun z _ => .str z), ?_, ?_, ?_⟩
        · exact (dOk.tup (n := 0) fun d hd => by obtain ⟨z, hz, rfl⟩ := List.mem_map.mp hd; exact .str (names_ok (List.mem_of_mem_take hz))).shaped (by omega)
        · exact (dOk.tup (n := 0) fun d hd => by obtain ⟨z, hz, rfl⟩ := List.mem_map.mp hd; exact .str (names_ok (List.mem_of_mem_take hz))).shaped (by omega)
        · rw [eqv_self _ (dOk.tup (n := 0) fun d hd => by obtain ⟨z, hz, rfl⟩ := List.mem_map.mp hd; exact .str (names_ok (List.mem_of_mem_take hz))).1]
          exact q _ (ee.trans ((Ext.new hp).trans (.new hl2)))
def spChkLay (K : PySem.W.Frag) : Sp := fun vs H Q _ => ∃ (a b : Addr) (s : Sto) (l : Lay), vs = [.ref a, .ref b] ∧ StoAt K H a s ∧ s.Ok ∧ LayAt H b l ∧ IsLay s l ∧ ∀ H', Ext H H' → Q .non H'
theorem ok_check_layout (T : Txt K mg w) : OkF P w K mg base CX0 5 (gA K "check_layout") ["store", "layout"] (spChkLay K) := by
  have F_is_layout := ok_is_layout (P := P) (base := base) T
  refine mk0 (k := 4) T.d_check_layout sc_check_layout (fun _ _ _ _ _ _ us hl => match us, hl with | [_, _], _ => rfl) (fun vs H Q E h => ?_) (fun cdv A outer s H vs Q E hr h => ?_)
  · obtain ⟨a, b, s, l, rfl, _⟩ := h
    rfl
  · obtain ⟨a, b, st, l, rfl, hst, D, hl, IL, q⟩ := h
    refine ⟨_, (pss_one (ps_if (pt_not (pt_val (pe_cR F_is_layout.raw hr T.g_is_layout pass0 (pa_cons (pv 0) (pa_cons (pv 1) pa_nil))))) (pss_one (ps_never)) pss_nil)), ?_⟩
    walk_at "rh"
    exact ⟨a, b, st, l, rfl, hst, D, hl, IL, fun H' e => by simpa using q H' e⟩
end
end CC
set_option maxHeartbeats 4000000
namespace CC
open PySem PySem.Spec PyProof.Rows L2
local macro_rules | `(tactic| walk_at "rd") => `(tactic| simp only [tVar, tC, tOp, tUn, rI0, rI, rU, rEq, rNe, tTest, tB, tAnd, tOr, tNot, tAndV, tOrV, tNotV, tIf, tChain, tIfS, tRet, tRetN, tSeq, tNext, tAsg, gName, tDrop, tCons, tNil, tCB, tCR, tTup, tLst, rIsF, tyN_non, tyN_bl, tyN_int, tyN_str, tyN_ref, isB_1, isB_2, isB_3, isB_4, isB_5, isB_6, isB_7, isB_8, tyO_tup, tyO_lst, tyO_dK, tyO_frz, rIxG, rLenG, rInG, rAllG, rSumG, rListG, rTupG, tLcF, tLcP, tForF, tForP, srcTup, srcLst, srcStr, srcRng, srcEnum, srcZip, srcEnumT, tYes, wipe, gTupG, gCons, gNil, tStarG, tSl, rSlTG, rSlLG, rCatTG, rRep, tJoinG, rSortedSG, tApp, tExd, tupO_tup, lstO_lst, seqO_tup, seqO_lst, dKO_dK, tNoPart, tPart, tFl, sFl, tSls, sSls, tMeS, tPrS, tPrF, tMethR, tMake, sFlAug, rLenS, L2.start, List.map_cons, List.map_nil, List.length_cons, List.length_nil, Nat.zero_add, Nat.reduceAdd, Nat.reduceSub, List.replicate_succ, List.replicate_zero, List.forall_mem_map, List.cons_append, List.nil_append, List.getElem?_cons_succ, List.getElem?_cons_zero, List.set_cons_zero, List.set_cons_succ, Option.some.injEq, V.int.injEq, V.str.injEq, V.bl.injEq, V.ref.injEq, V.ty.injEq, List.cons.injEq, HO.tup.injEq, HO.lst.injEq, HO.ins.injEq, reduceCtorEq, exists_eq_left', exists_eq_left, exists_eq_right', exists_eq_right, exists_and_left, exists_and_right, and_true, true_and, and_false, false_and, or_false, false_or, or_true, true_or, exists_const, exists_eq', exists_eq, scal_ii, scal_ss, scal_bb, scal_nn, scal_ns, scal_sn, spIsNumber, SlX.putS, upd_same, if_true, if_false, ite_true, ite_false, Bool.not_true, Bool.not_false, Bool.true_and, Bool.and_true, Bool.false_eq_true, decide_true, decide_false, sz1, atI_0, atI_1, and_assoc])
local macro_rules | `(tactic| walk_at "rh") => `(tactic| simp only [*, tVar, tC, tOp, tUn, rI0, rI, rU, rEq, rNe, tTest, tB, tAnd, tOr, tNot, tAndV, tOrV, tNotV, tIf, tChain, tIfS, tRet, tRetN, tSeq, tNext, tAsg, gName, tDrop, tCons, tNil, tCB, tCR, tTup, tLst, rIsF, tyN_non, tyN_bl, tyN_int, tyN_str, tyN_ref, isB_1, isB_2, isB_3, isB_4, isB_5, isB_6, isB_7, isB_8, tyO_tup, tyO_lst, tyO_dK, tyO_frz, rIxG, rLenG, rInG, rAllG, rSumG, rListG, rTupG, tLcF, tLcP, tForF, tForP, srcTup, srcLst, srcStr, srcRng, srcEnum, srcZip, srcEnumT, tYes, wipe, gTupG, gCons, gNil, tStarG, tSl, rSlTG, rSlLG, rCatTG, rRep, tJoinG, rSortedSG, tApp, tExd, tupO_tup, lstO_lst, seqO_tup, seqO_lst, dKO_dK, tNoPart, tPart, tFl, sFl, tSls, sSls, tMeS, tPrS, tPrF, tMethR, tMake, sFlAug, rLenS, L2.start, List.map_cons, List.map_nil, List.length_cons, List.length_nil, Nat.zero_add, Nat.reduceAdd, Nat.reduceSub, List.replicate_succ, List.replicate_zero, List.forall_mem_map, List.cons_append, List.nil_append, List.getElem?_cons_succ, List.getElem?_cons_zero, List.set_cons_zero, List.set_cons_succ, Option.some.injEq, V.int.injEq, V.str.injEq, V.bl.injEq, V.ref.injEq, V.ty.injEq, List.cons.injEq, HO.tup.injEq, HO.lst.injEq, HO.ins.injEq, reduceCtorEq, exists_eq_left', exists_eq_left, exists_eq_right', exists_eq_right, exists_and_left, exists_and_right, and_true, true_and, and_false, false_and, or_false, false_or, or_true, true_or, exists_const, exists_eq', exists_eq, scal_ii, scal_ss, scal_bb, scal_nn, scal_ns, scal_sn, spIsNumber, SlX.putS, upd_same, if_true, if_false, ite_true, ite_false, Bool.not_true, Bool.not_false, Bool.true_and, Bool.and_true, Bool.false_eq_true, decide_true, decide_false, sz1, atI_0, atI_1, and_assoc])
section
variable {P : Program} {w : World} {K : PySem.W.Frag} {mg : Str → Option Value} {base : Heap}
/-- a new instance of C with its dict stands there -/
structure Made (H : Hp) (a C dx : Addr) : Prop where
  i : H a = some (.ins C dx [])
  o : H dx = some (.own a)
  n : dx ≠ a
/-- all that stood stands, but at a and dx -/
def Kp2 (a dx : Addr) (H H' : Hp) : Prop := ∀ b o, b ≠ a → b ≠ dx → H b = some o → H' b = some o
theorem Kp2.ext {H1 H' : Hp} {x dx C : Addr} (k : Kp2 x dx (upd (upd H1 dx (.own x)) x (.ins C dx [])) H') (h1 : H1 x = none) (h2 : H1 dx = none) : Ext H1 H' := fun b o e => by
  have n1 : b ≠ x := fun z => by subst z; rw [h1] at e; cases e
  have n2 : b ≠ dx := fun z => by subst z; rw [h2] at e; cases e
  exact k b o n1 n2 (by rw [upd_ne n1, upd_ne n2]; exact e)
theorem Made.of {H1 : Hp} {x dx C : Addr} (n : dx ≠ x) : Made (upd (upd H1 dx (.own x)) x (.ins C dx [])) x C dx := ⟨upd_same, by rw [upd_ne n, upd_same], n⟩
theorem Made.ext {H1 : Hp} {x dx C : Addr} (h1 : H1 x = none) (h2 : H1 dx = none) : Ext H1 (upd (upd H1 dx (.own x)) x (.ins C dx [])) := fun b o e => by
  have n1 : b ≠ x := fun z => by subst z; rw [h1] at e; cases e
  have n2 : b ≠ dx := fun z => by subst z; rw [h2] at e; cases e
  rw [upd_ne n1, upd_ne n2]
  exact e
theorem Kp2.refl (a dx : Addr) (H : Hp) : Kp2 a dx H H := fun _ _ _ _ h => h
theorem Kp2.trans {a dx : Addr} {H H1 H2 : Hp} (h : Kp2 a dx H H1) (h' : Kp2 a dx H1 H2) : Kp2 a dx H H2 := fun b o n1 n2 e => h' b o n1 n2 (h b o n1 n2 e)
theorem Ext.kp2 {a dx : Addr} {H H1 : Hp} (e : Ext H H1) : Kp2 a dx H H1 := fun b o _ _ h => e b o h
theorem Kp2.slH {a dx C : Addr} {H : Hp} {vs : List (Option V)} : Kp2 a dx H (SlX.slH H a C dx vs) := fun b o n1 n2 e => by
  unfold SlX.slH
  rw [upd_ne n1, upd_ne n2]
  exact e
theorem Kp2.new {a dx p : Addr} {H H1 : Hp} {o : HO} (k : Kp2 a dx H H1) (hp : H1 p = none) : Kp2 a dx H (upd H1 p o) := k.trans (Ext.new hp).kp2
/-- tuples stand through the making -/
theorem Kp2.tup {a dx C : Addr} {H H' : Hp} (k : Kp2 a dx H H') (m : Made H a C dx) : Tup H H' := ⟨fun b xs e => k b _ (fun z => by subst z; rw [m.i] at e; cases e) (fun z => by subst z; rw [m.o] at e; cases e) e, fun b xs e => k b _ (fun z => by subst z; rw [m.i] at e; cases e) (fun z => by subst z; rw [m.o] at e; cases e) e, fun b ob xs e => k b _ (fun z => by subst z; rw [m.i] at e; cases e) (fun z => by subst z; rw [m.o] at e; cases e) e⟩
theorem Ext.set {H H' : Hp} {p : Addr} {o : HO} (e : Ext H H') (h : H p = none) : Ext H (upd H' p o) := fun b u hb => by
  rw [upd_ne (fun z => by subst z; rw [h] at hb; cases hb)]
  exact e b u hb
def spStoreInit (K : PySem.W.Frag) : Sp := fun vs H Q _ => ∃ (a da ca dx : Addr) (s : Sto), vs = [.ref a, .ref da, .ref ca] ∧ Made H a (gA K "Store") dx ∧ DoorsAt H da s.ds ∧ H ca = some (.tup (s.cs.map V.str)) ∧ s.Ok ∧ ∀ H', Kp2 a dx H H' → StoAt K H' a s → Q .non H'
theorem ok_Store___init__ (T : Txt K mg w) : OkF P w K mg base CX0 6 (mA K "Store" "__init__") ["self", "doors", "crates"] (spStoreInit K) := by
  have F_are_doors := ok_are_doors (P := P) (base := base) T
  have F_are_crates := ok_are_crates (P := P) (base := base) T
  refine mk0 (k := 5) T.d_Store___init__ sc_Store___init__ (fun _ _ _ _ _ _ us hl => match us, hl with | [_, _, _], _ => rfl) (fun vs H Q E h => ?_) (fun cdv A outer s H vs Q E hr h => ?_)
  · obtain ⟨a, b, c, dx, s, rfl, _⟩ := h
    rfl
  · obtain ⟨a, da, ca, dx, st, rfl, M, hd, hc, D, q⟩ := h
    obtain ⟨l, hl, hm, hR⟩ := id hd
    have hlen : l.length = st.ds.length := by rw [← hm, List.length_map]
    have d2 := D.d.d2
    refine ⟨_, (pss_cons (ps_if (pt_not (pt_val (pe_cR F_are_doors.raw hr T.g_are_doors pass0 (pa_cons (pv 1) pa_nil)))) (pss_one (ps_never)) pss_nil)
    (pss_cons (ps_if (pt_not (pt_val (pe_cR F_are_crates.raw hr T.g_are_crates pass0 (pa_cons (pv 2) (pa_cons (pe_callB (cr_sumG rfl) rfl T.b_sum (by decide +kernel) (pa_cons (lcF (own := [("warmth", 5), ("places", 6)]) rfl sc_Store___init__.nd (sr_tup (pv 1)) (blkOk_by (N := n_Store___init__) (sc := defScope s_Store___init__) (by decide +kernel)) (fun _ _ _ _ _ => (pg_tupG (n := 2) rfl (pgs_cons (pg_name (i := 5) sc_Store___init__.nd rfl (.inl rfl)) (pgs_cons (pg_name (i := 6) sc_Store___init__.nd rfl (.inl rfl)) pgs_nil)))) (fun _ _ _ _ _ => pts_nil) (fun _ _ _ _ _ => (pv 6))) pa_nil)) pa_nil))))) (pss_one (ps_never)) pss_nil)
    (pss_cons (ps_slS T.scls_Store T.sl_Store_parts (pv 0) (pe_tup (pa_cons (pv 1) (pa_cons (pv 2) pa_nil))))
    (pss_cons (CC.st (i := 3) sc_Store___init__.nd (pe_lst pa_nil))
    (pss_cons (forP PassesOwn.never rfl (sr_enumT T.b_enumerate (pa_cons (pv 1) pa_nil)) (pg_tupG (n := 2) rfl (pgs_cons (pg_name (i := 4) sc_Store___init__.nd rfl (.inl rfl)) (pgs_cons (pg_tupG (n := 2) rfl (pgs_cons (pg_name (i := 5) sc_Store___init__.nd rfl (.inl rfl)) (pgs_cons (pg_name (i := 6) sc_Store___init__.nd rfl (.inl rfl)) pgs_nil))) pgs_nil)))
      (pss_one (ps_expr (pe_exd (pe_bm PySem.F.plainAttrs_list PySem.F.slot_list_extend PySem.F.type_list_extend mt_extend (upPE (pv 3)) (pa_cons (upPE (pe_op op_rep (pe_lst (pa_cons (pv 4) pa_nil)) (pv 6))) pa_nil))))))
    (pss_one (ps_slS T.scls_Store T.sl_Store_edges (pv 0) (pe_callTy call_tupleG rfl T.b_tuple (by decide +kernel) (pa_cons (pv 3) pa_nil))))))))), ?_⟩
    walk_at "rh"
    refine ⟨da, st.ds, rfl, hd, D.d, fun H1 e1 => ?_⟩
    have hl1 := e1 _ _ hl
    walk_at "rh"
    refine ⟨_, l, fun q => .ref q.1, rfl, by omega, fun q => some (.int q.2.2), fun r hrl H3 e3 => ?_, fun B H3 hB e3 hl3 => ?_⟩
    · have hr1 : H3 r.1 = some (.tup [.int r.2.1, .int r.2.2]) := e3 _ _ (e1 _ _ (hR r hrl))
      walk_at "rh"
      exact .refl _
    · walk_at "rh"
      refine ⟨l.map fun q => q.2.2, by simp, ?_⟩
      have : (l.map fun q => q.2.2).sum = pls st.ds := by rw [← hm, pls, List.map_map]; rfl
      rw [this]
      refine ⟨ca, st, rfl, e3 _ _ (e1 _ _ hc), D, fun H4 e4 => ?_⟩
      have ee := e1.trans (e3.trans e4)
      walk_at "rh"
      refine ⟨by omega, fun p hp => ?_⟩
      have m4i := ee _ _ M.i
      have m4o := ee _ _ M.o
      have na := ne_of_none m4i hp
      have nd := ne_of_none m4o hp
      refine ⟨dx, [], .inl ⟨by rw [upd_ne na]; exact m4i, rfl⟩, by omega, fun p1 => ?_⟩
      walk_at "rd"
      have k5 : Kp2 a dx H (SlX.slH (upd H4 p (HO.tup [V.ref da, V.ref ca])) a (gA K "Store") dx [none, some (V.ref p)]) := (ee.kp2.new hp).trans Kp2.slH
      have hp5 : SlX.slH (upd H4 p (HO.tup [V.ref da, V.ref ca])) a (gA K "Store") dx [none, some (V.ref p)] p = some (.tup [V.ref da, V.ref ca]) := by rw [SlX.slH_ne (Ne.symm na) (Ne.symm nd), upd_same]
      have s5 : SlX.Slt (SlX.slH (upd H4 p (HO.tup [V.ref da, V.ref ca])) a (gA K "Store") dx [none, some (V.ref p)]) a (gA K "Store") dx [none, some (V.ref p)] := SlX.slH_slt M.n
      generalize SlX.slH (upd H4 p (HO.tup [V.ref da, V.ref ca])) a (gA K "Store") dx [none, some (V.ref p)] = H5 at k5 hp5 s5 ⊢
      intro hp1
      have T5 := k5.tup M
      have hl5 := T5.t _ _ hl
      have hl6 := Ext.new (o := .lst []) hp1 _ _ hl5
      walk_at "rh"
      refine ⟨_, l.zipIdx, fun q => .int (q.2 : Nat), fun q => .ref q.1.1, by rw [List.zipIdx_map, List.map_map]; rfl, fun r σ H7 => ∃ (q : List (Addr × Int × Int)) (i : Nat) (acc : List Int) (x4 x5 x6 : Option V), r = q.zipIdx i ∧ acc ++ esOf (q.map Prod.snd) i = st.es ∧ (∀ y, y ∈ q → y ∈ l) ∧ σ = [some (V.ref a), some (V.ref da), some (V.ref ca), some (V.ref p1), x4, x5, x6] ∧ H7 p1 = some (.lst (acc.map V.int)) ∧ Ext H5 H7,
        ⟨l, 0, [], none, none, none, rfl, by rw [hm]; rfl, fun _ h => h, rfl, by rw [upd_same]; rfl, .new hp1⟩, ?_, ?_, ?_⟩
      · rintro r σ H7 ⟨q, i, acc, x4, x5, x6, _, _, _, _, _, e7⟩
        rw [e7 _ _ hl5]
        rfl
      · rintro ⟨⟨b, d⟩, i'⟩ r σ H7 T7 ⟨q, i, acc, x4, x5, x6, hr7, hacc, hq, rfl, hp7, e7⟩ hT
        cases q with
        | nil => simp at hr7
        | cons y q =>
          simp only [List.zipIdx_cons, List.cons.injEq, Prod.mk.injEq] at hr7
          obtain ⟨⟨rfl, rfl⟩, rfl⟩ := hr7
          have hy := hq _ List.mem_cons_self
          have hb7 : H7 b = some (.tup [.int d.1, .int d.2]) := e7 _ _ (T5.t _ _ (hR _ hy))
          have hb8 := Ext.new (o := .tup [V.int (i' : Nat), V.ref b]) hT _ _ hb7
          have hp8 := Ext.new (o := .tup [V.int (i' : Nat), V.ref b]) hT _ _ hp7
          walk_at "rh"
          refine ⟨by omega, fun p3 hp3 => ?_⟩
          obtain ⟨⟨_, _⟩, c1, c2⟩ := D.d.dw d (by rw [← hm]; exact List.mem_map_of_mem hy)
          have hp9 := Ext.new (o := .lst [V.int (i' : Nat)]) hp3 _ _ hp8
          refine ⟨by omega, by omega, by omega, fun p4 hp4 => ?_⟩
          have hp10 := Ext.new (o := .lst (List.replicate d.2.toNat [V.int (i' : Nat)]).flatten) hp4 _ _ hp9
          have hal : acc.length ≤ 4 := by
            have h1 := congrArg List.length hacc
            have h2 := D.len
            have h3 := D.d.ps
            rw [List.length_append] at h1
            omega
          have hfl : (List.replicate d.2.toNat [V.int (i' : Nat)]).flatten = (List.replicate d.2.toNat ((i' : Nat) : Int)).map V.int := by
            rw [List.map_replicate]
            induction d.2.toNat with
            | zero => rfl
            | succ n ih => rw [List.replicate_succ, List.flatten_cons, ih, List.replicate_succ]; rfl
          refine ⟨acc.map V.int, by rw [hp10]; rfl, ?_, q, i' + 1, rfl, acc ++ List.replicate d.2.toNat ((i' : Nat) : Int), ?_, fun y h => hq y (List.mem_cons_of_mem _ h), ?_, ?_⟩
          · rw [hfl, List.length_map, List.length_map, List.length_replicate]
            omega
          · rw [List.append_assoc]
            exact hacc
          · rw [hfl, List.map_append]
          · exact Ext.set (((e7.trans (.new hT)).trans (.new hp3)).trans (.new hp4)) hp1
      · rintro σ H7 ⟨q, i, acc, x4, x5, x6, hr7, hacc, hq, rfl, hp7, e7⟩
        cases q with
        | cons y q => simp at hr7
        | nil =>
          walk_at "rh"
          intro p3 hp3
          have s7 : SlX.Slt (upd H7 p3 (HO.tup (List.map V.int acc))) a (gA K "Store") dx [none, some (V.ref p)] := by
            rcases s5 with ⟨s5, z⟩ | ⟨s5, s6⟩
            · cases z
            · exact .inr ⟨(e7.trans (.new hp3)) _ _ s5, (e7.trans (.new hp3)) _ _ s6⟩
          refine ⟨dx, _, s7, ?_⟩
          walk_at "rd"
          have e8 : Ext H5 (upd H7 p3 (HO.tup (List.map V.int acc))) := e7.trans (.new hp3)
          have k8 : Kp2 a dx H (SlX.slH (upd H7 p3 (HO.tup (List.map V.int acc))) a (gA K "Store") dx [some (V.ref p3), some (V.ref p)]) := (k5.trans e8.kp2).trans Kp2.slH
          have n3 : p3 ≠ a ∧ p3 ≠ dx := by
            rcases s5 with ⟨s5, z⟩ | ⟨s5, s6⟩
            · cases z
            · exact ⟨Ne.symm (ne_of_none (e7 _ _ s5) hp3), Ne.symm (ne_of_none (e7 _ _ s6) hp3)⟩
          refine q _ k8 ⟨p3, p, da, ca, ⟨dx, upd_same, ?_⟩, ?_, ?_, ?_, ?_⟩
          · unfold SlX.slH
            rw [upd_ne M.n, upd_same]
          · rw [SlX.slH_ne n3.1 n3.2, upd_same]
            simp only [List.map_nil, esOf, List.append_nil] at hacc
            rw [hacc]
          · rw [SlX.slH_ne (Ne.symm na) (Ne.symm nd)]
            exact e8 _ _ hp5
          · exact hd.mono (k8.tup M)
          · exact (k8.tup M).t _ _ hc
end
end CC
set_option maxHeartbeats 4000000
namespace CC
open PySem PySem.Spec PyProof.Rows L2
local macro_rules | `(tactic| walk_at "rd") => `(tactic| simp only [tVar, tC, tOp, tUn, rI0, rI, rU, rEq, rNe, tTest, tB, tAnd, tOr, tNot, tAndV, tOrV, tNotV, tIf, tChain, tIfS, tRet, tRetN, tSeq, tNext, tAsg, gName, tDrop, tCons, tNil, tCB, tCR, tTup, tLst, rIsF, tyN_non, tyN_bl, tyN_int, tyN_str, tyN_ref, isB_1, isB_2, isB_3, isB_4, isB_5, isB_6, isB_7, isB_8, tyO_tup, tyO_lst, tyO_dK, tyO_frz, rIxG, rLenG, rInG, rAllG, rSumG, rListG, rTupG, tLcF, tLcP, tForF, tForP, srcTup, srcLst, srcStr, srcRng, srcEnum, srcZip, srcEnumT, tYes, wipe, gTupG, gCons, gNil, tStarG, tSl, rSlTG, rSlLG, rCatTG, rRep, tJoinG, rSortedSG, tApp, tExd, tupO_tup, lstO_lst, seqO_tup, seqO_lst, dKO_dK, tNoPart, tPart, tFl, sFl, tSls, sSls, tMeS, tPrS, tPrF, tMethR, tMake, sFlAug, rLenS, L2.start, List.map_cons, List.map_nil, List.length_cons, List.length_nil, Nat.zero_add, Nat.reduceAdd, Nat.reduceSub, List.replicate_succ, List.replicate_zero, List.forall_mem_map, List.cons_append, List.nil_append, List.getElem?_cons_succ, List.getElem?_cons_zero, List.set_cons_zero, List.set_cons_succ, Option.some.injEq, V.int.injEq, V.str.injEq, V.bl.injEq, V.ref.injEq, V.ty.injEq, List.cons.injEq, HO.tup.injEq, HO.lst.injEq, HO.ins.injEq, reduceCtorEq, exists_eq_left', exists_eq_left, exists_eq_right', exists_eq_right, exists_and_left, exists_and_right, and_true, true_and, and_false, false_and, or_false, false_or, or_true, true_or, exists_const, exists_eq', exists_eq, scal_ii, scal_ss, scal_bb, scal_nn, scal_ns, scal_sn, spIsNumber, rTupX, rSetI, rSortedSet, rSetL, gSub, upd_same, if_true, if_false, ite_true, ite_false, Bool.not_true, Bool.not_false, Bool.true_and, Bool.and_true, Bool.false_eq_true, decide_true, decide_false, sz1, atI_0, atI_1, and_assoc])
local macro_rules | `(tactic| walk_at "rh") => `(tactic| simp only [*, tVar, tC, tOp, tUn, rI0, rI, rU, rEq, rNe, tTest, tB, tAnd, tOr, tNot, tAndV, tOrV, tNotV, tIf, tChain, tIfS, tRet, tRetN, tSeq, tNext, tAsg, gName, tDrop, tCons, tNil, tCB, tCR, tTup, tLst, rIsF, tyN_non, tyN_bl, tyN_int, tyN_str, tyN_ref, isB_1, isB_2, isB_3, isB_4, isB_5, isB_6, isB_7, isB_8, tyO_tup, tyO_lst, tyO_dK, tyO_frz, rIxG, rLenG, rInG, rAllG, rSumG, rListG, rTupG, tLcF, tLcP, tForF, tForP, srcTup, srcLst, srcStr, srcRng, srcEnum, srcZip, srcEnumT, tYes, wipe, gTupG, gCons, gNil, tStarG, tSl, rSlTG, rSlLG, rCatTG, rRep, tJoinG, rSortedSG, tApp, tExd, tupO_tup, lstO_lst, seqO_tup, seqO_lst, dKO_dK, tNoPart, tPart, tFl, sFl, tSls, sSls, tMeS, tPrS, tPrF, tMethR, tMake, sFlAug, rLenS, L2.start, List.map_cons, List.map_nil, List.length_cons, List.length_nil, Nat.zero_add, Nat.reduceAdd, Nat.reduceSub, List.replicate_succ, List.replicate_zero, List.forall_mem_map, List.cons_append, List.nil_append, List.getElem?_cons_succ, List.getElem?_cons_zero, List.set_cons_zero, List.set_cons_succ, Option.some.injEq, V.int.injEq, V.str.injEq, V.bl.injEq, V.ref.injEq, V.ty.injEq, List.cons.injEq, HO.tup.injEq, HO.lst.injEq, HO.ins.injEq, reduceCtorEq, exists_eq_left', exists_eq_left, exists_eq_right', exists_eq_right, exists_and_left, exists_and_right, and_true, true_and, and_false, false_and, or_false, false_or, or_true, true_or, exists_const, exists_eq', exists_eq, scal_ii, scal_ss, scal_bb, scal_nn, scal_ns, scal_sn, spIsNumber, rTupX, rSetI, rSortedSet, rSetL, gSub, upd_same, if_true, if_false, ite_true, ite_false, Bool.not_true, Bool.not_false, Bool.true_and, Bool.and_true, Bool.false_eq_true, decide_true, decide_false, sz1, atI_0, atI_1, and_assoc])
section
variable {P : Program} {w : World} {K : PySem.W.Frag} {mg : Str → Option Value} {base : Heap}
theorem ixK {n j : Nat} (hj : j < n) : ixN n (j : Int) = some j := by
  unfold ixN
  rw [if_pos (by omega), if_pos (by omega)]
  simp
/-- what lies at i and at j exchanged -/
def exL (l : Lay) (i j : Nat) : Lay := (l.set i (l.getD j none)).set j (l.getD i none)
def spEx : Sp := fun vs H Q _ => ∃ (b : Addr) (l : Lay) (i j : Nat), vs = [.ref b, .int i, .int j] ∧ LayAt H b l ∧ i < l.length ∧ j < l.length ∧ l.length ≤ 1000 ∧ ∀ p H', Ext H H' → LayX H' p (exL l i j) → Q (.ref p) H'
theorem ok_exchanged (T : Txt K mg w) : OkF P w K mg base CX0 2 (gA K "exchanged") ["layout", "one", "other"] spEx := by
  refine mk0 (k := 1) T.d_exchanged sc_exchanged (fun _ _ _ _ _ _ us hl => match us, hl with | [_, _, _], _ => rfl) (fun vs H Q E h => ?_) (fun cdv A outer s H vs Q E hr h => ?_)
  · obtain ⟨b, l, i, j, rfl, _⟩ := h
    rfl
  · obtain ⟨b, l, i, j, rfl, hl, hi, hj, hz, q⟩ := h
    have hl : tupO (H b) = some (l.map layV) := hl
    have hlS := seqO_of hl
    refine ⟨_, (pss_cons (CC.st (i := 3) sc_exchanged.nd (pe_callTy call_listG rfl T.b_list (by decide +kernel) (pa_cons (pv 0) pa_nil)))
    (pss_cons (ps_asg (pe_tup (pa_cons (pe_ix ix_G (pv 3) (pv 2) (fun _ _ => rfl)) (pa_cons (pe_ix ix_G (pv 3) (pv 1) (fun _ _ => rfl)) pa_nil))) (pg_tupG (n := 2) rfl (pgs_cons (pg_sub (pv 3) (pv 1) set_list) (pgs_cons (pg_sub (pv 3) (pv 2) set_list) pgs_nil))))
    (pss_one (ps_ret (pe_callTy call_tupleX rfl T.b_tuple (by decide +kernel) (pa_cons (pv 3) pa_nil)))))), ?_⟩
    walk_at "rh"
    intro l1 hl1
    have gi : l[i]? = some (l.getD i none) := by simp [hi]
    have gj : l[j]? = some (l.getD j none) := by simp [hj]
    refine ⟨layV (l.getD j none), atI_nat (by rw [List.getElem?_map, gj]; rfl), layV (l.getD i none), atI_nat (by rw [List.getElem?_map, gi]; rfl), by omega, fun p hp => ?_⟩
    have n1 : l1 ≠ p := fun z => by subst z; rw [upd_same] at hp; cases hp
    refine ⟨l.map layV, by rw [upd_ne n1, upd_same], i, ixK (by simpa using hi), j, ixK (by simpa using hj), fun l2 ob hl2 hob => ?_⟩
    have e1 : Ext H (upd (upd H l1 (HO.lst (l.map layV))) p (HO.tup [layV (l.getD j none), layV (l.getD i none)])) := (Ext.new hl1).trans (.new hp)
    refine q l2 _ (((e1.set hl1).set hl1).trans (.new hl2)) ?_
    unfold LayX exL
    rw [List.map_set, List.map_set]
    exact ⟨ob, upd_same, hob⟩
/-- the warmth of door e -/
def wd (s : Sto) (e : Int) : Int := (s.ds.getD e.toNat (0, 0)).1
def eAt (s : Sto) (i : Int) : Int := s.es.getD i.toNat 0
def wsum (s : Sto) (a b : Int) : Int := if a = b then wd s a else wd s a + wd s b
theorem two_of {x y : Int} {ns : List Int} (h : ns.Pairwise (· < ·)) (m : ∀ k, k ∈ ns ↔ k = x ∨ k = y) : (x = y ∧ ns = [x]) ∨ (x ≠ y ∧ (ns = [x, y] ∨ ns = [y, x])) := by
  match ns, h with
  | [], _ => exact absurd ((m x).mpr (.inl rfl)) (by simp)
  | [a], _ =>
    have h1 := (m x).mpr (.inl rfl)
    have h2 := (m y).mpr (.inr rfl)
    simp at h1 h2
    exact .inl ⟨by rw [h1, h2], by rw [h1]⟩
  | [a, b], h =>
    have h1 := (m x).mpr (.inl rfl)
    have h2 := (m y).mpr (.inr rfl)
    have h3 := (m a).mp (by simp)
    have h4 := (m b).mp (by simp)
    simp at h
    simp at h1 h2
    rcases h3 with rfl | rfl <;> rcases h4 with rfl | rfl
    · omega
    · exact .inr ⟨by omega, .inl rfl⟩
    · exact .inr ⟨by omega, .inr rfl⟩
    · omega
  | a :: b :: c :: r, h =>
    have h3 := (m a).mp (by simp)
    have h4 := (m b).mp (by simp)
    have h5 := (m c).mp (by simp)
    simp at h
    rcases h3 with rfl | rfl <;> rcases h4 with rfl | rfl <;> rcases h5 with rfl | rfl <;> omega
theorem two_len {x y : Int} {ns : List Int} (h : ns.Pairwise (· < ·)) (m : ∀ k, k ∈ ns ↔ k = x ∨ k = y) : ns.length ≤ 16777216 := by
  rcases two_of h m with ⟨_, rfl⟩ | ⟨_, rfl | rfl⟩ <;> simp
theorem two_sum {s : Sto} {x y : Int} {ns : List Int} (h : ns.Pairwise (· < ·)) (m : ∀ k, k ∈ ns ↔ k = x ∨ k = y) : (ns.map (wd s)).sum = wsum s x y := by
  unfold wsum
  rcases two_of h m with ⟨e, rfl⟩ | ⟨e, rfl | rfl⟩
  · simp [e]
  · simp [e]
  · simp [e]; omega
def spWarmth (K : PySem.W.Frag) : Sp := fun vs H Q _ => ∃ (a : Addr) (s : Sto) (i j : Int), vs = [.ref a, .int i, .int j] ∧ StoAt K H a s ∧ s.Ok ∧ inB i s.es.length = true ∧ inB j s.es.length = true ∧ ∀ H', Ext H H' → Q (.int (wsum s (eAt s i) (eAt s j))) H'
theorem ok_warmth_of (T : Txt K mg w) : OkF P w K mg base CX0 4 (gA K "warmth_of") ["store", "one", "other"] (spWarmth K) := by
  have F_Store_doors := ok_Store_doors (P := P) (base := base) T
  have F_Store_door_of := ok_Store_door_of (P := P) (base := base) T
  refine mk0 (k := 3) T.d_warmth_of sc_warmth_of (fun _ _ _ _ _ _ us hl => match us, hl with | [_, _, _], _ => rfl) (fun vs H Q E h => ?_) (fun cdv A outer s H vs Q E hr h => ?_)
  · obtain ⟨b, s, i, j, rfl, _⟩ := h
    rfl
  · obtain ⟨a, sto, i, j, rfl, hst, D, hi, hj, q⟩ := h
    obtain ⟨ea, pa, da, ca, h1, h2, h3, ⟨l, h4, hm, hR⟩, h5⟩ := id hst
    have hs := h1.sa
    refine ⟨_, (pss_cons (CC.st (i := 3) sc_warmth_of.nd (pe_callB (cr_sortedSet rfl) rfl T.b_sorted (by decide +kernel) (pa_cons (pe_callTy (call_setI rfl) rfl T.b_set (by decide +kernel) (pa_cons (pe_lst (pa_cons (pe_meS T.scls_Store T.me_Store_door_of F_Store_door_of.raw hr passL (pv 0) (pa_cons (pv 1) pa_nil)) (pa_cons (pe_meS T.scls_Store T.me_Store_door_of F_Store_door_of.raw hr passL (pv 0) (pa_cons (pv 2) pa_nil)) pa_nil))) pa_nil)) pa_nil)))
    (pss_one (ps_ret (pe_callB (cr_sumG rfl) rfl T.b_sum (by decide +kernel) (pa_cons (lcF (own := [("door", 4)]) rfl sc_warmth_of.nd (sr_lst (pv 3)) (blkOk_by (N := n_warmth_of) (sc := defScope s_warmth_of) (by decide +kernel)) (fun _ _ _ _ _ => (pg_name (i := 4) sc_warmth_of.nd rfl (.inl rfl))) (fun _ _ _ _ _ => pts_nil) (fun _ _ _ _ _ => (pe_ix ix_G (pe_ix ix_G (pe_prS T.scls_Store T.pr_Store_doors F_Store_doors.raw hr (pv 0)) (pv 4) (fun _ _ => rfl)) pe_int (fun _ _ => rfl)))) pa_nil))))), ?_⟩
    walk_at "rh"
    refine ⟨⟨_, hs⟩, a, sto, i, rfl, hst, fun _ x hx => ?_, fun z => by rw [hi] at z; cases z⟩
    refine ⟨⟨_, hs⟩, a, sto, j, rfl, hst, fun _ y hy => ?_, fun z => by rw [hj] at z; cases z⟩
    have ex : eAt sto i = x := by unfold eAt; rw [List.getD_eq_getElem?_getD, hx]; rfl
    have ey : eAt sto j = y := by unfold eAt; rw [List.getD_eq_getElem?_getD, hy]; rfl
    rw [ex, ey] at q
    have mx := esOf_mem (List.mem_of_getElem? hx)
    have my := esOf_mem (List.mem_of_getElem? hy)
    refine ⟨by omega, fun p hp => ⟨[x, y], rfl, by simp, fun r c hr hc => ⟨_, _, rfl, by simp at hc; omega, fun ns p1 hns hmem _ hp1 => ?_⟩⟩⟩
    have e1 := ((Ext.new (o := .lst [V.int x, V.int y]) hp).trans (.new hr)).trans (.new (o := .lst (ns.map V.int)) hp1)
    have hmem : ∀ k, k ∈ ns ↔ k = x ∨ k = y := fun k => by rw [hmem]; simp
    have hb : ∀ k, k ∈ ns → (0 : Int) ≤ k ∧ k < sto.ds.length := fun k hk => by
      rcases (hmem k).mp hk with rfl | rfl
      · exact ⟨by omega, by omega⟩
      · exact ⟨by omega, by omega⟩
    refine ⟨_, ns, V.int, rfl, two_len hns hmem, fun k => some (.int (wd sto k)), fun k hk H2 e2 => ?_, fun B H2 hB e2 hl2 => ?_⟩
    · have ee := e1.trans e2
      refine ⟨⟨_, (h1.ext ee).sa⟩, a, sto, rfl, hst.ext ee, fun da' ⟨l', hl', hm', hR'⟩ => ?_⟩
      have hk2 := hb k hk
      have hln : l'.length = sto.ds.length := by rw [← hm', List.length_map]
      obtain ⟨r, hr⟩ : ∃ r, l'[k.toNat]? = some r := ⟨l'[k.toNat]'(by omega), by rw [List.getElem?_eq_getElem]⟩
      have hr2 : H2 r.1 = some (.tup [.int r.2.1, .int r.2.2]) := hR' r (List.mem_of_getElem? hr)
      have at1 : atI (l'.map fun q => V.ref q.1) k = some (.ref r.1) := by
        have := atI_nat (xs := l'.map fun q => V.ref q.1) (j := k.toNat) (v := .ref r.1) (by rw [List.getElem?_map, hr]; rfl)
        rwa [show ((k.toNat : Nat) : Int) = k by omega] at this
      walk_at "rh"
      have : sto.ds[k.toNat]? = some r.2 := by rw [← hm', List.getElem?_map, hr]; rfl
      simp [wd, this, Ext.refl, at1, hl']
    · walk_at "rh"
      refine ⟨ns.map (wd sto), by simp, ?_⟩
      rw [two_sum hns hmem]
      exact q _ (e1.trans e2)
theorem eqv_strA : ∀ {xs ys : List Str}, PyData.eqvAll (xs.map .str) (ys.map .str) = decide (xs = ys)
  | [], [] => by simp [PyData.eqvAll]
  | [], y :: r => by simp [PyData.eqvAll]
  | x :: r, [] => by simp [PyData.eqvAll]
  | x :: r, y :: t => by
    simp only [List.map_cons, PyData.eqvAll, PyData.eqv, eqv_strA]
    by_cases h : x = y
    · subst h; simp
    · simp [h]
theorem eqv_strL {xs ys : List Str} : PyData.eqv (.list (xs.map .str)) (.list (ys.map .str)) = decide (xs = ys) := by
  simp only [PyData.eqv]
  exact eqv_strA
def spRight : Sp := fun vs H Q _ => ∃ (b : Addr) (s : Sto) (l : Lay), vs = [.ref b] ∧ s.Ok ∧ LayAt H b l ∧ IsLay s l ∧ ∀ H', Ext H H' → Q (.bl (decide (l.filterMap id = s.cs))) H'
theorem ok_is_right (T : Txt K mg w) : OkF P w K mg base CX0 2 (gA K "is_right") ["layout"] spRight := by
  refine mk0 (k := 1) T.d_is_right sc_is_right (fun _ _ _ _ _ _ us hl => match us, hl with | [_], _ => rfl) (fun vs H Q E h => ?_) (fun cdv A outer s H vs Q E hr h => ?_)
  · obtain ⟨b, s, l, rfl, _⟩ := h
    rfl
  · obtain ⟨b, sto, l, rfl, D, hl, IL, q⟩ := h
    have hl : tupO (H b) = some (l.map layV) := hl
    have hlS := seqO_of hl
    have hz : l.length ≤ 4 := by have := IL.len; have := D.len; have := D.d.ps; omega
    refine ⟨_, (pss_cons (setLcF (i := 1) (own := [("name", 2)]) rfl sc_is_right.nd (sw_true rfl rfl rfl (by decide +kernel)) (sr_tup (pv 0)) (blkOk_by (N := n_is_right) (sc := defScope s_is_right) (by decide +kernel)) (fun _ _ _ _ _ => (pg_name (i := 2) sc_is_right.nd rfl (.inl rfl))) (fun _ _ _ _ _ => (pts_one (pt_cmpR op_notN (pv 2) pe_non (nomark _)))) (fun _ _ _ _ _ => (pv 2)))
    (pss_one (ps_ret (pe_cmpR (op_eqD hr.units) (pv 1) (pe_callB cr_sortedSG rfl T.b_sorted (by decide +kernel) (pa_cons (pv 1) pa_nil)) (nomark _))))), ?_⟩
    walk_at "rh"
    refine ⟨_, l, layV, rfl, by omega, fun z => z.map V.str, fun z hz H2 e2 => ?_, fun B H2 hB e2 hl2 => ?_⟩
    · cases z with
      | none => simp [layV, Ext.refl]
      | some z => simp [layV, Ext.refl]
    · have hn : l.filterMap (fun z => z.map V.str) = (l.filterMap id).map V.str := by rw [List.map_filterMap]; rfl
      rw [hn] at hl2
      walk_at "rh"
      refine ⟨l.filterMap id, rfl, by have := len_names (l := l); omega, fun ys p hp1 hp2 hp => ?_⟩
      have hy : ys = sto.cs := srt_cs D (hp1.trans IL.prm) hp2
      subst hy
      have ok1 : ∀ {zs : List Str}, (∀ z, z ∈ zs → z ∈ names3) → dOk 1 (.list (zs.map PyData.str)) := fun h => dOk.lst (n := 0) fun d hd => by obtain ⟨z, hz, rfl⟩ := List.mem_map.mp hd; exact .str (names_ok (h z hz))
      have m1 : ∀ z, z ∈ sto.cs → z ∈ names3 := fun z hz => List.mem_of_mem_take hz
      have m2 : ∀ z, z ∈ l.filterMap id → z ∈ names3 := fun z hz => m1 z (IL.prm.subset hz)
      refine ⟨.list ((l.filterMap id).map .str), .list (sto.cs.map .str), .lst (.of (Ext.new hp _ _ hl2)) (dpAll_map fun z _ => .str z), .lst (.of upd_same) (dpAll_map fun z _ => .str z), (ok1 m2).shaped (by omega), (ok1 m1).shaped (by omega), ?_⟩
      rw [eqv_strL]
      exact q _ (e2.trans (.new hp))
def spSorted (K : PySem.W.Frag) : Sp := fun vs H Q _ => ∃ (a b : Addr) (s : Sto) (l : Lay), vs = [.ref a, .ref b] ∧ StoAt K H a s ∧ s.Ok ∧ LayAt H b l ∧ IsLay s l ∧ ∀ H', Ext H H' → Q (.bl (decide (l.filterMap id = s.cs))) H'
theorem ok_is_sorted (T : Txt K mg w) : OkF P w K mg base CX0 6 (gA K "is_sorted") ["store", "layout"] (spSorted K) := by
  have F_check_layout := ok_check_layout (P := P) (base := base) T
  have F_is_right := ok_is_right (P := P) (base := base) T
  refine mk0 (k := 5) T.d_is_sorted sc_is_sorted (fun _ _ _ _ _ _ us hl => match us, hl with | [_, _], _ => rfl) (fun vs H Q E h => ?_) (fun cdv A outer s H vs Q E hr h => ?_)
  · obtain ⟨a, b, s, l, rfl, _⟩ := h
    rfl
  · obtain ⟨a, b, sto, l, rfl, hst, D, hl, IL, q⟩ := h
    refine ⟨_, (pss_cons (ps_expr (pe_cR F_check_layout.raw hr T.g_check_layout pass0 (pa_cons (pv 0) (pa_cons (pv 1) pa_nil))))
    (pss_one (ps_ret (pe_cR F_is_right.raw hr T.g_is_right pass0 (pa_cons (pv 1) pa_nil))))), ?_⟩
    walk_at "rh"
    refine ⟨a, b, sto, l, rfl, hst, D, hl, IL, fun H1 e1 => ?_⟩
    walk_at "rh"
    exact ⟨b, sto, l, rfl, D, hl.mono e1.tup, IL, fun H2 e2 => q _ (e1.trans e2)⟩
end
end CC
set_option maxHeartbeats 4000000
/-! CCMir2: what a used store keeps. -/
namespace CC
open PySem PySem.Spec PyProof.Rows L2
inductive Op where
  | look (d : Int) | put (n : Str) (p : Int) | exch (a b : Str) | shut | keep (x : Str) | fetch (x : Str)
  deriving DecidableEq
def Op.vs : Op → List V
  | .look d => [.str "look", .int d]
  | .put n p => [.str "put", .str n, .int p]
  | .exch a b => [.str "exchange", .str a, .str b]
  | .shut => [.str "shut"]
  | .keep x => [.str "keep_as", .str x]
  | .fetch x => [.str "fetch", .str x]
abbrev Facts := Lay × Int × List Int
abbrev Shelf := List (Str × Facts)
abbrev Ent := Op × Facts × Shelf
structure LS where
  f : Facts
  sh : Shelf
  past : List Ent
  undone : List Ent
def LS.goOn (s : LS) (op : Op) (f : Facts) (sh : Shelf) : LS := ⟨f, sh, s.past ++ [(op, s.f, s.sh)], []⟩
def LS.goBack (s : LS) : Option LS := match s.past.getLast? with
  | some (op, f, sh) => some ⟨f, sh, s.past.dropLast, s.undone ++ [(op, s.f, s.sh)]⟩
  | none => none
def LS.goAgain (s : LS) : Option LS := match s.undone.getLast? with
  | some (op, f, sh) => some ⟨f, sh, s.past ++ [(op, s.f, s.sh)], s.undone.dropLast⟩
  | none => none
def OpAt (H : Hp) (a : Addr) (op : Op) : Prop := H a = some (.tup op.vs)
def FactsAt (H : Hp) (a : Addr) (f : Facts) : Prop := ∃ la da, H a = some (.tup [.ref la, .int f.2.1, .ref da]) ∧ LayX H la f.1 ∧ H da = some (.tup (f.2.2.map V.int))
def ShelfAt (H : Hp) (a : Addr) (sh : Shelf) : Prop := ∃ l : List (Addr × Str × Facts), H a = some (.dK (l.map fun q => (.inr q.2.1, .ref q.1))) ∧ l.map Prod.snd = sh ∧ ∀ q, q ∈ l → FactsAt H q.1 q.2.2
def EntAt (H : Hp) (a : Addr) (e : Ent) : Prop := ∃ oa fa sa, H a = some (.tup [.ref oa, .ref fa, .ref sa]) ∧ OpAt H oa e.1 ∧ FactsAt H fa e.2.1 ∧ ShelfAt H sa e.2.2
def PastAt (H : Hp) (a : Addr) (es : List Ent) : Prop := ∃ l : List (Addr × Ent), tupO (H a) = some (l.map fun q => .ref q.1) ∧ l.map Prod.snd = es ∧ ∀ q, q ∈ l → EntAt H q.1 q.2
section
variable {H H' : Hp} (e : Tup H H') {a : Addr}
include e
theorem OpAt.mono {op : Op} (h : OpAt H a op) : OpAt H' a op := e.t _ _ h
theorem FactsAt.mono {f : Facts} (h : FactsAt H a f) : FactsAt H' a f := by
  obtain ⟨la, da, h1, h2, h3⟩ := h
  exact ⟨la, da, e.t _ _ h1, TupX.mono h2 e, e.t _ _ h3⟩
theorem ShelfAt.mono {f : Shelf} (h : ShelfAt H a f) : ShelfAt H' a f := by
  obtain ⟨l, h1, h2, h3⟩ := h
  exact ⟨l, e.d _ _ h1, h2, fun q hq => FactsAt.mono e (h3 q hq)⟩
theorem EntAt.mono {f : Ent} (h : EntAt H a f) : EntAt H' a f := by
  obtain ⟨oa, fa, sa, h1, h2, h3, h4⟩ := h
  exact ⟨oa, fa, sa, e.t _ _ h1, OpAt.mono e h2, FactsAt.mono e h3, ShelfAt.mono e h4⟩
theorem PastAt.mono {f : List Ent} (h : PastAt H a f) : PastAt H' a f := by
  obtain ⟨l, h1, h2, h3⟩ := h
  exact ⟨l, e.tO h1, h2, fun q hq => EntAt.mono e (h3 q hq)⟩
end
def LSAt (K : PySem.W.Frag) (H : Hp) (s : Addr) (ls : LS) : Prop := ∃ fa pa sa ua, SB H s (gA K "State") [.ref fa, .ref pa, .ref sa, .ref ua] ∧ FactsAt H fa ls.f ∧ ShelfAt H sa ls.sh ∧ PastAt H pa ls.past ∧ PastAt H ua ls.undone
theorem LSAt.ext {K : PySem.W.Frag} {H H' : Hp} {s : Addr} {ls : LS} (h : LSAt K H s ls) (e : Ext H H') : LSAt K H' s ls := by
  obtain ⟨fa, pa, sa, ua, h1, h2, h3, h4, h5⟩ := h
  exact ⟨fa, pa, sa, ua, h1.ext e, FactsAt.mono e.tup h2, ShelfAt.mono e.tup h3, PastAt.mono e.tup h4, PastAt.mono e.tup h5⟩
theorem Kp.slH {s C dx : Addr} {H : Hp} {vs : List (Option V)} (h : H dx = some (.xd [])) : Kp s H (SlX.slH H s C dx vs) := fun b o n e => by
  unfold SlX.slH
  rw [upd_ne n]
  by_cases z : b = dx
  · subst z
    rw [h] at e
    rw [upd_same]
    exact e
  · rw [upd_ne z]
    exact e
/-- tuples and dicts stand when an instance with slots changes -/
theorem Kp.tupS {H H' : Hp} {s C : Addr} {vs : List V} (k : Kp s H H') (h : SB H s C vs) : Tup H H' := by
  obtain ⟨dx, h1, _⟩ := h
  exact k.tup (CC.tupS h1) (dKS h1) (frzS h1)
/-- a store of a slot of a whole instance -/
theorem SB.put {H : Hp} {s C dx : Addr} {vs : List V} {i : Nat} {v : V} (hi : i < vs.length) (n : dx ≠ s) : SB (SlX.slH H s C dx (SlX.putS i v (vs.map some))) s C (vs.set i v) := by
  refine ⟨dx, ?_, by unfold SlX.slH; rw [upd_ne n, upd_same]⟩
  unfold SlX.slH
  rw [upd_same]
  unfold SlX.putS
  rw [List.length_map, show i + 1 - vs.length = 0 by omega, List.replicate_zero, List.append_nil, List.map_set]
/-- what sSls asks of a whole instance -/
theorem SB.slt {H : Hp} {s C : Addr} {vs : List V} (h : SB H s C vs) : ∃ dx, SlX.Slt H s C dx (vs.map some) ∧ dx ≠ s ∧ H dx = some (.xd []) := by
  obtain ⟨dx, h1, h2⟩ := h
  exact ⟨dx, .inr ⟨h1, h2⟩, fun z => by subst z; rw [h2] at h1; exact SB.ne (Option.some.inj h1).symm, h2⟩
section
variable {X : Cx} {e o value : Expr} {ta tv : TE} {pos pos' : Pos} {f : Str}
def tSlB (C : Addr) (i : Nat) (ta : TE) : TE := fun σ H Q => ta σ H fun x H1 => ∃ a vs v, x = .ref a ∧ SB H1 a C vs ∧ vs[i]? = some v ∧ Q v H1
theorem pe_slB {C p : Addr} {i : Nat} (c : SlX.SCls X.K C) (k : SlX.Slot1 X.K C f p i) (he : PE X e ta) (hb : attributeBase e f X.env (eval e X.env) = eval e X.env := by rfl) : PE X (.Attribute e f pos) (tSlB C i ta) :=
  impPE (pe_slS c k (upPE he) hb) fun σ H Q q => ⟨_, q, fun x H1 ⟨a, vs, v, ex, hs, hv, q⟩ => ⟨a, _, v, ex, hs.sa, by rw [List.getElem?_map, hv]; rfl, q⟩⟩
def sSlB (C : Addr) (i : Nat) (ta tv : TE) : TS := fun D σ H => tv σ H fun y H1 => ta σ H1 fun x H2 => ∃ a vs, x = .ref a ∧ SB H2 a C vs ∧ i < vs.length ∧ ∀ H', Kp a H2 H' → SB H' a C (vs.set i y) → D.nx σ H'
theorem ps_slB {C p : Addr} {i : Nat} (c : SlX.SCls X.K C) (k : SlX.Slot1 X.K C f p i) (ha : PE X o ta) (hv : PE X value tv) (hs : swapsWith value (some (.Attribute o f pos')) pos.line X.env = pure false := by rfl) : PS X (.Assign [.Attribute o f pos'] value pos) (sSlB C i ta tv) :=
  impPS (ps_slS c k (upPE ha) (upPE hv) hs) fun D σ H q => ⟨_, q, fun y H1 q1 => ⟨_, q1, fun x H2 ⟨a, vs, ex, hs, hi, q2⟩ => by
    obtain ⟨dx, h1, h2, h3⟩ := hs.slt
    exact ⟨a, dx, _, ex, h1, q2 _ (Kp.slH h3) (SB.put hi h2)⟩⟩⟩
end
end CC
set_option maxHeartbeats 4000000
namespace CC
open PySem PySem.Spec PyProof.Rows L2
local macro_rules | `(tactic| walk_at "rd") => `(tactic| simp only [tVar, tC, tOp, tUn, rI0, rI, rU, rEq, rNe, tTest, tB, tAnd, tOr, tNot, tAndV, tOrV, tNotV, tIf, tChain, tIfS, tRet, tRetN, tSeq, tNext, tAsg, gName, tDrop, tCons, tNil, tCB, tCR, tTup, tLst, rIsF, tyN_non, tyN_bl, tyN_int, tyN_str, tyN_ref, isB_1, isB_2, isB_3, isB_4, isB_5, isB_6, isB_7, isB_8, tyO_tup, tyO_lst, tyO_dK, tyO_frz, rIxG, rLenG, rInG, rAllG, rSumG, rListG, rTupG, tLcF, tLcP, tForF, tForP, srcTup, srcLst, srcStr, srcRng, srcEnum, srcZip, srcEnumT, tYes, wipe, gTupG, gCons, gNil, tStarG, tSl, rSlTG, rSlLG, rCatTG, rRep, tJoinG, rSortedSG, tApp, tExd, tupO_tup, lstO_lst, seqO_tup, seqO_lst, dKO_dK, tNoPart, tPart, tFl, sFl, tSls, sSls, tMeS, tPrS, tPrF, tMethR, tMake, sFlAug, rLenS, L2.start, List.map_cons, List.map_nil, List.length_cons, List.length_nil, Nat.zero_add, Nat.reduceAdd, Nat.reduceSub, List.replicate_succ, List.replicate_zero, List.forall_mem_map, List.cons_append, List.nil_append, List.getElem?_cons_succ, List.getElem?_cons_zero, List.set_cons_zero, List.set_cons_succ, Option.some.injEq, V.int.injEq, V.str.injEq, V.bl.injEq, V.ref.injEq, V.ty.injEq, List.cons.injEq, HO.tup.injEq, HO.lst.injEq, HO.ins.injEq, reduceCtorEq, exists_eq_left', exists_eq_left, exists_eq_right', exists_eq_right, exists_and_left, exists_and_right, and_true, true_and, and_false, false_and, or_false, false_or, or_true, true_or, exists_const, exists_eq', exists_eq, scal_ii, scal_ss, scal_bb, scal_nn, scal_ns, scal_sn, tSlB, sSlB, upd_same, if_true, if_false, ite_true, ite_false, Bool.not_true, Bool.not_false, Bool.true_and, Bool.and_true, Bool.false_eq_true, decide_true, decide_false, sz1, atI_0, atI_1, and_assoc])
local macro_rules | `(tactic| walk_at "rh") => `(tactic| simp only [*, tVar, tC, tOp, tUn, rI0, rI, rU, rEq, rNe, tTest, tB, tAnd, tOr, tNot, tAndV, tOrV, tNotV, tIf, tChain, tIfS, tRet, tRetN, tSeq, tNext, tAsg, gName, tDrop, tCons, tNil, tCB, tCR, tTup, tLst, rIsF, tyN_non, tyN_bl, tyN_int, tyN_str, tyN_ref, isB_1, isB_2, isB_3, isB_4, isB_5, isB_6, isB_7, isB_8, tyO_tup, tyO_lst, tyO_dK, tyO_frz, rIxG, rLenG, rInG, rAllG, rSumG, rListG, rTupG, tLcF, tLcP, tForF, tForP, srcTup, srcLst, srcStr, srcRng, srcEnum, srcZip, srcEnumT, tYes, wipe, gTupG, gCons, gNil, tStarG, tSl, rSlTG, rSlLG, rCatTG, rRep, tJoinG, rSortedSG, tApp, tExd, tupO_tup, lstO_lst, seqO_tup, seqO_lst, dKO_dK, tNoPart, tPart, tFl, sFl, tSls, sSls, tMeS, tPrS, tPrF, tMethR, tMake, sFlAug, rLenS, L2.start, List.map_cons, List.map_nil, List.length_cons, List.length_nil, Nat.zero_add, Nat.reduceAdd, Nat.reduceSub, List.replicate_succ, List.replicate_zero, List.forall_mem_map, List.cons_append, List.nil_append, List.getElem?_cons_succ, List.getElem?_cons_zero, List.set_cons_zero, List.set_cons_succ, Option.some.injEq, V.int.injEq, V.str.injEq, V.bl.injEq, V.ref.injEq, V.ty.injEq, List.cons.injEq, HO.tup.injEq, HO.lst.injEq, HO.ins.injEq, reduceCtorEq, exists_eq_left', exists_eq_left, exists_eq_right', exists_eq_right, exists_and_left, exists_and_right, and_true, true_and, and_false, false_and, or_false, false_or, or_true, true_or, exists_const, exists_eq', exists_eq, scal_ii, scal_ss, scal_bb, scal_nn, scal_ns, scal_sn, tSlB, sSlB, upd_same, if_true, if_false, ite_true, ite_false, Bool.not_true, Bool.not_false, Bool.true_and, Bool.and_true, Bool.false_eq_true, decide_true, decide_false, sz1, atI_0, atI_1, and_assoc])
section
variable {P : Program} {w : World} {K : PySem.W.Frag} {mg : Str → Option Value} {base : Heap}
def spStInit (K : PySem.W.Frag) : Sp := fun vs H Q _ => ∃ (a f h p u dx : Addr), vs = [.ref a, .ref f, .ref h, .ref p, .ref u] ∧ Made H a (gA K "State") dx ∧ ∀ H', Kp2 a dx H H' → SB H' a (gA K "State") [.ref f, .ref p, .ref h, .ref u] → Q .non H'
theorem ok_State___init__ (T : Txt K mg w) : OkF P w K mg base CX0 2 (mA K "State" "__init__") ["self", "facts", "shelf", "past", "undone"] (spStInit K) := by
  refine mk0 (k := 1) T.d_State___init__ sc_State___init__ (fun _ _ _ _ _ _ us hl => match us, hl with | [_, _, _, _, _], _ => rfl) (fun vs H Q E h => ?_) (fun cdv A outer s H vs Q E hr h => ?_)
  · obtain ⟨a, f, h, p, u, dx, rfl, _⟩ := h
    rfl
  · obtain ⟨a, f, h, p, u, dx, rfl, M, q⟩ := h
    refine ⟨_, (pss_cons (ps_slS T.scls_State T.sl_State_facts (pv 0) (pv 1))
    (pss_cons (ps_slS T.scls_State T.sl_State_shelf (pv 0) (pv 2))
    (pss_cons (ps_slS T.scls_State T.sl_State_past (pv 0) (pv 3))
    (pss_one (ps_slS T.scls_State T.sl_State_undone (pv 0) (pv 4)))))), ?_⟩
    walk_at "rh"
    have s0 : SlX.Slt H a (gA K "State") dx [] := .inl ⟨M.i, rfl⟩
    refine ⟨dx, _, s0, dx, _, SlX.slH_slt M.n, dx, _, SlX.slH_slt M.n, dx, _, SlX.slH_slt M.n, ?_⟩
    refine q _ (((Kp2.slH.trans Kp2.slH).trans Kp2.slH).trans Kp2.slH) ⟨dx, ?_, ?_⟩
    · exact upd_same
    · unfold SlX.slH
      rw [upd_ne M.n, upd_same]
def spCopied (K : PySem.W.Frag) : Sp := fun vs H Q _ => ∃ (a f p h u : Addr), vs = [.ref a] ∧ SB H a (gA K "State") [.ref f, .ref p, .ref h, .ref u] ∧ ∀ r H', Ext H H' → H r = none → SB H' r (gA K "State") [.ref f, .ref p, .ref h, .ref u] → Q (.ref r) H'
theorem ok_State_copied (T : Txt K mg w) : OkF P w K mg base CX0 4 (mA K "State" "copied") ["self"] (spCopied K) := by
  have F_State___init__ := ok_State___init__ (P := P) (base := base) T
  refine mk0 (k := 3) T.d_State_copied sc_State_copied (fun _ _ _ _ _ _ us hl => match us, hl with | [_], _ => rfl) (fun vs H Q E h => ?_) (fun cdv A outer s H vs Q E hr h => ?_)
  · obtain ⟨a, f, h, p, u, rfl, _⟩ := h
    rfl
  · obtain ⟨a, f, p, h, u, rfl, hs, q⟩ := h
    refine ⟨_, (pss_one (ps_ret (pe_mk T.mk_State F_State___init__ hr T.g_State.1 pass0 (pa_cons (pe_slB T.scls_State T.sl_State_facts (pv 0)) (pa_cons (pe_slB T.scls_State T.sl_State_shelf (pv 0)) (pa_cons (pe_slB T.scls_State T.sl_State_past (pv 0)) (pa_cons (pe_slB T.scls_State T.sl_State_undone (pv 0)) pa_nil))))))), ?_⟩
    walk_at "rh"
    refine ⟨_, hs, ?_⟩
    walk_at "rh"
    refine ⟨_, hs, ?_⟩
    walk_at "rh"
    refine ⟨_, hs, ?_⟩
    walk_at "rh"
    refine ⟨_, hs, ?_⟩
    walk_at "rh"
    intro x dx h1 h2 hn
    refine ⟨x, f, h, p, u, dx, rfl, Made.of hn, fun H' k hs' => ⟨rfl, q x H' (k.ext h1 h2) h1 hs'⟩⟩
def spGoOn (K : PySem.W.Frag) : Sp := fun vs H Q _ => ∃ (s oa fa ha : Addr) (ls : LS) (op : Op) (f : Facts) (sh : Shelf), vs = [.ref s, .ref oa, .ref fa, .ref ha] ∧ LSAt K H s ls ∧ OpAt H oa op ∧ FactsAt H fa f ∧ ShelfAt H ha sh ∧ ls.past.length ≤ 1000 ∧ ∀ H', Kp s H H' → LSAt K H' s (ls.goOn op f sh) → Q .non H'
theorem ok_State_go_on (T : Txt K mg w) : OkF P w K mg base CX0 2 (mA K "State" "go_on") ["self", "operation", "facts", "shelf"] (spGoOn K) := by
  refine mk0 (k := 1) T.d_State_go_on sc_State_go_on (fun _ _ _ _ _ _ us hl => match us, hl with | [_, _, _, _], _ => rfl) (fun vs H Q E h => ?_) (fun cdv A outer s H vs Q E hr h => ?_)
  · obtain ⟨s, oa, fa, ha, ls, op, f, sh, rfl, _⟩ := h
    rfl
  · obtain ⟨s, oa, fa, ha, ls, op, f, sh, rfl, ⟨f0, p0, h0, u0, hs, hf, hh, ⟨l, hp, hm, hR⟩, hu⟩, ho, hf1, hh1, hlen, q⟩ := h
    refine ⟨_, (pss_cons (ps_slB T.scls_State T.sl_State_past (pv 0) (pe_tup (pa_starG (pe_slB T.scls_State T.sl_State_past (pv 0)) (pa_cons (pe_tup (pa_cons (pv 1) (pa_cons (pe_slB T.scls_State T.sl_State_facts (pv 0)) (pa_cons (pe_slB T.scls_State T.sl_State_shelf (pv 0)) pa_nil)))) pa_nil))))
    (pss_cons (ps_slB T.scls_State T.sl_State_undone (pv 0) (pe_tup pa_nil))
    (pss_cons (ps_slB T.scls_State T.sl_State_facts (pv 0) (pv 2))
    (pss_one (ps_slB T.scls_State T.sl_State_shelf (pv 0) (pv 3)))))), ?_⟩
    walk_at "rh"
    have hlen2 : l.length ≤ 1000 := by rw [← List.length_map (f := Prod.snd), hm]; exact hlen
    refine ⟨_, hs, _, rfl, p0, rfl, _, seqO_of hp, _, hs, _, rfl, _, hs, _, rfl, by omega, fun pe hpe => ⟨by simp; omega, fun p1 hp1 => ?_⟩⟩
    have e1 := (Ext.new (o := .tup [V.ref oa, V.ref f0, V.ref h0]) hpe).trans (.new (o := .tup (l.map (fun q => V.ref q.1) ++ [V.ref pe])) hp1)
    have hs1 := hs.ext e1
    refine ⟨_, hs1, by simp, fun H2 k2 hs2 => ⟨by omega, fun p2 hp2 => ?_⟩⟩
    have hs3 := hs2.ext (.new (o := .tup []) hp2)
    refine ⟨_, hs3, by simp, fun H4 k4 hs4 => ⟨_, hs4, by simp, fun H5 k5 hs5 => ⟨_, hs5, by simp, fun H6 k6 hs6 => ?_⟩⟩⟩
    have k36 := (k4.trans k5).trans k6
    have k16 := (k2.trans ((Ext.new (o := .tup []) hp2).kp s)).trans k36
    have k06 := (e1.kp s).trans k16
    have t0 := k06.tupS hs
    have t1 := k16.tupS hs1
    have t3 := k36.tupS hs3
    have g1 : upd (upd H pe (.tup [V.ref oa, V.ref f0, V.ref h0])) p1 (.tup (l.map (fun q => V.ref q.1) ++ [V.ref pe])) pe = some (.tup [V.ref oa, V.ref f0, V.ref h0]) := Ext.new hp1 _ _ upd_same
    refine q _ k06 ⟨fa, p1, ha, p2, hs6, FactsAt.mono t0 hf1, ShelfAt.mono t0 hh1, ⟨l ++ [(pe, (op, ls.f, ls.sh))], ?_, ?_, ?_⟩, ⟨[], t3.tO (by rw [upd_same]; rfl), rfl, fun _ h => nomatch h⟩⟩
    · rw [List.map_append]
      exact t1.tO (by rw [upd_same]; rfl)
    · rw [List.map_append, hm]
      rfl
    · intro y hy
      rcases List.mem_append.mp hy with hy | hy
      · exact EntAt.mono t0 (hR y hy)
      · rw [List.mem_singleton] at hy
        subst hy
        exact ⟨oa, f0, h0, t1.t _ _ g1, OpAt.mono t0 ho, FactsAt.mono t0 hf, ShelfAt.mono t0 hh⟩
theorem atI_last {α : Type} {xs : List α} {x : α} (h : xs.getLast? = some x) : atI xs (-1) = some x := by
  have hl : xs ≠ [] := fun z => by subst z; cases h
  have hp : 0 < xs.length := List.length_pos_iff.mpr hl
  unfold atI ixN
  rw [if_neg (by decide), if_pos (by omega), Option.bind_some]
  rw [List.getLast?_eq_getElem?] at h
  rw [← h]
  congr 1
  omega
def spGoBack (K : PySem.W.Frag) : Sp := fun vs H Q _ => ∃ (s : Addr) (ls ls' : LS), vs = [.ref s] ∧ LSAt K H s ls ∧ ls.goBack = some ls' ∧ ls.undone.length ≤ 1000 ∧ ∀ H', Kp s H H' → LSAt K H' s ls' → Q .non H'
theorem ok_State_go_back (T : Txt K mg w) : OkF P w K mg base CX0 2 (mA K "State" "go_back") ["self"] (spGoBack K) := by
  refine mk0 (k := 1) T.d_State_go_back sc_State_go_back (fun _ _ _ _ _ _ us hl => match us, hl with | [_], _ => rfl) (fun vs H Q E h => ?_) (fun cdv A outer s H vs Q E hr h => ?_)
  · obtain ⟨s, ls, ls', rfl, _⟩ := h
    rfl
  · obtain ⟨s, ls, ls', rfl, ⟨f0, p0, h0, u0, hs, hf, hh, ⟨l, hp, hm, hR⟩, ⟨l2, hu, hm2, hR2⟩⟩, hg, hlen, q⟩ := h
    refine ⟨_, (pss_cons (ps_asg (pe_ix ix_G (pe_slB T.scls_State T.sl_State_past (pv 0)) (pe_un un_neg pe_int) (fun _ _ => rfl)) (pg_tupG (n := 3) rfl (pgs_cons (pg_name (i := 1) sc_State_go_back.nd rfl (.inl rfl)) (pgs_cons (pg_name (i := 2) sc_State_go_back.nd rfl (.inl rfl)) (pgs_cons (pg_name (i := 3) sc_State_go_back.nd rfl (.inl rfl)) pgs_nil)))))
    (pss_cons (ps_slB T.scls_State T.sl_State_undone (pv 0) (pe_tup (pa_starG (pe_slB T.scls_State T.sl_State_undone (pv 0)) (pa_cons (pe_tup (pa_cons (pv 1) (pa_cons (pe_slB T.scls_State T.sl_State_facts (pv 0)) (pa_cons (pe_slB T.scls_State T.sl_State_shelf (pv 0)) pa_nil)))) pa_nil))))
    (pss_cons (ps_slB T.scls_State T.sl_State_past (pv 0) (pe_slice sl_tupG (pe_slB T.scls_State T.sl_State_past (pv 0)) po_none (po_some (pe_un un_neg pe_int))))
    (pss_cons (ps_slB T.scls_State T.sl_State_facts (pv 0) (pv 2))
    (pss_one (ps_slB T.scls_State T.sl_State_shelf (pv 0) (pv 3))))))), ?_⟩
    walk_at "rh"
    have hgl : ∃ ed, ls.past.getLast? = some ed := by
      unfold LS.goBack at hg
      cases z : ls.past.getLast? with
      | none => rw [z] at hg; cases hg
      | some ed => exact ⟨_, rfl⟩
    obtain ⟨⟨op, f, sh⟩, hgl⟩ := hgl
    have hls : ls' = ⟨f, sh, ls.past.dropLast, ls.undone ++ [(op, ls.f, ls.sh)]⟩ := by
      unfold LS.goBack at hg
      rw [hgl] at hg
      exact (Option.some.inj hg).symm
    subst hls
    obtain ⟨y, hy, hym⟩ : ∃ y, l.getLast? = some y ∧ y.2 = (op, f, sh) := by
      rw [← hm, List.getLast?_map] at hgl
      exact Option.map_eq_some_iff.mp hgl
    obtain ⟨oa, fa, ha, g1, g2, g3, g4⟩ := hR y (List.mem_of_getLast? hy)
    rw [hym] at g2 g3 g4
    have hlen2 : l2.length ≤ 1000 := by rw [← List.length_map (f := Prod.snd), hm2]; exact hlen
    have at1 : atI (l.map fun q => V.ref q.1) (-1) = some (.ref y.1) := atI_last (by rw [List.getLast?_map, hy]; rfl)
    refine ⟨_, hs, _, rfl, p0, rfl, _, seqO_of hp, _, at1, y.1, rfl, _, by rw [g1]; rfl, rfl, _, _, rfl, _, _, rfl, _, _, rfl, rfl, ?_⟩
    refine ⟨_, hs, _, rfl, u0, rfl, _, seqO_of hu, _, hs, _, rfl, _, hs, _, rfl, by omega, fun pe hpe => ⟨by simp; omega, fun p1 hp1 => ?_⟩⟩
    have e1 := (Ext.new (o := .tup [V.ref oa, V.ref f0, V.ref h0]) hpe).trans (.new (o := .tup (l2.map (fun q => V.ref q.1) ++ [V.ref pe])) hp1)
    have hs1 := hs.ext e1
    refine ⟨_, hs1, by simp, fun H2 k2 hs2 => ?_⟩
    have k02 := (e1.kp s).trans k2
    have t02 := k02.tupS hs
    refine ⟨_, hs2, _, rfl, p0, rfl, _, t02.tO hp, fun p2 H3 e3 hp3 => ?_⟩
    have hs3 := hs2.ext e3
    rw [cutV_last] at hp3
    refine ⟨_, hs3, by simp, fun H4 k4 hs4 => ⟨_, hs4, by simp, fun H5 k5 hs5 => ⟨_, hs5, by simp, fun H6 k6 hs6 => ?_⟩⟩⟩
    have k36 := (k4.trans k5).trans k6
    have k16 := (k2.trans (e3.kp s)).trans k36
    have k06 := (e1.kp s).trans k16
    have t0 := k06.tupS hs
    have t1 := k16.tupS hs1
    have t3 := k36.tupS hs3
    have gg1 : upd (upd H pe (.tup [V.ref oa, V.ref f0, V.ref h0])) p1 (.tup (l2.map (fun q => V.ref q.1) ++ [V.ref pe])) pe = some (.tup [V.ref oa, V.ref f0, V.ref h0]) := Ext.new hp1 _ _ upd_same
    refine q _ k06 ⟨fa, p2, ha, p1, hs6, FactsAt.mono t0 g3, ShelfAt.mono t0 g4, ⟨l.dropLast, ?_, ?_, ?_⟩, ⟨l2 ++ [(pe, (op, ls.f, ls.sh))], ?_, ?_, ?_⟩⟩
    · rw [List.map_dropLast]
      exact t3.tO hp3
    · rw [List.map_dropLast, hm]
    · intro y hy
      exact EntAt.mono t0 (hR y ((List.dropLast_sublist l).subset hy))
    · rw [List.map_append]
      exact t1.tO (by rw [upd_same]; rfl)
    · rw [List.map_append, hm2]
      rfl
    · intro y hy
      rcases List.mem_append.mp hy with hy | hy
      · exact EntAt.mono t0 (hR2 y hy)
      · rw [List.mem_singleton] at hy
        subst hy
        exact ⟨oa, f0, h0, t1.t _ _ gg1, OpAt.mono t0 g2, FactsAt.mono t0 hf, ShelfAt.mono t0 hh⟩
def spGoAgain (K : PySem.W.Frag) : Sp := fun vs H Q _ => ∃ (s : Addr) (ls ls' : LS), vs = [.ref s] ∧ LSAt K H s ls ∧ ls.goAgain = some ls' ∧ ls.past.length ≤ 1000 ∧ ∀ H', Kp s H H' → LSAt K H' s ls' → Q .non H'
theorem ok_State_go_again (T : Txt K mg w) : OkF P w K mg base CX0 2 (mA K "State" "go_again") ["self"] (spGoAgain K) := by
  refine mk0 (k := 1) T.d_State_go_again sc_State_go_again (fun _ _ _ _ _ _ us hl => match us, hl with | [_], _ => rfl) (fun vs H Q E h => ?_) (fun cdv A outer s H vs Q E hr h => ?_)
  · obtain ⟨s, ls, ls', rfl, _⟩ := h
    rfl
  · obtain ⟨s, ls, ls', rfl, ⟨f0, u0, h0, p0, hs, hf, hh, ⟨l2, hu, hm2, hR2⟩, ⟨l, hp, hm, hR⟩⟩, hg, hlen, q⟩ := h
    refine ⟨_, (pss_cons (ps_asg (pe_ix ix_G (pe_slB T.scls_State T.sl_State_undone (pv 0)) (pe_un un_neg pe_int) (fun _ _ => rfl)) (pg_tupG (n := 3) rfl (pgs_cons (pg_name (i := 1) sc_State_go_again.nd rfl (.inl rfl)) (pgs_cons (pg_name (i := 2) sc_State_go_again.nd rfl (.inl rfl)) (pgs_cons (pg_name (i := 3) sc_State_go_again.nd rfl (.inl rfl)) pgs_nil)))))
    (pss_cons (ps_slB T.scls_State T.sl_State_past (pv 0) (pe_tup (pa_starG (pe_slB T.scls_State T.sl_State_past (pv 0)) (pa_cons (pe_tup (pa_cons (pv 1) (pa_cons (pe_slB T.scls_State T.sl_State_facts (pv 0)) (pa_cons (pe_slB T.scls_State T.sl_State_shelf (pv 0)) pa_nil)))) pa_nil))))
    (pss_cons (ps_slB T.scls_State T.sl_State_undone (pv 0) (pe_slice sl_tupG (pe_slB T.scls_State T.sl_State_undone (pv 0)) po_none (po_some (pe_un un_neg pe_int))))
    (pss_cons (ps_slB T.scls_State T.sl_State_facts (pv 0) (pv 2))
    (pss_one (ps_slB T.scls_State T.sl_State_shelf (pv 0) (pv 3))))))), ?_⟩
    walk_at "rh"
    have hgl : ∃ ed, ls.undone.getLast? = some ed := by
      unfold LS.goAgain at hg
      cases z : ls.undone.getLast? with
      | none => rw [z] at hg; cases hg
      | some ed => exact ⟨_, rfl⟩
    obtain ⟨⟨op, f, sh⟩, hgl⟩ := hgl
    have hls : ls' = ⟨f, sh, ls.past ++ [(op, ls.f, ls.sh)], ls.undone.dropLast⟩ := by
      unfold LS.goAgain at hg
      rw [hgl] at hg
      exact (Option.some.inj hg).symm
    subst hls
    obtain ⟨y, hy, hym⟩ : ∃ y, l.getLast? = some y ∧ y.2 = (op, f, sh) := by
      rw [← hm, List.getLast?_map] at hgl
      exact Option.map_eq_some_iff.mp hgl
    obtain ⟨oa, fa, ha, g1, g2, g3, g4⟩ := hR y (List.mem_of_getLast? hy)
    rw [hym] at g2 g3 g4
    have hlen2 : l2.length ≤ 1000 := by rw [← List.length_map (f := Prod.snd), hm2]; exact hlen
    have at1 : atI (l.map fun q => V.ref q.1) (-1) = some (.ref y.1) := atI_last (by rw [List.getLast?_map, hy]; rfl)
    refine ⟨_, hs, _, rfl, p0, rfl, _, seqO_of hp, _, at1, y.1, rfl, _, by rw [g1]; rfl, rfl, _, _, rfl, _, _, rfl, _, _, rfl, rfl, ?_⟩
    refine ⟨_, hs, _, rfl, u0, rfl, _, seqO_of hu, _, hs, _, rfl, _, hs, _, rfl, by omega, fun pe hpe => ⟨by simp; omega, fun p1 hp1 => ?_⟩⟩
    have e1 := (Ext.new (o := .tup [V.ref oa, V.ref f0, V.ref h0]) hpe).trans (.new (o := .tup (l2.map (fun q => V.ref q.1) ++ [V.ref pe])) hp1)
    have hs1 := hs.ext e1
    refine ⟨_, hs1, by simp, fun H2 k2 hs2 => ?_⟩
    have k02 := (e1.kp s).trans k2
    have t02 := k02.tupS hs
    refine ⟨_, hs2, _, rfl, p0, rfl, _, t02.tO hp, fun p2 H3 e3 hp3 => ?_⟩
    have hs3 := hs2.ext e3
    rw [cutV_last] at hp3
    refine ⟨_, hs3, by simp, fun H4 k4 hs4 => ⟨_, hs4, by simp, fun H5 k5 hs5 => ⟨_, hs5, by simp, fun H6 k6 hs6 => ?_⟩⟩⟩
    have k36 := (k4.trans k5).trans k6
    have k16 := (k2.trans (e3.kp s)).trans k36
    have k06 := (e1.kp s).trans k16
    have t0 := k06.tupS hs
    have t1 := k16.tupS hs1
    have t3 := k36.tupS hs3
    have gg1 : upd (upd H pe (.tup [V.ref oa, V.ref f0, V.ref h0])) p1 (.tup (l2.map (fun q => V.ref q.1) ++ [V.ref pe])) pe = some (.tup [V.ref oa, V.ref f0, V.ref h0]) := Ext.new hp1 _ _ upd_same
    refine q _ k06 ⟨fa, p1, ha, p2, hs6, FactsAt.mono t0 g3, ShelfAt.mono t0 g4, ⟨l2 ++ [(pe, (op, ls.f, ls.sh))], ?_, ?_, ?_⟩, ⟨l.dropLast, ?_, ?_, ?_⟩⟩
    · rw [List.map_append]
      exact t1.tO (by rw [upd_same]; rfl)
    · rw [List.map_append, hm2]
      rfl
    · intro y hy
      rcases List.mem_append.mp hy with hy | hy
      · exact EntAt.mono t0 (hR2 y hy)
      · rw [List.mem_singleton] at hy
        subst hy
        exact ⟨oa, f0, h0, t1.t _ _ gg1, OpAt.mono t0 g2, FactsAt.mono t0 hf, ShelfAt.mono t0 hh⟩
    · rw [List.map_dropLast]
      exact t3.tO hp3
    · rw [List.map_dropLast, hm]
    · intro y hy
      exact EntAt.mono t0 (hR y ((List.dropLast_sublist l).subset hy))
end
end CC
set_option maxHeartbeats 4000000
/-! CCLive: a used store in the heap. -/
namespace CC
open PySem PySem.Spec PyProof.Rows L2
theorem lkH {a b : V} : List.lookup ("held" : Str) [(("base" : Str), a), (("held" : Str), b)] = some b := rfl
theorem lkB {a b : V} : List.lookup ("base" : Str) [(("base" : Str), a), (("held" : Str), b)] = some a := rfl
structure LiveOn (K : PySem.W.Frag) (H : Hp) (v s sa : Addr) (st : Sto) (ls : LS) : Prop where
  live : ∃ dx, H v = some (.ins (gA K "Live") dx [("base", .ref sa), ("held", .ref s)])
  sto : StoAt K H sa st
  lst : LSAt K H s ls
  ne : sa ≠ s
  ok : st.Ok
variable {K : PySem.W.Frag} {H H' : Hp} {v s sa : Addr} {st : Sto} {ls ls' : LS}
theorem StoAt.kp {C : Addr} {vs : List V} (h : StoAt K H sa st) (k : Kp s H H') (hs : SB H s C vs) (n : sa ≠ s) : StoAt K H' sa st := by
  have t := k.tupS hs
  obtain ⟨ea, pa, da, ca, h1, h2, h3, h4, h5⟩ := h
  obtain ⟨dx, g1, g2⟩ := hs
  exact ⟨ea, pa, da, ca, h1.kp k n (by rw [g1]; intro z; exact SB.ne (Option.some.inj z)), t.t _ _ h2, t.t _ _ h3, h4.mono t, t.t _ _ h5⟩
theorem LSAt.sb (h : LSAt K H s ls) : ∃ vs, SB H s (gA K "State") vs := by
  obtain ⟨fa, pa, sa, ua, h1, _⟩ := h
  exact ⟨_, h1⟩
theorem LiveOn.kp (h : LiveOn K H v s sa st ls) (k : Kp s H H') (l : LSAt K H' s ls') : LiveOn K H' v s sa st ls' := by
  obtain ⟨dx, hv⟩ := h.live
  obtain ⟨vs, hs⟩ := h.lst.sb
  have n : v ≠ s := fun z => by
    subst z
    obtain ⟨dx2, g1, _⟩ := hs
    rw [hv] at g1
    exact nomatch Option.some.inj g1
  exact ⟨⟨dx, k _ _ n hv⟩, h.sto.kp k hs h.ne, l, h.ne, h.ok⟩
theorem LiveOn.ext (h : LiveOn K H v s sa st ls) (e : Ext H H') : LiveOn K H' v s sa st ls := by
  obtain ⟨dx, hv⟩ := h.live
  exact ⟨⟨dx, e _ _ hv⟩, h.sto.ext e, h.lst.ext e, h.ne, h.ok⟩
/-- tuples and dicts stand when only the state changes -/
theorem LiveOn.tup (h : LiveOn K H v s sa st ls) (k : Kp s H H') : Tup H H' := let ⟨_, hs⟩ := h.lst.sb; k.tupS hs
end CC
set_option maxHeartbeats 4000000
namespace CC
open PySem PySem.Spec PyProof.Rows L2
local macro_rules | `(tactic| walk_at "rd") => `(tactic| simp only [tVar, tC, tOp, tUn, rI0, rI, rU, rEq, rNe, tTest, tB, tAnd, tOr, tNot, tAndV, tOrV, tNotV, tIf, tChain, tIfS, tRet, tRetN, tSeq, tNext, tAsg, gName, tDrop, tCons, tNil, tCB, tCR, tTup, tLst, rIsF, tyN_non, tyN_bl, tyN_int, tyN_str, tyN_ref, isB_1, isB_2, isB_3, isB_4, isB_5, isB_6, isB_7, isB_8, tyO_tup, tyO_lst, tyO_dK, tyO_frz, rIxG, rLenG, rInG, rAllG, rSumG, rListG, rTupG, tLcF, tLcP, tForF, tForP, srcTup, srcLst, srcStr, srcRng, srcEnum, srcZip, srcEnumT, tYes, wipe, gTupG, gCons, gNil, tStarG, tSl, rSlTG, rSlLG, rCatTG, rRep, tJoinG, rSortedSG, tApp, tExd, tupO_tup, lstO_lst, seqO_tup, seqO_lst, dKO_dK, tNoPart, tPart, tFl, sFl, tSls, sSls, tMeS, tPrS, tPrF, tMethR, tMake, sFlAug, rLenS, L2.start, List.map_cons, List.map_nil, List.length_cons, List.length_nil, Nat.zero_add, Nat.reduceAdd, Nat.reduceSub, List.replicate_succ, List.replicate_zero, List.forall_mem_map, List.cons_append, List.nil_append, List.getElem?_cons_succ, List.getElem?_cons_zero, List.set_cons_zero, List.set_cons_succ, Option.some.injEq, V.int.injEq, V.str.injEq, V.bl.injEq, V.ref.injEq, V.ty.injEq, List.cons.injEq, HO.tup.injEq, HO.lst.injEq, HO.ins.injEq, reduceCtorEq, exists_eq_left', exists_eq_left, exists_eq_right', exists_eq_right, exists_and_left, exists_and_right, and_true, true_and, and_false, false_and, or_false, false_or, or_true, true_or, exists_const, exists_eq', exists_eq, scal_ii, scal_ss, scal_bb, scal_nn, scal_ns, scal_sn, tSlB, sSlB, tTix, rEq0, rDor, lkH, lkB, upd_same, if_true, if_false, ite_true, ite_false, Bool.not_true, Bool.not_false, Bool.true_and, Bool.and_true, Bool.false_eq_true, decide_true, decide_false, sz1, atI_0, atI_1, and_assoc])
local macro_rules | `(tactic| walk_at "rh") => `(tactic| simp only [*, tVar, tC, tOp, tUn, rI0, rI, rU, rEq, rNe, tTest, tB, tAnd, tOr, tNot, tAndV, tOrV, tNotV, tIf, tChain, tIfS, tRet, tRetN, tSeq, tNext, tAsg, gName, tDrop, tCons, tNil, tCB, tCR, tTup, tLst, rIsF, tyN_non, tyN_bl, tyN_int, tyN_str, tyN_ref, isB_1, isB_2, isB_3, isB_4, isB_5, isB_6, isB_7, isB_8, tyO_tup, tyO_lst, tyO_dK, tyO_frz, rIxG, rLenG, rInG, rAllG, rSumG, rListG, rTupG, tLcF, tLcP, tForF, tForP, srcTup, srcLst, srcStr, srcRng, srcEnum, srcZip, srcEnumT, tYes, wipe, gTupG, gCons, gNil, tStarG, tSl, rSlTG, rSlLG, rCatTG, rRep, tJoinG, rSortedSG, tApp, tExd, tupO_tup, lstO_lst, seqO_tup, seqO_lst, dKO_dK, tNoPart, tPart, tFl, sFl, tSls, sSls, tMeS, tPrS, tPrF, tMethR, tMake, sFlAug, rLenS, L2.start, List.map_cons, List.map_nil, List.length_cons, List.length_nil, Nat.zero_add, Nat.reduceAdd, Nat.reduceSub, List.replicate_succ, List.replicate_zero, List.forall_mem_map, List.cons_append, List.nil_append, List.getElem?_cons_succ, List.getElem?_cons_zero, List.set_cons_zero, List.set_cons_succ, Option.some.injEq, V.int.injEq, V.str.injEq, V.bl.injEq, V.ref.injEq, V.ty.injEq, List.cons.injEq, HO.tup.injEq, HO.lst.injEq, HO.ins.injEq, reduceCtorEq, exists_eq_left', exists_eq_left, exists_eq_right', exists_eq_right, exists_and_left, exists_and_right, and_true, true_and, and_false, false_and, or_false, false_or, or_true, true_or, exists_const, exists_eq', exists_eq, scal_ii, scal_ss, scal_bb, scal_nn, scal_ns, scal_sn, tSlB, sSlB, tTix, rEq0, rDor, lkH, lkB, upd_same, if_true, if_false, ite_true, ite_false, Bool.not_true, Bool.not_false, Bool.true_and, Bool.and_true, Bool.false_eq_true, decide_true, decide_false, sz1, atI_0, atI_1, and_assoc])
section
variable {P : Program} {w : World} {K : PySem.W.Frag} {mg : Str → Option Value} {base : Heap}
def spLayNow (K : PySem.W.Frag) : Sp := fun vs H Q _ => ∃ (v s sa : Addr) (st : Sto) (ls : LS), vs = [.ref v] ∧ LiveOn K H v s sa st ls ∧ ∀ la, LayX H la ls.f.1 → Q (.ref la) H
theorem ok_Live_layout_now (T : Txt K mg w) : OkF P w K mg base CX0 2 (pA K "Live" "layout_now") ["self"] (spLayNow K) := by
  refine mk0 (k := 1) T.d_Live_layout_now sc_Live_layout_now (fun _ _ _ _ _ _ us hl => match us, hl with | [_], _ => rfl) (fun vs H Q E h => ?_) (fun cdv A outer s H vs Q E hr h => ?_)
  · obtain ⟨v, s, sa, st, ls, rfl, _⟩ := h
    rfl
  · obtain ⟨v, s, sa, st, ls, rfl, L, q⟩ := h
    obtain ⟨dx, hv⟩ := L.live
    obtain ⟨fa, pa, ha, ua, hs, ⟨la, da, hf, hl, hd⟩, hh, hp, hu⟩ := L.lst
    refine ⟨_, (pss_one (ps_ret (pe_ix ix_G (pe_slB T.scls_State T.sl_State_facts (pe_flF T.cls_Live T.na_Live_held (pv 0))) pe_int (fun _ _ => rfl)))), ?_⟩
    walk_at "rh"
    refine ⟨_, hs, _, rfl, fa, rfl, ?_⟩
    exact ⟨_, by rw [hf]; rfl, _, rfl, q la hl⟩
def spWarmNow (K : PySem.W.Frag) : Sp := fun vs H Q _ => ∃ (v s sa : Addr) (st : Sto) (ls : LS), vs = [.ref v] ∧ LiveOn K H v s sa st ls ∧ Q (.int ls.f.2.1) H
theorem ok_Live_warmth_now (T : Txt K mg w) : OkF P w K mg base CX0 2 (pA K "Live" "warmth_now") ["self"] (spWarmNow K) := by
  refine mk0 (k := 1) T.d_Live_warmth_now sc_Live_warmth_now (fun _ _ _ _ _ _ us hl => match us, hl with | [_], _ => rfl) (fun vs H Q E h => ?_) (fun cdv A outer s H vs Q E hr h => ?_)
  · obtain ⟨v, s, sa, st, ls, rfl, _⟩ := h
    rfl
  · obtain ⟨v, s, sa, st, ls, rfl, L, q⟩ := h
    obtain ⟨dx, hv⟩ := L.live
    obtain ⟨fa, pa, ha, ua, hs, ⟨la, da, hf, hl, hd⟩, hh, hp, hu⟩ := L.lst
    refine ⟨_, (pss_one (ps_ret (pe_ix ix_G (pe_slB T.scls_State T.sl_State_facts (pe_flF T.cls_Live T.na_Live_held (pv 0))) pe_int (fun _ _ => rfl)))), ?_⟩
    walk_at "rh"
    refine ⟨_, hs, _, rfl, fa, rfl, ?_⟩
    exact ⟨_, by rw [hf]; rfl, _, rfl, q⟩
def spDayW (K : PySem.W.Frag) : Sp := fun vs H Q _ => ∃ (v s sa : Addr) (st : Sto) (ls : LS), vs = [.ref v] ∧ LiveOn K H v s sa st ls ∧ ∀ p, H p = none → Q (.ref p) (upd H p (.lst (ls.f.2.2.map V.int)))
theorem ok_Live_day_warmths (T : Txt K mg w) : OkF P w K mg base CX0 2 (pA K "Live" "day_warmths") ["self"] (spDayW K) := by
  refine mk0 (k := 1) T.d_Live_day_warmths sc_Live_day_warmths (fun _ _ _ _ _ _ us hl => match us, hl with | [_], _ => rfl) (fun vs H Q E h => ?_) (fun cdv A outer s H vs Q E hr h => ?_)
  · obtain ⟨v, s, sa, st, ls, rfl, _⟩ := h
    rfl
  · obtain ⟨v, s, sa, st, ls, rfl, L, q⟩ := h
    obtain ⟨dx, hv⟩ := L.live
    obtain ⟨fa, pa, ha, ua, hs, ⟨la, da, hf, hl, hd⟩, hh, hp, hu⟩ := L.lst
    refine ⟨_, (pss_one (ps_ret (pe_callTy call_listG rfl T.b_list (by decide +kernel) (pa_cons (pe_ix ix_G (pe_slB T.scls_State T.sl_State_facts (pe_flF T.cls_Live T.na_Live_held (pv 0))) pe_int (fun _ _ => rfl)) pa_nil)))), ?_⟩
    walk_at "rh"
    refine ⟨_, hs, _, rfl, fa, rfl, ?_⟩
    walk_at "rh"
    exact ⟨.ref da, rfl, da, rfl, _, by rw [hd]; rfl, q⟩
def spKept (K : PySem.W.Frag) : Sp := fun vs H Q _ => ∃ (v s sa : Addr) (st : Sto) (ls : LS), vs = [.ref v] ∧ LiveOn K H v s sa st ls ∧ ls.sh.length < 64 ∧ ∀ p ks, List.Perm ks (ls.sh.map Prod.fst) → sortedS ks = true → H p = none → Q (.ref p) (upd H p (.lst (ks.map V.str)))
theorem ok_Live_kept_under (T : Txt K mg w) : OkF P w K mg base CX0 2 (pA K "Live" "kept_under") ["self"] (spKept K) := by
  refine mk0 (k := 1) T.d_Live_kept_under sc_Live_kept_under (fun _ _ _ _ _ _ us hl => match us, hl with | [_], _ => rfl) (fun vs H Q E h => ?_) (fun cdv A outer s H vs Q E hr h => ?_)
  · obtain ⟨v, s, sa, st, ls, rfl, _⟩ := h
    rfl
  · obtain ⟨v, s, sa, st, ls, rfl, L, hlt, q⟩ := h
    obtain ⟨dx, hv⟩ := L.live
    obtain ⟨fa, pa, ha, ua, hs, ⟨la, da, hf, hl, hd⟩, ⟨l, hh, hm, hR⟩, hp, hu⟩ := L.lst
    refine ⟨_, (pss_one (ps_ret (pe_callB (call_sortedD rfl) rfl T.b_sorted (by decide +kernel) (pa_cons (pe_slB T.scls_State T.sl_State_shelf (pe_flF T.cls_Live T.na_Live_held (pv 0))) pa_nil)))), ?_⟩
    walk_at "rh"
    refine ⟨_, hs, _, rfl, ?_⟩
    refine ⟨ha, rfl, _, .inl hh, ls.sh.map Prod.fst, by rw [← hm, List.map_map, List.map_map, List.map_map]; rfl, by rw [List.length_map]; exact hlt, fun ys p h1 h2 h3 => q p ys h1 h2 h3⟩
theorem opsOf {H : Hp} : ∀ {l : List (Addr × Ent)}, (∀ q, q ∈ l → EntAt H q.1 q.2) → ∃ l' : List (Addr × Op), l.filterMap (fun q => (tupO (H q.1)).bind List.head?) = l'.map (fun q => .ref q.1) ∧ l'.map Prod.snd = l.map (fun q => q.2.1) ∧ ∀ q, q ∈ l' → OpAt H q.1 q.2
  | [], _ => ⟨[], rfl, rfl, fun _ h => nomatch h⟩
  | y :: r, h => by
    obtain ⟨l', h1, h2, h3⟩ := opsOf (l := r) fun q hq => h q (List.mem_cons_of_mem _ hq)
    obtain ⟨oa, fa, sa, g1, g2, g3, g4⟩ := h y List.mem_cons_self
    refine ⟨(oa, y.2.1) :: l', ?_, by rw [List.map_cons, List.map_cons, h2], fun q hq => ?_⟩
    · have : (tupO (H y.1)).bind List.head? = some (.ref oa) := by rw [g1]; rfl
      simp only [List.filterMap_cons, this, List.map_cons, h1]
    · rcases List.mem_cons.mp hq with rfl | hq
      · exact g2
      · exact h3 q hq
def spHist (K : PySem.W.Frag) : Sp := fun vs H Q _ => ∃ (v s sa : Addr) (st : Sto) (ls : LS), vs = [.ref v] ∧ LiveOn K H v s sa st ls ∧ ls.past.length ≤ 1000 ∧ ∀ p H' (l : List (Addr × Op)), H p = none → Ext H H' → H' p = some (.lst (l.map fun q => .ref q.1)) → l.map Prod.snd = ls.past.map Prod.fst → (∀ q, q ∈ l → OpAt H q.1 q.2) → Q (.ref p) H'
theorem ok_Live_history (T : Txt K mg w) : OkF P w K mg base CX0 2 (pA K "Live" "history") ["self"] (spHist K) := by
  refine mk0 (k := 1) T.d_Live_history sc_Live_history (fun _ _ _ _ _ _ us hl => match us, hl with | [_], _ => rfl) (fun vs H Q E h => ?_) (fun cdv A outer s H vs Q E hr h => ?_)
  · obtain ⟨v, s, sa, st, ls, rfl, _⟩ := h
    rfl
  · obtain ⟨v, s, sa, st, ls, rfl, L, hlt, q⟩ := h
    obtain ⟨dx, hv⟩ := L.live
    obtain ⟨fa, pa, ha, ua, hs, ⟨la, da, hf, hl, hd⟩, hh, ⟨l, hp, hm, hR⟩, hu⟩ := L.lst
    refine ⟨_, (pss_one (ps_ret (lcF (own := [("operation", 1), ("facts", 2), ("shelf", 3)]) rfl sc_Live_history.nd (sr_tup (pe_slB T.scls_State T.sl_State_past (pe_flF T.cls_Live T.na_Live_held (pv 0)))) (blkOk_by (N := n_Live_history) (sc := defScope s_Live_history) (by decide +kernel)) (fun _ _ _ _ _ => (pg_tupG (n := 3) rfl (pgs_cons (pg_name (i := 1) sc_Live_history.nd rfl (.inl rfl)) (pgs_cons (pg_name (i := 2) sc_Live_history.nd rfl (.inl rfl)) (pgs_cons (pg_name (i := 3) sc_Live_history.nd rfl (.inl rfl)) pgs_nil))))) (fun _ _ _ _ _ => pts_nil) (fun _ _ _ _ _ => (pv 1))))), ?_⟩
    walk_at "rh"
    refine ⟨_, hs, _, rfl, pa, rfl, _, hp, _, l, fun q => .ref q.1, rfl, by rw [← List.length_map (f := Prod.snd), hm]; omega, fun q => (tupO (H q.1)).bind List.head?, fun y hy H2 e => ?_, fun B H2 hB e hl2 => ?_⟩
    · obtain ⟨oa, fa', sa', g1, g2, g3, g4⟩ := hR y hy
      have g5 := e _ _ g1
      walk_at "rh"
      exact ⟨.refl _, rfl⟩
    · obtain ⟨l', h1, h2, h3⟩ := opsOf hR
      exact q B H2 l' hB e (by rw [hl2, h1]) (by rw [h2, ← hm, List.map_map]; rfl) h3
end
end CC
set_option maxHeartbeats 4000000
namespace CC
open PySem PySem.Spec PyProof.Rows L2
local macro_rules | `(tactic| walk_at "rd") => `(tactic| simp only [tVar, tC, tOp, tUn, rI0, rI, rU, rEq, rNe, tTest, tB, tAnd, tOr, tNot, tAndV, tOrV, tNotV, tIf, tChain, tIfS, tRet, tRetN, tSeq, tNext, tAsg, gName, tDrop, tCons, tNil, tCB, tCR, tTup, tLst, rIsF, tyN_non, tyN_bl, tyN_int, tyN_str, tyN_ref, isB_1, isB_2, isB_3, isB_4, isB_5, isB_6, isB_7, isB_8, tyO_tup, tyO_lst, tyO_dK, tyO_frz, rIxG, rLenG, rInG, rAllG, rSumG, rListG, rTupG, tLcF, tLcP, tForF, tForP, srcTup, srcLst, srcStr, srcRng, srcEnum, srcZip, srcEnumT, tYes, wipe, gTupG, gCons, gNil, tStarG, tSl, rSlTG, rSlLG, rCatTG, rRep, tJoinG, rSortedSG, tApp, tExd, tupO_tup, lstO_lst, seqO_tup, seqO_lst, dKO_dK, tNoPart, tPart, tFl, sFl, tSls, sSls, tMeS, tPrS, tPrF, tMethR, tMake, sFlAug, rLenS, L2.start, List.map_cons, List.map_nil, List.length_cons, List.length_nil, Nat.zero_add, Nat.reduceAdd, Nat.reduceSub, List.replicate_succ, List.replicate_zero, List.forall_mem_map, List.cons_append, List.nil_append, List.getElem?_cons_succ, List.getElem?_cons_zero, List.set_cons_zero, List.set_cons_succ, Option.some.injEq, V.int.injEq, V.str.injEq, V.bl.injEq, V.ref.injEq, V.ty.injEq, List.cons.injEq, HO.tup.injEq, HO.lst.injEq, HO.ins.injEq, reduceCtorEq, exists_eq_left', exists_eq_left, exists_eq_right', exists_eq_right, exists_and_left, exists_and_right, and_true, true_and, and_false, false_and, or_false, false_or, or_true, true_or, exists_const, exists_eq', exists_eq, scal_ii, scal_ss, scal_bb, scal_nn, scal_ns, scal_sn, tSlB, sSlB, tTix, rEq0, rDor, lkH, lkB, tDIn, tDNotIn, tDGet, tDisp, tPairs, upd_same, if_true, if_false, ite_true, ite_false, Bool.not_true, Bool.not_false, Bool.true_and, Bool.and_true, Bool.false_eq_true, decide_true, decide_false, sz1, atI_0, atI_1, and_assoc])
local macro_rules | `(tactic| walk_at "rh") => `(tactic| simp only [*, tVar, tC, tOp, tUn, rI0, rI, rU, rEq, rNe, tTest, tB, tAnd, tOr, tNot, tAndV, tOrV, tNotV, tIf, tChain, tIfS, tRet, tRetN, tSeq, tNext, tAsg, gName, tDrop, tCons, tNil, tCB, tCR, tTup, tLst, rIsF, tyN_non, tyN_bl, tyN_int, tyN_str, tyN_ref, isB_1, isB_2, isB_3, isB_4, isB_5, isB_6, isB_7, isB_8, tyO_tup, tyO_lst, tyO_dK, tyO_frz, rIxG, rLenG, rInG, rAllG, rSumG, rListG, rTupG, tLcF, tLcP, tForF, tForP, srcTup, srcLst, srcStr, srcRng, srcEnum, srcZip, srcEnumT, tYes, wipe, gTupG, gCons, gNil, tStarG, tSl, rSlTG, rSlLG, rCatTG, rRep, tJoinG, rSortedSG, tApp, tExd, tupO_tup, lstO_lst, seqO_tup, seqO_lst, dKO_dK, tNoPart, tPart, tFl, sFl, tSls, sSls, tMeS, tPrS, tPrF, tMethR, tMake, sFlAug, rLenS, L2.start, List.map_cons, List.map_nil, List.length_cons, List.length_nil, Nat.zero_add, Nat.reduceAdd, Nat.reduceSub, List.replicate_succ, List.replicate_zero, List.forall_mem_map, List.cons_append, List.nil_append, List.getElem?_cons_succ, List.getElem?_cons_zero, List.set_cons_zero, List.set_cons_succ, Option.some.injEq, V.int.injEq, V.str.injEq, V.bl.injEq, V.ref.injEq, V.ty.injEq, List.cons.injEq, HO.tup.injEq, HO.lst.injEq, HO.ins.injEq, reduceCtorEq, exists_eq_left', exists_eq_left, exists_eq_right', exists_eq_right, exists_and_left, exists_and_right, and_true, true_and, and_false, false_and, or_false, false_or, or_true, true_or, exists_const, exists_eq', exists_eq, scal_ii, scal_ss, scal_bb, scal_nn, scal_ns, scal_sn, tSlB, sSlB, tTix, rEq0, rDor, lkH, lkB, tDIn, tDNotIn, tDGet, tDisp, tPairs, upd_same, if_true, if_false, ite_true, ite_false, Bool.not_true, Bool.not_false, Bool.true_and, Bool.and_true, Bool.false_eq_true, decide_true, decide_false, sz1, atI_0, atI_1, and_assoc])
section
variable {P : Program} {w : World} {K : PySem.W.Frag} {mg : Str → Option Value} {base : Heap}
def spEnter (K : PySem.W.Frag) : Sp := fun vs H Q _ => ∃ (v s sa oa la : Addr) (st : Sto) (ls : LS) (op : Op) (l : Lay) (m : Int), vs = [.ref v, .ref oa, .ref la, .int m] ∧ LiveOn K H v s sa st ls ∧ OpAt H oa op ∧ LayX H la l ∧ ls.past.length ≤ 1000 ∧ ∀ H', Kp s H H' → LSAt K H' s (ls.goOn op (l, ls.f.2.1 + m, ls.f.2.2) ls.sh) → Q .non H'
theorem ok_Live_enter (T : Txt K mg w) : OkF P w K mg base CX0 4 (mA K "Live" "enter") ["self", "operation", "layout", "more"] (spEnter K) := by
  have F_State_go_on := ok_State_go_on (P := P) (base := base) T
  refine mk0 (k := 3) T.d_Live_enter sc_Live_enter (fun _ _ _ _ _ _ us hl => match us, hl with | [_, _, _, _], _ => rfl) (fun vs H Q E h => ?_) (fun cdv A outer s H vs Q E hr h => ?_)
  · obtain ⟨v, s, sa, oa, la, st, ls, op, l, m, rfl, _⟩ := h
    rfl
  · obtain ⟨v, s, sa, oa, la, st, ls, op, l, m, rfl, L, ho, hl, hlen, q⟩ := h
    obtain ⟨dx, hv⟩ := L.live
    obtain ⟨fa, pa, ha, ua, hs, ⟨la0, da, hf, hl0, hd⟩, hh, hp, hu⟩ := id L.lst
    have hsa := hs.sa
    refine ⟨_, (pss_cons (ps_asg (pe_slB T.scls_State T.sl_State_facts (pe_flF T.cls_Live T.na_Live_held (pv 0))) (pg_tupG (n := 3) rfl (pgs_cons (pg_name (i := 4) sc_Live_enter.nd rfl (.inl rfl)) (pgs_cons (pg_name (i := 5) sc_Live_enter.nd rfl (.inl rfl)) (pgs_cons (pg_name (i := 6) sc_Live_enter.nd rfl (.inl rfl)) pgs_nil)))))
    (pss_one (ps_expr (pe_meS T.scls_State T.me_State_go_on F_State_go_on.raw hr pass0 (pe_flF T.cls_Live T.na_Live_held (pv 0)) (pa_cons (pv 1) (pa_cons (pe_tup (pa_cons (pv 2) (pa_cons (pe_op op_add (pv 5) (pv 3)) (pa_cons (pv 6) pa_nil)))) (pa_cons (pe_slB T.scls_State T.sl_State_shelf (pe_flF T.cls_Live T.na_Live_held (pv 0))) pa_nil))))))), ?_⟩
    walk_at "rh"
    refine ⟨_, hs, _, rfl, fa, rfl, _, by rw [hf]; rfl, rfl, _, _, rfl, _, _, rfl, _, _, rfl, rfl, ⟨_, hsa⟩, _, rfl, by omega, fun p hp => ?_⟩
    have e1 := Ext.new (o := .tup [V.ref la, V.int (ls.f.2.1 + m), V.ref da]) hp
    have hv1 := e1 _ _ hv
    have hs1 := hs.ext e1
    walk_at "rh"
    refine ⟨_, hs1, _, rfl, ?_⟩
    refine ⟨s, oa, p, ha, ls, op, (l, ls.f.2.1 + m, ls.f.2.2), ls.sh, rfl, L.lst.ext e1, OpAt.mono e1.tup ho, ⟨la, da, upd_same, TupX.mono hl e1.tup, e1 _ _ hd⟩, ShelfAt.mono e1.tup hh, hlen, fun H' k l' => q H' ((e1.kp s).trans k) l'⟩
def spUndo (K : PySem.W.Frag) : Sp := fun vs H Q _ => ∃ (v s sa : Addr) (st : Sto) (ls : LS), vs = [.ref v] ∧ LiveOn K H v s sa st ls ∧ ls.undone.length ≤ 1000 ∧ ((ls.goBack = none ∧ ∀ H', Ext H H' → Q (.bl false) H') ∨ ∃ ls', ls.goBack = some ls' ∧ ∀ H', Kp s H H' → LSAt K H' s ls' → Q (.bl true) H')
theorem ok_Live_undo (T : Txt K mg w) : OkF P w K mg base CX0 4 (mA K "Live" "undo") ["self"] (spUndo K) := by
  have F_State_go_back := ok_State_go_back (P := P) (base := base) T
  refine mk0 (k := 3) T.d_Live_undo sc_Live_undo (fun _ _ _ _ _ _ us hl => match us, hl with | [_], _ => rfl) (fun vs H Q E h => ?_) (fun cdv A outer s H vs Q E hr h => ?_)
  · obtain ⟨v, s, sa, st, ls, rfl, _⟩ := h
    rfl
  · obtain ⟨v, s, sa, st, ls, rfl, L, hlen, q⟩ := h
    obtain ⟨dx, hv⟩ := L.live
    obtain ⟨fa, pa, ha, ua, hs, hf, hh, ⟨l, hp, hm, hR⟩, hu⟩ := id L.lst
    have hsa := hs.sa
    refine ⟨_, (pss_cons (ps_if (pt_cmpR (op_eq0 (CC.Room.un1 hr)) (pe_slB T.scls_State T.sl_State_past (pe_flF T.cls_Live T.na_Live_held (pv 0))) (pe_tup pa_nil) (nomark _)) (pss_one (ps_ret pe_bl)) pss_nil)
    (pss_cons (ps_expr (pe_meS0 T.scls_State T.me_State_go_back F_State_go_back.raw hr pass0 (pe_flF T.cls_Live T.na_Live_held (pv 0))))
    (pss_one (ps_ret pe_bl)))), ?_⟩
    walk_at "rh"
    refine ⟨_, hs, _, rfl, by omega, fun p0 hp0 => ⟨pa, rfl, ?_⟩⟩
    have e1 := Ext.new (o := .tup []) hp0
    have hp1 := e1.tupO hp
    have hv1 := e1 _ _ hv
    have hs1 := (hs.ext e1).sa
    walk_at "rh"
    cases l with
    | nil =>
      have hz : ls.past = [] := hm.symm
      have hn : ls.goBack = none := by unfold LS.goBack; rw [hz]; rfl
      rcases q with ⟨_, q⟩ | ⟨ls', h1, _⟩
      · simpa using q _ e1
      · rw [hn] at h1; cases h1
    | cons y r =>
      rw [if_neg (by simp)]
      rcases q with ⟨hn, _⟩ | ⟨ls', hg, q⟩
      · exfalso
        unfold LS.goBack at hn
        rw [← hm, List.map_cons] at hn
        cases z : (y.2 :: r.map Prod.snd).getLast? with
        | none => simp at z
        | some ed => rw [z] at hn; cases hn
      · exact ⟨⟨_, hs1⟩, s, ls, ls', rfl, L.lst.ext e1, hg, hlen, fun H' k l' => q H' ((e1.kp s).trans k) l'⟩
def spShut (K : PySem.W.Frag) : Sp := fun vs H Q _ => ∃ (v s sa : Addr) (st : Sto) (ls : LS), vs = [.ref v] ∧ LiveOn K H v s sa st ls ∧ ls.past.length ≤ 1000 ∧ ls.f.2.2.length ≤ 1000 ∧ ∀ H', Kp s H H' → LSAt K H' s (ls.goOn .shut (ls.f.1, 0, ls.f.2.2 ++ [ls.f.2.1]) ls.sh) → Q (.int ls.f.2.1) H'
theorem ok_Live_shut (T : Txt K mg w) : OkF P w K mg base CX0 4 (mA K "Live" "shut") ["self"] (spShut K) := by
  have F_State_go_on := ok_State_go_on (P := P) (base := base) T
  refine mk0 (k := 3) T.d_Live_shut sc_Live_shut (fun _ _ _ _ _ _ us hl => match us, hl with | [_], _ => rfl) (fun vs H Q E h => ?_) (fun cdv A outer s H vs Q E hr h => ?_)
  · obtain ⟨v, s, sa, st, ls, rfl, _⟩ := h
    rfl
  · obtain ⟨v, s, sa, st, ls, rfl, L, hlen, hlen2, q⟩ := h
    obtain ⟨dx, hv⟩ := L.live
    obtain ⟨fa, pa, ha, ua, hs, ⟨la0, da, hf, hl0, hd⟩, hh, hp, hu⟩ := id L.lst
    have hsa := hs.sa
    refine ⟨_, (pss_cons (ps_asg (pe_slB T.scls_State T.sl_State_facts (pe_flF T.cls_Live T.na_Live_held (pv 0))) (pg_tupG (n := 3) rfl (pgs_cons (pg_name (i := 1) sc_Live_shut.nd rfl (.inl rfl)) (pgs_cons (pg_name (i := 2) sc_Live_shut.nd rfl (.inl rfl)) (pgs_cons (pg_name (i := 3) sc_Live_shut.nd rfl (.inl rfl)) pgs_nil)))))
    (pss_cons (ps_expr (pe_meS T.scls_State T.me_State_go_on F_State_go_on.raw hr pass0 (pe_flF T.cls_Live T.na_Live_held (pv 0)) (pa_cons (pe_tup (pa_cons pe_str pa_nil)) (pa_cons (pe_tup (pa_cons (pv 1) (pa_cons pe_int (pa_cons (pe_tup (pa_starG (pv 3) (pa_cons (pv 2) pa_nil))) pa_nil)))) (pa_cons (pe_slB T.scls_State T.sl_State_shelf (pe_flF T.cls_Live T.na_Live_held (pv 0))) pa_nil)))))
    (pss_one (ps_ret (pv 2))))), ?_⟩
    walk_at "rh"
    refine ⟨_, hs, _, rfl, fa, rfl, _, by rw [hf]; rfl, rfl, _, _, rfl, _, _, rfl, _, _, rfl, rfl, ⟨_, hsa⟩, by omega, fun p hp => ⟨da, rfl, ?_⟩⟩
    have e1 := Ext.new (o := .tup [V.str "shut"]) hp
    have hd1 := e1 _ _ hd
    walk_at "rh"
    refine ⟨by simp; omega, fun p2 hp2 => ⟨by omega, fun p3 hp3 => ?_⟩⟩
    have e2 := Ext.new (o := .tup (ls.f.2.2.map V.int ++ [V.int ls.f.2.1])) hp2
    have e3 := Ext.new (o := .tup [V.ref la0, V.int 0, V.ref p2]) hp3
    have ee := (e1.trans e2).trans e3
    have hv1 := ee _ _ hv
    have hs1 := hs.ext ee
    walk_at "rh"
    refine ⟨_, hs1, _, rfl, ?_⟩
    refine ⟨s, p, p3, ha, ls, .shut, (ls.f.1, 0, ls.f.2.2 ++ [ls.f.2.1]), ls.sh, rfl, L.lst.ext ee, e3 _ _ (e2 _ _ upd_same), ⟨la0, p2, upd_same, TupX.mono hl0 ee.tup, ?_⟩, ShelfAt.mono ee.tup hh, hlen, fun H' k l' => q H' ((ee.kp s).trans k) l'⟩
    rw [List.map_append]
    exact e3 _ _ upd_same
def putS (sh : Shelf) (x : Str) (f : Facts) : Shelf := if x ∈ sh.map Prod.fst then sh.map (fun q => if q.1 = x then (x, f) else q) else sh ++ [(x, f)]
theorem valShelf {x : Str} : ∀ {l : List (Addr × Str × Facts)}, (valV (l.map fun q => ((Sum.inr q.2.1 : Key), V.ref q.1)) (Sum.inr x)).isSome = decide (x ∈ (l.map Prod.snd).map Prod.fst)
  | [] => rfl
  | y :: r => by
    by_cases h : y.2.1 = x
    · rw [List.map_cons, valV_pos (by rw [h])]
      simp [h]
    · rw [List.map_cons, valV_neg (by intro z; exact h (Sum.inr.inj z)), valShelf]
      simp [Ne.symm h]
theorem putShelf (l : List (Addr × Str × Facts)) (x : Str) (fa : Addr) (f : Facts) : ∃ l' : List (Addr × Str × Facts), putK (l.map fun q => ((Sum.inr q.2.1 : Key), V.ref q.1)) (Sum.inr x) (V.ref fa) = l'.map (fun q => ((Sum.inr q.2.1 : Key), V.ref q.1)) ∧ l'.map Prod.snd = putS (l.map Prod.snd) x f ∧ ∀ q, q ∈ l' → q ∈ l ∨ q = (fa, x, f) := by
  have ha : ((l.map fun q => ((Sum.inr q.2.1 : Key), V.ref q.1)).any fun kv => decide (kv.1 = Sum.inr x)) = decide (x ∈ (l.map Prod.snd).map Prod.fst) := by
    induction l with
    | nil => rfl
    | cons y r ih =>
      rw [List.map_cons, List.any_cons, ih]
      by_cases h : y.2.1 = x
      · simp [h]
      · have h2 : (Sum.inr y.2.1 : Key) ≠ Sum.inr x := fun z => h (Sum.inr.inj z)
        simp [h2, Ne.symm h]
  unfold putK putS
  rw [ha]
  by_cases hx : x ∈ (l.map Prod.snd).map Prod.fst
  · rw [if_pos (by simpa using hx), if_pos hx]
    refine ⟨l.map fun q => if q.2.1 = x then (fa, x, f) else q, ?_, ?_, fun q hq => ?_⟩
    · rw [List.map_map, List.map_map]
      refine List.map_congr_left fun y _ => ?_
      by_cases h : y.2.1 = x
      · simp [h]
      · have h2 : (Sum.inr y.2.1 : Key) ≠ Sum.inr x := fun z => h (Sum.inr.inj z)
        simp [h, h2]
    · rw [List.map_map, List.map_map]
      refine List.map_congr_left fun y _ => ?_
      by_cases h : y.2.1 = x
      · simp [h]
      · simp [h]
    · obtain ⟨y, hy, rfl⟩ := List.mem_map.mp hq
      by_cases h : y.2.1 = x
      · simp [h]
      · simp [h, hy]
  · rw [if_neg (by simpa using hx), if_neg hx]
    exact ⟨l ++ [(fa, x, f)], by rw [List.map_append]; rfl, by rw [List.map_append]; rfl, fun q hq => by simpa using hq⟩
def spKeep (K : PySem.W.Frag) : Sp := fun vs H Q _ => ∃ (v s sa : Addr) (st : Sto) (ls : LS) (x : Str), vs = [.ref v, .str x] ∧ LiveOn K H v s sa st ls ∧ ls.past.length ≤ 1000 ∧ ls.sh.length ≤ 1000 ∧ x.length ≤ 1000 ∧ isWordB x = true ∧ ∀ H', Kp s H H' → LSAt K H' s (ls.goOn (.keep x) ls.f (putS ls.sh x ls.f)) → Q (.bl (decide (x ∈ ls.sh.map Prod.fst))) H'
theorem ok_Live_keep_as (T : Txt K mg w) : OkF P w K mg base CX0 4 (mA K "Live" "keep_as") ["self", "name"] (spKeep K) := by
  have F_State_go_on := ok_State_go_on (P := P) (base := base) T
  have F_is_word := ok_is_word (P := P) (base := base) T
  refine mk0 (k := 3) T.d_Live_keep_as sc_Live_keep_as (fun _ _ _ _ _ _ us hl => match us, hl with | [_, _], _ => rfl) (fun vs H Q E h => ?_) (fun cdv A outer s H vs Q E hr h => ?_)
  · obtain ⟨v, s, sa, st, ls, x, rfl, _⟩ := h
    rfl
  · obtain ⟨v, s, sa, st, ls, x, rfl, L, hlen, hlen2, hx, hw, q⟩ := h
    obtain ⟨dx, hv⟩ := L.live
    obtain ⟨fa, pa, ha, ua, hs, hf, ⟨l, hh, hm, hR⟩, hp, hu⟩ := id L.lst
    have hsa := hs.sa
    refine ⟨_, (pss_cons (ps_if (pt_not (pt_val (pe_cR F_is_word.raw hr T.g_is_word pass0 (pa_cons (pv 1) pa_nil)))) (pss_one (ps_never)) pss_nil)
    (pss_cons (CC.st (i := 2) sc_Live_keep_as.nd (pe_flF T.cls_Live T.na_Live_held (pv 0)))
    (pss_cons (CC.st (i := 3) sc_Live_keep_as.nd (pe_cmp (pc_din (CC.Room.un1 hr) (pv 1) (pe_slB T.scls_State T.sl_State_shelf (pv 2)))))
    (pss_cons (ps_expr (pe_meS T.scls_State T.me_State_go_on F_State_go_on.raw hr pass0 (pv 2) (pa_cons (pe_tup (pa_cons pe_str (pa_cons (pv 1) pa_nil))) (pa_cons (pe_slB T.scls_State T.sl_State_facts (pv 2)) (pa_cons (pe_op op_dor (pe_slB T.scls_State T.sl_State_shelf (pv 2)) (pe_disp (pps_cons (pv 1) (pe_slB T.scls_State T.sl_State_facts (pv 2)) pps_nil) rfl rfl (by decide) (by decide))) pa_nil)))))
    (pss_one (ps_ret (pv 3))))))), ?_⟩
    walk_at "rh"
    refine ⟨x, rfl, hx, fun H1 e1 => ?_⟩
    have hv1 := e1 _ _ hv
    have hs1 := hs.ext e1
    rw [hw]
    walk_at "rh"
    have hh1 := e1 _ _ hh
    refine ⟨_, hs1, _, rfl, ha, rfl, _, .inl ⟨_, .inr x, .inl hh1, rfl, rfl⟩, ⟨_, hs1.sa⟩, by omega, fun p hp => ?_⟩
    have e2 := Ext.new (o := .tup [V.str "keep_as", V.str x]) hp
    refine ⟨_, hs1.ext e2, _, rfl, _, hs1.ext e2, _, rfl, fun p1 hp1 => ?_⟩
    have e3 := Ext.new (o := .dK []) hp1
    have e4 : Ext H1 (upd (upd (upd H1 p (.tup [V.str "keep_as", V.str x])) p1 (.dK [])) p1 (.dK (mergeK [] [(Sum.inr x, V.ref fa)]))) := ((e2.trans e3).set (by
      cases z : H1 p1 with
      | none => rfl
      | some o => rw [e2 _ _ z] at hp1; cases hp1))
    refine ⟨_, hs1.ext (e2.trans e3), _, rfl, [(.inr x, .ref fa)], rfl, by simp, ha, rfl, _, by rw [e4 _ _ hh1]; rfl, ?_, fun p2 hp2 => ?_⟩
    · have : (mergeK ([] : List (Key × V)) [(Sum.inr x, V.ref fa)]).length = 1 := rfl
      have h5 : l.length ≤ 1000 := by rw [← List.length_map (f := Prod.snd), hm]; exact hlen2
      rw [List.length_map, this]
      omega
    · have e5 := Ext.new (o := .dK (mergeK (l.map fun q => (Sum.inr q.2.1, V.ref q.1)) (mergeK [] [(Sum.inr x, V.ref fa)]))) hp2
      have ee := (e1.trans e4).trans e5
      obtain ⟨l', g1, g2, g3⟩ := putShelf l x fa ls.f
      rw [valShelf, hm] at *
      refine ⟨s, p, fa, p2, ls, .keep x, ls.f, putS ls.sh x ls.f, rfl, L.lst.ext ee, ?_, FactsAt.mono ee.tup hf, ⟨l', ?_, ?_, ?_⟩, hlen, fun H' k l' => q H' ((ee.kp s).trans k) l'⟩
      · refine e5 _ _ ?_
        have n1 : p ≠ p1 := fun z => by subst z; rw [upd_same] at hp1; cases hp1
        rw [upd_ne n1, upd_ne n1, upd_same]
        rfl
      · rw [upd_same, ← g1]
        rfl
      · rw [g2, hm]
      · intro y hy
        rcases g3 y hy with h | h
        · exact FactsAt.mono ee.tup (hR y h)
        · subst h
          exact FactsAt.mono ee.tup hf
end
end CC
set_option maxHeartbeats 4000000
namespace CC
open PySem PySem.Spec PyProof.Rows L2
local macro_rules | `(tactic| walk_at "rd") => `(tactic| simp only [tVar, tC, tOp, tUn, rI0, rI, rU, rEq, rNe, tTest, tB, tAnd, tOr, tNot, tAndV, tOrV, tNotV, tIf, tChain, tIfS, tRet, tRetN, tSeq, tNext, tAsg, gName, tDrop, tCons, tNil, tCB, tCR, tTup, tLst, rIsF, tyN_non, tyN_bl, tyN_int, tyN_str, tyN_ref, isB_1, isB_2, isB_3, isB_4, isB_5, isB_6, isB_7, isB_8, tyO_tup, tyO_lst, tyO_dK, tyO_frz, rIxG, rLenG, rInG, rAllG, rSumG, rListG, rTupG, tLcF, tLcP, tForF, tForP, srcTup, srcLst, srcStr, srcRng, srcEnum, srcZip, srcEnumT, tYes, wipe, gTupG, gCons, gNil, tStarG, tSl, rSlTG, rSlLG, rCatTG, rRep, tJoinG, rSortedSG, tApp, tExd, tupO_tup, lstO_lst, seqO_tup, seqO_lst, dKO_dK, tNoPart, tPart, tFl, sFl, tSls, sSls, tMeS, tPrS, tPrF, tMethR, tMake, sFlAug, rLenS, L2.start, List.map_cons, List.map_nil, List.length_cons, List.length_nil, Nat.zero_add, Nat.reduceAdd, Nat.reduceSub, List.replicate_succ, List.replicate_zero, List.forall_mem_map, List.cons_append, List.nil_append, List.getElem?_cons_succ, List.getElem?_cons_zero, List.set_cons_zero, List.set_cons_succ, Option.some.injEq, V.int.injEq, V.str.injEq, V.bl.injEq, V.ref.injEq, V.ty.injEq, List.cons.injEq, HO.tup.injEq, HO.lst.injEq, HO.ins.injEq, reduceCtorEq, exists_eq_left', exists_eq_left, exists_eq_right', exists_eq_right, exists_and_left, exists_and_right, and_true, true_and, and_false, false_and, or_false, false_or, or_true, true_or, exists_const, exists_eq', exists_eq, scal_ii, scal_ss, scal_bb, scal_nn, scal_ns, scal_sn, tSlB, sSlB, tTix, rEq0, rDor, lkH, lkB, tDIn, tDNotIn, tDGet, tDisp, tPairs, tPar, upd_same, if_true, if_false, ite_true, ite_false, Bool.not_true, Bool.not_false, Bool.true_and, Bool.and_true, Bool.false_eq_true, decide_true, decide_false, sz1, atI_0, atI_1, and_assoc])
local macro_rules | `(tactic| walk_at "rh") => `(tactic| simp only [*, tVar, tC, tOp, tUn, rI0, rI, rU, rEq, rNe, tTest, tB, tAnd, tOr, tNot, tAndV, tOrV, tNotV, tIf, tChain, tIfS, tRet, tRetN, tSeq, tNext, tAsg, gName, tDrop, tCons, tNil, tCB, tCR, tTup, tLst, rIsF, tyN_non, tyN_bl, tyN_int, tyN_str, tyN_ref, isB_1, isB_2, isB_3, isB_4, isB_5, isB_6, isB_7, isB_8, tyO_tup, tyO_lst, tyO_dK, tyO_frz, rIxG, rLenG, rInG, rAllG, rSumG, rListG, rTupG, tLcF, tLcP, tForF, tForP, srcTup, srcLst, srcStr, srcRng, srcEnum, srcZip, srcEnumT, tYes, wipe, gTupG, gCons, gNil, tStarG, tSl, rSlTG, rSlLG, rCatTG, rRep, tJoinG, rSortedSG, tApp, tExd, tupO_tup, lstO_lst, seqO_tup, seqO_lst, dKO_dK, tNoPart, tPart, tFl, sFl, tSls, sSls, tMeS, tPrS, tPrF, tMethR, tMake, sFlAug, rLenS, L2.start, List.map_cons, List.map_nil, List.length_cons, List.length_nil, Nat.zero_add, Nat.reduceAdd, Nat.reduceSub, List.replicate_succ, List.replicate_zero, List.forall_mem_map, List.cons_append, List.nil_append, List.getElem?_cons_succ, List.getElem?_cons_zero, List.set_cons_zero, List.set_cons_succ, Option.some.injEq, V.int.injEq, V.str.injEq, V.bl.injEq, V.ref.injEq, V.ty.injEq, List.cons.injEq, HO.tup.injEq, HO.lst.injEq, HO.ins.injEq, reduceCtorEq, exists_eq_left', exists_eq_left, exists_eq_right', exists_eq_right, exists_and_left, exists_and_right, and_true, true_and, and_false, false_and, or_false, false_or, or_true, true_or, exists_const, exists_eq', exists_eq, scal_ii, scal_ss, scal_bb, scal_nn, scal_ns, scal_sn, tSlB, sSlB, tTix, rEq0, rDor, lkH, lkB, tDIn, tDNotIn, tDGet, tDisp, tPairs, tPar, upd_same, if_true, if_false, ite_true, ite_false, Bool.not_true, Bool.not_false, Bool.true_and, Bool.and_true, Bool.false_eq_true, decide_true, decide_false, sz1, atI_0, atI_1, and_assoc])
section
variable {P : Program} {w : World} {K : PySem.W.Frag} {mg : Str → Option Value} {base : Heap}
def spRedo (K : PySem.W.Frag) : Sp := fun vs H Q _ => ∃ (v s sa : Addr) (st : Sto) (ls : LS), vs = [.ref v] ∧ LiveOn K H v s sa st ls ∧ ls.past.length ≤ 1000 ∧ ((ls.goAgain = none ∧ ∀ H', Ext H H' → Q (.bl false) H') ∨ ∃ ls', ls.goAgain = some ls' ∧ ∀ H', Kp s H H' → LSAt K H' s ls' → Q (.bl true) H')
theorem ok_Live_redo (T : Txt K mg w) : OkF P w K mg base CX0 4 (mA K "Live" "redo") ["self"] (spRedo K) := by
  have F_State_go_again := ok_State_go_again (P := P) (base := base) T
  refine mk0 (k := 3) T.d_Live_redo sc_Live_redo (fun _ _ _ _ _ _ us hl => match us, hl with | [_], _ => rfl) (fun vs H Q E h => ?_) (fun cdv A outer s H vs Q E hr h => ?_)
  · obtain ⟨v, s, sa, st, ls, rfl, _⟩ := h
    rfl
  · obtain ⟨v, s, sa, st, ls, rfl, L, hlen, q⟩ := h
    obtain ⟨dx, hv⟩ := L.live
    obtain ⟨fa, ua, ha, pa, hs, hf, hh, hu, ⟨l, hp, hm, hR⟩⟩ := id L.lst
    have hsa := hs.sa
    refine ⟨_, (pss_cons (ps_if (pt_cmpR (op_eq0 (CC.Room.un1 hr)) (pe_slB T.scls_State T.sl_State_undone (pe_flF T.cls_Live T.na_Live_held (pv 0))) (pe_tup pa_nil) (nomark _)) (pss_one (ps_ret pe_bl)) pss_nil)
    (pss_cons (ps_expr (pe_meS0 T.scls_State T.me_State_go_again F_State_go_again.raw hr pass0 (pe_flF T.cls_Live T.na_Live_held (pv 0))))
    (pss_one (ps_ret pe_bl)))), ?_⟩
    walk_at "rh"
    refine ⟨_, hs, _, rfl, by omega, fun p0 hp0 => ⟨pa, rfl, ?_⟩⟩
    have e1 := Ext.new (o := .tup []) hp0
    have hp1 := e1.tupO hp
    have hv1 := e1 _ _ hv
    have hs1 := (hs.ext e1).sa
    walk_at "rh"
    cases l with
    | nil =>
      have hz : ls.undone = [] := hm.symm
      have hn : ls.goAgain = none := by unfold LS.goAgain; rw [hz]; rfl
      rcases q with ⟨_, q⟩ | ⟨ls', h1, _⟩
      · simpa using q _ e1
      · rw [hn] at h1; cases h1
    | cons y r =>
      rw [if_neg (by simp)]
      rcases q with ⟨hn, _⟩ | ⟨ls', hg, q⟩
      · exfalso
        unfold LS.goAgain at hn
        rw [← hm, List.map_cons] at hn
        cases z : (y.2 :: r.map Prod.snd).getLast? with
        | none => simp at z
        | some ed => rw [z] at hn; cases hn
      · exact ⟨⟨_, hs1⟩, s, ls, ls', rfl, L.lst.ext e1, hg, hlen, fun H' k l' => q H' ((e1.kp s).trans k) l'⟩

theorem valLook {x : Str} : ∀ {l : List (Addr × Str × Facts)}, ((l.map Prod.snd).lookup x = none ∧ valV (l.map fun q => ((Sum.inr q.2.1 : Key), V.ref q.1)) (Sum.inr x) = none) ∨ ∃ a f, (l.map Prod.snd).lookup x = some f ∧ valV (l.map fun q => ((Sum.inr q.2.1 : Key), V.ref q.1)) (Sum.inr x) = some (.ref a) ∧ (a, x, f) ∈ l
  | [] => .inl ⟨rfl, rfl⟩
  | (b, z, f0) :: r => by
    by_cases h : z = x
    · refine .inr ⟨b, f0, ?_, ?_, ?_⟩
      · simp [List.lookup_cons, h]
      · rw [List.map_cons, valV_pos (by rw [h])]
      · subst h; exact List.mem_cons_self
    · have h2 : (x == z) = false := by simpa using Ne.symm h
      have h3 : valV (((b, z, f0) :: r).map fun q => ((Sum.inr q.2.1 : Key), V.ref q.1)) (Sum.inr x) = valV (r.map fun q => ((Sum.inr q.2.1 : Key), V.ref q.1)) (Sum.inr x) := by
        rw [List.map_cons, valV_neg (by intro z; exact h (Sum.inr.inj z))]
      have h4 : (((b, z, f0) :: r).map Prod.snd).lookup x = (r.map Prod.snd).lookup x := by
        rw [List.map_cons, List.lookup_cons, h2]
      rw [h3, h4]
      rcases valLook (l := r) (x := x) with h | ⟨a, f, g1, g2, g3⟩
      · exact .inl h
      · exact .inr ⟨a, f, g1, g2, List.mem_cons_of_mem _ g3⟩
def LS.fetched (ls : LS) (x : Str) : Option Facts := ls.sh.lookup x
def spFetch (K : PySem.W.Frag) : Sp := fun vs H Q E => ∃ (v s sa : Addr) (st : Sto) (ls : LS) (x : Str), vs = [.ref v, .str x] ∧ LiveOn K H v s sa st ls ∧ ls.past.length ≤ 1000 ∧
  (∀ f, ls.sh.lookup x = some f → ∀ la H', Kp s H H' → LSAt K H' s (ls.goOn (.fetch x) f ls.sh) → LayX H' la f.1 → Q (.ref la) H') ∧ (ls.sh.lookup x = none → E (.ref (gA K "UnknownKept")) none H)
theorem ok_Live_fetch (T : Txt K mg w) : OkF P w K mg base (L2.CX P w) 4 (mA K "Live" "fetch") ["self", "name"] (spFetch K) := by
  have F_State_go_on := ok_State_go_on (P := P) (base := base) T
  have F_Live_layout_now := ok_Live_layout_now (P := P) (base := base) T
  refine mkX (k := 3) T.d_Live_fetch sc_Live_fetch (fun _ _ _ _ _ _ us hl => match us, hl with | [_, _], _ => rfl) (fun vs H Q E h => ?_) (fun cdv A outer s H vs Q E hr h => ?_)
  · obtain ⟨v, s, sa, st, ls, x, rfl, _⟩ := h
    rfl
  · obtain ⟨v, s, sa, st, ls, x, rfl, L, hlen, q1, q2⟩ := h
    obtain ⟨dx, hv⟩ := L.live
    obtain ⟨fa, pa, ha, ua, hs, hf, ⟨l, hh, hm, hR⟩, hp, hu⟩ := id L.lst
    have hsa := hs.sa
    refine ⟨_, (pss_cons (CC.st (i := 2) sc_Live_fetch.nd (pe_flF T.cls_Live T.na_Live_held (pv 0)))
    (pss_cons (ps_if (PW.pt (pw_or (pt_not (pt_val (pe_callB call_isiF rfl T.b_isinstance (by decide +kernel) (pa_cons (pv 1) (pa_cons (pe_ty "str" T.b_str) pa_nil))))) (pw_or1 (pt_cmp (pc_dnotin (CC.Room.un1 hr) (pv 1) (pe_slB T.scls_State T.sl_State_shelf (pv 2))))))) (pss_one (ps_raise rfl (takes_of rfl rfl rfl rfl) (pmk_own PySem.F.excBase_ValueError T.ex_UnknownKept.1 T.g_UnknownKept.1 T.ex_UnknownKept.2.1 (raises_own T.ex_UnknownKept.2.2.1 T.ex_UnknownKept.2.2.2) rfl))) pss_nil)
    (pss_cons (ps_expr (pe_meS T.scls_State T.me_State_go_on F_State_go_on.raw hr pass0 (pv 2) (pa_cons (pe_tup (pa_cons pe_str (pa_cons (pv 1) pa_nil))) (pa_cons (pe_dget (CC.Room.un1 hr) (pe_slB T.scls_State T.sl_State_shelf (pv 2)) (pv 1) (fun _ _ => rfl)) (pa_cons (pe_slB T.scls_State T.sl_State_shelf (pv 2)) pa_nil)))))
    (pss_one (ps_ret (pe_prF T.cls_Live T.pr_Live_layout_now F_Live_layout_now.raw hr pass0 (pv 0))))))), ?_⟩
    walk_at "rh"
    refine ⟨_, hs, _, rfl, ha, rfl, _, .inl ⟨_, .inr x, .inl hh, rfl, rfl⟩, ?_⟩
    rcases valLook (l := l) (x := x) with ⟨g1, g2⟩ | ⟨a, f, g1, g2, g3⟩
    · rw [g2]
      rw [hm] at g1
      simpa using q2 g1
    · rw [g2, if_neg (by simp)]
      rw [hm] at g1
      refine ⟨⟨_, hsa⟩, by omega, fun p0 hp0 => ?_⟩
      have e1 := Ext.new (o := .tup [V.str "fetch", V.str x]) hp0
      refine ⟨_, hs.ext e1, _, rfl, ha, rfl, _, .inl ⟨_, .inr x, .inl (e1 _ _ hh), rfl, g2.symm⟩, _, hs.ext e1, _, rfl, ?_⟩
      refine ⟨s, p0, a, ha, ls, .fetch x, f, ls.sh, rfl, L.lst.ext e1, upd_same, FactsAt.mono e1.tup (hR _ g3), ShelfAt.mono e1.tup ⟨l, hh, hm, hR⟩, hlen, fun H' k l' => ?_⟩
      have L' := (L.ext e1).kp k l'
      obtain ⟨dx', hv'⟩ := L'.live
      exact ⟨⟨_, _, hv'⟩, v, s, sa, st, _, rfl, L', fun la hla => q1 f g1 la H' ((e1.kp s).trans k) l' hla⟩
/-- the state behind look -/
def LS.looked (ls : LS) (st : Sto) (d : Int) : LS := ls.goOn (.look d) (ls.f.1, ls.f.2.1 + wd st d, ls.f.2.2) ls.sh
def spLook (K : PySem.W.Frag) : Sp := fun vs H Q E => ∃ (v s sa : Addr) (st : Sto) (ls : LS) (d : Int), vs = [.ref v, .int d] ∧ LiveOn K H v s sa st ls ∧ ls.past.length ≤ 1000 ∧ IsLay st ls.f.1 ∧
  (inB d st.ds.length = true → ∀ p H', Kp s H H' → LSAt K H' s (ls.looked st d) → LayAt H' p (seenL st ls.f.1 d) → Q (.ref p) H') ∧ (inB d st.ds.length = false → E (.ref (gA K "UnknownDoor")) none H)
theorem ok_Live_look (T : Txt K mg w) : OkF P w K mg base (L2.CX P w) 6 (mA K "Live" "look") ["self", "door"] (spLook K) := by
  have F_Store_places_of := ok_Store_places_of (P := P) (base := base) T
  have F_Store_doors := ok_Store_doors (P := P) (base := base) T
  have F_seen_behind := ok_seen_behind (P := P) (base := base) T
  have F_Live_enter := ok_Live_enter (P := P) (base := base) T
  have F_Live_layout_now := ok_Live_layout_now (P := P) (base := base) T
  refine mkX (k := 5) T.d_Live_look sc_Live_look (fun _ _ _ _ _ _ us hl => match us, hl with | [_, _], _ => rfl) (fun vs H Q E h => ?_) (fun cdv A outer s H vs Q E hr h => ?_)
  · obtain ⟨v, s, sa, st, ls, x, rfl, _⟩ := h
    rfl
  · obtain ⟨v, s, sa, sto, ls, d, rfl, L, hlen, IL, q1, q2⟩ := h
    obtain ⟨dx, hv⟩ := L.live
    obtain ⟨fa, pa, ha, ua, hs, hf, hh, hp, hu⟩ := id L.lst
    have hsa := hs.sa
    have hst := L.sto
    obtain ⟨ea, pa2, da, ca, h1, h2, h3, h4, h5⟩ := id hst
    have h1s := h1.sa
    refine ⟨_, (pss_cons (ps_expr (pe_meS T.scls_Store T.me_Store_places_of F_Store_places_of.raw hr (passes_call (takes_of rfl rfl rfl rfl) (fun _ _ _ _ z => z)) (pe_flF T.cls_Live T.na_Live_base (pv 0)) (pa_cons (pv 1) pa_nil)))
    (pss_cons (ps_expr (pe_meF T.cls_Live T.me_Live_enter F_Live_enter.raw hr pass0 (pv 0) (pa_cons (pe_tup (pa_cons pe_str (pa_cons (pv 1) pa_nil))) (pa_cons (pe_prF T.cls_Live T.pr_Live_layout_now F_Live_layout_now.raw hr pass0 (pv 0)) (pa_cons (pe_ix ix_G (pe_ix ix_G (pe_prS T.scls_Store T.pr_Store_doors F_Store_doors.raw hr (pe_flF T.cls_Live T.na_Live_base (pv 0))) (pv 1) (fun _ _ => rfl)) pe_int (fun _ _ => rfl)) pa_nil)))))
    (pss_one (ps_ret (pe_cR F_seen_behind.raw hr T.g_seen_behind pass0 (pa_cons (pe_flF T.cls_Live T.na_Live_base (pv 0)) (pa_cons (pe_prF T.cls_Live T.pr_Live_layout_now F_Live_layout_now.raw hr pass0 (pv 0)) (pa_cons (pv 1) pa_nil)))))))), ?_⟩
    walk_at "rh"
    refine ⟨⟨_, h1s⟩, sa, sto, d, rfl, hst, L.ok, fun hin x0 H1 e1 => ?_, q2⟩
    have hv1 := e1 _ _ hv
    refine ⟨_, _, hv1, rfl, by omega, fun p0 hp0 => ?_⟩
    have e2 := Ext.new (o := .tup [V.str "look", V.int d]) hp0
    have e12 := e1.trans e2
    have hv2 := e2 _ _ hv1
    refine ⟨⟨_, _, hv2⟩, v, s, sa, sto, ls, rfl, L.ext e12, fun la hla => ?_⟩
    have h1s2 := (h1.ext e12).sa
    refine ⟨_, _, hv2, _, rfl, sa, rfl, ⟨_, h1s2⟩, sa, sto, rfl, hst.ext e12, fun da' ⟨l', hl', hm', hR'⟩ => ?_⟩
    have hin0 := hin
    simp only [inB, Bool.and_eq_true, decide_eq_true_eq] at hin
    have hln : l'.length = sto.ds.length := by rw [← hm', List.length_map]
    obtain ⟨r, hr⟩ : ∃ r, l'[d.toNat]? = some r := ⟨l'[d.toNat]'(by omega), by rw [List.getElem?_eq_getElem]⟩
    have hr2 := hR' r (List.mem_of_getElem? hr)
    unfold DoorAt at hr2
    have at1 : atI (l'.map fun q => V.ref q.1) d = some (.ref r.1) := by
      have := atI_nat (xs := l'.map fun q => V.ref q.1) (j := d.toNat) (v := .ref r.1) (by rw [List.getElem?_map, hr]; rfl)
      rwa [show ((d.toNat : Nat) : Int) = d by omega] at this
    have hwd : r.2.1 = wd sto d := by
      have : sto.ds[d.toNat]? = some r.2 := by rw [← hm', List.getElem?_map, hr]; rfl
      simp [wd, this]
    refine ⟨da', rfl, _, by rw [hl']; rfl, _, at1, r.1, rfl, _, by rw [hr2]; rfl, _, rfl, ?_⟩
    rw [hwd]
    refine ⟨v, s, sa, p0, la, sto, ls, .look d, ls.f.1, wd sto d, rfl, L.ext e12, upd_same, hla, hlen, fun H' k l2 => ?_⟩
    have L' := (L.ext e12).kp k l2
    obtain ⟨dx', hv'⟩ := L'.live
    have hz : ls.f.1.length ≤ 1000 := by have := IL.len; have := L.ok.len; have := L.ok.d.ps; omega
    exact ⟨_, _, hv', _, rfl, ⟨_, _, hv'⟩, v, s, sa, sto, _, rfl, L', fun la' hla' => ⟨sa, la', sto, ls.f.1, d, rfl, L'.sto, LayX.at hla', hz, fun p H3 e3 hl3 => q1 hin0 p H3 (((e12.kp s).trans k).trans (e3.kp s)) (l2.ext e3) hl3⟩⟩
end
end CC
set_option maxHeartbeats 4000000
namespace CC
open PySem PySem.Spec PyProof.Rows L2
local macro_rules | `(tactic| walk_at "rd") => `(tactic| simp only [tVar, tC, tOp, tUn, rI0, rI, rU, rEq, rNe, tTest, tB, tAnd, tOr, tNot, tAndV, tOrV, tNotV, tIf, tChain, tIfS, tRet, tRetN, tSeq, tNext, tAsg, gName, tDrop, tCons, tNil, tCB, tCR, tTup, tLst, rIsF, tyN_non, tyN_bl, tyN_int, tyN_str, tyN_ref, isB_1, isB_2, isB_3, isB_4, isB_5, isB_6, isB_7, isB_8, tyO_tup, tyO_lst, tyO_dK, tyO_frz, rIxG, rLenG, rInG, rAllG, rSumG, rListG, rTupG, tLcF, tLcP, tForF, tForP, srcTup, srcLst, srcStr, srcRng, srcEnum, srcZip, srcEnumT, tYes, wipe, gTupG, gCons, gNil, tStarG, tSl, rSlTG, rSlLG, rCatTG, rRep, tJoinG, rSortedSG, tApp, tExd, tupO_tup, lstO_lst, seqO_tup, seqO_lst, dKO_dK, tNoPart, tPart, tFl, sFl, tSls, sSls, tMeS, tPrS, tPrF, tMethR, tMake, sFlAug, rLenS, L2.start, List.map_cons, List.map_nil, List.length_cons, List.length_nil, Nat.zero_add, Nat.reduceAdd, Nat.reduceSub, List.replicate_succ, List.replicate_zero, List.forall_mem_map, List.cons_append, List.nil_append, List.getElem?_cons_succ, List.getElem?_cons_zero, List.set_cons_zero, List.set_cons_succ, Option.some.injEq, V.int.injEq, V.str.injEq, V.bl.injEq, V.ref.injEq, V.ty.injEq, List.cons.injEq, HO.tup.injEq, HO.lst.injEq, HO.ins.injEq, reduceCtorEq, exists_eq_left', exists_eq_left, exists_eq_right', exists_eq_right, exists_and_left, exists_and_right, and_true, true_and, and_false, false_and, or_false, false_or, or_true, true_or, exists_const, exists_eq', exists_eq, scal_ii, scal_ss, scal_bb, scal_nn, scal_ns, scal_sn, tSlB, sSlB, tTix, rEq0, rDor, lkH, lkB, tDIn, tDNotIn, tDGet, tDisp, tPairs, tPar, upd_same, if_true, if_false, ite_true, ite_false, Bool.not_true, Bool.not_false, Bool.true_and, Bool.and_true, Bool.false_eq_true, decide_true, decide_false, sz1, atI_0, atI_1, and_assoc])
local macro_rules | `(tactic| walk_at "rh") => `(tactic| simp only [*, tVar, tC, tOp, tUn, rI0, rI, rU, rEq, rNe, tTest, tB, tAnd, tOr, tNot, tAndV, tOrV, tNotV, tIf, tChain, tIfS, tRet, tRetN, tSeq, tNext, tAsg, gName, tDrop, tCons, tNil, tCB, tCR, tTup, tLst, rIsF, tyN_non, tyN_bl, tyN_int, tyN_str, tyN_ref, isB_1, isB_2, isB_3, isB_4, isB_5, isB_6, isB_7, isB_8, tyO_tup, tyO_lst, tyO_dK, tyO_frz, rIxG, rLenG, rInG, rAllG, rSumG, rListG, rTupG, tLcF, tLcP, tForF, tForP, srcTup, srcLst, srcStr, srcRng, srcEnum, srcZip, srcEnumT, tYes, wipe, gTupG, gCons, gNil, tStarG, tSl, rSlTG, rSlLG, rCatTG, rRep, tJoinG, rSortedSG, tApp, tExd, tupO_tup, lstO_lst, seqO_tup, seqO_lst, dKO_dK, tNoPart, tPart, tFl, sFl, tSls, sSls, tMeS, tPrS, tPrF, tMethR, tMake, sFlAug, rLenS, L2.start, List.map_cons, List.map_nil, List.length_cons, List.length_nil, Nat.zero_add, Nat.reduceAdd, Nat.reduceSub, List.replicate_succ, List.replicate_zero, List.forall_mem_map, List.cons_append, List.nil_append, List.getElem?_cons_succ, List.getElem?_cons_zero, List.set_cons_zero, List.set_cons_succ, Option.some.injEq, V.int.injEq, V.str.injEq, V.bl.injEq, V.ref.injEq, V.ty.injEq, List.cons.injEq, HO.tup.injEq, HO.lst.injEq, HO.ins.injEq, reduceCtorEq, exists_eq_left', exists_eq_left, exists_eq_right', exists_eq_right, exists_and_left, exists_and_right, and_true, true_and, and_false, false_and, or_false, false_or, or_true, true_or, exists_const, exists_eq', exists_eq, scal_ii, scal_ss, scal_bb, scal_nn, scal_ns, scal_sn, tSlB, sSlB, tTix, rEq0, rDor, lkH, lkB, tDIn, tDNotIn, tDGet, tDisp, tPairs, tPar, upd_same, if_true, if_false, ite_true, ite_false, Bool.not_true, Bool.not_false, Bool.true_and, Bool.and_true, Bool.false_eq_true, decide_true, decide_false, sz1, atI_0, atI_1, and_assoc])
section
variable {P : Program} {w : World} {K : PySem.W.Frag} {mg : Str → Option Value} {base : Heap}
/-- the place of z -/
def ixOf (l : Lay) (z : Str) : Nat := l.findIdx fun x => decide (x = some z)
theorem ixOf_ok {l : Lay} {z : Str} (h : some z ∈ l) : l[ixOf l z]? = some (some z) ∧ (∀ m, m < ixOf l z → l[m]? ≠ some (some z)) ∧ ixOf l z < l.length := by
  have hlt : ixOf l z < l.length := List.findIdx_lt_length_of_exists ⟨some z, h, by simp⟩
  have h1 := List.findIdx_getElem (p := fun x => decide (x = some z)) (w := hlt)
  refine ⟨?_, fun m hm => ?_, hlt⟩
  · rw [List.getElem?_eq_getElem hlt]
    exact congrArg some (of_decide_eq_true h1)
  · have := List.not_of_lt_findIdx (p := fun x => decide (x = some z)) (xs := l) hm
    rw [List.getElem?_eq_getElem (by omega)]
    simpa using this
theorem IsLay.has {s : Sto} {l : Lay} (h : IsLay s l) {z : Str} (hz : z ∈ s.cs) : some z ∈ l := by
  have := h.prm.symm.subset hz
  simpa using this
/-- the errors of an operation -/
def isBad (c : Str) : Prop := c = "UnknownCrate" ∨ c = "UnknownPlace" ∨ c = "TakenPlace" ∨ c = "UnknownDoor" ∨ c = "UnknownKept"
/-- the state behind put -/
def LS.putd (ls : LS) (st : Sto) (z : Str) (i : Int) : LS := ls.goOn (.put z i) (exL ls.f.1 (ixOf ls.f.1 z) i.toNat, ls.f.2.1 + wsum st (eAt st (ixOf ls.f.1 z)) (eAt st i), ls.f.2.2) ls.sh
/-- put is possible -/
def putOk (st : Sto) (l : Lay) (z : Str) (i : Int) : Bool := decide (z ∈ st.cs) && inB i st.es.length && decide (l[i.toNat]? = some none)
def spPut (K : PySem.W.Frag) : Sp := fun vs H Q E => ∃ (v s sa : Addr) (st : Sto) (ls : LS) (z : Str) (i : Int), vs = [.ref v, .str z, .int i] ∧ LiveOn K H v s sa st ls ∧ ls.past.length ≤ 1000 ∧ IsLay st ls.f.1 ∧
  (putOk st ls.f.1 z i = true → ∀ H', Kp s H H' → LSAt K H' s (ls.putd st z i) → Q (.int (ixOf ls.f.1 z : Nat)) H') ∧ (putOk st ls.f.1 z i = false → ∀ c, isBad c → E (.ref (gA K c)) none H)
theorem ok_Live_put (T : Txt K mg w) : OkF P w K mg base (L2.CX P w) 6 (mA K "Live" "put") ["self", "name", "place"] (spPut K) := by
  have F_check_crate := ok_check_crate (P := P) (base := base) T
  have F_Store_door_of := ok_Store_door_of (P := P) (base := base) T
  have F_Live_enter := ok_Live_enter (P := P) (base := base) T
  have F_exchanged := ok_exchanged (P := P) (base := base) T
  have F_warmth_of := ok_warmth_of (P := P) (base := base) T
  have F_Live_layout_now := ok_Live_layout_now (P := P) (base := base) T
  refine mkX (k := 5) T.d_Live_put sc_Live_put (fun _ _ _ _ _ _ us hl => match us, hl with | [_, _, _], _ => rfl) (fun vs H Q E h => ?_) (fun cdv A outer s H vs Q E hr h => ?_)
  · obtain ⟨v, s, sa, st, ls, x, i, rfl, _⟩ := h
    rfl
  · obtain ⟨v, s, sa, sto, ls, z, i, rfl, L, hlen, IL, q1, q2⟩ := h
    obtain ⟨dx, hv⟩ := L.live
    have hst := L.sto
    obtain ⟨ea, pa2, da, ca, h1, h2, h3, h4, h5⟩ := id hst
    have h1s := h1.sa
    refine ⟨_, (pss_cons (ps_expr (pe_cR F_check_crate.raw hr T.g_check_crate (passes_call (takes_of rfl rfl rfl rfl) (fun _ _ _ _ z => z)) (pa_cons (pe_flF T.cls_Live T.na_Live_base (pv 0)) (pa_cons (pv 1) pa_nil))))
    (pss_cons (ps_expr (pe_meS T.scls_Store T.me_Store_door_of F_Store_door_of.raw hr (passes_call (takes_of rfl rfl rfl rfl) (fun _ _ _ _ z => z)) (pe_flF T.cls_Live T.na_Live_base (pv 0)) (pa_cons (pv 2) pa_nil)))
    (pss_cons (CC.st (i := 3) sc_Live_put.nd (pe_prF T.cls_Live T.pr_Live_layout_now F_Live_layout_now.raw hr pass0 (pv 0)))
    (pss_cons (ps_if (pt_cmpR op_notN (pe_ix ix_G (pv 3) (pv 2) (fun _ _ => rfl)) pe_non (nomark _)) (pss_one (ps_raise rfl (takes_of rfl rfl rfl rfl) (pmk_own PySem.F.excBase_ValueError T.ex_TakenPlace.1 T.g_TakenPlace.1 T.ex_TakenPlace.2.1 (raises_own T.ex_TakenPlace.2.2.1 T.ex_TakenPlace.2.2.2) rfl))) pss_nil)
    (pss_cons (CC.st (i := 4) sc_Live_put.nd (pe_tix (pv 3) (pv 1)))
    (pss_cons (ps_expr (pe_meF T.cls_Live T.me_Live_enter F_Live_enter.raw hr pass0 (pv 0) (pa_cons (pe_tup (pa_cons pe_str (pa_cons (pv 1) (pa_cons (pv 2) pa_nil)))) (pa_cons (pe_cR F_exchanged.raw hr T.g_exchanged pass0 (pa_cons (pv 3) (pa_cons (pv 4) (pa_cons (pv 2) pa_nil)))) (pa_cons (pe_cR F_warmth_of.raw hr T.g_warmth_of pass0 (pa_cons (pe_flF T.cls_Live T.na_Live_base (pv 0)) (pa_cons (pv 4) (pa_cons (pv 2) pa_nil)))) pa_nil)))))
    (pss_one (ps_ret (pv 4))))))))), ?_⟩
    walk_at "rh"
    refine ⟨sa, sto, z, rfl, hst, fun hz => ?_, fun hz => q2 (by simp [putOk, hz]) _ (.inl rfl)⟩
    refine ⟨_, _, hv, _, rfl, sa, rfl, ⟨_, h1s⟩, sa, sto, i, rfl, hst, fun hi e he => ?_, fun hi => q2 (by simp [putOk, hi]) _ (.inr (.inl rfl))⟩
    refine ⟨⟨_, _, hv⟩, v, s, sa, sto, ls, rfl, L, fun la hla => ?_⟩
    have hla' := hla.tO
    obtain ⟨y, hy, hy2⟩ := atI_in (xs := ls.f.1.map layV) (i := i) (by rw [List.length_map, IL.len]; exact hi)
    rw [List.getElem?_map] at hy
    obtain ⟨o, ho, rfl⟩ := Option.map_eq_some_iff.mp hy
    refine ⟨la, rfl, _, seqO_of hla', _, hy2, ?_⟩
    cases o with
    | some t =>
      rw [if_pos (by simp [layV])]
      exact q2 (by simp [putOk, ho]) _ (.inr (.inr (.inl rfl)))
    | none =>
      rw [if_neg (by simp [layV])]
      obtain ⟨j1, j2, j3⟩ := ixOf_ok (IL.has hz)
      have hi2 := hi
      simp only [inB, Bool.and_eq_true, decide_eq_true_eq] at hi2
      have hln := IL.len
      have hz4 : ls.f.1.length ≤ 1000 := by have := L.ok.len; have := L.ok.d.ps; omega
      refine ⟨la, rfl, _, hla, hla, ixOf ls.f.1 z, j1, j2, _, _, hv, rfl, by omega, fun p0 hp0 => ?_⟩
      have e1 := Ext.new (o := .tup [V.str "put", V.str z, V.int i]) hp0
      have hv1 := e1 _ _ hv
      refine ⟨la, ls.f.1, ixOf ls.f.1 z, i.toNat, ?_, (LayX.at hla).mono e1.tup, j3, by omega, hz4, fun p1 H2 e2 hp1 => ?_⟩
      · rw [show ((i.toNat : Nat) : Int) = i by omega]
      · have hv2 := e2 _ _ hv1
        have e12 := e1.trans e2
        have hin : inB (ixOf ls.f.1 z : Nat) sto.es.length = true := by
          simp only [inB, Bool.and_eq_true, decide_eq_true_eq]
          omega
        refine ⟨_, _, hv2, _, rfl, sa, sto, (ixOf ls.f.1 z : Nat), i, rfl, hst.ext e12, L.ok, hin, hi, fun H3 e3 => ?_⟩
        have e13 := e12.trans e3
        refine ⟨v, s, sa, p0, p1, sto, ls, .put z i, exL ls.f.1 (ixOf ls.f.1 z) i.toNat, wsum sto (eAt sto (ixOf ls.f.1 z : Nat)) (eAt sto i), rfl, L.ext e13, (e2.trans e3) _ _ upd_same, TupX.mono hp1 e3.tup, hlen, fun H4 k l => ?_⟩
        exact q1 (by simp [putOk, hz, hi, ho]) H4 ((e13.kp s).trans k) l
def LS.exd (ls : LS) (st : Sto) (a b : Str) : LS := ls.goOn (.exch a b) (exL ls.f.1 (ixOf ls.f.1 a) (ixOf ls.f.1 b), ls.f.2.1 + wsum st (eAt st (ixOf ls.f.1 a)) (eAt st (ixOf ls.f.1 b)), ls.f.2.2) ls.sh
def exOk (st : Sto) (a b : Str) : Bool := decide (a ∈ st.cs) && decide (b ∈ st.cs) && !decide (a = b)
/-- in order -/
def rightB (st : Sto) (l : Lay) : Bool := decide (l.filterMap id = st.cs)
theorem exL_len {l : Lay} {i j : Nat} : (exL l i j).length = l.length := by simp [exL]
theorem getD_eq {α : Type} {l : List α} {i : Nat} {x d : α} (h : l[i]? = some x) : l.getD i d = x := by
  rw [List.getD_eq_getElem?_getD, h]
  rfl
/-- two exchanged: a permutation -/
theorem exL_perm {l : Lay} {i j : Nat} (hi : i < l.length) (hj : j < l.length) : (exL l i j).Perm l := by
  have h1 : l.getD j none = l[j] := by rw [List.getD_eq_getElem?_getD, List.getElem?_eq_getElem hj]; rfl
  have h2 : l.getD i none = l[i] := by rw [List.getD_eq_getElem?_getD, List.getElem?_eq_getElem hi]; rfl
  unfold exL
  rw [h1, h2]
  exact List.set_set_perm hi hj
theorem IsLay.ex {s : Sto} {l : Lay} (h : IsLay s l) {i j : Nat} (hi : i < l.length) (hj : j < l.length) : IsLay s (exL l i j) := ⟨exL_len.trans h.len, ((exL_perm hi hj).filterMap id).trans h.prm⟩
def spExch (K : PySem.W.Frag) : Sp := fun vs H Q E => ∃ (v s sa : Addr) (st : Sto) (ls : LS) (a b : Str), vs = [.ref v, .str a, .str b] ∧ LiveOn K H v s sa st ls ∧ ls.past.length ≤ 1000 ∧ IsLay st ls.f.1 ∧
  (exOk st a b = true → ∀ H', Kp s H H' → LSAt K H' s (ls.exd st a b) → Q (.bl (rightB st (exL ls.f.1 (ixOf ls.f.1 a) (ixOf ls.f.1 b)))) H') ∧ (exOk st a b = false → ∀ c, isBad c → E (.ref (gA K c)) none H)
theorem ok_Live_exchange (T : Txt K mg w) : OkF P w K mg base (L2.CX P w) 6 (mA K "Live" "exchange") ["self", "one", "other"] (spExch K) := by
  have F_check_crate := ok_check_crate (P := P) (base := base) T
  have F_is_right := ok_is_right (P := P) (base := base) T
  have F_Live_enter := ok_Live_enter (P := P) (base := base) T
  have F_exchanged := ok_exchanged (P := P) (base := base) T
  have F_warmth_of := ok_warmth_of (P := P) (base := base) T
  have F_Live_layout_now := ok_Live_layout_now (P := P) (base := base) T
  refine mkX (k := 5) T.d_Live_exchange sc_Live_exchange (fun _ _ _ _ _ _ us hl => match us, hl with | [_, _, _], _ => rfl) (fun vs H Q E h => ?_) (fun cdv A outer s H vs Q E hr h => ?_)
  · obtain ⟨v, s, sa, st, ls, x, i, rfl, _⟩ := h
    rfl
  · obtain ⟨v, s, sa, sto, ls, x, y, rfl, L, hlen, IL, q1, q2⟩ := h
    obtain ⟨dx, hv⟩ := L.live
    have hst := L.sto
    refine ⟨_, (pss_cons (ps_expr (pe_cR F_check_crate.raw hr T.g_check_crate (passes_call (takes_of rfl rfl rfl rfl) (fun _ _ _ _ z => z)) (pa_cons (pe_flF T.cls_Live T.na_Live_base (pv 0)) (pa_cons (pv 1) pa_nil))))
    (pss_cons (ps_expr (pe_cR F_check_crate.raw hr T.g_check_crate (passes_call (takes_of rfl rfl rfl rfl) (fun _ _ _ _ z => z)) (pa_cons (pe_flF T.cls_Live T.na_Live_base (pv 0)) (pa_cons (pv 2) pa_nil))))
    (pss_cons (ps_if (pt_cmpR op_eq (pv 1) (pv 2) (nomark _)) (pss_one (ps_raise rfl (takes_of rfl rfl rfl rfl) (pmk_own PySem.F.excBase_ValueError T.ex_UnknownCrate.1 T.g_UnknownCrate.1 T.ex_UnknownCrate.2.1 (raises_own T.ex_UnknownCrate.2.2.1 T.ex_UnknownCrate.2.2.2) rfl))) pss_nil)
    (pss_cons (CC.st (i := 3) sc_Live_exchange.nd (pe_prF T.cls_Live T.pr_Live_layout_now F_Live_layout_now.raw hr pass0 (pv 0)))
    (pss_cons (ps_par (by rfl) sc_Live_exchange.nd (i := 4) (j := 5) rfl rfl (by decide) rfl rfl (pa_cons (pe_tix (pv 3) (pv 1)) (pa_cons (pe_tix (pv 3) (pv 2)) pa_nil)) (by rfl))
    (pss_cons (CC.st (i := 6) sc_Live_exchange.nd (pe_cR F_exchanged.raw hr T.g_exchanged pass0 (pa_cons (pv 3) (pa_cons (pv 4) (pa_cons (pv 5) pa_nil)))))
    (pss_cons (ps_expr (pe_meF T.cls_Live T.me_Live_enter F_Live_enter.raw hr pass0 (pv 0) (pa_cons (pe_tup (pa_cons pe_str (pa_cons (pv 1) (pa_cons (pv 2) pa_nil)))) (pa_cons (pv 6) (pa_cons (pe_cR F_warmth_of.raw hr T.g_warmth_of pass0 (pa_cons (pe_flF T.cls_Live T.na_Live_base (pv 0)) (pa_cons (pv 4) (pa_cons (pv 5) pa_nil)))) pa_nil)))))
    (pss_one (ps_ret (pe_cR F_is_right.raw hr T.g_is_right pass0 (pa_cons (pv 6) pa_nil))))))))))), ?_⟩
    walk_at "rh"
    refine ⟨sa, sto, x, rfl, hst, fun hx => ?_, fun hx => q2 (by simp [exOk, hx]) _ (.inl rfl)⟩
    refine ⟨_, _, hv, _, rfl, sa, sto, y, rfl, hst, fun hy => ?_, fun hy => q2 (by simp [exOk, hy]) _ (.inl rfl)⟩
    show (if decide (x = y) = true then _ else _)
    by_cases hxy : x = y
    · rw [if_pos (by simpa using hxy)]
      exact q2 (by simp [exOk, hxy]) _ (.inl rfl)
    · rw [if_neg (by simpa using hxy)]
      refine ⟨⟨_, _, hv⟩, v, s, sa, sto, ls, rfl, L, fun la hla => ?_⟩
      obtain ⟨j1, j2, j3⟩ := ixOf_ok (IL.has hx)
      obtain ⟨k1, k2, k3⟩ := ixOf_ok (IL.has hy)
      have hln := IL.len
      have hz4 : ls.f.1.length ≤ 1000 := by have := L.ok.len; have := L.ok.d.ps; omega
      refine ⟨la, rfl, _, hla, hla, _, j1, j2, la, rfl, _, hla, hla, _, k1, k2, la, ls.f.1, _, _, rfl, LayX.at hla, j3, k3, hz4, fun p1 H2 e2 hp1 => ?_⟩
      have hv2 := e2 _ _ hv
      refine ⟨_, _, hv2, rfl, by omega, fun p0 hp0 => ?_⟩
      have e3 := Ext.new (o := .tup [V.str "exchange", V.str x, V.str y]) hp0
      have hv3 := e3 _ _ hv2
      have hi1 : inB (ixOf ls.f.1 x : Nat) sto.es.length = true := by
        simp only [inB, Bool.and_eq_true, decide_eq_true_eq]
        omega
      have hi2 : inB (ixOf ls.f.1 y : Nat) sto.es.length = true := by
        simp only [inB, Bool.and_eq_true, decide_eq_true_eq]
        omega
      refine ⟨_, _, hv3, _, rfl, sa, sto, (ixOf ls.f.1 x : Nat), (ixOf ls.f.1 y : Nat), rfl, hst.ext (e2.trans e3), L.ok, hi1, hi2, fun H4 e4 => ?_⟩
      have e14 := (e2.trans e3).trans e4
      refine ⟨v, s, sa, p0, p1, sto, ls, .exch x y, exL ls.f.1 (ixOf ls.f.1 x) (ixOf ls.f.1 y), wsum sto (eAt sto (ixOf ls.f.1 x : Nat)) (eAt sto (ixOf ls.f.1 y : Nat)), rfl, L.ext e14, e4 _ _ upd_same, TupX.mono hp1 (e3.trans e4).tup, hlen, fun H5 k l => ?_⟩
      have L5 := (L.ext e14).kp k l
      have t5 := (L.ext e14).tup k
      refine ⟨p1, sto, exL ls.f.1 (ixOf ls.f.1 x) (ixOf ls.f.1 y), rfl, L.ok, (LayX.at hp1).mono ((e3.trans e4).tup.trans t5), IL.ex j3 k3, fun H6 e6 => ?_⟩
      exact q1 (by simp [exOk, hx, hy, hxy]) H6 (((e14.kp s).trans k).trans (e6.kp s)) (l.ext e6)
end
end CC
set_option maxHeartbeats 4000000
namespace CC
open PySem PySem.Spec PyProof.Rows L2
local macro_rules | `(tactic| walk_at "rd") => `(tactic| simp only [tVar, tC, tOp, tUn, rI0, rI, rU, rEq, rNe, tTest, tB, tAnd, tOr, tNot, tAndV, tOrV, tNotV, tIf, tChain, tIfS, tRet, tRetN, tSeq, tNext, tAsg, gName, tDrop, tCons, tNil, tCB, tCR, tTup, tLst, rIsF, tyN_non, tyN_bl, tyN_int, tyN_str, tyN_ref, isB_1, isB_2, isB_3, isB_4, isB_5, isB_6, isB_7, isB_8, tyO_tup, tyO_lst, tyO_dK, tyO_frz, rIxG, rLenG, rInG, rAllG, rSumG, rListG, rTupG, tLcF, tLcP, tForF, tForP, srcTup, srcLst, srcStr, srcRng, srcEnum, srcZip, srcEnumT, tYes, wipe, gTupG, gCons, gNil, tStarG, tSl, rSlTG, rSlLG, rCatTG, rRep, tJoinG, rSortedSG, tApp, tExd, tupO_tup, lstO_lst, seqO_tup, seqO_lst, dKO_dK, tNoPart, tPart, tFl, sFl, tSls, sSls, tMeS, tPrS, tPrF, tMethR, tMake, sFlAug, rLenS, L2.start, List.map_cons, List.map_nil, List.length_cons, List.length_nil, Nat.zero_add, Nat.reduceAdd, Nat.reduceSub, List.replicate_succ, List.replicate_zero, List.forall_mem_map, List.cons_append, List.nil_append, List.getElem?_cons_succ, List.getElem?_cons_zero, List.set_cons_zero, List.set_cons_succ, Option.some.injEq, V.int.injEq, V.str.injEq, V.bl.injEq, V.ref.injEq, V.ty.injEq, List.cons.injEq, HO.tup.injEq, HO.lst.injEq, HO.ins.injEq, reduceCtorEq, exists_eq_left', exists_eq_left, exists_eq_right', exists_eq_right, exists_and_left, exists_and_right, and_true, true_and, and_false, false_and, or_false, false_or, or_true, true_or, exists_const, exists_eq', exists_eq, scal_ii, scal_ss, scal_bb, scal_nn, scal_ns, scal_sn, tSlB, sSlB, tTix, rEq0, rDor, lkH, lkB, tDIn, tDNotIn, tDGet, tDisp, tPairs, tPar, tKGet2, upd_upd, upd_same, if_true, if_false, ite_true, ite_false, Bool.not_true, Bool.not_false, Bool.true_and, Bool.and_true, Bool.false_eq_true, decide_true, decide_false, sz1, atI_0, atI_1, and_assoc])
local macro_rules | `(tactic| walk_at "rh") => `(tactic| simp only [*, tVar, tC, tOp, tUn, rI0, rI, rU, rEq, rNe, tTest, tB, tAnd, tOr, tNot, tAndV, tOrV, tNotV, tIf, tChain, tIfS, tRet, tRetN, tSeq, tNext, tAsg, gName, tDrop, tCons, tNil, tCB, tCR, tTup, tLst, rIsF, tyN_non, tyN_bl, tyN_int, tyN_str, tyN_ref, isB_1, isB_2, isB_3, isB_4, isB_5, isB_6, isB_7, isB_8, tyO_tup, tyO_lst, tyO_dK, tyO_frz, rIxG, rLenG, rInG, rAllG, rSumG, rListG, rTupG, tLcF, tLcP, tForF, tForP, srcTup, srcLst, srcStr, srcRng, srcEnum, srcZip, srcEnumT, tYes, wipe, gTupG, gCons, gNil, tStarG, tSl, rSlTG, rSlLG, rCatTG, rRep, tJoinG, rSortedSG, tApp, tExd, tupO_tup, lstO_lst, seqO_tup, seqO_lst, dKO_dK, tNoPart, tPart, tFl, sFl, tSls, sSls, tMeS, tPrS, tPrF, tMethR, tMake, sFlAug, rLenS, L2.start, List.map_cons, List.map_nil, List.length_cons, List.length_nil, Nat.zero_add, Nat.reduceAdd, Nat.reduceSub, List.replicate_succ, List.replicate_zero, List.forall_mem_map, List.cons_append, List.nil_append, List.getElem?_cons_succ, List.getElem?_cons_zero, List.set_cons_zero, List.set_cons_succ, Option.some.injEq, V.int.injEq, V.str.injEq, V.bl.injEq, V.ref.injEq, V.ty.injEq, List.cons.injEq, HO.tup.injEq, HO.lst.injEq, HO.ins.injEq, reduceCtorEq, exists_eq_left', exists_eq_left, exists_eq_right', exists_eq_right, exists_and_left, exists_and_right, and_true, true_and, and_false, false_and, or_false, false_or, or_true, true_or, exists_const, exists_eq', exists_eq, scal_ii, scal_ss, scal_bb, scal_nn, scal_ns, scal_sn, tSlB, sSlB, tTix, rEq0, rDor, lkH, lkB, tDIn, tDNotIn, tDGet, tDisp, tPairs, tPar, tKGet2, upd_upd, upd_same, if_true, if_false, ite_true, ite_false, Bool.not_true, Bool.not_false, Bool.true_and, Bool.and_true, Bool.false_eq_true, decide_true, decide_false, sz1, atI_0, atI_1, and_assoc])
section
variable {P : Program} {w : World} {K : PySem.W.Frag} {mg : Str → Option Value} {base : Heap}
def spIsOp : Sp := fun vs H Q _ => ∃ (a : Addr) (op : Op), vs = [.ref a] ∧ OpAt H a op ∧ ∀ H', Ext H H' → Q (.bl true) H'
theorem ok_is_operation (T : Txt K mg w) : OkF P w K mg base CX0 2 (gA K "is_operation") ["value"] spIsOp := by
  obtain ⟨es, n, KD⟩ := T.sizes
  refine mk0 (k := 1) T.d_is_operation sc_is_operation (fun _ _ _ _ _ _ us hl => match us, hl with | [_], _ => rfl) (fun vs H Q E h => ?_) (fun cdv A outer s H vs Q E hr h => ?_)
  · obtain ⟨a, op, rfl, _⟩ := h
    rfl
  · obtain ⟨a, op, rfl, ho, q⟩ := h
    have ho : H a = some (.tup op.vs) := ho
    refine ⟨_, (pss_cons (ps_if (PW.pt (pw_or (pt_not (pt_val (pe_callB call_isiF rfl T.b_isinstance (by decide +kernel) (pa_cons (pv 0) (pa_cons (pe_ty "tuple" T.b_tuple) pa_nil))))) (pw_or (pt_cmpR (op_eq0 (CC.Room.un1 hr)) (pv 0) (pe_tup pa_nil) (nomark _)) (pw_or1 (pt_not (pt_val (pe_callB call_isiF rfl T.b_isinstance (by decide +kernel) (pa_cons (pe_ix ix_G (pv 0) pe_int (fun _ _ => rfl)) (pa_cons (pe_ty "str" T.b_str) pa_nil))))))))) (pss_one (ps_ret pe_bl)) pss_nil)
    (pss_one (ps_ret (pe_cmpR op_eq (pe_kget2 KD (pe_glob (v := .ref (gA K "SIZES")) rfl T.g_SIZES rfl) (pe_ix ix_G (pv 0) pe_int (fun _ _ => rfl)) pe_int ⟨rfl, rfl, rfl, rfl⟩) (pe_callB call_lenG rfl T.b_len PySem.boot_len (pa_cons (pv 0) pa_nil)) (nomark _))))), ?_⟩
    walk_at "rh"
    refine ⟨by omega, fun p hp => ?_⟩
    have e1 := Ext.new (o := .tup []) hp
    have ho1 := e1 _ _ ho
    obtain ⟨z, rest, hz, hm⟩ : ∃ z rest, op.vs = .str z :: rest ∧ (z, (op.vs.length : Int)) ∈ sizesL := by
      cases op with
      | look d => exact ⟨"look", _, rfl, by show (("look" : Str), (2 : Int)) ∈ sizesL; simp [sizesL]⟩
      | put n i => exact ⟨"put", _, rfl, by show (("put" : Str), (3 : Int)) ∈ sizesL; simp [sizesL]⟩
      | exch a b => exact ⟨"exchange", _, rfl, by show (("exchange" : Str), (3 : Int)) ∈ sizesL; simp [sizesL]⟩
      | shut => exact ⟨"shut", _, rfl, by show (("shut" : Str), (1 : Int)) ∈ sizesL; simp [sizesL]⟩
      | keep x => exact ⟨"keep_as", _, rfl, by show (("keep_as" : Str), (2 : Int)) ∈ sizesL; simp [sizesL]⟩
      | fetch x => exact ⟨"fetch", _, rfl, by show (("fetch" : Str), (2 : Int)) ∈ sizesL; simp [sizesL]⟩
    obtain ⟨u0, hn, hv⟩ := T.sizeV _ hm
    rw [hz] at ho1
    refine ⟨_, by rw [ho1]; rfl, ?_⟩
    rw [if_neg (by simp)]
    refine ⟨_, by rw [ho1]; rfl, .str z, atI_0, "str", rfl, ?_⟩
    rw [if_neg (by decide)]
    refine ⟨_, by rw [ho1]; rfl, _, atI_0, z, rfl, u0, hn, _, hv, _, by rw [ho1]; rfl, rfl, ?_⟩
    rw [← hz]
    simpa using q _ e1
def spTrialInit (K : PySem.W.Frag) : Sp := fun vs H Q _ => ∃ (t v s sa dx dv : Addr), vs = [.ref t, .ref v] ∧ Made H t (gA K "Trial") dx ∧ H v = some (.ins (gA K "Live") dv [("base", .ref sa), ("held", .ref s)]) ∧
  ∀ H', Kp2 t dx H H' → H' t = some (.ins (gA K "Trial") dx [("tested_store", .ref v), ("origin", .ref s), ("fresh", .ref s), ("chosen", .ref s)]) → Q .non H'
theorem ok_Trial___init__ (T : Txt K mg w) : OkF P w K mg base CX0 2 (mA K "Trial" "__init__") ["self", "live"] (spTrialInit K) := by
  refine mk0 (k := 1) T.d_Trial___init__ sc_Trial___init__ (fun _ _ _ _ _ _ us hl => match us, hl with | [_, _], _ => rfl) (fun vs H Q E h => ?_) (fun cdv A outer s H vs Q E hr h => ?_)
  · obtain ⟨t, v, s, sa, dx, dv, rfl, _⟩ := h
    rfl
  · obtain ⟨t, v, s, sa, dx, dv, rfl, M, hv, q⟩ := h
    have ht := M.i
    have ntv : v ≠ t := fun z => by
      subst z
      rw [hv] at ht
      have := (HO.ins.inj (Option.some.inj ht)).2.2
      cases this
    have hu : ∀ o, upd H t o v = some (.ins (gA K "Live") dv [("base", .ref sa), ("held", .ref s)]) := fun o => by rw [upd_ne ntv]; exact hv
    refine ⟨_, (pss_cons (ps_flF T.cls_Trial T.na_Trial_tested_store (pv 0) (pv 1))
    (pss_cons (ps_flF T.cls_Trial T.na_Trial_origin (pv 0) (pe_flF T.cls_Live T.na_Live_held (pv 1)))
    (pss_cons (ps_flF T.cls_Trial T.na_Trial_fresh (pv 0) (pe_flF T.cls_Live T.na_Live_held (pv 1)))
    (pss_one (ps_flF T.cls_Trial T.na_Trial_chosen (pv 0) (pe_flF T.cls_Live T.na_Live_held (pv 1))))))), ?_⟩
    walk_at "rh"
    refine ⟨by decide, show (1 : Nat) < 1000 by decide, show (2 : Nat) < 1000 by decide, show (3 : Nat) < 1000 by decide, ?_⟩
    refine q _ (fun b o n1 n2 e => by rw [upd_ne n1]; exact e) (by rw [upd_same]; rfl)
end
end CC
set_option maxHeartbeats 4000000
namespace CC
open PySem PySem.Spec PyProof.Rows L2
theorem lkT1 {a b c d : V} : List.lookup ("tested_store" : Str) [(("tested_store" : Str), a), (("origin" : Str), b), (("fresh" : Str), c), (("chosen" : Str), d)] = some a := rfl
theorem lkT2 {a b c d : V} : List.lookup ("origin" : Str) [(("tested_store" : Str), a), (("origin" : Str), b), (("fresh" : Str), c), (("chosen" : Str), d)] = some b := rfl
theorem lkT3 {a b c d : V} : List.lookup ("fresh" : Str) [(("tested_store" : Str), a), (("origin" : Str), b), (("fresh" : Str), c), (("chosen" : Str), d)] = some c := rfl
theorem lkT4 {a b c d : V} : List.lookup ("chosen" : Str) [(("tested_store" : Str), a), (("origin" : Str), b), (("fresh" : Str), c), (("chosen" : Str), d)] = some d := rfl
theorem pfT2 {a b c d x : V} : putF ("origin" : Str) x [(("tested_store" : Str), a), (("origin" : Str), b), (("fresh" : Str), c), (("chosen" : Str), d)] = [(("tested_store" : Str), a), (("origin" : Str), x), (("fresh" : Str), c), (("chosen" : Str), d)] := rfl
theorem pfT3 {a b c d x : V} : putF ("fresh" : Str) x [(("tested_store" : Str), a), (("origin" : Str), b), (("fresh" : Str), c), (("chosen" : Str), d)] = [(("tested_store" : Str), a), (("origin" : Str), b), (("fresh" : Str), x), (("chosen" : Str), d)] := rfl
theorem pfT4 {a b c d x : V} : putF ("chosen" : Str) x [(("tested_store" : Str), a), (("origin" : Str), b), (("fresh" : Str), c), (("chosen" : Str), d)] = [(("tested_store" : Str), a), (("origin" : Str), b), (("fresh" : Str), c), (("chosen" : Str), x)] := rfl
theorem pfH {a b x : V} : putF ("held" : Str) x [(("base" : Str), a), (("held" : Str), b)] = [(("base" : Str), a), (("held" : Str), x)] := rfl
local macro_rules | `(tactic| walk_at "rd") => `(tactic| simp only [tVar, tC, tOp, tUn, rI0, rI, rU, rEq, rNe, tTest, tB, tAnd, tOr, tNot, tAndV, tOrV, tNotV, tIf, tChain, tIfS, tRet, tRetN, tSeq, tNext, tAsg, gName, tDrop, tCons, tNil, tCB, tCR, tTup, tLst, rIsF, tyN_non, tyN_bl, tyN_int, tyN_str, tyN_ref, isB_1, isB_2, isB_3, isB_4, isB_5, isB_6, isB_7, isB_8, tyO_tup, tyO_lst, tyO_dK, tyO_frz, rIxG, rLenG, rInG, rAllG, rSumG, rListG, rTupG, tLcF, tLcP, tForF, tForP, srcTup, srcLst, srcStr, srcRng, srcEnum, srcZip, srcEnumT, tYes, wipe, gTupG, gCons, gNil, tStarG, tSl, rSlTG, rSlLG, rCatTG, rRep, tJoinG, rSortedSG, tApp, tExd, tupO_tup, lstO_lst, seqO_tup, seqO_lst, dKO_dK, tNoPart, tPart, tFl, sFl, tSls, sSls, tMeS, tPrS, tPrF, tMethR, tMake, sFlAug, rLenS, L2.start, List.map_cons, List.map_nil, List.length_cons, List.length_nil, Nat.zero_add, Nat.reduceAdd, Nat.reduceSub, List.replicate_succ, List.replicate_zero, List.forall_mem_map, List.cons_append, List.nil_append, List.getElem?_cons_succ, List.getElem?_cons_zero, List.set_cons_zero, List.set_cons_succ, Option.some.injEq, V.int.injEq, V.str.injEq, V.bl.injEq, V.ref.injEq, V.ty.injEq, List.cons.injEq, HO.tup.injEq, HO.lst.injEq, HO.ins.injEq, reduceCtorEq, exists_eq_left', exists_eq_left, exists_eq_right', exists_eq_right, exists_and_left, exists_and_right, and_true, true_and, and_false, false_and, or_false, false_or, or_true, true_or, exists_const, exists_eq', exists_eq, scal_ii, scal_ss, scal_bb, scal_nn, scal_ns, scal_sn, tSlB, sSlB, lkH, lkB, upd_upd, lkT1, lkT2, lkT3, lkT4, pfT2, pfT3, pfT4, pfH, upd_same, if_true, if_false, ite_true, ite_false, Bool.not_true, Bool.not_false, Bool.true_and, Bool.and_true, Bool.false_eq_true, decide_true, decide_false, sz1, atI_0, atI_1, and_assoc])
local macro_rules | `(tactic| walk_at "rh") => `(tactic| simp only [*, tVar, tC, tOp, tUn, rI0, rI, rU, rEq, rNe, tTest, tB, tAnd, tOr, tNot, tAndV, tOrV, tNotV, tIf, tChain, tIfS, tRet, tRetN, tSeq, tNext, tAsg, gName, tDrop, tCons, tNil, tCB, tCR, tTup, tLst, rIsF, tyN_non, tyN_bl, tyN_int, tyN_str, tyN_ref, isB_1, isB_2, isB_3, isB_4, isB_5, isB_6, isB_7, isB_8, tyO_tup, tyO_lst, tyO_dK, tyO_frz, rIxG, rLenG, rInG, rAllG, rSumG, rListG, rTupG, tLcF, tLcP, tForF, tForP, srcTup, srcLst, srcStr, srcRng, srcEnum, srcZip, srcEnumT, tYes, wipe, gTupG, gCons, gNil, tStarG, tSl, rSlTG, rSlLG, rCatTG, rRep, tJoinG, rSortedSG, tApp, tExd, tupO_tup, lstO_lst, seqO_tup, seqO_lst, dKO_dK, tNoPart, tPart, tFl, sFl, tSls, sSls, tMeS, tPrS, tPrF, tMethR, tMake, sFlAug, rLenS, L2.start, List.map_cons, List.map_nil, List.length_cons, List.length_nil, Nat.zero_add, Nat.reduceAdd, Nat.reduceSub, List.replicate_succ, List.replicate_zero, List.forall_mem_map, List.cons_append, List.nil_append, List.getElem?_cons_succ, List.getElem?_cons_zero, List.set_cons_zero, List.set_cons_succ, Option.some.injEq, V.int.injEq, V.str.injEq, V.bl.injEq, V.ref.injEq, V.ty.injEq, List.cons.injEq, HO.tup.injEq, HO.lst.injEq, HO.ins.injEq, reduceCtorEq, exists_eq_left', exists_eq_left, exists_eq_right', exists_eq_right, exists_and_left, exists_and_right, and_true, true_and, and_false, false_and, or_false, false_or, or_true, true_or, exists_const, exists_eq', exists_eq, scal_ii, scal_ss, scal_bb, scal_nn, scal_ns, scal_sn, tSlB, sSlB, lkH, lkB, upd_upd, lkT1, lkT2, lkT3, lkT4, pfT2, pfT3, pfT4, pfH, upd_same, if_true, if_false, ite_true, ite_false, Bool.not_true, Bool.not_false, Bool.true_and, Bool.and_true, Bool.false_eq_true, decide_true, decide_false, sz1, atI_0, atI_1, and_assoc])
section
variable {P : Program} {w : World} {K : PySem.W.Frag} {mg : Str → Option Value} {base : Heap}
/-- the manager at t: its store, what it had, what it has in the block, what is taken over -/
def TrialAt (K : PySem.W.Frag) (H : Hp) (t v o f c : Addr) : Prop := ∃ dx, H t = some (.ins (gA K "Trial") dx [("tested_store", .ref v), ("origin", .ref o), ("fresh", .ref f), ("chosen", .ref c)])
/-- an instance's attributes change -/
def spHold (K : PySem.W.Frag) : Sp := fun vs H Q _ => ∃ (t v o f c : Addr), vs = [.ref t] ∧ TrialAt K H t v o f c ∧ ∀ H', Kp t H H' → TrialAt K H' t v o f f → Q .non H'
theorem ok_Trial_hold (T : Txt K mg w) : OkF P w K mg base CX0 2 (mA K "Trial" "hold") ["self"] (spHold K) := by
  refine mk0 (k := 1) T.d_Trial_hold sc_Trial_hold (fun _ _ _ _ _ _ us hl => match us, hl with | [_], _ => rfl) (fun vs H Q E h => ?_) (fun cdv A outer s H vs Q E hr h => ?_)
  · obtain ⟨t, v, o, f, c, rfl, _⟩ := h
    rfl
  · obtain ⟨t, v, o, f, c, rfl, ⟨dx, ht⟩, q⟩ := h
    refine ⟨_, (pss_one (ps_flF T.cls_Trial T.na_Trial_chosen (pv 0) (pe_flF T.cls_Trial T.na_Trial_fresh (pv 0)))), ?_⟩
    walk_at "rh"
    exact ⟨show (4 : Nat) < 1000 by decide, q _ Kp.set ⟨dx, by rw [upd_same]⟩⟩
def spTEnter (K : PySem.W.Frag) : Sp := fun vs H Q _ => ∃ (t v o s sa fa pa ha ua dv : Addr), vs = [.ref t] ∧ TrialAt K H t v o o o ∧ H v = some (.ins (gA K "Live") dv [("base", .ref sa), ("held", .ref s)]) ∧ SB H s (gA K "State") [.ref fa, .ref pa, .ref ha, .ref ua] ∧ t ≠ v ∧ ∀ f c H', H f = none → H c = none → f ≠ c → (∀ b u, b ≠ t → b ≠ v → H b = some u → H' b = some u) →
  TrialAt K H' t v s f c → H' v = some (.ins (gA K "Live") dv [("base", .ref sa), ("held", .ref f)]) → SB H' f (gA K "State") [.ref fa, .ref pa, .ref ha, .ref ua] → SB H' c (gA K "State") [.ref fa, .ref pa, .ref ha, .ref ua] → Q (.ref t) H'
theorem ok_Trial___enter__ (T : Txt K mg w) : OkF P w K mg base CX0 6 (mA K "Trial" "__enter__") ["self"] (spTEnter K) := by
  have F_State_copied := ok_State_copied (P := P) (base := base) T
  refine mk0 (k := 5) T.d_Trial___enter__ sc_Trial___enter__ (fun _ _ _ _ _ _ us hl => match us, hl with | [_], _ => rfl) (fun vs H Q E h => ?_) (fun cdv A outer s H vs Q E hr h => ?_)
  · obtain ⟨t, v, o, s, sa, fa, pa, ha, ua, dv, rfl, _⟩ := h
    rfl
  · obtain ⟨t, v, o, s, sa, fa, pa, ha, ua, dv, rfl, ⟨dx, ht⟩, hv, hs, ntv, q⟩ := h
    refine ⟨_, (pss_cons (ps_flF T.cls_Trial T.na_Trial_origin (pv 0) (pe_flF T.cls_Live T.na_Live_held (pe_flF T.cls_Trial T.na_Trial_tested_store (pv 0))))
    (pss_cons (ps_flF T.cls_Trial T.na_Trial_chosen (pv 0) (pe_meS0 T.scls_State T.me_State_copied F_State_copied.raw hr pass0 (pe_flF T.cls_Trial T.na_Trial_origin (pv 0))))
    (pss_cons (ps_flF T.cls_Trial T.na_Trial_fresh (pv 0) (pe_meS0 T.scls_State T.me_State_copied F_State_copied.raw hr pass0 (pe_flF T.cls_Trial T.na_Trial_origin (pv 0))))
    (pss_cons (ps_flF T.cls_Live T.na_Live_held (pe_flF T.cls_Trial T.na_Trial_tested_store (pv 0)) (pe_flF T.cls_Trial T.na_Trial_fresh (pv 0)))
    (pss_one (ps_ret (pv 0))))))), ?_⟩
    walk_at "rh"
    refine ⟨show (4 : Nat) < 1000 by decide, ?_⟩
    have nts : s ≠ t := fun z => by
      subst z
      obtain ⟨dx2, g1, _⟩ := hs
      rw [ht] at g1
      exact nomatch Option.some.inj g1
    have ht1 : upd H t (.ins (gA K "Trial") dx [("tested_store", V.ref v), ("origin", V.ref s), ("fresh", V.ref o), ("chosen", V.ref o)]) t = some (.ins (gA K "Trial") dx [("tested_store", V.ref v), ("origin", V.ref s), ("fresh", V.ref o), ("chosen", V.ref o)]) := upd_same
    have hk1 : Kp t H (upd H t (.ins (gA K "Trial") dx [("tested_store", V.ref v), ("origin", V.ref s), ("fresh", V.ref o), ("chosen", V.ref o)])) := Kp.set
    generalize upd H t (.ins (gA K "Trial") dx [("tested_store", V.ref v), ("origin", V.ref s), ("fresh", V.ref o), ("chosen", V.ref o)]) = H1 at ht1 hk1 ⊢
    have nxd : H t ≠ some (.xd []) := by rw [ht]; intro z; exact nomatch Option.some.inj z
    have hs1 := hs.kp hk1 nts nxd
    refine ⟨⟨_, hs1.sa⟩, s, fa, pa, ha, ua, rfl, hs1, fun c H2 e2 hc1 hc2 => ?_⟩
    have ht2 := e2 _ _ ht1
    have hs2 := hs1.ext e2
    walk_at "rh"
    refine ⟨show (4 : Nat) < 1000 by decide, ?_⟩
    have ht3 : upd H2 t (.ins (gA K "Trial") dx [("tested_store", V.ref v), ("origin", V.ref s), ("fresh", V.ref o), ("chosen", V.ref c)]) t = some (.ins (gA K "Trial") dx [("tested_store", V.ref v), ("origin", V.ref s), ("fresh", V.ref o), ("chosen", V.ref c)]) := upd_same
    have hk3 : Kp t H2 (upd H2 t (.ins (gA K "Trial") dx [("tested_store", V.ref v), ("origin", V.ref s), ("fresh", V.ref o), ("chosen", V.ref c)])) := Kp.set
    generalize upd H2 t (.ins (gA K "Trial") dx [("tested_store", V.ref v), ("origin", V.ref s), ("fresh", V.ref o), ("chosen", V.ref c)]) = H3 at ht3 hk3 ⊢
    have nxd2 : H2 t ≠ some (.xd []) := by rw [ht2]; intro z; exact nomatch Option.some.inj z
    have hs3 := hs2.kp hk3 nts nxd2
    have nct : c ≠ t := fun z => by subst z; rw [ht1] at hc1; cases hc1
    have hc3 := hc2.kp hk3 nct nxd2
    refine ⟨⟨_, hs3.sa⟩, s, fa, pa, ha, ua, rfl, hs3, fun f H4 e4 hf1 hf2 => ?_⟩
    have ht4 := e4 _ _ ht3
    have hc4 := hc3.ext e4
    have nft : f ≠ t := fun z => by subst z; rw [ht3] at hf1; cases hf1
    have hv4 : H4 v = some (.ins (gA K "Live") dv [("base", V.ref sa), ("held", V.ref s)]) := e4 _ _ (hk3 _ _ (Ne.symm ntv) (e2 _ _ (hk1 _ _ (Ne.symm ntv) hv)))
    have hv5 : ∀ o, upd H4 t o v = some (.ins (gA K "Live") dv [("base", V.ref sa), ("held", V.ref s)]) := fun o => by rw [upd_ne (Ne.symm ntv)]; exact hv4
    walk_at "rh"
    refine ⟨show (4 : Nat) < 1000 by decide, show (2 : Nat) < 1000 by decide, ?_⟩
    have nvf : f ≠ v := fun z => by
      subst z
      obtain ⟨d2, g1, _⟩ := hf2
      rw [hv4] at g1
      exact nomatch Option.some.inj g1
    have nvc : c ≠ v := fun z => by
      subst z
      obtain ⟨d2, g1, _⟩ := hc4
      rw [hv4] at g1
      exact nomatch Option.some.inj g1
    have hk5 : Kp t H4 (upd H4 t (.ins (gA K "Trial") dx [("tested_store", V.ref v), ("origin", V.ref s), ("fresh", V.ref f), ("chosen", V.ref c)])) := Kp.set
    have hk6 : ∀ o, Kp v (upd H4 t (.ins (gA K "Trial") dx [("tested_store", V.ref v), ("origin", V.ref s), ("fresh", V.ref f), ("chosen", V.ref c)])) (upd (upd H4 t (.ins (gA K "Trial") dx [("tested_store", V.ref v), ("origin", V.ref s), ("fresh", V.ref f), ("chosen", V.ref c)])) v o) := fun o => Kp.set
    have nxd4 : H4 t ≠ some (.xd []) := by rw [ht4]; intro z; exact nomatch Option.some.inj z
    have nxd5 : ∀ o, upd H4 t o v ≠ some (.xd []) := fun o => by rw [hv5]; intro z; exact nomatch Option.some.inj z
    have up4 : ∀ b u, b ≠ t → H b = some u → H4 b = some u := fun b u n e => e4 _ _ (hk3 _ _ n (e2 _ _ (hk1 _ _ n e)))
    refine q f c _ ?_ ?_ ?_ (fun b u n1 n2 e => ?_) ⟨dx, ?_⟩ (by rw [upd_same]) ((hf2.kp hk5 nft nxd4).kp (hk6 _) nvf (nxd5 _)) ((hc4.kp hk5 nct nxd4).kp (hk6 _) nvc (nxd5 _))
    · cases z : H f with
      | none => rfl
      | some u => rw [hk3 _ _ nft (e2 _ _ (hk1 _ _ nft z))] at hf1; cases hf1
    · cases z : H c with
      | none => rfl
      | some u => rw [hk1 _ _ nct z] at hc1; cases hc1
    · intro z
      subst z
      obtain ⟨d2, g1, _⟩ := hc3
      rw [g1] at hf1
      cases hf1
    · rw [upd_ne n2, upd_ne n1]
      exact up4 b u n1 e
    · rw [upd_ne ntv, upd_same]
/-- the manager's end: what chosen has goes to the origin, the store has the origin again -/
def spTExit (K : PySem.W.Frag) : Sp := fun vs H Q _ => ∃ (t v o f c sa x fa pa ha ua fa' pa' ha' ua' dv : Addr) (a b d : V), vs = [.ref t, a, b, d] ∧ TrialAt K H t v o f c ∧ H v = some (.ins (gA K "Live") dv [("base", .ref sa), ("held", .ref x)]) ∧ SB H o (gA K "State") [.ref fa, .ref pa, .ref ha, .ref ua] ∧ SB H c (gA K "State") [.ref fa', .ref pa', .ref ha', .ref ua'] ∧ o ≠ c ∧
  ∀ H', (∀ b u, b ≠ o → b ≠ v → H b = some u → H' b = some u) → H' v = some (.ins (gA K "Live") dv [("base", .ref sa), ("held", .ref o)]) → SB H' o (gA K "State") [.ref fa', .ref pa', .ref ha', .ref ua'] → Q .non H'
theorem ok_Trial___exit__ (T : Txt K mg w) : OkF P w K mg base CX0 6 (mA K "Trial" "__exit__") ["self", "kind", "error", "trace"] (spTExit K) := by
  refine mk0 (k := 5) T.d_Trial___exit__ sc_Trial___exit__ (fun _ _ _ _ _ _ us hl => match us, hl with | [_, _, _, _], _ => rfl) (fun vs H Q E h => ?_) (fun cdv A outer s H vs Q E hr h => ?_)
  · obtain ⟨t, v, o, f, c, sa, x, fa, pa, ha, ua, fa', pa', ha', ua', dv, a, b, d, rfl, _⟩ := h
    rfl
  · obtain ⟨t, v, o, f, c, sa, x, fa, pa, ha, ua, fa', pa', ha', ua', dv, a, b, d, rfl, ⟨dx, ht⟩, hv, ho, hc, noc, q⟩ := h
    refine ⟨_, (pss_cons (ps_slB T.scls_State T.sl_State_facts (pe_flF T.cls_Trial T.na_Trial_origin (pv 0)) (pe_slB T.scls_State T.sl_State_facts (pe_flF T.cls_Trial T.na_Trial_chosen (pv 0))))
    (pss_cons (ps_slB T.scls_State T.sl_State_shelf (pe_flF T.cls_Trial T.na_Trial_origin (pv 0)) (pe_slB T.scls_State T.sl_State_shelf (pe_flF T.cls_Trial T.na_Trial_chosen (pv 0))))
    (pss_cons (ps_slB T.scls_State T.sl_State_past (pe_flF T.cls_Trial T.na_Trial_origin (pv 0)) (pe_slB T.scls_State T.sl_State_past (pe_flF T.cls_Trial T.na_Trial_chosen (pv 0))))
    (pss_cons (ps_slB T.scls_State T.sl_State_undone (pe_flF T.cls_Trial T.na_Trial_origin (pv 0)) (pe_slB T.scls_State T.sl_State_undone (pe_flF T.cls_Trial T.na_Trial_chosen (pv 0))))
    (pss_one (ps_flF T.cls_Live T.na_Live_held (pe_flF T.cls_Trial T.na_Trial_tested_store (pv 0)) (pe_flF T.cls_Trial T.na_Trial_origin (pv 0)))))))), ?_⟩
    walk_at "rh"
    have nto : t ≠ o := fun z => by
      subst z
      obtain ⟨d2, g1, _⟩ := ho
      rw [ht] at g1
      exact nomatch Option.some.inj g1
    have nvo : v ≠ o := fun z => by
      subst z
      obtain ⟨d2, g1, _⟩ := ho
      rw [hv] at g1
      exact nomatch Option.some.inj g1
    have ntv : t ≠ v := fun z => by
      subst z
      rw [ht] at hv
      exact absurd (congrArg List.length (HO.ins.inj (Option.some.inj hv)).2.2) (by simp)
    have xo : ∀ {G : Hp} {us : List V}, SB G o (gA K "State") us → G o ≠ some (.xd []) := fun {G us} g => by
      obtain ⟨d2, g1, _⟩ := g
      rw [g1]
      intro z
      exact SB.ne (Option.some.inj z)
    refine ⟨_, hc, _, rfl, _, ho, by simp, fun H1 k1 ho1 => ?_⟩
    have ht1 := k1 _ _ nto ht
    have hv1 := k1 _ _ nvo hv
    have hc1 := hc.kp k1 (Ne.symm noc) (xo ho)
    refine ⟨_, _, ht1, _, rfl, _, rfl, _, hc1, _, rfl, _, _, ht1, _, rfl, _, rfl, _, ho1, by simp, fun H2 k2 ho2 => ?_⟩
    have ht2 := k2 _ _ nto ht1
    have hv2 := k2 _ _ nvo hv1
    have hc2 := hc1.kp k2 (Ne.symm noc) (xo ho1)
    refine ⟨_, _, ht2, _, rfl, _, rfl, _, hc2, _, rfl, _, _, ht2, _, rfl, _, rfl, _, ho2, by simp, fun H3 k3 ho3 => ?_⟩
    have ht3 := k3 _ _ nto ht2
    have hv3 := k3 _ _ nvo hv2
    have hc3 := hc2.kp k3 (Ne.symm noc) (xo ho2)
    refine ⟨_, _, ht3, _, rfl, _, rfl, _, hc3, _, rfl, _, _, ht3, _, rfl, _, rfl, _, ho3, by simp, fun H4 k4 ho4 => ?_⟩
    have ht4 := k4 _ _ nto ht3
    have hv4 := k4 _ _ nvo hv3
    walk_at "rh"
    refine ⟨show (2 : Nat) < 1000 by decide, q _ (fun b u n1 n2 e => ?_) (by rw [upd_same]) (SB.kp (s := v) ho4 Kp.set (Ne.symm nvo) (by rw [hv4]; intro z; exact nomatch Option.some.inj z))⟩
    rw [upd_ne n2]
    exact k4 _ _ n1 (k3 _ _ n1 (k2 _ _ n1 (k1 _ _ n1 e)))
theorem hot_Trial___exit__ (T : Txt K mg w) : OkHot P w K mg base 6 (mA K "Trial" "__exit__") ["self", "kind", "error", "trace"] (spTExit K) := by
  refine mkHot (k := 5) T.d_Trial___exit__ sc_Trial___exit__ (fun _ _ _ _ _ _ us hl => match us, hl with | [_, _, _, _], _ => rfl) (fun vs H Q E h => ?_) (fun cdv A outer s H vs Q p h => ?_)
  · obtain ⟨t, v, o, f, c, sa, x, fa, pa, ha, ua, fa', pa', ha', ua', dv, a, b, d, rfl, _⟩ := h
    rfl
  · obtain ⟨t, v, o, f, c, sa, x, fa, pa, ha, ua, fa', pa', ha', ua', dv, a, b, d, rfl, ⟨dx, ht⟩, hv, ho, hc, noc, q⟩ := h
    refine ⟨_, (pss_cons (ps_slB T.scls_State T.sl_State_facts (pe_flF T.cls_Trial T.na_Trial_origin (pv 0)) (pe_slB T.scls_State T.sl_State_facts (pe_flF T.cls_Trial T.na_Trial_chosen (pv 0))))
    (pss_cons (ps_slB T.scls_State T.sl_State_shelf (pe_flF T.cls_Trial T.na_Trial_origin (pv 0)) (pe_slB T.scls_State T.sl_State_shelf (pe_flF T.cls_Trial T.na_Trial_chosen (pv 0))))
    (pss_cons (ps_slB T.scls_State T.sl_State_past (pe_flF T.cls_Trial T.na_Trial_origin (pv 0)) (pe_slB T.scls_State T.sl_State_past (pe_flF T.cls_Trial T.na_Trial_chosen (pv 0))))
    (pss_cons (ps_slB T.scls_State T.sl_State_undone (pe_flF T.cls_Trial T.na_Trial_origin (pv 0)) (pe_slB T.scls_State T.sl_State_undone (pe_flF T.cls_Trial T.na_Trial_chosen (pv 0))))
    (pss_one (ps_flF T.cls_Live T.na_Live_held (pe_flF T.cls_Trial T.na_Trial_tested_store (pv 0)) (pe_flF T.cls_Trial T.na_Trial_origin (pv 0)))))))), ?_⟩
    walk_at "rh"
    have nto : t ≠ o := fun z => by
      subst z
      obtain ⟨d2, g1, _⟩ := ho
      rw [ht] at g1
      exact nomatch Option.some.inj g1
    have nvo : v ≠ o := fun z => by
      subst z
      obtain ⟨d2, g1, _⟩ := ho
      rw [hv] at g1
      exact nomatch Option.some.inj g1
    have ntv : t ≠ v := fun z => by
      subst z
      rw [ht] at hv
      exact absurd (congrArg List.length (HO.ins.inj (Option.some.inj hv)).2.2) (by simp)
    have xo : ∀ {G : Hp} {us : List V}, SB G o (gA K "State") us → G o ≠ some (.xd []) := fun {G us} g => by
      obtain ⟨d2, g1, _⟩ := g
      rw [g1]
      intro z
      exact SB.ne (Option.some.inj z)
    refine ⟨_, hc, _, rfl, _, ho, by simp, fun H1 k1 ho1 => ?_⟩
    have ht1 := k1 _ _ nto ht
    have hv1 := k1 _ _ nvo hv
    have hc1 := hc.kp k1 (Ne.symm noc) (xo ho)
    refine ⟨_, _, ht1, _, rfl, _, rfl, _, hc1, _, rfl, _, _, ht1, _, rfl, _, rfl, _, ho1, by simp, fun H2 k2 ho2 => ?_⟩
    have ht2 := k2 _ _ nto ht1
    have hv2 := k2 _ _ nvo hv1
    have hc2 := hc1.kp k2 (Ne.symm noc) (xo ho1)
    refine ⟨_, _, ht2, _, rfl, _, rfl, _, hc2, _, rfl, _, _, ht2, _, rfl, _, rfl, _, ho2, by simp, fun H3 k3 ho3 => ?_⟩
    have ht3 := k3 _ _ nto ht2
    have hv3 := k3 _ _ nvo hv2
    have hc3 := hc2.kp k3 (Ne.symm noc) (xo ho2)
    refine ⟨_, _, ht3, _, rfl, _, rfl, _, hc3, _, rfl, _, _, ht3, _, rfl, _, rfl, _, ho3, by simp, fun H4 k4 ho4 => ?_⟩
    have ht4 := k4 _ _ nto ht3
    have hv4 := k4 _ _ nvo hv3
    walk_at "rh"
    refine ⟨show (2 : Nat) < 1000 by decide, q _ (fun b u n1 n2 e => ?_) (by rw [upd_same]) (SB.kp (s := v) ho4 Kp.set (Ne.symm nvo) (by rw [hv4]; intro z; exact nomatch Option.some.inj z))⟩
    rw [upd_ne n2]
    exact k4 _ _ n1 (k3 _ _ n1 (k2 _ _ n1 (k1 _ _ n1 e)))
end
end CC
set_option maxHeartbeats 4000000
namespace CC
open PySem PySem.Spec PyProof.Rows L2
theorem pfB1 {x : V} : putF ("base" : Str) x [] = [(("base" : Str), x)] := rfl
theorem pfB2 {a x : V} : putF ("held" : Str) x [(("base" : Str), a)] = [(("base" : Str), a), (("held" : Str), x)] := rfl
theorem StoAt.kpI {K : PySem.W.Frag} {H H' : Hp} {sa v C dx : Addr} {fs : List (Str × V)} {st : Sto} (h : StoAt K H sa st) (k : Kp v H H') (hv : H v = some (.ins C dx fs)) : StoAt K H' sa st := by
  have t : Tup H H' := k.tup (fun xs z => by rw [hv] at z; cases z) (fun xs z => by rw [hv] at z; cases z) (fun o u z => by rw [hv] at z; cases z)
  obtain ⟨ea, pa, da, ca, h1, h2, h3, h4, h5⟩ := h
  have n : sa ≠ v := fun z => by
    subst z
    obtain ⟨d2, g1, _⟩ := h1
    rw [hv] at g1
    exact nomatch Option.some.inj g1
  exact ⟨ea, pa, da, ca, h1.kp k n (by rw [hv]; intro z; exact nomatch Option.some.inj z), t.t _ _ h2, t.t _ _ h3, h4.mono t, t.t _ _ h5⟩
local macro_rules | `(tactic| walk_at "rd") => `(tactic| simp only [tVar, tC, tOp, tUn, rI0, rI, rU, rEq, rNe, tTest, tB, tAnd, tOr, tNot, tAndV, tOrV, tNotV, tIf, tChain, tIfS, tRet, tRetN, tSeq, tNext, tAsg, gName, tDrop, tCons, tNil, tCB, tCR, tTup, tLst, rIsF, tyN_non, tyN_bl, tyN_int, tyN_str, tyN_ref, isB_1, isB_2, isB_3, isB_4, isB_5, isB_6, isB_7, isB_8, tyO_tup, tyO_lst, tyO_dK, tyO_frz, rIxG, rLenG, rInG, rAllG, rSumG, rListG, rTupG, tLcF, tLcP, tForF, tForP, srcTup, srcLst, srcStr, srcRng, srcEnum, srcZip, srcEnumT, tYes, wipe, gTupG, gCons, gNil, tStarG, tSl, rSlTG, rSlLG, rCatTG, rRep, tJoinG, rSortedSG, tApp, tExd, tupO_tup, lstO_lst, seqO_tup, seqO_lst, dKO_dK, tNoPart, tPart, tFl, sFl, tSls, sSls, tMeS, tPrS, tPrF, tMethR, tMake, sFlAug, rLenS, L2.start, List.map_cons, List.map_nil, List.length_cons, List.length_nil, Nat.zero_add, Nat.reduceAdd, Nat.reduceSub, List.replicate_succ, List.replicate_zero, List.forall_mem_map, List.cons_append, List.nil_append, List.getElem?_cons_succ, List.getElem?_cons_zero, List.set_cons_zero, List.set_cons_succ, Option.some.injEq, V.int.injEq, V.str.injEq, V.bl.injEq, V.ref.injEq, V.ty.injEq, List.cons.injEq, HO.tup.injEq, HO.lst.injEq, HO.ins.injEq, reduceCtorEq, exists_eq_left', exists_eq_left, exists_eq_right', exists_eq_right, exists_and_left, exists_and_right, and_true, true_and, and_false, false_and, or_false, false_or, or_true, true_or, exists_const, exists_eq', exists_eq, scal_ii, scal_ss, scal_bb, scal_nn, scal_ns, scal_sn, tSlB, sSlB, lkH, lkB, upd_upd, tPar, tDNewK, pfB1, pfB2, upd_same, if_true, if_false, ite_true, ite_false, Bool.not_true, Bool.not_false, Bool.true_and, Bool.and_true, Bool.false_eq_true, decide_true, decide_false, sz1, atI_0, atI_1, and_assoc])
local macro_rules | `(tactic| walk_at "rh") => `(tactic| simp only [*, tVar, tC, tOp, tUn, rI0, rI, rU, rEq, rNe, tTest, tB, tAnd, tOr, tNot, tAndV, tOrV, tNotV, tIf, tChain, tIfS, tRet, tRetN, tSeq, tNext, tAsg, gName, tDrop, tCons, tNil, tCB, tCR, tTup, tLst, rIsF, tyN_non, tyN_bl, tyN_int, tyN_str, tyN_ref, isB_1, isB_2, isB_3, isB_4, isB_5, isB_6, isB_7, isB_8, tyO_tup, tyO_lst, tyO_dK, tyO_frz, rIxG, rLenG, rInG, rAllG, rSumG, rListG, rTupG, tLcF, tLcP, tForF, tForP, srcTup, srcLst, srcStr, srcRng, srcEnum, srcZip, srcEnumT, tYes, wipe, gTupG, gCons, gNil, tStarG, tSl, rSlTG, rSlLG, rCatTG, rRep, tJoinG, rSortedSG, tApp, tExd, tupO_tup, lstO_lst, seqO_tup, seqO_lst, dKO_dK, tNoPart, tPart, tFl, sFl, tSls, sSls, tMeS, tPrS, tPrF, tMethR, tMake, sFlAug, rLenS, L2.start, List.map_cons, List.map_nil, List.length_cons, List.length_nil, Nat.zero_add, Nat.reduceAdd, Nat.reduceSub, List.replicate_succ, List.replicate_zero, List.forall_mem_map, List.cons_append, List.nil_append, List.getElem?_cons_succ, List.getElem?_cons_zero, List.set_cons_zero, List.set_cons_succ, Option.some.injEq, V.int.injEq, V.str.injEq, V.bl.injEq, V.ref.injEq, V.ty.injEq, List.cons.injEq, HO.tup.injEq, HO.lst.injEq, HO.ins.injEq, reduceCtorEq, exists_eq_left', exists_eq_left, exists_eq_right', exists_eq_right, exists_and_left, exists_and_right, and_true, true_and, and_false, false_and, or_false, false_or, or_true, true_or, exists_const, exists_eq', exists_eq, scal_ii, scal_ss, scal_bb, scal_nn, scal_ns, scal_sn, tSlB, sSlB, lkH, lkB, upd_upd, tPar, tDNewK, pfB1, pfB2, upd_same, if_true, if_false, ite_true, ite_false, Bool.not_true, Bool.not_false, Bool.true_and, Bool.and_true, Bool.false_eq_true, decide_true, decide_false, sz1, atI_0, atI_1, and_assoc])
inductive Res where
  | lay (l : Lay) | int (i : Int) | bl (b : Bool)
  deriving DecidableEq
def ResAt (H : Hp) (r : V) : Res → Prop
  | .lay l => ∃ p, r = .ref p ∧ LayAt H p l
  | .int i => r = .int i
  | .bl b => r = .bl b
/-- one operation on a used store -/
def execM (st : Sto) (ls : LS) : Op → Option (LS × Res)
  | .look d => if inB d st.ds.length = true then some (ls.looked st d, .lay (seenL st ls.f.1 d)) else none
  | .put z i => if putOk st ls.f.1 z i = true then some (ls.putd st z i, .int (ixOf ls.f.1 z : Nat)) else none
  | .exch a b => if exOk st a b = true then some (ls.exd st a b, .bl (rightB st (exL ls.f.1 (ixOf ls.f.1 a) (ixOf ls.f.1 b)))) else none
  | .shut => some (ls.goOn .shut (ls.f.1, 0, ls.f.2.2 ++ [ls.f.2.1]) ls.sh, .int ls.f.2.1)
  | .keep x => some (ls.goOn (.keep x) ls.f (putS ls.sh x ls.f), .bl (decide (x ∈ ls.sh.map Prod.fst)))
  | .fetch x => match ls.sh.lookup x with
    | some f => some (ls.goOn (.fetch x) f ls.sh, .lay f.1)
    | none => none
/-- an operation that the law makes -/
def Op.Ok : Op → Prop
  | .keep x => isWordB x = true ∧ x.length ≤ 1000
  | _ => True
/-- a used store stays small -/
structure LS.Sm (ls : LS) : Prop where
  p : ls.past.length ≤ 1000
  d : ls.f.2.2.length ≤ 1000
  s : ls.sh.length ≤ 1000
section
variable {P : Program} {w : World} {K : PySem.W.Frag} {mg : Str → Option Value} {base : Heap}
def spLiveInit (K : PySem.W.Frag) : Sp := fun vs H Q _ => ∃ (v sa la dx : Addr) (st : Sto) (l : Lay), vs = [.ref v, .ref sa, .ref la] ∧ Made H v (gA K "Live") dx ∧ StoAt K H sa st ∧ st.Ok ∧ LayX H la l ∧ IsLay st l ∧
  ∀ s H', Kp2 v dx H H' → H s = none → LiveOn K H' v s sa st ⟨(l, 0, []), [], [], []⟩ → Q .non H'
theorem ok_Live___init__ (T : Txt K mg w) : OkF P w K mg base CX0 8 (mA K "Live" "__init__") ["self", "store", "layout"] (spLiveInit K) := by
  have F_check_layout := ok_check_layout (P := P) (base := base) T
  have F_State___init__ := ok_State___init__ (P := P) (base := base) T
  refine mk0 (k := 7) T.d_Live___init__ sc_Live___init__ (fun _ _ _ _ _ _ us hl => match us, hl with | [_, _, _], _ => rfl) (fun vs H Q E h => ?_) (fun cdv A outer s H vs Q E hr h => ?_)
  · obtain ⟨v, sa, la, dx, st, l, rfl, _⟩ := h
    rfl
  · obtain ⟨v, sa, la, dx, st, l, rfl, M, hs, ok, hl, il, q⟩ := h
    have hv := M.i
    refine ⟨_, (pss_cons (ps_expr (pe_cR F_check_layout.raw hr T.g_check_layout pass0 (pa_cons (pv 1) (pa_cons (pv 2) pa_nil))))
    (pss_cons (ps_flF T.cls_Live T.na_Live_base (pv 0) (pv 1))
    (pss_one (ps_flF T.cls_Live T.na_Live_held (pv 0) (pe_mk T.mk_State F_State___init__ hr T.g_State.1 pass0 (pa_cons (pe_tup (pa_cons (pv 2) (pa_cons pe_int (pa_cons (pe_tup pa_nil) pa_nil)))) (pa_cons pe_dnewK (pa_cons (pe_tup pa_nil) (pa_cons (pe_tup pa_nil) pa_nil))))))))), ?_⟩
    walk_at "rh"
    refine ⟨sa, la, st, l, rfl, hs, ok, hl.at, il, fun H1 e1 => ?_⟩
    have hv1 := e1 _ _ hv
    refine ⟨_, _, hv1, by decide, by omega, fun p1 hp1 => ⟨by omega, fun p2 hp2 => ?_⟩⟩
    have k1 : Kp v H1 (upd H1 v (.ins (gA K "Live") dx [("base", .ref sa)])) := Kp.set
    have hg1 : upd H1 v (.ins (gA K "Live") dx [("base", .ref sa)]) v = some (.ins (gA K "Live") dx [("base", .ref sa)]) := upd_same
    simp only [pfB1] at hp1 hp2 ⊢
    generalize upd H1 v (.ins (gA K "Live") dx [("base", .ref sa)]) = G1 at k1 hg1 hp1 hp2 ⊢
    refine fun p3 hp3 => ⟨by omega, fun p4 hp4 => ⟨by omega, fun p5 hp5 x dxs hx hdx nx => ?_⟩⟩
    have e2 := Ext.new (o := .tup []) hp1
    have e3 := Ext.new (o := .tup [V.ref la, .int 0, .ref p1]) hp2
    have e4 := Ext.new (o := .dK []) hp3
    have e5 := Ext.new (o := .tup []) hp4
    have e6 := Ext.new (o := .tup []) hp5
    have f1 := (e2.trans e3).trans ((e4.trans e5).trans e6)
    have b1 := e3.trans ((e4.trans e5).trans e6) _ _ (upd_same (H := G1) (a := p1) (o := .tup []))
    have b2 := (e4.trans e5).trans e6 _ _ (upd_same (a := p2))
    have b3 := (e5.trans e6) _ _ (upd_same (a := p3))
    have b4 := e6 _ _ (upd_same (a := p4))
    have b5 := upd_same (H := (upd (upd (upd (upd G1 p1 (HO.tup [])) p2 (HO.tup [V.ref la, V.int 0, V.ref p1])) p3 (HO.dK [])) p4 (HO.tup []))) (a := p5) (o := .tup [])
    generalize upd (upd (upd (upd (upd G1 p1 (HO.tup [])) p2 (HO.tup [V.ref la, V.int 0, V.ref p1])) p3 (HO.dK [])) p4 (HO.tup [])) p5 (.tup []) = G2 at f1 b1 b2 b3 b4 b5 hx hdx ⊢
    refine ⟨x, p2, p3, p4, p5, dxs, rfl, Made.of nx, fun H' k hs' => ⟨rfl, ?_⟩⟩
    have e7 := k.ext hx hdx
    have hv' := e7 _ _ (f1 _ _ hg1)
    refine ⟨_, _, hv', show (1 : Nat) < 1000 by decide, ?_⟩
    walk_at "rd"
    have K2 : Kp v H H' := ((e1.kp v).trans k1).trans ((f1.trans e7).kp v)
    have K3 : Kp v H (upd H' v (.ins (gA K "Live") dx [("base", .ref sa), ("held", .ref x)])) := K2.trans Kp.set
    have T3 : Tup H (upd H' v (.ins (gA K "Live") dx [("base", .ref sa), ("held", .ref x)])) := K3.tup (fun xs z => by rw [hv] at z; cases z) (fun xs z => by rw [hv] at z; cases z) (fun o u z => by rw [hv] at z; cases z)
    have T4 : Tup H' (upd H' v (.ins (gA K "Live") dx [("base", .ref sa), ("held", .ref x)])) := (Kp.set (s := v) (H := H') (o := .ins (gA K "Live") dx [("base", .ref sa), ("held", .ref x)])).tup (fun xs z => by rw [hv'] at z; cases z) (fun xs z => by rw [hv'] at z; cases z) (fun o u z => by rw [hv'] at z; cases z)
    have hk5 : Kp v H' (upd H' v (.ins (gA K "Live") dx [("base", .ref sa), ("held", .ref x)])) := Kp.set
    have nxv : x ≠ v := fun z => by
      subst z
      obtain ⟨d2, g1, _⟩ := hs'
      rw [hv'] at g1
      exact nomatch Option.some.inj g1
    refine q x _ (fun b u n1 n2 e => K3 _ _ n1 e) ?_ ⟨⟨dx, upd_same⟩, hs.kpI K3 hv, ⟨p2, p4, p3, p5, hs'.kp hk5 nxv (by rw [hv']; intro z; exact nomatch Option.some.inj z), ⟨la, p1, T4.t _ _ (e7 _ _ b2), TupX.mono hl T3, T4.t _ _ (e7 _ _ b1)⟩, ⟨[], T4.d _ _ (e7 _ _ b3), rfl, fun q hq => nomatch hq⟩, ⟨[], T4.tO (by rw [e7 _ _ b4]; rfl), rfl, fun q hq => nomatch hq⟩, ⟨[], T4.tO (by rw [e7 _ _ b5]; rfl), rfl, fun q hq => nomatch hq⟩⟩, ?_, ok⟩
    · cases z : H x with
      | none => rfl
      | some u =>
        have g := f1 _ _ (k1 _ _ nxv (e1 _ _ z))
        rw [g] at hx
        cases hx
    · intro z
      subst z
      obtain ⟨ea, pa, da, ca, h1, _⟩ := hs
      obtain ⟨d2, g1, _⟩ := h1
      have g := f1 _ _ (k1 _ _ nxv (e1 _ _ g1))
      rw [g] at hx
      cases hx
def spExec (K : PySem.W.Frag) : Sp := fun vs H Q E => ∃ (v s sa oa : Addr) (st : Sto) (ls : LS) (op : Op), vs = [.ref v, .ref oa] ∧ LiveOn K H v s sa st ls ∧ OpAt H oa op ∧ op.Ok ∧ ls.Sm ∧ IsLay st ls.f.1 ∧
  (∀ ls' r, execM st ls op = some (ls', r) → ∀ x H', Kp s H H' → LSAt K H' s ls' → ResAt H' x r → Q x H') ∧ (execM st ls op = none → ∀ c H', isBad c → Ext H H' → E (.ref (gA K c)) none H')
theorem ok_Live_execute (T : Txt K mg w) : OkF P w K mg base (L2.CX P w) 8 (mA K "Live" "execute") ["self", "operation"] (spExec K) := by
  have F_Live_look := ok_Live_look (P := P) (base := base) T
  have F_Live_put := ok_Live_put (P := P) (base := base) T
  have F_Live_exchange := ok_Live_exchange (P := P) (base := base) T
  have F_Live_shut := ok_Live_shut (P := P) (base := base) T
  have F_Live_keep_as := ok_Live_keep_as (P := P) (base := base) T
  have F_Live_fetch := ok_Live_fetch (P := P) (base := base) T
  have F_Live_undo := ok_Live_undo (P := P) (base := base) T
  have F_Live_redo := ok_Live_redo (P := P) (base := base) T
  refine mkX (k := 7) T.d_Live_execute sc_Live_execute (fun _ _ _ _ _ _ us hl => match us, hl with | [_, _], _ => rfl) (fun vs H Q E h => ?_) (fun cdv A outer s H vs Q E hr h => ?_)
  · obtain ⟨v, s, sa, oa, st, ls, op, rfl, _⟩ := h
    rfl
  · obtain ⟨v, s, sa, oa, sto, ls, op, rfl, L, ho, oko, sm, il, q1, q2⟩ := h
    obtain ⟨dx, hv⟩ := L.live
    have ho : H oa = some (.tup op.vs) := ho
    refine ⟨_, (pss_cons (ps_par (by rfl) sc_Live_execute.nd (i := 2) (j := 3) rfl rfl (by decide) rfl rfl (pa_cons (pe_ix ix_G (pv 1) pe_int (fun _ _ => rfl)) (pa_cons (pe_slice sl_tupG (pv 1) (po_some pe_int) po_none) pa_nil)) (by rfl))
    (pss_cons (ps_if (pt_cmpR op_eq (pv 2) pe_str (nomark _)) (pss_one (ps_ret (pe_meF T.cls_Live T.me_Live_look F_Live_look.raw hr (passes_call (takes_of rfl rfl rfl rfl) (fun _ _ _ _ z => z)) (pv 0) (pa_cons (pe_ix ix_G (pv 3) pe_int (fun _ _ => rfl)) pa_nil)))) pss_nil)
    (pss_cons (ps_if (pt_cmpR op_eq (pv 2) pe_str (nomark _)) (pss_one (ps_ret (pe_meF T.cls_Live T.me_Live_put F_Live_put.raw hr (passes_call (takes_of rfl rfl rfl rfl) (fun _ _ _ _ z => z)) (pv 0) (pa_cons (pe_ix ix_G (pv 3) pe_int (fun _ _ => rfl)) (pa_cons (pe_ix ix_G (pv 3) pe_int (fun _ _ => rfl)) pa_nil))))) pss_nil)
    (pss_cons (ps_if (pt_cmpR op_eq (pv 2) pe_str (nomark _)) (pss_one (ps_ret (pe_meF T.cls_Live T.me_Live_exchange F_Live_exchange.raw hr (passes_call (takes_of rfl rfl rfl rfl) (fun _ _ _ _ z => z)) (pv 0) (pa_cons (pe_ix ix_G (pv 3) pe_int (fun _ _ => rfl)) (pa_cons (pe_ix ix_G (pv 3) pe_int (fun _ _ => rfl)) pa_nil))))) pss_nil)
    (pss_cons (ps_if (pt_cmpR op_eq (pv 2) pe_str (nomark _)) (pss_one (ps_ret (pe_meF0 T.cls_Live T.me_Live_shut F_Live_shut.raw hr pass0 (pv 0)))) pss_nil)
    (pss_cons (ps_if (pt_cmpR op_eq (pv 2) pe_str (nomark _)) (pss_one (ps_ret (pe_meF T.cls_Live T.me_Live_keep_as F_Live_keep_as.raw hr pass0 (pv 0) (pa_cons (pe_ix ix_G (pv 3) pe_int (fun _ _ => rfl)) pa_nil)))) pss_nil)
    (pss_cons (ps_if (pt_cmpR op_eq (pv 2) pe_str (nomark _)) (pss_one (ps_ret (pe_meF T.cls_Live T.me_Live_fetch F_Live_fetch.raw hr (passes_call (takes_of rfl rfl rfl rfl) (fun _ _ _ _ z => z)) (pv 0) (pa_cons (pe_ix ix_G (pv 3) pe_int (fun _ _ => rfl)) pa_nil)))) pss_nil)
    (pss_one (ps_ret (pe_ifExp (pt_cmpR op_eq (pv 2) pe_str (nomark _)) (pe_meF0 T.cls_Live T.me_Live_undo F_Live_undo.raw hr pass0 (pv 0)) (pe_meF0 T.cls_Live T.me_Live_redo F_Live_redo.raw hr pass0 (pv 0)))))))))))), ?_⟩
    cases op with
    | look d =>
      walk_at "rh"
      refine ⟨_, atI_0, fun p1 H1 e1 hp1 => ?_⟩
      have hv1 := e1 _ _ hv
      have L1 := L.ext e1
      refine ⟨rfl, ?_⟩
      rw [if_pos (by decide)]
      refine ⟨_, _, hv1, rfl, _, seqO_of hp1, .int d, rfl, v, s, sa, sto, ls, d, rfl, L1, sm.p, il, fun hd x H2 k l2 hx => q1 (ls.looked sto d) (.lay (seenL sto ls.f.1 d)) (if_pos hd) _ H2 ((e1.kp s).trans k) l2 ⟨x, rfl, hx⟩, fun hd => q2 (by simp [execM, hd]) _ _ (.inr (.inr (.inr (.inl rfl)))) e1⟩
    | put z i =>
      walk_at "rh"
      refine ⟨_, atI_0, fun p1 H1 e1 hp1 => ?_⟩
      have hv1 := e1 _ _ hv
      have L1 := L.ext e1
      refine ⟨rfl, ?_⟩
      rw [if_neg (by decide)]
      refine ⟨rfl, ?_⟩
      rw [if_pos (by decide)]
      refine ⟨_, _, hv1, rfl, _, seqO_of hp1, .str z, rfl, _, seqO_of hp1, .int i, rfl, v, s, sa, sto, ls, z, i, rfl, L1, sm.p, il, fun hd H2 k l2 => q1 (ls.putd sto z i) (.int (ixOf ls.f.1 z : Nat)) (if_pos hd) _ H2 ((e1.kp s).trans k) l2 rfl, fun hd c hc => q2 (by simp [execM, hd]) _ _ hc e1⟩
    | exch a b =>
      walk_at "rh"
      refine ⟨_, atI_0, fun p1 H1 e1 hp1 => ?_⟩
      have hv1 := e1 _ _ hv
      have L1 := L.ext e1
      refine ⟨rfl, ?_⟩
      rw [if_neg (by decide)]
      refine ⟨rfl, ?_⟩
      rw [if_neg (by decide)]
      refine ⟨rfl, ?_⟩
      rw [if_pos (by decide)]
      refine ⟨_, _, hv1, rfl, _, seqO_of hp1, .str a, rfl, _, seqO_of hp1, .str b, rfl, v, s, sa, sto, ls, a, b, rfl, L1, sm.p, il, fun hd H2 k l2 => q1 (ls.exd sto a b) (.bl (rightB sto (exL ls.f.1 (ixOf ls.f.1 a) (ixOf ls.f.1 b)))) (if_pos hd) _ H2 ((e1.kp s).trans k) l2 rfl, fun hd c hc => q2 (by simp [execM, hd]) _ _ hc e1⟩
    | shut =>
      walk_at "rh"
      refine ⟨_, atI_0, fun p1 H1 e1 hp1 => ?_⟩
      have hv1 := e1 _ _ hv
      have L1 := L.ext e1
      refine ⟨rfl, ?_⟩
      rw [if_neg (by decide)]
      refine ⟨rfl, ?_⟩
      rw [if_neg (by decide)]
      refine ⟨rfl, ?_⟩
      rw [if_neg (by decide)]
      refine ⟨rfl, ?_⟩
      rw [if_pos (by decide)]
      refine ⟨_, _, hv1, rfl, v, s, sa, sto, ls, rfl, L1, sm.p, sm.d, fun H2 k l2 => q1 _ _ rfl _ H2 ((e1.kp s).trans k) l2 rfl⟩
    | keep x =>
      walk_at "rh"
      refine ⟨_, atI_0, fun p1 H1 e1 hp1 => ?_⟩
      have hv1 := e1 _ _ hv
      have L1 := L.ext e1
      refine ⟨rfl, ?_⟩
      rw [if_neg (by decide)]
      refine ⟨rfl, ?_⟩
      rw [if_neg (by decide)]
      refine ⟨rfl, ?_⟩
      rw [if_neg (by decide)]
      refine ⟨rfl, ?_⟩
      rw [if_neg (by decide)]
      refine ⟨rfl, ?_⟩
      rw [if_pos (by decide)]
      refine ⟨_, _, hv1, rfl, _, seqO_of hp1, .str x, rfl, v, s, sa, sto, ls, x, rfl, L1, sm.p, sm.s, oko.2, oko.1, fun H2 k l2 => q1 _ _ rfl _ H2 ((e1.kp s).trans k) l2 rfl⟩
    | fetch x =>
      walk_at "rh"
      refine ⟨_, atI_0, fun p1 H1 e1 hp1 => ?_⟩
      have hv1 := e1 _ _ hv
      have L1 := L.ext e1
      refine ⟨rfl, ?_⟩
      rw [if_neg (by decide)]
      refine ⟨rfl, ?_⟩
      rw [if_neg (by decide)]
      refine ⟨rfl, ?_⟩
      rw [if_neg (by decide)]
      refine ⟨rfl, ?_⟩
      rw [if_neg (by decide)]
      refine ⟨rfl, ?_⟩
      rw [if_neg (by decide)]
      refine ⟨rfl, ?_⟩
      rw [if_pos (by decide)]
      refine ⟨_, _, hv1, rfl, _, seqO_of hp1, .str x, rfl, v, s, sa, sto, ls, x, rfl, L1, sm.p, fun f hf la H2 k l2 hla => q1 (ls.goOn (.fetch x) f ls.sh) (.lay f.1) (by simp only [execM, hf]) _ H2 ((e1.kp s).trans k) l2 ⟨la, rfl, LayX.at hla⟩, fun hd => q2 (by simp only [execM, hd]) _ _ (.inr (.inr (.inr (.inr rfl)))) e1⟩
end
end CC
set_option maxHeartbeats 4000000
namespace CC
open PySem PySem.Spec PyProof.Rows L2
def execAll (st : Sto) : LS → List Op → Option (LS × List Res)
  | ls, [] => some (ls, [])
  | ls, op :: r => match execM st ls op with
    | none => none
    | some (ls1, x) => match execAll st ls1 r with
      | none => none
      | some (ls2, xs) => some (ls2, x :: xs)
/-- its layouts are layouts of the store -/
structure LS.Good (st : Sto) (ls : LS) : Prop where
  il : IsLay st ls.f.1
  sh : ∀ q, q ∈ ls.sh → IsLay st q.2.1
structure LS.Sz (n : Nat) (ls : LS) : Prop where
  p : ls.past.length + n ≤ 1000
  d : ls.f.2.2.length + n ≤ 1000
  s : ls.sh.length + n ≤ 1000
  sd : ∀ q, q ∈ ls.sh → q.2.2.2.length + n ≤ 1000
theorem LS.Sz.sm {n : Nat} {ls : LS} (h : LS.Sz n ls) : ls.Sm := ⟨by have := h.p; omega, by have := h.d; omega, by have := h.s; omega⟩
theorem putS_mem {sh : Shelf} {x : Str} {f : Facts} {q : Str × Facts} (h : q ∈ putS sh x f) : q ∈ sh ∨ q.2 = f := by
  unfold putS at h
  split at h
  · obtain ⟨a, h1, h2⟩ := List.mem_map.mp h
    split at h2
    · exact .inr (by rw [← h2])
    · exact .inl (by rw [← h2]; exact h1)
  · rcases List.mem_append.mp h with z | z
    · exact .inl z
    · exact .inr (by rw [List.mem_singleton.mp z])
theorem putS_len {sh : Shelf} {x : Str} {f : Facts} : (putS sh x f).length ≤ sh.length + 1 := by
  unfold putS
  split
  · rw [List.length_map]
    omega
  · rw [List.length_append, List.length_singleton]
    omega
theorem lookup_memS {sh : Shelf} {x : Str} {f : Facts} (h : sh.lookup x = some f) : ∃ q, q ∈ sh ∧ q.2 = f := by
  induction sh with
  | nil => cases h
  | cons a r ih =>
    obtain ⟨y, g⟩ := a
    rw [List.lookup_cons] at h
    split at h
    · cases h
      exact ⟨_, List.mem_cons_self, rfl⟩
    · obtain ⟨q, h1, h2⟩ := ih h
      exact ⟨q, List.mem_cons_of_mem _ h1, h2⟩
theorem goOn_sz {n : Nat} {ls : LS} {op : Op} {f : Facts} {sh : Shelf} (h : LS.Sz (n + 1) ls) (h1 : f.2.2.length + n ≤ 1000) (h2 : sh.length ≤ ls.sh.length + 1) (h3 : ∀ q, q ∈ sh → q ∈ ls.sh ∨ q.2.2.2.length + n ≤ 1000) : LS.Sz n (ls.goOn op f sh) :=
  ⟨by have := h.p; simp only [LS.goOn, List.length_append, List.length_singleton]; omega, h1, by have := h.s; simp only [LS.goOn]; omega, fun q hq => (h3 q hq).elim (fun z => by have := h.sd q z; omega) id⟩
section
variable {st : Sto} {ls ls' : LS} {op : Op} {r : Res}
theorem execM_good (ok : st.Ok) (g : ls.Good st) (h : execM st ls op = some (ls', r)) : ls'.Good st := by
  cases op with
  | look d =>
    simp only [execM] at h
    split at h
    · cases h
      exact ⟨g.il, g.sh⟩
    · cases h
  | put z i =>
    simp only [execM] at h
    split at h
    · rename_i hp
      cases h
      simp only [putOk, Bool.and_eq_true, decide_eq_true_eq] at hp
      obtain ⟨⟨h1, h2⟩, h3⟩ := hp
      exact ⟨g.il.ex (ixOf_ok (g.il.has h1)).2.2 (List.getElem?_eq_some_iff.mp h3).1, g.sh⟩
    · cases h
  | exch a b =>
    simp only [execM] at h
    split at h
    · rename_i hp
      cases h
      simp only [exOk, Bool.and_eq_true, decide_eq_true_eq] at hp
      obtain ⟨⟨h1, h2⟩, h3⟩ := hp
      exact ⟨g.il.ex (ixOf_ok (g.il.has h1)).2.2 (ixOf_ok (g.il.has h2)).2.2, g.sh⟩
    · cases h
  | shut =>
    cases h
    exact ⟨g.il, g.sh⟩
  | keep x =>
    cases h
    refine ⟨g.il, fun q hq => ?_⟩
    rcases putS_mem hq with z | z
    · exact g.sh _ z
    · rw [z]
      exact g.il
  | fetch x =>
    simp only [execM] at h
    split at h
    · rename_i f hf
      cases h
      obtain ⟨q, h1, h2⟩ := lookup_memS hf
      exact ⟨h2 ▸ g.sh q h1, g.sh⟩
    · cases h
theorem execM_sz {n : Nat} (g : LS.Sz (n + 1) ls) (h : execM st ls op = some (ls', r)) : LS.Sz n ls' := by
  have gd := g.d
  have gs : ∀ q, q ∈ ls.sh → q ∈ ls.sh ∨ q.2.2.2.length + n ≤ 1000 := fun q hq => .inl hq
  cases op with
  | look d =>
    simp only [execM] at h
    split at h
    · cases h
      exact goOn_sz g (by show ls.f.2.2.length + n ≤ 1000; omega) (by omega) gs
    · cases h
  | put z i =>
    simp only [execM] at h
    split at h
    · cases h
      exact goOn_sz g (by show ls.f.2.2.length + n ≤ 1000; omega) (by omega) gs
    · cases h
  | exch a b =>
    simp only [execM] at h
    split at h
    · cases h
      exact goOn_sz g (by show ls.f.2.2.length + n ≤ 1000; omega) (by omega) gs
    · cases h
  | shut =>
    cases h
    exact goOn_sz g (by show (ls.f.2.2 ++ [ls.f.2.1]).length + n ≤ 1000; rw [List.length_append, List.length_singleton]; omega) (by omega) gs
  | keep x =>
    cases h
    exact goOn_sz g (by omega) putS_len fun q hq => (putS_mem hq).imp id fun z => by rw [z]; omega
  | fetch x =>
    simp only [execM] at h
    split at h
    · rename_i f hf
      cases h
      obtain ⟨q, h1, h2⟩ := lookup_memS hf
      exact goOn_sz g (by rw [← h2]; have := g.sd q h1; omega) (by omega) gs
    · cases h
end
end CC
set_option maxHeartbeats 4000000
namespace CC
open PySem PySem.Spec PyProof.Rows L2
local macro_rules | `(tactic| walk_at "rd") => `(tactic| simp only [tVar, tC, tOp, tUn, rI0, rI, rU, rEq, rNe, tTest, tB, tAnd, tOr, tNot, tAndV, tOrV, tNotV, tIf, tChain, tIfS, tRet, tRetN, tSeq, tNext, tAsg, gName, tDrop, tCons, tNil, tCB, tCR, tTup, tLst, rIsF, tyN_non, tyN_bl, tyN_int, tyN_str, tyN_ref, isB_1, isB_2, isB_3, isB_4, isB_5, isB_6, isB_7, isB_8, tyO_tup, tyO_lst, tyO_dK, tyO_frz, rIxG, rLenG, rInG, rAllG, rSumG, rListG, rTupG, tLcF, tLcP, tForF, tForP, srcTup, srcLst, srcStr, srcRng, srcEnum, srcZip, srcEnumT, tYes, wipe, gTupG, gCons, gNil, tStarG, tSl, rSlTG, rSlLG, rCatTG, rRep, tJoinG, rSortedSG, tApp, tExd, tupO_tup, lstO_lst, seqO_tup, seqO_lst, dKO_dK, tNoPart, tPart, tFl, sFl, tSls, sSls, tMeS, tPrS, tPrF, tMethR, tMake, sFlAug, rLenS, L2.start, List.map_cons, List.map_nil, List.length_cons, List.length_nil, Nat.zero_add, Nat.reduceAdd, Nat.reduceSub, List.replicate_succ, List.replicate_zero, List.forall_mem_map, List.cons_append, List.nil_append, List.getElem?_cons_succ, List.getElem?_cons_zero, List.set_cons_zero, List.set_cons_succ, Option.some.injEq, V.int.injEq, V.str.injEq, V.bl.injEq, V.ref.injEq, V.ty.injEq, List.cons.injEq, HO.tup.injEq, HO.lst.injEq, HO.ins.injEq, reduceCtorEq, exists_eq_left', exists_eq_left, exists_eq_right', exists_eq_right, exists_and_left, exists_and_right, and_true, true_and, and_false, false_and, or_false, false_or, or_true, true_or, exists_const, exists_eq', exists_eq, scal_ii, scal_ss, scal_bb, scal_nn, scal_ns, scal_sn, tSlB, sSlB, lkH, lkB, upd_upd, tPar, tLcI, tWithX, wX, upd_same, if_true, if_false, ite_true, ite_false, Bool.not_true, Bool.not_false, Bool.true_and, Bool.and_true, Bool.false_eq_true, decide_true, decide_false, sz1, atI_0, atI_1, and_assoc])
local macro_rules | `(tactic| walk_at "rh") => `(tactic| simp only [*, tVar, tC, tOp, tUn, rI0, rI, rU, rEq, rNe, tTest, tB, tAnd, tOr, tNot, tAndV, tOrV, tNotV, tIf, tChain, tIfS, tRet, tRetN, tSeq, tNext, tAsg, gName, tDrop, tCons, tNil, tCB, tCR, tTup, tLst, rIsF, tyN_non, tyN_bl, tyN_int, tyN_str, tyN_ref, isB_1, isB_2, isB_3, isB_4, isB_5, isB_6, isB_7, isB_8, tyO_tup, tyO_lst, tyO_dK, tyO_frz, rIxG, rLenG, rInG, rAllG, rSumG, rListG, rTupG, tLcF, tLcP, tForF, tForP, srcTup, srcLst, srcStr, srcRng, srcEnum, srcZip, srcEnumT, tYes, wipe, gTupG, gCons, gNil, tStarG, tSl, rSlTG, rSlLG, rCatTG, rRep, tJoinG, rSortedSG, tApp, tExd, tupO_tup, lstO_lst, seqO_tup, seqO_lst, dKO_dK, tNoPart, tPart, tFl, sFl, tSls, sSls, tMeS, tPrS, tPrF, tMethR, tMake, sFlAug, rLenS, L2.start, List.map_cons, List.map_nil, List.length_cons, List.length_nil, Nat.zero_add, Nat.reduceAdd, Nat.reduceSub, List.replicate_succ, List.replicate_zero, List.forall_mem_map, List.cons_append, List.nil_append, List.getElem?_cons_succ, List.getElem?_cons_zero, List.set_cons_zero, List.set_cons_succ, Option.some.injEq, V.int.injEq, V.str.injEq, V.bl.injEq, V.ref.injEq, V.ty.injEq, List.cons.injEq, HO.tup.injEq, HO.lst.injEq, HO.ins.injEq, reduceCtorEq, exists_eq_left', exists_eq_left, exists_eq_right', exists_eq_right, exists_and_left, exists_and_right, and_true, true_and, and_false, false_and, or_false, false_or, or_true, true_or, exists_const, exists_eq', exists_eq, scal_ii, scal_ss, scal_bb, scal_nn, scal_ns, scal_sn, tSlB, sSlB, lkH, lkB, upd_upd, tPar, tLcI, tWithX, wX, upd_same, if_true, if_false, ite_true, ite_false, Bool.not_true, Bool.not_false, Bool.true_and, Bool.and_true, Bool.false_eq_true, decide_true, decide_false, sz1, atI_0, atI_1, and_assoc])
theorem ResAt.mono {H H' : Hp} {x : V} {r : Res} (h : ResAt H x r) (e : Tup H H') : ResAt H' x r := by
  cases r with
  | lay l =>
    obtain ⟨p, h1, h2⟩ := h
    exact ⟨p, h1, h2.mono e⟩
  | int i => exact h
  | bl b => exact h
theorem tupL {D : Addr} {H H' : Hp} {xs : List V} (k : Kp D H H') (h : H D = some (.lst xs)) : Tup H H' := k.tup (fun xs z => by rw [h] at z; cases z) (fun xs z => by rw [h] at z; cases z) (fun o u z => by rw [h] at z; cases z)
theorem LSAt.kpL {K : PySem.W.Frag} {H H' : Hp} {s D : Addr} {ls : LS} {xs : List V} (g : LSAt K H s ls) (k : Kp D H H') (h : H D = some (.lst xs)) : LSAt K H' s ls := by
  have t := tupL k h
  obtain ⟨fa, pa, sa, ua, h1, h2, h3, h4, h5⟩ := g
  have n : s ≠ D := fun z => by
    subst z
    obtain ⟨d2, g1, _⟩ := h1
    rw [h] at g1
    exact nomatch Option.some.inj g1
  exact ⟨fa, pa, sa, ua, h1.kp k n (by rw [h]; intro z; exact nomatch Option.some.inj z), h2.mono t, h3.mono t, h4.mono t, h5.mono t⟩
theorem none_of {H H' : Hp} {a b : Addr} {D : Addr} (k : Kp a H H') (n : D ≠ a) (h : H' D = none) : H D = none := by
  cases z : H D with
  | none => rfl
  | some u =>
    rw [k _ _ n z] at h
    cases h
section
variable {P : Program} {w : World} {K : PySem.W.Frag} {mg : Str → Option Value} {base : Heap}
def spApply (K : PySem.W.Frag) : Sp := fun vs H Q E => ∃ (v s sa oa : Addr) (st : Sto) (ls : LS) (l : List (Addr × Op)), vs = [.ref v, .ref oa] ∧ LiveOn K H v s sa st ls ∧ H oa = some (.lst (l.map fun q => .ref q.1)) ∧ (∀ q, q ∈ l → OpAt H q.1 q.2 ∧ q.2.Ok) ∧ ls.Sz l.length ∧ ls.Good st ∧
  (∀ ls' rs, execAll st ls (l.map Prod.snd) = some (ls', rs) → ∀ p H' (xs : List (V × Res)), Kp s H H' → LSAt K H' s ls' → H' p = some (.lst (xs.map Prod.fst)) → xs.map Prod.snd = rs → (∀ q, q ∈ xs → ResAt H' q.1 q.2) → H p = none → Q (.ref p) H') ∧
  (execAll st ls (l.map Prod.snd) = none → ∀ c H', isBad c → Kp s H H' → LSAt K H' s ls → E (.ref (gA K c)) none H')
theorem ok_Live_apply_all (T : Txt K mg w) : OkF P w K mg base (L2.CX P w) 10 (mA K "Live" "apply_all") ["self", "operations"] (spApply K) := by
  have F_is_operation := ok_is_operation (P := P) (base := base) T
  have F_Trial___init__ := ok_Trial___init__ (P := P) (base := base) T
  have F_Trial___enter__ := ok_Trial___enter__ (P := P) (base := base) T
  have F_Trial___exit__ := ok_Trial___exit__ (P := P) (base := base) T
  have F_Trial_hold := ok_Trial_hold (P := P) (base := base) T
  have F_Live_execute := ok_Live_execute (P := P) (base := base) T
  have H_exit := hot_Trial___exit__ (P := P) (w := w) (mg := mg) (base := base) T
  refine mkX (k := 9) T.d_Live_apply_all sc_Live_apply_all (fun _ _ _ _ _ _ us hl => match us, hl with | [_, _], _ => rfl) (fun vs H Q E h => ?_) (fun cdv A outer s H vs Q E hr h => ?_)
  · obtain ⟨v, s, sa, oa, st, ls, l, rfl, _⟩ := h
    rfl
  · obtain ⟨v, s, sa, oa, sto, ls, l, rfl, L, ho, hop, sz, gd, q1, q2⟩ := h
    obtain ⟨dx, hv⟩ := L.live
    refine ⟨_, (pss_cons (forP PassesOwn.leaving rfl (sr_enum T.b_enumerate (pa_cons (pv 1) pa_nil)) (pg_tupG (n := 2) rfl (pgs_cons (pg_name (i := 2) sc_Live_apply_all.nd rfl (.inl rfl)) (pgs_cons (pg_name (i := 3) sc_Live_apply_all.nd rfl (.inl rfl)) pgs_nil)))
      (pss_one (ps_if (pt_not (pt_val (pe_cR F_is_operation.raw hr T.g_is_operation pass0 (pa_cons (pv 3) pa_nil)))) (pss_one (ps_never)) pss_nil)))
    (pss_cons (ps_withX (i := 4) rfl rfl rfl (takes_of rfl rfl rfl rfl) sc_Live_apply_all.nd rfl (.inl rfl) T.cls_Trial T.me_Trial___enter__ T.me_Trial___exit__ F_Trial___enter__.raw F_Trial___exit__.raw H_exit hr (by decide) (by decide) (pe_mk T.mk_Trial F_Trial___init__ hr T.g_Trial.1 pass0 (pa_cons (pv 0) pa_nil))
      (fun W pn xe tk hp => pss_cons (setLcIX (i := 5) (own := [("operation", 3)]) rfl rfl rfl tk rfl sc_Live_apply_all.nd rfl (sr_lst (pv 1)) (blkOk_by (N := n_Live_apply_all) (sc := defScope s_Live_apply_all) (by decide +kernel)) (fun _ _ _ _ _ => (pg_name (i := 3) sc_Live_apply_all.nd rfl (.inl rfl))) (fun _ _ _ _ _ => pts_nil) (fun _ _ _ _ _ _ hx => pe_meF T.cls_Live T.me_Live_execute F_Live_execute.raw hr hx (pv 0) (pa_cons (pv 3) pa_nil)))
        (pss_one (ps_expr (pe_meF0 T.cls_Trial T.me_Trial_hold F_Trial_hold.raw hr pass0 (pv 4))))))
    (pss_one (ps_ret (pv 5))))), ?_⟩
    obtain ⟨fa, pa, ha, ua, hs, hf, hh, hp, hu⟩ := id L.lst
    walk_at "rh"
    refine ⟨(Addr × Op) × Nat, l.zipIdx, fun a => .int (a.2 : Nat), fun a => .ref a.1.1, ?_, fun r σ H1 => Ext H H1 ∧ (∃ x y, σ = [some (.ref v), some (.ref oa), x, y, none, none]) ∧ ∀ a, a ∈ r → a.1 ∈ l, ⟨.refl _, ⟨_, _, rfl⟩, fun a ha => ?_⟩, fun r σ H1 h1 => h1.1 _ _ ho, fun a r σ H1 T ⟨e1, ⟨x, y, hσ⟩, hr⟩ hT => ?_, fun σ H1 ⟨e1, ⟨x, y, hσ⟩, _⟩ => ?_⟩
    · simp [List.zipIdx_map]
    · obtain ⟨⟨b1, b2⟩, n⟩ := a
      exact (List.mem_zipIdx' ha).2 ▸ List.getElem_mem _
    · subst hσ
      have e2 := Ext.new (o := .tup [.int (a.2 : Nat), .ref a.1.1]) hT
      refine ⟨_, rfl, a.1.1, a.1.2, rfl, OpAt.mono (e1.trans e2).tup (hop _ (hr a List.mem_cons_self)).1, fun H2 e3 => ⟨_, rfl, ?_⟩⟩
      rw [if_neg (by simp)]
      exact ⟨(e1.trans e2).trans e3, ⟨_, _, rfl⟩, fun b hb => hr b (List.mem_cons_of_mem _ hb)⟩
    · subst hσ
      refine ⟨_, rfl, fun t dt ht1 hdt ndt => ?_⟩
      have e2 := Made.ext (C := gA K "Trial") ht1 hdt
      have hv1 := e1 _ _ hv
      refine ⟨t, v, s, sa, dt, dx, rfl, Made.of ndt, e2 _ _ hv1, fun H2 k2 ht2 => ⟨rfl, ⟨_, _, ht2⟩, ?_⟩⟩
      have e12 := k2.ext ht1 hdt
      have e02 := e1.trans e12
      have ntv : t ≠ v := fun z => by
        subst z
        rw [hv1] at ht1
        cases ht1
      refine ⟨t, v, s, s, sa, fa, pa, ha, ua, dx, rfl, ⟨_, ht2⟩, e02 _ _ hv, hs.ext e02, ntv, fun f c H3 hf3 hc3 nfc up htr hv3 hsf hsc => ?_⟩
      have nvs : v ≠ s := fun z => by
        subst z
        obtain ⟨d2, g1, _⟩ := hs
        rw [hv] at g1
        exact nomatch Option.some.inj g1
      have K3 : Kp v H H3 := fun b u n e => up b u (fun z => by subst z; rw [e1 _ _ e] at ht1; cases ht1) n (e02 _ _ e)
      have T3 : Tup H H3 := K3.tup (fun xs z => by rw [hv] at z; cases z) (fun xs z => by rw [hv] at z; cases z) (fun o u z => by rw [hv] at z; cases z)
      have nfs : f ≠ s := fun z => by
        subst z
        obtain ⟨d2, g1, _⟩ := hs.ext e02
        rw [g1] at hf3
        cases hf3
      have ncs : c ≠ s := fun z => by
        subst z
        obtain ⟨d2, g1, _⟩ := hs.ext e02
        rw [g1] at hc3
        cases hc3
      have nfsa : sa ≠ f := fun z => by
        subst z
        obtain ⟨ea, pa2, da, ca, ⟨d2, g1, _⟩, _⟩ := L.sto.ext e02
        rw [g1] at hf3
        cases hf3
      have nft : t ≠ f := fun z => by
        subst z
        rw [ht2] at hf3
        cases hf3
      have hs3 : SB H3 s (gA K "State") [.ref fa, .ref pa, .ref ha, .ref ua] := hs.kp K3 (Ne.symm nvs) (by rw [hv]; intro z; exact nomatch Option.some.inj z)
      have L3 : LiveOn K H3 v f sa sto ls := ⟨⟨_, hv3⟩, L.sto.kpI K3 hv, ⟨fa, pa, ha, ua, hsf, hf.mono T3, hh.mono T3, hp.mono T3, hu.mono T3⟩, nfsa, L.ok⟩
      have ho3 : H3 oa = some (.lst (l.map fun q => .ref q.1)) := K3 _ _ (fun z => by subst z; rw [hv] at ho; cases ho) ho
      have noaf : oa ≠ f := fun z => by
        subst z
        rw [e02 _ _ ho] at hf3
        cases hf3
      have end6 : ∀ H5 H6, Kp f H3 H5 → (∀ b u, b ≠ s → b ≠ v → H5 b = some u → H6 b = some u) → H6 v = some (.ins (gA K "Live") dx [("base", .ref sa), ("held", .ref s)]) → Kp s H H6 := fun H5 H6 k5 fr hv6 b u n e => by
        by_cases z : b = v
        · subst z
          rw [hv] at e
          rw [hv6, e]
        · have nbf : b ≠ f := fun y => by
            subst y
            rw [e02 _ _ e] at hf3
            cases hf3
          exact fr b u n z (k5 _ _ nbf (K3 _ _ z e))
      have nvf : v ≠ f := fun z => by
        subst z
        obtain ⟨d2, g1, _⟩ := hsf
        rw [hv3] at g1
        exact nomatch Option.some.inj g1
      have xf : H3 f ≠ some (.xd []) := by
        obtain ⟨d2, g1, _⟩ := hsf
        rw [g1]
        intro z
        exact SB.ne (Option.some.inj z)
      obtain ⟨dt2, htr⟩ := htr
      refine ⟨_, rfl, oa, rfl, _, by rw [ho3]; rfl, Addr × Op, l, fun q => .ref q.1, rfl, by have := sz.p; omega,
        fun D r acc Hx => ∃ (ls1 : LS) (xs : List (V × Res)), H3 D = none ∧ Kp f H3 Hx ∧ LSAt K Hx f ls1 ∧ Hx D = some (.lst acc) ∧ acc = xs.map Prod.fst ∧ (∀ q, q ∈ xs → ResAt Hx q.1 q.2) ∧ execAll sto ls (l.map Prod.snd) = (execAll sto ls1 (r.map Prod.snd)).map (fun z => (z.1, xs.map Prod.snd ++ z.2)) ∧ ls1.Sz r.length ∧ ls1.Good sto ∧ ∀ q, q ∈ r → q ∈ l,
        fun D hD => ⟨ls, [], hD, (Ext.new hD).kp f, L3.lst.ext (Ext.new hD), upd_same, rfl, fun q hq => (nomatch hq), by simp, sz, gd, fun q hq => hq⟩, ?_, ?_, ?_⟩
      · intro D r acc Hx ⟨ls1, xs, _, k, _⟩
        exact k _ _ noaf ho3
      · intro D a r acc Hx ⟨ls1, xs, hD, k, l1, hDx, hacc, hres, hex, sz1, gd1, hr⟩
        have Lx := L3.kp k l1
        have hvx := k _ _ (fun z => by subst z; obtain ⟨d2, g1, _⟩ := hsf; rw [hv3] at g1; exact nomatch Option.some.inj g1) hv3
        have Tx := L3.tup k
        refine ⟨rfl, _, rfl, v, rfl, _, _, hvx, rfl, _, rfl, ?_⟩
        have hDf : D ≠ f := fun z => by
          subst z
          obtain ⟨d2, g1, _⟩ := hsf
          rw [g1] at hD
          cases hD
        refine ⟨v, f, sa, a.1, sto, ls1, a.2, rfl, Lx, (OpAt.mono T3 (hop _ (hr a List.mem_cons_self)).1).mono Tx, (hop _ (hr a List.mem_cons_self)).2, sz1.sm, gd1.il, fun ls2 rr hx x H5 k5 l5 hrx => ?_, fun hx c5 H5 hbad e5 σ => ?_⟩
        · have hD5 := k5 _ _ hDf hDx
          have kD : Kp D H5 (upd H5 D (.lst (acc ++ [x]))) := Kp.set
          have t5 := (Lx.tup k5).trans (tupL kD hD5)
          refine ⟨hD5, ls2, xs ++ [(x, rr)], hD, fun b u n e => ?_, l5.kpL kD hD5, upd_same, by rw [hacc]; simp, fun q hq => ?_, ?_, execM_sz sz1 hx, execM_good L.ok gd1 hx, fun q hq => hr q (List.mem_cons_of_mem _ hq)⟩
          · exact kD _ _ (fun z => by subst z; rw [hD] at e; cases e) (k5 _ _ n (k _ _ n e))
          · rcases List.mem_append.mp hq with z | z
            · exact (hres q z).mono t5
            · rw [List.mem_singleton.mp z]
              exact hrx.mono (tupL kD hD5)
          · rw [hex, List.map_cons]
            simp only [execAll, hx]
            cases execAll sto ls2 (r.map Prod.snd) with
            | none => rfl
            | some z => simp
        · have hnone : execAll sto ls (l.map Prod.snd) = none := by
            rw [hex, List.map_cons]
            simp only [execAll, hx, Option.map_none]
          have k35 : Kp f H3 H5 := k.trans (e5.kp f)
          refine ⟨_, rfl, fun ee tr => ⟨t, v, s, f, c, sa, f, fa, pa, ha, ua, fa, pa, ha, ua, dx, _, _, _, rfl, ⟨_, k35 _ _ nft htr⟩, k35 _ _ nvf hv3, hs3.kp k35 (Ne.symm nfs) xf, hsc.kp k35 (Ne.symm nfc) xf, Ne.symm ncs, fun H6 fr hv6 hs6 => ⟨rfl, ?_⟩⟩⟩
          have K6 := end6 H5 H6 k35 fr hv6
          have T6 := L.tup K6
          exact q2 hnone c5 H6 hbad K6 ⟨fa, pa, ha, ua, hs6, hf.mono T6, hh.mono T6, hp.mono T6, hu.mono T6⟩
      · intro D acc Hx ⟨ls1, xs, hD, k, l1, hDx, hacc, hres, hex, sz1, gd1, hr⟩
        have htx := k _ _ nft htr
        have hvx := k _ _ nvf hv3
        have hsx := hs3.kp k (Ne.symm nfs) xf
        obtain ⟨fa', pa', ha', ua', hfx, g2, g3, g4, g5⟩ := l1
        refine ⟨_, rfl, t, rfl, _, _, htx, rfl, t, v, s, f, c, rfl, ⟨_, htx⟩, fun H5 k5 ⟨d5, ht5⟩ => ?_⟩
        have xt : Hx t ≠ some (.xd []) := by rw [htx]; intro z; exact nomatch Option.some.inj z
        have T5 : Tup Hx H5 := k5.tup (fun xs z => by rw [htx] at z; cases z) (fun xs z => by rw [htx] at z; cases z) (fun o u z => by rw [htx] at z; cases z)
        have nts : s ≠ t := fun z => by
          subst z
          obtain ⟨d2, h1, _⟩ := hsx
          rw [htx] at h1
          exact nomatch Option.some.inj h1
        have hv5 := k5 _ _ (Ne.symm ntv) hvx
        have hs5 := hsx.kp k5 nts xt
        refine ⟨t, v, s, f, f, sa, f, fa, pa, ha, ua, fa', pa', ha', ua', dx, _, _, _, rfl, ⟨_, ht5⟩, hv5, hs5, hfx.kp k5 (Ne.symm nft) xt, Ne.symm nfs, fun H6 fr hv6 hs6 => ⟨_, rfl, ?_⟩⟩
        have T6 : Tup H5 H6 := by
          obtain ⟨d2, h1, _⟩ := hs5
          have ne : ∀ b u, H5 b = some u → (∀ C d fs, u ≠ .ins C d fs) → (∀ C d us, u ≠ SlX.SlO s C d us) → H6 b = some u := fun b u e n1 n2 => fr b u (fun z => by subst z; rw [h1] at e; cases e; exact n2 _ _ _ rfl) (fun z => by subst z; rw [hv5] at e; cases e; exact n1 _ _ _ rfl) e
          exact ⟨fun b xs e => ne b _ e (fun _ _ _ z => by cases z) (fun _ _ _ z => by cases z), fun b xs e => ne b _ e (fun _ _ _ z => by cases z) (fun _ _ _ z => by cases z), fun b o u e => ne b _ e (fun _ _ _ z => by cases z) (fun _ _ _ z => by cases z)⟩
        have T56 := T5.trans T6
        have K6 : Kp s H H6 := fun b u n e => by
          by_cases z : b = v
          · subst z
            rw [hv] at e
            rw [hv6, e]
          · have nbf : b ≠ f := fun y => by
              subst y
              rw [e02 _ _ e] at hf3
              cases hf3
            have nbt : b ≠ t := fun y => by
              subst y
              rw [e1 _ _ e] at ht1
              cases ht1
            exact fr b u n z (k5 _ _ nbt (k _ _ nbf (K3 _ _ z e)))
        have nDs : D ≠ s := fun z => by
          subst z
          obtain ⟨d2, h1, _⟩ := hs3
          rw [h1] at hD
          cases hD
        have nDv : D ≠ v := fun z => by
          subst z
          rw [hv3] at hD
          cases hD
        have nDt : D ≠ t := fun z => by
          subst z
          rw [htr] at hD
          cases hD
        have hDH : H D = none := by
          cases z : H D with
          | none => rfl
          | some u =>
            rw [K3 _ _ nDv z] at hD
            cases hD
        exact q1 ls1 (xs.map Prod.snd) (by rw [hex]; simp [execAll]) D H6 xs K6 ⟨fa', pa', ha', ua', hs6, g2.mono T56, g3.mono T56, g4.mono T56, g5.mono T56⟩ (by rw [← hacc]; exact fr _ _ nDs nDv (k5 _ _ nDt hDx)) rfl (fun q hq => (hres q hq).mono T56) hDH
end
end CC
set_option maxHeartbeats 4000000
namespace CC
open PySem PySem.Spec PyProof.Rows L2 StX
local macro_rules | `(tactic| walk_at "rd") => `(tactic| simp only [tVar, tC, tOp, tUn, rI0, rI, rU, rEq, rNe, tTest, tB, tAnd, tOr, tNot, tAndV, tOrV, tNotV, tIf, tChain, tIfS, tRet, tRetN, tSeq, tNext, tAsg, gName, tDrop, tCons, tNil, tCB, tCR, tTup, tLst, rIsF, tyN_non, tyN_bl, tyN_int, tyN_str, tyN_ref, isB_1, isB_2, isB_3, isB_4, isB_5, isB_6, isB_7, isB_8, tyO_tup, tyO_lst, tyO_dK, tyO_frz, rIxG, rLenG, rInG, rAllG, rSumG, rListG, rTupG, tLcF, tLcP, tForF, tForP, srcTup, srcLst, srcStr, srcRng, srcEnum, srcZip, srcEnumT, tYes, wipe, gTupG, gCons, gNil, tStarG, tSl, rSlTG, rSlLG, rCatTG, rRep, tJoinG, rSortedSG, tApp, tExd, tupO_tup, lstO_lst, seqO_tup, seqO_lst, dKO_dK, tNoPart, tPart, tFl, sFl, tSls, sSls, tMeS, tPrS, tPrF, tMethR, tMake, sFlAug, rLenS, L2.start, List.map_cons, List.map_nil, List.length_cons, List.length_nil, Nat.zero_add, Nat.reduceAdd, Nat.reduceSub, List.replicate_succ, List.replicate_zero, List.forall_mem_map, List.cons_append, List.nil_append, List.getElem?_cons_succ, List.getElem?_cons_zero, List.set_cons_zero, List.set_cons_succ, Option.some.injEq, V.int.injEq, V.str.injEq, V.bl.injEq, V.ref.injEq, V.ty.injEq, List.cons.injEq, HO.tup.injEq, HO.lst.injEq, HO.ins.injEq, reduceCtorEq, exists_eq_left', exists_eq_left, exists_eq_right', exists_eq_right, exists_and_left, exists_and_right, and_true, true_and, and_false, false_and, or_false, false_or, or_true, true_or, exists_const, exists_eq', exists_eq, scal_ii, scal_ss, scal_bb, scal_nn, scal_ns, scal_sn, tSlB, sSlB, lkH, lkB, upd_upd, tPar, tMakeL, tMakeR, upd_same, if_true, if_false, ite_true, ite_false, Bool.not_true, Bool.not_false, Bool.true_and, Bool.and_true, Bool.false_eq_true, decide_true, decide_false, sz1, atI_0, atI_1, and_assoc])
local macro_rules | `(tactic| walk_at "rh") => `(tactic| simp only [*, tVar, tC, tOp, tUn, rI0, rI, rU, rEq, rNe, tTest, tB, tAnd, tOr, tNot, tAndV, tOrV, tNotV, tIf, tChain, tIfS, tRet, tRetN, tSeq, tNext, tAsg, gName, tDrop, tCons, tNil, tCB, tCR, tTup, tLst, rIsF, tyN_non, tyN_bl, tyN_int, tyN_str, tyN_ref, isB_1, isB_2, isB_3, isB_4, isB_5, isB_6, isB_7, isB_8, tyO_tup, tyO_lst, tyO_dK, tyO_frz, rIxG, rLenG, rInG, rAllG, rSumG, rListG, rTupG, tLcF, tLcP, tForF, tForP, srcTup, srcLst, srcStr, srcRng, srcEnum, srcZip, srcEnumT, tYes, wipe, gTupG, gCons, gNil, tStarG, tSl, rSlTG, rSlLG, rCatTG, rRep, tJoinG, rSortedSG, tApp, tExd, tupO_tup, lstO_lst, seqO_tup, seqO_lst, dKO_dK, tNoPart, tPart, tFl, sFl, tSls, sSls, tMeS, tPrS, tPrF, tMethR, tMake, sFlAug, rLenS, L2.start, List.map_cons, List.map_nil, List.length_cons, List.length_nil, Nat.zero_add, Nat.reduceAdd, Nat.reduceSub, List.replicate_succ, List.replicate_zero, List.forall_mem_map, List.cons_append, List.nil_append, List.getElem?_cons_succ, List.getElem?_cons_zero, List.set_cons_zero, List.set_cons_succ, Option.some.injEq, V.int.injEq, V.str.injEq, V.bl.injEq, V.ref.injEq, V.ty.injEq, List.cons.injEq, HO.tup.injEq, HO.lst.injEq, HO.ins.injEq, reduceCtorEq, exists_eq_left', exists_eq_left, exists_eq_right', exists_eq_right, exists_and_left, exists_and_right, and_true, true_and, and_false, false_and, or_false, false_or, or_true, true_or, exists_const, exists_eq', exists_eq, scal_ii, scal_ss, scal_bb, scal_nn, scal_ns, scal_sn, tSlB, sSlB, lkH, lkB, upd_upd, tPar, tMakeL, tMakeR, upd_same, if_true, if_false, ite_true, ite_false, Bool.not_true, Bool.not_false, Bool.true_and, Bool.and_true, Bool.false_eq_true, decide_true, decide_false, sz1, atI_0, atI_1, and_assoc])
section
variable {P : Program} {w : World} {K : PySem.W.Frag} {mg : Str → Option Value} {base : Heap}
/-- a store without crates moved yet -/
abbrev LS.new (l : Lay) : LS := ⟨(l, 0, []), [], [], []⟩
def spReplay (K : PySem.W.Frag) : Sp := fun vs H Q _ => ∃ (sa la oa : Addr) (st : Sto) (l0 : Lay) (l : List (Addr × Op)) (ls' : LS) (rs : List Res), vs = [.ref (gA K "Live"), .ref sa, .ref la, .ref oa] ∧ StoAt K H sa st ∧ st.Ok ∧ LayX H la l0 ∧ IsLay st l0 ∧ H oa = some (.lst (l.map fun q => .ref q.1)) ∧ (∀ q, q ∈ l → OpAt H q.1 q.2 ∧ q.2.Ok) ∧ l.length ≤ 1000 ∧
  execAll st (LS.new l0) (l.map Prod.snd) = some (ls', rs) ∧ ∀ v s H', Ext H H' → H v = none → LiveOn K H' v s sa st ls' → Q (.ref v) H'
theorem ok_Live_replay (T : Txt K mg w) : OkF P w K mg base CX0 12 (cA K "Live" "replay") ["cls", "store", "layout", "operations"] (spReplay K) := by
  have F_Live___init__ := ok_Live___init__ (P := P) (base := base) T
  have F_Live_apply_all := ok_Live_apply_all (P := P) (base := base) T
  refine mk0 (k := 11) T.d_Live_replay sc_Live_replay (fun _ _ _ _ _ _ us hl => match us, hl with | [_, _, _, _], _ => rfl) (fun vs H Q E h => ?_) (fun cdv A outer s H vs Q E hr h => ?_)
  · obtain ⟨sa, la, oa, st, l0, l, ls', rs, rfl, _⟩ := h
    rfl
  · obtain ⟨sa, la, oa, st, l0, l, ls', rs, rfl, hst, ok, hla, il, ho, hop, hlen, hex, q⟩ := h
    refine ⟨_, (pss_cons (CC.st (i := 4) sc_Live_replay.nd (pe_mkL (i := 0) T.mk_Live F_Live___init__.raw hr pass0 (pa_cons (pv 1) (pa_cons (pv 2) pa_nil))))
    (pss_cons (ps_expr (pe_meF T.cls_Live T.me_Live_apply_all F_Live_apply_all.raw hr passL (pv 4) (pa_cons (pv 3) pa_nil)))
    (pss_one (ps_ret (pv 4))))), ?_⟩
    walk_at "rh"
    intro v dx hv hdx ndx
    have e1 := Made.ext (C := gA K "Live") hv hdx
    refine ⟨v, sa, la, dx, st, l0, rfl, Made.of ndx, hst.ext e1, ok, TupX.mono hla e1.tup, il, fun s H2 k2 hs L2' => ⟨rfl, ?_⟩⟩
    have e2 := k2.ext hv hdx
    obtain ⟨d2, hv2⟩ := L2'.live
    refine ⟨_, _, hv2, rfl, v, s, sa, oa, st, _, l, rfl, L2', e2 _ _ ho, fun q hq => ⟨OpAt.mono e2.tup (hop q hq).1, (hop q hq).2⟩, ⟨?_, ?_, ?_, fun q hq => nomatch hq⟩, ⟨il, fun q hq => nomatch hq⟩, fun ls2 rs2 hex2 p H3 xs k3 l3 hp hm hres hn => ?_, fun hx => ?_⟩
    · simpa using hlen
    · simpa using hlen
    · simpa using hlen
    · have z : (ls2, rs2) = (ls', rs) := Option.some.inj (hex2.symm.trans hex)
      cases z
      refine q v s H3 (fun b u e => ?_) hv (L2'.kp k3 l3)
      refine k3 _ _ (fun z => ?_) (e2 _ _ e)
      subst z
      rw [e1 _ _ e] at hs
      cases hs
    · exact absurd (hx.symm.trans hex) (by simp)
end
end CC
set_option maxHeartbeats 4000000
/-! CCStr: s.index(y) where y is in s. -/
namespace CC
open PySem PySem.Spec PyProof.Rows L2
def rStrIdx : V → List V → Hp → VK → Prop := fun x xs H Q => ∃ (a b : Str) (k : Nat), x = .str a ∧ xs = [.str b] ∧ Txt.index0 a b = some k ∧ Q (.int k) H
theorem mt_strIdx {X : Cx} : MtR X "str.index" rStrIdx := by
  intro pins s σ H x xs v us Q I rx rs h
  obtain ⟨a, b, k, rfl, rfl, hk, w⟩ := h
  obtain ⟨t, rfl⟩ := rx
  cases rs with
  | cons r1 rs =>
    cases rs
    obtain ⟨u, rfl⟩ := r1
    cases q : Builtin.Str.occurrences a b 0 a.length 1 with
    | nil =>
      unfold Txt.index0 at hk
      rw [q] at hk
      cases hk
    | cons k' rest =>
      have : Txt.index0 a b = some k' := by unfold Txt.index0; rw [q] <;> rfl
      rw [hk] at this
      cases this
      exact PySem.SC.index q ⟨.int (k : Nat), H, I.tok _, ⟨_, rfl⟩, w⟩
def tSIdx (to te : TE) : TE := fun σ H Q => to σ H fun x H1 => (∃ a : Str, x = .str a) ∧ te σ H1 fun y H2 => ∃ (a b : Str) (k : Nat), x = .str a ∧ y = .str b ∧ Txt.index0 a b = some k ∧ Q (.int k) H2
theorem pe_sidx {X : Cx} {o e : Expr} {to te : TE} {apos pos : Pos} (ho : PE X o to) (he : PE X e te) (hs : starEach [e] X.env = [(false, eval e X.env)] := by rfl) (hbase : attributeBase o "index" X.env (eval o X.env) = eval o X.env := by rfl) (hline : (apos.endLine == pos.line) = true := by rfl) :
    PE X (.Call (.Attribute o "index" apos) [e] [] pos) (tSIdx to te) :=
  impPE (pe_m1 PySem.F.slot_str_index PySem.F.type_str_index mt_strIdx (upPE ho) (upPE he) hs hbase hline) fun σ H Q q => ⟨_, q, fun x H1 ⟨hx, q1⟩ => ⟨hx, _, q1, fun y H2 ⟨a, b, k, e1, e2, h, q2⟩ => ⟨a, b, k, e1, by rw [e2], h, q2⟩⟩⟩
end CC
set_option maxHeartbeats 4000000
/-! CCLam: a lambda of one name, handed to a method that calls it. -/
namespace CC
open PySem PySem.Spec PyProof.Rows L2 LamX NdefX
/-- the lambda's words as a nested function's -/
abbrev lamF (q : Str) (params : Arguments) (scope : Scope) (cl : List (Str × Addr)) (c : Addr) : NF := ⟨"<lambda>", q, params, [], scope, cl, c⟩
theorem lam_run {P : Program} {w : World} {K : PySem.W.Frag} {mg : Str → Option Value} {base : Heap} {N fr : List Str} {a q : Str} {params : Arguments} {body : Expr} {scope : Scope} {cl : List (Str × Addr)} {pm ctv : Value} {f c' : Addr} {A : Around} {outer : List Env} {s : Shared} {H : Hp} {u : Value} {v : V} {ws : List (Option V)} {Q : VK} {k : Nat} {tb : TE}
    (S : NScope N [a] fr scope) (hbind : ∀ (q : Str) (cl : List (Str × Addr)) (pm cv ctv u : Value), bindArgs (PySem.W.kla_fn "<lambda>" q params body scope cl pm cv ctv) ⟨[u], []⟩ = pure [(a, u)])
    (hr : Room (k + 1) A) (e0 : Env0 P w K mg base A outer s H) (ho : s.heap.get? f = some (PySem.W.kla_obj "<lambda>" q params body scope cl pm c' ctv)) (hc : H c' = some (CodeO c' q)) (C : CellsAt cl fr ws s.heap H) (rv : L2.RelV v u)
    (hb : Room k (A.deeper (envF (lamF q params scope cl c') f s.heap.objs.size)) → PE (ncx C8.CX0 P w K mg base N (lamF q params scope cl c') f A outer s H E0) body tb) (ht : tb (startF N [v] ws) H Q) :
    codeAny (model P w) A (.call (.ref f) ⟨[u], []⟩) (CR C8.CX0 outer P w H s Q E0) s := by
  have lim : s.heap.NoLimit := e0.mod.nolimit.keeps fun b o e => (e0.bs b o e).1
  refine PySem.W.kla_callFunE hr.depth ho rfl S.co S.gen rfl (codeO_at e0.hok hc) ?_
  rw [hbind]
  refine wpAny_pure (wpAny_newFunctionEnv S.nocell (fun ⟨n, x⟩ hy => S.par n (by have := List.mem_singleton.mp hy; cases this; simp)) (fun h₁ hns hsb => ⟨lim.fresh _ hsb, ?_⟩) S.kind)
  show codeAny _ _ (.expr body (envF (lamF q params scope cl c') f s.heap.objs.size)) _ _
  have kp : ∀ b o, s.heap.get? b = some o → h₁.get? b = some o := fun b o e => hsb.extBut b o (Nat.ne_of_lt (Heap.lt_size e)) (Heap.get?_push_of_some _ e)
  have I : Inv (ncx C8.CX0 P w K mg base N (lamF q params scope cl c') f A outer s H E0) [] (startF N [v] ws) H { s with heap := h₁, toks := s.toks + [(a, u)].length } := inv_startN (us := [u]) S hr.hd e0 rfl (.cons rv .nil) C hns kp
  refine PySem.W.kla_codeExpr (wpAny_mono ((hb (hr.deeper _)).run [] _ _ H Q I ht) (fun v s' hq => ?_) fun e s' hq => hq)
  obtain ⟨w', H', J', rv, q⟩ := hq
  exact ⟨w', H', J'.os, J'.bare, J'.base, J'.hok, rv, q⟩
theorem CellsAt.later2 {X : Cx} {pins : List (Addr × Obj)} {σ : L2.St} {H : Hp} {s : Shared} {cl : List (Str × Addr)} {fr : List Str} {ws : List (Option V)} (C : CellsAt cl fr ws X.s_0.heap X.H_0) (hx : X.ex = []) (I : Inv X pins σ H s) : CellsAt cl fr ws s.heap H := by
  have kp : ∀ y c, cl.lookup y = some c → ∀ v, X.s_0.heap.IsCell c v → s.heap.IsCell c v := fun y c e v ⟨o, ho, hd⟩ => by
    obtain ⟨sl, q⟩ := I.base.any ho (C.all y c e).1 (by rw [hx]; simp)
    exact ⟨_, q, hd⟩
  refine ⟨C.len, fun y c e => ?_, C.inj, fun i y e => ?_⟩
  · obtain ⟨n, v, z⟩ := C.all y c e
    refine ⟨?_, v, kp y c e v z⟩
    obtain ⟨o, ho, _⟩ := z
    exact I.base.free c o ho n (by rw [hx]; simp)
  · obtain ⟨c, hc, hv⟩ := C.has i y e
    refine ⟨c, hc, fun v ev => ?_⟩
    obtain ⟨u, r, z⟩ := hv v ev
    exact ⟨u, r, kp y c hc _ z⟩
/-- a(e), a local name that holds the lambda -/
def tAct (i : Nat) (f : Addr) (tl : V → Hp → VK → Prop) (te : TE) : TE := fun σ H Q => σ[i]? = some (some (.ref f)) ∧ te σ H fun v H1 => tl v H1 Q
def tlLam (N : List Str) (ws : List (Option V)) (q : Str) (c' : Addr) (tb : TE) : V → Hp → VK → Prop := fun v H Q => H c' = some (CodeO c' q) ∧ tb (startF N [v] ws) H Q
theorem pe_act1 {Z : Cx} {N fr : List Str} {a x q : Str} {params : Arguments} {body : Expr} {scope : Scope} {cl : List (Str × Addr)} {pm ctv : Value} {f c' : Addr} {ws : List (Option V)} {i j k : Nat} {e : Expr} {te tb : TE} {p1 p2 : Pos}
    (S : NScope N [a] fr scope) (hbind : ∀ (q : Str) (cl : List (Str × Addr)) (pm cv ctv u : Value), bindArgs (PySem.W.kla_fn "<lambda>" q params body scope cl pm cv ctv) ⟨[u], []⟩ = pure [(a, u)])
    (hex : Z.ex = []) (ho : Z.s_0.heap.get? f = some (PySem.W.kla_obj "<lambda>" q params body scope cl pm c' ctv)) (hf0 : Z.H_0 f = none) (hfr : f ∉ Z.fs) (C : CellsAt cl fr ws Z.s_0.heap Z.H_0)
    (hr : Room j Z.A) (hle : k + 1 ≤ j) (hb : ∀ (A : Around) (outer : List Env) (s : Shared) (H : Hp), Room k (A.deeper (envF (lamF q params scope cl c') f s.heap.objs.size)) → PE (ncx C8.CX0 Z.prog Z.w Z.K Z.mg Z.base N (lamF q params scope cl c') f A outer s H E0) body tb)
    (hN : Z.N[i]? = some x) (hv : Vis Z.env.scope x) (he : PE Z e te) (hd : (x == ("__debug__" : Str)) = false := by decide) (hcd : (x == ("__classdict__" : Str)) = false := by decide) (hst : starEach [e] Z.env = (false, eval e Z.env) :: starEach [] Z.env := by rfl) :
    PE Z (.Call (.Name x p1) [e] [] p2) (tAct i f (tlLam N ws q c' tb) te) := by
  refine ⟨fun pins s σ H Q I h => ?_⟩
  obtain ⟨hs, ht⟩ := h
  refine wpAny_Call_Name_kw (thn ((pe_var (pos := p1) hN hv hd hcd).run pins s σ H (fun v H1 => v = .ref f ∧ H1 = H) I ⟨.ref f, hs, rfl, rfl⟩) fun u s1 ⟨v, H1, I1, r1, q1⟩ => ?_)
  obtain ⟨ev, eH⟩ := q1
  subst ev
  rw [eH] at I1
  obtain rfl : u = Value.ref f := r1
  have obj : ∀ {pins' s' H'}, Inv Z pins' σ H' s' → s'.heap.get? f = some (PySem.W.kla_obj "<lambda>" q params body scope cl pm c' ctv) := fun {pins' s' H'} I' => I'.base.keep f _ ho hf0 hfr (by rw [hex]; simp)
  refine PySem.W.callWith_F (first := []) ⟨_, _, _, _, obj I1⟩ (thn ((pa_cons he pa_nil hst).run p2 pins s1 σ H (fun vs H2 => match vs with | [v] => tlLam N ws q c' tb v H2 Q | _ => False) I1 ht) fun us s2 ⟨vs, H2, I2, r, hq0⟩ => ⟨⟨_, _, _, _, obj I2⟩, ?_⟩) hst rfl
  cases r with
  | nil => exact False.elim hq0
  | cons rv r0 =>
    cases r0 with
    | cons _ _ => exact False.elim hq0
    | nil =>
      obtain ⟨h1, h2⟩ := hq0
      have C2 := CellsAt.later2 C hex I2
      refine wpAny_call (codeAny_mono (lam_run S hbind (hr.mono hle) I2.env0 (obj I2) h1 C2 rv (fun hr' => hb _ _ _ _ hr') h2) fun r s' hq => ?_)
      cases r with
      | error e => exact (show False from hq).elim
      | ok fl =>
        cases fl with
        | ret u => exact I2.after hq
        | next => exact False.elim hq
        | brk => exact False.elim hq
        | cont => exact False.elim hq
/-- the code object of the def at f, and its table at P -/
def TabF (K : PySem.W.Frag) (base : Heap) (mg : Str → Option Value) (f P : Addr) : Prop := ∀ (oc : Value) (od : Option Addr) (x qual : Str) (params : Arguments) (body : List Stmt) (scope : Scope) (dV kV doc pm : Value) (an : Option Addr) (cdv ct : Value) (osl : Array (Option Value)),
  K.lookup f = some ⟨oc, od, .func (PySem.W.fnOf x qual params body scope dV kV doc pm an cdv ct), osl⟩ → ∃ c, cdv = .ref c ∧ LamX.TabB base mg c P
theorem mk0C {P : Program} {w : World} {K : PySem.W.Frag} {mg : Str → Option Value} {base : Heap} {x qual : Str} {st : Stmt} {f Pt : Addr} {N ps : List Str} {k : Nat} {sp : Sp} (D : ∃ fd, Fun K x qual st f fd) (TF : TabF K base mg f Pt) (S : FnScope N ps (defScope st))
    (bd : ∀ (kV doc pm : Value) (an : Option Addr) (cdv ct : Value) (us : List Value), us.length = ps.length → bindArgs (PySem.W.fnOf x qual (defArgs st) (defBody st) (defScope st) .none kV doc pm an cdv ct) ⟨us, []⟩ = pure (ps.zip us))
    (len : ∀ vs H Q E, sp vs H Q E → vs.length = ps.length)
    (hb : ∀ (cd : Addr) (A : Around) (outer : List Env) (s : Shared) (H : Hp) (vs : List V) (Q : VK) (E : XK), LamX.TabB base mg cd Pt → Room k (A.deeper (envOfC qual (defScope st) s.heap.objs.size f (.ref cd))) → sp vs H Q E →
      ∃ t, PSs (cxOf CX0 P w K mg base N qual (defScope st) f (.ref cd) A outer s H E).nox (defBody st) t ∧ t { nx := fun _ H' => Q .non H', rt := Q } (start N vs) H) : OkF P w K mg base CX0 (k + 1) f ps sp := by
  obtain ⟨fd, F⟩ := D
  refine ⟨fd, ?_, F.binds bd⟩
  obtain ⟨oc, od, kV, doc, pm, an, cdv, ct, osl, rfl, lk, hcd⟩ := F.ex
  obtain ⟨c, rfl, TB⟩ := TF _ _ _ _ _ _ _ _ _ _ _ _ _ _ _ lk
  refine fn_of lk hcd S len fun A outer s H vs Q E hr hsp => ?_
  obtain ⟨t, h, q⟩ := hb c A outer s H vs Q E TB hr hsp
  exact ⟨t, h.nox, q⟩
/-- what a method with a second name makes of what it is handed: act is the reading of its call -/
def Handed (P : Program) (w : World) (K : PySem.W.Frag) (mg : Str → Option Value) (base : Heap) (k : Nat) (g : Addr) (qual : Str) (st : Stmt) (Ng : List Str) (i : Nat) (x : Str) (TT : (V → Hp → VK → Prop) → Addr → V → Hp → VK → Prop) : Prop :=
  ∀ (cdv : Value) (A : Around) (outer : List Env) (s : Shared) (H : Hp) (Q : VK) (f : Addr) (v : V) (tl : V → Hp → VK → Prop), Room k (A.deeper (envOfC qual (defScope st) s.heap.objs.size g cdv)) →
    (∀ (e : Expr) (te : TE) (p1 p2 : Pos), PE (cxOf C8.CX0 P w K mg base Ng qual (defScope st) g cdv A outer s H E0).nox e te → starEach [e] (cxOf C8.CX0 P w K mg base Ng qual (defScope st) g cdv A outer s H E0).nox.env = (false, eval e (cxOf C8.CX0 P w K mg base Ng qual (defScope st) g cdv A outer s H E0).nox.env) :: starEach [] (cxOf C8.CX0 P w K mg base Ng qual (defScope st) g cdv A outer s H E0).nox.env →
      PE (cxOf C8.CX0 P w K mg base Ng qual (defScope st) g cdv A outer s H E0).nox (.Call (.Name x p1) [e] [] p2) (tAct i f tl te)) →
    TT tl f v H Q → ∃ t, PSs (cxOf C8.CX0 P w K mg base Ng qual (defScope st) g cdv A outer s H E0).nox (defBody st) t ∧ t { nx := fun _ H' => Q .non H', rt := Q } (L2.start Ng [v, .ref f]) H
/-- o.m(lambda a: body) -/
def tLamM (T : List (Addr × Str)) (C : Addr) (m q : Str) (N : List Str) (js : List Nat) (TT : (V → Hp → VK → Prop) → Addr → V → Hp → VK → Prop) (ta tb : TE) : TE := fun σ H Q => ta σ H fun x H1 => ∃ a dx fs, x = .ref a ∧ H1 a = some (.ins C dx fs) ∧ fs.lookup m = none ∧ Tabs T H1 ∧
  ∀ (f c' : Addr) (H2 : Hp), ExtN H1 H2 → Tabs T H2 → H2 c' = some (CodeO c' q) → TT (tlLam N (js.map (slotAt σ)) q c' tb) f (.ref a) H2 Q
theorem pe_lamMeth {X : Cx} {T : List (Addr × Str)} {C g c Pt : Addr} {j k k2 i : Nat} {a m x qual nm : Str} {st : Stmt} {N Ng fr ps : List Str} {js : List Nat} {TT : (V → Hp → VK → Prop) → Addr → V → Hp → VK → Prop} {params : Arguments} {body o : Expr} {scope : Scope} {ta tb : TE} {pl : Sem Bool} {lpos apos pos : Pos}
    (cl0 : Cls X.K C) (hm : Meth X.K C m g) (D : ∃ fd, Fun X.K nm qual st g fd) (Sg : FnScope Ng ps (defScope st)) (hps : ps.length = 2) (hNg : Ng[i]? = some x) (hvx : Vis (defScope st) x)
    (bd : ∀ (kV doc pm : Value) (an : Option Addr) (cdv ct : Value) (us : List Value), us.length = ps.length → bindArgs (PySem.W.fnOf nm qual (defArgs st) (defBody st) (defScope st) .none kV doc pm an cdv ct) ⟨us, []⟩ = pure (ps.zip us))
    (hG : Handed X.prog X.w X.K X.mg X.base k g qual st Ng i x TT)
    (TB : LamX.TabB X.base X.mg c Pt) (hcode : X.env.code = .ref c) (hmT : (Pt, X.env.qual ++ "<lambda>") ∈ T) (hu : ∀ p ∈ T, p.1 = Pt → p.2 = X.env.qual ++ "<lambda>") (hr : Room j X.A) (hle : k + 1 ≤ j) (hle2 : k2 + 1 ≤ k) (S : NScope N [a] fr scope) (hnd : ndefB X.env.scope scope fr = true) (hjs : js.map (fun j => X.N[j]?) = fr.map some)
    (hdef : defaultsOf params X.env = ([], [])) (hbind : ∀ (q : Str) (cl : List (Str × Addr)) (pm cv ctv u : Value), bindArgs (PySem.W.kla_fn "<lambda>" q params body scope cl pm cv ctv) ⟨[u], []⟩ = pure [(a, u)])
    (hb : ∀ (A : Around) (outer : List Env) (s : Shared) (H : Hp) (f c' : Addr) (cl : List (Str × Addr)), Room k2 (A.deeper (envF (lamF (X.env.qual ++ "<lambda>") params scope cl c') f s.heap.objs.size)) → PE (ncx C8.CX0 X.prog X.w X.K X.mg X.base N (lamF (X.env.qual ++ "<lambda>") params scope cl c') f A outer s H E0) body tb)
    (he : PE X o ta) (hd : (x == ("__debug__" : Str)) = false := by decide) (hcd : (x == ("__classdict__" : Str)) = false := by decide)
    (ht : eval (.Call (.Attribute o m apos) [.Lambda params body scope lpos] [] pos) X.env = (do
      let ov ← eval o X.env; standAt apos.atName
      let (f, first) ← holding [ov] (getMethod ov m pl); callWith pos f first (backTo pos (starEach [.Lambda params body scope lpos] X.env)) (backToKw pos (keywordEach [] X.env))) := by rfl) :
    PE X (.Call (.Attribute o m apos) [.Lambda params body scope lpos] [] pos) (tLamM T C m (X.env.qual ++ "<lambda>") N js TT ta tb) := by
  have hfree := ndef_free hnd
  have hfr := ndef_fr hnd
  refine ⟨fun pins s σ H Q I h => PySem.W.methodCall_KW (pl := pl) (thn (he.run pins s σ H _ I h) fun u s1 ⟨x', H1, I1, rx, a', dx, fs, ex, ea, l, hT, q⟩ => ?_) ht⟩
  subst ex
  cases rx
  refine getmeth_ok I1 ea cl0 hm l ?_
  refine PySem.W.callWith_K (h₀ := X.base) (first := [.ref a']) I1.ok.mod.kin hm.kp ?_ (by rfl) (by rfl)
  show wpAny _ _ (spliced ((false, eval (.Lambda params body scope lpos) X.env) :: backTo pos (starEach [] X.env))) _ _ s1
  have hcap : ∀ y ∈ scope.names, y.2 = .free → ∃ c, X.env.cells.lookup y.1 = some c := fun y hy e => (hfree y hy e).elim (fun z => I1.ok.has _ (.inl z)) fun z => I1.ok.has _ (.inr z)
  refine Calls.spliced_cons (lam_make2 I1 TB hcode hmT hu hT hdef hcap fun f c' pm' ctv H2 s' I2 eN T2 hf hfn hfrs hco => ?_)
  refine Calls.spliced_nil ⟨I2.kIn, ?_⟩
  have C2 := cells_of I2 (Caps.made I2.ok hfree hfr hjs)
  obtain ⟨fd, F⟩ := D
  have hbb := F.binds bd
  obtain ⟨oc, od, kV, doc, pm, an, cdv, ct, osl, rfl, lk, hcd2⟩ := F.ex
  have rc : codeAny (model X.prog X.w) X.A (.call (.ref g) ⟨[.ref a', .ref f], []⟩) (CR C8.CX0 X.stack X.prog X.w H2 s' Q E0) s' := by
    have hb2 := hbb s' [.ref a', .ref f] I2.kIn (by simp [hps])
    rw [List.append_nil] at hb2
    refine run_ofS (k := k) (N := Ng) (ps := ps) (us := [.ref a', .ref f]) (vs := [.ref a', .ref f]) lk hcd2 Sg (hr.mono hle) I2.env0 hb2 (.cons rfl (.cons rfl .nil)) (by simp [hps]) fun hr' => ?_
    obtain ⟨t', ht', hq'⟩ := hG cdv X.A X.stack s' H2 Q f (.ref a') _ hr' (fun e te p1 p2 he hst => pe_act1 (Z := (cxOf C8.CX0 X.prog X.w X.K X.mg X.base Ng qual (defScope st) g cdv X.A X.stack s' H2 E0).nox) (k := k2) S hbind rfl hf hfn hfrs C2 hr' hle2 (fun A outer s H hr2 => hb A outer s H f c' _ hr2) hNg hvx he hd hcd hst) (q f c' H2 eN T2 hco)
    exact ⟨t', ht'.nox, hq'⟩
  refine wpAny_call (codeAny_mono rc fun r s2 hq => ?_)
  cases r with
  | error e => exact (show False from hq).elim
  | ok fl =>
    cases fl with
    | ret u => exact I2.after hq
    | next => exact False.elim hq
    | brk => exact False.elim hq
    | cont => exact False.elim hq
end CC
set_option maxHeartbeats 4000000
/-! CCLD: a dict whose keys are layouts. -/
namespace CC
open PySem PySem.Spec PyProof.Rows L2
def nkO : Option Str → NestedKey
  | none => .none
  | some z => .text z
def nk (l : Lay) : NestedKey := .tup (l.map nkO)
theorem nkO_inj {a b : Option Str} (h : nkO a = nkO b) : a = b := by
  cases a <;> cases b <;> simp_all [nkO]
theorem nk_inj {l m : Lay} (h : nk l = nk m) : l = m := by
  have h := NestedKey.tup.inj h
  exact List.map_inj_right (fun a b => nkO_inj) |>.mp h
/-- an entry: the layout, where its key stands, where its value stands -/
abbrev LEnt := Lay × Addr × Addr
def entL (x : LEnt) : NestedKey × Addr × Value := (nk x.1, x.2.1, .ref x.2.2)
def DLo (P : Program) (w : World) (d : Addr) (xs : List LEnt) : HO := .ext fun h => ∃ o es ep, h.get? d = some o ∧ o.ExactDict ∧ o.data = .dict es ep ∧ es.toList = (xs.map entL).map (entryOfKey (nestedKind P w)) ∧ ((xs.map entL).map (·.1)).Nodup
structure DL (P : Program) (w : World) (H : Hp) (d : Addr) (xs : List LEnt) : Prop where
  at_ : H d = some (DLo P w d xs)
  big : (d == sysModules) = false
  sz : xs.length ≤ 1000000
  ks : ∀ x, x ∈ xs → LayAt H x.2.1 x.1 ∧ x.1.length ≤ 1000
theorem nk_depth (l : Lay) : (nk l).depth ≤ 8 := by
  have : ∀ l : Lay, NestedKey.depthAll (l.map nkO) ≤ 1 := fun l => by
    induction l with
    | nil => simp [NestedKey.depthAll]
    | cons a r ih => cases a <;> simp [NestedKey.depthAll, NestedKey.depth, nkO] <;> omega
  have h := this l
  simp only [nk, NestedKey.depth]
  omega
theorem nested_all {h : Heap} : ∀ {l : Lay} {its : List Value}, Vals (l.map layV) its → NestedAll h (l.map nkO) its
  | [], _, r => by cases r; exact .nil
  | a :: l, _, r => by
    cases r with
    | cons r1 rs =>
      refine .cons ?_ (nested_all rs)
      cases a with
      | none => cases r1; exact .none
      | some z => obtain ⟨t, rfl⟩ := r1; exact .text z t
section
variable {X : Cx} {pins : List (Addr × Obj)} {σ : L2.St} {H : Hp} {s : Shared} {d b : Addr} {xs : List LEnt} {l : Lay}
theorem keyL (I : Inv X pins σ H s) (h : LayAt H b l) : (nestedKind X.prog X.w).is s.heap (nk l) b := by
  obtain ⟨its, r, ⟨o, h1, h2, n, h3⟩, _⟩ := I.tuple (sqT_of h)
  exact ⟨.tup h1 h2 h3 (by simpa using nested_all r), nk_depth l⟩
theorem dl_of (I : Inv X pins σ H s) (D : DL X.prog X.w H d xs) : s.heap.DictOfH (nestedKind X.prog X.w) d (xs.map entL) := by
  obtain ⟨⟨o, es, ep, h1, h2, h3, h4, h5⟩, _⟩ := I.hok d _ D.at_
  refine ⟨o, es, ep, h1, h2, h3, h4, fun x hx => ?_, h5⟩
  obtain ⟨y, hy, rfl⟩ := List.mem_map.mp hx
  exact keyL I (D.ks y hy).1
end
def getL (xs : List LEnt) (l : Lay) : Option (Addr × Addr) := (xs.find? fun x => decide (x.1 = l)).map (·.2)
def putL (xs : List LEnt) (l : Lay) (b v : Addr) : List LEnt := if (getL xs l).isSome then xs.map (fun x => if x.1 = l then (x.1, x.2.1, v) else x) else xs ++ [(l, b, v)]
def delL (xs : List LEnt) (l : Lay) : List LEnt := xs.filter fun x => decide (x.1 ≠ l)
theorem nk_eq {l m : Lay} : (nk l = nk m) = (l = m) := propext ⟨nk_inj, fun h => by rw [h]⟩
theorem at_getL (xs : List LEnt) (l : Lay) : atKey (xs.map entL) (nk l) = (getL xs l).map (fun p => (p.1, Value.ref p.2)) := by
  induction xs with
  | nil => rfl
  | cons a r ih =>
    unfold atKey getL at ih ⊢
    rw [List.map_cons, List.find?_cons, List.find?_cons]
    rw [show decide ((entL a).1 = nk l) = decide (a.1 = l) from decide_eq_decide.mpr ⟨nk_inj, fun h => by rw [← h]; rfl⟩]
    cases decide (a.1 = l) with
    | true => rfl
    | false => exact ih
theorem stored_putL (xs : List LEnt) (l : Lay) (b v : Addr) : storedH (xs.map entL) (nk l) b (.ref v) = (putL xs l b v).map entL := by
  unfold storedH putL
  rw [at_getL, Option.isSome_map]
  split
  · rw [List.map_map, List.map_map]
    refine List.map_congr_left fun x _ => ?_
    show putAt (nk l) (.ref v) (entL x) = entL (if x.1 = l then (x.1, x.2.1, v) else x)
    unfold putAt
    by_cases h : x.1 = l
    · rw [if_pos h, if_pos (show (entL x).1 = nk l by rw [← h]; rfl)]
      rfl
    · rw [if_neg h, if_neg (show ¬ (entL x).1 = nk l from fun z => h (nk_inj z))]
  · simp [entL]
theorem without_delL (xs : List LEnt) (l : Lay) : withoutH (xs.map entL) (nk l) = (delL xs l).map entL := by
  unfold withoutH delL
  rw [List.filter_map]
  congr 1
  refine List.filter_congr fun x _ => ?_
  show decide (nk x.1 ≠ nk l) = decide (x.1 ≠ l)
  simp only [ne_eq, nk_eq]
section
variable {X : Cx} {pins : List (Addr × Obj)} {σ : L2.St} {H : Hp} {s : Shared} {d b v : Addr} {xs ys : List LEnt} {l : Lay} {A : Around} {E : Value → Shared → Prop}
theorem nroom {A : Around} (hu : A.units + 16 < cLine) : A.in1.units + 8 < cLine := by
  have : A.in1.units = A.units + 1 := rfl
  omega
theorem dlo_ok {P : Program} {w : World} {H' : Hp} {h' : Heap} (dd : h'.DictOfH (nestedKind P w) d (ys.map entL)) : ObjOk P w H' h' d (DLo P w d ys) := by
  obtain ⟨o, es, ep, h1, h2, h3, h4, _, h5⟩ := dd
  exact ⟨⟨o, es, ep, h1, h2, h3, h4, h5⟩, ⟨o, h1⟩, fun g1 g2 ⟨o', es', ep', a1, a2, a3, a4, a5⟩ k => ⟨o', es', ep', k _ a1, a2, a3, a4, a5⟩⟩
theorem dl_write {h' : Heap} {t' : Nat} (I : Inv X pins σ H s) (D : DL X.prog X.w H d xs) (hs : Heap.SameBut d s.heap h') (dd : h'.DictOfH (nestedKind X.prog X.w) d (ys.map entL)) : Inv X pins σ (upd H d (DLo X.prog X.w d ys)) { s with heap := h', toks := t' } :=
  d_write I (by rw [D.at_]; exact True.intro) hs (let ⟨o, _, _, h1, _⟩ := dd; ⟨o, h1⟩) (dlo_ok dd)
theorem DL.tup {P : Program} {w : World} (D : DL P w H d xs) {o : HO} : Tup H (upd H d o) := (Kp.set (s := d) (H := H) (o := o)).tup (fun xs z => by rw [D.at_] at z; cases z) (fun xs z => by rw [D.at_] at z; cases z) (fun o u z => by rw [D.at_] at z; cases z)
theorem DL.put {P : Program} {w : World} (D : DL P w H d xs) (hb : LayAt H b l) (hl : l.length ≤ 1000) (hz : xs.length < 1000000) : DL P w (upd H d (DLo P w d (putL xs l b v))) d (putL xs l b v) := by
  refine ⟨upd_same, D.big, ?_, fun x hx => ?_⟩
  · unfold putL
    split
    · rw [List.length_map]; omega
    · rw [List.length_append, List.length_singleton]; omega
  · unfold putL at hx
    split at hx
    · obtain ⟨y, hy, e⟩ := List.mem_map.mp hx
      have := D.ks y hy
      split at e
      · subst e; exact ⟨this.1.mono D.tup, this.2⟩
      · subst e; exact ⟨this.1.mono D.tup, this.2⟩
    · rcases List.mem_append.mp hx with z | z
      · exact ⟨(D.ks x z).1.mono D.tup, (D.ks x z).2⟩
      · rw [List.mem_singleton.mp z]
        exact ⟨hb.mono D.tup, hl⟩
theorem DL.del {P : Program} {w : World} (D : DL P w H d xs) : DL P w (upd H d (DLo P w d (delL xs l))) d (delL xs l) :=
  ⟨upd_same, D.big, Nat.le_trans (List.length_filter_le _ _) D.sz, fun x hx => ⟨(D.ks x (List.mem_filter.mp hx).1).1.mono D.tup, (D.ks x (List.mem_filter.mp hx).1).2⟩⟩
end
/-! ### rules -/
section
variable {X : Cx}
/-- {} -/
def tDNewL (P : Program) (w : World) : TE := fun _ H Q => ∀ p, H p = none → DL P w (upd H p (DLo P w p [])) p [] → Q (.ref p) (upd H p (DLo P w p []))
theorem pe_dnewL {pos : Pos} : PE X (.Dict [] [] pos) (tDNewL X.prog X.w) := ⟨fun pins s σ H Q I h => by
  have hn := I.hok.fresh (Nat.le_refl s.heap.objs.size)
  have big : (s.heap.objs.size == sysModules) = false := beq_eq_false_iff_ne.mpr (Ne.symm (Nat.ne_of_lt I.big))
  have I1 := I.laid (a := s.heap.objs.size) (o := DLo X.prog X.w s.heap.objs.size []) (h' := s.heap.push { cls := .type "dict", data := .dict #[] }) (t' := s.toks) (fun _ _ q => Heap.get?_push_of_some _ q) (Nat.le_refl _) (dlo_ok (ys := []) (Heap.DictOfH.new s.heap))
  exact wpAny_Dict_empty ⟨.ref s.heap.objs.size, _, I1, rfl, h _ hn ⟨upd_same, big, Nat.zero_le _, fun x hx => (nomatch hx)⟩⟩⟩
/-- k in d, k not in d -/
def rDLIn (P : Program) (w : World) (neg : Bool) : R2 := fun x y H Q => ∃ (b d : Addr) (xs : List LEnt) (l : Lay), x = .ref b ∧ y = .ref d ∧ DL P w H d xs ∧ LayAt H b l ∧ Q (.bl (if neg then !(getL xs l).isSome else (getL xs l).isSome)) H
theorem op_notInL (hu : X.A.units + 16 < cLine) : OpR X (compareOp .NotIn) (rDLIn X.prog X.w true) := by
  intro pins s σ H x y v u Q I rx ry ⟨b, d, xs, l, ex, ey, D, hb, q⟩
  subst ex ey
  cases rx
  cases ry
  refine wpAny_notIn_heap (nroom hu) (keyL I hb) D.big (dl_of I D) ?_
  rw [at_getL, Option.isSome_map]
  exact ⟨.bl (!(getL xs l).isSome), H, I.tok _, rfl, q⟩
/-- d[k] -/
def rDLGet (P : Program) (w : World) : R2 := fun x y H Q => ∃ (b d : Addr) (xs : List LEnt) (l : Lay) (kv : Addr × Addr), x = .ref d ∧ y = .ref b ∧ DL P w H d xs ∧ LayAt H b l ∧ getL xs l = some kv ∧ Q (.ref kv.2) H
/-- d[k] = v -/
def rSetL' (P : Program) (w : World) : TSet := fun o i v H Q => ∃ (b d c : Addr) (xs : List LEnt) (l : Lay), o = .ref d ∧ i = .ref b ∧ v = .ref c ∧ DL P w H d xs ∧ LayAt H b l ∧ xs.length < 1000000 ∧ Q (upd H d (DLo P w d (putL xs l b c)))
theorem set_dictL (hu : X.A.units + 16 < cLine) : PSet X (rSetL' X.prog X.w) := by
  intro pins s σ H o i v ov iv u Q I ro ri rv ⟨b, d, c, xs, l, e1, e2, e3, D, hb, hz, q⟩
  subst e1 e2 e3
  cases ro
  cases ri
  cases rv
  refine wpAny_setItem_heap (hsz := by rw [List.length_map, sizeLine_eq]; omega) (nroom hu) (keyL I hb) (dl_of I D) fun h' dd hs => ?_
  rw [stored_putL] at dd
  exact ⟨_, dl_write I D hs dd, q⟩
/-- d.pop(k) -/
def rPopL (P : Program) (w : World) : V → List V → Hp → VK → Prop := fun x ys H Q => ∃ (b d : Addr) (xs : List LEnt) (l : Lay) (kv : Addr × Addr), x = .ref d ∧ ys = [.ref b] ∧ DL P w H d xs ∧ LayAt H b l ∧ getL xs l = some kv ∧ Q (.ref kv.2) (upd H d (DLo P w d (delL xs l)))
theorem mt_popL (hu : X.A.units + 16 < cLine) : MtR X "dict.pop" (rPopL X.prog X.w) := by
  intro pins s σ H x ys v us Q I rx rxs ⟨b, d, xs, l, kv, e1, e2, D, hb, hg, q⟩
  subst e1 e2
  cases rx
  cases rxs with
  | cons r1 r0 =>
    cases r0
    cases r1
    refine call_pop_heap (hsz := by rw [List.length_map, sizeLine_eq]; have := D.sz; omega) (.inl rfl) (PySem.F.args_dict_pop_2 _ _) (nroom hu) (keyL I hb) D.big (dl_of I D) (p := (kv.1, .ref kv.2)) (by rw [at_getL, hg]; rfl) fun h' dd hs => ?_
    rw [without_delL] at dd
    exact ⟨.ref kv.2, _, dl_write I D hs dd, rfl, q⟩
/-- d.get(k, None) -/
def rGetL (P : Program) (w : World) : V → List V → Hp → VK → Prop := fun x ys H Q => ∃ (b d : Addr) (xs : List LEnt) (l : Lay), x = .ref d ∧ ys = [.ref b, .non] ∧ DL P w H d xs ∧ LayAt H b l ∧ Q (match getL xs l with | some kv => .ref kv.2 | none => .non) H
theorem mt_getL (hu : X.A.units + 16 < cLine) : MtR X "dict.get" (rGetL X.prog X.w) := by
  intro pins s σ H x ys v us Q I rx rxs ⟨b, d, xs, l, e1, e2, D, hb, q⟩
  subst e1 e2
  cases rx
  obtain ⟨u1, u2, rfl, r1, r2⟩ := vals2 rxs
  cases r1
  cases r2
  have hm := dl_of I D
  refine call_meetsIn PySem.F.slot_dict_get hm.typeIs PySem.F.entry_dict_get (PySem.F.args_dict_get_3 _ _ _) (meetsH_dict_get_default (nestedKind X.prog X.w) d b D.big .none) ⟨nroom hu, _, _, keyL I hb, hm, ?_⟩
  rw [at_getL]
  cases h : getL xs l with
  | none => rw [h] at q; exact ⟨.non, _, I.tok _, rfl, q⟩
  | some kv => rw [h] at q; exact ⟨.ref kv.2, _, I.tok _, rfl, q⟩
end
end CC
set_option maxHeartbeats 4000000
/-! CCLD2: d[k], d.get(k, x), d.pop(k), {k: v}, d != {} of a dict keyed by layouts. -/
namespace CC
open PySem PySem.Spec PyProof.Rows L2
section
variable {X : Cx} {pins : List (Addr × Obj)} {σ : L2.St} {H : Hp} {s : Shared} {d : Addr} {xs : List LEnt}
theorem dl_type (I : Inv X pins σ H s) (D : DL X.prog X.w H d xs) : s.TypeIs (.ref d) "dict" ∧ ∀ b, Value.ref d = .ref b → ∃ ob, s.heap.get? b = some ob ∧ ob.dict = none := by
  have dd := dl_of I D
  refine ⟨dd.typeIs, fun b q => ?_⟩
  cases q
  obtain ⟨ob, _, _, h1, h2, _⟩ := dd
  exact ⟨ob, h1, h2.2.1⟩
end
section
variable {X : Cx} {o i e f : Expr} {pos apos cpos : Pos} {td ty tx : TE}
def tLSub (P : Program) (w : World) (td ty : TE) : TE := fun σ H Q => td σ H fun x H1 => ty σ H1 fun y H2 => ∃ (b d : Addr) (xs : List LEnt) (l : Lay) (kv : Addr × Addr), x = .ref d ∧ y = .ref b ∧ DL P w H2 d xs ∧ LayAt H2 b l ∧ getL xs l = some kv ∧ Q (.ref kv.2) H2
theorem pe_lsub (hu : X.A.units + 16 < cLine) (ho : PE X o td) (hi : PE X i ty) (hs : NoSl i) : PE X (.Subscript o i pos) (tLSub X.prog X.w td ty) := by
  refine ⟨fun pins s σ H Q I h => ?_⟩
  refine subD_of PySem.F.slot_dict_getitem.lookup hs (thn (ho.run pins s σ H _ I h) fun u s1 ⟨x, H1, I1, rx, q1⟩ => thn (hi.run pins s1 σ H1 _ I1 q1) fun iv s2 ⟨y, H2, I2, ry, b, d, xs, l, kv, ex, ey, D, hb, hg, q2⟩ => ?_)
  subst ex ey
  cases rx
  cases ry
  refine ⟨(dl_type I2 D).1, wpAny_getItem_heap (nroom hu) (keyL I2 hb) (dl_of I2 D) (p := (kv.1, .ref kv.2)) (by rw [at_getL, hg]; rfl) ?_⟩
  exact ⟨.ref kv.2, H2, I2.tok _, rfl, q2⟩
def tLGet (P : Program) (w : World) (td ty : TE) : TE := fun σ H Q => td σ H fun x H1 => ∃ d xs0, x = .ref d ∧ DL P w H1 d xs0 ∧ ty σ H1 fun y H2 => ∃ (b : Addr) (xs : List LEnt) (l : Lay), y = .ref b ∧ DL P w H2 d xs ∧ LayAt H2 b l ∧ Q (match getL xs l with | some kv => .ref kv.2 | none => .non) H2
theorem pe_lget {cp : Pos} {kk : Nat} (hu : X.A.units + 16 < cLine) (ho : PE X o td) (he : PE X e ty) (m : M2 X o "get" apos e (.Constant .none kk cp) cpos) : PE X (.Call (.Attribute o "get" apos) [e, .Constant .none kk cp] [] cpos) (tLGet X.prog X.w td ty) := by
  refine ⟨fun pins s σ H Q I h => ?_⟩
  refine wpAny_Call_method m.base m.few m.line PySem.F.plainAttrs_dict PySem.F.slot_dict_get PySem.F.type_dict_get (thn (ho.run pins s σ H _ I h) fun u s1 ⟨x, H1, I1, rx, d, xs0, ex, D0, q1⟩ => ?_)
  subst ex
  cases rx
  obtain ⟨t1, t2⟩ := dl_type I1 D0
  refine ⟨t1, t2, ?_⟩
  rw [m.trees]
  refine Calls.callWith_builtin rfl (Calls.evalArgs_plain (Calls.spliced_cons (thn (he.run pins s1 σ H1 _ I1 q1) fun iv s2 ⟨y, H2, I2, ry, b, xs, l, ey, D, hb, q2⟩ =>
    Calls.spliced_cons (thn ((pe_non (X := X)).run pins s2 σ H2 (fun v H3 => v = .non ∧ H3 = H2) I2 ⟨rfl, rfl⟩) fun fv s3 ⟨z, H3, I3, rz, ez, e3⟩ => Calls.spliced_nil ?_))))
  subst ez e3 ey
  exact mt_getL hu pins s3 σ H3 (.ref d) [.ref b, .non] (.ref d) [iv, fv] Q I3 rfl (.cons ry (.cons rz .nil)) ⟨b, d, xs, l, rfl, rfl, D, hb, q2⟩
def tLPop (P : Program) (w : World) (td ty : TE) : TE := fun σ H Q => td σ H fun x H1 => ∃ d xs0, x = .ref d ∧ DL P w H1 d xs0 ∧ ty σ H1 fun y H2 => ∃ (b : Addr) (xs : List LEnt) (l : Lay) (kv : Addr × Addr), y = .ref b ∧ DL P w H2 d xs ∧ LayAt H2 b l ∧ getL xs l = some kv ∧ Q (.ref kv.2) (upd H2 d (DLo P w d (delL xs l)))
theorem pe_lpop (hu : X.A.units + 16 < cLine) (ho : PE X o td) (he : PE X e ty) (m : M1 X o "pop" apos e cpos) : PE X (.Call (.Attribute o "pop" apos) [e] [] cpos) (tLPop X.prog X.w td ty) := by
  refine ⟨fun pins s σ H Q I h => ?_⟩
  refine wpAny_Call_method m.base m.few m.line PySem.F.plainAttrs_dict PySem.F.slot_dict_pop PySem.F.type_dict_pop (thn (ho.run pins s σ H _ I h) fun u s1 ⟨x, H1, I1, rx, d, xs0, ex, D0, q1⟩ => ?_)
  subst ex
  cases rx
  obtain ⟨t1, t2⟩ := dl_type I1 D0
  refine ⟨t1, t2, ?_⟩
  rw [m.trees]
  refine Calls.callWith_builtin rfl (Calls.evalArgs_plain (Calls.spliced_cons (thn (he.run pins s1 σ H1 _ I1 q1) fun iv s2 ⟨y, H2, I2, ry, b, xs, l, kv, ey, D, hb, hg, q2⟩ => Calls.spliced_nil ?_)))
  subst ey
  exact mt_popL hu pins s2 σ H2 (.ref d) [.ref b] (.ref d) [iv] Q I2 rfl (.cons ry .nil) ⟨b, d, xs, l, kv, rfl, rfl, D, hb, hg, q2⟩
end
end CC
set_option maxHeartbeats 4000000
/-! CCLD3: for k, v in d.items() of a dict keyed by layouts. -/
namespace CC
open PySem PySem.Spec PyProof.Rows L2
section
variable {X : Cx} {pins : List (Addr × Obj)} {σ : L2.St} {H : Hp} {s : Shared} {d : Addr} {xs : List LEnt} {o : Obj} {es : Array DictEntry} {ep : Nat}
theorem frzL (I : Inv X pins σ H s) (hd : H d = some (.frz o (DLo X.prog X.w d xs))) : ∃ es ep, o.data = .dict es ep ∧ s.heap.DictRaw d es ep ∧ es.size = xs.length ∧ ∀ (i : Nat) (e : LEnt), xs[i]? = some e → ∃ hi : i < es.size, es[i].key = .ref e.2.1 ∧ es[i].val = .ref e.2.2 := by
  obtain ⟨h0, ⟨o', es, ep, h1, h2, h3, h4, h5⟩, _⟩ := I.hok d _ hd
  rw [h0] at h1
  cases h1
  have hs : es.size = xs.length := by
    have := congrArg List.length h4
    simpa using this
  refine ⟨es, ep, h3, ⟨o, h0, h2, h3⟩, hs, fun i e he => ?_⟩
  have hi : i < es.size := by rw [hs]; exact (List.getElem?_eq_some_iff.mp he).1
  refine ⟨hi, ?_⟩
  have h6 : es.toList[i]? = some (entryOfKey (nestedKind X.prog X.w) (entL e)) := by
    rw [h4, List.getElem?_map, List.getElem?_map, he]
    rfl
  have h7 : es[i] = entryOfKey (nestedKind X.prog X.w) (entL e) := by
    rw [Array.getElem?_toList, Array.getElem?_eq_getElem hi] at h6
    exact Option.some.inj h6
  rw [h7]
  exact ⟨rfl, rfl⟩
end
def ItiL (P : Program) (w : World) (d : Addr) (o : Obj) (xs : List LEnt) : It :=
  ⟨fun i H => H d = some (.frz o (DLo P w d xs)) ∧ i < xs.length, fun i H x H' => ∃ (T : Addr) (e : LEnt), xs[i]? = some e ∧ x = .ref T ∧ H T = none ∧ H' = upd H T (.tup [.ref e.2.1, .ref e.2.2]), fun i H => H d = some (.frz o (DLo P w d xs)) ∧ xs.length ≤ i⟩
theorem turn_itemsL {P : Program} {w : World} {K : PySem.W.Frag} {elts : List Expr} {kk : Nat} {tpos : Pos} {d : Addr} {o : Obj} {es : Array DictEntry} {ep : Nat} {xs : List LEnt} (it : Addr) (hod : o.data = .dict es ep) :
    Turn P w K (.Tuple elts kk tpos) (ItiL P w d o xs) [it] it (fun i h => ∃ ok ov, IsItemIter h it d i xs.length ep ok ov) where
  mem := by simp
  obj := fun i h st b hb => by
    have e : b = it := by simpa using hb
    subst e
    obtain ⟨ok, ov, e⟩ := st
    exact ⟨_, e, fun v z => nomatch z⟩
  keep := fun i h h' st k => let ⟨ok, ov, e⟩ := st; ⟨ok, ov, k it (by simp) _ e⟩
  item := by
    intro X hP hw hK hc i pins s σ H E I hf st hg
    subst hP hw hK
    obtain ⟨hd, hi⟩ := hg
    obtain ⟨es', ep', hdt, hraw, hsz, hent⟩ := frzL I hd
    obtain ⟨rfl, rfl⟩ := dict_ep hod hdt
    obtain ⟨e, he⟩ : ∃ p, xs[i]? = some p := ⟨xs[i], List.getElem?_eq_getElem hi⟩
    obtain ⟨hi', hk1, hv1⟩ := hent i e he
    obtain ⟨ok, ov, hit⟩ := st
    rw [← hsz] at hit
    have hlt : it < s.heap.objs.size := Heap.lt_size hit
    refine wpAny_pyNext_items_item_raw hit hraw hi' fun h' ho hT hz hk => ?_
    refine ⟨_, rfl, wpAny_letOwnedTupleGo_items (s := { s with heap := h' }) ho fun h'' he' sb => ?_⟩
    rw [hk1, hv1] at hT
    have hT2 : h''.get? s.heap.objs.size = some { cls := .type "tuple", data := .seq #[.ref e.2.1, .ref e.2.2] } := (sb.2 _ (Nat.ne_of_gt hlt)).trans hT
    have new : ObjOk X.prog X.w (upd H s.heap.objs.size (.tup [.ref e.2.1, .ref e.2.2])) h'' s.heap.objs.size (.tup [.ref e.2.1, .ref e.2.2]) :=
      ⟨by show 2 ≤ sizeLine; decide, [.ref e.2.1, .ref e.2.2], .cons rfl (.cons rfl .nil), ⟨_, hT2, rfl, _, rfl⟩⟩
    have I1 : Inv X pins σ (upd H s.heap.objs.size (.tup [.ref e.2.1, .ref e.2.2])) { s with heap := h'' } :=
      I.turnedNew (t' := s.toks) (ch := [it]) (fun b ob hb e => (sb.2 b (by simpa using hb)).trans (hk b ob (by simpa using hb) e)) hf (Nat.le_refl _) new
    refine ⟨.ref s.heap.objs.size, _, I1, rfl, ⟨_, e, he, rfl, I.hok.fresh (Nat.le_refl _), rfl⟩, ⟨es'[i].key, es'[i].val, by rw [← hsz]; exact he'⟩, fun b hb => ?_⟩
    · have e : b = it := by simpa using hb
      rw [e, upd_ne (Nat.ne_of_lt hlt)]
      exact (hf it (by simp)).1
  done := by
    intro X hP hw hK hc i pins s σ H E I hf st hg
    subst hP hw hK
    obtain ⟨hd, hi⟩ := hg
    obtain ⟨f0, f1, f2, f3, f4, f5⟩ := hf it (by simp)
    obtain ⟨es', ep', hdt, hraw, hsz, hent⟩ := frzL I hd
    obtain ⟨rfl, rfl⟩ := dict_ep hod hdt
    obtain ⟨ok, ov, he⟩ := st
    rw [← hsz] at he
    exact wpAny_pyNext_items_end_raw (I.ok.hd hc) he hraw (by omega) fun h' eb => ⟨rfl, I.turned (t' := s.toks) (fun b ob hb e => eb b ob hb e) f0 f1 f3 f4 f5⟩
  self := fun A i s Q E st h => let ⟨_, _, e⟩ := st; PySem.W.kcp_self e h
def iItemsL (P : Program) (w : World) (td : TE) : TI := fun σ H R => td σ H fun x H1 => ∃ d o xs, x = .ref d ∧ H1 d = some (.frz o (DLo P w d xs)) ∧ (d == sysModules) = false ∧ R (ItiL P w d o xs) H1
theorem pi_itemsL {X : Cx} {e : Expr} {td : TE} {apos cpos tpos : Pos} {elts : List Expr} {kk : Nat} (he : PE X e td) (hbase : attributeBase e "items" X.env (eval e X.env) = eval e X.env := by rfl) (hline : (apos.endLine == cpos.line) = true := by rfl) :
    PI X (.Tuple elts kk tpos) (.Call (.Attribute e "items" apos) [] [] cpos) (iItemsL X.prog X.w td) := by
  refine ⟨fun pins s σ H R I h => ?_⟩
  refine wpAny_Call_method (T := "dict") (id := "dict.items") hbase rfl hline PySem.F.plainAttrs_dict PySem.F.slot_dict_items PySem.F.type_dict_items (thn (he.run pins s σ H _ I h) fun u s1 ⟨x, H1, I1, rx, d, o, xs, ex, hd, hs, q⟩ => ?_)
  subst ex
  obtain rfl : u = Value.ref d := rx
  obtain ⟨es, ep, hdt, hraw, hsz, hent⟩ := frzL I1 hd
  refine ⟨hraw.typeIs, fun b z => ?_, ?_⟩
  · cases z
    obtain ⟨ob, h1, h2, _⟩ := hraw
    exact ⟨ob, h1, h2.2.1⟩
  have I2 : Inv X pins σ H1 { s1 with heap := s1.heap.push { cls := .type "dict_items", data := .fields #[.ref d] } } := I1.kept (t' := s1.toks) fun b ob q => Heap.get?_push_of_some _ q
  have fin : wpAny (model X.prog X.w) X.A (pyIter (.ref s1.heap.objs.size)) (PIE X pins σ (.Tuple elts kk tpos) R) X.xe { s1 with heap := s1.heap.push { cls := .type "dict_items", data := .fields #[.ref d] } } := by
    refine wpAny_pyIter_items_raw (d := d) ⟨_, Heap.get?_push_size _ rfl, rfl, rfl⟩ (hraw.at fun o e => Heap.get?_push_of_some _ e) (pi_one (tk := s1.toks) I2 _ (turn_itemsL _ hdt) ⟨.none, .none, ?_⟩ q)
    rw [← hsz]
    exact Heap.get?_push_size _ rfl
  show wpAny _ _ (callWith cpos (.builtin "dict.items") [.ref d] [] []) _ X.xe s1
  exact method_meetsIn PySem.F.slot_dict_items PySem.F.entry_dict_items rfl (PySem.evalArgs_none ⟨rfl, hraw.typeIs, PySem.F.args_dict_items_1 _, _, meets_dict_items_raw d hs, ⟨es, ep, hraw⟩, fin⟩)
theorem walk_itemsL {P : Program} {w : World} {d : Addr} {o : Obj} {xs : List LEnt} : Walk (ItiL P w d o xs) xs.length (fun H => H d = some (.frz o (DLo P w d xs))) (YPair (fun i => xs[i]?.map fun e => .ref e.2.1) (fun i => xs[i]?.map fun e => .ref e.2.2)) := by
  refine ⟨fun i _ hi q => ⟨q, hi⟩, fun _ q => ⟨q, Nat.le_refl _⟩, fun i H v H' _ q y => ?_⟩
  obtain ⟨T, e, h1, h2, h3, h4⟩ := y
  exact ⟨T, .ref e.2.1, .ref e.2.2, h2, h3, h4, by show Option.map _ _ = _; rw [h1]; rfl, by show Option.map _ _ = _; rw [h1]; rfl⟩
def srcItemsL (P : Program) (w : World) (td : TE) : TSrc2 := fun σ H R => td σ H fun x H1 => ∃ d o xs, x = .ref d ∧ H1 d = some (.frz o (DLo P w d xs)) ∧ (d == sysModules) = false ∧ R (xs.map fun e => (.ref e.2.1, .ref e.2.2)) (fun H => H d = some (.frz o (DLo P w d xs))) H1
theorem sr_itemsL {X : Cx} {e : Expr} {td : TE} {apos cpos tpos : Pos} {elts : List Expr} {kk : Nat} (he : PE X e td) (hbase : attributeBase e "items" X.env (eval e X.env) = eval e X.env := by rfl) (hline : (apos.endLine == cpos.line) = true := by rfl) :
    PSrc2 X (.Tuple elts kk tpos) (.Call (.Attribute e "items" apos) [] [] cpos) (srcItemsL X.prog X.w td) := ⟨_, pi_itemsL (upPE he) hbase hline, fun σ H R S q k => ⟨_, q, fun v H1 ⟨d, o, xs, a, b, c, r⟩ => ⟨d, o, xs, a, b, c, k _ _ _ _ (by
  have w := walk_itemsL (P := X.prog) (w := X.w) (d := d) (o := o) (xs := xs)
  rw [List.length_map]
  refine w.mono (fun H h => h) fun i H x H' hi _ ⟨T, x', y', y1, y2, y3, y4, y5⟩ => ⟨T, x', y', y1, y2, y3, ?_, ?_⟩
  · show Option.map Prod.fst _ = _
    rw [List.getElem?_map, Option.map_map]
    exact y4
  · show Option.map Prod.snd _ = _
    rw [List.getElem?_map, Option.map_map]
    exact y5) (fun H2 e => e _ _ b) r⟩⟩⟩
end CC
set_option maxHeartbeats 4000000
/-! CCMin: min of a list of data; < of data. -/
namespace CC
open PySem PySem.Spec PyProof.Rows L2 PySem.W
section
variable {X : Cx}
/-- min(l): one of the items -/
def rMinD (K : PySem.W.Frag) : List V → Hp → VK → Prop := fun vs H Q => ∃ (a : Addr) (xs : List V) (d : PyData) (ds : List PyData), vs = [.ref a] ∧ H a = some (.lst xs) ∧ DpAll K H xs (d :: ds) ∧ AlikeAll (d :: ds) ∧ PyData.depthAll (d :: ds) ≤ 16 ∧ ∀ v, v ∈ xs → Q v H
theorem cr_minD (hc : X.calm = true) (hu : X.A.units + 32 < cLine) : L2.CallR X (.builtin "min") (rMinD X.K) := by
  intro pins s σ H vs us Q I rs ⟨a, xs, d, ds, e, ha, hD, hA, hdp, q⟩
  subst e
  cases rs with
  | cons r1 r0 =>
    cases r0
    cases r1
    obtain ⟨its, rv, p, hz⟩ := I.list (.of ha)
    obtain ⟨as, hr⟩ := Dp.readsAll I _ _ _ hD rv
    refine min_list_data (I.ok.hd hc) p.isList (as := as) (by simpa using hr) hA (by omega) fun i v h' tk bs hv _ hk => ?_
    obtain ⟨x, hx, hxv⟩ : ∃ x, xs[i]? = some x ∧ RelV x v := by
      have h1 : its[i]? = some v := by simpa using hv
      have hi : i < xs.length := by
        have := (List.getElem?_eq_some_iff.mp h1).1
        rw [rv.length]
        exact this
      obtain ⟨u, hu1, hu2⟩ := rv.get (List.getElem?_eq_getElem hi)
      rw [h1] at hu1
      cases hu1
      exact ⟨_, List.getElem?_eq_getElem hi, hu2⟩
    exact ⟨x, H, I.kept (t' := tk) hk, hxv, q x (List.mem_of_getElem? hx)⟩
def rLtD (K : PySem.W.Frag) : R2 := fun x y H Q => ∃ d e, Dp K H x d ∧ Dp K H y e ∧ alike d e = true ∧ d ≠ .none ∧ d.depth ≤ 16 ∧ Q (.bl (dataLt d e)) H
theorem op_ltD (hu : X.A.units + 32 < cLine) : L2.OpR X (compareOp .Lt) (rLtD X.K) := by
  intro pins s σ H x y v u Q I rx ry ⟨d, e, hd, he, al, nn, dp, q⟩
  obtain ⟨as, r1⟩ := Dp.reads I d x v hd rx
  obtain ⟨bs, r2⟩ := Dp.reads I e y u he ry
  exact lt_data r1 r2 al nn (by have := Nat.min_le_left d.depth e.depth; omega) ⟨.bl (dataLt d e), H, I, rfl, q⟩
end
end CC
set_option maxHeartbeats 4000000
/-! CCLD4: d != {}; {k: v}. -/
namespace PySem.W
open PySem PySem.Calls
section
variable {prog : Program} {w : World} {A : Around} {E : Value → Shared → Prop} {s : Shared} {a b : Addr} {es es' : Array DictEntry} {ep ep' : Nat}
theorem cc_pairs0 {nm : String} {Q : Bool → Shared → Prop} (ha : (a == sysModules) = false) (hb : (b == sysModules) = false) (da : s.heap.DictRaw a es ep) (db : s.heap.DictRaw b es' ep') (h0 : es'.size = 0) (h : Q (es.size == 0) s) :
    wpAny (model prog w) A (Builtin.Dict.samePairs nm a b) Q E s := by
  obtain ⟨oa, hoa, _, hda⟩ := da
  obtain ⟨ob, hob, _, hdb⟩ := db
  unfold Builtin.Dict.samePairs Builtin.Dict.showsAll
  rw [if_neg (show ¬ (a == sysModules) = true by rw [ha]; exact Bool.false_ne_true), if_neg (show ¬ (b == sysModules) = true by rw [hb]; exact Bool.false_ne_true)]
  refine wpAny_bind (wpAny_pure (wpAny_bind (wpAny_pure ?_)))
  refine wpAny_bind (wpAny_dictEntries hoa hda ?_)
  dsimp only
  refine wpAny_bind (wpAny_dictEntries hob hdb ?_)
  by_cases hsz : es.size = 0
  · rw [if_neg (by rw [hsz, h0]; simp)]
    refine wpAny_bind (wpAny_dictEpoch hoa hda ?_)
    refine wpAny_bind ?_
    rw [Std.Legacy.Range.forIn_eq_forIn_range']
    simp only [Std.Legacy.Range.size, Nat.sub_zero, Nat.add_sub_cancel, Nat.div_one, hsz, List.range'_zero, List.forIn_nil]
    have h' : Q true s := by simpa [hsz] using h
    exact wpAny_pure (wpAny_pure h')
  · rw [if_pos (by rw [h0]; simpa using hsz)]
    have hbf : (es.size == 0) = false := by simpa using hsz
    rw [hbf] at h
    exact wpAny_bind (wpAny_rule (wpAny_pure h))
theorem cc_ne0 {Q : Value → Shared → Prop} (ha : (a == sysModules) = false) (hb : (b == sysModules) = false) (da : s.heap.DictRaw a es ep) (db : s.heap.DictRaw b es' ep') (h0 : es'.size = 0) (hu : A.units < cLine) (h : Q (.bool (!(es.size == 0))) s) :
    wpAny (model prog w) A (compareOp .NotEq (.ref a) (.ref b)) Q E s := by
  refine wpAny_richCompare_same_room (op := .NotEq) da.typeIs db.typeIs PySem.F.slot_dict_ne (wpAny_call_entry PySem.F.slot_dict_ne da.typeIs PySem.F.entry_dict_ne ?_ (PySem.F.args_dict_ne_2 _ _)) hu
  show wpAny _ _ (Builtin.Dict.dictSlotArgs "__ne__" ⟨[.ref a, .ref b], []⟩ >>= _) _ _ s
  refine wpAny_bind ?_
  unfold Builtin.Dict.dictSlotArgs
  refine wpAny_bind (wpAny_notOrdered_dict da.typeIs ?_)
  show wpAny _ _ (pure (Value.ref a, Value.ref b)) _ _ s
  refine wpAny_pure ?_
  refine wpAny_bind (wpAny_isInstance (T := "dict") db.typeIs PySem.F.sub_dict_dict ?_)
  simp only [Bool.not_true, Bool.false_eq_true, if_false]
  refine wpAny_bind (wpAny_pure (wpAny_bind (wpAny_pure ?_)))
  refine wpAny_bind (cc_pairs0 ha hb da db h0 ?_)
  refine wpAny_pure ⟨_, rfl, ?_, ?_⟩
  · exact fun x => nomatch x
  · simpa using h
end
end PySem.W
namespace CC
open PySem PySem.Spec PyProof.Rows L2
section
variable {X : Cx}
/-- d != {} -/
def rNeL0 (P : Program) (w : World) : R2 := fun x y H Q => ∃ (a b : Addr) (xs : List LEnt), x = .ref a ∧ y = .ref b ∧ DL P w H a xs ∧ DL P w H b [] ∧ Q (.bl (!decide (xs = []))) H
theorem op_neL0 (hu : X.A.units + 16 < cLine) : OpR X (compareOp .NotEq) (rNeL0 X.prog X.w) := by
  intro pins s σ H x y v u Q I rx ry ⟨a, b, xs, ex, ey, D, D0, q⟩
  subst ex ey
  cases rx
  cases ry
  obtain ⟨oa, es, ep, h1, h2, h3, h4, _⟩ := dl_of I D
  obtain ⟨ob, es', ep', g1, g2, g3, g4, _⟩ := dl_of I D0
  have e1 : es.size = xs.length := by
    have := congrArg List.length h4
    simpa using this
  have e2 : es'.size = 0 := by
    have := congrArg List.length g4
    simpa using this
  refine PySem.W.cc_ne0 D.big D0.big ⟨oa, h1, h2, h3⟩ ⟨ob, g1, g2, g3⟩ e2 (by omega) ⟨.bl (!decide (xs = [])), H, I, ?_, q⟩
  show Value.bool _ = Value.bool _
  rw [e1]
  cases xs <;> simp
/-- {k: v} -/
def tDispL (P : Program) (w : World) (tk tv : TE) : TE := fun σ H Q => ∀ p, H p = none → DL P w (upd H p (DLo P w p [])) p [] → tk σ (upd H p (DLo P w p [])) fun x H1 => tv σ H1 fun y H2 => ∃ (b c : Addr) (l : Lay), x = .ref b ∧ y = .ref c ∧ DL P w H2 p [] ∧ LayAt H2 b l ∧ Q (.ref p) (upd H2 p (DLo P w p [(l, b, c)]))
theorem pe_dispL {k v : Expr} {tk tv : TE} {pos : Pos} (hu : X.A.units + 16 < cLine) (hk : PE X k tk) (hv : PE X v tv) : PE X (.Dict [some k] [v] pos) (tDispL X.prog X.w tk tv) := by
  refine ⟨fun pins s σ H Q I h => ?_⟩
  have hn := I.hok.fresh (Nat.le_refl s.heap.objs.size)
  have big : (s.heap.objs.size == sysModules) = false := beq_eq_false_iff_ne.mpr (Ne.symm (Nat.ne_of_lt I.big))
  have I1 := I.laid (a := s.heap.objs.size) (o := DLo X.prog X.w s.heap.objs.size []) (h' := s.heap.push { cls := .type "dict", data := .dict #[] }) (t' := s.toks) (fun _ _ q => Heap.get?_push_of_some _ q) (Nat.le_refl _) (dlo_ok (ys := []) (Heap.DictOfH.new s.heap))
  have q1 := h _ hn ⟨upd_same, big, Nat.zero_le _, fun x hx => (nomatch hx)⟩
  rw [arm_eval_Dict, zip_pairTrees [some k] [v] X.env pos rfl rfl, dictDisplay_pairs (pairTrees [some k] [v] X.env pos) (by intro z; cases z) (show (1 : Nat) < 17 by decide)]
  refine wpAny_bind (wpAny_standAt (wpAny_bind (wpAny_subDictH (knd := nestedKind X.prog X.w) (Q := fun d s' => wpAny (model X.prog X.w) X.A (pure (Value.ref d)) (EP X pins σ Q) X.xe s') (by show X.A.units + 8 < cLine; omega) (show (1 : Nat) ≤ 15 by decide) ?_)))
  refine pairTrees_cons_walk (thn (hk.run pins _ σ _ _ I1 q1) fun u s1 ⟨x, H1, J1, rx, q2⟩ => thn (hv.run pins s1 σ H1 _ J1 q2) fun w2 s2 ⟨y, H2, I2, ry, b, c, l, ex, ey, D, hb, q3⟩ => pairTrees_nil_walk ?_)
  subst ex ey
  cases rx
  cases ry
  refine ⟨[(nk l, b, .ref c)], ⟨rfl, rfl, keyL I2 hb, trivial⟩, dl_of I2 D, fun h' tk dd hs => wpAny_pure ?_⟩
  exact ⟨.ref s.heap.objs.size, _, dl_write (ys := [(l, b, c)]) I2 D hs dd, rfl, q3⟩
end
end CC
set_option maxHeartbeats 4000000
/-! CCLcPI: a comprehension over pairs, read by an invariant over what is left and what is found. -/
namespace CC
open PySem PySem.Spec PyProof.Rows L2 L2H
def tLcPI (src : TSrc2) (g : TG) (tt : TT) (te : TE) (vs : List Nat) : TE := fun σ H Q => src σ H fun xs G H1 => ∃ (α : Type) (l : List α) (f1 f2 : α → V) (Pv : Addr → List α → List V → Hp → Prop), xs = l.map (fun a => (f1 a, f2 a)) ∧ l.length ≤ 16777216 ∧
  (∀ D, H1 D = none → Pv D l [] (upd H1 D (.lst []))) ∧ (∀ D r acc H, Pv D r acc H → G H) ∧
  (∀ D a r acc H T, Pv D (a :: r) acc H → H T = none → g (.ref T) (wipe σ vs) (upd H T (.tup [f1 a, f2 a])) fun σ3 H3 => wipe σ3 vs = wipe σ vs ∧ tt σ3 H3 fun b H4 => if b = true then te σ3 H4 fun y H5 => H5 D = some (.lst acc) ∧ Pv D r (acc ++ [y]) (upd H5 D (.lst (acc ++ [y]))) else Pv D r acc H4) ∧
  ∀ D acc H, Pv D [] acc H → Q (.ref D) H
theorem lc_corePI {α : Type} {l : List α} {f1 f2 : α → V} {xs : List (V × V)} {J : It} {G : Hp → Prop} {g : TG} {tt : TT} {te : TE} {vs : List Nat} {σ : L2.St} {H1 : Hp} {Q : VK} {Pv : Addr → List α → List V → Hp → Prop} (hxs : xs = l.map (fun a => (f1 a, f2 a))) (w : Walk J l.length G (YPair (fun i => xs[i]?.map Prod.fst) (fun i => xs[i]?.map Prod.snd))) (hl : l.length ≤ 16777216)
    (h0 : ∀ D, H1 D = none → Pv D l [] (upd H1 D (.lst []))) (hG : ∀ D r acc H, Pv D r acc H → G H)
    (hs : ∀ D a r acc H T, Pv D (a :: r) acc H → H T = none → g (.ref T) (wipe σ vs) (upd H T (.tup [f1 a, f2 a])) fun σ3 H3 => wipe σ3 vs = wipe σ vs ∧ tt σ3 H3 fun b H4 => if b = true then te σ3 H4 fun y H5 => H5 D = some (.lst acc) ∧ Pv D r (acc ++ [y]) (upd H5 D (.lst (acc ++ [y]))) else Pv D r acc H4)
    (hq : ∀ D acc H, Pv D [] acc H → Q (.ref D) H) :
    ∀ D, H1 D = none → ∃ W : Nat → Nat → Hp → Prop, (∃ m, W 0 m (upd H1 D (.lst []))) ∧ ∀ i m H, W i m H →
  (J.stop i H ∧ Q (.ref D) H) ∨ (J.go i H ∧ ∃ Nx : Hp → Prop, (∀ H', Nx H' → ∃ m', m' < m ∧ W (i + 1) m' H') ∧ ∀ x H', J.yld i H x H' → upG g x (wipe σ vs) H' fun σ2 H2 => wipe σ2 vs = wipe σ vs ∧ upT tt σ2 H2 fun b H3 =>
    if b = true then up te σ2 H3 fun y H4 => ∃ acc, H4 D = some (.lst acc) ∧ acc.length < sizeLine ∧ Nx (upd H4 D (.lst (acc ++ [y]))) else Nx H3) := by
  subst hxs
  intro D hD
  refine lc_it (Qd := fun H => Q (.ref D) H) w (fun i H => ∃ acc, acc.length ≤ i ∧ Pv D (l.drop i) acc H) ⟨[], Nat.le_refl _, h0 D hD⟩ (fun i H _ ⟨acc, _, h⟩ => hG _ _ _ _ h) (fun i x H H' hi ⟨acc, hn, p⟩ ⟨T, x', y', y1, y2, y3, y4, y5⟩ => ?_) (fun H ⟨acc, _, h⟩ => hq D acc H (by simpa using h))
  obtain ⟨a, ha⟩ : ∃ a, l[i]? = some a := ⟨l[i], by simp [hi]⟩
  simp only [List.getElem?_map, ha, Option.map_some, Option.some.injEq] at y4 y5
  subst y4 y5
  subst y1 y3
  rw [drop_of ha] at p
  refine ⟨_, hs D a _ acc _ T p y2, fun σ3 H3 ⟨q1, q2⟩ => ⟨q1, _, q2, fun b H4 q3 => ?_⟩⟩
  cases b with
  | false => exact ⟨acc, by omega, q3⟩
  | true => exact ⟨_, q3, fun v H5 ⟨k, z⟩ => ⟨_, k, by rw [sizeLine_eq]; omega, _, by rw [List.length_append, List.length_singleton]; omega, z⟩⟩
section
variable {X : Cx} {elt tg iter : Expr} {ifs : List Expr} {scope : Scope} {own : List (Str × Nat)} {pos spos py : Pos} {g : TG} {tt : TT} {te : TE} {s2 : TSrc2} {i : Nat} {y : Str}
theorem lcPI_of (s : PSrc2 X tg iter s2) {K : TE → Prop} (hK : ∀ wi, PI X tg iter wi → K (tLc wi (upG g) (upT tt) (up te) (own.map (·.2)))) : ∃ t, K t ∧ ∀ σ H Q, tLcPI s2 g tt te (own.map (·.2)) σ H Q → t σ H Q := by
  obtain ⟨wi, h, k⟩ := s
  refine ⟨_, hK wi h, fun σ H Q q => k σ H _ _ q fun J xs G H1 w hG ⟨α, l, f1, f2, Pv, e, hl, h0, hg, hs, hq⟩ => ?_⟩
  have e2 : xs.length = l.length := by rw [e, List.length_map]
  rw [e2] at w
  exact lc_corePI e w hl h0 hg hs hq
theorem lcPI (hc : X.calm = true) (hN : X.N.Nodup) (s : PSrc2 X tg iter s2) (ok : BlkOk X.N X.env.scope scope own) (hg : Oks X scope fun Y => PG Y tg g) (ht : Oks X scope fun Y => PTs Y ifs tt) (he : Oks X scope fun Y => PE Y elt te)
    (hs : ∀ x, foldedSetIterable iter X.env x = pure x := by intro _; rfl) : PE X (.ListComp elt [⟨tg, iter, ifs, 0⟩] scope pos) (tLcPI s2 g tt te (own.map (·.2))) := by
  obtain ⟨t, h, i⟩ := lcPI_of (K := fun t => PE X (.ListComp elt [⟨tg, iter, ifs, 0⟩] scope pos) t) s (g := g) (tt := tt) (te := te) (own := own) fun wi hi => pe_lc hc hN hi ok (fun s H C cl fp => upPG (hg s H C cl fp)) (fun s H C cl fp => upPTs (ht s H C cl fp)) (fun s H C cl fp => upPE (he s H C cl fp)) hs
  exact impPE h i
end
end CC
set_option maxHeartbeats 4000000
namespace CC
open PySem PySem.Spec PyProof.Rows L2 StX
local macro_rules | `(tactic| walk_at "rd") => `(tactic| simp only [tVar, tC, tOp, tUn, rI0, rI, rU, rEq, rNe, tTest, tB, tAnd, tOr, tNot, tAndV, tOrV, tNotV, tIf, tChain, tIfS, tRet, tRetN, tSeq, tNext, tAsg, gName, tDrop, tCons, tNil, tCB, tCR, tTup, tLst, rIsF, tyN_non, tyN_bl, tyN_int, tyN_str, tyN_ref, isB_1, isB_2, isB_3, isB_4, isB_5, isB_6, isB_7, isB_8, tyO_tup, tyO_lst, tyO_dK, tyO_frz, rIxG, rLenG, rInG, rAllG, rSumG, rListG, rTupG, tLcF, tLcP, tForF, tForP, srcTup, srcLst, srcStr, srcRng, srcEnum, srcZip, srcEnumT, tYes, wipe, gTupG, gCons, gNil, tStarG, tSl, rSlTG, rSlLG, rCatTG, rRep, tJoinG, rSortedSG, tApp, tExd, tupO_tup, lstO_lst, seqO_tup, seqO_lst, dKO_dK, tNoPart, tPart, tFl, sFl, tSls, sSls, tMeS, tPrS, tPrF, tMethR, tMake, sFlAug, rLenS, L2.start, List.map_cons, List.map_nil, List.length_cons, List.length_nil, Nat.zero_add, Nat.reduceAdd, Nat.reduceSub, List.replicate_succ, List.replicate_zero, List.forall_mem_map, List.cons_append, List.nil_append, List.getElem?_cons_succ, List.getElem?_cons_zero, List.set_cons_zero, List.set_cons_succ, Option.some.injEq, V.int.injEq, V.str.injEq, V.bl.injEq, V.ref.injEq, V.ty.injEq, List.cons.injEq, HO.tup.injEq, HO.lst.injEq, HO.ins.injEq, reduceCtorEq, exists_eq_left', exists_eq_left, exists_eq_right', exists_eq_right, exists_and_left, exists_and_right, and_true, true_and, and_false, false_and, or_false, false_or, or_true, true_or, exists_const, exists_eq', exists_eq, scal_ii, scal_ss, scal_bb, scal_nn, scal_ns, scal_sn, tSlB, sSlB, upd_upd, tPar, tLcI, tSIdx, upd_same, if_true, if_false, ite_true, ite_false, Bool.not_true, Bool.not_false, Bool.true_and, Bool.and_true, Bool.false_eq_true, decide_true, decide_false, sz1, atI_0, atI_1, and_assoc])
local macro_rules | `(tactic| walk_at "rh") => `(tactic| simp only [*, tVar, tC, tOp, tUn, rI0, rI, rU, rEq, rNe, tTest, tB, tAnd, tOr, tNot, tAndV, tOrV, tNotV, tIf, tChain, tIfS, tRet, tRetN, tSeq, tNext, tAsg, gName, tDrop, tCons, tNil, tCB, tCR, tTup, tLst, rIsF, tyN_non, tyN_bl, tyN_int, tyN_str, tyN_ref, isB_1, isB_2, isB_3, isB_4, isB_5, isB_6, isB_7, isB_8, tyO_tup, tyO_lst, tyO_dK, tyO_frz, rIxG, rLenG, rInG, rAllG, rSumG, rListG, rTupG, tLcF, tLcP, tForF, tForP, srcTup, srcLst, srcStr, srcRng, srcEnum, srcZip, srcEnumT, tYes, wipe, gTupG, gCons, gNil, tStarG, tSl, rSlTG, rSlLG, rCatTG, rRep, tJoinG, rSortedSG, tApp, tExd, tupO_tup, lstO_lst, seqO_tup, seqO_lst, dKO_dK, tNoPart, tPart, tFl, sFl, tSls, sSls, tMeS, tPrS, tPrF, tMethR, tMake, sFlAug, rLenS, L2.start, List.map_cons, List.map_nil, List.length_cons, List.length_nil, Nat.zero_add, Nat.reduceAdd, Nat.reduceSub, List.replicate_succ, List.replicate_zero, List.forall_mem_map, List.cons_append, List.nil_append, List.getElem?_cons_succ, List.getElem?_cons_zero, List.set_cons_zero, List.set_cons_succ, Option.some.injEq, V.int.injEq, V.str.injEq, V.bl.injEq, V.ref.injEq, V.ty.injEq, List.cons.injEq, HO.tup.injEq, HO.lst.injEq, HO.ins.injEq, reduceCtorEq, exists_eq_left', exists_eq_left, exists_eq_right', exists_eq_right, exists_and_left, exists_and_right, and_true, true_and, and_false, false_and, or_false, false_or, or_true, true_or, exists_const, exists_eq', exists_eq, scal_ii, scal_ss, scal_bb, scal_nn, scal_ns, scal_sn, tSlB, sSlB, upd_upd, tPar, tLcI, tSIdx, upd_same, if_true, if_false, ite_true, ite_false, Bool.not_true, Bool.not_false, Bool.true_and, Bool.and_true, Bool.false_eq_true, decide_true, decide_false, sz1, atI_0, atI_1, and_assoc])
def chkL (xs : List Int) : Int := xs.foldl (fun f v => (11 * f + v).fmod 251) 4
theorem Ext.own {H Hx : Hp} {p : Addr} {o : HO} (e : Ext H Hx) (hp : H p = none) : Ext H (upd Hx p o) := fun b u h => by
  rw [upd_ne (fun z => by subst z; rw [hp] at h; cases h)]
  exact e b u h
theorem kp_new_set {H : Hp} {p p1 : Addr} {o o1 : HO} (h : H p1 = none) : Kp p H (upd (upd H p1 o1) p o) := fun b u n e => by
  rw [upd_ne n]
  exact Ext.new h _ _ e
section
variable {P : Program} {w : World} {K : PySem.W.Frag} {mg : Str → Option Value} {base : Heap}
def spChk : Sp := fun vs H Q _ => ∃ (a : Addr) (xs : List Int), vs = [.ref a] ∧ H a = some (.lst (xs.map V.int)) ∧ Q (.int (chkL xs)) H
theorem ok_checksum (T : Txt K mg w) : OkF P w K mg base CX0 2 (gA K "checksum") ["values"] spChk := by
  refine mk0 (k := 1) T.d_checksum sc_checksum (fun _ _ _ _ _ _ us hl => match us, hl with | [_], _ => rfl) (fun vs H Q E h => ?_) (fun cdv A outer s H vs Q E hr h => ?_)
  · obtain ⟨a, xs, rfl, _⟩ := h
    rfl
  · obtain ⟨a, xs, rfl, ha, q⟩ := h
    refine ⟨_, (pss_cons (CC.st (i := 1) sc_checksum.nd (pe_gi T.c_CHECK_START))
    (pss_cons (forF PassesOwn.never rfl (sr_lst (pv 0)) (pg_name (i := 2) sc_checksum.nd rfl (.inl rfl))
      (pss_one (CC.st (i := 1) sc_checksum.nd (pe_op op_modN (pe_callTy call_int1 rfl T.b_int (by decide +kernel) (pa_cons (pe_op op_add (pe_op op_mul (pe_gi T.c_CHECK_TIMES) (pv 1)) (pv 2)) pa_nil)) (pe_gi T.c_CHECK_REST)))))
    (pss_one (ps_ret (pv 1))))), ?_⟩
    walk_at "rh"
    refine ⟨Int, xs, V.int, rfl, fun r σ Hx => Hx = H ∧ ∃ f y, σ = [some (.ref a), some (.int f), y] ∧ r.foldl (fun f v => (11 * f + v).fmod 251) f = chkL xs, ⟨rfl, 4, _, rfl, rfl⟩, fun r σ Hx h => by rw [h.1]; exact ha, fun b r σ Hx ⟨h1, f, y, h2, h3⟩ => ?_, fun σ Hx ⟨h1, f, y, h2, h3⟩ => ?_⟩
    · subst h1 h2
      exact ⟨_, rfl, f, rfl, .inl ⟨by decide, by decide⟩, _, rfl, b, rfl, by decide, rfl, _, _, rfl, h3⟩
    · subst h1 h2
      refine ⟨_, rfl, ?_⟩
      rw [show f = chkL xs from h3]
      exact q
/-- a store as whole numbers, the check number apart -/
def wordE (z : Str) : List Int := (z.length : Int) :: z.cps.toList.map fun c => (((Txt.index0 lettersS ⟨#[c]⟩).getD 0 : Nat) : Int) + 1
def encA (s : Sto) : List Int := [71, (s.ds.length : Int)] ++ (s.ds.map fun d => [d.1, d.2]).flatten ++ [(s.cs.length : Int)]
def encB (s : Sto) : List Int := encA s ++ (s.cs.map wordE).flatten
def encL (s : Sto) : List Int := encB s ++ [chkL (encB s)]
theorem flat2_len : ∀ ds : Doors, ((ds.map fun d => [d.1, d.2]).flatten).length = 2 * ds.length := fun ds => by
  induction ds with
  | nil => rfl
  | cons a r ih => simp only [List.map_cons, List.flatten_cons, List.length_append, List.length_cons, List.length_nil, ih]; omega
theorem encA_len {s : Sto} (ok : s.Ok) : (encA s).length ≤ 9 := by
  have := ok.d.d2
  simp only [encA, List.length_append, flat2_len, List.length_cons, List.length_nil]
  omega
theorem names_short : ∀ z, z ∈ names3 → z.length ≤ 4 ∧ (wordE z).length ≤ 5 ∧ ∀ c, c ∈ z.cps.toList → (Txt.index0 lettersS ⟨#[c]⟩).isSome = true := by
  intro z hz
  simp [names3] at hz
  rcases hz with rfl | rfl | rfl <;> exact ⟨by decide +kernel, by decide +kernel, by decide +kernel⟩
theorem words_len {pre : List Str} (h : ∀ z, z ∈ pre → z ∈ names3) : ((pre.map wordE).flatten).length ≤ 5 * pre.length := by
  induction pre with
  | nil => simp
  | cons a r ih =>
    have h1 := (names_short a (h a List.mem_cons_self)).2.1
    have h2 := ih fun z hz => h z (List.mem_cons_of_mem _ hz)
    simp only [List.map_cons, List.flatten_cons, List.length_append, List.length_cons]
    omega
def spEnc (K : PySem.W.Frag) : Sp := fun vs H Q _ => ∃ (a : Addr) (s : Sto), vs = [.ref a] ∧ StoAt K H a s ∧ s.Ok ∧ ∀ p H', Ext H H' → H p = none → H' p = some (.lst ((encL s).map V.int)) → Q (.ref p) H'
theorem ok_encode_store (T : Txt K mg w) : OkF P w K mg base CX0 4 (gA K "encode_store") ["store"] (spEnc K) := by
  have F_Store___len__ := ok_Store___len__ (P := P) (base := base) T
  have F_Store_doors := ok_Store_doors (P := P) (base := base) T
  have F_Store_crates := ok_Store_crates (P := P) (base := base) T
  have F_checksum := ok_checksum (P := P) (base := base) T
  refine mk0 (k := 3) T.d_encode_store sc_encode_store (fun _ _ _ _ _ _ us hl => match us, hl with | [_], _ => rfl) (fun vs H Q E h => ?_) (fun cdv A outer s H vs Q E hr h => ?_)
  · obtain ⟨a, st, rfl, _⟩ := h
    rfl
  · obtain ⟨a, st, rfl, hst, ok, q⟩ := h
    refine ⟨_, (pss_cons (CC.st (i := 1) sc_encode_store.nd (pe_lst (pa_cons (pe_gi T.c_FIRST) (pa_cons (pe_callB (call_lenS T.me_Store___len__ F_Store___len__.raw hr) rfl T.b_len PySem.boot_len (pa_cons (pv 0) pa_nil)) pa_nil))))
    (pss_cons (forF PassesOwn.never rfl (sr_tup (pe_prS T.scls_Store T.pr_Store_doors F_Store_doors.raw hr (pv 0))) (pg_tupG (n := 2) rfl (pgs_cons (pg_name (i := 2) sc_encode_store.nd rfl (.inl rfl)) (pgs_cons (pg_name (i := 3) sc_encode_store.nd rfl (.inl rfl)) pgs_nil)))
      (pss_one (ps_expr (pe_exd (pe_bm PySem.F.plainAttrs_list PySem.F.slot_list_extend PySem.F.type_list_extend mt_extend (upPE (pv 1)) (pa_cons (upPE (pe_lst (pa_cons (pv 2) (pa_cons (pv 3) pa_nil)))) pa_nil))))))
    (pss_cons (ps_expr (pe_app (pe_bm PySem.F.plainAttrs_list PySem.F.slot_list_append PySem.F.type_list_append mt_append (upPE (pv 1)) (pa_cons (upPE (pe_callB call_lenG rfl T.b_len PySem.boot_len (pa_cons (pe_prS T.scls_Store T.pr_Store_crates F_Store_crates.raw hr (pv 0)) pa_nil))) pa_nil))))
    (pss_cons (forF PassesOwn.never rfl (sr_tup (pe_prS T.scls_Store T.pr_Store_crates F_Store_crates.raw hr (pv 0))) (pg_name (i := 4) sc_encode_store.nd rfl (.inl rfl))
      (pss_one (ps_expr (pe_exd (pe_bm PySem.F.plainAttrs_list PySem.F.slot_list_extend PySem.F.type_list_extend mt_extend (upPE (pv 1)) (pa_cons (upPE (pe_lst (pa_cons (pe_callB call_len_str rfl T.b_len PySem.boot_len (pa_cons (pv 4) pa_nil)) (pa_starG (lcF (own := [("letter", 5)]) rfl sc_encode_store.nd (sr_str (pv 4)) (blkOk_by (N := n_encode_store) (sc := defScope s_encode_store) (by decide +kernel)) (fun _ _ _ _ _ => (pg_name (i := 5) sc_encode_store.nd rfl (.inl rfl))) (fun _ _ _ _ _ => pts_nil) (fun _ _ _ _ _ => (pe_op op_add (pe_sidx (pe_gs T.c_LETTERS) (pv 5)) pe_int))) pa_nil)))) pa_nil))))))
    (pss_one (ps_ret (pe_lst (pa_starG (pv 1) (pa_cons (pe_cR F_checksum.raw hr T.g_checksum pass0 (pa_cons (pv 1) pa_nil)) pa_nil))))))))), ?_⟩
    walk_at "rh"
    obtain ⟨ea, pa, da, ca, h1, h2, h3, ⟨l, hl, hm, hR⟩, h5⟩ := id hst
    have hsa := h1.sa
    have hdl := ok.d.d2
    refine ⟨⟨_, hsa⟩, a, st, rfl, hst, st.ds.length, rfl, by omega, by omega, fun p hp => ?_⟩
    have e1 := Ext.new (o := .lst [V.int 71, V.int (st.ds.length : Nat)]) hp
    refine ⟨⟨_, (h1.ext e1).sa⟩, a, st, rfl, hst.ext e1, fun da' ⟨l', hl', hm', hR'⟩ => ?_⟩
    refine ⟨da', rfl, _, by rw [hl']; rfl, _, l', fun q => .ref q.1, rfl, fun r σ Hx => Ext H Hx ∧ (∃ x y, σ = [some (.ref a), some (.ref p), x, y, none, none]) ∧ tupO (Hx da') = some (l'.map fun q => .ref q.1) ∧ (∀ q, q ∈ r → DoorAt Hx q.1 q.2) ∧ ∃ pre, pre ++ r = l' ∧ Hx p = some (.lst (([71, (st.ds.length : Int)] ++ (pre.map fun q => [q.2.1, q.2.2]).flatten).map V.int)), ?_, ?_, ?_, ?_⟩
    · have T1 := e1.tup
      exact ⟨e1, ⟨_, _, rfl⟩, by rw [hl']; rfl, hR', [], rfl, by rw [upd_same]; rfl⟩
    · intro r σ Hx h
      exact h.2.2.1
    · intro b r σ Hx ⟨ex, ⟨x, y, hσ⟩, hda, hr, pre, hpre, hxp⟩
      subst hσ
      have hb : Hx b.1 = some (.tup [.int b.2.1, .int b.2.2]) := hr b List.mem_cons_self
      refine ⟨_, rfl, _, by rw [hb]; rfl, rfl, _, _, rfl, _, _, rfl, rfl, _, rfl, p, rfl, ⟨_, by rw [hxp]; rfl⟩, _, rfl, _, rfl, by omega, fun p1 hp1 => ⟨_, by rw [upd_ne (fun z => by subst z; rw [hxp] at hp1; cases hp1), hxp]; rfl, ?_, ?_⟩⟩
      · have : pre.length ≤ l'.length := by rw [← hpre]; simp
        have h3 : l'.length ≤ 3 := by rw [← List.length_map (f := Prod.snd), hm']; exact hdl
        have : ∀ pr : List (Addr × Int × Int), ((pr.map fun q => [q.2.1, q.2.2]).flatten).length = 2 * pr.length := fun pr => by
          induction pr with
          | nil => rfl
          | cons a r ih => simp only [List.map_cons, List.flatten_cons, List.length_append, List.length_cons, List.length_nil, ih]; omega
        rw [List.length_map, List.length_append, this]
        simp only [List.length_cons, List.length_nil]
        omega
      · have T2 := tupL (H := Hx) (D := p) (kp_new_set (o := .lst (((([71, (st.ds.length : Int)] ++ (pre.map fun q => [q.2.1, q.2.2]).flatten).map V.int)) ++ [.int b.2.1, .int b.2.2])) (o1 := .lst [.int b.2.1, .int b.2.2]) hp1) hxp
        refine ⟨(ex.trans (Ext.new hp1)).own hp, ⟨_, _, rfl⟩, T2.tO hda, fun q hq => T2.t _ _ (hr q (List.mem_cons_of_mem _ hq)), pre ++ [b], by rw [← hpre]; simp, by rw [upd_same]; simp⟩
    · intro σ Hx ⟨ex, ⟨x, y, hσ⟩, hda, hr, pre, hpre, hxp⟩
      subst hσ
      rw [List.append_nil] at hpre
      subst hpre
      have eD : (pre.map fun q => [q.2.1, q.2.2]).flatten = (st.ds.map fun d => [d.1, d.2]).flatten := by rw [← hm', List.map_map]; rfl
      rw [eD] at hxp
      have hA : ([71, (st.ds.length : Int)] ++ (st.ds.map fun d => [d.1, d.2]).flatten).length ≤ 9 := by have := encA_len ok; simp only [encA, List.length_append, List.length_cons, List.length_nil] at this ⊢; omega
      refine ⟨_, rfl, p, rfl, ⟨_, by rw [hxp]; rfl⟩, _, rfl, a, rfl, ⟨_, (h1.ext ex).sa⟩, a, st, rfl, hst.ext ex, fun ca' hca => ?_⟩
      refine ⟨_, rfl, _, by rw [hca]; rfl, _, by rw [hxp]; rfl, by rw [List.length_map]; omega, _, rfl, a, rfl, ?_⟩
      have hA1 : upd Hx p (.lst ((([71, (st.ds.length : Int)] ++ (st.ds.map fun d => [d.1, d.2]).flatten).map V.int) ++ [V.int ((st.cs.map V.str).length : Nat)])) p = some (.lst ((encA st).map V.int)) := by rw [upd_same]; simp [encA]
      have eA1 := ex.own (o := .lst ((([71, (st.ds.length : Int)] ++ (st.ds.map fun d => [d.1, d.2]).flatten).map V.int) ++ [V.int ((st.cs.map V.str).length : Nat)])) hp
      generalize upd Hx p (.lst ((([71, (st.ds.length : Int)] ++ (st.ds.map fun d => [d.1, d.2]).flatten).map V.int) ++ [V.int ((st.cs.map V.str).length : Nat)])) = H4 at hA1 eA1 ⊢
      refine ⟨⟨_, (h1.ext eA1).sa⟩, a, st, rfl, hst.ext eA1, fun ca2 hca2 => ?_⟩
      refine ⟨_, rfl, _, by rw [hca2]; rfl, Str, st.cs, V.str, rfl, fun r σ Hx => Ext H Hx ∧ (∃ x y z, σ = [some (.ref a), some (.ref p), x, y, z, none]) ∧ Hx ca2 = some (.tup (st.cs.map V.str)) ∧ ∃ pre, pre ++ r = st.cs ∧ Hx p = some (.lst ((encA st ++ (pre.map wordE).flatten).map V.int)), ⟨eA1, ⟨_, _, _, rfl⟩, hca2, [], rfl, by rw [hA1]; simp⟩, fun r σ Hx h => by rw [h.2.2.1]; rfl, ?_, ?_⟩
      · intro z r σ Hx ⟨ex, ⟨x, y, u, hσ⟩, hc, pre2, hpre, hxp⟩
        subst hσ
        have hz : z ∈ names3 := List.mem_of_mem_take (show z ∈ st.cs by rw [← hpre]; simp)
        obtain ⟨z1, z2, z3⟩ := names_short z hz
        refine ⟨_, rfl, p, rfl, ⟨_, by rw [hxp]; rfl⟩, _, rfl, z, rfl, by omega, _, rfl, z, rfl, ?_⟩
        have hzl : z.cps.toList.length = z.length := by simp [Str.length]
        refine ⟨_, z.cps.toList, fun c => .str ⟨#[c]⟩, rfl, by omega, fun c => some (.int ((((Txt.index0 lettersS ⟨#[c]⟩).getD 0 : Nat) : Int) + 1)), fun c hc2 H2 e2 => ⟨rfl, _, rfl, _, rfl, ?_⟩, fun D H2 hD e2 hD2 => ?_⟩
        · obtain ⟨k, hk⟩ := Option.isSome_iff_exists.mp (z3 c hc2)
          have hk2 : Txt.index0 ("abcdefghijklmnopqrstuvwxyz" : Str) ⟨#[c]⟩ = some k := hk
          refine ⟨k, hk2, .refl _, ?_⟩
          show some (V.int ((((Txt.index0 lettersS ⟨#[c]⟩).getD 0 : Nat) : Int) + 1)) = _
          rw [hk]
          rfl
        · have hfm : z.cps.toList.filterMap (fun c => some (V.int ((((Txt.index0 lettersS ⟨#[c]⟩).getD 0 : Nat) : Int) + 1))) = (z.cps.toList.map fun c => (((Txt.index0 lettersS ⟨#[c]⟩).getD 0 : Nat) : Int) + 1).map V.int := by
            rw [List.map_map, ← List.filterMap_eq_map]
            rfl
          rw [hfm] at hD2
          have hx2 := e2 _ _ hxp
          refine ⟨_, by rw [hD2]; rfl, ?_, fun p1 hp1 => ⟨_, by rw [upd_ne (fun z => by subst z; rw [hx2] at hp1; cases hp1), hx2]; rfl, ?_, ?_⟩⟩
          · simp only [List.append_nil, List.length_map]
            omega
          · have := encA_len ok
            have h3 := ok.n3
            have h4 := Sto.cs_len ok
            have h6 : pre2.length ≤ st.cs.length := by rw [← hpre]; simp
            have h5 := words_len (pre := pre2) fun z hz => List.mem_of_mem_take (show z ∈ st.cs by rw [← hpre]; exact List.mem_append_left _ hz)
            simp only [List.append_nil, List.length_map, List.length_append]
            omega
          · have T2 := tupL (H := H2) (D := p) (kp_new_set (o := .lst (((encA st ++ (pre2.map wordE).flatten).map V.int) ++ (V.int z.length :: ((z.cps.toList.map fun c => (((Txt.index0 lettersS ⟨#[c]⟩).getD 0 : Nat) : Int) + 1).map V.int ++ [])))) (o1 := .lst (V.int z.length :: ((z.cps.toList.map fun c => (((Txt.index0 lettersS ⟨#[c]⟩).getD 0 : Nat) : Int) + 1).map V.int ++ []))) hp1) hx2
            refine ⟨((ex.trans e2).trans (Ext.new hp1)).own hp, ⟨_, _, _, rfl⟩, T2.t _ _ (e2 _ _ hc), pre2 ++ [z], by rw [← hpre]; simp, ?_⟩
            rw [upd_same]
            simp [wordE]
      · intro σ Hx ⟨ex, ⟨x, y, z, hσ⟩, hc, pre2, hpre, hxp⟩
        subst hσ
        rw [List.append_nil] at hpre
        subst hpre
        refine ⟨_, rfl, p, rfl, _, by rw [hxp]; rfl, _, rfl, p, _, rfl, hxp, ?_, fun p3 hp3 => q p3 _ (ex.trans (Ext.new hp3)) ?_ ?_⟩
        · have := encA_len ok
          have h3 := ok.n3
          have h4 := Sto.cs_len ok
          have h5 := words_len (pre := st.cs) fun z hz => List.mem_of_mem_take hz
          simp only [List.length_append, List.length_map, List.length_singleton]
          omega
        · cases z : H p3 with
          | none => rfl
          | some u => rw [ex _ _ z] at hp3; cases hp3
        · rw [upd_same]
          simp [encL, encB]
end
end CC
set_option maxHeartbeats 4000000
namespace CC
open PySem PySem.Spec PyProof.Rows L2 StX
theorem lkRd {a b : V} : List.lookup ("data" : Str) [(("data" : Str), a), (("spot" : Str), b)] = some a := rfl
theorem lkRs {a b : V} : List.lookup ("spot" : Str) [(("data" : Str), a), (("spot" : Str), b)] = some b := rfl
theorem pfR1 {x : V} : putF ("data" : Str) x [] = [(("data" : Str), x)] := rfl
theorem pfR2 {a x : V} : putF ("spot" : Str) x [(("data" : Str), a)] = [(("data" : Str), a), (("spot" : Str), x)] := rfl
theorem pfR3 {a b x : V} : putF ("spot" : Str) x [(("data" : Str), a), (("spot" : Str), b)] = [(("data" : Str), a), (("spot" : Str), x)] := rfl
local macro_rules | `(tactic| walk_at "rd") => `(tactic| simp only [tVar, tC, tOp, tUn, rI0, rI, rU, rEq, rNe, tTest, tB, tAnd, tOr, tNot, tAndV, tOrV, tNotV, tIf, tChain, tIfS, tRet, tRetN, tSeq, tNext, tAsg, gName, tDrop, tCons, tNil, tCB, tCR, tTup, tLst, rIsF, tyN_non, tyN_bl, tyN_int, tyN_str, tyN_ref, isB_1, isB_2, isB_3, isB_4, isB_5, isB_6, isB_7, isB_8, tyO_tup, tyO_lst, tyO_dK, tyO_frz, rIxG, rLenG, rInG, rAllG, rSumG, rListG, rTupG, tLcF, tLcP, tForF, tForP, srcTup, srcLst, srcStr, srcRng, srcEnum, srcZip, srcEnumT, tYes, wipe, gTupG, gCons, gNil, tStarG, tSl, rSlTG, rSlLG, rCatTG, rRep, tJoinG, rSortedSG, tApp, tExd, tupO_tup, lstO_lst, seqO_tup, seqO_lst, dKO_dK, tNoPart, tPart, tFl, sFl, tSls, sSls, tMeS, tPrS, tPrF, tMethR, tMake, sFlAug, rLenS, L2.start, List.map_cons, List.map_nil, List.length_cons, List.length_nil, Nat.zero_add, Nat.reduceAdd, Nat.reduceSub, List.replicate_succ, List.replicate_zero, List.forall_mem_map, List.cons_append, List.nil_append, List.getElem?_cons_succ, List.getElem?_cons_zero, List.set_cons_zero, List.set_cons_succ, Option.some.injEq, V.int.injEq, V.str.injEq, V.bl.injEq, V.ref.injEq, V.ty.injEq, List.cons.injEq, HO.tup.injEq, HO.lst.injEq, HO.ins.injEq, reduceCtorEq, exists_eq_left', exists_eq_left, exists_eq_right', exists_eq_right, exists_and_left, exists_and_right, and_true, true_and, and_false, false_and, or_false, false_or, or_true, true_or, exists_const, exists_eq', exists_eq, scal_ii, scal_ss, scal_bb, scal_nn, scal_ns, scal_sn, tSlB, sSlB, upd_upd, tPar, tLcI, tSIdx, lkRd, lkRs, pfR1, pfR2, pfR3, upd_same, if_true, if_false, ite_true, ite_false, Bool.not_true, Bool.not_false, Bool.true_and, Bool.and_true, Bool.false_eq_true, decide_true, decide_false, sz1, atI_0, atI_1, and_assoc])
local macro_rules | `(tactic| walk_at "rh") => `(tactic| simp only [*, tVar, tC, tOp, tUn, rI0, rI, rU, rEq, rNe, tTest, tB, tAnd, tOr, tNot, tAndV, tOrV, tNotV, tIf, tChain, tIfS, tRet, tRetN, tSeq, tNext, tAsg, gName, tDrop, tCons, tNil, tCB, tCR, tTup, tLst, rIsF, tyN_non, tyN_bl, tyN_int, tyN_str, tyN_ref, isB_1, isB_2, isB_3, isB_4, isB_5, isB_6, isB_7, isB_8, tyO_tup, tyO_lst, tyO_dK, tyO_frz, rIxG, rLenG, rInG, rAllG, rSumG, rListG, rTupG, tLcF, tLcP, tForF, tForP, srcTup, srcLst, srcStr, srcRng, srcEnum, srcZip, srcEnumT, tYes, wipe, gTupG, gCons, gNil, tStarG, tSl, rSlTG, rSlLG, rCatTG, rRep, tJoinG, rSortedSG, tApp, tExd, tupO_tup, lstO_lst, seqO_tup, seqO_lst, dKO_dK, tNoPart, tPart, tFl, sFl, tSls, sSls, tMeS, tPrS, tPrF, tMethR, tMake, sFlAug, rLenS, L2.start, List.map_cons, List.map_nil, List.length_cons, List.length_nil, Nat.zero_add, Nat.reduceAdd, Nat.reduceSub, List.replicate_succ, List.replicate_zero, List.forall_mem_map, List.cons_append, List.nil_append, List.getElem?_cons_succ, List.getElem?_cons_zero, List.set_cons_zero, List.set_cons_succ, Option.some.injEq, V.int.injEq, V.str.injEq, V.bl.injEq, V.ref.injEq, V.ty.injEq, List.cons.injEq, HO.tup.injEq, HO.lst.injEq, HO.ins.injEq, reduceCtorEq, exists_eq_left', exists_eq_left, exists_eq_right', exists_eq_right, exists_and_left, exists_and_right, and_true, true_and, and_false, false_and, or_false, false_or, or_true, true_or, exists_const, exists_eq', exists_eq, scal_ii, scal_ss, scal_bb, scal_nn, scal_ns, scal_sn, tSlB, sSlB, upd_upd, tPar, tLcI, tSIdx, lkRd, lkRs, pfR1, pfR2, pfR3, upd_same, if_true, if_false, ite_true, ite_false, Bool.not_true, Bool.not_false, Bool.true_and, Bool.and_true, Bool.false_eq_true, decide_true, decide_false, sz1, atI_0, atI_1, and_assoc])
section
variable {P : Program} {w : World} {K : PySem.W.Frag} {mg : Str → Option Value} {base : Heap}
/-- the reader at r has read pre and has rest to read -/
def RdAt (K : PySem.W.Frag) (H : Hp) (r a : Addr) (pre rest : List Int) : Prop := ∃ dx, H r = some (.ins (gA K "Reader") dx [("data", .ref a), ("spot", .int (pre.length : Nat))]) ∧ H a = some (.lst ((pre ++ rest).map V.int)) ∧ pre.length + rest.length ≤ 1000
def spRdInit (K : PySem.W.Frag) : Sp := fun vs H Q _ => ∃ (r a dx : Addr) (xs : List Int), vs = [.ref r, .ref a] ∧ Made H r (gA K "Reader") dx ∧ H a = some (.lst (xs.map V.int)) ∧ xs.length ≤ 1000 ∧ ∀ H', Kp r H H' → RdAt K H' r a [] xs → Q .non H'
theorem ok_Reader___init__ (T : Txt K mg w) : OkF P w K mg base CX0 2 (mA K "Reader" "__init__") ["self", "values"] (spRdInit K) := by
  refine mk0 (k := 1) T.d_Reader___init__ sc_Reader___init__ (fun _ _ _ _ _ _ us hl => match us, hl with | [_, _], _ => rfl) (fun vs H Q E h => ?_) (fun cdv A outer s H vs Q E hr h => ?_)
  · obtain ⟨r, a, dx, xs, rfl, _⟩ := h
    rfl
  · obtain ⟨r, a, dx, xs, rfl, M, ha, hl, q⟩ := h
    have hr1 := M.i
    refine ⟨_, (pss_cons (ps_flF T.cls_Reader T.na_Reader_data (pv 0) (pv 1))
    (pss_one (ps_flF T.cls_Reader T.na_Reader_spot (pv 0) pe_int))), ?_⟩
    walk_at "rh"
    have hra : a ≠ r := fun z => by
      subst z
      rw [hr1] at ha
      cases ha
    exact ⟨by decide, show (1 : Nat) < 1000 by decide, q _ Kp.set ⟨dx, upd_same, by rw [upd_ne hra]; exact ha, by simpa using hl⟩⟩
def spItem (K : PySem.W.Frag) : Sp := fun vs H Q _ => ∃ (r a : Addr) (pre rest : List Int) (lo hi v : Int), vs = [.ref r, .int lo, .int hi] ∧ RdAt K H r a pre (v :: rest) ∧ lo ≤ v ∧ v ≤ hi ∧ ∀ H', Kp r H H' → RdAt K H' r a (pre ++ [v]) rest → Q (.int v) H'
theorem ok_Reader_item (T : Txt K mg w) : OkF P w K mg base CX0 4 (mA K "Reader" "item") ["self", "low", "high"] (spItem K) := by
  have F_is_number := ok_is_number (P := P) (base := base) T
  refine mk0 (k := 3) T.d_Reader_item sc_Reader_item (fun _ _ _ _ _ _ us hl => match us, hl with | [_, _, _], _ => rfl) (fun vs H Q E h => ?_) (fun cdv A outer s H vs Q E hr h => ?_)
  · obtain ⟨r, a, pre, rest, lo, hi, v, rfl, _⟩ := h
    rfl
  · obtain ⟨r, a, pre, rest, lo, hi, v, rfl, ⟨dx, hr1, ha, hl⟩, h1, h2, q⟩ := h
    refine ⟨_, (pss_cons (ps_if (PW.pt (pw_or (pt_cmpR op_ge (pe_flF T.cls_Reader T.na_Reader_spot (pv 0)) (pe_callB call_lenG rfl T.b_len PySem.boot_len (pa_cons (pe_flF T.cls_Reader T.na_Reader_data (pv 0)) pa_nil)) (nomark _)) (pw_or1 (pt_not (pt_val (pe_cR F_is_number.raw hr T.g_is_number pass0 (pa_cons (pe_ix ix_G (pe_flF T.cls_Reader T.na_Reader_data (pv 0)) (pe_flF T.cls_Reader T.na_Reader_spot (pv 0)) (fun _ _ => rfl)) (pa_cons (pv 1) (pa_cons (pv 2) pa_nil))))))))) (pss_one (ps_never)) pss_nil)
    (pss_cons (ps_flAug T.cls_Reader T.na_Reader_spot (pv 0) pe_int)
    (pss_one (ps_ret (pe_ix ix_G (pe_flF T.cls_Reader T.na_Reader_data (pv 0)) (pe_op op_sub (pe_flF T.cls_Reader T.na_Reader_spot (pv 0)) pe_int) (fun _ _ => rfl)))))), ?_⟩
    walk_at "rh"
    have hra : a ≠ r := fun z => by
      subst z
      rw [hr1] at ha
      cases ha
    have e1 : atI (List.map V.int (pre ++ v :: rest)) (pre.length : Nat) = some (.int v) := atI_nat (by simp)
    rw [if_neg (by simp; omega)]
    refine ⟨_, e1, v, lo, hi, rfl, _, rfl, ?_⟩
    rw [if_neg (by simp [h1, h2])]
    refine ⟨_, _, hr1, (pre.length : Nat), rfl, _, _, hr1, show (2 : Nat) < 1000 by decide, .ref a, rfl, .int ((pre.length : Nat) + 1), rfl, _, rfl, a, rfl, _, by rw [upd_ne hra, ha]; rfl, .int v, ?_, ?_⟩
    · rw [show ((pre.length : Nat) : Int) + 1 - 1 = (pre.length : Nat) by omega]
      exact e1
    · refine q _ Kp.set ⟨dx, ?_, ?_, ?_⟩
      · rw [upd_same, pfR3]
        simp
      · rw [upd_ne hra, ha]
        simp
      · simp only [List.length_append, List.length_cons, List.length_nil] at hl ⊢
        omega
theorem RdAt.ext {H H' : Hp} {r a : Addr} {pre rest : List Int} (h : RdAt K H r a pre rest) (e : Ext H H') : RdAt K H' r a pre rest := by
  obtain ⟨dx, h1, h2, h3⟩ := h
  exact ⟨dx, e _ _ h1, e _ _ h2, h3⟩
def spRdDoor (K : PySem.W.Frag) : Sp := fun vs H Q _ => ∃ (r a : Addr) (pre rest : List Int) (d : Int × Int), vs = [.ref r] ∧ RdAt K H r a pre (d.1 :: d.2 :: rest) ∧ ((1 ≤ d.1 ∧ d.1 ≤ 9) ∧ 1 ≤ d.2 ∧ d.2 ≤ 2) ∧ ∀ p H', H p = none → Kp r H H' → RdAt K H' r a (pre ++ [d.1, d.2]) rest → DoorAt H' p d → Q (.ref p) H'
theorem ok_Reader_read_door (T : Txt K mg w) : OkF P w K mg base CX0 6 (mA K "Reader" "read_door") ["self"] (spRdDoor K) := by
  have F_Reader_item := ok_Reader_item (P := P) (base := base) T
  refine mk0 (k := 5) T.d_Reader_read_door sc_Reader_read_door (fun _ _ _ _ _ _ us hl => match us, hl with | [_], _ => rfl) (fun vs H Q E h => ?_) (fun cdv A outer s H vs Q E hr h => ?_)
  · obtain ⟨r, a, pre, rest, d, rfl, _⟩ := h
    rfl
  · obtain ⟨r, a, pre, rest, d, rfl, hR, hd, q⟩ := h
    obtain ⟨dx, hr1, ha, hl⟩ := id hR
    refine ⟨_, (pss_cons (CC.st (i := 1) sc_Reader_read_door.nd (pe_meF T.cls_Reader T.me_Reader_item F_Reader_item.raw hr pass0 (pv 0) (pa_cons pe_int (pa_cons (pe_gi T.c_MAX_WARMTH) pa_nil))))
    (pss_one (ps_ret (pe_tup (pa_cons (pv 1) (pa_cons (pe_meF T.cls_Reader T.me_Reader_item F_Reader_item.raw hr pass0 (pv 0) (pa_cons pe_int (pa_cons (pe_gi T.c_MAX_BEHIND) pa_nil))) pa_nil)))))), ?_⟩
    walk_at "rh"
    refine ⟨rfl, r, a, pre, _, _, _, d.1, rfl, hR, by omega, by omega, fun H1 k1 R1 => ?_⟩
    obtain ⟨dx1, hr2, _⟩ := id R1
    refine ⟨_, _, hr2, rfl, r, a, _, _, _, _, d.2, rfl, R1, by omega, by omega, fun H2 k2 R2 => ⟨by omega, fun p hp => ?_⟩⟩
    have e := Ext.new (o := .tup [.int d.1, .int d.2]) hp
    refine q p _ ?_ (k1.trans (k2.trans (e.kp r))) (by simpa using R2.ext e) upd_same
    have hpr : p ≠ r := fun z => by
      subst z
      obtain ⟨_, h, _⟩ := R2
      rw [h] at hp
      cases hp
    exact none_of (b := r) (k1.trans k2) hpr hp
abbrev codeC (c : Nat) : Int := (((Txt.index0 lettersS ⟨#[c]⟩).getD 0 : Nat) : Int) + 1
theorem names_codes : ∀ z, z ∈ names3 → 1 ≤ z.length ∧ Txt.join "" (z.cps.toList.map fun c => ⟨#[c]⟩) = z ∧ ∀ c, c ∈ z.cps.toList → codeC c ≤ 26 ∧ lettersS.cps.toList[(codeC c - 1).toNat]? = some c := by
  intro z hz
  simp [names3] at hz
  rcases hz with rfl | rfl | rfl <;> exact ⟨by decide +kernel, by decide +kernel, by decide +kernel⟩
theorem codeC_pos (c : Nat) : 1 ≤ codeC c := by
  unfold codeC
  omega
theorem oneLen (l : List Nat) : ((l.map fun c => (⟨#[c]⟩ : Str)).map (·.length)).sum = l.length := by
  induction l with
  | nil => rfl
  | cons a r ih =>
    simp only [List.map_cons, List.sum_cons, ih, List.length_cons]
    show 1 + r.length = r.length + 1
    omega
def spRdCrate (K : PySem.W.Frag) : Sp := fun vs H Q _ => ∃ (r a : Addr) (pre rest : List Int) (z : Str), vs = [.ref r] ∧ RdAt K H r a pre (wordE z ++ rest) ∧ z ∈ names3 ∧ ∀ H', Kp r H H' → RdAt K H' r a (pre ++ wordE z) rest → Q (.str z) H'
theorem ok_Reader_read_crate (T : Txt K mg w) : OkF P w K mg base CX0 6 (mA K "Reader" "read_crate") ["self"] (spRdCrate K) := by
  have F_Reader_item := ok_Reader_item (P := P) (base := base) T
  refine mk0 (k := 5) T.d_Reader_read_crate sc_Reader_read_crate (fun _ _ _ _ _ _ us hl => match us, hl with | [_], _ => rfl) (fun vs H Q E h => ?_) (fun cdv A outer s H vs Q E hr h => ?_)
  · obtain ⟨r, a, pre, rest, d, rfl, _⟩ := h
    rfl
  · obtain ⟨r, a, pre, rest, z, rfl, hR, hz, q⟩ := h
    obtain ⟨dx, hr1, ha, hl⟩ := id hR
    obtain ⟨z1, z2, z3⟩ := names_short z hz
    refine ⟨_, (pss_cons (CC.st (i := 1) sc_Reader_read_crate.nd (pe_meF T.cls_Reader T.me_Reader_item F_Reader_item.raw hr pass0 (pv 0) (pa_cons pe_int (pa_cons (pe_gi T.c_MAX_LETTERS) pa_nil))))
    (pss_one (ps_ret (pe_joinG pe_str (lcI (own := [("turn", 2)]) rfl sc_Reader_read_crate.nd (sr_rng T.b_range (pa_cons (pv 1) pa_nil)) (blkOk_by (N := n_Reader_read_crate) (sc := defScope s_Reader_read_crate) (by decide +kernel)) (fun _ _ _ _ _ => (pg_name (i := 2) sc_Reader_read_crate.nd rfl (.inl rfl))) (fun _ _ _ _ _ => pts_nil) (fun _ _ _ _ _ => (pe_ix ix_str (pe_gs T.c_LETTERS) (pe_op op_sub (pe_meF T.cls_Reader T.me_Reader_item F_Reader_item.raw hr pass0 (pv 0) (pa_cons pe_int (pa_cons (pe_callB call_len_str rfl T.b_len PySem.boot_len (pa_cons (pe_gs T.c_LETTERS) pa_nil)) pa_nil))) pe_int) (fun _ _ => rfl)))))))), ?_⟩
    walk_at "rh"
    refine ⟨rfl, r, a, pre, _, _, _, (z.length : Int), rfl, hR, ?_, by omega, fun H1 k1 R1 => ?_⟩
    · have := (names_codes z hz).1
      omega
    obtain ⟨dx1, hr2, ha1, _⟩ := id R1
    obtain ⟨n1, n2, n3⟩ := names_codes z hz
    have hzl : z.cps.toList.length = z.length := by simp [Str.length]
    refine ⟨z.length, rfl, by omega, Nat, List.range z.length, ⟨fun i => .int (i : Nat), rfl⟩, by rw [List.length_range]; omega,
      fun D rr acc Hx => ∃ c1 c2, c1 ++ c2 = z.cps.toList ∧ c2.length = rr.length ∧ acc = c1.map (fun c => .str ⟨#[c]⟩) ∧ H1 D = none ∧ Kp r H1 Hx ∧ RdAt K Hx r a (pre ++ ((z.length : Int) :: c1.map codeC)) (c2.map codeC ++ rest) ∧ Hx D = some (.lst acc),
      fun D hD => ⟨[], z.cps.toList, rfl, by rw [hzl, List.length_range], rfl, hD, (Ext.new hD).kp r, by have := R1.ext (Ext.new (o := .lst []) hD); exact this, upd_same⟩, fun _ _ _ _ _ => trivial, ?_, ?_⟩
    · intro D i rr acc Hx ⟨c1, c2, h1, h2, h3, h4, h5, h6, h7⟩
      cases c2 with
      | nil => cases h2
      | cons c c2 =>
        obtain ⟨dx5, hr5, _⟩ := id h6
        obtain ⟨m1, m2⟩ := n3 c (by rw [← h1]; simp)
        have m0 := codeC_pos c
        refine ⟨_, _, hr5, rfl, by decide, r, a, _, c2.map codeC ++ rest, 1, _, codeC c, rfl, h6, m0, m1, fun H6 k6 R6 => ⟨codeC c, rfl, _, codeC c - 1, c, rfl, rfl, by decide, ?_, ?_⟩⟩
        · have := atI_nat (xs := lettersS.cps.toList) (j := (codeC c - 1).toNat) m2
          rwa [show (((codeC c - 1).toNat : Nat) : Int) = codeC c - 1 by omega] at this
        · have hDr : D ≠ r := fun z => by
            subst z
            rw [hr2] at h4
            cases h4
          have hD6 := k6 _ _ hDr h7
          have kD : Kp D H6 (upd H6 D (.lst (acc ++ [V.str ⟨#[c]⟩]))) := Kp.set
          refine ⟨hD6, c1 ++ [c], c2, by rw [← h1]; simp, by simpa using h2, by rw [h3]; simp, h4, fun b u n e => ?_, ?_, upd_same⟩
          · rw [upd_ne (fun z => by subst z; rw [h4] at e; cases e)]
            exact k6 _ _ n (h5 _ _ n e)
          · obtain ⟨dx6, g1, g2, g3⟩ := R6
            refine ⟨dx6, ?_, ?_, ?_⟩
            · rw [upd_ne (Ne.symm hDr), g1]
              simp
            · rw [upd_ne (fun z => by subst z; rw [ha1] at h4; cases h4), g2]
              simp
            · simpa using g3
    · intro D acc Hx ⟨c1, c2, h1, h2, h3, h4, h5, h6, h7⟩
      have h2 : c2 = [] := List.length_eq_zero_iff.mp h2
      subst h2
      rw [List.append_nil] at h1
      subst h1
      refine ⟨z.cps.toList.map fun c => ⟨#[c]⟩, by rw [h7, h3, List.map_map]; rfl, ?_, ?_⟩
      · rw [oneLen]
        show _ + _ * 0 ≤ _
        omega
      · rw [n2]
        exact q Hx (k1.trans h5) (by simpa [wordE] using h6)
end
end CC
set_option maxHeartbeats 4000000
namespace CC
open PySem PySem.Spec PyProof.Rows L2 StX
local macro_rules | `(tactic| walk_at "rd") => `(tactic| simp only [tVar, tC, tOp, tUn, rI0, rI, rU, rEq, rNe, tTest, tB, tAnd, tOr, tNot, tAndV, tOrV, tNotV, tIf, tChain, tIfS, tRet, tRetN, tSeq, tNext, tAsg, gName, tDrop, tCons, tNil, tCB, tCR, tTup, tLst, rIsF, tyN_non, tyN_bl, tyN_int, tyN_str, tyN_ref, isB_1, isB_2, isB_3, isB_4, isB_5, isB_6, isB_7, isB_8, tyO_tup, tyO_lst, tyO_dK, tyO_frz, rIxG, rLenG, rInG, rAllG, rSumG, rListG, rTupG, tLcF, tLcP, tForF, tForP, srcTup, srcLst, srcStr, srcRng, srcEnum, srcZip, srcEnumT, tYes, wipe, gTupG, gCons, gNil, tStarG, tSl, rSlTG, rSlLG, rCatTG, rRep, tJoinG, rSortedSG, tApp, tExd, tupO_tup, lstO_lst, seqO_tup, seqO_lst, dKO_dK, tNoPart, tPart, tFl, sFl, tSls, sSls, tMeS, tPrS, tPrF, tMethR, tMake, sFlAug, rLenS, L2.start, List.map_cons, List.map_nil, List.length_cons, List.length_nil, Nat.zero_add, Nat.reduceAdd, Nat.reduceSub, List.replicate_succ, List.replicate_zero, List.forall_mem_map, List.cons_append, List.nil_append, List.getElem?_cons_succ, List.getElem?_cons_zero, List.set_cons_zero, List.set_cons_succ, Option.some.injEq, V.int.injEq, V.str.injEq, V.bl.injEq, V.ref.injEq, V.ty.injEq, List.cons.injEq, HO.tup.injEq, HO.lst.injEq, HO.ins.injEq, reduceCtorEq, exists_eq_left', exists_eq_left, exists_eq_right', exists_eq_right, exists_and_left, exists_and_right, and_true, true_and, and_false, false_and, or_false, false_or, or_true, true_or, exists_const, exists_eq', exists_eq, scal_ii, scal_ss, scal_bb, scal_nn, scal_ns, scal_sn, tSlB, sSlB, upd_upd, tPar, tLcI, tSIdx, lkRd, lkRs, pfR1, pfR2, pfR3, upd_same, if_true, if_false, ite_true, ite_false, Bool.not_true, Bool.not_false, Bool.true_and, Bool.and_true, Bool.false_eq_true, decide_true, decide_false, sz1, atI_0, atI_1, and_assoc])
local macro_rules | `(tactic| walk_at "rh") => `(tactic| simp only [*, tVar, tC, tOp, tUn, rI0, rI, rU, rEq, rNe, tTest, tB, tAnd, tOr, tNot, tAndV, tOrV, tNotV, tIf, tChain, tIfS, tRet, tRetN, tSeq, tNext, tAsg, gName, tDrop, tCons, tNil, tCB, tCR, tTup, tLst, rIsF, tyN_non, tyN_bl, tyN_int, tyN_str, tyN_ref, isB_1, isB_2, isB_3, isB_4, isB_5, isB_6, isB_7, isB_8, tyO_tup, tyO_lst, tyO_dK, tyO_frz, rIxG, rLenG, rInG, rAllG, rSumG, rListG, rTupG, tLcF, tLcP, tForF, tForP, srcTup, srcLst, srcStr, srcRng, srcEnum, srcZip, srcEnumT, tYes, wipe, gTupG, gCons, gNil, tStarG, tSl, rSlTG, rSlLG, rCatTG, rRep, tJoinG, rSortedSG, tApp, tExd, tupO_tup, lstO_lst, seqO_tup, seqO_lst, dKO_dK, tNoPart, tPart, tFl, sFl, tSls, sSls, tMeS, tPrS, tPrF, tMethR, tMake, sFlAug, rLenS, L2.start, List.map_cons, List.map_nil, List.length_cons, List.length_nil, Nat.zero_add, Nat.reduceAdd, Nat.reduceSub, List.replicate_succ, List.replicate_zero, List.forall_mem_map, List.cons_append, List.nil_append, List.getElem?_cons_succ, List.getElem?_cons_zero, List.set_cons_zero, List.set_cons_succ, Option.some.injEq, V.int.injEq, V.str.injEq, V.bl.injEq, V.ref.injEq, V.ty.injEq, List.cons.injEq, HO.tup.injEq, HO.lst.injEq, HO.ins.injEq, reduceCtorEq, exists_eq_left', exists_eq_left, exists_eq_right', exists_eq_right, exists_and_left, exists_and_right, and_true, true_and, and_false, false_and, or_false, false_or, or_true, true_or, exists_const, exists_eq', exists_eq, scal_ii, scal_ss, scal_bb, scal_nn, scal_ns, scal_sn, tSlB, sSlB, upd_upd, tPar, tLcI, tSIdx, lkRd, lkRs, pfR1, pfR2, pfR3, upd_same, if_true, if_false, ite_true, ite_false, Bool.not_true, Bool.not_false, Bool.true_and, Bool.and_true, Bool.false_eq_true, decide_true, decide_false, sz1, atI_0, atI_1, and_assoc])
section
variable {P : Program} {w : World} {K : PySem.W.Frag} {mg : Str → Option Value} {base : Heap}
theorem chk_bound (xs : List Int) : 0 ≤ chkL xs ∧ chkL xs ≤ 250 := by
  unfold chkL
  rcases List.eq_nil_or_concat xs with rfl | ⟨r, x, rfl⟩
  · exact ⟨by decide, by decide⟩
  · rw [List.concat_eq_append, List.foldl_append]
    simp only [List.foldl_cons, List.foldl_nil]
    have := Int.fmod_nonneg_of_pos (11 * List.foldl (fun f v => (11 * f + v).fmod 251) 4 r + x) (b := 251) (by decide)
    have := Int.fmod_lt_of_pos (11 * List.foldl (fun f v => (11 * f + v).fmod 251) 4 r + x) (b := 251) (by decide)
    omega
theorem cutV_take {xs : List V} {n : Nat} (h : n ≤ xs.length) : cutV xs none (some (n : Nat)) = xs.take n := by
  have e1 : HT.sIx xs.length xs.length (some ((n : Nat) : Int)) = n := by
    rw [HT.sIx_nat]
    omega
  have e2 : HT.sIx xs.length 0 (none : Option Int) = 0 := rfl
  unfold cutV
  rw [e1, e2]
  simp
def spFinish (K : PySem.W.Frag) : Sp := fun vs H Q _ => ∃ (r a : Addr) (pre : List Int), vs = [.ref r] ∧ RdAt K H r a pre [chkL pre] ∧ ∀ H', Kp r H H' → Q .non H'
theorem ok_Reader_finish (T : Txt K mg w) : OkF P w K mg base CX0 6 (mA K "Reader" "finish") ["self"] (spFinish K) := by
  have F_Reader_item := ok_Reader_item (P := P) (base := base) T
  have F_checksum := ok_checksum (P := P) (base := base) T
  refine mk0 (k := 5) T.d_Reader_finish sc_Reader_finish (fun _ _ _ _ _ _ us hl => match us, hl with | [_], _ => rfl) (fun vs H Q E h => ?_) (fun cdv A outer s H vs Q E hr h => ?_)
  · obtain ⟨r, a, pre, rfl, _⟩ := h
    rfl
  · obtain ⟨r, a, pre, rfl, hR, q⟩ := h
    obtain ⟨dx, hr1, ha, hl⟩ := id hR
    refine ⟨_, (pss_cons (CC.st (i := 1) sc_Reader_finish.nd (pe_cR F_checksum.raw hr T.g_checksum pass0 (pa_cons (pe_slice sl_lstG (pe_flF T.cls_Reader T.na_Reader_data (pv 0)) po_none (po_some (pe_flF T.cls_Reader T.na_Reader_spot (pv 0)))) pa_nil)))
    (pss_cons (ps_expr (pe_meF T.cls_Reader T.me_Reader_item F_Reader_item.raw hr pass0 (pv 0) (pa_cons (pv 1) (pa_cons (pv 1) pa_nil))))
    (pss_one (ps_if (pt_cmpR op_lt (pe_flF T.cls_Reader T.na_Reader_spot (pv 0)) (pe_callB call_lenG rfl T.b_len PySem.boot_len (pa_cons (pe_flF T.cls_Reader T.na_Reader_data (pv 0)) pa_nil)) (nomark _)) (pss_one (ps_never)) pss_nil)))), ?_⟩
    walk_at "rh"
    intro p hp
    have hcut : cutV (List.map V.int (pre ++ [chkL pre])) none (some (pre.length : Nat)) = pre.map V.int := by
      rw [cutV_take (by simp)]
      simp
    rw [hcut]
    have e1 := Ext.new (o := .lst (pre.map V.int)) hp
    have hr2 := e1 _ _ hr1
    refine ⟨p, pre, rfl, upd_same, _, _, hr2, rfl, r, a, pre, [], _, _, chkL pre, rfl, hR.ext e1, by omega, by omega, fun H2 k2 R2 => ?_⟩
    obtain ⟨dx2, hr3, ha2, _⟩ := id R2
    refine ⟨_, _, hr3, _, rfl, _, _, hr3, _, rfl, a, rfl, _, by rw [ha2]; rfl, _, rfl, ?_⟩
    rw [if_neg (by simp)]
    exact q _ ((e1.kp r).trans k2)
def spDecode (K : PySem.W.Frag) : Sp := fun vs H Q _ => ∃ (a : Addr) (s : Sto), vs = [.ref a] ∧ H a = some (.lst ((encL s).map V.int)) ∧ s.Ok ∧ ∀ p H', Ext H H' → H p = none → StoAt K H' p s → Q (.ref p) H'
theorem ok_decode_store (T : Txt K mg w) : OkF P w K mg base CX0 10 (gA K "decode_store") ["values"] (spDecode K) := by
  have F_Reader___init__ := ok_Reader___init__ (P := P) (base := base) T
  have F_Reader_item := ok_Reader_item (P := P) (base := base) T
  have F_Reader_read_door := ok_Reader_read_door (P := P) (base := base) T
  have F_Reader_read_crate := ok_Reader_read_crate (P := P) (base := base) T
  have F_Reader_finish := ok_Reader_finish (P := P) (base := base) T
  have F_Store___init__ := ok_Store___init__ (P := P) (base := base) T
  refine mk0 (k := 9) T.d_decode_store sc_decode_store (fun _ _ _ _ _ _ us hl => match us, hl with | [_], _ => rfl) (fun vs H Q E h => ?_) (fun cdv A outer s H vs Q E hr h => ?_)
  · obtain ⟨a, st, rfl, _⟩ := h
    rfl
  · obtain ⟨a, st, rfl, ha, ok, q⟩ := h
    refine ⟨_, (pss_cons (CC.st (i := 1) sc_decode_store.nd (pe_mk T.mk_Reader F_Reader___init__ hr T.g_Reader.1 pass0 (pa_cons (pv 0) pa_nil)))
    (pss_cons (ps_expr (pe_meF T.cls_Reader T.me_Reader_item F_Reader_item.raw hr pass0 (pv 1) (pa_cons (pe_gi T.c_FIRST) (pa_cons (pe_gi T.c_FIRST) pa_nil))))
    (pss_cons (setLcI (i := 2) (own := [("turn", 4)]) rfl sc_decode_store.nd (sw_true rfl rfl rfl (by decide +kernel)) (sr_rng T.b_range (pa_cons (pe_meF T.cls_Reader T.me_Reader_item F_Reader_item.raw hr pass0 (pv 1) (pa_cons pe_int (pa_cons (pe_gi T.c_MAX_DOORS) pa_nil))) pa_nil)) (blkOk_by (N := n_decode_store) (sc := defScope s_decode_store) (by decide +kernel)) (fun _ _ _ _ _ => (pg_name (i := 4) sc_decode_store.nd rfl (.inl rfl))) (fun _ _ _ _ _ => pts_nil) (fun _ _ _ _ _ => (pe_meF0 T.cls_Reader T.me_Reader_read_door F_Reader_read_door.raw hr pass0 (pv 1))))
    (pss_cons (setLcI (i := 3) (own := [("turn", 4)]) rfl sc_decode_store.nd (sw_true rfl rfl rfl (by decide +kernel)) (sr_rng T.b_range (pa_cons (pe_meF T.cls_Reader T.me_Reader_item F_Reader_item.raw hr pass0 (pv 1) (pa_cons pe_int (pa_cons (pe_gi T.c_MAX_CRATES) pa_nil))) pa_nil)) (blkOk_by (N := n_decode_store) (sc := defScope s_decode_store) (by decide +kernel)) (fun _ _ _ _ _ => (pg_name (i := 4) sc_decode_store.nd rfl (.inl rfl))) (fun _ _ _ _ _ => pts_nil) (fun _ _ _ _ _ => (pe_meF0 T.cls_Reader T.me_Reader_read_crate F_Reader_read_crate.raw hr pass0 (pv 1))))
    (pss_cons (ps_expr (pe_meF0 T.cls_Reader T.me_Reader_finish F_Reader_finish.raw hr pass0 (pv 1)))
    (pss_one (ps_ret (pe_mk T.mk_Store F_Store___init__ hr T.g_Store.1 pass0 (pa_cons (pe_callTy call_tupleG rfl T.b_tuple (by decide +kernel) (pa_cons (pv 2) pa_nil)) (pa_cons (pe_callTy call_tupleG rfl T.b_tuple (by decide +kernel) (pa_cons (pv 3) pa_nil)) pa_nil)))))))))), ?_⟩
    walk_at "rh"
    have hln : (encL st).length ≤ 1000 := by
      have h1 := encA_len ok
      have h3 := ok.n3
      have h4 := Sto.cs_len ok
      have h5 := words_len (pre := st.cs) fun z hz => List.mem_of_mem_take hz
      simp only [encL, encB, List.length_append, List.length_singleton]
      omega
    have hd1 := ok.d.d1
    have hd2 := ok.d.d2
    have hn1 := ok.n1
    have hn3 := ok.n3
    have hcl := Sto.cs_len ok
    intro x dx hx hdx ndx
    have e1 := Made.ext (C := gA K "Reader") hx hdx
    refine ⟨x, a, dx, encL st, rfl, Made.of ndx, e1 _ _ ha, hln, fun H1 k1 R1 => ⟨rfl, ?_⟩⟩
    have n1 : ∀ {H' : Hp}, Kp x H1 H' → Ext H H' := fun {H'} k b u e => k _ _ (fun z => by subst z; rw [hx] at e; cases e) (k1 _ _ (fun z => by subst z; rw [hx] at e; cases e) (e1 _ _ e))
    obtain ⟨d1, hr1, ha1, _⟩ := id R1
    have eL : encL st = 71 :: ((st.ds.length : Nat) : Int) :: ((st.ds.map fun d => [d.1, d.2]).flatten ++ (((st.cs.length : Nat) : Int) :: ((st.cs.map wordE).flatten ++ [chkL (encB st)]))) := by simp [encL, encB, encA]
    rw [eL] at R1
    refine ⟨_, _, hr1, rfl, x, a, [], _, _, _, 71, rfl, R1, by omega, by omega, fun H2 k2 R2 => ?_⟩
    obtain ⟨d2, hr2, ha2, _⟩ := id R2
    refine ⟨_, _, hr2, rfl, x, a, _, _, _, _, ((st.ds.length : Nat) : Int), rfl, R2, by omega, by omega, fun H3 k3 R3 => ?_⟩
    obtain ⟨d3, hr3, ha3, _⟩ := id R3
    refine ⟨st.ds.length, rfl, by omega, Nat, List.range st.ds.length, ⟨fun i => .int (i : Nat), rfl⟩, by rw [List.length_range]; omega,
      fun D rr acc Hx => ∃ (l1 : List (Addr × (Int × Int))) (d2 : Doors), l1.map Prod.snd ++ d2 = st.ds ∧ d2.length = rr.length ∧ acc = l1.map (fun q => .ref q.1) ∧ (∀ q, q ∈ l1 → DoorAt Hx q.1 q.2) ∧ H3 D = none ∧ Kp x H3 Hx ∧ RdAt K Hx x a ([71, ((st.ds.length : Nat) : Int)] ++ ((l1.map Prod.snd).map fun d => [d.1, d.2]).flatten) ((d2.map fun d => [d.1, d.2]).flatten ++ (((st.cs.length : Nat) : Int) :: ((st.cs.map wordE).flatten ++ [chkL (encB st)]))) ∧ Hx D = some (.lst acc),
      fun D hD => ⟨[], st.ds, rfl, by rw [List.length_range], rfl, fun q hq => (nomatch hq), hD, (Ext.new hD).kp x, R3.ext (Ext.new hD), upd_same⟩, fun _ _ _ _ _ => trivial, ?_, ?_⟩
    · intro D i rr acc Hx ⟨l1, d2, g1, g2, g3, g4, g5, g6, g7, g8⟩
      cases d2 with
      | nil => cases g2
      | cons d d2 =>
        obtain ⟨d5, hr5, ha5, _⟩ := id g7
        refine ⟨_, _, hr5, rfl, x, a, _, _, d, rfl, g7, ok.d.dw d (by rw [← g1]; simp), fun p H6 hp k6 R6 hd6 => ?_⟩
        have hDx : D ≠ x := fun z => by
          subst z
          rw [hr3] at g5
          cases g5
        have hD6 := k6 _ _ hDx g8
        have kD : Kp D H6 (upd H6 D (.lst (acc ++ [V.ref p]))) := Kp.set
        have tD := tupL kD hD6
        have t6 : Tup Hx H6 := k6.tup (fun xs z => by rw [hr5] at z; cases z) (fun xs z => by rw [hr5] at z; cases z) (fun o u z => by rw [hr5] at z; cases z)
        refine ⟨hD6, l1 ++ [(p, d)], d2, by rw [← g1]; simp, by simpa using g2, by rw [g3]; simp, fun q hq => ?_, g5, fun b u n e => ?_, ?_, upd_same⟩
        · rcases List.mem_append.mp hq with z | z
          · exact tD.t _ _ (t6.t _ _ (g4 q z))
          · rw [List.mem_singleton.mp z]
            exact tD.t _ _ hd6
        · rw [upd_ne (fun z => by subst z; rw [g5] at e; cases e)]
          exact k6 _ _ n (g6 _ _ n e)
        · obtain ⟨d6, h1, h2, h3⟩ := R6
          refine ⟨d6, ?_, ?_, ?_⟩
          · rw [upd_ne (Ne.symm hDx), h1]
            simp
          · rw [upd_ne (fun z => by subst z; rw [ha3] at g5; cases g5), h2]
            simp
          · simpa using h3
    · intro D acc Hx ⟨l1, d2, g1, g2, g3, g4, g5, g6, g7, g8⟩
      have g2 : d2 = [] := List.length_eq_zero_iff.mp g2
      subst g2
      rw [List.append_nil] at g1
      obtain ⟨d5, hr5, ha5, _⟩ := id g7
      refine ⟨_, _, hr5, rfl, x, a, _, _, _, _, ((st.cs.length : Nat) : Int), rfl, g7, by omega, by omega, fun H4 k4 R4 => ?_⟩
      obtain ⟨d4, hr4, ha4, _⟩ := id R4
      have hDx : D ≠ x := fun z => by
        subst z
        rw [hr3] at g5
        cases g5
      have hD4 := k4 _ _ hDx g8
      have t4 : Tup Hx H4 := k4.tup (fun xs z => by rw [hr5] at z; cases z) (fun xs z => by rw [hr5] at z; cases z) (fun o u z => by rw [hr5] at z; cases z)
      refine ⟨st.cs.length, rfl, by omega, Nat, List.range st.cs.length, ⟨fun i => .int (i : Nat), rfl⟩, by rw [List.length_range]; omega,
        fun F rr ac2 Hy => ∃ c1 c2 : List Str, c1 ++ c2 = st.cs ∧ c2.length = rr.length ∧ ac2 = c1.map V.str ∧ H4 F = none ∧ Kp x H4 Hy ∧ RdAt K Hy x a (encA st ++ (c1.map wordE).flatten) ((c2.map wordE).flatten ++ [chkL (encB st)]) ∧ Hy F = some (.lst ac2),
        fun F hF => ⟨[], st.cs, rfl, by rw [List.length_range], rfl, hF, (Ext.new hF).kp x, ?_, upd_same⟩, fun _ _ _ _ _ => trivial, ?_, ?_⟩
      · have := R4.ext (Ext.new (o := .lst []) hF)
        rw [g1] at this
        simpa [encA] using this
      · intro F i rr ac2 Hy ⟨c1, c2, m1, m2, m3, m4, m5, m6, m7⟩
        cases c2 with
        | nil => cases m2
        | cons z c2 =>
          obtain ⟨d6, hr6, ha6, _⟩ := id m6
          rw [List.map_cons, List.flatten_cons, List.append_assoc] at m6
          refine ⟨_, _, hr6, rfl, x, a, _, _, z, rfl, m6, List.mem_of_mem_take (show z ∈ st.cs by rw [← m1]; simp), fun H7 k7 R7 => ?_⟩
          have hFx : F ≠ x := fun z => by
            subst z
            rw [hr4] at m4
            cases m4
          have hF7 := k7 _ _ hFx m7
          refine ⟨hF7, c1 ++ [z], c2, by rw [← m1]; simp, by simpa using m2, by rw [m3]; simp, m4, fun b u n e => ?_, ?_, upd_same⟩
          · rw [upd_ne (fun z => by subst z; rw [m4] at e; cases e)]
            exact k7 _ _ n (m5 _ _ n e)
          · obtain ⟨d7, h1, h2, h3⟩ := R7
            refine ⟨d7, ?_, ?_, ?_⟩
            · rw [upd_ne (Ne.symm hFx), h1]
              simp
            · rw [upd_ne (fun z => by subst z; rw [ha4] at m4; cases m4), h2]
              simp
            · simpa using h3
      · intro F ac2 Hy ⟨c1, c2, m1, m2, m3, m4, m5, m6, m7⟩
        have m2 : c2 = [] := List.length_eq_zero_iff.mp m2
        subst m2
        rw [List.append_nil] at m1
        subst m1
        subst m3
        obtain ⟨d6, hr6, ha6, _⟩ := id m6
        refine ⟨_, _, hr6, rfl, x, a, encB st, rfl, m6, fun H8 k8 => ?_⟩
        have hFx : F ≠ x := fun z => by
          subst z
          rw [hr4] at m4
          cases m4
        have hD8 := k8 _ _ hDx (m5 _ _ hDx hD4)
        have hF8 := k8 _ _ hFx m7
        have t48 : Tup H4 H8 := (m5.trans k8).tup (fun xs z => by rw [hr4] at z; cases z) (fun xs z => by rw [hr4] at z; cases z) (fun o u z => by rw [hr4] at z; cases z)
        show ∃ x, lstO (H8 D) = some x ∧ _
        refine ⟨_, by rw [hD8]; rfl, fun p1 hp1 => ⟨_, by rw [upd_ne (fun z => by subst z; rw [hF8] at hp1; cases hp1), hF8]; rfl, fun p2 hp2 y dy hy hdy ndy => ?_⟩⟩
        have f1 := Ext.new (o := .tup acc) hp1
        have f2 := Ext.new (o := .tup (st.cs.map V.str)) hp2
        have f3 := Made.ext (C := gA K "Store") hy hdy
        have f13 := (f1.trans f2).trans f3
        have eH8 : Ext H H8 := n1 ((k2.trans k3).trans ((g6.trans k4).trans (m5.trans k8)))
        refine ⟨y, p1, p2, dy, st, rfl, Made.of ndy, ⟨l1, ?_, g1, fun q hq => f13 _ _ (t48.t _ _ (t4.t _ _ (g4 q hq)))⟩, f3 _ _ upd_same, ok, fun H' k hs => ⟨rfl, q y H' ((eH8.trans (f1.trans f2)).trans (k.ext hy hdy)) ?_ hs⟩⟩
        · rw [← g3]
          exact f3 _ _ (f2 _ _ upd_same)
        · cases z : H y with
          | none => rfl
          | some u =>
            rw [(eH8.trans (f1.trans f2)) _ _ z] at hy
            cases hy
end
end CC
set_option maxHeartbeats 4000000
namespace CC
open PySem PySem.Spec PyProof.Rows L2 StX LamX NdefX
theorem lkWn {a b c : V} : List.lookup ("number" : Str) [(("number" : Str), a), (("words" : Str), b), (("spot" : Str), c)] = some a := rfl
theorem lkWw {a b c : V} : List.lookup ("words" : Str) [(("number" : Str), a), (("words" : Str), b), (("spot" : Str), c)] = some b := rfl
theorem lkWs {a b c : V} : List.lookup ("spot" : Str) [(("number" : Str), a), (("words" : Str), b), (("spot" : Str), c)] = some c := rfl
theorem pfW1 {x : V} : putF ("number" : Str) x [] = [(("number" : Str), x)] := rfl
theorem pfW2 {a x : V} : putF ("words" : Str) x [(("number" : Str), a)] = [(("number" : Str), a), (("words" : Str), x)] := rfl
theorem pfW3 {a b x : V} : putF ("spot" : Str) x [(("number" : Str), a), (("words" : Str), b)] = [(("number" : Str), a), (("words" : Str), b), (("spot" : Str), x)] := rfl
theorem pfW4 {a b c x : V} : putF ("spot" : Str) x [(("number" : Str), a), (("words" : Str), b), (("spot" : Str), c)] = [(("number" : Str), a), (("words" : Str), b), (("spot" : Str), x)] := rfl
local macro_rules | `(tactic| walk_at "rd") => `(tactic| simp only [tVar, tC, tOp, tUn, rI0, rI, rU, rEq, rNe, tTest, tB, tAnd, tOr, tNot, tAndV, tOrV, tNotV, tIf, tChain, tIfS, tRet, tRetN, tSeq, tNext, tAsg, gName, tDrop, tCons, tNil, tCB, tCR, tTup, tLst, rIsF, tyN_non, tyN_bl, tyN_int, tyN_str, tyN_ref, isB_1, isB_2, isB_3, isB_4, isB_5, isB_6, isB_7, isB_8, tyO_tup, tyO_lst, tyO_dK, tyO_frz, rIxG, rLenG, rInG, rAllG, rSumG, rListG, rTupG, tLcF, tLcP, tForF, tForP, srcTup, srcLst, srcStr, srcRng, srcEnum, srcZip, srcEnumT, tYes, wipe, gTupG, gCons, gNil, tStarG, tSl, rSlTG, rSlLG, rCatTG, rRep, tJoinG, rSortedSG, tApp, tExd, tupO_tup, lstO_lst, seqO_tup, seqO_lst, dKO_dK, tNoPart, tPart, tFl, sFl, tSls, sSls, tMeS, tPrS, tPrF, tMethR, tMake, sFlAug, rLenS, L2.start, List.map_cons, List.map_nil, List.length_cons, List.length_nil, Nat.zero_add, Nat.reduceAdd, Nat.reduceSub, List.replicate_succ, List.replicate_zero, List.forall_mem_map, List.cons_append, List.nil_append, List.getElem?_cons_succ, List.getElem?_cons_zero, List.set_cons_zero, List.set_cons_succ, Option.some.injEq, V.int.injEq, V.str.injEq, V.bl.injEq, V.ref.injEq, V.ty.injEq, List.cons.injEq, HO.tup.injEq, HO.lst.injEq, HO.ins.injEq, reduceCtorEq, exists_eq_left', exists_eq_left, exists_eq_right', exists_eq_right, exists_and_left, exists_and_right, and_true, true_and, and_false, false_and, or_false, false_or, or_true, true_or, exists_const, exists_eq', exists_eq, scal_ii, scal_ss, scal_bb, scal_nn, scal_ns, scal_sn, tSlB, sSlB, upd_upd, tPar, tLcI, tSIdx, lkWn, lkWw, lkWs, pfW1, pfW2, pfW3, pfW4, tM1, rNewStrs, upd_same, if_true, if_false, ite_true, ite_false, Bool.not_true, Bool.not_false, Bool.true_and, Bool.and_true, Bool.false_eq_true, decide_true, decide_false, sz1, atI_0, atI_1, and_assoc])
local macro_rules | `(tactic| walk_at "rh") => `(tactic| simp only [*, tVar, tC, tOp, tUn, rI0, rI, rU, rEq, rNe, tTest, tB, tAnd, tOr, tNot, tAndV, tOrV, tNotV, tIf, tChain, tIfS, tRet, tRetN, tSeq, tNext, tAsg, gName, tDrop, tCons, tNil, tCB, tCR, tTup, tLst, rIsF, tyN_non, tyN_bl, tyN_int, tyN_str, tyN_ref, isB_1, isB_2, isB_3, isB_4, isB_5, isB_6, isB_7, isB_8, tyO_tup, tyO_lst, tyO_dK, tyO_frz, rIxG, rLenG, rInG, rAllG, rSumG, rListG, rTupG, tLcF, tLcP, tForF, tForP, srcTup, srcLst, srcStr, srcRng, srcEnum, srcZip, srcEnumT, tYes, wipe, gTupG, gCons, gNil, tStarG, tSl, rSlTG, rSlLG, rCatTG, rRep, tJoinG, rSortedSG, tApp, tExd, tupO_tup, lstO_lst, seqO_tup, seqO_lst, dKO_dK, tNoPart, tPart, tFl, sFl, tSls, sSls, tMeS, tPrS, tPrF, tMethR, tMake, sFlAug, rLenS, L2.start, List.map_cons, List.map_nil, List.length_cons, List.length_nil, Nat.zero_add, Nat.reduceAdd, Nat.reduceSub, List.replicate_succ, List.replicate_zero, List.forall_mem_map, List.cons_append, List.nil_append, List.getElem?_cons_succ, List.getElem?_cons_zero, List.set_cons_zero, List.set_cons_succ, Option.some.injEq, V.int.injEq, V.str.injEq, V.bl.injEq, V.ref.injEq, V.ty.injEq, List.cons.injEq, HO.tup.injEq, HO.lst.injEq, HO.ins.injEq, reduceCtorEq, exists_eq_left', exists_eq_left, exists_eq_right', exists_eq_right, exists_and_left, exists_and_right, and_true, true_and, and_false, false_and, or_false, false_or, or_true, true_or, exists_const, exists_eq', exists_eq, scal_ii, scal_ss, scal_bb, scal_nn, scal_ns, scal_sn, tSlB, sSlB, upd_upd, tPar, tLcI, tSIdx, lkWn, lkWw, lkWs, pfW1, pfW2, pfW3, pfW4, tM1, rNewStrs, upd_same, if_true, if_false, ite_true, ite_false, Bool.not_true, Bool.not_false, Bool.true_and, Bool.and_true, Bool.false_eq_true, decide_true, decide_false, sz1, atI_0, atI_1, and_assoc])
section
variable {P : Program} {w : World} {K : PySem.W.Frag} {mg : Str → Option Value} {base : Heap}
/-- a row: its number, its words, the place -/
def RowAt (K : PySem.W.Frag) (H : Hp) (r a : Addr) (n : Int) (ws : List Str) (i : Nat) : Prop := ∃ dx, H r = some (.ins (gA K "Row") dx [("number", .int n), ("words", .ref a), ("spot", .int (i : Nat))]) ∧ H a = some (.lst (ws.map V.str)) ∧ ws.length ≤ 1000
def spRowInit (K : PySem.W.Frag) : Sp := fun vs H Q _ => ∃ (r dx : Addr) (n : Int) (z : Str), vs = [.ref r, .int n, .str z] ∧ Made H r (gA K "Row") dx ∧ z.length ≤ 1000 ∧ (Txt.split z " ").length ≤ 1000 ∧ ∀ a H', Kp r H H' → H a = none → RowAt K H' r a n (Txt.split z " ") 0 → Q .non H'
theorem ok_Row___init__ (T : Txt K mg w) : OkF P w K mg base CX0 2 (mA K "Row" "__init__") ["self", "number", "text"] (spRowInit K) := by
  refine mk0 (k := 1) T.d_Row___init__ sc_Row___init__ (fun _ _ _ _ _ _ us hl => match us, hl with | [_, _, _], _ => rfl) (fun vs H Q E h => ?_) (fun cdv A outer s H vs Q E hr h => ?_)
  · obtain ⟨r, dx, n, z, rfl, _⟩ := h
    rfl
  · obtain ⟨r, dx, n, z, rfl, M, hz, hz2, q⟩ := h
    have hr1 := M.i
    refine ⟨_, (pss_cons (ps_flF T.cls_Row T.na_Row_number (pv 0) (pv 1))
    (pss_cons (ps_flF T.cls_Row T.na_Row_words (pv 0) (pe_split (pv 2) pe_str))
    (pss_one (ps_flF T.cls_Row T.na_Row_spot (pv 0) pe_int)))), ?_⟩
    walk_at "rh"
    refine ⟨by decide, by decide, by omega, fun p hp => ?_⟩
    have hrs : upd H r (.ins (gA K "Row") dx [("number", V.int n)]) r = some (.ins (gA K "Row") dx [("number", V.int n)]) := upd_same
    have hpr : p ≠ r := fun z => by subst z; rw [hrs] at hp; cases hp
    have k1 : Kp r H (upd H r (.ins (gA K "Row") dx [("number", V.int n)])) := Kp.set
    refine ⟨dx, [("number", V.int n)], by rw [upd_ne (Ne.symm hpr)]; exact hrs, show (1 : Nat) < 1000 by decide, show (2 : Nat) < 1000 by decide, ?_⟩
    refine q p _ (fun b u n1 e => ?_) (none_of (b := r) k1 hpr hp) ⟨dx, upd_same, by rw [upd_ne hpr, upd_same], hz2⟩
    rw [upd_ne n1]
    exact Ext.new hp _ _ (k1 _ _ n1 e)
def spMore (K : PySem.W.Frag) : Sp := fun vs H Q _ => ∃ (r a : Addr) (n : Int) (ws : List Str) (i : Nat), vs = [.ref r] ∧ RowAt K H r a n ws i ∧ Q (.bl (decide (i < ws.length))) H
theorem ok_Row_has_more (T : Txt K mg w) : OkF P w K mg base CX0 2 (mA K "Row" "has_more") ["self"] (spMore K) := by
  refine mk0 (k := 1) T.d_Row_has_more sc_Row_has_more (fun _ _ _ _ _ _ us hl => match us, hl with | [_], _ => rfl) (fun vs H Q E h => ?_) (fun cdv A outer s H vs Q E hr h => ?_)
  · obtain ⟨r, a, n, ws, i, rfl, _⟩ := h
    rfl
  · obtain ⟨r, a, n, ws, i, rfl, ⟨dx, hr1, ha, hl⟩, q⟩ := h
    refine ⟨_, (pss_one (ps_ret (pe_cmpR op_lt (pe_flF T.cls_Row T.na_Row_spot (pv 0)) (pe_callB call_lenG rfl T.b_len PySem.boot_len (pa_cons (pe_flF T.cls_Row T.na_Row_words (pv 0)) pa_nil)) (nomark _)))), ?_⟩
    walk_at "rh"
    simpa using q
def spCount : Sp := fun vs H Q _ => ∃ z : Str, vs = [.str z] ∧ 1 ≤ z.length ∧ z.length ≤ 2 ∧ (∀ c, c ∈ z.cps.toList → c ∈ ("0123456789" : Str).cps.toList) ∧ z.cps.toList[0]? ≠ some 48 ∧ ∀ H', Ext H H' → Q (.bl true) H'
theorem ok_is_count (T : Txt K mg w) : OkF P w K mg base CX0 3 (gA K "is_count") ["word"] spCount := by
  refine mk0 (k := 2) T.d_is_count sc_is_count (fun _ _ _ _ _ _ us hl => match us, hl with | [_], _ => rfl) (fun vs H Q E h => ?_) (fun cdv A outer s H vs Q E hr h => ?_)
  · obtain ⟨z, rfl, _⟩ := h
    rfl
  · obtain ⟨z, rfl, h1, h2, h3, h4, q⟩ := h
    refine ⟨_, (pss_one (ps_ret (pe_and (pe_chain op_le op_le pe_int (pe_callB call_len_str rfl T.b_len PySem.boot_len (pa_cons (pv 0) pa_nil)) (pe_gi T.c_MOST_DIGITS)) (pe_and (pe_callB (cr_allG rfl) rfl T.b_all (by decide +kernel) (pa_cons (lcF (own := [("sign", 1)]) rfl sc_is_count.nd (sr_str (pv 0)) (blkOk_by (N := n_is_count) (sc := defScope s_is_count) (by decide +kernel)) (fun _ _ _ _ _ => (pg_name (i := 1) sc_is_count.nd rfl (.inl rfl))) (fun _ _ _ _ _ => pts_nil) (fun _ _ _ _ _ => (pe_cmpR op_in_sign (pv 1) (pe_gs T.c_DIGITS) rfl))) pa_nil)) (pe_one (pe_cmpR op_ne (pe_ix ix_str (pv 0) pe_int (fun _ _ => rfl)) pe_str (nomark _))))))), ?_⟩
    walk_at "rh"
    refine ⟨by omega, ?_⟩
    rw [if_pos (by simp; omega), if_pos (by simp; omega)]
    have hzl : z.cps.toList.length = z.length := by simp [Str.length]
    refine ⟨_, z.cps.toList, _, rfl, by omega, fun c => some (.bl (decide (c ∈ ("0123456789" : Str).cps.toList))), fun c hc H2 e => ⟨c, rfl, .refl _, rfl⟩, fun D H2 hD e hl => ?_⟩
    refine ⟨z.cps.toList.map fun c => decide (c ∈ ("0123456789" : Str).cps.toList), by rw [hl]; simp [lstO], ?_⟩
    rw [if_pos (by simp only [List.all_map, List.all_eq_true]; intro c hc; simpa using h3 c hc)]
    obtain ⟨c0, hc0⟩ : ∃ c, z.cps.toList[0]? = some c := ⟨z.cps.toList[0]'(by omega), by rw [List.getElem?_eq_getElem]⟩
    refine ⟨z, 0, c0, rfl, rfl, by rw [sizeLine_eq]; omega, atI_nat (j := 0) hc0, rfl, ?_⟩
    have : (V.str ⟨#[c0]⟩ = V.str ("0" : Str)) = False := by
      apply propext
      refine ⟨fun e => ?_, False.elim⟩
      have e2 : (⟨#[c0]⟩ : Str) = "0" := V.str.inj e
      have e3 := congrArg (fun s : Str => s.cps.toList[0]?) e2
      have e4 : (("0" : Str).cps.toList[0]?) = some 48 := by decide +kernel
      rw [hc0] at h4
      exact h4 (e3.trans e4)
    simp only [this, decide_false, Bool.not_false]
    exact q H2 e
/-- next_word: what it is handed answers True -/
def TTnw (K : PySem.W.Frag) : (V → Hp → VK → Prop) → Addr → V → Hp → VK → Prop := fun tl _ v H Q => ∃ (r a : Addr) (n : Int) (ws : List Str) (i : Nat) (wd : Str) (Q0 : VK), v = .ref r ∧ RowAt K H r a n ws i ∧ ws[i]? = some wd ∧ tl (.str wd) H Q0 ∧
  ∀ x H1, Q0 x H1 → x = .bl true ∧ RowAt K H1 r a n ws i ∧ ∀ H', Kp r H1 H' → RowAt K H' r a n ws (i + 1) → Q (.str wd) H'
theorem nw_handed (T : Txt K mg w) : Handed P w K mg base 5 (mA K "Row" "next_word") "Row.next_word" s_Row_next_word n_Row_next_word 1 "is_right" (TTnw K) := by
  have F_Row_has_more := ok_Row_has_more (P := P) (base := base) T
  intro cdv A outer s H Q f v tl hr act h
  obtain ⟨r, a, n, ws, i, wd, Q0, rfl, ⟨dx, hr1, ha, hl⟩, hw, ht, q⟩ := h
  refine ⟨_, (pss_cons (ps_if (PW.pt (pw_or (pt_not (pt_val (pe_meF0 T.cls_Row T.me_Row_has_more F_Row_has_more.raw hr pass0 (pv 0)))) (pw_or1 (pt_not (pt_val (upPE (act _ _ _ _ (pe_ix ix_G (pe_flF T.cls_Row T.na_Row_words (pv 0)) (pe_flF T.cls_Row T.na_Row_spot (pv 0)) (fun _ _ => rfl)) rfl))))))) (pss_one (ps_never)) pss_nil)
    (pss_cons (ps_flAug T.cls_Row T.na_Row_spot (pv 0) pe_int)
    (pss_one (ps_ret (pe_ix ix_G (pe_flF T.cls_Row T.na_Row_words (pv 0)) (pe_op op_sub (pe_flF T.cls_Row T.na_Row_spot (pv 0)) pe_int) (fun _ _ => rfl)))))), ?_⟩
  walk_at "rh"
  have hil : i < ws.length := (List.getElem?_eq_some_iff.mp hw).1
  have e1 : atI (ws.map V.str) (i : Nat) = some (.str wd) := atI_nat (by rw [List.getElem?_map, hw]; rfl)
  refine ⟨rfl, r, a, n, ws, i, rfl, ⟨dx, hr1, ha, hl⟩, _, rfl, ?_⟩
  rw [if_neg (by simp [hil])]
  refine ⟨Q0, ⟨rfl, ?_⟩, fun x H1 h0 => ?_⟩
  · walk_at "rh"
  · obtain ⟨rfl, ⟨dx1, hr2, ha1, hl1⟩, q2⟩ := q x H1 h0
    refine ⟨true, rfl, ?_⟩
    have hra : a ≠ r := fun z => by
      subst z
      rw [hr2] at ha1
      cases ha1
    refine ⟨_, _, hr2, (i : Nat), rfl, _, _, hr2, show (3 : Nat) < 1000 by decide, .ref a, rfl, .int ((i : Nat) + 1), rfl, _, rfl, a, rfl, _, by rw [upd_ne hra, ha1]; rfl, .str wd, ?_, ?_⟩
    · rw [show ((i : Nat) : Int) + 1 - 1 = (i : Nat) by omega]
      exact e1
    · refine q2 _ Kp.set ⟨dx1, ?_, by rw [upd_ne hra]; exact ha1, hl1⟩
      rw [upd_same, pfW4]
      simp
/-- next_word(is_count) -/
def spNwC (K : PySem.W.Frag) : Sp := fun vs H Q _ => ∃ (r a : Addr) (n : Int) (ws : List Str) (i : Nat) (wd : Str), vs = [.ref r, .ref (gA K "is_count")] ∧ RowAt K H r a n ws i ∧ ws[i]? = some wd ∧ 1 ≤ wd.length ∧ wd.length ≤ 2 ∧ (∀ c, c ∈ wd.cps.toList → c ∈ ("0123456789" : Str).cps.toList) ∧ wd.cps.toList[0]? ≠ some 48 ∧
  ∀ H', Kp r H H' → RowAt K H' r a n ws (i + 1) → Q (.str wd) H'
theorem ok_Row_next_word (T : Txt K mg w) : OkF P w K mg base CX0 6 (mA K "Row" "next_word") ["self", "is_right"] (spNwC K) := by
  have F_is_count := ok_is_count (P := P) (base := base) T
  obtain ⟨fd, Fa, Fb⟩ := F_is_count
  refine mk0 (k := 5) T.d_Row_next_word sc_Row_next_word (fun _ _ _ _ _ _ us hl => match us, hl with | [_, _], _ => rfl) (fun vs H Q E h => ?_) (fun cdv A outer s H vs Q E hr h => ?_)
  · obtain ⟨r, a, n, ws, i, wd, rfl, _⟩ := h
    rfl
  · obtain ⟨r, a, n, ws, i, wd, rfl, hR, hw, h1, h2, h3, h4, q⟩ := h
    refine nw_handed (P := P) (base := base) T cdv A outer s H Q (gA K "is_count") (.ref r) (fun v H1 Q' => spCount [v] H1 Q' E0) (hr.mono (by decide)) (fun e te p1 p2 he hst => ?_) ⟨r, a, n, ws, i, wd, fun x H1 => x = .bl true ∧ Ext H H1, rfl, hR, hw, ⟨wd, rfl, h1, h2, h3, h4, fun H' e => ⟨rfl, e⟩⟩, fun x H1 h => ⟨h.1, ?_, fun H' k hR' => q H' ((h.2.kp r).trans k) hR'⟩⟩
    · exact impPE (pe_callL (dvs := []) Fa (hr.mono (by decide)) rfl (.inl rfl) T.g_is_count.2 Fb .nil pass0 (pa_cons he pa_nil hst) (by decide) (by decide) hst rfl) fun σ H Q q => ⟨q.1, q.2⟩
    · obtain ⟨dx, g1, g2, g3⟩ := hR
      exact ⟨dx, h.2 _ _ g1, h.2 _ _ g2, g3⟩
end
end CC
set_option maxHeartbeats 4000000
namespace CC
open PySem PySem.Spec PyProof.Rows L2 StX LamX NdefX
local macro_rules | `(tactic| walk_at "rd") => `(tactic| simp only [tVar, tC, tOp, tUn, rI0, rI, rU, rEq, rNe, tTest, tB, tAnd, tOr, tNot, tAndV, tOrV, tNotV, tIf, tChain, tIfS, tRet, tRetN, tSeq, tNext, tAsg, gName, tDrop, tCons, tNil, tCB, tCR, tTup, tLst, rIsF, tyN_non, tyN_bl, tyN_int, tyN_str, tyN_ref, isB_1, isB_2, isB_3, isB_4, isB_5, isB_6, isB_7, isB_8, tyO_tup, tyO_lst, tyO_dK, tyO_frz, rIxG, rLenG, rInG, rAllG, rSumG, rListG, rTupG, tLcF, tLcP, tForF, tForP, srcTup, srcLst, srcStr, srcRng, srcEnum, srcZip, srcEnumT, tYes, wipe, gTupG, gCons, gNil, tStarG, tSl, rSlTG, rSlLG, rCatTG, rRep, tJoinG, rSortedSG, tApp, tExd, tupO_tup, lstO_lst, seqO_tup, seqO_lst, dKO_dK, tNoPart, tPart, tFl, sFl, tSls, sSls, tMeS, tPrS, tPrF, tMethR, tMake, sFlAug, rLenS, L2.start, List.map_cons, List.map_nil, List.length_cons, List.length_nil, Nat.zero_add, Nat.reduceAdd, Nat.reduceSub, List.replicate_succ, List.replicate_zero, List.forall_mem_map, List.cons_append, List.nil_append, List.getElem?_cons_succ, List.getElem?_cons_zero, List.set_cons_zero, List.set_cons_succ, Option.some.injEq, V.int.injEq, V.str.injEq, V.bl.injEq, V.ref.injEq, V.ty.injEq, List.cons.injEq, HO.tup.injEq, HO.lst.injEq, HO.ins.injEq, reduceCtorEq, exists_eq_left', exists_eq_left, exists_eq_right', exists_eq_right, exists_and_left, exists_and_right, and_true, true_and, and_false, false_and, or_false, false_or, or_true, true_or, exists_const, exists_eq', exists_eq, scal_ii, scal_ss, scal_bb, scal_nn, scal_ns, scal_sn, tSlB, sSlB, upd_upd, tPar, tLcI, tSIdx, lkWn, lkWw, lkWs, rEq0, upd_same, if_true, if_false, ite_true, ite_false, Bool.not_true, Bool.not_false, Bool.true_and, Bool.and_true, Bool.false_eq_true, decide_true, decide_false, sz1, atI_0, atI_1, and_assoc])
local macro_rules | `(tactic| walk_at "rh") => `(tactic| simp only [*, tVar, tC, tOp, tUn, rI0, rI, rU, rEq, rNe, tTest, tB, tAnd, tOr, tNot, tAndV, tOrV, tNotV, tIf, tChain, tIfS, tRet, tRetN, tSeq, tNext, tAsg, gName, tDrop, tCons, tNil, tCB, tCR, tTup, tLst, rIsF, tyN_non, tyN_bl, tyN_int, tyN_str, tyN_ref, isB_1, isB_2, isB_3, isB_4, isB_5, isB_6, isB_7, isB_8, tyO_tup, tyO_lst, tyO_dK, tyO_frz, rIxG, rLenG, rInG, rAllG, rSumG, rListG, rTupG, tLcF, tLcP, tForF, tForP, srcTup, srcLst, srcStr, srcRng, srcEnum, srcZip, srcEnumT, tYes, wipe, gTupG, gCons, gNil, tStarG, tSl, rSlTG, rSlLG, rCatTG, rRep, tJoinG, rSortedSG, tApp, tExd, tupO_tup, lstO_lst, seqO_tup, seqO_lst, dKO_dK, tNoPart, tPart, tFl, sFl, tSls, sSls, tMeS, tPrS, tPrF, tMethR, tMake, sFlAug, rLenS, L2.start, List.map_cons, List.map_nil, List.length_cons, List.length_nil, Nat.zero_add, Nat.reduceAdd, Nat.reduceSub, List.replicate_succ, List.replicate_zero, List.forall_mem_map, List.cons_append, List.nil_append, List.getElem?_cons_succ, List.getElem?_cons_zero, List.set_cons_zero, List.set_cons_succ, Option.some.injEq, V.int.injEq, V.str.injEq, V.bl.injEq, V.ref.injEq, V.ty.injEq, List.cons.injEq, HO.tup.injEq, HO.lst.injEq, HO.ins.injEq, reduceCtorEq, exists_eq_left', exists_eq_left, exists_eq_right', exists_eq_right, exists_and_left, exists_and_right, and_true, true_and, and_false, false_and, or_false, false_or, or_true, true_or, exists_const, exists_eq', exists_eq, scal_ii, scal_ss, scal_bb, scal_nn, scal_ns, scal_sn, tSlB, sSlB, upd_upd, tPar, tLcI, tSIdx, lkWn, lkWw, lkWs, rEq0, upd_same, if_true, if_false, ite_true, ite_false, Bool.not_true, Bool.not_false, Bool.true_and, Bool.and_true, Bool.false_eq_true, decide_true, decide_false, sz1, atI_0, atI_1, and_assoc])
theorem dpTup0 {K : PySem.W.Frag} {H : Hp} {a : Addr} (h : H a = some (.tup [])) : Dp K H (.ref a) (.tuple []) := .tup (sqT_of (by rw [h]; rfl)) .nil
theorem dpLst0 {K : PySem.W.Frag} {H : Hp} {a : Addr} (h : H a = some (.lst [])) : Dp K H (.ref a) (.list []) := .lst (.of h) .nil
def doorD (d : Int × Int) : PyData := .tuple [.int d.1, .int d.2]
theorem dpDoor {K : PySem.W.Frag} {H : Hp} {a : Addr} {d : Int × Int} (h : DoorAt H a d) : Dp K H (.ref a) (doorD d) := .tup (sqT_of (by rw [show H a = _ from h]; rfl)) (.cons (.int _) (.cons (.int _) .nil))
theorem dpDoors {K : PySem.W.Frag} {H : Hp} {a : Addr} {l : List (Addr × (Int × Int))} (h : H a = some (.lst (l.map fun q => .ref q.1))) (hR : ∀ q, q ∈ l → DoorAt H q.1 q.2) : Dp K H (.ref a) (.list (l.map fun q => doorD q.2)) := .lst (.of h) (dpAll_map fun q hq => dpDoor (hR q hq))
theorem doorsD_ok {l : List (Addr × (Int × Int))} : dOk 2 (.list (l.map fun q => doorD q.2)) := dOk.lst fun d hd => by
  obtain ⟨q, _, rfl⟩ := List.mem_map.mp hd
  exact dOk.tup fun d hd => by
    simp at hd
    rcases hd with rfl | rfl <;> exact dOk.int
theorem eqv_tup0 : PyData.eqv (.tuple []) (.tuple []) = true := by simp [PyData.eqv, PyData.eqvAll]
theorem eqv_doors {l : List (Addr × (Int × Int))} : PyData.eqv (.list (l.map fun q => doorD q.2)) (.list []) = decide (l = []) := by
  cases l <;> simp [PyData.eqv, PyData.eqvAll]
section
variable {P : Program} {w : World} {K : PySem.W.Frag} {mg : Str → Option Value} {base : Heap}
def headsL (n : Nat) : List Str := if n = 0 then ["door"] else ["door", "crates"]
def spHeads : Sp := fun vs H Q _ => ∃ (ra na : Addr) (l : List (Addr × (Int × Int))), vs = [.ref ra, .ref na] ∧ H ra = some (.lst (l.map fun q => .ref q.1)) ∧ (∀ q, q ∈ l → DoorAt H q.1 q.2) ∧ l.length ≤ 3 ∧ H na = some (.tup []) ∧ ∀ p H', Ext H H' → tupO (H' p) = some ((headsL l.length).map V.str) → Q (.ref p) H'
theorem ok_heads_at (T : Txt K mg w) : OkF P w K mg base CX0 2 (gA K "heads_at") ["rows", "names"] spHeads := by
  refine mk0 (k := 1) T.d_heads_at sc_heads_at (fun _ _ _ _ _ _ us hl => match us, hl with | [_, _], _ => rfl) (fun vs H Q E h => ?_) (fun cdv A outer s H vs Q E hr h => ?_)
  · obtain ⟨ra, na, l, rfl, _⟩ := h
    rfl
  · obtain ⟨ra, na, l, rfl, hra, hR, hx, hna, q⟩ := h
    refine ⟨_, (pss_cons (ps_if (pt_cmpR (op_neD hr.units) (pv 1) (pe_tup pa_nil) (nomark _)) (pss_one (ps_ret (pe_tup pa_nil))) pss_nil)
    (pss_one (ps_ret (pe_op op_catTG (pe_ifExp (pt_cmpR op_lt (pe_callB call_lenG rfl T.b_len PySem.boot_len (pa_cons (pv 0) pa_nil)) (pe_gi T.c_MAX_DOORS) (nomark _)) (pe_tup (pa_cons (pe_gs T.c_DOOR) pa_nil)) (pe_tup pa_nil)) (pe_ifExp (pt_cmpR (op_neD hr.units) (pv 0) (pe_lst pa_nil) (nomark _)) (pe_tup (pa_cons (pe_gs T.c_CRATES) pa_nil)) (pe_tup pa_nil)))))), ?_⟩
    walk_at "rh"
    refine ⟨by omega, fun p0 hp0 => ?_⟩
    have e0 := Ext.new (o := .tup []) hp0
    refine ⟨.tuple [], .tuple [], dpTup0 (e0 _ _ hna), dpTup0 upd_same, by decide +kernel, by decide +kernel, ?_⟩
    rw [eqv_tup0]
    refine ⟨false, rfl, ?_⟩
    rw [if_neg (by simp)]
    refine ⟨_, by rw [e0 _ _ hra]; rfl, ?_⟩
    rw [if_pos (by simp; omega)]
    refine ⟨by omega, fun p1 hp1 => ⟨by omega, fun p2 hp2 => ?_⟩⟩
    have e1 := Ext.new (o := .tup [V.str "door"]) hp1
    have e2 := Ext.new (o := .lst []) hp2
    have e02 := (e0.trans e1).trans e2
    have h1 := e2 _ _ (upd_same (H := upd H p0 (.tup [])) (a := p1) (o := .tup [V.str "door"]))
    refine ⟨_, .list [], dpDoors (e02 _ _ hra) (fun q hq => e02 _ _ (hR q hq)), dpLst0 upd_same, doorsD_ok.shaped (by omega), by decide +kernel, ?_⟩
    rw [eqv_doors]
    refine ⟨_, rfl, ?_⟩
    cases l with
    | nil =>
      rw [if_neg (by simp)]
      refine ⟨by omega, fun p3 hp3 => ⟨_, by rw [Ext.new hp3 _ _ h1]; rfl, by simp, fun p4 H4 e4 h4 => q p4 H4 ((e02.trans (Ext.new hp3)).trans e4) (by rw [h4]; rfl)⟩⟩
    | cons a r =>
      rw [if_pos (by simp)]
      refine ⟨by omega, fun p3 hp3 => ⟨_, by rw [Ext.new hp3 _ _ h1]; rfl, by simp, fun p4 H4 e4 h4 => q p4 H4 ((e02.trans (Ext.new hp3)).trans e4) (by rw [h4]; rfl)⟩⟩
end
end CC
set_option maxHeartbeats 4000000
namespace CC
open PySem PySem.Spec PyProof.Rows L2 StX LamX NdefX
/-- all but s and the tables stay -/
def KpN (s : Addr) (H H' : Hp) : Prop := ∀ b o, b ≠ s → H b = some o → (∀ ps, o ≠ .tbl ps) → H' b = some o
theorem KpN.trans {s : Addr} {H H1 H2 : Hp} (a : KpN s H H1) (b : KpN s H1 H2) : KpN s H H2 := fun x o n h t => b x o n (a x o n h t) t
theorem extN_kpn {s : Addr} {H H1 : Hp} (a : ExtN H H1) : KpN s H H1 := fun x o _ h t => a x o h t
theorem Kp.kpn {s : Addr} {H H1 : Hp} (a : Kp s H H1) : KpN s H H1 := fun x o n h _ => a x o n h
theorem tabs_kp {T : List (Addr × Str)} {s : Addr} {H H1 : Hp} (t : Tabs T H) (k : Kp s H H1) (h1 : ∀ ps, H s ≠ some (.tbl ps)) (h2 : ∀ c q, H s ≠ some (CodeO c q)) : Tabs T H1 := fun p hp => by
  obtain ⟨ps, a, b, d⟩ := t p hp
  refine ⟨ps, k _ _ (fun z => h1 ps (z ▸ a)) a, b, fun pos cv hc => ?_⟩
  obtain ⟨c, e1, e2⟩ := d pos cv hc
  exact ⟨c, e1, k _ _ (fun z => h2 c p.2 (by rw [← z]; exact e2)) e2⟩
theorem codeO_ins {c C dx : Addr} {q : Str} {fs : List (Str × V)} : CodeO c q ≠ .ins C dx fs := fun z => by
  unfold CodeO at z
  cases z
theorem codeO_lst {c : Addr} {q : Str} {xs : List V} : CodeO c q ≠ .lst xs := fun z => by
  unfold CodeO at z
  cases z
theorem tabs_kpi {T : List (Addr × Str)} {s C dx : Addr} {fs : List (Str × V)} {H H1 : Hp} (t : Tabs T H) (k : Kp s H H1) (h : H s = some (.ins C dx fs)) : Tabs T H1 := tabs_kp t k (fun ps z => by rw [h] at z; cases z) (fun c q z => by rw [h] at z; exact codeO_ins (Option.some.inj z).symm)
theorem tabs_kpl {T : List (Addr × Str)} {s : Addr} {xs : List V} {H H1 : Hp} (t : Tabs T H) (k : Kp s H H1) (h : H s = some (.lst xs)) : Tabs T H1 := tabs_kp t k (fun ps z => by rw [h] at z; cases z) (fun c q z => by rw [h] at z; exact codeO_lst (Option.some.inj z).symm)
local macro_rules | `(tactic| walk_at "rd") => `(tactic| simp only [tVar, tC, tOp, tUn, rI0, rI, rU, rEq, rNe, tTest, tB, tAnd, tOr, tNot, tAndV, tOrV, tNotV, tIf, tChain, tIfS, tRet, tRetN, tSeq, tNext, tAsg, gName, tDrop, tCons, tNil, tCB, tCR, tTup, tLst, rIsF, tyN_non, tyN_bl, tyN_int, tyN_str, tyN_ref, isB_1, isB_2, isB_3, isB_4, isB_5, isB_6, isB_7, isB_8, tyO_tup, tyO_lst, tyO_dK, tyO_frz, rIxG, rLenG, rInG, rAllG, rSumG, rListG, rTupG, tLcF, tLcP, tForF, tForP, srcTup, srcLst, srcStr, srcRng, srcEnum, srcZip, srcEnumT, tYes, wipe, gTupG, gCons, gNil, tStarG, tSl, rSlTG, rSlLG, rCatTG, rRep, tJoinG, rSortedSG, tApp, tExd, tupO_tup, lstO_lst, seqO_tup, seqO_lst, dKO_dK, tNoPart, tPart, tFl, sFl, tSls, sSls, tMeS, tPrS, tPrF, tMethR, tMake, sFlAug, rLenS, L2.start, List.map_cons, List.map_nil, List.length_cons, List.length_nil, Nat.zero_add, Nat.reduceAdd, Nat.reduceSub, List.replicate_succ, List.replicate_zero, List.forall_mem_map, List.cons_append, List.nil_append, List.getElem?_cons_succ, List.getElem?_cons_zero, List.set_cons_zero, List.set_cons_succ, Option.some.injEq, V.int.injEq, V.str.injEq, V.bl.injEq, V.ref.injEq, V.ty.injEq, List.cons.injEq, HO.tup.injEq, HO.lst.injEq, HO.ins.injEq, reduceCtorEq, exists_eq_left', exists_eq_left, exists_eq_right', exists_eq_right, exists_and_left, exists_and_right, and_true, true_and, and_false, false_and, or_false, false_or, or_true, true_or, exists_const, exists_eq', exists_eq, scal_ii, scal_ss, scal_bb, scal_nn, scal_ns, scal_sn, tSlB, sSlB, upd_upd, tPar, tLcI, tSIdx, lkWn, lkWw, lkWs, rEq0, tLamM, NdefX.slotAt, upd_same, if_true, if_false, ite_true, ite_false, Bool.not_true, Bool.not_false, Bool.true_and, Bool.and_true, Bool.false_eq_true, decide_true, decide_false, sz1, atI_0, atI_1, and_assoc])
local macro_rules | `(tactic| walk_at "rh") => `(tactic| simp only [*, tVar, tC, tOp, tUn, rI0, rI, rU, rEq, rNe, tTest, tB, tAnd, tOr, tNot, tAndV, tOrV, tNotV, tIf, tChain, tIfS, tRet, tRetN, tSeq, tNext, tAsg, gName, tDrop, tCons, tNil, tCB, tCR, tTup, tLst, rIsF, tyN_non, tyN_bl, tyN_int, tyN_str, tyN_ref, isB_1, isB_2, isB_3, isB_4, isB_5, isB_6, isB_7, isB_8, tyO_tup, tyO_lst, tyO_dK, tyO_frz, rIxG, rLenG, rInG, rAllG, rSumG, rListG, rTupG, tLcF, tLcP, tForF, tForP, srcTup, srcLst, srcStr, srcRng, srcEnum, srcZip, srcEnumT, tYes, wipe, gTupG, gCons, gNil, tStarG, tSl, rSlTG, rSlLG, rCatTG, rRep, tJoinG, rSortedSG, tApp, tExd, tupO_tup, lstO_lst, seqO_tup, seqO_lst, dKO_dK, tNoPart, tPart, tFl, sFl, tSls, sSls, tMeS, tPrS, tPrF, tMethR, tMake, sFlAug, rLenS, L2.start, List.map_cons, List.map_nil, List.length_cons, List.length_nil, Nat.zero_add, Nat.reduceAdd, Nat.reduceSub, List.replicate_succ, List.replicate_zero, List.forall_mem_map, List.cons_append, List.nil_append, List.getElem?_cons_succ, List.getElem?_cons_zero, List.set_cons_zero, List.set_cons_succ, Option.some.injEq, V.int.injEq, V.str.injEq, V.bl.injEq, V.ref.injEq, V.ty.injEq, List.cons.injEq, HO.tup.injEq, HO.lst.injEq, HO.ins.injEq, reduceCtorEq, exists_eq_left', exists_eq_left, exists_eq_right', exists_eq_right, exists_and_left, exists_and_right, and_true, true_and, and_false, false_and, or_false, false_or, or_true, true_or, exists_const, exists_eq', exists_eq, scal_ii, scal_ss, scal_bb, scal_nn, scal_ns, scal_sn, tSlB, sSlB, upd_upd, tPar, tLcI, tSIdx, lkWn, lkWw, lkWs, rEq0, tLamM, NdefX.slotAt, upd_same, if_true, if_false, ite_true, ite_false, Bool.not_true, Bool.not_false, Bool.true_and, Bool.and_true, Bool.false_eq_true, decide_true, decide_false, sz1, atI_0, atI_1, and_assoc])
section
variable {P : Program} {w : World} {K : PySem.W.Frag} {mg : Str → Option Value} {base : Heap}
theorem RowAt.kpn {H H' : Hp} {r a s : Addr} {n : Int} {ws : List Str} {i : Nat} (h : RowAt K H r a n ws i) (k : KpN s H H') (n1 : r ≠ s) (n2 : a ≠ s) : RowAt K H' r a n ws i := by
  obtain ⟨dx, h1, h2, h3⟩ := h
  exact ⟨dx, k _ _ n1 h1 (fun ps z => by cases z), k _ _ n2 h2 (fun ps z => by cases z), h3⟩
abbrev q1 : Str := "Row.read_crates.<locals>.<lambda>"
def lam1 : Expr := match (defBody s_Row_read_crates).getD 1 (.Pass ⟨0, 0, 0, 0⟩) with
  | .While _ body _ _ => match body.getD 2 (.Pass ⟨0, 0, 0, 0⟩) with
    | .Expr (.Call _ [.Call _ [l] _ _] _ _) _ => l
    | _ => .Name "" ⟨0, 0, 0, 0⟩
  | _ => .Name "" ⟨0, 0, 0, 0⟩
def lamScope : Expr → Scope
  | .Lambda _ _ sc _ => sc
  | _ => defScope s_Row_read_crates
theorem lam1_s : NScope ["word", "last"] ["word"] ["last"] (lamScope lam1) := nscope_by (by decide +kernel)
theorem dpStrs {K : PySem.W.Frag} {H : Hp} {a : Addr} {l : List Str} (h : H a = some (.lst (l.map V.str))) : Dp K H (.ref a) (.list (l.map PyData.str)) := .lst (.of h) (dpAll_map fun q _ => .str q)
theorem strsD_ok {l : List Str} (h : ∀ z, z ∈ l → z ∈ names3) : dOk 1 (.list (l.map PyData.str)) := dOk.lst fun d hd => by
  obtain ⟨q, hq, rfl⟩ := List.mem_map.mp hd
  exact dOk.str (names_ok (h q hq))
theorem eqv_strs {l : List Str} : PyData.eqv (.list (l.map PyData.str)) (.list []) = decide (l = []) := by
  cases l <;> simp [PyData.eqv, PyData.eqvAll]
/-- the names rise -/
theorem names_rise {n : Nat} {c1 c2 : List Str} {z : Str} (h : c1 ++ z :: c2 = names3.take n) : decide ((c1.getLast?.getD "").cps.toList < z.cps.toList) = true := by
  have e : names3 = [("fig" : Str), "kiwi", "plum"] := rfl
  rw [e] at h
  have hn : n = 0 ∨ n = 1 ∨ n = 2 ∨ 3 ≤ n := by omega
  match c1, h with
  | [], h =>
    rcases hn with rfl | rfl | rfl | hn
    · cases h
    · cases h; decide +kernel
    · cases h; decide +kernel
    · rw [List.take_of_length_le (by simpa using hn)] at h
      cases h; decide +kernel
  | [a], h =>
    rcases hn with rfl | rfl | rfl | hn
    · cases h
    · cases h
    · cases h; decide +kernel
    · rw [List.take_of_length_le (by simpa using hn)] at h
      cases h; decide +kernel
  | [a, b], h =>
    rcases hn with rfl | rfl | rfl | hn
    · cases h
    · cases h
    · cases h
    · rw [List.take_of_length_le (by simpa using hn)] at h
      cases h; decide +kernel
  | a :: b :: c :: r, h =>
    have := congrArg List.length h
    rw [List.length_take] at this
    simp at this
    omega
def spRdCr (K : PySem.W.Frag) (Tb : List (Addr × Str)) : Sp := fun vs H Q _ => ∃ (r a : Addr) (n : Int) (s : Sto), vs = [.ref r] ∧ RowAt K H r a n ("crates" :: s.cs) 1 ∧ s.Ok ∧ Tabs Tb H ∧ ∀ p H', KpN r H H' → Tabs Tb H' → H' p = some (.tup (s.cs.map V.str)) → Q (.ref p) H'
theorem ok_Row_read_crates (T : Txt K mg w) {Pt : Addr} {Tb : List (Addr × Str)} (TF : TabF K base mg (mA K "Row" "read_crates") Pt) (hmT : (Pt, q1) ∈ Tb) (hu : ∀ p ∈ Tb, p.1 = Pt → p.2 = q1) : OkF P w K mg base CX0 8 (mA K "Row" "read_crates") ["self"] (spRdCr K Tb) := by
  have F_Row_has_more := ok_Row_has_more (P := P) (base := base) T
  have F_is_word := ok_is_word (P := P) (base := base) T
  refine mk0C (k := 7) T.d_Row_read_crates TF sc_Row_read_crates (fun _ _ _ _ _ _ us hl => match us, hl with | [_], _ => rfl) (fun vs H Q E h => ?_) (fun cd A outer s H vs Q E TB hr h => ?_)
  · obtain ⟨r, a, n, st, rfl, _⟩ := h
    rfl
  · obtain ⟨r, a, n, st, rfl, hR, ok, hT, q⟩ := h
    refine ⟨_, (pss_cons (CC.st (i := 1) sc_Row_read_crates.nd (pe_lst pa_nil))
    (pss_cons (ps_while PassesOwn.never (PW.pt (pw_or (pt_cmpR (op_eqD hr.units) (pv 1) (pe_lst pa_nil) (nomark _)) (pw_or1 (pt_val (pe_meF0 T.cls_Row T.me_Row_has_more F_Row_has_more.raw hr pass0 (pv 0))))))
      (pss_cons (ps_if (pt_cmpR op_eq (pe_callB call_lenG rfl T.b_len PySem.boot_len (pa_cons (pv 1) pa_nil)) (pe_gi T.c_MAX_CRATES) (nomark _)) (pss_one (ps_never)) pss_nil)
    (pss_cons (CC.st (i := 2) sc_Row_read_crates.nd (pe_ifExp (pt_cmpR (op_neD hr.units) (pv 1) (pe_lst pa_nil) (nomark _)) (pe_ix ix_G (pv 1) (pe_un un_neg pe_int) (fun _ _ => rfl)) pe_str))
    (pss_one (ps_expr (pe_app (pe_bm PySem.F.plainAttrs_list PySem.F.slot_list_append PySem.F.type_list_append mt_append (upPE (pv 1)) (pa_cons (upPE
      (pe_lamMeth (T := Tb) (k := 5) (k2 := 4) (js := [2]) T.cls_Row T.me_Row_next_word T.d_Row_next_word sc_Row_next_word rfl (i := 1) rfl (.inl rfl) (fun _ _ _ _ _ _ us hl => match us, hl with | [_, _], _ => rfl) (nw_handed T) TB rfl hmT hu hr (by decide) (by decide) lam1_s (show ndefB (defScope s_Row_read_crates) (lamScope lam1) ["last"] = true by decide +kernel) rfl rfl (fun _ _ _ _ _ _ => rfl) (fun A outer s H f c' cl hr2 => pe_and (pe_cR F_is_word.raw hr2 T.g_is_word pass0 (pa_cons (pv 0) pa_nil)) (pe_one (pe_cmpR op_gt_str (pv 0) (pv 1) (nomark _)))) (pv 0))) pa_nil))))))))
    (pss_one (ps_ret (pe_callTy call_tupleG rfl T.b_tuple (by decide +kernel) (pa_cons (pv 1) pa_nil)))))), ?_⟩
    walk_at "rh"
    refine ⟨by omega, fun p hp => ?_⟩
    have hn1 := ok.n1
    have hn3 := ok.n3
    have hcl := Sto.cs_len ok
    refine ⟨fun m σ Hx => ∃ (c1 c2 : List Str) (lv : Option V), c1 ++ c2 = st.cs ∧ m = c2.length ∧ σ = [some (.ref r), some (.ref p), lv] ∧ Hx p = some (.lst (c1.map V.str)) ∧ RowAt K Hx r a n ("crates" :: st.cs) (1 + c1.length) ∧ KpN r H Hx ∧ Tabs Tb Hx, ?_, ?_⟩
    · have e1 := Ext.new (o := .lst []) hp
      refine ⟨_, [], st.cs, none, rfl, rfl, rfl, upd_same, ?_, (e1.kp r).kpn, hT.ext e1⟩
      obtain ⟨dx, g1, g2, g3⟩ := hR
      exact ⟨dx, e1 _ _ g1, e1 _ _ g2, g3⟩
    · intro m σ Hx ⟨c1, c2, lv, h1, h2, h3, h4, h5, h6, h7⟩
      subst h3
      obtain ⟨dx, hr1, ha1, hl1⟩ := id h5
      have hsub : ∀ z, z ∈ c1 → z ∈ names3 := fun z hz => List.mem_of_mem_take (show z ∈ st.cs by rw [← h1]; exact List.mem_append_left _ hz)
      have hc1 : c1.length ≤ st.cs.length := by rw [← h1]; simp
      walk_at "rh"
      refine ⟨by omega, fun p1 hp1 => ?_⟩
      have e1 := Ext.new (o := .lst []) hp1
      have h4' := e1 _ _ h4
      refine ⟨_, .list [], dpStrs h4', dpLst0 upd_same, (strsD_ok hsub).shaped (by omega), by decide +kernel, ?_⟩
      rw [eqv_strs]
      have hR1 : RowAt K (upd Hx p1 (.lst [])) r a n ("crates" :: st.cs) (1 + c1.length) := ⟨dx, e1 _ _ hr1, e1 _ _ ha1, hl1⟩
      -- one turn
      have fin : ∀ z c2', c2 = z :: c2' → ∀ (H5 H2 : Hp) (f c' : Addr) (qq : Str) (N : L2.St → Hp → Prop), Ext Hx H5 → ExtN H5 H2 → Tabs Tb H2 → H2 c' = some (CodeO c' qq) →
          (∀ σ' H', (∃ m', m' < c2.length ∧ ∃ c1 c2 : List Str, c1 ++ c2 = st.cs ∧ m' = c2.length ∧ (∃ x, σ' = [some (V.ref r), some (V.ref p), x]) ∧ H' p = some (.lst (c1.map V.str)) ∧ RowAt K H' r a n ("crates" :: st.cs) (1 + c1.length) ∧ KpN r H H' ∧ Tabs Tb H') → N σ' H') →
          TTnw K (tlLam ["word", "last"] [some (.str (c1.getLast?.getD ""))] qq c' (tAndV (tCR spIsWord E0 (tCons (tVar 0) tNil)) (tOp (fun x y H Q => ∃ i, x = V.str i ∧ ∃ j, y = V.str j ∧ Q (V.bl (decide (j.cps.toList < i.cps.toList))) H) (tVar 0) (tVar 1)))) f (.ref r) H2
            (fun y H2 => ∃ xs, lstO (H2 p) = some xs ∧ xs.length < 16777216 ∧ N [some (.ref r), some (.ref p), some (.str (c1.getLast?.getD ""))] (upd H2 p (.lst (xs ++ [y])))) := by
        intro z c2' hz H5 H2 f c' qq N e5 n2 t2 hc' hN
        have hzm : z ∈ names3 := List.mem_of_mem_take (show z ∈ st.cs by rw [← h1, hz]; simp)
        have hw : (("crates" : Str) :: st.cs)[1 + c1.length]? = some z := by
          rw [show 1 + c1.length = c1.length + 1 by omega, List.getElem?_cons_succ, ← h1, hz]
          simp
        have k2 : KpN r Hx H2 := (e5.kp r).kpn.trans (extN_kpn n2)
        have g1 : H2 r = _ := n2 _ _ (e5 _ _ hr1) (fun ps z => by cases z)
        have g2 : H2 a = _ := n2 _ _ (e5 _ _ ha1) (fun ps z => by cases z)
        have g4 : H2 p = _ := n2 _ _ (e5 _ _ h4) (fun ps z => by cases z)
        refine ⟨r, a, n, _, 1 + c1.length, z, fun x H1 => x = .bl true ∧ Ext H2 H1, rfl, ⟨dx, g1, g2, hl1⟩, hw, ⟨hc', ?_⟩, fun x H1 hx => ⟨hx.1, ⟨dx, hx.2 _ _ g1, hx.2 _ _ g2, hl1⟩, fun H' k' R' => ?_⟩⟩
        · show tAndV _ _ [some (.str z), some (.str (c1.getLast?.getD ""))] H2 _
          walk_at "rh"
          have hr2 := names_rise (n := st.n) (c1 := c1) (c2 := c2') (z := z) (by rw [← hz, h1]; rfl)
          refine ⟨z, rfl, by have := (names_short z hzm).1; omega, fun H6 e6 => ?_⟩
          rw [word_cs ok z (show z ∈ st.cs by rw [← h1, hz]; simp)]
          exact ⟨true, rfl, by rw [if_pos rfl]; exact ⟨hr2, e6⟩⟩
        · have hpr : p ≠ r := fun z => by
            subst z
            rw [hr1] at h4
            cases h4
          have g5 := k' _ _ hpr (hx.2 _ _ g4)
          refine ⟨_, by rw [g5]; rfl, by rw [List.length_map]; omega, hN _ _ ⟨c2'.length, by rw [hz]; simp, c1 ++ [z], c2', by rw [← h1, hz]; simp, rfl, ⟨_, rfl⟩, by rw [upd_same]; simp, ?_, ?_, ?_⟩⟩
          · obtain ⟨dx7, m1, m2, m3⟩ := R'
            refine ⟨dx7, ?_, ?_, m3⟩
            · rw [upd_ne (Ne.symm hpr), m1]
              simp
              omega
            · rw [upd_ne (fun z => by subst z; obtain ⟨_, _, ga, _⟩ := hR; rw [hp] at ga; cases ga), m2]
          · intro b u nb e nt
            rw [upd_ne (fun z => by subst z; rw [hp] at e; cases e)]
            exact k' _ _ nb (hx.2 _ _ (n2 _ _ (e5 _ _ (h6 b u nb e nt)) nt))
          · exact tabs_kpl (tabs_kpi (t2.ext hx.2) k' (hx.2 _ _ g1)) Kp.set g5
      refine ⟨_, rfl, ?_⟩
      by_cases hc : c1 = []
      · rw [if_pos (by simpa using hc)]
        subst hc
        obtain ⟨z, c2', hz⟩ : ∃ z c2', c2 = z :: c2' := by
          cases c2 with
          | nil => rw [← h1] at hcl; simp at hcl; omega
          | cons z r => exact ⟨z, r, rfl⟩
        refine ⟨_, fun σ' H' h => h, _, by rw [h4']; rfl, ?_⟩
        rw [if_neg (by simp)]
        refine ⟨by omega, fun p2 hp2 => ?_⟩
        have e2 := Ext.new (o := .lst []) hp2
        have e12 := e1.trans e2
        refine ⟨_, .list [], dpStrs (l := []) (e12 _ _ h4), dpLst0 upd_same, by decide +kernel, by decide +kernel, false, by decide +kernel, ?_⟩
        rw [if_neg (by simp)]
        exact ⟨⟨_, by rw [e12 _ _ h4]; rfl⟩, _, _, e12 _ _ hr1, rfl, h7.ext e12, fun f c' H2 n2 t2 hc' => fin z c2' hz _ H2 f c' _ _ e12 n2 t2 hc' fun σ' H' h => h⟩
      · rw [if_neg (by simpa using hc)]
        refine ⟨_, _, e1 _ _ hr1, rfl, r, a, n, _, _, rfl, hR1, ?_⟩
        show ∃ c, V.bl (decide (1 + c1.length < (("crates" : Str) :: st.cs).length)) = V.bl c ∧ _
        refine ⟨_, rfl, ?_⟩
        cases c2 with
        | nil =>
          rw [List.append_nil] at h1
          subst h1
          rw [if_neg (by simp; omega)]
          refine ⟨_, by rw [h4']; rfl, fun l hl => ?_⟩
          have e3 := Ext.new (o := .tup (st.cs.map V.str)) hl
          exact q l _ (h6.trans ((e1.trans e3).kp r).kpn) (h7.ext (e1.trans e3)) upd_same
        | cons z c2' =>
          rw [if_pos (by rw [← h1]; simp; omega)]
          refine ⟨_, fun σ' H' h => h, _, by rw [h4']; rfl, ?_⟩
          rw [if_neg (by simp; omega)]
          refine ⟨by omega, fun p2 hp2 => ?_⟩
          have e2 := Ext.new (o := .lst []) hp2
          have e12 := e1.trans e2
          refine ⟨_, .list [], dpStrs (e12 _ _ h4), dpLst0 upd_same, (strsD_ok hsub).shaped (by omega), by decide +kernel, true, ?_, ?_⟩
          · rw [eqv_strs]
            simp [hc]
          rw [if_pos rfl]
          refine ⟨_, by rw [e12 _ _ h4]; rfl, .str (c1.getLast?.getD ""), ?_, ⟨_, by rw [e12 _ _ h4]; rfl⟩, _, _, e12 _ _ hr1, rfl, h7.ext e12, fun f c' H2 n2 t2 hc' => fin z c2' rfl _ H2 f c' _ _ e12 n2 t2 hc' fun σ' H' h => h⟩
          obtain ⟨c0, y, rfl⟩ : ∃ c0 y, c1 = c0 ++ [y] := by
            rcases List.eq_nil_or_concat c1 with z | ⟨c0, y, z⟩
            · exact absurd z hc
            · exact ⟨c0, y, by rw [z, List.concat_eq_append]⟩
          have hi : ixN (c0.length + 1) (-1) = some c0.length := by
            unfold ixN
            rw [if_neg (by omega), if_pos (by omega)]
            congr 1
            omega
          simp [atI, hi]
end
end CC
set_option maxHeartbeats 4000000
namespace CC
open PySem PySem.Spec PyProof.Rows L2 StX LamX NdefX
local macro_rules | `(tactic| walk_at "rd") => `(tactic| simp only [tVar, tC, tOp, tUn, rI0, rI, rU, rEq, rNe, tTest, tB, tAnd, tOr, tNot, tAndV, tOrV, tNotV, tIf, tChain, tIfS, tRet, tRetN, tSeq, tNext, tAsg, gName, tDrop, tCons, tNil, tCB, tCR, tTup, tLst, rIsF, tyN_non, tyN_bl, tyN_int, tyN_str, tyN_ref, isB_1, isB_2, isB_3, isB_4, isB_5, isB_6, isB_7, isB_8, tyO_tup, tyO_lst, tyO_dK, tyO_frz, rIxG, rLenG, rInG, rAllG, rSumG, rListG, rTupG, tLcF, tLcP, tForF, tForP, srcTup, srcLst, srcStr, srcRng, srcEnum, srcZip, srcEnumT, tYes, wipe, gTupG, gCons, gNil, tStarG, tSl, rSlTG, rSlLG, rCatTG, rRep, tJoinG, rSortedSG, tApp, tExd, tupO_tup, lstO_lst, seqO_tup, seqO_lst, dKO_dK, tNoPart, tPart, tFl, sFl, tSls, sSls, tMeS, tPrS, tPrF, tMethR, tMake, sFlAug, rLenS, L2.start, List.map_cons, List.map_nil, List.length_cons, List.length_nil, Nat.zero_add, Nat.reduceAdd, Nat.reduceSub, List.replicate_succ, List.replicate_zero, List.forall_mem_map, List.cons_append, List.nil_append, List.getElem?_cons_succ, List.getElem?_cons_zero, List.set_cons_zero, List.set_cons_succ, Option.some.injEq, V.int.injEq, V.str.injEq, V.bl.injEq, V.ref.injEq, V.ty.injEq, List.cons.injEq, HO.tup.injEq, HO.lst.injEq, HO.ins.injEq, reduceCtorEq, exists_eq_left', exists_eq_left, exists_eq_right', exists_eq_right, exists_and_left, exists_and_right, and_true, true_and, and_false, false_and, or_false, false_or, or_true, true_or, exists_const, exists_eq', exists_eq, scal_ii, scal_ss, scal_bb, scal_nn, scal_ns, scal_sn, tSlB, sSlB, upd_upd, tPar, tLcI, tSIdx, tPrS, upd_same, if_true, if_false, ite_true, ite_false, Bool.not_true, Bool.not_false, Bool.true_and, Bool.and_true, Bool.false_eq_true, decide_true, decide_false, sz1, atI_0, atI_1, and_assoc])
local macro_rules | `(tactic| walk_at "rh") => `(tactic| simp only [*, tVar, tC, tOp, tUn, rI0, rI, rU, rEq, rNe, tTest, tB, tAnd, tOr, tNot, tAndV, tOrV, tNotV, tIf, tChain, tIfS, tRet, tRetN, tSeq, tNext, tAsg, gName, tDrop, tCons, tNil, tCB, tCR, tTup, tLst, rIsF, tyN_non, tyN_bl, tyN_int, tyN_str, tyN_ref, isB_1, isB_2, isB_3, isB_4, isB_5, isB_6, isB_7, isB_8, tyO_tup, tyO_lst, tyO_dK, tyO_frz, rIxG, rLenG, rInG, rAllG, rSumG, rListG, rTupG, tLcF, tLcP, tForF, tForP, srcTup, srcLst, srcStr, srcRng, srcEnum, srcZip, srcEnumT, tYes, wipe, gTupG, gCons, gNil, tStarG, tSl, rSlTG, rSlLG, rCatTG, rRep, tJoinG, rSortedSG, tApp, tExd, tupO_tup, lstO_lst, seqO_tup, seqO_lst, dKO_dK, tNoPart, tPart, tFl, sFl, tSls, sSls, tMeS, tPrS, tPrF, tMethR, tMake, sFlAug, rLenS, L2.start, List.map_cons, List.map_nil, List.length_cons, List.length_nil, Nat.zero_add, Nat.reduceAdd, Nat.reduceSub, List.replicate_succ, List.replicate_zero, List.forall_mem_map, List.cons_append, List.nil_append, List.getElem?_cons_succ, List.getElem?_cons_zero, List.set_cons_zero, List.set_cons_succ, Option.some.injEq, V.int.injEq, V.str.injEq, V.bl.injEq, V.ref.injEq, V.ty.injEq, List.cons.injEq, HO.tup.injEq, HO.lst.injEq, HO.ins.injEq, reduceCtorEq, exists_eq_left', exists_eq_left, exists_eq_right', exists_eq_right, exists_and_left, exists_and_right, and_true, true_and, and_false, false_and, or_false, false_or, or_true, true_or, exists_const, exists_eq', exists_eq, scal_ii, scal_ss, scal_bb, scal_nn, scal_ns, scal_sn, tSlB, sSlB, upd_upd, tPar, tLcI, tSIdx, tPrS, upd_same, if_true, if_false, ite_true, ite_false, Bool.not_true, Bool.not_false, Bool.true_and, Bool.and_true, Bool.false_eq_true, decide_true, decide_false, sz1, atI_0, atI_1, and_assoc])
def doorW (d : Int × Int) : List Str := ["door", Str.ofString (toString d.1), Str.ofString (toString d.2)]
def rowsW (s : Sto) : List (List Str) := s.ds.map doorW ++ [("crates" : Str) :: s.cs]
def textS (s : Sto) : Str := Txt.join "\n" ((rowsW s).map (Txt.join " "))
/-- what a row of the text is good for -/
structure RowOk (r : List Str) : Prop where
  sum : (r.map (·.length)).sum + r.length * 1 ≤ 100
  len : (Txt.join " " r).length ≤ 100
  nonl : 10 ∉ (Txt.join " " r).cps.toList
  spl : Txt.split (Txt.join " " r) " " = r
theorem door_cases {d : Int × Int} (h : (1 ≤ d.1 ∧ d.1 ≤ 9) ∧ 1 ≤ d.2 ∧ d.2 ≤ 2) : (d.1 = 1 ∨ d.1 = 2 ∨ d.1 = 3 ∨ d.1 = 4 ∨ d.1 = 5 ∨ d.1 = 6 ∨ d.1 = 7 ∨ d.1 = 8 ∨ d.1 = 9) ∧ (d.2 = 1 ∨ d.2 = 2) := by omega
theorem doorW_ok {d : Int × Int} (h : (1 ≤ d.1 ∧ d.1 ≤ 9) ∧ 1 ≤ d.2 ∧ d.2 ≤ 2) : RowOk (doorW d) := by
  obtain ⟨a, b⟩ := d
  obtain ⟨h1, h2⟩ := door_cases h
  simp only at h1 h2
  rcases h1 with rfl | rfl | rfl | rfl | rfl | rfl | rfl | rfl | rfl <;> rcases h2 with rfl | rfl <;> exact ⟨by decide +kernel, by decide +kernel, by decide +kernel, by decide +kernel⟩
theorem cratesW_ok {s : Sto} (ok : s.Ok) : RowOk (("crates" : Str) :: s.cs) := by
  rcases Sto.n_cases ok with e | e | e <;> rw [e] <;> exact ⟨by decide +kernel, by decide +kernel, by decide +kernel, by decide +kernel⟩
theorem rowsW_ok {s : Sto} (ok : s.Ok) : ∀ r, r ∈ rowsW s → RowOk r := fun r hr => by
  rcases List.mem_append.mp hr with h | h
  · obtain ⟨d, hd, rfl⟩ := List.mem_map.mp h
    exact doorW_ok (ok.d.dw d hd)
  · rw [List.mem_singleton.mp h]
    exact cratesW_ok ok
theorem fm_some {α β : Type} {f : α → β} : ∀ l : List α, l.filterMap (fun q => some (f q)) = l.map f
  | [] => rfl
  | a :: r => by rw [List.filterMap_cons, fm_some r]; rfl
theorem sum_le {l : List Str} {k : Nat} (h : ∀ z, z ∈ l → z.length ≤ k) : (l.map (·.length)).sum ≤ k * l.length := by
  induction l with
  | nil => simp
  | cons a r ih =>
    have h1 := h a List.mem_cons_self
    have h2 := ih fun z hz => h z (List.mem_cons_of_mem _ hz)
    simp only [List.map_cons, List.sum_cons, List.length_cons, Nat.mul_add]
    omega
theorem textS_len {s : Sto} (ok : s.Ok) : (((rowsW s).map (Txt.join " ")).map (·.length)).sum + ((rowsW s).map (Txt.join " ")).length * 1 ≤ 500 := by
  have h1 : ((rowsW s).map (Txt.join " ")).length ≤ 4 := by
    have := ok.d.d2
    simp only [rowsW, List.length_map, List.length_append, List.length_singleton]
    omega
  have h2 := sum_le (l := (rowsW s).map (Txt.join " ")) (k := 100) fun z hz => by
    obtain ⟨r, hr, rfl⟩ := List.mem_map.mp hz
    exact (rowsW_ok ok r hr).len
  omega
section
variable {P : Program} {w : World} {K : PySem.W.Frag} {mg : Str → Option Value} {base : Heap}
def spFmt (K : PySem.W.Frag) : Sp := fun vs H Q _ => ∃ (a : Addr) (s : Sto), vs = [.ref a] ∧ StoAt K H a s ∧ s.Ok ∧ ∀ H', Ext H H' → Q (.str (textS s)) H'
theorem ok_format_store (T : Txt K mg w) : OkF P w K mg base CX0 68 (gA K "format_store") ["store"] (spFmt K) := by
  have F_Store_doors := ok_Store_doors (P := P) (base := base) T
  have F_Store_crates := ok_Store_crates (P := P) (base := base) T
  refine mk0 (k := 67) T.d_format_store sc_format_store (fun _ _ _ _ _ _ us hl => match us, hl with | [_], _ => rfl) (fun vs H Q E h => ?_) (fun cdv A outer s H vs Q E hr h => ?_)
  · obtain ⟨a, st, rfl, _⟩ := h
    rfl
  · obtain ⟨a, st, rfl, hst, ok, q⟩ := h
    obtain ⟨ea, pa, da, ca, h1, h2, h3, ⟨l, hl, hm, hR⟩, h5⟩ := id hst
    refine ⟨_, (pss_cons (setLcI (i := 1) (own := [("warmth", 2), ("places", 3)]) rfl sc_format_store.nd (sw_true rfl rfl rfl (by decide +kernel)) (sr_tup (pe_prS T.scls_Store T.pr_Store_doors F_Store_doors.raw hr (pv 0))) (blkOk_by (N := n_format_store) (sc := defScope s_format_store) (by decide +kernel)) (fun _ _ _ _ _ => (pg_tupG (n := 2) rfl (pgs_cons (pg_name (i := 2) sc_format_store.nd rfl (.inl rfl)) (pgs_cons (pg_name (i := 3) sc_format_store.nd rfl (.inl rfl)) pgs_nil)))) (fun _ _ _ _ _ => pts_nil) (fun _ _ _ _ _ => (pe_lst (pa_cons (pe_gs T.c_DOOR) (pa_cons (pe_callTy call_str_int rfl T.b_str (by decide +kernel) (pa_cons (pv 2) pa_nil)) (pa_cons (pe_callTy call_str_int rfl T.b_str (by decide +kernel) (pa_cons (pv 3) pa_nil)) pa_nil))))))
    (pss_one (ps_ret (pe_joinG pe_str (lcF (own := [("row", 4)]) rfl sc_format_store.nd (sr_lst (pe_lst (pa_starG (pv 1) (pa_cons (pe_lst (pa_cons (pe_gs T.c_CRATES) (pa_starG (pe_prS T.scls_Store T.pr_Store_crates F_Store_crates.raw hr (pv 0)) pa_nil))) pa_nil)))) (blkOk_by (N := n_format_store) (sc := defScope s_format_store) (by decide +kernel)) (fun _ _ _ _ _ => (pg_name (i := 4) sc_format_store.nd rfl (.inl rfl))) (fun _ _ _ _ _ => pts_nil) (fun _ _ _ _ _ => (pe_joinG pe_str (pv 4)))))))), ?_⟩
    walk_at "rh"
    have h1s := h1.sa
    have hd2 := ok.d.d2
    have hn3 := ok.n3
    have hcl := Sto.cs_len ok
    refine ⟨⟨_, h1s⟩, a, st, rfl, hst, fun da' ⟨l', hl', hm', hR'⟩ => ?_⟩
    have hl3 : l'.length ≤ 3 := by rw [← List.length_map (f := Prod.snd), hm']; exact hd2
    refine ⟨da', rfl, _, by rw [hl']; rfl, Addr × (Int × Int), l', fun q => .ref q.1, rfl, by omega, fun D rr acc Hx => ∃ la : List (Addr × (Int × Int)), la.map Prod.snd ++ rr.map Prod.snd = st.ds ∧ acc = la.map (fun q => .ref q.1) ∧ (∀ q, q ∈ la → q.1 ≠ D ∧ Hx q.1 = some (.lst ((doorW q.2).map V.str))) ∧ (∀ q, q ∈ rr → DoorAt H q.1 q.2) ∧ H D = none ∧ Ext H Hx ∧ Hx D = some (.lst acc),
      fun D hD => ⟨[], hm', rfl, fun q hq => (nomatch hq), hR', hD, Ext.new hD, upd_same⟩, fun D rr acc Hx ⟨la, g1, g2, g3, g4, g5, g6, g7⟩ => by rw [g6 _ _ hl']; rfl, ?_, ?_⟩
    · intro D b rr acc Hx ⟨la, g1, g2, g3, g4, g5, g6, g7⟩
      have hb : Hx b.1 = some (.tup [.int b.2.1, .int b.2.2]) := g6 _ _ (g4 b List.mem_cons_self)
      have hdw := ok.d.dw b.2 (by rw [← g1]; simp)
      have hlog : ∀ i : Int, 1 ≤ i → i ≤ 9 → i.natAbs.log2 < 1920 := fun i h1 h2 => by
        have : i.natAbs < 2 ^ 4 := by omega
        have := Nat.log2_lt (n := i.natAbs) (k := 1920) (by omega) |>.mpr (Nat.lt_of_lt_of_le this (Nat.pow_le_pow_right (by decide) (by decide)))
        exact this
      refine ⟨_, rfl, _, by rw [hb]; rfl, rfl, _, _, rfl, _, _, rfl, rfl, _, rfl, hlog _ hdw.1.1 hdw.1.2, _, rfl, hlog _ hdw.2.1 (by omega), by omega, fun p hp => ?_⟩
      have hpD : D ≠ p := fun z => by subst z; rw [g7] at hp; cases hp
      refine ⟨by rw [upd_ne hpD]; exact g7, la ++ [(p, b.2)], by rw [← g1]; simp, by rw [g2]; simp, fun q hq => ?_, fun q hq => g4 q (List.mem_cons_of_mem _ hq), g5, (g6.trans (Ext.new hp)).own g5, upd_same⟩
      rcases List.mem_append.mp hq with z | z
      · have := Ext.new (o := .lst [V.str "door", V.str (Str.ofString (toString b.2.1)), V.str (Str.ofString (toString b.2.2))]) hp _ _ (g3 q z).2
        refine ⟨(g3 q z).1, ?_⟩
        rw [upd_ne (g3 q z).1]
        exact this
      · rw [List.mem_singleton.mp z]
        refine ⟨Ne.symm hpD, ?_⟩
        show upd _ D _ p = _
        rw [upd_ne (Ne.symm hpD), upd_same]
        rfl
    · intro D acc Hx ⟨la, g1, g2, g3, g4, g5, g6, g7⟩
      have g1 : la.map Prod.snd = st.ds := by simpa using g1
      refine ⟨_, by rw [g7]; rfl, ⟨_, (h1.ext g6).sa⟩, a, st, rfl, hst.ext g6, fun ca' hca => ?_⟩
      refine ⟨ca', rfl, _, by rw [hca]; rfl, by simp only [List.append_nil, List.length_map]; omega, fun p hp => ⟨?_, fun p2 hp2 => ?_⟩⟩
      · rw [g2, List.length_append, List.length_map]
        have : la.length = st.ds.length := by rw [← g1, List.length_map]
        simp only [List.length_singleton]
        omega
      have e1 := Ext.new (o := .lst (V.str "crates" :: (st.cs.map V.str ++ []))) hp
      have e2 := Ext.new (o := .lst (acc ++ [V.ref p])) hp2
      have hrow : ∀ q, q ∈ (la.map fun q => (q.1, doorW q.2)) ++ [(p, ("crates" : Str) :: st.cs)] → q.2 ∈ rowsW st ∧ upd (upd Hx p (.lst (V.str "crates" :: (st.cs.map V.str ++ [])))) p2 (.lst (acc ++ [V.ref p])) q.1 = some (.lst (q.2.map V.str)) := fun q hq => by
        rcases List.mem_append.mp hq with z | z
        · obtain ⟨q', hq', rfl⟩ := List.mem_map.mp z
          refine ⟨List.mem_append_left _ (List.mem_map.mpr ⟨q'.2, ?_, rfl⟩), e2 _ _ (e1 _ _ (g3 q' hq').2)⟩
          rw [← g1]
          exact List.mem_map.mpr ⟨q', hq', rfl⟩
        · rw [List.mem_singleton.mp z]
          refine ⟨List.mem_append_right _ List.mem_cons_self, e2 _ _ ?_⟩
          rw [upd_same]
          simp
      have hfm : ((la.map fun q => (q.1, doorW q.2)) ++ [(p, ("crates" : Str) :: st.cs)]).map Prod.snd = rowsW st := by
        rw [List.map_append, List.map_map]
        unfold rowsW
        rw [← g1, List.map_map]
        rfl
      refine ⟨Addr × List Str, (la.map fun q => (q.1, doorW q.2)) ++ [(p, ("crates" : Str) :: st.cs)], fun q => .ref q.1, by rw [g2]; simp, ?_, fun q => some (.str (Txt.join " " q.2)), fun q hq H2 e => ?_, fun D2 H2 hD2 e hl2 => ?_⟩
      · have : la.length = st.ds.length := by rw [← g1, List.length_map]
        simp only [List.length_append, List.length_map, List.length_singleton]
        omega
      · obtain ⟨r1, r2⟩ := hrow q hq
        have rk := rowsW_ok ok _ r1
        exact ⟨q.1, rfl, q.2, by rw [e _ _ r2]; rfl, by have := rk.sum; show _ + _ * 1 ≤ _; omega, .refl _, rfl⟩
      · have hl3 : H2 D2 = some (.lst (((rowsW st).map (Txt.join " ")).map V.str)) := by
          rw [hl2, ← hfm]
          congr 2
          rw [fm_some, List.map_map, List.map_map]
          rfl
        refine ⟨_, by rw [hl3]; rfl, ?_, q H2 ((g6.trans (e1.trans e2)).trans e)⟩
        exact Nat.le_trans (textS_len ok) (by decide)
end
end CC
set_option maxHeartbeats 4000000
namespace CC
open PySem PySem.Spec PyProof.Rows L2 StX LamX NdefX
local macro_rules | `(tactic| walk_at "rd") => `(tactic| simp only [tVar, tC, tOp, tUn, rI0, rI, rU, rEq, rNe, tTest, tB, tAnd, tOr, tNot, tAndV, tOrV, tNotV, tIf, tChain, tIfS, tRet, tRetN, tSeq, tNext, tAsg, gName, tDrop, tCons, tNil, tCB, tCR, tTup, tLst, rIsF, tyN_non, tyN_bl, tyN_int, tyN_str, tyN_ref, isB_1, isB_2, isB_3, isB_4, isB_5, isB_6, isB_7, isB_8, tyO_tup, tyO_lst, tyO_dK, tyO_frz, rIxG, rLenG, rInG, rAllG, rSumG, rListG, rTupG, tLcF, tLcP, tForF, tForP, srcTup, srcLst, srcStr, srcRng, srcEnum, srcZip, srcEnumT, tYes, wipe, gTupG, gCons, gNil, tStarG, tSl, rSlTG, rSlLG, rCatTG, rRep, tJoinG, rSortedSG, tApp, tExd, tupO_tup, lstO_lst, seqO_tup, seqO_lst, dKO_dK, tNoPart, tPart, tFl, sFl, tSls, sSls, tMeS, tPrS, tPrF, tMethR, tMake, sFlAug, rLenS, L2.start, List.map_cons, List.map_nil, List.length_cons, List.length_nil, Nat.zero_add, Nat.reduceAdd, Nat.reduceSub, List.replicate_succ, List.replicate_zero, List.forall_mem_map, List.cons_append, List.nil_append, List.getElem?_cons_succ, List.getElem?_cons_zero, List.set_cons_zero, List.set_cons_succ, Option.some.injEq, V.int.injEq, V.str.injEq, V.bl.injEq, V.ref.injEq, V.ty.injEq, List.cons.injEq, HO.tup.injEq, HO.lst.injEq, HO.ins.injEq, reduceCtorEq, exists_eq_left', exists_eq_left, exists_eq_right', exists_eq_right, exists_and_left, exists_and_right, and_true, true_and, and_false, false_and, or_false, false_or, or_true, true_or, exists_const, exists_eq', exists_eq, scal_ii, scal_ss, scal_bb, scal_nn, scal_ns, scal_sn, tSlB, sSlB, upd_upd, tPar, tLcI, tSIdx, tPrS, lkWn, lkWw, lkWs, tLamM, NdefX.slotAt, tM1, rNewStrs, rEq0, tMakeR, upd_same, if_true, if_false, ite_true, ite_false, Bool.not_true, Bool.not_false, Bool.true_and, Bool.and_true, Bool.false_eq_true, decide_true, decide_false, sz1, atI_0, atI_1, and_assoc])
local macro_rules | `(tactic| walk_at "rh") => `(tactic| simp only [*, tVar, tC, tOp, tUn, rI0, rI, rU, rEq, rNe, tTest, tB, tAnd, tOr, tNot, tAndV, tOrV, tNotV, tIf, tChain, tIfS, tRet, tRetN, tSeq, tNext, tAsg, gName, tDrop, tCons, tNil, tCB, tCR, tTup, tLst, rIsF, tyN_non, tyN_bl, tyN_int, tyN_str, tyN_ref, isB_1, isB_2, isB_3, isB_4, isB_5, isB_6, isB_7, isB_8, tyO_tup, tyO_lst, tyO_dK, tyO_frz, rIxG, rLenG, rInG, rAllG, rSumG, rListG, rTupG, tLcF, tLcP, tForF, tForP, srcTup, srcLst, srcStr, srcRng, srcEnum, srcZip, srcEnumT, tYes, wipe, gTupG, gCons, gNil, tStarG, tSl, rSlTG, rSlLG, rCatTG, rRep, tJoinG, rSortedSG, tApp, tExd, tupO_tup, lstO_lst, seqO_tup, seqO_lst, dKO_dK, tNoPart, tPart, tFl, sFl, tSls, sSls, tMeS, tPrS, tPrF, tMethR, tMake, sFlAug, rLenS, L2.start, List.map_cons, List.map_nil, List.length_cons, List.length_nil, Nat.zero_add, Nat.reduceAdd, Nat.reduceSub, List.replicate_succ, List.replicate_zero, List.forall_mem_map, List.cons_append, List.nil_append, List.getElem?_cons_succ, List.getElem?_cons_zero, List.set_cons_zero, List.set_cons_succ, Option.some.injEq, V.int.injEq, V.str.injEq, V.bl.injEq, V.ref.injEq, V.ty.injEq, List.cons.injEq, HO.tup.injEq, HO.lst.injEq, HO.ins.injEq, reduceCtorEq, exists_eq_left', exists_eq_left, exists_eq_right', exists_eq_right, exists_and_left, exists_and_right, and_true, true_and, and_false, false_and, or_false, false_or, or_true, true_or, exists_const, exists_eq', exists_eq, scal_ii, scal_ss, scal_bb, scal_nn, scal_ns, scal_sn, tSlB, sSlB, upd_upd, tPar, tLcI, tSIdx, tPrS, lkWn, lkWw, lkWs, tLamM, NdefX.slotAt, tM1, rNewStrs, rEq0, tMakeR, upd_same, if_true, if_false, ite_true, ite_false, Bool.not_true, Bool.not_false, Bool.true_and, Bool.and_true, Bool.false_eq_true, decide_true, decide_false, sz1, atI_0, atI_1, and_assoc])
section
variable {P : Program} {w : World} {K : PySem.W.Frag} {mg : Str → Option Value} {base : Heap}
abbrev q2 : Str := "parse_store.<locals>.<lambda>"
def lamSc : List Stmt → Scope
  | [_, _, .For _ _ [_, _, .If (.Compare (.Call _ [.Lambda _ _ sc _] _ _) _ _ _) _ _ _] _ _, _, _] => sc
  | _ => defScope s_parse_store
def lam2S : Scope := lamSc (defBody s_parse_store)
theorem lam2_s : NScope ["word", "heads"] ["word"] ["heads"] lam2S := nscope_by (by decide +kernel)
theorem lines_eq {s : Sto} (ok : s.Ok) : Txt.split (textS s) "\n" = (rowsW s).map (Txt.join " ") := by
  refine TL.split_join (s := 10) (S := []) rfl (by decide +kernel) (by simp [rowsW]) fun p hp => ?_
  obtain ⟨r, hr, rfl⟩ := List.mem_map.mp hp
  exact (rowsW_ok ok r hr).nonl
theorem extN_tO {H H' : Hp} (e : ExtN H H') {a : Addr} {xs : List V} (h : tupO (H a) = some xs) : tupO (H' a) = some xs := by
  cases z : H a with
  | none => rw [z] at h; cases h
  | some o =>
    rw [e _ _ z (fun ps y => by subst y; rw [z] at h; cases h), ← z]
    exact h
structure DigOk (i : Int) : Prop where
  len : (Str.ofString (toString i)).length = 1
  dig : ∀ c, c ∈ (Str.ofString (toString i)).cps.toList → c ∈ ("0123456789" : Str).cps.toList
  n0 : (Str.ofString (toString i)).cps.toList[0]? ≠ some 48
  int : PySem.intText? (Str.ofString (toString i)) = some i
theorem dig_ok {i : Int} (h1 : 1 ≤ i) (h2 : i ≤ 9) : DigOk i := by
  have : i = 1 ∨ i = 2 ∨ i = 3 ∨ i = 4 ∨ i = 5 ∨ i = 6 ∨ i = 7 ∨ i = 8 ∨ i = 9 := by omega
  rcases this with rfl | rfl | rfl | rfl | rfl | rfl | rfl | rfl | rfl <;> exact ⟨by decide +kernel, by decide +kernel, by decide +kernel, by decide +kernel⟩
def spParse (K : PySem.W.Frag) (Tb : List (Addr × Str)) : Sp := fun vs H Q _ => ∃ s : Sto, vs = [.str (textS s)] ∧ s.Ok ∧ Tabs Tb H ∧ ∀ p H', ExtN H H' → Tabs Tb H' → StoAt K H' p s → Q (.ref p) H'
theorem ok_parse_store (T : Txt K mg w) {Pt1 Pt : Addr} {Tb : List (Addr × Str)} (TF1 : TabF K base mg (mA K "Row" "read_crates") Pt1) (hmT1 : (Pt1, q1) ∈ Tb) (hu1 : ∀ p ∈ Tb, p.1 = Pt1 → p.2 = q1) (TF : TabF K base mg (gA K "parse_store") Pt) (hmT : (Pt, q2) ∈ Tb) (hu : ∀ p ∈ Tb, p.1 = Pt → p.2 = q2) : OkF P w K mg base CX0 10 (gA K "parse_store") ["text"] (spParse K Tb) := by
  have F_Row___init__ := ok_Row___init__ (P := P) (base := base) T
  have F_Row_has_more := ok_Row_has_more (P := P) (base := base) T
  have F_Row_next_word := ok_Row_next_word (P := P) (base := base) T
  have F_heads_at := ok_heads_at (P := P) (base := base) T
  have F_Store___init__ := ok_Store___init__ (P := P) (base := base) T
  have F_Row_read_crates := ok_Row_read_crates (P := P) (base := base) T TF1 hmT1 hu1
  refine mk0C (k := 9) T.d_parse_store TF sc_parse_store (fun _ _ _ _ _ _ us hl => match us, hl with | [_], _ => rfl) (fun vs H Q E h => ?_) (fun cd A outer s H vs Q E TB hr h => ?_)
  · obtain ⟨st, rfl, _⟩ := h
    rfl
  · obtain ⟨st, rfl, ok, hT, q⟩ := h
    refine ⟨_, (pss_cons (ps_par (by rfl) sc_parse_store.nd (i := 1) (j := 2) rfl rfl (by decide) rfl rfl (pa_cons (pe_lst pa_nil) (pa_cons (pe_tup pa_nil) pa_nil)) (by rfl))
    (pss_cons (CC.st (i := 3) sc_parse_store.nd (pe_split (pv 0) pe_str))
    (pss_cons (forP PassesOwn.never rfl (sr_enum T.b_enumerate (pa_cons (pv 3) pa_nil)) (pg_tupG (n := 2) rfl (pgs_cons (pg_name (i := 4) sc_parse_store.nd rfl (.inl rfl)) (pgs_cons (pg_name (i := 5) sc_parse_store.nd rfl (.inl rfl)) pgs_nil)))
      (pss_cons (CC.st (i := 6) sc_parse_store.nd (pe_mk T.mk_Row F_Row___init__ hr T.g_Row.1 pass0 (pa_cons (pv 4) (pa_cons (pv 5) pa_nil))))
    (pss_cons (CC.st (i := 7) sc_parse_store.nd (pe_cR F_heads_at.raw hr T.g_heads_at pass0 (pa_cons (pv 1) (pa_cons (pv 2) pa_nil))))
    (pss_one (ps_if (pt_cmpR op_eq (pe_lamMeth (T := Tb) (k := 5) (k2 := 4) (js := [7]) T.cls_Row T.me_Row_next_word T.d_Row_next_word sc_Row_next_word rfl (i := 1) rfl (.inl rfl) (fun _ _ _ _ _ _ us hl => match us, hl with | [_, _], _ => rfl) (nw_handed T) TB rfl hmT hu hr (by decide) (by decide) lam2_s (show ndefB (defScope s_parse_store) lam2S ["heads"] = true by decide +kernel) rfl rfl (fun _ _ _ _ _ _ => rfl) (fun A outer s H f c' cl hr2 => pe_cmpR op_inG (pv 0) (pv 1) rfl) (pv 6)) (pe_gs T.c_CRATES) (nomark _)) (pss_one (CC.st (i := 2) sc_parse_store.nd (pe_meF0 T.cls_Row T.me_Row_read_crates F_Row_read_crates.raw hr pass0 (pv 6)))) (pss_cons (CC.st (i := 8) sc_parse_store.nd (pe_callTy call_int_str rfl T.b_int (by decide +kernel) (pa_cons (pe_meF T.cls_Row T.me_Row_next_word F_Row_next_word.raw hr pass0 (pv 6) (pa_cons (pe_glob (v := .ref (gA K "is_count")) rfl T.g_is_count.1 rfl) pa_nil)) pa_nil)))
    (pss_cons (ps_expr (pe_app (pe_bm PySem.F.plainAttrs_list PySem.F.slot_list_append PySem.F.type_list_append mt_append (upPE (pv 1)) (pa_cons (upPE (pe_tup (pa_cons (pv 8) (pa_cons (pe_callTy call_int_str rfl T.b_int (by decide +kernel) (pa_cons (pe_meF T.cls_Row T.me_Row_next_word F_Row_next_word.raw hr pass0 (pv 6) (pa_cons (pe_glob (v := .ref (gA K "is_count")) rfl T.g_is_count.1 rfl) pa_nil)) pa_nil)) pa_nil)))) pa_nil))))
    (pss_one (ps_if (pt_val (pe_meF0 T.cls_Row T.me_Row_has_more F_Row_has_more.raw hr pass0 (pv 6))) (pss_one (ps_never)) pss_nil)))))))))
    (pss_cons (ps_if (pt_cmpR (op_eq0 (CC.Room.un1 hr)) (pv 2) (pe_tup pa_nil) (nomark _)) (pss_one (ps_never)) pss_nil)
    (pss_one (ps_ret (pe_mk T.mk_Store F_Store___init__ hr T.g_Store.1 pass0 (pa_cons (pe_callTy call_tupleG rfl T.b_tuple (by decide +kernel) (pa_cons (pv 1) pa_nil)) (pa_cons (pv 2) pa_nil))))))))), ?_⟩
    walk_at "rh"
    rw [lines_eq ok]
    refine ⟨by omega, fun p0 hp0 => ⟨by omega, fun p1 hp1 => ⟨by decide, ?_, fun p2 hp2 => ?_⟩⟩⟩
    · have h1 := textS_len ok
      have h2 : (textS st).length ≤ 1000 := by
        unfold textS
        rw [TL.join_eq]
        refine Nat.le_trans (PySem.StrLaws.join_length_le _ _) ?_
        have h3 : (("\n" : Str)).length = 1 := by decide +kernel
        rw [h3]
        omega
      omega
    have e1 := Ext.new (o := .lst []) hp0
    have e2 := Ext.new (o := .tup []) hp1
    have e3 := Ext.new (o := .lst (((rowsW st).map (Txt.join " ")).map V.str)) hp2
    refine ⟨List Str × Nat, (rowsW st).zipIdx, fun a => .int (a.2 : Nat), fun a => .str (Txt.join " " a.1), ?_, fun rr σ Hx => ∃ (la : List (Addr × (Int × Int))) (nm : Addr) (x4 x5 x6 x7 x8 : Option V), σ = [some (.str (textS st)), some (.ref p0), some (.ref nm), some (.ref p2), x4, x5, x6, x7, x8] ∧ Hx p0 = some (.lst (la.map fun q => .ref q.1)) ∧ (∀ q, q ∈ la → DoorAt Hx q.1 q.2) ∧ Hx p2 = some (.lst (((rowsW st).map (Txt.join " ")).map V.str)) ∧ ExtN H Hx ∧ Tabs Tb Hx ∧
      ((∃ rest, la.map Prod.snd ++ rest = st.ds ∧ rr.map Prod.fst = rest.map doorW ++ [("crates" : Str) :: st.cs] ∧ Hx nm = some (.tup [])) ∨ (rr = [] ∧ la.map Prod.snd = st.ds ∧ Hx nm = some (.tup (st.cs.map V.str)))), ?_, fun rr σ Hx ⟨la, nm, x4, x5, x6, x7, x8, g1, g2, g3, g4, _⟩ => g4, ?_, ?_⟩
    · simp [List.zipIdx_map]
    · refine ⟨[], p1, none, none, none, none, none, rfl, e3 _ _ (e2 _ _ upd_same), fun q hq => (nomatch hq), upd_same, fun b u e _ => ((e1.trans e2).trans e3) _ _ e, hT.ext ((e1.trans e2).trans e3), .inl ⟨st.ds, rfl, ?_, e3 _ _ upd_same⟩⟩
      simp [rowsW]
    · intro b rr σ Hx TT ⟨la, nm, x4, x5, x6, x7, x8, hσ, g2, g3, g4, g5, g6, g7⟩ hTT
      subst hσ
      obtain ⟨rest, g8, g9, g10⟩ : ∃ rest, la.map Prod.snd ++ rest = st.ds ∧ (b :: rr).map Prod.fst = rest.map doorW ++ [("crates" : Str) :: st.cs] ∧ Hx nm = some (.tup []) := by
        rcases g7 with g | ⟨g, _⟩
        · exact g
        · cases g
      have hb : RowOk b.1 := by
        refine rowsW_ok ok _ ?_
        have : b.1 ∈ rest.map doorW ++ [("crates" : Str) :: st.cs] := by rw [← g9]; simp
        unfold rowsW
        rcases List.mem_append.mp this with z | z
        · refine List.mem_append_left _ ?_
          obtain ⟨d, hd, e⟩ := List.mem_map.mp z
          exact List.mem_map.mpr ⟨d, by rw [← g8]; exact List.mem_append_right _ hd, e⟩
        · exact List.mem_append_right _ z
      have hbl : b.1.length ≤ 100 := by have := hb.sum; omega
      have eT := Ext.new (o := .tup [.int (b.2 : Nat), .str (Txt.join " " b.1)]) hTT
      refine ⟨_, rfl, _, rfl, fun x1 dx hx1 hdx ndx => ?_⟩
      have eM := Made.ext (C := gA K "Row") hx1 hdx
      refine ⟨x1, dx, (b.2 : Nat), Txt.join " " b.1, rfl, Made.of ndx, by have := hb.len; omega, by rw [hb.spl]; omega, fun wa H5 k5 hwa R5 => ⟨rfl, _, rfl, _, rfl, ?_⟩⟩
      rw [hb.spl] at R5
      have e5 : Ext Hx H5 := fun a u e => k5 _ _ (fun z => by subst z; rw [eT _ _ e] at hx1; cases hx1) (eM _ _ (eT _ _ e))
      have hlal : la.length ≤ 3 := by
        have := congrArg List.length g8
        rw [List.length_append, List.length_map] at this
        have := ok.d.d2
        omega
      refine ⟨p0, nm, la, rfl, e5 _ _ g2, fun q hq => e5 _ _ (g3 q hq), hlal, e5 _ _ g10, fun hd H6 e6 hh => ?_⟩
      obtain ⟨dx5, r1, r2, r3⟩ := id R5
      have e56 := e5.trans e6
      refine ⟨_, rfl, x1, rfl, _, _, e6 _ _ r1, rfl, g6.ext e56, fun f c' H7 n7 t7 hc' => ?_⟩
      have nx : ∀ {o : HO}, (∃ C d fs, o = .ins C d fs) → ∀ ps, o ≠ .tbl ps := fun {o} ⟨C, d, fs, e⟩ ps z => by subst e; cases z
      have q1' : H7 x1 = _ := n7 _ _ (e6 _ _ r1) (fun ps z => by cases z)
      have q2' : H7 wa = _ := n7 _ _ (e6 _ _ r2) (fun ps z => by cases z)
      have hh7 := extN_tO n7 hh
      have eN7 : ExtN Hx H7 := fun a u e nt => n7 _ _ (e56 _ _ e) nt
      have hwd : ∃ wd : Str, b.1[0]? = some wd ∧ ((wd = "crates" ∧ rest = [] ∧ b.1 = ("crates" : Str) :: st.cs ∧ rr = []) ∨ (wd = "door" ∧ ∃ d rest', rest = d :: rest' ∧ b.1 = doorW d ∧ rr.map Prod.fst = rest'.map doorW ++ [("crates" : Str) :: st.cs])) := by
        cases rest with
        | nil =>
          simp only [List.map_cons, List.map_nil, List.nil_append, List.cons.injEq] at g9
          refine ⟨"crates", by rw [g9.1]; rfl, .inl ⟨rfl, rfl, g9.1, List.map_eq_nil_iff.mp g9.2⟩⟩
        | cons d rest' =>
          simp only [List.map_cons, List.cons_append, List.cons.injEq] at g9
          exact ⟨"door", by rw [g9.1]; rfl, .inr ⟨rfl, d, rest', rfl, g9.1, g9.2⟩⟩
      obtain ⟨wd, hw0, hwd⟩ := hwd
      have hin : wd ∈ headsL la.length := by
        rcases hwd with ⟨rfl, h0, _⟩ | ⟨rfl, _⟩
        · subst h0
          have : la.length ≠ 0 := fun z => by
            have h1 := ok.d.d1
            rw [List.append_nil] at g8
            rw [← g8, List.length_map, z] at h1
            omega
          simp [headsL, this]
        · unfold headsL
          split <;> simp
      refine ⟨x1, wa, _, b.1, 0, wd, fun x H1 => x = .bl true ∧ Ext H7 H1, rfl, ⟨dx5, q1', q2', r3⟩, hw0, ⟨hc', ?_⟩, fun x H1 hx => ⟨hx.1, ⟨dx5, hx.2 _ _ q1', hx.2 _ _ q2', r3⟩, fun H8 k8 R8 => ⟨?_, ?_⟩⟩⟩
      · show tOp (rInG false) (tVar 0) (tVar 1) [some (.str wd), some (.ref hd)] H7 _
        walk_at "rh"
        refine ⟨_, seqO_of hh7, rfl, ?_, ?_, .refl _⟩
        · simp [List.all_map, flatV]
        · simp only [inV]
          rw [List.any_map, List.any_eq_true]
          exact ⟨wd, hin, by simp [eqV]⟩
      · rcases hwd with ⟨rfl, _⟩ | ⟨rfl, _⟩ <;> rfl
      · have q8 : H8 p0 = some (.lst (la.map fun q => .ref q.1)) := k8 _ _ (fun z => by subst z; rw [eT _ _ g2] at hx1; cases hx1) (hx.2 _ _ (eN7 _ _ g2 (fun ps z => by cases z)))
        have x1n : Hx x1 = none := by
          cases z : Hx x1 with
          | none => rfl
          | some u => rw [eT _ _ z] at hx1; cases hx1
        have e8 : ExtN Hx H8 := fun a u e nt => k8 _ _ (fun z => by subst z; rw [x1n] at e; cases e) (hx.2 _ _ (eN7 _ _ e nt))
        have t8 : Tabs Tb H8 := tabs_kpi (t7.ext hx.2) k8 (hx.2 _ _ q1')
        obtain ⟨dx8, s1, s2, s3⟩ := id R8
        rcases hwd with ⟨rfl, h0, hb1, hrr⟩ | ⟨rfl, d, rest', h0, hb1, hrr⟩
        · rw [if_pos (by simp)]
          subst h0 hrr
          rw [List.append_nil] at g8
          rw [hb1] at R8
          refine ⟨_, rfl, x1, rfl, _, _, s1, rfl, x1, wa, _, st, rfl, R8, ok, t8, fun nm' H9 k9 t9 hnm => ?_⟩
          have e9 : ExtN Hx H9 := fun a u e nt => k9 _ _ (fun z => by subst z; rw [x1n] at e; cases e) (e8 _ _ e nt) nt
          exact ⟨la, nm', _, _, _, _, _, rfl, e9 _ _ g2 (fun ps z => by cases z), fun q hq => e9 _ _ (g3 q hq) (fun ps z => by cases z), e9 _ _ g4 (fun ps z => by cases z), g5.trans e9, t9, .inr ⟨rfl, g8, hnm⟩⟩
        · rw [if_neg (by simp; decide)]
          have hdw := ok.d.dw d (by rw [← g8, h0]; simp)
          have k1 := dig_ok (i := d.1) hdw.1.1 hdw.1.2
          have k2 := dig_ok (i := d.2) hdw.2.1 (by omega)
          refine ⟨_, rfl, x1, rfl, _, _, s1, rfl, x1, wa, _, _, _, Str.ofString (toString d.1), rfl, R8, by rw [hb1]; rfl, by rw [k1.len]; omega, by rw [k1.len]; omega, k1.dig, k1.n0, fun H9 k9 R9 => ?_⟩
          obtain ⟨dx9, s4, s5, s6⟩ := id R9
          have q9 := k9 _ _ (fun z => by subst z; rw [s1] at q8; cases q8) q8
          refine ⟨_, rfl, _, k1.int, by rw [k1.len]; omega, _, rfl, p0, rfl, ⟨_, by rw [q9]; rfl⟩, _, rfl, _, rfl, x1, rfl, _, _, s4, rfl, ?_⟩
          refine ⟨x1, wa, _, _, _, Str.ofString (toString d.2), rfl, R9, by rw [hb1]; rfl, by rw [k2.len]; omega, by rw [k2.len]; omega, k2.dig, k2.n0, fun HA kA RA => ?_⟩
          obtain ⟨dxA, s7, s8, s9⟩ := id RA
          refine ⟨_, rfl, _, k2.int, by rw [k2.len]; omega, ?_⟩
          have qA := kA _ _ (fun z => by subst z; rw [s1] at q8; cases q8) q9
          have np20 : p2 ≠ p0 := fun z => by
            subst z
            rw [e2 _ _ (upd_same (H := H) (a := p2) (o := .lst []))] at hp2
            cases hp2
          refine ⟨by omega, fun p hp => ?_⟩
          have eP := Ext.new (o := .tup [V.int d.1, V.int d.2]) hp
          have hpp0 : p ≠ p0 := fun z => by subst z; rw [qA] at hp; cases hp
          have hx1p0 : x1 ≠ p0 := fun z => by subst z; rw [s1] at q8; cases q8
          have hwap0 : wa ≠ p0 := fun z => by
            subst z
            have h1 : Hx wa = none := by
              cases y : Hx wa with
              | none => rfl
              | some u => rw [eM _ _ (eT _ _ y)] at hwa; cases hwa
            rw [h1] at g2
            cases g2
          have kF : Kp p0 HA (upd (upd HA p (.tup [V.int d.1, V.int d.2])) p0 (.lst (la.map (fun q => V.ref q.1) ++ [V.ref p]))) := kp_new_set hp
          have eF : KpN p0 Hx (upd (upd HA p (.tup [V.int d.1, V.int d.2])) p0 (.lst (la.map (fun q => V.ref q.1) ++ [V.ref p]))) := fun a u n e nt => by
            have nx1 : a ≠ x1 := fun z => by subst z; rw [x1n] at e; cases e
            exact kF _ _ n (kA _ _ nx1 (k9 _ _ nx1 (e8 _ _ e nt)))
          have tF := tabs_kpl (tabs_kpi (tabs_kpi t8 k9 s1) kA s4) kF qA
          refine ⟨_, by rw [upd_ne (Ne.symm hpp0), qA]; rfl, by rw [List.length_map]; omega, _, rfl, x1, rfl, _, _, kF _ _ hx1p0 s7, rfl, x1, wa, _, b.1, 0 + 1 + 1 + 1, rfl, ⟨dxA, kF _ _ hx1p0 s7, kF _ _ hwap0 s8, s9⟩, ?_⟩
          refine ⟨_, rfl, ?_⟩
          rw [if_neg (by rw [hb1]; simp [doorW])]
          refine ⟨la ++ [(p, d)], nm, _, _, _, _, _, rfl, by rw [upd_same]; simp, fun q hq => ?_, eF _ _ np20 g4 (fun ps z => by cases z), fun a u e nt => eF _ _ (fun z => by subst z; rw [hp0] at e; cases e) (g5 _ _ e nt) nt, tF, .inl ⟨rest', by rw [← g8, h0]; simp, hrr, eF _ _ (fun z => by subst z; rw [g10] at g2; cases g2) g10 (fun ps z => by cases z)⟩⟩
          rcases List.mem_append.mp hq with z | z
          · exact eF _ _ (fun y => by have := g3 q z; rw [y] at this; rw [show Hx p0 = _ from this] at g2; cases g2) (g3 q z) (fun ps z => by cases z)
          · rw [List.mem_singleton.mp z]
            show upd _ _ _ p = _
            rw [upd_ne hpp0, upd_same]
    · intro σ Hx ⟨la, nm, x4, x5, x6, x7, x8, hσ, g2, g3, g4, g5, g6, g7⟩
      subst hσ
      obtain ⟨g8, g9⟩ : la.map Prod.snd = st.ds ∧ Hx nm = some (.tup (st.cs.map V.str)) := by
        rcases g7 with ⟨rest, a1, a2, _⟩ | ⟨_, a1, a2⟩
        · exact absurd (congrArg List.length a2) (by simp)
        · exact ⟨a1, a2⟩
      have hcs : st.cs.map V.str ≠ [] := fun z => by
        have h1 := Sto.cs_len ok
        have h2 := ok.n1
        have h3 := congrArg List.length z
        simp at h3
        rw [h3] at h1
        simp at h1
        omega
      refine ⟨_, rfl, by omega, fun p hp => ⟨nm, rfl, ?_⟩⟩
      have f0 := Ext.new (o := .tup []) hp
      refine ⟨_, by rw [f0 _ _ g9]; rfl, ?_⟩
      rw [if_neg (by simpa using hcs)]
      refine ⟨_, rfl, p0, rfl, _, by rw [f0 _ _ g2]; rfl, fun ra hra => ⟨_, rfl, fun y dy hy hdy ndy => ?_⟩⟩
      have f1 := Ext.new (o := .tup (la.map fun q => V.ref q.1)) hra
      have f2 := Made.ext (C := gA K "Store") hy hdy
      have f02 := (f0.trans f1).trans f2
      refine ⟨y, ra, nm, dy, st, rfl, Made.of ndy, ⟨la, f2 _ _ upd_same, g8, fun q hq => f02 _ _ (g3 q hq)⟩, f02 _ _ g9, ok, fun H' k hs => ⟨rfl, ?_⟩⟩
      have ek := k.ext hy hdy
      have eAll : Ext Hx H' := (f0.trans f1).trans ek
      refine q y H' (fun a u e nt => eAll _ _ (g5 _ _ e nt)) (g6.ext eAll) hs
end
end CC
set_option maxHeartbeats 4000000
namespace CC
open PySem PySem.Spec PyProof.Rows L2 StX LamX NdefX
local macro_rules | `(tactic| walk_at "rd") => `(tactic| simp only [tVar, tC, tOp, tUn, rI0, rI, rU, rEq, rNe, tTest, tB, tAnd, tOr, tNot, tAndV, tOrV, tNotV, tIf, tChain, tIfS, tRet, tRetN, tSeq, tNext, tAsg, gName, tDrop, tCons, tNil, tCB, tCR, tTup, tLst, rIsF, tyN_non, tyN_bl, tyN_int, tyN_str, tyN_ref, isB_1, isB_2, isB_3, isB_4, isB_5, isB_6, isB_7, isB_8, tyO_tup, tyO_lst, tyO_dK, tyO_frz, rIxG, rLenG, rInG, rAllG, rSumG, rListG, rTupG, tLcF, tLcP, tForF, tForP, srcTup, srcLst, srcStr, srcRng, srcEnum, srcZip, srcEnumT, tYes, wipe, gTupG, gCons, gNil, tStarG, tSl, rSlTG, rSlLG, rCatTG, rRep, tJoinG, rSortedSG, tApp, tExd, tupO_tup, lstO_lst, seqO_tup, seqO_lst, dKO_dK, tNoPart, tPart, tFl, sFl, tSls, sSls, tMeS, tPrS, tPrF, tMethR, tMake, sFlAug, rLenS, L2.start, List.map_cons, List.map_nil, List.length_cons, List.length_nil, Nat.zero_add, Nat.reduceAdd, Nat.reduceSub, List.replicate_succ, List.replicate_zero, List.forall_mem_map, List.cons_append, List.nil_append, List.getElem?_cons_succ, List.getElem?_cons_zero, List.set_cons_zero, List.set_cons_succ, Option.some.injEq, V.int.injEq, V.str.injEq, V.bl.injEq, V.ref.injEq, V.ty.injEq, List.cons.injEq, HO.tup.injEq, HO.lst.injEq, HO.ins.injEq, reduceCtorEq, exists_eq_left', exists_eq_left, exists_eq_right', exists_eq_right, exists_and_left, exists_and_right, and_true, true_and, and_false, false_and, or_false, false_or, or_true, true_or, exists_const, exists_eq', exists_eq, scal_ii, scal_ss, scal_bb, scal_nn, scal_ns, scal_sn, spIsNumber, rTupX, rSetI, rSortedSet, rSetL, gSub, upd_upd, upd_same, if_true, if_false, ite_true, ite_false, Bool.not_true, Bool.not_false, Bool.true_and, Bool.and_true, Bool.false_eq_true, decide_true, decide_false, sz1, atI_0, atI_1, and_assoc])
local macro_rules | `(tactic| walk_at "rh") => `(tactic| simp only [*, tVar, tC, tOp, tUn, rI0, rI, rU, rEq, rNe, tTest, tB, tAnd, tOr, tNot, tAndV, tOrV, tNotV, tIf, tChain, tIfS, tRet, tRetN, tSeq, tNext, tAsg, gName, tDrop, tCons, tNil, tCB, tCR, tTup, tLst, rIsF, tyN_non, tyN_bl, tyN_int, tyN_str, tyN_ref, isB_1, isB_2, isB_3, isB_4, isB_5, isB_6, isB_7, isB_8, tyO_tup, tyO_lst, tyO_dK, tyO_frz, rIxG, rLenG, rInG, rAllG, rSumG, rListG, rTupG, tLcF, tLcP, tForF, tForP, srcTup, srcLst, srcStr, srcRng, srcEnum, srcZip, srcEnumT, tYes, wipe, gTupG, gCons, gNil, tStarG, tSl, rSlTG, rSlLG, rCatTG, rRep, tJoinG, rSortedSG, tApp, tExd, tupO_tup, lstO_lst, seqO_tup, seqO_lst, dKO_dK, tNoPart, tPart, tFl, sFl, tSls, sSls, tMeS, tPrS, tPrF, tMethR, tMake, sFlAug, rLenS, L2.start, List.map_cons, List.map_nil, List.length_cons, List.length_nil, Nat.zero_add, Nat.reduceAdd, Nat.reduceSub, List.replicate_succ, List.replicate_zero, List.forall_mem_map, List.cons_append, List.nil_append, List.getElem?_cons_succ, List.getElem?_cons_zero, List.set_cons_zero, List.set_cons_succ, Option.some.injEq, V.int.injEq, V.str.injEq, V.bl.injEq, V.ref.injEq, V.ty.injEq, List.cons.injEq, HO.tup.injEq, HO.lst.injEq, HO.ins.injEq, reduceCtorEq, exists_eq_left', exists_eq_left, exists_eq_right', exists_eq_right, exists_and_left, exists_and_right, and_true, true_and, and_false, false_and, or_false, false_or, or_true, true_or, exists_const, exists_eq', exists_eq, scal_ii, scal_ss, scal_bb, scal_nn, scal_ns, scal_sn, spIsNumber, rTupX, rSetI, rSortedSet, rSetL, gSub, upd_upd, upd_same, if_true, if_false, ite_true, ite_false, Bool.not_true, Bool.not_false, Bool.true_and, Bool.and_true, Bool.false_eq_true, decide_true, decide_false, sz1, atI_0, atI_1, and_assoc])
abbrev StE := Str × Nat × Int × Lay
def stepOne (s : Sto) (l : Lay) (z : Str) (i : Nat) (b : Option Str × Nat) : Option StE := if b.1 = none then some (z, b.2, wsum s (eAt s i) (eAt s b.2), exL l i b.2) else none
def stepsOf (s : Sto) (l : Lay) (a : Option Str × Nat) : List StE := match a.1 with
  | none => []
  | some z => l.zipIdx.filterMap (stepOne s l z a.2)
def stepsL (s : Sto) (l : Lay) : List StE := l.zipIdx.flatMap (stepsOf s l)
theorem stepsL_len {s : Sto} {l : Lay} : (stepsL s l).length ≤ l.length * l.length := by
  have h1 : ∀ rr : List (Option Str × Nat), (rr.flatMap (stepsOf s l)).length ≤ rr.length * l.length := fun rr => by
    induction rr with
    | nil => simp
    | cons a r ih =>
      have h2 : (stepsOf s l a).length ≤ l.length := by
        unfold stepsOf
        split
        · simp
        · exact Nat.le_trans (List.length_filterMap_le _ _) (by simp)
      rw [List.flatMap_cons, List.length_append, List.length_cons, Nat.add_mul]
      omega
  have := h1 l.zipIdx
  simpa [stepsL] using this
def StepAt (H : Hp) (q : Addr) (e : StE) : Prop := ∃ sa la, H q = some (.tup [.ref sa, .int e.2.2.1, .ref la]) ∧ H sa = some (.tup [.str e.1, .int (e.2.1 : Nat)]) ∧ LayX H la e.2.2.2
theorem StepAt.mono {H H' : Hp} {q : Addr} {e : StE} (h : StepAt H q e) (t : Tup H H') : StepAt H' q e := by
  obtain ⟨sa, la, h1, h2, h3⟩ := h
  exact ⟨sa, la, t.t _ _ h1, t.t _ _ h2, TupX.mono h3 t⟩
section
variable {P : Program} {w : World} {K : PySem.W.Frag} {mg : Str → Option Value} {base : Heap}
def spSteps (K : PySem.W.Frag) : Sp := fun vs H Q _ => ∃ (a b : Addr) (s : Sto) (l : Lay), vs = [.ref a, .ref b] ∧ StoAt K H a s ∧ s.Ok ∧ LayAt H b l ∧ IsLay s l ∧ ∀ p H' (es : List (Addr × StE)), Ext H H' → H p = none → H' p = some (.lst (es.map fun q => .ref q.1)) → es.map Prod.snd = stepsL s l → (∀ q, q ∈ es → StepAt H' q.1 q.2) → Q (.ref p) H'
theorem ok_all_steps (T : Txt K mg w) : OkF P w K mg base CX0 4 (gA K "all_steps") ["store", "layout"] (spSteps K) := by
  have F_Store_doors := ok_Store_doors (P := P) (base := base) T
  have F_exchanged := ok_exchanged (P := P) (base := base) T
  refine mk0 (k := 3) T.d_all_steps sc_all_steps (fun _ _ _ _ _ _ us hl => match us, hl with | [_, _], _ => rfl) (fun vs H Q E h => ?_) (fun cdv A outer s H vs Q E hr h => ?_)
  · obtain ⟨a, b, st, l, rfl, _⟩ := h
    rfl
  · obtain ⟨a, b, st, l, rfl, hst, ok, hb, il, q⟩ := h
    refine ⟨_, (pss_cons (CC.st (i := 2) sc_all_steps.nd (pe_lst pa_nil))
    (pss_cons (forP PassesOwn.never rfl (sr_enumT T.b_enumerate (pa_cons (pv 1) pa_nil)) (pg_tupG (n := 2) rfl (pgs_cons (pg_name (i := 3) sc_all_steps.nd rfl (.inl rfl)) (pgs_cons (pg_name (i := 4) sc_all_steps.nd rfl (.inl rfl)) pgs_nil)))
      (pss_one (ps_if (pt_cmpR op_notN (pv 4) pe_non (nomark _)) (pss_one (forP PassesOwn.never rfl (sr_enumT T.b_enumerate (pa_cons (pv 1) pa_nil)) (pg_tupG (n := 2) rfl (pgs_cons (pg_name (i := 5) sc_all_steps.nd rfl (.inl rfl)) (pgs_cons (pg_name (i := 6) sc_all_steps.nd rfl (.inl rfl)) pgs_nil)))
      (pss_one (ps_if (pt_cmpR op_isN (pv 6) pe_non (nomark _)) (pss_cons (CC.st (i := 7) sc_all_steps.nd (pe_callB (cr_sortedSet rfl) rfl T.b_sorted (by decide +kernel) (pa_cons (pe_callTy (call_setI rfl) rfl T.b_set (by decide +kernel) (pa_cons (pe_lst (pa_cons (pe_ix ix_G (pe_slS T.scls_Store T.sl_Store_edges (pv 0)) (pv 3) (fun _ _ => rfl)) (pa_cons (pe_ix ix_G (pe_slS T.scls_Store T.sl_Store_edges (pv 0)) (pv 5) (fun _ _ => rfl)) pa_nil))) pa_nil)) pa_nil)))
    (pss_cons (CC.st (i := 8) sc_all_steps.nd (pe_callB (cr_sumG rfl) rfl T.b_sum (by decide +kernel) (pa_cons (lcF (own := [("door", 9)]) rfl sc_all_steps.nd (sr_lst (pv 7)) (blkOk_by (N := n_all_steps) (sc := defScope s_all_steps) (by decide +kernel)) (fun _ _ _ _ _ => (pg_name (i := 9) sc_all_steps.nd rfl (.inl rfl))) (fun _ _ _ _ _ => pts_nil) (fun _ _ _ _ _ => (pe_ix ix_G (pe_ix ix_G (pe_prS T.scls_Store T.pr_Store_doors F_Store_doors.raw hr (pv 0)) (pv 9) (fun _ _ => rfl)) pe_int (fun _ _ => rfl)))) pa_nil)))
    (pss_one (ps_expr (pe_app (pe_bm PySem.F.plainAttrs_list PySem.F.slot_list_append PySem.F.type_list_append mt_append (upPE (pv 2)) (pa_cons (upPE (pe_tup (pa_cons (pe_tup (pa_cons (pv 4) (pa_cons (pv 5) pa_nil))) (pa_cons (pv 8) (pa_cons (pe_cR F_exchanged.raw hr T.g_exchanged pass0 (pa_cons (pv 1) (pa_cons (pv 3) (pa_cons (pv 5) pa_nil)))) pa_nil))))) pa_nil))))))) pss_nil)))) pss_nil)))
    (pss_one (ps_ret (pv 2))))), ?_⟩
    walk_at "rh"
    obtain ⟨ea, pa, da, ca, h1, h2, h3, ⟨ld, hld, hmd, hRd⟩, h5⟩ := id hst
    have hs := h1.sa
    have hll := il.len
    have hl4 : l.length ≤ 4 := by have := ok.len; have := ok.d.ps; omega
    have hb' : tupO (H b) = some (l.map layV) := hb
    refine ⟨by omega, fun p hp => ?_⟩
    have e0 := Ext.new (o := .lst []) hp
    refine ⟨_, by rw [e0.tup.tO hb'], Option Str × Nat, l.zipIdx, fun a => .int (a.2 : Nat), fun a => layV a.1, by simp [List.zipIdx_map], fun rr σ Hx => ∃ (la : List (Addr × StE)) (x3 x4 x5 x6 x7 x8 : Option V), σ = [some (.ref a), some (.ref b), some (.ref p), x3, x4, x5, x6, x7, x8, none] ∧ Ext H Hx ∧ Hx p = some (.lst (la.map fun q => .ref q.1)) ∧ (∀ q, q ∈ la → StepAt Hx q.1 q.2) ∧ la.map Prod.snd ++ rr.flatMap (stepsOf st l) = stepsL st l ∧ (∀ a, a ∈ rr → l[a.2]? = some a.1), ?_, fun rr σ Hx ⟨la, x3, x4, x5, x6, x7, x8, g1, g2, _⟩ => g2.tup.tO hb', ?_, ?_⟩
    · refine ⟨[], none, none, none, none, none, none, rfl, e0, upd_same, fun q hq => (nomatch hq), rfl, fun a ha => ?_⟩
      obtain ⟨x, n⟩ := a
      obtain ⟨u1, u2⟩ := List.mem_zipIdx' ha
      exact (List.getElem?_eq_getElem u1).trans (congrArg some u2.symm)
    · intro ⟨x, n⟩ rr σ Hx TT ⟨la, x3, x4, x5, x6, x7, x8, hσ, g2, g3, g4, g5, g6⟩ hTT
      subst hσ
      have eT := Ext.new (o := .tup [.int (n : Nat), layV x]) hTT
      have g3' := eT _ _ g3
      refine ⟨_, rfl, ?_⟩
      cases x with
      | none =>
        rw [if_neg (by simp [layV])]
        exact ⟨la, _, _, _, _, _, _, rfl, g2.trans eT, g3', fun q hq => (g4 q hq).mono eT.tup, by simpa [stepsOf] using g5, fun a ha => g6 a (List.mem_cons_of_mem _ ha)⟩
      | some z =>
        rw [if_pos (by simp [layV])]
        have hn : l[n]? = some (some z) := g6 _ List.mem_cons_self
        have hnl := (List.getElem?_eq_some_iff.mp hn).1
        refine ⟨_, rfl, b, rfl, _, by rw [(g2.trans eT).tup.tO hb'], Option Str × Nat, l.zipIdx, fun a => .int (a.2 : Nat), fun a => layV a.1, by simp [List.zipIdx_map], fun ss σ Hy => ∃ (lb : List (Addr × StE)) (x5 x6 x7 x8 : Option V), σ = [some (.ref a), some (.ref b), some (.ref p), some (.int (n : Nat)), some (.str z), x5, x6, x7, x8, none] ∧ Ext H Hy ∧ Hy p = some (.lst (lb.map fun q => .ref q.1)) ∧ (∀ q, q ∈ lb → StepAt Hy q.1 q.2) ∧ lb.map Prod.snd ++ (ss.filterMap (stepOne st l z n) ++ rr.flatMap (stepsOf st l)) = stepsL st l ∧ (∀ a, a ∈ ss → l[a.2]? = some a.1), ?_, fun ss σ Hy ⟨lb, x5, x6, x7, x8, f1, f2, _⟩ => f2.tup.tO hb', ?_, ?_⟩
        · refine ⟨la, _, _, _, _, rfl, g2.trans eT, g3', fun q hq => (g4 q hq).mono eT.tup, by rw [← g5]; simp [stepsOf], fun a ha => ?_⟩
          obtain ⟨x, n⟩ := a
          obtain ⟨u1, u2⟩ := List.mem_zipIdx' ha
          exact (List.getElem?_eq_getElem u1).trans (congrArg some u2.symm)
        · intro ⟨y, m⟩ ss σ Hy T2 ⟨lb, x5, x6, x7, x8, hσ, f2, f3, f4, f5, f6⟩ hT2
          subst hσ
          have eU := Ext.new (o := .tup [.int (m : Nat), layV y]) hT2
          have f3' := eU _ _ f3
          refine ⟨_, rfl, ?_⟩
          cases y with
          | some z2 =>
            rw [if_neg (by simp [layV])]
            exact ⟨lb, _, _, _, _, rfl, f2.trans eU, f3', fun q hq => (f4 q hq).mono eU.tup, by simpa [stepOne] using f5, fun a ha => f6 a (List.mem_cons_of_mem _ ha)⟩
          | none =>
            rw [if_pos (by simp [layV])]
            have hm : l[m]? = some none := f6 _ List.mem_cons_self
            have hml := (List.getElem?_eq_some_iff.mp hm).1
            have fU := f2.trans eU
            have hln : la.length = la.length := rfl
            have f4' : ∀ q, q ∈ lb → StepAt (upd Hy T2 (.tup [.int (m : Nat), layV none])) q.1 q.2 := fun q hq => (f4 q hq).mono eU.tup
            show ∃ v, _ ∧ _
            dsimp only
            generalize upd Hy T2 (.tup [.int (m : Nat), layV none]) = Hz at fU f3' f4' ⊢
            obtain ⟨xe, hxe⟩ : ∃ x, st.es[n]? = some x := ⟨st.es[n]'(by omega), by rw [List.getElem?_eq_getElem]⟩
            obtain ⟨ye, hye⟩ : ∃ x, st.es[m]? = some x := ⟨st.es[m]'(by omega), by rw [List.getElem?_eq_getElem]⟩
            have ex : eAt st n = xe := by unfold eAt; rw [List.getD_eq_getElem?_getD, Int.toNat_natCast, hxe]; rfl
            have ey : eAt st m = ye := by unfold eAt; rw [List.getD_eq_getElem?_getD, Int.toNat_natCast, hye]; rfl
            have mx := esOf_mem (List.mem_of_getElem? hxe)
            have my := esOf_mem (List.mem_of_getElem? hye)
            have at1 : atI (st.es.map V.int) (n : Nat) = some (.int xe) := atI_nat (by rw [List.getElem?_map, hxe]; rfl)
            have at2 : atI (st.es.map V.int) (m : Nat) = some (.int ye) := atI_nat (by rw [List.getElem?_map, hye]; rfl)
            have hse : seqO (Hz ea) = some (st.es.map V.int) := by rw [fU _ _ h2]; rfl
            refine ⟨_, rfl, a, rfl, _, (h1.ext fU).sa, _, rfl, _, rfl, ea, rfl, _, rfl, _, hse, _, at1, _, rfl, a, rfl, _, (h1.ext fU).sa, _, rfl, _, rfl, ea, rfl, _, rfl, _, hse, _, at2, ?_⟩
            refine ⟨by omega, fun p5 hp5 => ⟨[xe, ye], rfl, by simp, fun r c hr hc => ⟨_, _, rfl, by simp at hc; omega, fun ns p6 hns hmem _ hp6 => ?_⟩⟩⟩
            have e1 := ((Ext.new (o := .lst [V.int xe, V.int ye]) hp5).trans (.new hr)).trans (.new (o := .lst (ns.map V.int)) hp6)
            have hp6' := upd_same (H := upd (upd Hz p5 (HO.lst [V.int xe, V.int ye])) r (SetO w r (fun j => decide (j ∈ [xe, ye])) c)) (a := p6) (o := .lst (ns.map V.int))
            have hmem : ∀ k, k ∈ ns ↔ k = xe ∨ k = ye := fun k => by rw [hmem]; simp
            have hbd : ∀ k, k ∈ ns → (0 : Int) ≤ k ∧ k < st.ds.length := fun k hk => by
              rcases (hmem k).mp hk with rfl | rfl
              · exact ⟨by omega, by omega⟩
              · exact ⟨by omega, by omega⟩
            show ∃ v, _ ∧ _
            refine ⟨_, rfl, p6, rfl, ns.map V.int, ?_, Int, ns, V.int, rfl, two_len hns hmem, fun k => some (.int (wd st k)), ?_, ?_⟩
            · exact congrArg lstO hp6'
            · intro k hk H2 e2
              have ee := (fU.trans e1).trans e2
              refine ⟨rfl, _, rfl, a, rfl, ⟨_, (h1.ext ee).sa⟩, a, st, rfl, hst.ext ee, fun da' ⟨l', hl', hm', hR'⟩ => ?_⟩
              have hk2 := hbd k hk
              have hln : l'.length = st.ds.length := by rw [← hm', List.length_map]
              obtain ⟨r, hr⟩ : ∃ r, l'[k.toNat]? = some r := ⟨l'[k.toNat]'(by omega), by rw [List.getElem?_eq_getElem]⟩
              have hr2 : H2 r.1 = some (.tup [.int r.2.1, .int r.2.2]) := hR' r (List.mem_of_getElem? hr)
              have at1 : atI (l'.map fun q => V.ref q.1) k = some (.ref r.1) := by
                have := atI_nat (xs := l'.map fun q => V.ref q.1) (j := k.toNat) (v := .ref r.1) (by rw [List.getElem?_map, hr]; rfl)
                rwa [show ((k.toNat : Nat) : Int) = k by omega] at this
              have hwk : st.ds[k.toNat]? = some r.2 := by rw [← hm', List.getElem?_map, hr]; rfl
              refine ⟨_, rfl, da', rfl, k, rfl, _, by rw [hl']; rfl, _, at1, r.1, rfl, _, by rw [hr2]; rfl, _, atI_0, .refl _, ?_⟩
              simp [wd, hwk]
            · intro D H2 hD e2 hl2
              have ee := (fU.trans e1).trans e2
              have g3p := e2 _ _ (e1 _ _ f3')
              have gS : ∀ q, q ∈ lb → StepAt H2 q.1 q.2 := fun q hq => (f4' q hq).mono (e1.trans e2).tup
              refine ⟨ns.map (wd st), by rw [hl2]; simp [lstO, fm_some], _, rfl, p, rfl, ⟨_, by rw [g3p]; rfl⟩, _, rfl, _, rfl, by omega, fun p7 hp7 => ?_⟩
              rw [two_sum hns hmem]
              have e7 := Ext.new (o := .tup [V.str z, V.int (m : Nat)]) hp7
              have hbl : lb.length ≤ 16 := by
                have h1 := congrArg List.length f5
                rw [List.length_append, List.length_map] at h1
                have h2 := stepsL_len (s := st) (l := l)
                have h3 : l.length * l.length ≤ 4 * 4 := Nat.mul_le_mul hl4 hl4
                omega
              refine ⟨_, rfl, _, rfl, _, rfl, _, rfl, b, l, n, m, rfl, (LayAt.mono hb (ee.trans e7).tup), hnl, hml, by omega, fun pl H3 e3 hpl => ⟨by omega, fun p8 hp8 => ?_⟩⟩
              have e8 := Ext.new (o := .tup [V.ref p7, V.int (wsum st xe ye), V.ref pl]) hp8
              have e78 := (e7.trans e3).trans e8
              have g8 := e78 _ _ g3p
              have hpp8 : p ≠ p8 := fun z => by subst z; rw [(e7.trans e3) _ _ g3p] at hp8; cases hp8
              have kF : Kp p (upd H3 p8 (.tup [V.ref p7, V.int (wsum st xe ye), V.ref pl])) (upd (upd H3 p8 (.tup [V.ref p7, V.int (wsum st xe ye), V.ref pl])) p (.lst ((lb.map fun q => V.ref q.1) ++ [V.ref p8]))) := Kp.set
              have tF := tupL kF g8
              refine ⟨_, by rw [g8]; rfl, by rw [List.length_map]; omega, lb ++ [(p8, (z, m, wsum st (eAt st n) (eAt st m), exL l n m))], _, _, _, _, rfl, (ee.trans e78).own hp, by rw [upd_same]; simp, fun q hq => ?_, ?_, fun a ha => f6 a (List.mem_cons_of_mem _ ha)⟩
              · rcases List.mem_append.mp hq with y | y
                · exact ((gS q y).mono e78.tup).mono tF
                · rw [List.mem_singleton.mp y]
                  refine ⟨p7, pl, ?_, tF.t _ _ ((e3.trans e8) _ _ upd_same), TupX.mono hpl (e8.tup.trans tF)⟩
                  show upd _ p _ p8 = _
                  rw [upd_ne (Ne.symm hpp8), upd_same, ex, ey]
              · rw [← f5]
                simp [stepOne]
        · intro σ Hy ⟨lb, x5, x6, x7, x8, hσ, f2, f3, f4, f5, f6⟩
          exact ⟨lb, _, _, _, _, _, _, hσ, f2, f3, f4, by simpa using f5, fun a ha => g6 a (List.mem_cons_of_mem _ ha)⟩
    · intro σ Hx ⟨la, x3, x4, x5, x6, x7, x8, hσ, g2, g3, g4, g5, g6⟩
      subst hσ
      exact ⟨_, rfl, q p Hx la g2 hp g3 (by simpa using g5) g4⟩
end
end CC
set_option maxHeartbeats 4000000
/-! CCWays: costs and ways, plain. -/
namespace CC
open PySem PySem.Spec PyProof.Rows L2
theorem getL_put {xs : List LEnt} {l m : Lay} {b v : Addr} : (getL (putL xs l b v) m).map Prod.snd = if m = l then some v else (getL xs m).map Prod.snd := by
  have key : ∀ ys : List LEnt, getL (ys.map fun x => if x.1 = l then (x.1, x.2.1, v) else x) m = if m = l then (getL ys m).map (fun p => (p.1, v)) else getL ys m := fun ys => by
    induction ys with
    | nil => simp [getL]
    | cons a r ih =>
      unfold getL at ih ⊢
      rw [List.map_cons, List.find?_cons, List.find?_cons]
      by_cases h : a.1 = l
      · rw [if_pos h]
        by_cases hm : a.1 = m
        · simp [hm, ← h]
        · simp only [hm, decide_false]
          exact ih
      · rw [if_neg h]
        by_cases hm : a.1 = m
        · have : ¬ m = l := fun z => h (hm.trans z)
          simp [hm, this]
        · simp only [hm, decide_false]
          exact ih
  unfold putL
  split
  · rename_i h
    rw [key]
    by_cases hm : m = l
    · subst hm
      obtain ⟨p, hp⟩ := Option.isSome_iff_exists.mp h
      simp [hp]
    · simp [hm]
  · rename_i h
    have h : getL xs l = none := by simpa using h
    unfold getL at h ⊢
    rw [List.find?_append]
    by_cases hm : m = l
    · subst hm
      have h2 : xs.find? (fun x => decide (x.1 = m)) = none := by simpa using h
      rw [h2]
      simp
    · have : ([(l, b, v)] : List LEnt).find? (fun x => decide (x.1 = m)) = none := by simp [Ne.symm hm]
      rw [this]
      simp [hm]
theorem getL_del {xs : List LEnt} {l m : Lay} : getL (delL xs l) m = if m = l then none else getL xs m := by
  unfold getL delL
  induction xs with
  | nil => simp
  | cons a r ih =>
    by_cases h : a.1 = l
    · rw [List.filter_cons_of_neg (by simp [h]), ih, List.find?_cons]
      by_cases hm : m = l
      · simp [hm]
      · have : ¬ a.1 = m := fun z => hm (z.symm.trans h)
        simp [hm, this]
    · rw [List.filter_cons_of_pos (by simp [h]), List.find?_cons, List.find?_cons]
      by_cases hm : a.1 = m
      · have : ¬ m = l := fun z => h (hm.trans z)
        simp [hm, this]
      · simp only [hm, decide_false]
        exact ih
theorem getL_mem {xs : List LEnt} {l : Lay} {p : Addr × Addr} (h : getL xs l = some p) : (l, p) ∈ xs := by
  unfold getL at h
  obtain ⟨x, h1, h2⟩ := Option.map_eq_some_iff.mp h
  have h3 := List.find?_some h1
  have h4 := List.mem_of_find?_eq_some h1
  obtain ⟨a, b⟩ := x
  simp only [decide_eq_true_eq] at h3
  subst h2 h3
  exact h4
theorem mem_getL {xs : List LEnt} {x : LEnt} (h : x ∈ xs) : ∃ p, getL xs x.1 = some p := by
  unfold getL
  cases e : xs.find? (fun y => decide (y.1 = x.1)) with
  | none =>
    have := List.find?_eq_none.mp e x h
    simp at this
  | some y => exact ⟨_, rfl⟩
theorem keys_put {xs : List LEnt} {l : Lay} {b v : Addr} (h : getL xs l = none) : putL xs l b v = xs ++ [(l, b, v)] := by
  unfold putL
  rw [h]
  rfl
/-! ### costs -/
abbrev CostV := Int × Int × List (Str × Nat)
def CostAt (H : Hp) (c : Addr) (v : CostV) : Prop := ∃ (la : Addr) (l : List (Addr × (Str × Nat))), H c = some (.tup [.int v.1, .int v.2.1, .ref la]) ∧ H la = some (.lst (l.map fun q => .ref q.1)) ∧ l.map Prod.snd = v.2.2 ∧ ∀ q, q ∈ l → H q.1 = some (.tup [.str q.2.1, .int (q.2.2 : Nat)])
def stepD (s : Str × Nat) : PyData := .tuple [.str s.1, .int s.2]
def costD (v : CostV) : PyData := .tuple [.int v.1, .int v.2.1, .list (v.2.2.map stepD)]
def nmD (l : Lay) : PyData := .list (l.map fun o => .str (o.getD ""))
def itemD (v : CostV) (l : Lay) : PyData := .tuple [costD v, nmD l]
theorem CostAt.dp {K : PySem.W.Frag} {H : Hp} {c : Addr} {v : CostV} (h : CostAt H c v) : Dp K H (.ref c) (costD v) := by
  obtain ⟨la, l, h1, h2, h3, h4⟩ := h
  refine .tup (sqT_of (by rw [h1]; rfl)) (.cons (.int _) (.cons (.int _) (.cons (.lst (.of h2) ?_) .nil)))
  rw [← h3, List.map_map]
  exact dpAll_map fun q hq => .tup (sqT_of (by rw [h4 q hq]; rfl)) (.cons (.str _) (.cons (.int _) .nil))
theorem alike_steps : ∀ a b : List (Str × Nat), PySem.W.alikeAll (a.map stepD) (b.map stepD) = true
  | [], _ => by simp [PySem.W.alikeAll]
  | _ :: _, [] => by simp [PySem.W.alikeAll]
  | x :: a, y :: b => by simp [PySem.W.alikeAll, PySem.W.alike, stepD, alike_steps a b]
theorem alike_cost (a b : CostV) : PySem.W.alike (costD a) (costD b) = true := by
  simp [costD, PySem.W.alike, PySem.W.alikeAll, alike_steps]
theorem alike_nm : ∀ a b : Lay, PySem.W.alikeAll (a.map fun o => PyData.str (o.getD "")) (b.map fun o => PyData.str (o.getD "")) = true
  | [], _ => by simp [PySem.W.alikeAll]
  | _ :: _, [] => by simp [PySem.W.alikeAll]
  | x :: a, y :: b => by
    have := alike_nm a b
    simp only [List.map_cons, PySem.W.alikeAll, PySem.W.alike, this, Bool.and_self]
theorem alike_item (a b : CostV) (l m : Lay) : PySem.W.alike (itemD a l) (itemD b m) = true := by
  simp only [itemD, PySem.W.alike, PySem.W.alikeAll, alike_cost, nmD, alike_nm, Bool.and_self]
theorem depth_strs (l : Lay) : PyData.depthAll (l.map fun o => PyData.str (o.getD "")) ≤ 1 := by
  induction l with
  | nil => simp [PyData.depthAll]
  | cons a r ih => simp only [List.map_cons, PyData.depthAll, PyData.depth]; omega
theorem depth_steps (l : List (Str × Nat)) : PyData.depthAll (l.map stepD) ≤ 3 := by
  induction l with
  | nil => simp [PyData.depthAll]
  | cons a r ih => simp only [List.map_cons, PyData.depthAll, PyData.depth, stepD]; omega
theorem depth_cost (v : CostV) : (costD v).depth ≤ 6 := by
  have := depth_steps v.2.2
  simp only [costD, PyData.depth, PyData.depthAll]
  omega
theorem depth_item (v : CostV) (l : Lay) : (itemD v l).depth ≤ 8 := by
  have := depth_cost v
  have := depth_strs l
  simp only [itemD, nmD, PyData.depth, PyData.depthAll]
  omega
/-- what < tells of two costs' warmths -/
theorem lt_cost (a b : CostV) : (PySem.W.dataLt (costD a) (costD b) = true → a.1 ≤ b.1) ∧ (PySem.W.dataLt (costD a) (costD b) = false → b.1 ≤ a.1) := by
  by_cases h : a.1 = b.1
  · exact ⟨fun _ => by omega, fun _ => by omega⟩
  · have : PySem.W.dataLt (costD a) (costD b) = decide (a.1 < b.1) := by
      unfold costD
      rw [PySem.W.dataLt_tuple, PySem.W.dataLt_all_no (by simp [PySem.W.alike]) (by simp [PyData.eqv, h]), PySem.W.dataLt_int]
    rw [this]
    exact ⟨fun z => by have := of_decide_eq_true z; omega, fun z => by have := of_decide_eq_false z; omega⟩
end CC
set_option maxHeartbeats 4000000
/-! CCWays2: the steps of a layout; how many layouts there are. -/
namespace CC
open PySem PySem.Spec PyProof.Rows L2
theorem steps_mem {s : Sto} {l : Lay} {e : StE} (h : e ∈ stepsL s l) : ∃ i, ∃ hi : i < l.length, ∃ hj : e.2.1 < l.length, l[i] = some e.1 ∧ l[e.2.1] = none ∧ e.2.2.1 = wsum s (eAt s i) (eAt s e.2.1) ∧ e.2.2.2 = exL l i e.2.1 := by
  obtain ⟨⟨x, n⟩, h1, h2⟩ := List.mem_flatMap.mp h
  obtain ⟨u1, u2⟩ := List.mem_zipIdx' h1
  unfold stepsOf at h2
  cases x with
  | none => cases h2
  | some z =>
    obtain ⟨⟨y, m⟩, h3, h4⟩ := List.mem_filterMap.mp h2
    obtain ⟨w1, w2⟩ := List.mem_zipIdx' h3
    unfold stepOne at h4
    split at h4
    · rename_i hy
      simp only at hy
      cases h4
      exact ⟨n, u1, w1, u2.symm, w2.symm.trans hy, rfl, rfl⟩
    · cases h4
theorem mem_steps {s : Sto} {l : Lay} {i j : Nat} {z : Str} (hi : l[i]? = some (some z)) (hj : l[j]? = some none) : (z, j, wsum s (eAt s i) (eAt s j), exL l i j) ∈ stepsL s l := by
  have h1 : (some z, i) ∈ l.zipIdx := List.mem_zipIdx_iff_getElem?.mpr hi
  have h2 : ((none : Option Str), j) ∈ l.zipIdx := List.mem_zipIdx_iff_getElem?.mpr hj
  exact List.mem_flatMap.mpr ⟨_, h1, List.mem_filterMap.mpr ⟨_, h2, rfl⟩⟩
theorem steps_lay {s : Sto} {l : Lay} {e : StE} (il : IsLay s l) (h : e ∈ stepsL s l) : IsLay s e.2.2.2 := by
  obtain ⟨i, hi, hj, _, _, _, h4⟩ := steps_mem h
  rw [h4]
  exact il.ex hi hj
theorem steps_ne {s : Sto} {l : Lay} {e : StE} (h : e ∈ stepsL s l) : e.2.2.2 ≠ l := by
  obtain ⟨i, hi, hj, h1, h2, _, h4⟩ := steps_mem h
  rw [h4]
  intro z
  have hne : i ≠ e.2.1 := fun y => by
    subst y
    rw [h1] at h2
    cases h2
  have h5 : (exL l i e.2.1)[e.2.1]? = some (some e.1) := by
    unfold exL
    rw [show l.getD i none = some e.1 by rw [List.getD_eq_getElem?_getD, List.getElem?_eq_getElem hi, h1]; rfl]
    simp [hj]
  rw [z, List.getElem?_eq_getElem hj, h2] at h5
  cases h5
/-- all layouts of n places -/
def allLays : Nat → List Lay
  | 0 => [[]]
  | n + 1 => (allLays n).flatMap fun r => [none :: r, some "fig" :: r, some "kiwi" :: r, some "plum" :: r]
theorem allLays_len (n : Nat) : (allLays n).length = 4 ^ n := by
  induction n with
  | zero => rfl
  | succ n ih =>
    have : ∀ m : List Lay, (m.flatMap fun r => [none :: r, some ("fig" : Str) :: r, some "kiwi" :: r, some "plum" :: r]).length = 4 * m.length := fun m => by
      induction m with
      | nil => rfl
      | cons a r ih => rw [List.flatMap_cons, List.length_append, ih]; simp only [List.length_cons, List.length_nil]; omega
    rw [allLays, this, ih, Nat.pow_succ]
    omega
theorem mem_allLays : ∀ l : Lay, LayN l → l ∈ allLays l.length
  | [], _ => by simp [allLays]
  | a :: r, h => by
    have ih := mem_allLays r fun z hz => h z (List.mem_cons_of_mem _ hz)
    refine List.mem_flatMap.mpr ⟨r, ih, ?_⟩
    cases a with
    | none => simp
    | some z =>
      have := h z List.mem_cons_self
      simp [names3] at this
      rcases this with rfl | rfl | rfl <;> simp
theorem nodup_sub {α : Type} [DecidableEq α] : ∀ {l m : List α}, l.Nodup → (∀ x, x ∈ l → x ∈ m) → l.length ≤ m.length
  | [], _, _, _ => Nat.zero_le _
  | a :: r, m, hn, hs => by
    have h1 := List.nodup_cons.mp hn
    have ha := hs a List.mem_cons_self
    have ih := nodup_sub (l := r) (m := m.erase a) h1.2 fun x hx => by
      have hxa : x ≠ a := fun z => h1.1 (z ▸ hx)
      exact (List.mem_erase_of_ne hxa).mpr (hs x (List.mem_cons_of_mem _ hx))
    rw [List.length_erase_of_mem ha] at ih
    have hp : 0 < m.length := List.length_pos_of_mem ha
    rw [List.length_cons]
    omega
theorem IsLay.nm {s : Sto} {l : Lay} (h : IsLay s l) : LayN l := fun z hz => by
  have h1 : z ∈ l.filterMap id := List.mem_filterMap.mpr ⟨some z, hz, rfl⟩
  exact List.mem_of_mem_take (h.prm.subset h1)
theorem lays_bound {s : Sto} (ok : s.Ok) {ls : List Lay} (hn : ls.Nodup) (hl : ∀ l, l ∈ ls → IsLay s l) : ls.length ≤ 256 := by
  have h1 : s.es.length ≤ 4 := by have := ok.len; have := ok.d.ps; omega
  have := nodup_sub hn (m := allLays s.es.length) fun l h => by
    have e := (hl l h).len
    rw [← e]
    exact mem_allLays l (hl l h).nm
  rw [allLays_len] at this
  have h2 : 4 ^ s.es.length ≤ 4 ^ 4 := Nat.pow_le_pow_right (by decide) h1
  omega
end CC
set_option maxHeartbeats 4000000
namespace CC
open PySem PySem.Spec PyProof.Rows L2 StX LamX NdefX
theorem cxP {CX : CXT} {P : Program} {w : World} {K : PySem.W.Frag} {mg : Str → Option Value} {base : Heap} {N : List Str} {q : Str} {sc : Scope} {f : Addr} {cd : Value} {A : Around} {o : List Env} {s : Shared} {H : Hp} {E : XK} : (cxOf CX P w K mg base N q sc f cd A o s H E).prog = P := rfl
theorem cxW {CX : CXT} {P : Program} {w : World} {K : PySem.W.Frag} {mg : Str → Option Value} {base : Heap} {N : List Str} {q : Str} {sc : Scope} {f : Addr} {cd : Value} {A : Around} {o : List Env} {s : Shared} {H : Hp} {E : XK} : (cxOf CX P w K mg base N q sc f cd A o s H E).w = w := rfl
theorem cxK {CX : CXT} {P : Program} {w : World} {K : PySem.W.Frag} {mg : Str → Option Value} {base : Heap} {N : List Str} {q : Str} {sc : Scope} {f : Addr} {cd : Value} {A : Around} {o : List Env} {s : Shared} {H : Hp} {E : XK} : (cxOf CX P w K mg base N q sc f cd A o s H E).K = K := rfl
local macro_rules | `(tactic| walk_at "rd") => `(tactic| simp only [tVar, tC, tOp, tUn, rI0, rI, rU, rEq, rNe, tTest, tB, tAnd, tOr, tNot, tAndV, tOrV, tNotV, tIf, tChain, tIfS, tRet, tRetN, tSeq, tNext, tAsg, gName, tDrop, tCons, tNil, tCB, tCR, tTup, tLst, rIsF, tyN_non, tyN_bl, tyN_int, tyN_str, tyN_ref, isB_1, isB_2, isB_3, isB_4, isB_5, isB_6, isB_7, isB_8, tyO_tup, tyO_lst, tyO_dK, tyO_frz, rIxG, rLenG, rInG, rAllG, rSumG, rListG, rTupG, tLcF, tLcP, tForF, tForP, srcTup, srcLst, srcStr, srcRng, srcEnum, srcZip, srcEnumT, tYes, wipe, gTupG, gCons, gNil, tStarG, tSl, rSlTG, rSlLG, rCatTG, rRep, tJoinG, rSortedSG, tApp, tExd, tupO_tup, lstO_lst, seqO_tup, seqO_lst, dKO_dK, tNoPart, tPart, tFl, sFl, tSls, sSls, tMeS, tPrS, tPrF, tMethR, tMake, sFlAug, rLenS, L2.start, List.map_cons, List.map_nil, List.length_cons, List.length_nil, Nat.zero_add, Nat.reduceAdd, Nat.reduceSub, List.replicate_succ, List.replicate_zero, List.forall_mem_map, List.cons_append, List.nil_append, List.getElem?_cons_succ, List.getElem?_cons_zero, List.set_cons_zero, List.set_cons_succ, Option.some.injEq, V.int.injEq, V.str.injEq, V.bl.injEq, V.ref.injEq, V.ty.injEq, List.cons.injEq, HO.tup.injEq, HO.lst.injEq, HO.ins.injEq, reduceCtorEq, exists_eq_left', exists_eq_left, exists_eq_right', exists_eq_right, exists_and_left, exists_and_right, and_true, true_and, and_false, false_and, or_false, false_or, or_true, true_or, exists_const, exists_eq', exists_eq, scal_ii, scal_ss, scal_bb, scal_nn, scal_ns, scal_sn, cxP, cxW, cxK, upd_upd, tLcPI, tOrT, tDNewL, tDispL, rNeL0, rDLIn, tLPop, rSetL', gSub, tLSub, rLtD, rMinD, tLockE, srcItemsL, upd_same, if_true, if_false, ite_true, ite_false, Bool.not_true, Bool.not_false, Bool.true_and, Bool.and_true, Bool.false_eq_true, decide_true, decide_false, sz1, atI_0, atI_1, and_assoc])
local macro_rules | `(tactic| walk_at "rh") => `(tactic| simp only [*, tVar, tC, tOp, tUn, rI0, rI, rU, rEq, rNe, tTest, tB, tAnd, tOr, tNot, tAndV, tOrV, tNotV, tIf, tChain, tIfS, tRet, tRetN, tSeq, tNext, tAsg, gName, tDrop, tCons, tNil, tCB, tCR, tTup, tLst, rIsF, tyN_non, tyN_bl, tyN_int, tyN_str, tyN_ref, isB_1, isB_2, isB_3, isB_4, isB_5, isB_6, isB_7, isB_8, tyO_tup, tyO_lst, tyO_dK, tyO_frz, rIxG, rLenG, rInG, rAllG, rSumG, rListG, rTupG, tLcF, tLcP, tForF, tForP, srcTup, srcLst, srcStr, srcRng, srcEnum, srcZip, srcEnumT, tYes, wipe, gTupG, gCons, gNil, tStarG, tSl, rSlTG, rSlLG, rCatTG, rRep, tJoinG, rSortedSG, tApp, tExd, tupO_tup, lstO_lst, seqO_tup, seqO_lst, dKO_dK, tNoPart, tPart, tFl, sFl, tSls, sSls, tMeS, tPrS, tPrF, tMethR, tMake, sFlAug, rLenS, L2.start, List.map_cons, List.map_nil, List.length_cons, List.length_nil, Nat.zero_add, Nat.reduceAdd, Nat.reduceSub, List.replicate_succ, List.replicate_zero, List.forall_mem_map, List.cons_append, List.nil_append, List.getElem?_cons_succ, List.getElem?_cons_zero, List.set_cons_zero, List.set_cons_succ, Option.some.injEq, V.int.injEq, V.str.injEq, V.bl.injEq, V.ref.injEq, V.ty.injEq, List.cons.injEq, HO.tup.injEq, HO.lst.injEq, HO.ins.injEq, reduceCtorEq, exists_eq_left', exists_eq_left, exists_eq_right', exists_eq_right, exists_and_left, exists_and_right, and_true, true_and, and_false, false_and, or_false, false_or, or_true, true_or, exists_const, exists_eq', exists_eq, scal_ii, scal_ss, scal_bb, scal_nn, scal_ns, scal_sn, cxP, cxW, cxK, upd_upd, tLcPI, tOrT, tDNewL, tDispL, rNeL0, rDLIn, tLPop, rSetL', gSub, tLSub, rLtD, rMinD, tLockE, srcItemsL, upd_same, if_true, if_false, ite_true, ite_false, Bool.not_true, Bool.not_false, Bool.true_and, Bool.and_true, Bool.false_eq_true, decide_true, decide_false, sz1, atI_0, atI_1, and_assoc])
theorem pe_orTK {X : Cx} (K : PySem.W.Frag) {a b : Expr} {rest : List Expr} {pos : Pos} {ta tb : TE} (ha : PE X a ta) (hb : PE X (.BoolOp .Or (b :: rest) pos) tb) (hK : X.K = K := by rfl) : PE X (.BoolOp .Or (a :: b :: rest) pos) (tOrT K ta tb) := by
  subst hK
  exact pe_orT ha hb
def wScope : Scope := match defBody s_all_ways with
  | [_, _, .While _ (.Assign _ (.Call _ [.ListComp _ _ sc _] _ _) _ :: _) _ _, _] => sc
  | _ => defScope s_all_ways
section
variable {P : Program} {w : World} {K : PySem.W.Frag} {mg : Str → Option Value} {base : Heap}
/-- every step has an entry at most as warm -/
def DoneW (H : Hp) (best wait : List LEnt) (es : List StE) : Prop := ∀ e, e ∈ es → ∃ (kv : Addr × Addr) (v : CostV), (getL best e.2.2.2 = some kv ∨ getL wait e.2.2.2 = some kv) ∧ CostAt H kv.2 v ∧ v.1 ≤ e.2.2.1 ∧ v.2.2 ≠ []
structure WI (P : Program) (w : World) (H0 Hx : Hp) (db dw : Addr) (st : Sto) (best wait : List LEnt) (k : Nat) : Prop where
  ext : Ext H0 Hx
  new : H0 db = none ∧ H0 dw = none
  ne : db ≠ dw
  d1 : DL P w Hx db best
  d2 : DL P w Hx dw wait
  il : ∀ x, x ∈ best ++ wait → IsLay st x.1
  cb : ∀ x, x ∈ best ++ wait → ∃ v, CostAt Hx x.2.2 v ∧ v.2.2.length ≤ k
  dj : ∀ x, x ∈ wait → getL best x.1 = none
  nd : (best.map (·.1)).Nodup
  nw : (wait.map (·.1)).Nodup
theorem DL.ext' {P : Program} {w : World} {H H' : Hp} {d : Addr} {xs : List LEnt} (D : DL P w H d xs) (e : Ext H H') : DL P w H' d xs := ⟨e _ _ D.at_, D.big, D.sz, fun x hx => ⟨LayAt.mono (D.ks x hx).1 e.tup, (D.ks x hx).2⟩⟩
theorem CostAt.ext {H H' : Hp} {c : Addr} {v : CostV} (h : CostAt H c v) (e : Ext H H') : CostAt H' c v := by
  obtain ⟨la, l, h1, h2, h3, h4⟩ := h
  exact ⟨la, l, e _ _ h1, e _ _ h2, h3, fun q hq => e _ _ (h4 q hq)⟩
theorem WI.mono {P : Program} {w : World} {H0 Hx Hy : Hp} {db dw : Addr} {st : Sto} {best wait : List LEnt} {k : Nat} (I : WI P w H0 Hx db dw st best wait k) (e : Ext Hx Hy) : WI P w H0 Hy db dw st best wait k :=
  ⟨I.ext.trans e, I.new, I.ne, I.d1.ext' e, I.d2.ext' e, I.il, fun x hx => let ⟨v, h1, h2⟩ := I.cb x hx; ⟨v, h1.ext e, h2⟩, I.dj, I.nd, I.nw⟩
theorem DoneW.ext {H H' : Hp} {best wait : List LEnt} {es : List StE} (h : DoneW H best wait es) (e : Ext H H') : DoneW H' best wait es := fun x hx => let ⟨kv, v, h1, h2, h3⟩ := h x hx; ⟨kv, v, h1, h2.ext e, h3⟩
def nmV (o : Option Str) : V := .str (o.getD "")
theorem names_tru {z : Str} (h : z ∈ names3) : z.length ≤ sizeLine ∧ ((z.length : Int) != 0) = true := by
  simp [names3] at h
  rcases h with rfl | rfl | rfl <;> exact ⟨by decide +kernel, by decide +kernel⟩
theorem tru_lay {K : PySem.W.Frag} {H : Hp} {o : Option Str} (h : ∀ z, o = some z → z ∈ names3) : TruV K (layV o) H o.isSome := by
  cases o with
  | none => rfl
  | some z => exact ⟨(names_tru (h z rfl)).1, (names_tru (h z rfl)).2.symm⟩
theorem tru_nm {K : PySem.W.Frag} {H : Hp} {o : Option Str} (h : ∀ z, o = some z → z ∈ names3) : TruV K (nmV o) H o.isSome := by
  cases o with
  | none => exact ⟨Nat.zero_le _, rfl⟩
  | some z => exact ⟨(names_tru (h z rfl)).1, (names_tru (h z rfl)).2.symm⟩
theorem getL_nd : ∀ {xs : List LEnt} {x : LEnt}, (xs.map (·.1)).Nodup → x ∈ xs → getL xs x.1 = some x.2
  | [], _, _, h => nomatch h
  | a :: r, x, hn, h => by
    unfold getL
    rw [List.find?_cons]
    rw [List.map_cons, List.nodup_cons] at hn
    rcases List.mem_cons.mp h with z | z
    · subst z
      simp
    · have : ¬ a.1 = x.1 := fun y => hn.1 (by rw [y]; exact List.mem_map.mpr ⟨x, z, rfl⟩)
      simp only [this, decide_false]
      exact getL_nd hn.2 z
theorem DL.kp {P : Program} {w : World} {H H' : Hp} {d s : Addr} {xs ys : List LEnt} (D : DL P w H d xs) (k : Kp s H H') (n : d ≠ s) (S : DL P w H s ys) : DL P w H' d xs := by
  have t : Tup H H' := k.tup (fun xs z => by rw [S.at_] at z; cases z) (fun xs z => by rw [S.at_] at z; cases z) (fun o u z => by rw [S.at_] at z; cases z)
  exact ⟨k _ _ n D.at_, D.big, D.sz, fun x hx => ⟨LayAt.mono (D.ks x hx).1 t, (D.ks x hx).2⟩⟩
theorem CostAt.kp {P : Program} {w : World} {H H' : Hp} {s c : Addr} {ys : List LEnt} {v : CostV} (h : CostAt H c v) (k : Kp s H H') (S : DL P w H s ys) : CostAt H' c v := by
  have ne : ∀ {b : Addr} {o : HO}, H b = some o → (∀ φ, o ≠ .ext φ) → H' b = some o := fun {b o} e n => k _ _ (fun z => by subst z; rw [S.at_] at e; cases e; exact n _ rfl) e
  obtain ⟨la, l, h1, h2, h3, h4⟩ := h
  exact ⟨la, l, ne h1 (fun _ z => by cases z), ne h2 (fun _ z => by cases z), h3, fun q hq => ne (h4 q hq) (fun _ z => by cases z)⟩
theorem getL_app {xs : List LEnt} {l m : Lay} {b v : Addr} (h : getL xs l = none) : getL (xs ++ [(l, b, v)]) m = if m = l then some (b, v) else getL xs m := by
  unfold getL at h ⊢
  rw [List.find?_append]
  by_cases hm : m = l
  · subst hm
    have h2 : xs.find? (fun x => decide (x.1 = m)) = none := by simpa using h
    rw [h2]
    simp
  · have : ([(l, b, v)] : List LEnt).find? (fun x => decide (x.1 = m)) = none := by simp [Ne.symm hm]
    rw [this]
    simp [hm]
/-- one layout goes from waiting to best -/
theorem WI.pop {P : Program} {w : World} {H0 H3 : Hp} {db dw hr : Addr} {st : Sto} {best wait : List LEnt} {k : Nat} {x : LEnt} (I : WI P w H0 H3 db dw st best wait k) (ok : st.Ok) (hx : x ∈ wait) (hb : LayAt H3 hr x.1) :
    WI P w H0 (upd (upd H3 dw (DLo P w dw (delL wait x.1))) db (DLo P w db (best ++ [(x.1, hr, x.2.2)]))) db dw st (best ++ [(x.1, hr, x.2.2)]) (delL wait x.1) k ∧ best.length ≤ 256 ∧
    (∀ c v, CostAt H3 c v → CostAt (upd (upd H3 dw (DLo P w dw (delL wait x.1))) db (DLo P w db (best ++ [(x.1, hr, x.2.2)]))) c v) ∧ DL P w (upd H3 dw (DLo P w dw (delL wait x.1))) db best ∧ LayAt (upd H3 dw (DLo P w dw (delL wait x.1))) hr x.1 := by
  have k1 : Kp dw H3 (upd H3 dw (DLo P w dw (delL wait x.1))) := Kp.set
  have d1 := I.d1.kp k1 I.ne I.d2
  have d2 := I.d2.del (l := x.1)
  have hb4 : LayAt (upd H3 dw (DLo P w dw (delL wait x.1))) hr x.1 := hb.mono I.d2.tup
  have hno := I.dj x hx
  have hput : putL best x.1 hr x.2.2 = best ++ [(x.1, hr, x.2.2)] := keys_put hno
  have hlen : best.length ≤ 256 := by
    have := lays_bound ok I.nd fun l hl => by
      obtain ⟨y, hy, rfl⟩ := List.mem_map.mp hl
      exact I.il y (List.mem_append_left _ hy)
    simpa using this
  have d1' := d1.put (v := x.2.2) hb4 (I.d2.ks x hx).2 (by omega)
  rw [hput] at d1'
  have k2 : Kp db (upd H3 dw (DLo P w dw (delL wait x.1))) (upd (upd H3 dw (DLo P w dw (delL wait x.1))) db (DLo P w db (best ++ [(x.1, hr, x.2.2)]))) := Kp.set
  have d2' := d2.kp k2 (Ne.symm I.ne) d1
  have cm : ∀ c v, CostAt H3 c v → CostAt (upd (upd H3 dw (DLo P w dw (delL wait x.1))) db (DLo P w db (best ++ [(x.1, hr, x.2.2)]))) c v := fun c v h => (h.kp k1 I.d2).kp k2 d1
  have hsub : ∀ y, y ∈ delL wait x.1 → y ∈ wait ∧ y.1 ≠ x.1 := fun y hy => by
    have := List.mem_filter.mp hy
    exact ⟨this.1, by simpa using this.2⟩
  refine ⟨⟨(I.ext.own I.new.2).own I.new.1, I.new, I.ne, d1', d2', fun y hy => ?_, fun y hy => ?_, fun y hy => ?_, ?_, ?_⟩, hlen, cm, d1, hb4⟩
  · rcases List.mem_append.mp hy with z | z
    · rcases List.mem_append.mp z with z | z
      · exact I.il y (List.mem_append_left _ z)
      · rw [List.mem_singleton.mp z]
        exact I.il x (List.mem_append_right _ hx)
    · exact I.il y (List.mem_append_right _ (hsub y z).1)
  · have : ∃ y', y' ∈ best ++ wait ∧ y'.2.2 = y.2.2 := by
      rcases List.mem_append.mp hy with z | z
      · rcases List.mem_append.mp z with z | z
        · exact ⟨y, List.mem_append_left _ z, rfl⟩
        · exact ⟨x, List.mem_append_right _ hx, by rw [List.mem_singleton.mp z]⟩
      · exact ⟨y, List.mem_append_right _ (hsub y z).1, rfl⟩
    obtain ⟨y', h1, h2⟩ := this
    obtain ⟨v, h3, h4⟩ := I.cb y' h1
    exact ⟨v, by rw [← h2]; exact cm _ _ h3, h4⟩
  · obtain ⟨h1, h2⟩ := hsub y hy
    rw [getL_app hno, if_neg h2]
    exact I.dj y h1
  · rw [List.map_append, List.nodup_append]
    refine ⟨I.nd, by simp, fun a ha b hb2 z => ?_⟩
    simp at hb2
    subst hb2 z
    obtain ⟨y, hy, e⟩ := List.mem_map.mp ha
    obtain ⟨p, hp⟩ := mem_getL hy
    rw [e, hno] at hp
    cases hp
  · exact (I.nw.sublist ((List.filter_sublist).map _))
theorem putL_mem {xs : List LEnt} {l : Lay} {b v : Addr} {y : LEnt} (h : y ∈ putL xs l b v) : (y ∈ xs) ∨ (y.1 = l ∧ y.2.2 = v) := by
  unfold putL at h
  split at h
  · obtain ⟨x, hx, e⟩ := List.mem_map.mp h
    split at e
    · rename_i hl
      subst e
      exact .inr ⟨hl, rfl⟩
    · subst e
      exact .inl hx
  · rcases List.mem_append.mp h with z | z
    · exact .inl z
    · rw [List.mem_singleton.mp z]
      exact .inr ⟨rfl, rfl⟩
theorem putL_keys {xs : List LEnt} {l : Lay} {b v : Addr} (hn : (xs.map (·.1)).Nodup) : ((putL xs l b v).map (·.1)).Nodup := by
  unfold putL
  split
  · rw [List.map_map]
    have : xs.map ((fun x : LEnt => x.1) ∘ fun x => if x.1 = l then (x.1, x.2.1, v) else x) = xs.map (·.1) := List.map_congr_left fun x _ => by
      show (if x.1 = l then (x.1, x.2.1, v) else x).1 = x.1
      split <;> rfl
    rw [this]
    exact hn
  · rename_i h
    rw [List.map_append, List.nodup_append]
    refine ⟨hn, by simp, fun a ha b hb2 z => ?_⟩
    simp at hb2
    subst hb2 z
    obtain ⟨y, hy, e⟩ := List.mem_map.mp ha
    obtain ⟨p, hp⟩ := mem_getL hy
    rw [e] at hp
    rw [hp] at h
    simp at h
/-- a way is written to waiting -/
theorem WI.put {P : Program} {w : World} {H0 Hm : Hp} {db dw la pm : Addr} {st : Sto} {best wait : List LEnt} {k : Nat} {o : Lay} {v : CostV} (I : WI P w H0 Hm db dw st best wait k) (ok : st.Ok) (hb : LayAt Hm la o) (il : IsLay st o) (hno : getL best o = none) (hc : CostAt Hm pm v) (hv : v.2.2.length ≤ k) :
    wait.length < 1000000 ∧ WI P w H0 (upd Hm dw (DLo P w dw (putL wait o la pm))) db dw st best (putL wait o la pm) k ∧ (∀ c v, CostAt Hm c v → CostAt (upd Hm dw (DLo P w dw (putL wait o la pm))) c v) := by
  have hlen : wait.length ≤ 256 := by
    have := lays_bound ok I.nw fun l hl => by
      obtain ⟨y, hy, rfl⟩ := List.mem_map.mp hl
      exact I.il y (List.mem_append_right _ hy)
    simpa using this
  have k1 : Kp dw Hm (upd Hm dw (DLo P w dw (putL wait o la pm))) := Kp.set
  have ho : o.length ≤ 1000 := by have := il.len; have := ok.len; have := ok.d.ps; omega
  have cm : ∀ c v, CostAt Hm c v → CostAt (upd Hm dw (DLo P w dw (putL wait o la pm))) c v := fun c v h => h.kp k1 I.d2
  refine ⟨by omega, ⟨I.ext.own I.new.2, I.new, I.ne, I.d1.kp k1 I.ne I.d2, I.d2.put hb ho (by omega), fun y hy => ?_, fun y hy => ?_, fun y hy => ?_, I.nd, putL_keys I.nw⟩, cm⟩
  · rcases List.mem_append.mp hy with z | z
    · exact I.il y (List.mem_append_left _ z)
    · rcases putL_mem z with z | ⟨z, _⟩
      · exact I.il y (List.mem_append_right _ z)
      · rw [z]; exact il
  · have old : ∀ y', y' ∈ best ++ wait → ∃ v, CostAt (upd Hm dw (DLo P w dw (putL wait o la pm))) y'.2.2 v ∧ v.2.2.length ≤ k := fun y' h => let ⟨v, h1, h2⟩ := I.cb y' h; ⟨v, cm _ _ h1, h2⟩
    rcases List.mem_append.mp hy with z | z
    · exact old y (List.mem_append_left _ z)
    · rcases putL_mem z with z | ⟨_, z⟩
      · exact old y (List.mem_append_right _ z)
      · rw [z]
        exact ⟨v, cm _ _ hc, hv⟩
  · rcases putL_mem hy with z | ⟨z, _⟩
    · exact I.dj y z
    · rw [z]; exact hno
theorem cost_inj {H : Hp} {c : Addr} {v u : CostV} (h : CostAt H c v) (g : CostAt H c u) : v.1 = u.1 := by
  obtain ⟨_, _, h1, _⟩ := h
  obtain ⟨_, _, g1, _⟩ := g
  rw [h1] at g1
  have := Option.some.inj g1
  simp at this
  exact this.1
theorem depthAll_le {k : Nat} : ∀ {ds : List PyData}, (∀ d, d ∈ ds → d.depth ≤ k) → PyData.depthAll ds ≤ k
  | [], _ => by simp [PyData.depthAll]
  | d :: r, h => by
    have h1 := h d List.mem_cons_self
    have h2 := depthAll_le (ds := r) fun x hx => h x (List.mem_cons_of_mem _ hx)
    simp only [PyData.depthAll]
    omega
def spWays (P : Program) (w : World) (K : PySem.W.Frag) : Sp := fun vs H Q _ => ∃ (a b : Addr) (s : Sto) (l : Lay), vs = [.ref a, .ref b] ∧ StoAt K H a s ∧ s.Ok ∧ LayAt H b l ∧ IsLay s l ∧ ∀ p H' best, Ext H H' → DL P w H' p best → DoneW H' best [] (stepsL s l) → Q (.ref p) H'
theorem ok_all_ways (T : Txt K mg w) : OkF P w K mg base CX0 70 (gA K "all_ways") ["store", "layout"] (spWays P w K) := by
  have F_all_steps := ok_all_steps (P := P) (base := base) T
  refine mk0 (k := 69) T.d_all_ways sc_all_ways (fun _ _ _ _ _ _ us hl => match us, hl with | [_, _], _ => rfl) (fun vs H Q E h => ?_) (fun cdv A outer s H vs Q E hr h => ?_)
  · obtain ⟨a, b, st, l, rfl, _⟩ := h
    rfl
  · obtain ⟨a, b, st, l, rfl, hst, ok, hb, il, q⟩ := h
    have hu0 := hr.units
    have hu16 : (cxOf CX0 P w K mg base n_all_ways "all_ways" (defScope s_all_ways) (gA K "all_ways") cdv A outer s H E).nox.A.units + 16 < cLine := Nat.lt_of_le_of_lt (Nat.add_le_add_left (by decide : 16 ≤ 64) _) hu0
    have hu32 : (cxOf CX0 P w K mg base n_all_ways "all_ways" (defScope s_all_ways) (gA K "all_ways") cdv A outer s H E).nox.A.units + 32 < cLine := Nat.lt_of_le_of_lt (Nat.add_le_add_left (by decide : 32 ≤ 64) _) hu0
    refine ⟨_, (pss_cons (CC.st (i := 2) sc_all_ways.nd pe_dnewL)
    (pss_cons (CC.st (i := 3) sc_all_ways.nd (pe_dispL hu16 (pv 1) (pe_tup (pa_cons pe_int (pa_cons pe_int (pa_cons (pe_lst pa_nil) pa_nil))))))
    (pss_cons (ps_while PassesOwn.never (pt_cmpR (op_neL0 hu16) (pv 3) pe_dnewL (nomark _))
      (pss_cons (ps_asg (pe_callB (cr_minD rfl hu32) rfl T.b_min (by decide +kernel) (pa_cons (pe_lock (lcPI (own := [("one", 11), ("cost", 4)]) rfl sc_all_ways.nd (sr_itemsL (pv 3)) (blkOk_by (N := n_all_ways) (sc := defScope s_all_ways) (by decide +kernel)) (fun _ _ _ _ _ => (pg_tupG (n := 2) rfl (pgs_cons (pg_name (i := 11) sc_all_ways.nd rfl (.inl rfl)) (pgs_cons (pg_name (i := 4) sc_all_ways.nd rfl (.inl rfl)) pgs_nil)))) (fun _ _ _ _ _ => pts_nil) (fun _ _ _ _ _ => (pe_tup (pa_cons (pv 4) (pa_cons (lcF (own := [("name", 10)]) rfl sc_all_ways.nd (sr_tup (pv 11)) (blkOk_by (N := n_all_ways) (sc := wScope) (by decide +kernel)) (fun _ _ _ _ _ => (pg_name (i := 10) sc_all_ways.nd rfl (.inl rfl))) (fun _ _ _ _ _ => pts_nil) (fun _ _ _ _ _ => (pe_orTK K (pv 10) (pe_one pe_str)))) pa_nil)))))) pa_nil)) (pg_tupG (n := 2) rfl (pgs_cons (pg_name (i := 4) sc_all_ways.nd rfl (.inl rfl)) (pgs_cons (pg_name (i := 5) sc_all_ways.nd rfl (.inl rfl)) pgs_nil))))
    (pss_cons (CC.st (i := 5) sc_all_ways.nd (pe_callTy call_tupleG rfl T.b_tuple (by decide +kernel) (pa_cons (lcF (own := [("name", 10)]) rfl sc_all_ways.nd (sr_lst (pv 5)) (blkOk_by (N := n_all_ways) (sc := defScope s_all_ways) (by decide +kernel)) (fun _ _ _ _ _ => (pg_name (i := 10) sc_all_ways.nd rfl (.inl rfl))) (fun _ _ _ _ _ => pts_nil) (fun _ _ _ _ _ => (pe_orTK K (pv 10) (pe_one pe_non)))) pa_nil)))
    (pss_cons (ps_asg (pe_lpop hu16 (pv 3) (pv 5) ⟨rfl, rfl, rfl, rfl⟩) (pg_sub (pv 2) (pv 5) (set_dictL hu16)))
    (pss_one (forF PassesOwn.never rfl (sr_lst (pe_cR F_all_steps.raw hr T.g_all_steps pass0 (pa_cons (pv 0) (pa_cons (pv 5) pa_nil)))) (pg_tupG (n := 3) rfl (pgs_cons (pg_name (i := 6) sc_all_ways.nd rfl (.inl rfl)) (pgs_cons (pg_name (i := 7) sc_all_ways.nd rfl (.inl rfl)) (pgs_cons (pg_name (i := 8) sc_all_ways.nd rfl (.inl rfl)) pgs_nil))))
      (pss_cons (CC.st (i := 9) sc_all_ways.nd (pe_tup (pa_cons (pe_op op_add (pe_ix ix_G (pv 4) pe_int (fun _ _ => rfl)) (pv 7)) (pa_cons (pe_op op_add (pe_ix ix_G (pv 4) pe_int (fun _ _ => rfl)) pe_int) (pa_cons (pe_lst (pa_starG (pe_ix ix_G (pv 4) pe_int (fun _ _ => rfl)) (pa_cons (pv 6) pa_nil))) pa_nil)))))
    (pss_one (ps_if (PW.pt (pw_and (pt_cmpR (op_notInL hu16) (pv 8) (pv 2) rfl) (pw_and1 (PW.pt (pw_or (pt_cmpR (op_notInL hu16) (pv 8) (pv 3) rfl) (pw_or1 (pt_cmpR (op_ltD hu32) (pv 9) (pe_lsub hu16 (pv 3) (pv 8) (fun _ _ => rfl)) (nomark _)))))))) (pss_one (ps_asg (pv 9) (pg_sub (pv 3) (pv 8) (set_dictL hu16)))) pss_nil)))))))))
    (pss_one (ps_ret (pv 2)))))), ?_⟩
    walk_at "rh"
    intro db hdb D1 dw hdw D2
    have e1 := Ext.new (o := DLo P w db []) hdb
    have e2 := Ext.new (o := DLo P w dw []) hdw
    refine ⟨by omega, fun p hp => ⟨by omega, fun p1 hp1 => ?_⟩⟩
    have e3 := Ext.new (o := .lst []) hp
    have e4 := Ext.new (o := .tup [V.int 0, V.int 0, V.ref p]) hp1
    have e14 := ((e1.trans e2).trans e3).trans e4
    have hdbw : db ≠ dw := fun z => by
      subst z
      rw [upd_same] at hdw
      cases hdw
    have D2' : DL P w (upd (upd (upd (upd H db (DLo P w db [])) dw (DLo P w dw [])) p (.lst [])) p1 (.tup [V.int 0, V.int 0, V.ref p])) dw [] := ⟨(e3.trans e4) _ _ upd_same, D2.big, Nat.zero_le _, fun x hx => (nomatch hx)⟩
    refine ⟨D2', l, LayAt.mono hb e14.tup, ?_⟩
    have hp1v := upd_same (H := upd (upd (upd H db (DLo P w db [])) dw (DLo P w dw [])) p (.lst [])) (a := p1) (o := .tup [V.int 0, V.int 0, V.ref p])
    have hpv := e4 _ _ (upd_same (H := upd (upd H db (DLo P w db [])) dw (DLo P w dw [])) (a := p) (o := .lst []))
    have hdbv := (e2.trans (e3.trans e4)) _ _ (upd_same (H := H) (a := db) (o := DLo P w db []))
    have hdwn : H dw = none := by
      cases z : H dw with
      | none => rfl
      | some u => rw [e1 _ _ z] at hdw; cases hdw
    generalize upd (upd (upd (upd H db (DLo P w db [])) dw (DLo P w dw [])) p (.lst [])) p1 (.tup [V.int 0, V.int 0, V.ref p]) = G at D2' e14 hp1v hpv hdbv ⊢
    have hdwp1 : dw ≠ p1 := fun z => by subst z; have := D2'.at_; rw [hp1v] at this; cases this
    have hdwp : dw ≠ p := fun z => by subst z; have := D2'.at_; rw [hpv] at this; cases this
    refine ⟨fun m σ Hx => ∃ (best wait : List LEnt) (x4 x5 x6 x7 x8 x9 x10 x11 : Option V), σ = [some (.ref a), some (.ref b), some (.ref db), some (.ref dw), x4, x5, x6, x7, x8, x9, x10, x11] ∧ WI P w H Hx db dw st best wait best.length ∧ m + best.length = 300 ∧ ((best = [] ∧ ∃ bk c, wait = [(l, bk, c)] ∧ CostAt Hx c (0, 0, [])) ∨ DoneW Hx best wait (stepsL st l)), ?_, ?_⟩
    · have k2 : Kp dw G (upd G dw (DLo P w dw [(l, b, p1)])) := Kp.set
      have t2 := D2'.tup (o := DLo P w dw [(l, b, p1)])
      refine ⟨300, [], [(l, b, p1)], none, none, none, none, none, none, none, none, rfl, ⟨e14.own hdwn, ⟨hdb, hdwn⟩, hdbw, ⟨k2 _ _ hdbw hdbv, D1.big, Nat.zero_le _, fun x hx => (nomatch hx)⟩, ⟨upd_same, D2'.big, by simp, fun x hx => ?_⟩, fun x hx => ?_, fun x hx => ?_, fun x hx => rfl, List.nodup_nil, by simp⟩, rfl, .inl ⟨rfl, b, p1, rfl, ⟨p, [], t2.t _ _ hp1v, k2 _ _ (Ne.symm hdwp) hpv, rfl, fun q hq => (nomatch hq)⟩⟩⟩
      · rw [List.mem_singleton.mp hx]
        exact ⟨(LayAt.mono hb e14.tup).mono t2, by have := il.len; have := ok.len; have := ok.d.ps; show l.length ≤ 1000; omega⟩
      · rw [List.mem_singleton.mp hx]
        exact il
      · rw [List.mem_singleton.mp hx]
        exact ⟨(0, 0, []), ⟨p, [], t2.t _ _ hp1v, k2 _ _ (Ne.symm hdwp) hpv, rfl, fun q hq => (nomatch hq)⟩, Nat.le_refl _⟩
    · intro m σ Hx ⟨best, wait, x4, x5, x6, x7, x8, x9, x10, x11, hσ, I, hm, hph⟩
      subst hσ
      walk_at "rh"
      intro p0 hp0 D0
      have e0 := Ext.new (o := DLo P w p0 []) hp0
      have I0 := I.mono e0
      refine ⟨wait, I0.d2, D0, ?_⟩
      cases wait with
      | nil =>
        rw [if_neg (by simp)]
        refine q db _ best I0.ext I0.d1 ?_
        rcases hph with ⟨_, bk, c, z, _⟩ | h
        · cases z
        · exact h.ext e0
      | cons w0 wr =>
        rw [if_pos (by simp)]
        refine ⟨_, fun σ' H' h => h, dw, DLo P w dw (w0 :: wr), I0.d2.at_, trivial, fun od => ?_⟩
        have hne0 : ∀ x, x ∈ w0 :: wr → LayAt (upd Hx p0 (DLo P w p0 [])) x.2.1 x.1 ∧ x.1.length ≤ 1000 := I0.d2.ks
        have hcb := I0.cb
        have tL : Kp dw (upd Hx p0 (DLo P w p0 [])) (upd (upd Hx p0 (DLo P w p0 [])) dw (.frz od (DLo P w dw (w0 :: wr)))) := Kp.set
        have tLt := I0.d2.tup (o := .frz od (DLo P w dw (w0 :: wr)))
        have hwl : (w0 :: wr).length ≤ 1000000 := I0.d2.sz
        refine ⟨od, w0 :: wr, upd_same, I0.d2.big, LEnt, w0 :: wr, fun e => .ref e.2.1, fun e => .ref e.2.2, rfl, by omega, fun D rr acc Hy => ∃ dn : List (Addr × LEnt), dn.map Prod.snd ++ rr = w0 :: wr ∧ acc = dn.map (fun q => .ref q.1) ∧ (∀ q, q ∈ dn → q.1 ≠ D ∧ ∃ nl, nl ≠ D ∧ Hy q.1 = some (.tup [.ref q.2.2.2, .ref nl]) ∧ Hy nl = some (.lst (q.2.1.map nmV))) ∧ upd (upd Hx p0 (DLo P w p0 [])) dw (.frz od (DLo P w dw (w0 :: wr))) D = none ∧ Ext (upd (upd Hx p0 (DLo P w p0 [])) dw (.frz od (DLo P w dw (w0 :: wr)))) Hy ∧ Hy D = some (.lst acc), ?_, ?_, ?_, ?_⟩
        · intro D hD
          exact ⟨[], rfl, rfl, fun q hq => (nomatch hq), hD, Ext.new hD, upd_same⟩
        · intro D rr acc Hy ⟨dn, _, _, _, _, g5, _⟩
          exact g5 _ _ upd_same
        · intro D x rr acc Hy TT ⟨dn, g1, g2, g3, g4, g5, g6⟩ hTT
          have hx : x ∈ w0 :: wr := by rw [← g1]; simp
          have eT := Ext.new (o := .tup [.ref x.2.1, .ref x.2.2]) hTT
          have hla := (((hne0 x hx).1.mono tLt).mono g5.tup).mono eT.tup
          have hln : LayN x.1 := (I0.il x (List.mem_append_right _ hx)).nm
          refine ⟨x.2.1, rfl, x.1.map layV, hla, Option Str, x.1, layV, rfl, by have := (hne0 x hx).2; omega, fun o => some (nmV o), fun o ho H2 e2 => ⟨o.isSome, tru_lay fun z hz => hln z (hz ▸ ho), ?_⟩, fun D1 H2 hD1 e2 hD12 => ⟨by omega, fun p5 hp5 => ?_⟩⟩
          · cases o with
            | none => exact ⟨.refl _, rfl⟩
            | some z => exact ⟨.refl _, rfl⟩
          · rw [fm_some] at hD12
            have e5 := Ext.new (o := .tup [.ref x.2.2, .ref D1]) hp5
            have eAll := (eT.trans e2).trans e5
            have hDy := eAll _ _ g6
            have hD1D : D1 ≠ D := fun z => by subst z; rw [eT _ _ g6] at hD1; cases hD1
            have hp5D : p5 ≠ D := fun z => by subst z; rw [(eT.trans e2) _ _ g6] at hp5; cases hp5
            refine ⟨hDy, dn ++ [(p5, x)], by rw [← g1]; simp, by rw [g2]; simp, fun q hq => ?_, g4, (g5.trans eAll).own g4, upd_same⟩
            rcases List.mem_append.mp hq with z | z
            · obtain ⟨h1, nl, h2, h3, h4⟩ := g3 q z
              exact ⟨h1, nl, h2, by rw [upd_ne h1]; exact eAll _ _ h3, by rw [upd_ne h2]; exact eAll _ _ h4⟩
            · rw [List.mem_singleton.mp z]
              exact ⟨hp5D, D1, hD1D, by rw [upd_ne hp5D]; exact upd_same, by rw [upd_ne hD1D]; exact e5 _ _ hD12⟩
        · intro D acc Hy ⟨dn, g1, g2, g3, g4, g5, g6⟩
          have hdn : dn.map Prod.snd = w0 :: wr := by simpa using g1
          have hDdw : D ≠ dw := fun z => by subst z; rw [upd_same] at g4; cases g4
          have hyw := g5 _ _ upd_same
          have eU : Ext (upd Hx p0 (DLo P w p0 [])) (upd Hy dw (DLo P w dw (w0 :: wr))) := fun b u e => by
            by_cases z : b = dw
            · subst z
              rw [I0.d2.at_] at e
              cases e
              exact upd_same
            · rw [upd_ne z]
              exact g5 _ _ (tL _ _ z e)
          have hDu : upd Hy dw (DLo P w dw (w0 :: wr)) D = some (.lst acc) := by rw [upd_ne hDdw]; exact g6
          have IU := I0.mono eU
          obtain ⟨fv, hfv⟩ : ∃ f : LEnt → CostV, ∀ x, x ∈ w0 :: wr → CostAt (upd Hy dw (DLo P w dw (w0 :: wr))) x.2.2 (f x) ∧ (f x).2.2.length ≤ best.length := by
            refine ⟨fun x => if h : x ∈ w0 :: wr then Classical.choose (IU.cb x (List.mem_append_right _ h)) else (0, 0, []), fun x hx => ?_⟩
            simp only [hx, dite_true]
            exact Classical.choose_spec (IU.cb x (List.mem_append_right _ hx))
          have hdnm : ∀ q, q ∈ dn → q.2 ∈ w0 :: wr := fun q hq => by rw [← hdn]; exact List.mem_map.mpr ⟨q, hq, rfl⟩
          have hitem : ∀ q, q ∈ dn → ∃ nl, upd Hy dw (DLo P w dw (w0 :: wr)) q.1 = some (.tup [.ref q.2.2.2, .ref nl]) ∧ upd Hy dw (DLo P w dw (w0 :: wr)) nl = some (.lst (q.2.1.map nmV)) := fun q hq => by
            obtain ⟨_, nl, _, h3, h4⟩ := g3 q hq
            refine ⟨nl, ?_, ?_⟩
            · rw [upd_ne (fun z => by rw [z, hyw] at h3; cases h3)]; exact h3
            · rw [upd_ne (fun z => by rw [z, hyw] at h4; cases h4)]; exact h4
          generalize upd Hy dw (DLo P w dw (w0 :: wr)) = Hu at eU hDu IU hfv hitem ⊢
          obtain ⟨q0, dr, rfl⟩ : ∃ q0 dr, dn = q0 :: dr := by
            cases dn with
            | nil => cases hdn
            | cons a r => exact ⟨a, r, rfl⟩
          refine ⟨hyw, acc, hDu, itemD (fv q0.2) q0.2.1, dr.map (fun q => itemD (fv q.2) q.2.1), ?_, ⟨?_, ?_⟩, ?_, ?_⟩
          · rw [g2]
            refine dpAll_map (f := fun q : Addr × LEnt => V.ref q.1) (g := fun q => itemD (fv q.2) q.2.1) (l := q0 :: dr) fun q hq => ?_
            obtain ⟨nl, h1, h2⟩ := hitem q hq
            refine .tup (sqT_of (by rw [h1]; rfl)) (.cons (hfv _ (hdnm q hq)).1.dp (.cons (.lst (.of h2) ?_) .nil))
            exact dpAll_map fun o _ => .str _
          · intro x hx y hy
            rw [show itemD (fv q0.2) q0.2.1 :: dr.map (fun q => itemD (fv q.2) q.2.1) = (q0 :: dr).map (fun q => itemD (fv q.2) q.2.1) from rfl] at hx hy
            obtain ⟨_, _, rfl⟩ := List.mem_map.mp hx
            obtain ⟨_, _, rfl⟩ := List.mem_map.mp hy
            exact alike_item _ _ _ _
          · intro x hx
            rw [show itemD (fv q0.2) q0.2.1 :: dr.map (fun q => itemD (fv q.2) q.2.1) = (q0 :: dr).map (fun q => itemD (fv q.2) q.2.1) from rfl] at hx
            obtain ⟨_, _, rfl⟩ := List.mem_map.mp hx
            intro z
            cases z
          · refine Nat.le_trans (depthAll_le (k := 8) fun d hd => ?_) (by decide)
            rw [show itemD (fv q0.2) q0.2.1 :: dr.map (fun q => itemD (fv q.2) q.2.1) = (q0 :: dr).map (fun q => itemD (fv q.2) q.2.1) from rfl] at hd
            obtain ⟨_, _, rfl⟩ := List.mem_map.mp hd
            exact depth_item _ _
          · intro v hv
            rw [g2] at hv
            obtain ⟨q1, hq1, rfl⟩ := List.mem_map.mp hv
            obtain ⟨nl, h1, h2⟩ := hitem q1 hq1
            obtain ⟨hc1, hc2⟩ := hfv _ (hdnm q1 hq1)
            have hmem := hdnm q1 hq1
            have hlN : LayN q1.2.1 := (IU.il _ (List.mem_append_right _ hmem)).nm
            have hll : q1.2.1.length ≤ 1000 := (IU.d2.ks _ hmem).2
            refine ⟨q1.1, rfl, _, by rw [h1]; rfl, rfl, _, _, rfl, _, _, rfl, rfl, nl, rfl, _, by rw [h2]; rfl, Option Str, q1.2.1, nmV, rfl, by omega, fun o => some (layV o), fun o ho H2 e2 => ⟨o.isSome, tru_nm fun z hz => hlN z (hz ▸ ho), ?_⟩, fun D1 H2 hD1 e2 hD12 => ?_⟩
            · cases o with
              | none => exact ⟨.refl _, rfl⟩
              | some z => exact ⟨.refl _, rfl⟩
            · rw [fm_some] at hD12
              refine ⟨_, by rw [hD12]; rfl, fun hr hhr => ?_⟩
              have e3 := Ext.new (o := .tup (q1.2.1.map layV)) hhr
              have I2 := (IU.mono e2).mono e3
              have hc3 := (hc1.ext e2).ext e3
              have hhere : upd H2 hr (.tup (q1.2.1.map layV)) hr = some (.tup (q1.2.1.map layV)) := upd_same
              generalize upd H2 hr (.tup (q1.2.1.map layV)) = H3 at e3 I2 hc3 hhere ⊢
              obtain ⟨kv, hkv⟩ := mem_getL hmem
              refine ⟨⟨_, I2.d2⟩, _, I2.d2, q1.2.1, ?_, kv, hkv, ?_⟩
              · show tupO _ = _
                rw [hhere]
                rfl
              obtain rfl : kv = q1.2.2 := Option.some.inj (hkv.symm.trans (getL_nd I2.nw hmem))
              have hereL : LayAt H3 hr q1.2.1 := by
                show tupO _ = _
                rw [hhere]
                rfl
              obtain ⟨I5, hb256, cm5, d1', hb4⟩ := I2.pop ok hmem hereL
              have hput : putL best q1.2.1 hr q1.2.2.2 = best ++ [(q1.2.1, hr, q1.2.2.2)] := keys_put (I2.dj _ hmem)
              refine ⟨best, d1', q1.2.1, hb4, by omega, ?_⟩
              rw [hput]
              have hc5 := cm5 _ _ hc3
              have hno := I2.dj _ hmem
              have hlay5 : LayAt (upd (upd H3 dw (DLo P w dw (delL (w0 :: wr) q1.2.1))) db (DLo P w db (best ++ [(q1.2.1, hr, q1.2.2.2)]))) hr q1.2.1 := hb4.mono d1'.tup
              have hilx : IsLay st q1.2.1 := I2.il _ (List.mem_append_right _ hmem)
              have hph5 : DoneW (upd (upd H3 dw (DLo P w dw (delL (w0 :: wr) q1.2.1))) db (DLo P w db (best ++ [(q1.2.1, hr, q1.2.2.2)]))) (best ++ [(q1.2.1, hr, q1.2.2.2)]) (delL (w0 :: wr) q1.2.1) (stepsL st l) ∨ (q1.2.1 = l ∧ best = [] ∧ (fv q1.2).1 = 0 ∧ delL (w0 :: wr) q1.2.1 = []) := by
                rcases hph with ⟨hb0, bk, c, hw, hc0⟩ | hD
                · refine .inr ?_
                  rw [hw] at hmem
                  have hq := List.mem_singleton.mp hmem
                  have hc0' := hc0.ext (e0.trans eU)
                  have hc1' := hc1
                  rw [hq] at hc1' ⊢
                  obtain ⟨_, _, u1, _⟩ := hc0'
                  obtain ⟨_, _, u2, _⟩ := hc1'
                  rw [u1] at u2
                  have := Option.some.inj u2
                  simp at this
                  exact ⟨rfl, hb0, this.1.symm, by rw [hw]; simp [delL]⟩
                · refine .inl fun e he => ?_
                  obtain ⟨kv, v, h1, h2, h3, h4⟩ := hD e he
                  have hv5 := cm5 _ _ (((h2.ext (e0.trans eU)).ext e2).ext e3)
                  rcases h1 with h1 | h1
                  · refine ⟨kv, v, .inl ?_, hv5, h3, h4⟩
                    rw [getL_app hno, if_neg (fun z => by rw [z, hno] at h1; cases h1)]
                    exact h1
                  · by_cases z : e.2.2.2 = q1.2.1
                    · rw [z] at h1
                      have := Option.some.inj (h1.symm.trans hkv)
                      subst this
                      exact ⟨(hr, q1.2.2.2), v, .inl (by rw [getL_app hno, if_pos z]), hv5, h3, h4⟩
                    · exact ⟨kv, v, .inr (by rw [getL_del, if_neg z]; exact h1), hv5, h3, h4⟩
              generalize upd (upd H3 dw (DLo P w dw (delL (w0 :: wr) q1.2.1))) db (DLo P w db (best ++ [(q1.2.1, hr, q1.2.2.2)])) = H5 at I5 hc5 hlay5 hph5 ⊢
              refine ⟨a, hr, st, q1.2.1, rfl, hst.ext I5.ext, ok, hlay5, hilx, fun ps H6 es e6 hps hps6 hes hS => ⟨ps, rfl, _, by rw [hps6]; rfl, Addr × StE, es, fun q => .ref q.1, rfl, ?_⟩⟩
              refine ⟨fun rr σ Hy => ∃ (w2 : List LEnt) (y6 y7 y8 y9 y10 y11 : Option V), σ = [some (.ref a), some (.ref b), some (.ref db), some (.ref dw), some (.ref q1.2.2.2), some (.ref hr), y6, y7, y8, y9, y10, y11] ∧ WI P w H Hy db dw st (best ++ [(q1.2.1, hr, q1.2.2.2)]) w2 (best.length + 1) ∧ CostAt Hy q1.2.2.2 (fv q1.2) ∧ Hy ps = some (.lst (es.map fun q => .ref q.1)) ∧ (∀ q, q ∈ rr → StepAt Hy q.1 q.2 ∧ q.2 ∈ stepsL st q1.2.1) ∧ (DoneW Hy (best ++ [(q1.2.1, hr, q1.2.2.2)]) w2 (stepsL st l) ∨ (q1.2.1 = l ∧ best = [] ∧ (fv q1.2).1 = 0 ∧ (∀ x, x ∈ w2 → ∃ v, CostAt Hy x.2.2 v ∧ v.2.2 ≠ []) ∧ ∃ pre, pre ++ rr.map Prod.snd = stepsL st l ∧ DoneW Hy (best ++ [(q1.2.1, hr, q1.2.2.2)]) w2 pre)), ?_, fun rr σ Hy ⟨w2, y6, y7, y8, y9, y10, y11, _, _, _, h, _⟩ => h, ?_, ?_⟩
              · have I6 := I5.mono e6
                refine ⟨delL (w0 :: wr) q1.2.1, _, _, _, _, _, _, rfl, ⟨I6.ext, I6.new, I6.ne, I6.d1, I6.d2, I6.il, fun x hx => let ⟨v, h1, h2⟩ := I6.cb x hx; ⟨v, h1, by omega⟩, I6.dj, I6.nd, I6.nw⟩, hc5.ext e6, hps6, fun q hq => ⟨hS q hq, by rw [← hes]; exact List.mem_map.mpr ⟨q, hq, rfl⟩⟩, ?_⟩
                rcases hph5 with h | ⟨h1, hb0, hf0, hde⟩
                · exact .inl (h.ext e6)
                · exact .inr ⟨h1, hb0, hf0, (fun x hx => by rw [hde] at hx; cases hx), [], by rw [List.nil_append, hes, h1], fun e he => (nomatch he)⟩
              · intro ⟨ea, e⟩ rr σ Hy ⟨w2, y6, y7, y8, y9, y10, y11, hσ, I7, hc7, h7, hss, hph7⟩
                subst hσ
                obtain ⟨⟨sa, la2, s1, s2, s3⟩, hin⟩ := hss _ List.mem_cons_self
                obtain ⟨lc, lsl, c1, c2, c3, c4⟩ := id hc7
                refine ⟨ea, rfl, _, by rw [s1]; rfl, rfl, _, _, rfl, _, _, rfl, _, _, rfl, rfl, _, rfl, q1.2.2.2, rfl, _, by rw [c1]; rfl, _, atI_0, ?_⟩
                have hk8 := I7.cb
                have hlsl : lsl.length ≤ best.length := by
                  rw [← List.length_map (f := Prod.snd), c3]
                  exact hc2
                refine ⟨_, rfl, _, rfl, e.2.2.1, rfl, _, rfl, q1.2.2.2, rfl, _, by rw [c1]; rfl, _, atI_1, _, rfl, _, rfl, q1.2.2.2, rfl, _, by rw [c1]; rfl, _, atI_nat (j := 2) rfl, lc, rfl, _, by rw [c2]; rfl, _, rfl, by simp; omega, fun pl hpl => ⟨by omega, fun pm hpm => ?_⟩⟩
                have g1 := Ext.new (o := .lst ((lsl.map fun q => V.ref q.1) ++ [V.ref sa])) hpl
                have g2 := Ext.new (o := .tup [V.int ((fv q1.2).1 + e.2.2.1), V.int ((fv q1.2).2.1 + 1), V.ref pl]) hpm
                have g12 := g1.trans g2
                have I8 := I7.mono g12
                have hcm : CostAt (upd (upd Hy pl (.lst ((lsl.map fun q => V.ref q.1) ++ [V.ref sa]))) pm (.tup [V.int ((fv q1.2).1 + e.2.2.1), V.int ((fv q1.2).2.1 + 1), V.ref pl])) pm ((fv q1.2).1 + e.2.2.1, (fv q1.2).2.1 + 1, (fv q1.2).2.2 ++ [(e.1, e.2.1)]) := by
                  refine ⟨pl, lsl ++ [(sa, (e.1, e.2.1))], upd_same, ?_, by rw [← c3]; simp, fun q hq => ?_⟩
                  · rw [g2 _ _ upd_same]
                    simp
                  · rcases List.mem_append.mp hq with z | z
                    · exact g12 _ _ (c4 q z)
                    · rw [List.mem_singleton.mp z]
                      exact g12 _ _ s2
                have hlo : LayAt (upd (upd Hy pl (.lst ((lsl.map fun q => V.ref q.1) ++ [V.ref sa]))) pm (.tup [V.int ((fv q1.2).1 + e.2.2.1), V.int ((fv q1.2).2.1 + 1), V.ref pl])) la2 e.2.2.2 := LayAt.mono (LayX.at s3) g12.tup
                generalize upd (upd Hy pl (.lst ((lsl.map fun q => V.ref q.1) ++ [V.ref sa]))) pm (.tup [V.int ((fv q1.2).1 + e.2.2.1), V.int ((fv q1.2).2.1 + 1), V.ref pl]) = Hm at g12 I8 hcm hlo ⊢
                refine ⟨_, rfl, _, rfl, la2, rfl, db, rfl, _, I8.d1, e.2.2.2, hlo, ?_⟩
                by_cases hbst : (getL (best ++ [(q1.2.1, hr, q1.2.2.2)]) e.2.2.2).isSome = true
                · rw [if_neg (by simp [hbst])]
                  refine ⟨w2, _, _, _, _, _, _, rfl, I8, hc7.ext g12, g12 _ _ h7, fun q hq => ⟨(hss q (List.mem_cons_of_mem _ hq)).1.mono g12.tup, (hss q (List.mem_cons_of_mem _ hq)).2⟩, ?_⟩
                  rcases hph7 with h | ⟨hl1, hb0, _, _, pre, p1', p2'⟩
                  · exact .inl (h.ext g12)
                  · exfalso
                    have hin2 : e ∈ stepsL st l := by rw [← hl1]; exact hin
                    have hne := steps_ne hin2
                    rw [hb0, List.nil_append] at hbst
                    unfold getL at hbst
                    simp [hl1, Ne.symm hne] at hbst
                · rw [if_pos (by simpa using hbst)]
                  have hb5 : getL (best ++ [(q1.2.1, hr, q1.2.2.2)]) e.2.2.2 = none := by simpa using hbst
                  obtain ⟨hwl, I9, cm9⟩ := I8.put ok hlo (steps_lay hilx hin) hb5 hcm (show ((fv q1.2).2.2 ++ [(e.1, e.2.1)]).length ≤ best.length + 1 by rw [List.length_append, List.length_singleton]; omega)
                  have t9 := I8.d2.tup (o := DLo P w dw (putL w2 e.2.2.2 la2 pm))
                  have k9 : Kp dw Hm (upd Hm dw (DLo P w dw (putL w2 e.2.2.2 la2 pm))) := Kp.set
                  have h9s := k9 _ _ (fun z => by have := I8.d2.at_; rw [← z, g12 _ _ h7] at this; cases this) (g12 _ _ h7)
                  have hcm9 := cm9 _ _ hcm
                  have own9 : ∃ kv, getL (putL w2 e.2.2.2 la2 pm) e.2.2.2 = some kv ∧ kv.2 = pm := by
                    have := getL_put (xs := w2) (l := e.2.2.2) (m := e.2.2.2) (b := la2) (v := pm)
                    rw [if_pos rfl] at this
                    exact Option.map_eq_some_iff.mp this
                  have dn9 : (∀ kv v, getL w2 e.2.2.2 = some kv → CostAt Hm kv.2 v → (fv q1.2).1 + e.2.2.1 ≤ v.1) → ∀ es0, DoneW Hm (best ++ [(q1.2.1, hr, q1.2.2.2)]) w2 es0 → DoneW (upd Hm dw (DLo P w dw (putL w2 e.2.2.2 la2 pm))) (best ++ [(q1.2.1, hr, q1.2.2.2)]) (putL w2 e.2.2.2 la2 pm) es0 := fun hle es0 hD x hx => by
                    obtain ⟨kv, v, h1, h2, h3, h4⟩ := hD x hx
                    rcases h1 with h1 | h1
                    · exact ⟨kv, v, .inl h1, cm9 _ _ h2, h3, h4⟩
                    · by_cases z : x.2.2.2 = e.2.2.2
                      · rw [z] at h1
                        obtain ⟨kv9, o1, o2⟩ := own9
                        exact ⟨kv9, _, .inr (by rw [z]; exact o1), by rw [o2]; exact hcm9, Int.le_trans (hle kv v h1 h2) h3, by simp⟩
                      · have := getL_put (xs := w2) (l := e.2.2.2) (m := x.2.2.2) (b := la2) (v := pm)
                        rw [if_neg z, h1] at this
                        obtain ⟨kv', o1, o2⟩ := Option.map_eq_some_iff.mp this
                        exact ⟨kv', v, .inr o1, by rw [o2]; exact cm9 _ _ h2, h3, h4⟩
                  have ph9 : (∀ kv v, getL w2 e.2.2.2 = some kv → CostAt Hm kv.2 v → (fv q1.2).1 + e.2.2.1 ≤ v.1) → (DoneW (upd Hm dw (DLo P w dw (putL w2 e.2.2.2 la2 pm))) (best ++ [(q1.2.1, hr, q1.2.2.2)]) (putL w2 e.2.2.2 la2 pm) (stepsL st l) ∨ (q1.2.1 = l ∧ best = [] ∧ (fv q1.2).1 = 0 ∧ (∀ x, x ∈ putL w2 e.2.2.2 la2 pm → ∃ v, CostAt (upd Hm dw (DLo P w dw (putL w2 e.2.2.2 la2 pm))) x.2.2 v ∧ v.2.2 ≠ []) ∧ ∃ pre, pre ++ rr.map Prod.snd = stepsL st l ∧ DoneW (upd Hm dw (DLo P w dw (putL w2 e.2.2.2 la2 pm))) (best ++ [(q1.2.1, hr, q1.2.2.2)]) (putL w2 e.2.2.2 la2 pm) pre)) := fun hle => by
                    rcases hph7 with h | ⟨a1, a2, a3, a6, pre, a4, a5⟩
                    · exact .inl (dn9 hle _ (h.ext g12))
                    · refine .inr ⟨a1, a2, a3, fun x hx => (putL_mem hx).elim (fun z => let ⟨v, u1, u2⟩ := a6 x z; ⟨v, cm9 _ _ (u1.ext g12), u2⟩) (fun z => ⟨_, by rw [z.2]; exact hcm9, by simp⟩), pre ++ [e], by rw [← a4]; simp, fun x hx => ?_⟩
                      rcases List.mem_append.mp hx with z | z
                      · exact dn9 hle _ (a5.ext g12) x z
                      · rw [List.mem_singleton.mp z]
                        obtain ⟨kv9, o1, o2⟩ := own9
                        exact ⟨kv9, _, .inr o1, by rw [o2]; exact hcm9, by show (fv q1.2).1 + e.2.2.1 ≤ e.2.2.1; omega, by simp⟩
                  have ss9 : ∀ q, q ∈ rr → StepAt (upd Hm dw (DLo P w dw (putL w2 e.2.2.2 la2 pm))) q.1 q.2 ∧ q.2 ∈ stepsL st q1.2.1 := fun q hq => ⟨((hss q (List.mem_cons_of_mem _ hq)).1.mono g12.tup).mono t9, (hss q (List.mem_cons_of_mem _ hq)).2⟩
                  refine ⟨_, rfl, _, rfl, la2, rfl, dw, rfl, _, I8.d2, e.2.2.2, hlo, ?_⟩
                  cases hw2 : getL w2 e.2.2.2 with
                  | none =>
                    rw [if_pos (by simp)]
                    exact ⟨_, rfl, _, rfl, _, rfl, la2, dw, rfl, rfl, pm, rfl, _, I8.d2, _, hlo, hwl, _, _, _, _, _, _, _, rfl, I9, cm9 _ _ (hc7.ext g12), h9s, ss9, ph9 fun kv v h => by rw [hw2] at h; cases h⟩
                  | some kv =>
                    rw [if_neg (by simp)]
                    obtain ⟨vo, ho1, ho2⟩ := I8.cb (e.2.2.2, kv) (List.mem_append_right _ (getL_mem hw2))
                    have hlt := lt_cost ((fv q1.2).1 + e.2.2.1, (fv q1.2).2.1 + 1, (fv q1.2).2.2 ++ [(e.1, e.2.1)]) vo
                    refine ⟨_, rfl, _, rfl, _, rfl, la2, dw, rfl, rfl, w2, I8.d2, e.2.2.2, hlo, kv, hw2, _, hcm.dp, _, ho1.dp, alike_cost _ _, (fun z => by cases z), Nat.le_trans (depth_cost _) (by decide), ?_⟩
                    cases hd : PySem.W.dataLt (costD ((fv q1.2).1 + e.2.2.1, (fv q1.2).2.1 + 1, (fv q1.2).2.2 ++ [(e.1, e.2.1)])) (costD vo) with
                    | true =>
                      rw [if_pos rfl]
                      exact ⟨_, rfl, _, rfl, _, rfl, la2, dw, rfl, rfl, pm, rfl, _, I8.d2, _, hlo, hwl, _, _, _, _, _, _, _, rfl, I9, cm9 _ _ (hc7.ext g12), h9s, ss9, ph9 fun kv' v h hv => by
                        rw [hw2] at h
                        cases h
                        rw [cost_inj hv ho1]
                        exact hlt.1 hd⟩
                    | false =>
                      rw [if_neg (by simp)]
                      refine ⟨w2, _, _, _, _, _, _, rfl, I8, hc7.ext g12, g12 _ _ h7, fun q hq => ⟨(hss q (List.mem_cons_of_mem _ hq)).1.mono g12.tup, (hss q (List.mem_cons_of_mem _ hq)).2⟩, ?_⟩
                      rcases hph7 with h | ⟨a1, a2, a3, a6, pre, a4, a5⟩
                      · exact .inl (h.ext g12)
                      · refine .inr ⟨a1, a2, a3, fun x hx => let ⟨v, u1, u2⟩ := a6 x hx; ⟨v, u1.ext g12, u2⟩, pre ++ [e], by rw [← a4]; simp, fun x hx => ?_⟩
                        rcases List.mem_append.mp hx with z | z
                        · exact (a5.ext g12) x z
                        · rw [List.mem_singleton.mp z]
                          obtain ⟨v, u1, u2⟩ := a6 _ (getL_mem hw2)
                          have u3 := hlt.2 hd
                          have u4 := cost_inj ho1 (u1.ext g12)
                          refine ⟨kv, v, .inr hw2, u1.ext g12, ?_, u2⟩
                          rw [← u4]
                          have u5 : vo.1 ≤ (fv q1.2).1 + e.2.2.1 := u3
                          omega
              · intro σ Hy ⟨w2, y6, y7, y8, y9, y10, y11, hσ, I7, hc7, h7, _, hph7⟩
                refine ⟨m - 1, by omega, ⟨_, _, _, _, _, _, _, _, hσ⟩, best ++ [(q1.2.1, hr, q1.2.2.2)], w2, ⟨I7.ext, I7.new, I7.ne, I7.d1, I7.d2, I7.il, fun x hx => let ⟨v, h1, h2⟩ := I7.cb x hx; ⟨v, h1, by rw [List.length_append, List.length_singleton]; exact h2⟩, I7.dj, I7.nd, I7.nw⟩, by rw [List.length_append, List.length_singleton]; omega, .inr ?_⟩
                rcases hph7 with h | ⟨_, _, _, _, pre, h1, h2⟩
                · exact h
                · rw [List.map_nil, List.append_nil] at h1
                  rw [← h1]
                  exact h2
end
end CC
set_option maxHeartbeats 4000000
namespace CC
open PySem PySem.Spec PyProof.Rows L2 StX LamX NdefX
local macro_rules | `(tactic| walk_at "rd") => `(tactic| simp only [tVar, tC, tOp, tUn, rI0, rI, rU, rEq, rNe, tTest, tB, tAnd, tOr, tNot, tAndV, tOrV, tNotV, tIf, tChain, tIfS, tRet, tRetN, tSeq, tNext, tAsg, gName, tDrop, tCons, tNil, tCB, tCR, tTup, tLst, rIsF, tyN_non, tyN_bl, tyN_int, tyN_str, tyN_ref, isB_1, isB_2, isB_3, isB_4, isB_5, isB_6, isB_7, isB_8, tyO_tup, tyO_lst, tyO_dK, tyO_frz, rIxG, rLenG, rInG, rAllG, rSumG, rListG, rTupG, tLcF, tLcP, tForF, tForP, srcTup, srcLst, srcStr, srcRng, srcEnum, srcZip, srcEnumT, tYes, wipe, gTupG, gCons, gNil, tStarG, tSl, rSlTG, rSlLG, rCatTG, rRep, tJoinG, rSortedSG, tApp, tExd, tupO_tup, lstO_lst, seqO_tup, seqO_lst, dKO_dK, tNoPart, tPart, tFl, sFl, tSls, sSls, tMeS, tPrS, tPrF, tMethR, tMake, sFlAug, rLenS, L2.start, List.map_cons, List.map_nil, List.length_cons, List.length_nil, Nat.zero_add, Nat.reduceAdd, Nat.reduceSub, List.replicate_succ, List.replicate_zero, List.forall_mem_map, List.cons_append, List.nil_append, List.getElem?_cons_succ, List.getElem?_cons_zero, List.set_cons_zero, List.set_cons_succ, Option.some.injEq, V.int.injEq, V.str.injEq, V.bl.injEq, V.ref.injEq, V.ty.injEq, List.cons.injEq, HO.tup.injEq, HO.lst.injEq, HO.ins.injEq, reduceCtorEq, exists_eq_left', exists_eq_left, exists_eq_right', exists_eq_right, exists_and_left, exists_and_right, and_true, true_and, and_false, false_and, or_false, false_or, or_true, true_or, exists_const, exists_eq', exists_eq, scal_ii, scal_ss, scal_bb, scal_nn, scal_ns, scal_sn, cxP, cxW, cxK, upd_upd, tLcPI, tOrT, tDNewL, tDispL, rNeL0, rDLIn, tLPop, rSetL', gSub, tLSub, tLGet, rLtD, rMinD, tLockE, srcItemsL, upd_same, if_true, if_false, ite_true, ite_false, Bool.not_true, Bool.not_false, Bool.true_and, Bool.and_true, Bool.false_eq_true, decide_true, decide_false, sz1, atI_0, atI_1, and_assoc])
local macro_rules | `(tactic| walk_at "rh") => `(tactic| simp only [*, tVar, tC, tOp, tUn, rI0, rI, rU, rEq, rNe, tTest, tB, tAnd, tOr, tNot, tAndV, tOrV, tNotV, tIf, tChain, tIfS, tRet, tRetN, tSeq, tNext, tAsg, gName, tDrop, tCons, tNil, tCB, tCR, tTup, tLst, rIsF, tyN_non, tyN_bl, tyN_int, tyN_str, tyN_ref, isB_1, isB_2, isB_3, isB_4, isB_5, isB_6, isB_7, isB_8, tyO_tup, tyO_lst, tyO_dK, tyO_frz, rIxG, rLenG, rInG, rAllG, rSumG, rListG, rTupG, tLcF, tLcP, tForF, tForP, srcTup, srcLst, srcStr, srcRng, srcEnum, srcZip, srcEnumT, tYes, wipe, gTupG, gCons, gNil, tStarG, tSl, rSlTG, rSlLG, rCatTG, rRep, tJoinG, rSortedSG, tApp, tExd, tupO_tup, lstO_lst, seqO_tup, seqO_lst, dKO_dK, tNoPart, tPart, tFl, sFl, tSls, sSls, tMeS, tPrS, tPrF, tMethR, tMake, sFlAug, rLenS, L2.start, List.map_cons, List.map_nil, List.length_cons, List.length_nil, Nat.zero_add, Nat.reduceAdd, Nat.reduceSub, List.replicate_succ, List.replicate_zero, List.forall_mem_map, List.cons_append, List.nil_append, List.getElem?_cons_succ, List.getElem?_cons_zero, List.set_cons_zero, List.set_cons_succ, Option.some.injEq, V.int.injEq, V.str.injEq, V.bl.injEq, V.ref.injEq, V.ty.injEq, List.cons.injEq, HO.tup.injEq, HO.lst.injEq, HO.ins.injEq, reduceCtorEq, exists_eq_left', exists_eq_left, exists_eq_right', exists_eq_right, exists_and_left, exists_and_right, and_true, true_and, and_false, false_and, or_false, false_or, or_true, true_or, exists_const, exists_eq', exists_eq, scal_ii, scal_ss, scal_bb, scal_nn, scal_ns, scal_sn, cxP, cxW, cxK, upd_upd, tLcPI, tOrT, tDNewL, tDispL, rNeL0, rDLIn, tLPop, rSetL', gSub, tLSub, tLGet, rLtD, rMinD, tLockE, srcItemsL, upd_same, if_true, if_false, ite_true, ite_false, Bool.not_true, Bool.not_false, Bool.true_and, Bool.and_true, Bool.false_eq_true, decide_true, decide_false, sz1, atI_0, atI_1, and_assoc])
section
variable {P : Program} {w : World} {K : PySem.W.Frag} {mg : Str → Option Value} {base : Heap}
/-- least_steps for a goal one put away -/
def spLeast (P : Program) (w : World) (K : PySem.W.Frag) : Sp := fun vs H Q _ => ∃ (a b c : Addr) (s : Sto) (l : Lay) (e : StE), vs = [.ref a, .ref b, .ref c] ∧ StoAt K H a s ∧ s.Ok ∧ LayAt H b l ∧ IsLay s l ∧ LayAt H c e.2.2.2 ∧ IsLay s e.2.2.2 ∧ e ∈ stepsL s l ∧ ∀ p H' (wt : Int) (la : Addr) (xs : List V), Ext H H' → H' p = some (.tup [.int wt, .ref la]) → H' la = some (.lst xs) → wt ≤ e.2.2.1 → xs ≠ [] → Q (.ref p) H'
theorem ok_least_steps (T : Txt K mg w) : OkF P w K mg base CX0 71 (gA K "least_steps") ["store", "layout", "goal"] (spLeast P w K) := by
  have F_check_layout := ok_check_layout (P := P) (base := base) T
  have F_all_ways := ok_all_ways (P := P) (base := base) T
  refine mk0 (k := 70) T.d_least_steps sc_least_steps (fun _ _ _ _ _ _ us hl => match us, hl with | [_, _, _], _ => rfl) (fun vs H Q E h => ?_) (fun cdv A outer s H vs Q E hr h => ?_)
  · obtain ⟨a, b, c, st, l, e, rfl, _⟩ := h
    rfl
  · obtain ⟨a, b, c, st, l, e, rfl, hst, ok, hb, il, hc, ilc, he, q⟩ := h
    have hu0 := hr.units
    have hu16 : (cxOf CX0 P w K mg base n_least_steps "least_steps" (defScope s_least_steps) (gA K "least_steps") cdv A outer s H E).nox.A.units + 16 < cLine := Nat.lt_of_le_of_lt (Nat.add_le_add_left (by decide : 16 ≤ 64) _) hu0
    refine ⟨_, (pss_cons (ps_expr (pe_cR F_check_layout.raw hr T.g_check_layout pass0 (pa_cons (pv 0) (pa_cons (pv 1) pa_nil))))
    (pss_cons (ps_expr (pe_cR F_check_layout.raw hr T.g_check_layout pass0 (pa_cons (pv 0) (pa_cons (pv 2) pa_nil))))
    (pss_cons (CC.st (i := 3) sc_least_steps.nd (pe_lget hu16 (pe_cR F_all_ways.raw hr T.g_all_ways pass0 (pa_cons (pv 0) (pa_cons (pv 1) pa_nil))) (pv 2) ⟨rfl, rfl, rfl, rfl⟩))
    (pss_one (ps_ret (pe_ifExp (pt_cmpR op_isN (pv 3) pe_non (nomark _)) pe_non (pe_tup (pa_cons (pe_ix ix_G (pv 3) pe_int (fun _ _ => rfl)) (pa_cons (pe_ix ix_G (pv 3) pe_int (fun _ _ => rfl)) pa_nil))))))))), ?_⟩
    walk_at "rh"
    refine ⟨a, b, st, l, rfl, hst, ok, hb, il, fun Ha ea => ?_⟩
    refine ⟨a, c, st, e.2.2.2, rfl, StoAt.ext hst ea, ok, LayAt.mono hc ea.tup, ilc, fun Hb eb => ?_⟩
    have eab := ea.trans eb
    refine ⟨a, b, st, l, rfl, StoAt.ext hst eab, ok, LayAt.mono hb eab.tup, il, fun p H' best eH' D hd => ?_⟩
    have eH := eab.trans eH'
    obtain ⟨kv, v, h1, h2, h3, h4⟩ := hd e he
    have h1 : getL best e.2.2.2 = some kv := h1.elim id (fun z => nomatch z)
    obtain ⟨la, lx, g1, g2, g3, g4⟩ := h2
    refine ⟨p, rfl, ⟨best, D⟩, best, D, e.2.2.2, LayAt.mono hc eH.tup, ?_⟩
    rw [h1]
    refine ⟨kv.2, rfl, _, by rw [g1]; rfl, _, rfl, kv.2, rfl, _, by rw [g1]; rfl, _, rfl, by decide, fun r hr2 => ?_⟩
    have e2 := Ext.new (o := .tup [V.int v.1, V.ref la]) hr2
    refine q r _ v.1 la _ (eH.trans e2) (upd_same ..) (e2 _ _ g2) h3 ?_
    intro z
    rw [List.map_eq_nil_iff] at z
    subst z
    exact h4 g3.symm
end
end CC
set_option maxHeartbeats 4000000
namespace CC
open PySem PySem.Spec PyProof.Rows L2
local macro_rules | `(tactic| walk_at "rd") => `(tactic| simp only [tVar, tC, tOp, tUn, rI0, rI, rU, rEq, rNe, tTest, tB, tAnd, tOr, tNot, tAndV, tOrV, tNotV, tIf, tChain, tIfS, tRet, tRetN, tSeq, tNext, tAsg, gName, tDrop, tCons, tNil, tCB, tCR, tTup, tLst, rIsF, tyN_non, tyN_bl, tyN_int, tyN_str, tyN_ref, isB_1, isB_2, isB_3, isB_4, isB_5, isB_6, isB_7, isB_8, tyO_tup, tyO_lst, tyO_dK, tyO_frz, rIxG, rLenG, rInG, rAllG, rSumG, rListG, rTupG, tLcF, tLcP, tForF, tForP, srcTup, srcLst, srcStr, srcRng, srcEnum, srcZip, srcEnumT, tYes, wipe, gTupG, gCons, gNil, tStarG, tSl, rSlTG, rSlLG, rCatTG, rRep, tJoinG, rSortedSG, tApp, tExd, tupO_tup, lstO_lst, seqO_tup, seqO_lst, dKO_dK, tNoPart, tPart, tFl, sFl, tSls, sSls, tMeS, tPrS, tPrF, tMethR, tMake, sFlAug, rLenS, L2.start, List.map_cons, List.map_nil, List.length_cons, List.length_nil, Nat.zero_add, Nat.reduceAdd, Nat.reduceSub, List.replicate_succ, List.replicate_zero, List.forall_mem_map, List.cons_append, List.nil_append, List.getElem?_cons_succ, List.getElem?_cons_zero, List.set_cons_zero, List.set_cons_succ, Option.some.injEq, V.int.injEq, V.str.injEq, V.bl.injEq, V.ref.injEq, V.ty.injEq, List.cons.injEq, HO.tup.injEq, HO.lst.injEq, HO.ins.injEq, reduceCtorEq, exists_eq_left', exists_eq_left, exists_eq_right', exists_eq_right, exists_and_left, exists_and_right, and_true, true_and, and_false, false_and, or_false, false_or, or_true, true_or, exists_const, exists_eq', exists_eq, scal_ii, scal_ss, scal_bb, scal_nn, scal_ns, scal_sn, rSetL, gSub, rIxL, upd_same, if_true, if_false, ite_true, ite_false, Bool.not_true, Bool.not_false, Bool.true_and, Bool.and_true, Bool.false_eq_true, decide_true, decide_false, sz1, atI_0, atI_1, and_assoc])
local macro_rules | `(tactic| walk_at "rh") => `(tactic| simp only [*, tVar, tC, tOp, tUn, rI0, rI, rU, rEq, rNe, tTest, tB, tAnd, tOr, tNot, tAndV, tOrV, tNotV, tIf, tChain, tIfS, tRet, tRetN, tSeq, tNext, tAsg, gName, tDrop, tCons, tNil, tCB, tCR, tTup, tLst, rIsF, tyN_non, tyN_bl, tyN_int, tyN_str, tyN_ref, isB_1, isB_2, isB_3, isB_4, isB_5, isB_6, isB_7, isB_8, tyO_tup, tyO_lst, tyO_dK, tyO_frz, rIxG, rLenG, rInG, rAllG, rSumG, rListG, rTupG, tLcF, tLcP, tForF, tForP, srcTup, srcLst, srcStr, srcRng, srcEnum, srcZip, srcEnumT, tYes, wipe, gTupG, gCons, gNil, tStarG, tSl, rSlTG, rSlLG, rCatTG, rRep, tJoinG, rSortedSG, tApp, tExd, tupO_tup, lstO_lst, seqO_tup, seqO_lst, dKO_dK, tNoPart, tPart, tFl, sFl, tSls, sSls, tMeS, tPrS, tPrF, tMethR, tMake, sFlAug, rLenS, L2.start, List.map_cons, List.map_nil, List.length_cons, List.length_nil, Nat.zero_add, Nat.reduceAdd, Nat.reduceSub, List.replicate_succ, List.replicate_zero, List.forall_mem_map, List.cons_append, List.nil_append, List.getElem?_cons_succ, List.getElem?_cons_zero, List.set_cons_zero, List.set_cons_succ, Option.some.injEq, V.int.injEq, V.str.injEq, V.bl.injEq, V.ref.injEq, V.ty.injEq, List.cons.injEq, HO.tup.injEq, HO.lst.injEq, HO.ins.injEq, reduceCtorEq, exists_eq_left', exists_eq_left, exists_eq_right', exists_eq_right, exists_and_left, exists_and_right, and_true, true_and, and_false, false_and, or_false, false_or, or_true, true_or, exists_const, exists_eq', exists_eq, scal_ii, scal_ss, scal_bb, scal_nn, scal_ns, scal_sn, rSetL, gSub, rIxL, upd_same, if_true, if_false, ite_true, ite_false, Bool.not_true, Bool.not_false, Bool.true_and, Bool.and_true, Bool.false_eq_true, decide_true, decide_false, sz1, atI_0, atI_1, and_assoc])
/-- the law's row of drawn numbers -/
def RowL (H : Hp) (ra sc : Addr) : Prop := ∃ (c1 c2 c3 : Int), H ra = some (.lst [.ref sc, .int c1, .int c2, .int c3]) ∧ 0 ≤ c1 ∧ 0 ≤ c2 ∧ c2 < 2147483647
structure RowA (K : PySem.W.Frag) (H : Hp) (ra sc : Addr) (ns : List Int) : Prop where
  l : RowL H ra sc
  s : SqL K H sc (ns.map V.int)
theorem sqL_kp {K : PySem.W.Frag} {H H' : Hp} {s sc : Addr} {xs : List V} (h : SqL K H sc xs) (k : Kp s H H') (n : ∀ u, H s = some u → u ≠ .lst xs ∧ ∀ o, u ≠ .frz o (.lst xs)) : SqL K H' sc xs := by
  rcases h with (h | ⟨o, h⟩) | h
  · exact .inl (.inl (k _ _ (fun z => by subst z; exact (n _ h).1 rfl) h))
  · exact .inl (.inr ⟨o, k _ _ (fun z => by subst z; exact (n _ h).2 o rfl) h⟩)
  · exact .inr h
theorem sqL_ext {K : PySem.W.Frag} {H H' : Hp} {sc : Addr} {xs : List V} (h : SqL K H sc xs) (e : Ext H H') : SqL K H' sc xs := by
  rcases h with (h | ⟨o, h⟩) | h
  · exact .inl (.inl (e _ _ h))
  · exact .inl (.inr ⟨o, e _ _ h⟩)
  · exact .inr h
theorem rowNe {sc : Addr} {r : List V} {ns : List Int} : V.ref sc :: r ≠ ns.map V.int := fun z => by
  cases ns with
  | nil => cases z
  | cons a l => cases z
theorem RowA.ext {K : PySem.W.Frag} {H H' : Hp} {ra sc : Addr} {ns : List Int} (h : RowA K H ra sc ns) (e : Ext H H') : RowA K H' ra sc ns := by
  obtain ⟨⟨c1, c2, c3, h1, h2⟩, h3⟩ := h
  exact ⟨⟨c1, c2, c3, e _ _ h1, h2⟩, sqL_ext h3 e⟩
theorem RowA.kp {K : PySem.W.Frag} {H H' : Hp} {ra sc : Addr} {ns : List Int} (h : RowA K H ra sc ns) (k : Kp ra H H') (l : RowL H' ra sc) : RowA K H' ra sc ns := by
  obtain ⟨⟨c1, c2, c3, h1, h2⟩, h3⟩ := h
  exact ⟨l, sqL_kp h3 k fun u hu => by rw [h1] at hu; cases hu; exact ⟨fun z => rowNe (HO.lst.inj z), fun o z => by cases z⟩⟩
theorem RowA.tup {K : PySem.W.Frag} {H H' : Hp} {ra sc : Addr} {ns : List Int} (h : RowA K H ra sc ns) (k : Kp ra H H') : Tup H H' := by
  obtain ⟨⟨c1, c2, c3, h1, h2⟩, h3⟩ := h
  exact k.tup (fun xs z => by rw [h1] at z; cases z) (fun xs z => by rw [h1] at z; cases z) (fun o u z => by rw [h1] at z; cases z)
section
variable {P : Program} {w : World} {K : PySem.W.Frag} {mg : Str → Option Value} {base : Heap}
def spTaken (K : PySem.W.Frag) : Sp := fun vs H Q _ => ∃ (ra sc : Addr) (ns : List Int) (m : Int), vs = [.ref ra, .int m] ∧ RowA K H ra sc ns ∧ 1 ≤ m ∧ m ≤ 1000000 ∧ ∀ (v : Int) H', 0 ≤ v → v < m → Kp ra H H' → RowA K H' ra sc ns → Q (.int v) H'
theorem ok_law_taken (T : Txt K mg w) : OkF P w K mg base CX0 1 (gA K "_law_taken") ["_law_row", "_law_many"] (spTaken K) := by
  refine mk0 (k := 0) T.d_law_taken sc_law_taken (fun _ _ _ _ _ _ us hl => match us, hl with | [_, _], _ => rfl) (fun vs H Q E h => ?_) (fun cdv A outer s H vs Q E hr h => ?_)
  · obtain ⟨ra, sc, ns, m, rfl, _⟩ := h
    rfl
  · obtain ⟨ra, sc, ns, m, rfl, hra, m1, m2, q⟩ := h
    obtain ⟨⟨c1, c2, c3, h1, h3, h4, h5⟩, h2⟩ := id hra
    refine ⟨_, (pss_cons (ps_if (pt_cmpR op_gt (pe_ix ix_G (pv 0) pe_int (fun _ _ => rfl)) pe_int (nomark _)) (pss_cons (CC.st (i := 2) sc_law_taken.nd (pe_op op_modN (pe_callTy call_int1 rfl T.b_int (by decide +kernel) (pa_cons (pe_ix ix_G (pv 0) pe_int (fun _ _ => rfl)) pa_nil)) (pv 1)))
    (pss_cons (ps_asg (pe_op op_fdivN (pe_ix ix_G (pv 0) pe_int (fun _ _ => rfl)) (pv 1)) (pg_sub (pv 0) pe_int set_list))
    (pss_one (ps_ret (pv 2))))) pss_nil)
    (pss_cons (ps_asg (pe_op op_add (pe_ix ix_G (pv 0) pe_int (fun _ _ => rfl)) pe_int) (pg_sub (pv 0) pe_int set_list))
    (pss_cons (ps_if (pt_cmpR op_gt (pe_ix ix_G (pv 0) pe_int (fun _ _ => rfl)) (pe_callB call_len_seq rfl T.b_len PySem.boot_len (pa_cons (pe_ix ix_G (pv 0) pe_int (fun _ _ => rfl)) pa_nil)) (nomark _)) (pss_cons (ps_asg (pe_op op_modN (pe_callTy call_int1 rfl T.b_int (by decide +kernel) (pa_cons (pe_op op_add (pe_op op_mul (pe_ix ix_G (pv 0) pe_int (fun _ _ => rfl)) pe_int) pe_int) pa_nil)) pe_int) (pg_sub (pv 0) pe_int set_list))
    (pss_one (ps_ret (pe_op op_modN (pe_callTy call_int1 rfl T.b_int (by decide +kernel) (pa_cons (pe_op op_fdivN (pe_ix ix_G (pv 0) pe_int (fun _ _ => rfl)) pe_int) pa_nil)) (pv 1))))) pss_nil)
    (pss_cons (CC.st (i := 3) sc_law_taken.nd (pe_ix ix_list (pe_ix ix_G (pv 0) pe_int (fun _ _ => rfl)) (pe_op op_sub (pe_ix ix_G (pv 0) pe_int (fun _ _ => rfl)) pe_int) (fun _ _ => rfl)))
    (pss_cons (ps_asg (pe_op op_modN (pe_callTy call_int1 rfl T.b_int (by decide +kernel) (pa_cons (pe_op op_add (pe_op op_add (pe_op op_mul (pe_ix ix_G (pv 0) pe_int (fun _ _ => rfl)) pe_int) (pv 3)) pe_int) pa_nil)) pe_int) (pg_sub (pv 0) pe_int set_list))
    (pss_cons (ps_if (pt_cmpR op_ge (pv 3) (pe_op op_pow pe_int pe_int) (nomark _)) (pss_one (ps_asg (pe_op op_fdivN (pv 3) (pv 1)) (pg_sub (pv 0) pe_int set_list))) pss_nil)
    (pss_one (ps_ret (pe_op op_modN (pe_callTy call_int1 rfl T.b_int (by decide +kernel) (pa_cons (pv 3) pa_nil)) (pv 1)))))))))), ?_⟩
    walk_at "rh"
    have md : ∀ i : Int, 0 ≤ i.fmod m ∧ i.fmod m < m := fun i => ⟨Int.fmod_nonneg_of_pos i (by omega), Int.fmod_lt_of_pos i (by omega)⟩
    have mk : ∀ (xs : List V) (d1 d2 d3 : Int), xs = [.ref sc, .int d1, .int d2, .int d3] → 0 ≤ d1 → 0 ≤ d2 → d2 < 2147483647 → ∀ H', Kp ra H H' → H' ra = some (.lst xs) → RowA K H' ra sc ns := fun xs d1 d2 d3 e g1 g2 g3 H' k hl => hra.kp k ⟨d1, d2, d3, by rw [hl, e], g1, g2, g3⟩
    have sq : ∀ H', Kp ra H H' → SqL K H' sc (ns.map V.int) := fun H' k => sqL_kp h2 k fun u hu => by rw [h1] at hu; cases hu; exact ⟨fun z => rowNe (HO.lst.inj z), fun o z => by cases z⟩
    have m9 : ∀ i : Int, 0 ≤ i.fmod 2147483647 ∧ i.fmod 2147483647 < 2147483647 := fun i => ⟨Int.fmod_nonneg_of_pos i (by decide), Int.fmod_lt_of_pos i (by decide)⟩
    refine ⟨_, rfl, c3, rfl, ?_⟩
    by_cases hc : 0 < c3
    · rw [if_pos (by simpa using hc)]
      refine ⟨_, rfl, .inl ⟨c3, rfl, by omega, _, rfl, c3, rfl, ⟨by omega, by omega⟩, 3, rfl, ?_⟩⟩
      exact q _ _ (md _).1 (md _).2 Kp.set (mk _ c1 c2 _ rfl h3 h4 h5 _ Kp.set upd_same)
    · rw [if_neg (by simpa using hc)]
      refine ⟨1, rfl, _, rfl, _, rfl, sc, rfl, ns.map V.int, .inl (sq _ Kp.set), _, rfl, ?_⟩
      have cm : CMul c2 48271 := .inl ⟨by omega, by omega⟩
      by_cases hd : ((ns.map V.int).length : Int) < c1 + 1
      · rw [if_pos (by simpa using hd)]
        refine ⟨_, rfl, c2, rfl, cm, by decide, 2, rfl, _, rfl, _, rfl, ⟨by decide, by decide⟩, by omega, ?_⟩
        exact q _ _ (md _).1 (md _).2 (Kp.set.trans Kp.set) (mk _ (c1 + 1) _ c3 rfl (by omega) (m9 _).1 (m9 _).2 _ (Kp.set.trans Kp.set) upd_same)
      · rw [if_neg (by simpa using hd)]
        have hl : (c1.toNat : Int) = c1 := Int.toNat_of_nonneg h3
        have hlt : c1.toNat < ns.length := by rw [List.length_map] at hd; omega
        refine ⟨_, rfl, _, rfl, _, rfl, sc, rfl, ns.map V.int, sq _ Kp.set, .int (ns[c1.toNat]), ?_, ?_⟩
        · rw [show c1 + 1 - 1 = ((c1.toNat : Nat) : Int) by omega]
          exact atI_nat (by simp [hlt])
        refine ⟨_, rfl, c2, rfl, cm, _, rfl, by decide, 2, rfl, ⟨by decide, by decide, by decide⟩, _, rfl, ?_⟩
        by_cases he : (10 : Int) ^ Int.toNat 18 ≤ ns[c1.toNat]
        · rw [if_pos (by simpa using he)]
          refine ⟨_, rfl, ⟨by omega, by omega⟩, 3, rfl, .inl ⟨_, rfl, by omega, ?_⟩⟩
          exact q _ _ (md _).1 (md _).2 ((Kp.set.trans Kp.set).trans Kp.set) (mk _ (c1 + 1) _ _ rfl (by omega) (m9 _).1 (m9 _).2 _ ((Kp.set.trans Kp.set).trans Kp.set) upd_same)
        · rw [if_neg (by simpa using he)]
          refine .inl ⟨_, rfl, by omega, ?_⟩
          exact q _ _ (md _).1 (md _).2 (Kp.set.trans Kp.set) (mk _ (c1 + 1) _ c3 rfl (by omega) (m9 _).1 (m9 _).2 _ (Kp.set.trans Kp.set) upd_same)
end
end CC
set_option maxHeartbeats 4000000
namespace CC
open PySem PySem.Spec PyProof.Rows L2
def rSlTT : V → Option Int → Option Int → Hp → VK → Prop := fun x lo hi H Q => ∃ a xs, x = .ref a ∧ H a = some (.tup xs) ∧ ∀ p H', Ext H H' → H' p = some (.tup (cutV xs lo hi)) → Q (.ref p) H'
theorem sl_tupT {X : Cx} : SlR X rSlTT := impSl sl_tupA fun x l u H Q ⟨a, xs, e, h, q⟩ => ⟨a, xs, e, .of h, fun z => q a H (.refl H) (by rw [cutV_whole z]; exact h), fun _ p hp => q p _ (.new hp) upd_same⟩
theorem rIxG_of {H : Hp} {p : Addr} {i : Nat} {xs : List V} {v : V} {Q : VK} (h : seqO (H p) = some xs) (hv : xs[i]? = some v) (q : Q v H) : rIxG (.ref p) (.int (i : Int)) H Q := ⟨p, i, xs, v, rfl, rfl, h, atI_nat hv, q⟩
local macro_rules | `(tactic| walk_at "rd") => `(tactic| simp only [tVar, tC, tOp, tUn, rI0, rI, rU, rEq, rNe, tTest, tB, tAnd, tOr, tNot, tAndV, tOrV, tNotV, tIf, tChain, tIfS, tRet, tRetN, tSeq, tNext, tAsg, gName, tDrop, tCons, tNil, tCB, tCR, tTup, tLst, rIsF, tyN_non, tyN_bl, tyN_int, tyN_str, tyN_ref, isB_1, isB_2, isB_3, isB_4, isB_5, isB_6, isB_7, isB_8, tyO_tup, tyO_lst, tyO_dK, tyO_frz, rIxG, rLenG, rInG, rAllG, rSumG, rListG, rTupG, tLcF, tLcP, tForF, tForP, srcTup, srcLst, srcStr, srcRng, srcEnum, srcZip, srcEnumT, tYes, wipe, gTupG, gCons, gNil, tStarG, tSl, rSlTG, rSlLG, rCatTG, rRep, tJoinG, rSortedSG, tApp, tExd, tupO_tup, lstO_lst, seqO_tup, seqO_lst, dKO_dK, tNoPart, tPart, tFl, sFl, tSls, sSls, tMeS, tPrS, tPrF, tMethR, tMake, sFlAug, rLenS, L2.start, List.map_cons, List.map_nil, List.length_cons, List.length_nil, Nat.zero_add, Nat.reduceAdd, Nat.reduceSub, List.replicate_succ, List.replicate_zero, List.forall_mem_map, List.cons_append, List.nil_append, List.getElem?_cons_succ, List.getElem?_cons_zero, List.set_cons_zero, List.set_cons_succ, Option.some.injEq, V.int.injEq, V.str.injEq, V.bl.injEq, V.ref.injEq, V.ty.injEq, List.cons.injEq, HO.tup.injEq, HO.lst.injEq, HO.ins.injEq, reduceCtorEq, exists_eq_left', exists_eq_left, exists_eq_right', exists_eq_right, exists_and_left, exists_and_right, and_true, true_and, and_false, false_and, or_false, false_or, or_true, true_or, exists_const, exists_eq', exists_eq, scal_ii, scal_ss, scal_bb, scal_nn, scal_ns, scal_sn, rSlTT, tPar, upd_same, if_true, if_false, ite_true, ite_false, Bool.not_true, Bool.not_false, Bool.true_and, Bool.and_true, Bool.false_eq_true, decide_true, decide_false, sz1, atI_0, atI_1, and_assoc])
local macro_rules | `(tactic| walk_at "rh") => `(tactic| simp only [*, tVar, tC, tOp, tUn, rI0, rI, rU, rEq, rNe, tTest, tB, tAnd, tOr, tNot, tAndV, tOrV, tNotV, tIf, tChain, tIfS, tRet, tRetN, tSeq, tNext, tAsg, gName, tDrop, tCons, tNil, tCB, tCR, tTup, tLst, rIsF, tyN_non, tyN_bl, tyN_int, tyN_str, tyN_ref, isB_1, isB_2, isB_3, isB_4, isB_5, isB_6, isB_7, isB_8, tyO_tup, tyO_lst, tyO_dK, tyO_frz, rIxG, rLenG, rInG, rAllG, rSumG, rListG, rTupG, tLcF, tLcP, tForF, tForP, srcTup, srcLst, srcStr, srcRng, srcEnum, srcZip, srcEnumT, tYes, wipe, gTupG, gCons, gNil, tStarG, tSl, rSlTG, rSlLG, rCatTG, rRep, tJoinG, rSortedSG, tApp, tExd, tupO_tup, lstO_lst, seqO_tup, seqO_lst, dKO_dK, tNoPart, tPart, tFl, sFl, tSls, sSls, tMeS, tPrS, tPrF, tMethR, tMake, sFlAug, rLenS, L2.start, List.map_cons, List.map_nil, List.length_cons, List.length_nil, Nat.zero_add, Nat.reduceAdd, Nat.reduceSub, List.replicate_succ, List.replicate_zero, List.forall_mem_map, List.cons_append, List.nil_append, List.getElem?_cons_succ, List.getElem?_cons_zero, List.set_cons_zero, List.set_cons_succ, Option.some.injEq, V.int.injEq, V.str.injEq, V.bl.injEq, V.ref.injEq, V.ty.injEq, List.cons.injEq, HO.tup.injEq, HO.lst.injEq, HO.ins.injEq, reduceCtorEq, exists_eq_left', exists_eq_left, exists_eq_right', exists_eq_right, exists_and_left, exists_and_right, and_true, true_and, and_false, false_and, or_false, false_or, or_true, true_or, exists_const, exists_eq', exists_eq, scal_ii, scal_ss, scal_bb, scal_nn, scal_ns, scal_sn, rSlTT, tPar, upd_same, if_true, if_false, ite_true, ite_false, Bool.not_true, Bool.not_false, Bool.true_and, Bool.and_true, Bool.false_eq_true, decide_true, decide_false, sz1, atI_0, atI_1, and_assoc])
/-- the places that three doors have -/
def pl3 : List Int := [1, 2, 1]
section
variable {P : Program} {w : World} {K : PySem.W.Frag} {mg : Str → Option Value} {base : Heap}
def spLawStore (K : PySem.W.Frag) : Sp := fun vs H Q _ => ∃ (ra sc : Addr) (ns : List Int), vs = [.ref ra] ∧ RowA K H ra sc ns ∧ ∀ p (s : Sto) H', s.Ok → Kp ra H H' → H p = none → RowA K H' ra sc ns → StoAt K H' p s → Q (.ref p) H'
theorem ok_law_store (T : Txt K mg w) : OkF P w K mg base CX0 8 (gA K "_law_store") ["_law_row"] (spLawStore K) := by
  have F_law_taken := ok_law_taken (P := P) (base := base) T
  have F_Store___init__ := ok_Store___init__ (P := P) (base := base) T
  refine mk0 (k := 7) T.d_law_store sc_law_store (fun _ _ _ _ _ _ us hl => match us, hl with | [_], _ => rfl) (fun vs H Q E h => ?_) (fun cdv A outer s H vs Q E hr h => ?_)
  · obtain ⟨ra, sc, ns, rfl, _⟩ := h
    rfl
  · obtain ⟨ra, sc, ns, rfl, hra, q⟩ := h
    refine ⟨_, (pss_cons (ps_par (by rfl) sc_law_store.nd (i := 1) (j := 2) rfl rfl (by decide) rfl rfl (pa_cons (pe_lst pa_nil) (pa_cons (pe_op op_add pe_int (pe_cR F_law_taken.raw hr T.g_law_taken pass0 (pa_cons (pv 0) (pa_cons pe_int pa_nil)))) pa_nil)) (by rfl))
    (pss_cons (forF PassesOwn.never rfl (sr_rng T.b_range (pa_cons (pv 2) pa_nil)) (pg_name (i := 3) sc_law_store.nd rfl (.inl rfl))
      (pss_one (ps_expr (pe_app (pe_bm PySem.F.plainAttrs_list PySem.F.slot_list_append PySem.F.type_list_append mt_append (upPE (pv 1)) (pa_cons (upPE (pe_tup (pa_cons (pe_op op_add pe_int (pe_cR F_law_taken.raw hr T.g_law_taken pass0 (pa_cons (pv 0) (pa_cons pe_int pa_nil)))) (pa_cons (pe_ifExp (pt_cmpR op_lt (pv 2) pe_int (nomark _)) (pe_op op_add pe_int (pe_cR F_law_taken.raw hr T.g_law_taken pass0 (pa_cons (pv 0) (pa_cons pe_int pa_nil)))) (pe_op op_add pe_int (pe_callTy call_int1 rfl T.b_int (by decide +kernel) (pa_cons (pe_cmpR op_eq (pv 3) pe_int (nomark _)) pa_nil)))) pa_nil)))) pa_nil))))))
    (pss_cons (CC.st (i := 4) sc_law_store.nd (pe_callB (cr_sumG rfl) rfl T.b_sum (by decide +kernel) (pa_cons (lcF (own := [("_law_one", 5)]) rfl sc_law_store.nd (sr_lst (pv 1)) (blkOk_by (N := n_law_store) (sc := defScope s_law_store) (by decide +kernel)) (fun _ _ _ _ _ => (pg_name (i := 5) sc_law_store.nd rfl (.inl rfl))) (fun _ _ _ _ _ => pts_nil) (fun _ _ _ _ _ => (pe_ix ix_G (pv 5) pe_int (fun _ _ => rfl)))) pa_nil)))
    (pss_one (ps_ret (pe_mk T.mk_Store F_Store___init__ hr T.g_Store.1 pass0 (pa_cons (pe_callTy call_tupleG rfl T.b_tuple (by decide +kernel) (pa_cons (pv 1) pa_nil)) (pa_cons (pe_slice sl_tupT (pe_tup (pa_cons pe_str (pa_cons pe_str (pa_cons pe_str pa_nil)))) po_none (po_some (pe_op op_add pe_int (pe_cR F_law_taken.raw hr T.g_law_taken pass0 (pa_cons (pv 0) (pa_cons (pe_callB (call_min2 rfl) rfl T.b_min (by decide +kernel) (pa_cons pe_int (pa_cons (pv 4) pa_nil))) pa_nil)))))) pa_nil)))))))), ?_⟩
    walk_at "rh"
    refine ⟨by decide, fun p1 hp1 => ⟨ra, sc, ns, 3, rfl, hra.ext (Ext.new hp1), by decide, by decide, fun v H1 hv0 hv1 k1 r1 => ?_⟩⟩
    have nra : p1 ≠ ra := fun z => by
      subst z
      obtain ⟨c1, c2, c3, h1, _⟩ := hra.l
      rw [h1] at hp1
      cases hp1
    refine ⟨v, rfl, v.toNat + 1, by omega, by omega, Nat, List.range (v.toNat + 1), fun i => .int (i : Nat), rfl,
      fun r σ Hx => ∃ (la : List (Addr × (Int × Int))) (x : Option V), r = (List.range (v.toNat + 1)).drop la.length ∧ σ = [some (.ref ra), some (.ref p1), some (.int (1 + v)), x, none, none] ∧ Kp ra H Hx ∧ RowA K Hx ra sc ns ∧ Hx p1 = some (.lst (la.map fun q => .ref q.1)) ∧ (∀ q, q ∈ la → DoorAt Hx q.1 q.2 ∧ (1 ≤ q.2.1 ∧ q.2.1 ≤ 9) ∧ 1 ≤ q.2.2 ∧ q.2.2 ≤ 2) ∧ (v = 2 → la.map (·.2.2) = pl3.take la.length) ∧ la.length ≤ v.toNat + 1,
      ⟨[], none, rfl, rfl, fun b u n e => k1 _ _ n (Ext.new hp1 _ _ e), r1, k1 _ _ nra upd_same, fun q hq => (nomatch hq), fun _ => rfl, by simp⟩, fun _ _ _ _ => trivial, ?_, ?_⟩
    · intro a r σ Hx ⟨la, x, g1, g2, g3, g4, g5, g6, g7, g8⟩
      subst g2
      have hlt : la.length < v.toNat + 1 := by
        by_cases z : la.length < v.toNat + 1
        · exact z
        · rw [List.drop_of_length_le (by simp; omega)] at g1
          cases g1
      rw [List.drop_eq_getElem_cons (by simpa using hlt)] at g1
      obtain ⟨ga, gr⟩ := List.cons.inj g1
      rw [List.getElem_range] at ga
      refine ⟨_, rfl, p1, rfl, ⟨_, by rw [g5]; rfl⟩, _, rfl, ra, sc, ns, 9, rfl, g4, by decide, by decide, fun w H2 hw0 hw1 k2 r2 => ⟨w, rfl, _, rfl, 1 + v, rfl, ?_⟩⟩
      have t2 := g4.tup k2
      have step : ∀ (pl : Int) (H3 : Hp) (pt : Addr), Kp ra Hx H3 → RowA K H3 ra sc ns → H3 pt = none → 1 ≤ pl → pl ≤ 2 → (v = 2 → pl3[la.length]? = some pl) → ∃ (la' : List (Addr × (Int × Int))) (x : Option V), r = (List.range (v.toNat + 1)).drop la'.length ∧ [some (V.ref ra), some (.ref p1), some (.int (1 + v)), some (.int ((a : Nat) : Int)), none, none] = [some (V.ref ra), some (.ref p1), some (.int (1 + v)), x, none, none] ∧ Kp ra H (upd (upd H3 pt (.tup [.int (1 + w), .int pl])) p1 (.lst (la.map (fun q => V.ref q.1) ++ [.ref pt]))) ∧ RowA K (upd (upd H3 pt (.tup [.int (1 + w), .int pl])) p1 (.lst (la.map (fun q => V.ref q.1) ++ [.ref pt]))) ra sc ns ∧ (upd (upd H3 pt (.tup [.int (1 + w), .int pl])) p1 (.lst (la.map (fun q => V.ref q.1) ++ [.ref pt]))) p1 = some (.lst (la'.map fun q => .ref q.1)) ∧ (∀ q, q ∈ la' → DoorAt (upd (upd H3 pt (.tup [.int (1 + w), .int pl])) p1 (.lst (la.map (fun q => V.ref q.1) ++ [.ref pt]))) q.1 q.2 ∧ (1 ≤ q.2.1 ∧ q.2.1 ≤ 9) ∧ 1 ≤ q.2.2 ∧ q.2.2 ≤ 2) ∧ (v = 2 → la'.map (·.2.2) = pl3.take la'.length) ∧ la'.length ≤ v.toNat + 1 := by
        intro pl H3 pt k3 r3 hpt b1 b2 b3
        have e3 := Ext.new (o := .tup [.int (1 + w), .int pl]) hpt
        have h1l : H3 p1 = some (.lst (la.map fun q => .ref q.1)) := k3 _ _ nra g5
        have h1l' := e3 _ _ h1l
        have npt : pt ≠ p1 := fun z => by subst z; rw [h1l] at hpt; cases hpt
        generalize hH4 : upd H3 pt (.tup [.int (1 + w), .int pl]) = H4 at e3 h1l'
        have k5 : Kp p1 H4 (upd H4 p1 (.lst (la.map (fun q => V.ref q.1) ++ [.ref pt]))) := Kp.set
        have t5 : Tup H4 (upd H4 p1 (.lst (la.map (fun q => V.ref q.1) ++ [.ref pt]))) := k5.tup (fun xs z => by rw [h1l'] at z; cases z) (fun xs z => by rw [h1l'] at z; cases z) (fun o u z => by rw [h1l'] at z; cases z)
        have t35 := ((g4.tup k3).trans e3.tup).trans t5
        have k6 : Kp ra H (upd H4 p1 (.lst (la.map (fun q => V.ref q.1) ++ [.ref pt]))) := fun b u n e => k5 _ _ (fun z => by subst z; rw [hp1] at e; cases e) (e3 _ _ (k3 _ _ n (g3 _ _ n e)))
        refine ⟨la ++ [(pt, (1 + w, pl))], _, by rw [gr]; simp, rfl, k6, ?_, by rw [upd_same]; simp, fun q hq => ?_, fun hv2 => ?_, by rw [List.length_append, List.length_singleton]; omega⟩
        · obtain ⟨c1, c2, c3, h1, h2⟩ := (r3.ext e3).l
          exact hra.kp k6 ⟨c1, c2, c3, k5 _ _ (Ne.symm nra) h1, h2⟩
        · rcases List.mem_append.mp hq with z | z
          · exact ⟨t35.t _ _ (g6 q z).1, (g6 q z).2⟩
          · rw [List.mem_singleton.mp z]
            refine ⟨t5.t _ _ ?_, ⟨show 1 ≤ 1 + w by omega, show 1 + w ≤ 9 by omega⟩, b1, b2⟩
            rw [← hH4, upd_same]
        · rw [List.map_append, g7 hv2, List.length_append, List.length_singleton, List.take_add_one, b3 hv2]
          rfl
      by_cases hm : 1 + v < 3
      · rw [if_pos (by simpa using hm)]
        refine ⟨_, rfl, ra, sc, ns, 2, rfl, r2, by decide, by decide, fun u H3 hu0 hu1 k3 r3 => ⟨u, rfl, by decide, fun pt hpt => ?_⟩⟩
        have h1l := (k2.trans k3) _ _ nra g5
        have npt : p1 ≠ pt := fun z => by subst z; rw [h1l] at hpt; cases hpt
        exact ⟨_, by rw [upd_ne npt, h1l]; rfl, by rw [List.length_map]; omega, step (1 + u) H3 pt (k2.trans k3) r3 hpt (by omega) (by omega) (fun z => by omega)⟩
      · rw [if_neg (by simpa using hm)]
        refine ⟨_, rfl, rfl, by decide, fun pt hpt => ?_⟩
        have h1l := k2 _ _ nra g5
        have npt : p1 ≠ pt := fun z => by subst z; rw [h1l] at hpt; cases hpt
        have ha : a = 0 ∨ a = 1 ∨ a = 2 := by omega
        rcases ha with rfl | rfl | rfl
        · exact ⟨_, by rw [upd_ne npt, h1l]; rfl, by rw [List.length_map]; omega, step 1 H2 pt k2 r2 hpt (by omega) (by omega) (fun z => by rw [← ga]; rfl)⟩
        · exact ⟨_, by rw [upd_ne npt, h1l]; rfl, by rw [List.length_map]; omega, step 2 H2 pt k2 r2 hpt (by omega) (by omega) (fun z => by rw [← ga]; rfl)⟩
        · exact ⟨_, by rw [upd_ne npt, h1l]; rfl, by rw [List.length_map]; omega, step 1 H2 pt k2 r2 hpt (by omega) (by omega) (fun z => by rw [← ga]; rfl)⟩
    · intro σ Hx ⟨la, x, g1, g2, g3, g4, g5, g6, g7, g8⟩
      subst g2
      have hlen : la.length = v.toNat + 1 := by
        have := congrArg List.length g1
        rw [List.length_drop, List.length_range, List.length_nil] at this
        omega
      refine ⟨_, rfl, p1, rfl, _, by rw [g5]; rfl, ?_⟩
      refine ⟨Addr × (Int × Int), la, fun q => .ref q.1, rfl, by omega, fun q => some (.int q.2.2), fun a ha H2 e => ⟨rfl, _, rfl, a.1, rfl, _, by rw [e _ _ (g6 a ha).1]; rfl, _, atI_1, .refl _, rfl⟩, fun D H2 hD e hl => ?_⟩
      have hsum : la.map (·.2.2) = (la.map Prod.snd).map Prod.snd := by rw [List.map_map]; rfl
      have okD : DsOk (la.map Prod.snd) := by
        refine ⟨by rw [List.length_map]; omega, by rw [List.length_map]; omega, fun d hd => ?_, ?_⟩
        · obtain ⟨q, hq, rfl⟩ := List.mem_map.mp hd
          exact (g6 q hq).2
        · unfold pls
          rw [← hsum]
          by_cases hv2 : v = 2
          · rw [g7 hv2, hlen, hv2]
            decide
          · have : ∀ l : List (Addr × (Int × Int)), (∀ q, q ∈ l → q.2.2 ≤ 2) → (l.map (·.2.2)).sum ≤ 2 * l.length := fun l => by
              induction l with
              | nil => intro _; simp
              | cons a r ih =>
                intro h
                have h1 := h a List.mem_cons_self
                have h2 := ih fun q hq => h q (List.mem_cons_of_mem _ hq)
                simp only [List.map_cons, List.sum_cons, List.length_cons]
                omega
            have := this la fun q hq => (g6 q hq).2.2.2
            omega
      have hp1 : 1 ≤ pls (la.map Prod.snd) := by
        have : ∀ l : Doors, (∀ q, q ∈ l → 1 ≤ q.2) → (l.length : Int) ≤ pls l := fun l => by
          induction l with
          | nil => intro _; simp [pls]
          | cons a r ih =>
            intro h
            have h1 := h a List.mem_cons_self
            have h2 := ih fun q hq => h q (List.mem_cons_of_mem _ hq)
            rw [pls_cons, List.length_cons]
            omega
        have := this (la.map Prod.snd) fun d hd => (okD.dw d hd).2.1
        rw [List.length_map] at this
        omega
      have hS : (la.map (·.2.2)).sum = pls (la.map Prod.snd) := by rw [hsum]; rfl
      refine ⟨la.map (·.2.2), by rw [hl]; simp [lstO, Function.comp_def], _, rfl, p1, rfl, _, by rw [e _ _ g5]; rfl, fun l hl2 => ⟨by decide, fun p3 hp3 => ⟨_, rfl, _, rfl, _, rfl, ra, sc, ns, _, rfl, ?_, ?_, ?_, fun u H3 hu0 hu1 k3 r3 => ?_⟩⟩⟩
      · exact ((g4.ext e).ext (Ext.new hl2)).ext (Ext.new hp3)
      · rw [hS]; split <;> omega
      · split <;> omega
      rw [hS] at hu1
      have e2 := Ext.new (o := .tup (la.map fun q => V.ref q.1)) hl2
      have e3 := Ext.new (o := .tup [V.str "fig", V.str "kiwi", V.str "plum"]) hp3
      have a2 := e3 _ _ (upd_same (H := H2) (a := l) (o := .tup (la.map fun q => V.ref q.1)))
      have a3 := upd_same (H := upd H2 l (.tup (la.map fun q => V.ref q.1))) (a := p3) (o := .tup [V.str "fig", V.str "kiwi", V.str "plum"])
      have e23 := e2.trans e3
      generalize upd (upd H2 l (.tup (la.map fun q => V.ref q.1))) p3 (.tup [V.str "fig", V.str "kiwi", V.str "plum"]) = G at k3 a2 a3 e23
      have hG := (g4.ext e).ext e23
      have t3 := hG.tup k3
      have eS : Kp ra H H3 := fun b o n h => k3 _ _ n (e23 _ _ (e _ _ (g3 _ _ n h)))
      refine ⟨u, rfl, _, t3.t _ _ a3, fun p4 H4 e4 h4 x dx hx hdx ndx => ?_⟩
      have e5 := Made.ext (C := gA K "Store") hx hdx
      have hc : cutV [V.str "fig", V.str "kiwi", V.str "plum"] none (some (1 + u)) = (Sto.cs ⟨la.map Prod.snd, (1 + u).toNat⟩).map V.str := by
        have e1 : (some (1 + u) : Option Int) = some (((1 + u).toNat : Nat) : Int) := by rw [Int.toNat_of_nonneg (by omega)]
        rw [e1, cutV_hi]
        simp [Sto.cs, names3, List.map_take]
      have okS : Sto.Ok ⟨la.map Prod.snd, (1 + u).toNat⟩ := by
        refine ⟨okD, by show 1 ≤ (1 + u).toNat; omega, ?_, ?_⟩
        · show (1 + u).toNat ≤ 3
          split at hu1 <;> omega
        · show (((1 + u).toNat : Nat) : Int) ≤ pls (la.map Prod.snd)
          split at hu1 <;> omega
      refine ⟨x, l, p4, dx, ⟨la.map Prod.snd, (1 + u).toNat⟩, rfl, Made.of ndx, ⟨la, e5 _ _ (e4 _ _ (t3.t _ _ a2)), rfl, fun q hq => e5 _ _ (e4 _ _ (t3.t _ _ (e23 _ _ (e _ _ (g6 q hq).1))))⟩, by rw [e5 _ _ h4, hc], okS, fun H5 k5 st5 => ⟨rfl, ?_⟩⟩
      have e6 := k5.ext hx hdx
      refine q x _ H5 okS (fun b o n h => e6 _ _ (e4 _ _ (eS _ _ n h))) ?_ ((r3.ext e4).ext e6) st5
      cases z : H x with
      | none => rfl
      | some o =>
        by_cases n : x = ra
        · subst n
          obtain ⟨c1, c2, c3, z1, _⟩ := r3.l
          rw [e4 _ _ z1] at hx
          cases hx
        · rw [e4 _ _ (eS _ _ n z)] at hx
          cases hx
end
end CC
set_option maxHeartbeats 4000000
namespace CC
open PySem PySem.Spec PyProof.Rows L2
local macro_rules | `(tactic| walk_at "rd") => `(tactic| simp only [tVar, tC, tOp, tUn, rI0, rI, rU, rEq, rNe, tTest, tB, tAnd, tOr, tNot, tAndV, tOrV, tNotV, tIf, tChain, tIfS, tRet, tRetN, tSeq, tNext, tAsg, gName, tDrop, tCons, tNil, tCB, tCR, tTup, tLst, rIsF, tyN_non, tyN_bl, tyN_int, tyN_str, tyN_ref, isB_1, isB_2, isB_3, isB_4, isB_5, isB_6, isB_7, isB_8, tyO_tup, tyO_lst, tyO_dK, tyO_frz, rIxG, rLenG, rInG, rAllG, rSumG, rListG, rTupG, tLcF, tLcP, tForF, tForP, srcTup, srcLst, srcStr, srcRng, srcEnum, srcZip, srcEnumT, tYes, wipe, gTupG, gCons, gNil, tStarG, tSl, rSlTG, rSlLG, rCatTG, rRep, tJoinG, rSortedSG, tApp, tExd, tupO_tup, lstO_lst, seqO_tup, seqO_lst, dKO_dK, tNoPart, tPart, tFl, sFl, tSls, sSls, tMeS, tPrS, tPrF, tMethR, tMake, sFlAug, rLenS, L2.start, List.map_cons, List.map_nil, List.length_cons, List.length_nil, Nat.zero_add, Nat.reduceAdd, Nat.reduceSub, List.replicate_succ, List.replicate_zero, List.forall_mem_map, List.cons_append, List.nil_append, List.getElem?_cons_succ, List.getElem?_cons_zero, List.set_cons_zero, List.set_cons_succ, Option.some.injEq, V.int.injEq, V.str.injEq, V.bl.injEq, V.ref.injEq, V.ty.injEq, List.cons.injEq, HO.tup.injEq, HO.lst.injEq, HO.ins.injEq, reduceCtorEq, exists_eq_left', exists_eq_left, exists_eq_right', exists_eq_right, exists_and_left, exists_and_right, and_true, true_and, and_false, false_and, or_false, false_or, or_true, true_or, exists_const, exists_eq', exists_eq, scal_ii, scal_ss, scal_bb, scal_nn, scal_ns, scal_sn, rCatX, tTupX, tLcI, rCat, tPrS, upd_same, if_true, if_false, ite_true, ite_false, Bool.not_true, Bool.not_false, Bool.true_and, Bool.and_true, Bool.false_eq_true, decide_true, decide_false, sz1, atI_0, atI_1, and_assoc])
local macro_rules | `(tactic| walk_at "rh") => `(tactic| simp only [*, tVar, tC, tOp, tUn, rI0, rI, rU, rEq, rNe, tTest, tB, tAnd, tOr, tNot, tAndV, tOrV, tNotV, tIf, tChain, tIfS, tRet, tRetN, tSeq, tNext, tAsg, gName, tDrop, tCons, tNil, tCB, tCR, tTup, tLst, rIsF, tyN_non, tyN_bl, tyN_int, tyN_str, tyN_ref, isB_1, isB_2, isB_3, isB_4, isB_5, isB_6, isB_7, isB_8, tyO_tup, tyO_lst, tyO_dK, tyO_frz, rIxG, rLenG, rInG, rAllG, rSumG, rListG, rTupG, tLcF, tLcP, tForF, tForP, srcTup, srcLst, srcStr, srcRng, srcEnum, srcZip, srcEnumT, tYes, wipe, gTupG, gCons, gNil, tStarG, tSl, rSlTG, rSlLG, rCatTG, rRep, tJoinG, rSortedSG, tApp, tExd, tupO_tup, lstO_lst, seqO_tup, seqO_lst, dKO_dK, tNoPart, tPart, tFl, sFl, tSls, sSls, tMeS, tPrS, tPrF, tMethR, tMake, sFlAug, rLenS, L2.start, List.map_cons, List.map_nil, List.length_cons, List.length_nil, Nat.zero_add, Nat.reduceAdd, Nat.reduceSub, List.replicate_succ, List.replicate_zero, List.forall_mem_map, List.cons_append, List.nil_append, List.getElem?_cons_succ, List.getElem?_cons_zero, List.set_cons_zero, List.set_cons_succ, Option.some.injEq, V.int.injEq, V.str.injEq, V.bl.injEq, V.ref.injEq, V.ty.injEq, List.cons.injEq, HO.tup.injEq, HO.lst.injEq, HO.ins.injEq, reduceCtorEq, exists_eq_left', exists_eq_left, exists_eq_right', exists_eq_right, exists_and_left, exists_and_right, and_true, true_and, and_false, false_and, or_false, false_or, or_true, true_or, exists_const, exists_eq', exists_eq, scal_ii, scal_ss, scal_bb, scal_nn, scal_ns, scal_sn, rCatX, tTupX, tLcI, rCat, tPrS, upd_same, if_true, if_false, ite_true, ite_false, Bool.not_true, Bool.not_false, Bool.true_and, Bool.and_true, Bool.false_eq_true, decide_true, decide_false, sz1, atI_0, atI_1, and_assoc])
/-- what is left of the crates -/
def leftL (s : Sto) (l : Lay) : List Str := s.cs.filter fun z => decide (some z ∉ l)
/-- a layout's first places -/
structure PL (s : Sto) (i : Nat) (l : Lay) : Prop where
  len : l.length = i
  nd : (l.filterMap id).Nodup
  mem : ∀ z, some z ∈ l → z ∈ s.cs
  lf : (leftL s l).length + i ≤ s.es.length
theorem mem_fm {l : Lay} {z : Str} : z ∈ l.filterMap id ↔ some z ∈ l := by simp
theorem PL.nil {s : Sto} (ok : s.Ok) : PL s 0 [] := by
  refine ⟨rfl, by simp, fun z h => (nomatch h), ?_⟩
  have := ok.np
  have h2 := ok.len
  have h3 : (leftL s []).length ≤ s.cs.length := List.length_filter_le _ _
  have h4 := Sto.cs_len ok
  omega
theorem PL.non {s : Sto} {i : Nat} {l : Lay} (h : PL s i l) (hi : (leftL s l).length < s.es.length - i) : PL s (i + 1) (l ++ [none]) := by
  refine ⟨by rw [List.length_append, h.len]; rfl, by simpa using h.nd, fun z hz => ?_, ?_⟩
  · rcases List.mem_append.mp hz with y | y
    · exact h.mem z y
    · simp at y
  · have : leftL s (l ++ [none]) = leftL s l := by
      unfold leftL
      congr 1
      funext z
      simp
    rw [this]
    omega
theorem cs_nodup {s : Sto} (ok : s.Ok) : s.cs.Nodup := by
  rcases Sto.n_cases ok with e | e | e <;> rw [e] <;> decide +kernel
theorem PL.som {s : Sto} (ok : s.Ok) {i : Nat} {l : Lay} {z : Str} (h : PL s i l) (hz : z ∈ leftL s l) : PL s (i + 1) (l ++ [some z]) := by
  obtain ⟨hz1, hz2⟩ := List.mem_filter.mp hz
  have hz2 : some z ∉ l := by simpa using hz2
  refine ⟨by rw [List.length_append, h.len]; rfl, ?_, fun y hy => ?_, ?_⟩
  · rw [List.filterMap_append, List.nodup_append]
    refine ⟨h.nd, by simp, fun a ha b hb => ?_⟩
    simp at hb
    subst hb
    intro e
    subst e
    exact hz2 (mem_fm.mp ha)
  · rcases List.mem_append.mp hy with y1 | y1
    · exact h.mem y y1
    · simp at y1
      subst y1
      exact hz1
  · have : leftL s (l ++ [some z]) = (leftL s l).erase z := by
      unfold leftL
      rw [List.Nodup.erase_eq_filter (show (s.cs.filter fun z => decide (some z ∉ l)).Nodup from List.Pairwise.filter _ (cs_nodup ok)), List.filter_filter]
      congr 1
      funext y
      by_cases e : y = z
      · subst e; simp
      · simp [e, bne]
    rw [this, List.length_erase_of_mem hz]
    have := h.lf
    have h2 : 0 < (leftL s l).length := List.length_pos_of_mem hz
    omega
theorem PL.full {s : Sto} {l : Lay} (ok : s.Ok) (h : PL s s.es.length l) : IsLay s l := by
  refine ⟨h.len, ?_⟩
  have h0 : (leftL s l).length = 0 := by have := h.lf; omega
  have h0 : leftL s l = [] := List.length_eq_zero_iff.mp h0
  refine (List.perm_ext_iff_of_nodup h.nd (cs_nodup ok)).mpr fun z => ⟨fun hz => h.mem z (mem_fm.mp hz), fun hz => ?_⟩
  rw [mem_fm]
  by_cases y : some z ∈ l
  · exact y
  · have : z ∈ leftL s l := List.mem_filter.mpr ⟨hz, by simpa using y⟩
    rw [h0] at this
    cases this
theorem inV_lay {l : Lay} {z : Str} : inV (.str z) (l.map layV) = decide (some z ∈ l) := by
  induction l with
  | nil => rfl
  | cons a r ih =>
    rw [List.map_cons]
    show (eqV (layV a) (V.str z) || inV (.str z) (r.map layV)) = _
    rw [ih]
    cases a with
    | none => simp [layV, eqV]
    | some y =>
      show ((y == z) || _) = _
      by_cases h : y = z
      · subst h; simp
      · simp [h, Ne.symm h]
theorem flat_lay {l : Lay} : (l.map layV).all flatV = true := by
  rw [List.all_map]
  exact List.all_eq_true.mpr fun x _ => by cases x <;> rfl
theorem left_len {s : Sto} (ok : s.Ok) {l : Lay} : (leftL s l).length ≤ 3 := by
  have h3 : (leftL s l).length ≤ s.cs.length := List.length_filter_le _ _
  have h4 := Sto.cs_len ok
  have := ok.n3
  omega
theorem fm_left {s : Sto} {l : Lay} : s.cs.filterMap (fun z => if some z ∈ l then none else some (V.str z)) = (leftL s l).map V.str := by
  unfold leftL
  induction s.cs with
  | nil => rfl
  | cons a r ih =>
    rw [List.filterMap_cons, List.filter_cons]
    by_cases h : some a ∈ l
    · simp [h, ih]
    · simp [h, ih]
section
variable {P : Program} {w : World} {K : PySem.W.Frag} {mg : Str → Option Value} {base : Heap}
def spLawLays (K : PySem.W.Frag) : Sp := fun vs H Q _ => ∃ (a : Addr) (s : Sto), vs = [.ref a] ∧ StoAt K H a s ∧ s.Ok ∧ ∀ p H' (l : List (Addr × Lay)), Ext H H' → H' p = some (.lst (l.map fun q => .ref q.1)) → l ≠ [] → l.length ≤ 1000000 → (∀ q, q ∈ l → LayX H' q.1 q.2 ∧ IsLay s q.2) → Q (.ref p) H'
theorem ok_law_layouts (T : Txt K mg w) : OkF P w K mg base CX0 4 (gA K "_law_layouts") ["_law_store_here"] (spLawLays K) := by
  have F_Store_size := ok_Store_size (P := P) (base := base) T
  have F_Store_crates := ok_Store_crates (P := P) (base := base) T
  refine mk0 (k := 3) T.d_law_layouts sc_law_layouts (fun _ _ _ _ _ _ us hl => match us, hl with | [_], _ => rfl) (fun vs H Q E h => ?_) (fun cdv A outer s H vs Q E hr h => ?_)
  · obtain ⟨a, st, rfl, _⟩ := h
    rfl
  · obtain ⟨a, st, rfl, hst, ok, q⟩ := h
    refine ⟨_, (pss_cons (CC.st (i := 1) sc_law_layouts.nd (pe_lst (pa_cons (pe_tup pa_nil) pa_nil)))
    (pss_cons (forF PassesOwn.never rfl (sr_rng T.b_range (pa_cons (pe_prS T.scls_Store T.pr_Store_size F_Store_size.raw hr (pv 0)) pa_nil)) (pg_name (i := 2) sc_law_layouts.nd rfl (.inl rfl))
      (pss_cons (CC.st (i := 3) sc_law_layouts.nd (pe_lst pa_nil))
    (pss_cons (forF PassesOwn.never rfl (sr_lst (pv 1)) (pg_name (i := 4) sc_law_layouts.nd rfl (.inr rfl))
      (pss_cons (setLcF (i := 5) (own := [("_law_name", 6)]) rfl sc_law_layouts.nd (sw_true rfl rfl rfl (by decide +kernel)) (sr_tup (pe_prS T.scls_Store T.pr_Store_crates F_Store_crates.raw hr (pv 0))) (blkOk_by (N := n_law_layouts) (sc := defScope s_law_layouts) (by decide +kernel)) (fun _ _ _ _ _ => (pg_name (i := 6) sc_law_layouts.nd rfl (.inl rfl))) (fun _ _ _ _ _ => (pts_one (pt_cmpR op_notInG (pv 6) (pv 4) rfl))) (fun _ _ _ _ _ => (pv 6)))
    (pss_cons (ps_if (pt_cmpR op_lt (pe_callB call_lenG rfl T.b_len PySem.boot_len (pa_cons (pv 5) pa_nil)) (pe_op op_sub (pe_prS T.scls_Store T.pr_Store_size F_Store_size.raw hr (pv 0)) (pv 2)) (nomark _)) (pss_one (ps_expr (pe_app (pe_bm PySem.F.plainAttrs_list PySem.F.slot_list_append PySem.F.type_list_append mt_append (upPE (pv 3)) (pa_cons (upPE (pe_op op_catX (pv 4) (pe_tupX (pa_cons pe_non pa_nil)))) pa_nil))))) pss_nil)
    (pss_one (CC.st (i := 3) sc_law_layouts.nd (pe_op op_cat (pv 3) (lcI (own := [("_law_name", 6)]) rfl sc_law_layouts.nd (sr_lst (pv 5)) (blkOk_by (N := n_law_layouts) (sc := defScope s_law_layouts) (by decide +kernel)) (fun _ _ _ _ _ => (pg_name (i := 6) sc_law_layouts.nd rfl (.inl rfl))) (fun _ _ _ _ _ => pts_nil) (fun _ _ _ _ _ => (pe_op op_catX (pv 4) (pe_tupX (pa_cons (pv 6) pa_nil)))))))))))
    (pss_one (CC.st (i := 1) sc_law_layouts.nd (pv 3))))))
    (pss_one (ps_ret (pv 1))))), ?_⟩
    walk_at "rh"
    refine ⟨by decide, fun p0 hp0 => ⟨by decide, fun p1 hp1 => ?_⟩⟩
    have e0 := Ext.new (o := .tup []) hp0
    have e1 := Ext.new (o := .lst [V.ref p0]) hp1
    have a0 := e1 _ _ (upd_same (H := H) (a := p0) (o := .tup []))
    have a1 := upd_same (H := upd H p0 (.tup [])) (a := p1) (o := .lst [V.ref p0])
    have e01 := e0.trans e1
    generalize upd (upd H p0 (.tup [])) p1 (.lst [V.ref p0]) = H1 at e01 a0 a1
    obtain ⟨ea, pa, da, ca, hS, _⟩ := hst.ext e01
    have hn := ok.len
    have hps := ok.d.ps
    refine ⟨⟨_, hS.sa⟩, a, st, rfl, hst.ext e01, st.es.length, rfl, by omega, Nat, List.range st.es.length, fun i => .int (i : Nat), rfl,
      fun r σ Hx => ∃ (i : Nat) (la : List (Addr × Lay)) (rp : Addr) (x2 x3 x4 x5 x6 : Option V), r = (List.range st.es.length).drop i ∧ i ≤ st.es.length ∧ σ = [some (.ref a), some (.ref rp), x2, x3, x4, x5, x6] ∧ Ext H Hx ∧ Hx rp = some (.lst (la.map fun q => .ref q.1)) ∧ la ≠ [] ∧ la.length ≤ 4 ^ i ∧ ∀ q, q ∈ la → LayAt Hx q.1 q.2 ∧ (0 < i → LayX Hx q.1 q.2) ∧ PL st i q.2,
      ⟨0, [(p0, [])], p1, _, _, _, _, _, rfl, by omega, rfl, e01, a1, by simp, by simp, fun q hq => ?_⟩, fun _ _ _ _ => trivial, ?_, ?_⟩
    · rw [List.mem_singleton.mp hq]
      exact ⟨by show tupO _ = _; rw [a0]; rfl, fun z => absurd z (by decide), PL.nil ok⟩
    · intro b r σ Hx ⟨i, la, rp, x2, x3, x4, x5, x6, g1, g2, g3, g4, g5, g6, g7, g8⟩
      subst g3
      have hlt : i < st.es.length := by
        by_cases z : i < st.es.length
        · exact z
        · rw [List.drop_of_length_le (by simp; omega)] at g1
          cases g1
      rw [List.drop_eq_getElem_cons (by simpa using hlt)] at g1
      obtain ⟨gb, gr⟩ := List.cons.inj g1
      rw [List.getElem_range] at gb
      subst gb
      refine ⟨by decide, fun mp hmp => ⟨_, rfl, rp, rfl, la.map (fun q => V.ref q.1), ?_, Addr × Lay, la, fun q => .ref q.1, rfl, ?_⟩⟩
      · rw [Ext.new hmp _ _ g5]; rfl
      refine ⟨fun r2 σ Hy => ∃ (pre acc : List (Addr × Lay)) (mq : Addr) (x4 x5 x6 : Option V), la = pre ++ r2 ∧ σ = [some (.ref a), some (.ref rp), some (.int ((b : Nat) : Int)), some (.ref mq), x4, x5, x6] ∧ Ext Hx Hy ∧ Hx mq = none ∧ Hy mq = some (.lst (acc.map fun q => .ref q.1)) ∧ acc.length ≤ 4 * pre.length ∧ (pre ≠ [] → acc ≠ []) ∧ ∀ q, q ∈ acc → LayX Hy q.1 q.2 ∧ PL st (b + 1) q.2,
        ⟨[], [], mp, _, _, _, rfl, rfl, Ext.new hmp, hmp, upd_same, by simp, fun z => absurd rfl z, fun q hq => nomatch hq⟩, fun r2 σ Hy ⟨pre, acc, mq, x4, x5, x6, k1, k2, k3, k4, k5, k6, k7, k8⟩ => k3 _ _ g5, ?_, ?_⟩
      · intro c r2 σ Hy ⟨pre, acc, mq, x4, x5, x6, k1, k2, k3, k4, k5, k6, k7, k8⟩
        subst k2
        obtain ⟨c1, c2⟩ := c
        have hc := g8 (c1, c2) (by rw [k1]; simp)
        have eHy := g4.trans k3
        have hcy := LayAt.mono hc.1 k3.tup
        obtain ⟨ea, pa, da, ca, hSy, _⟩ := hst.ext eHy
        refine ⟨_, rfl, a, rfl, ⟨_, hSy.sa⟩, a, st, rfl, hst.ext eHy, fun ca hca => ⟨ca, rfl, _, by rw [hca]; rfl, Str, st.cs, V.str, rfl, ?_, fun z => if some z ∈ c2 then none else some (V.str z), fun z hz H2 e => ⟨rfl, _, rfl, _, rfl, c1, rfl, c2.map layV, ?_, rfl, flat_lay, ?_⟩, fun D H2 hD e hl => ?_⟩⟩
        · have := Sto.cs_len ok
          have := ok.n3
          omega
        · exact seqO_of (LayAt.mono hcy e.tup)
        · rw [inV_lay]
          by_cases hz2 : some z ∈ c2
          · simp [hz2, Ext.refl]
          · simp [hz2, Ext.refl]
        rw [fm_left] at hl
        have e2 := k3.trans e
        obtain ⟨ea2, pa2, da2, ca2, hS2, _⟩ := hst.ext (g4.trans e2)
        refine ⟨_, rfl, D, rfl, _, by rw [hl]; rfl, _, rfl, a, rfl, ⟨_, hS2.sa⟩, a, st, rfl, hst.ext (g4.trans e2), ?_⟩
        have hcl : c2.length ≤ 4 := by
          have : c2.length = b := hc.2.2.len
          omega
        -- the names' layouts
        let Pv : Hp → Addr → List Str → List V → Hp → Prop := fun Hz D' r acc Hw => ∃ nacc : List (Addr × Lay), Ext Hz Hw ∧ Hz D' = none ∧ Hw D' = some (.lst acc) ∧ acc = nacc.map (fun q => .ref q.1) ∧ nacc.length + r.length = (leftL st c2).length ∧ (∀ q, q ∈ nacc → LayX Hw q.1 q.2 ∧ PL st (b + 1) q.2) ∧ ∀ z, z ∈ r → z ∈ leftL st c2
        have v0 : ∀ Hz D', Hz D' = none → Pv Hz D' (leftL st c2) [] (upd Hz D' (.lst [])) := fun Hz D' h => ⟨[], Ext.new h, h, upd_same, rfl, by simp, fun q hq => (nomatch hq), fun z hz => hz⟩
        have vs : ∀ Hz D' z r acc Hw H' p, Pv Hz D' (z :: r) acc Hw → Ext Hw H' → TupX H' p (c2.map layV ++ [.str z]) → H' D' = some (.lst acc) ∧ Pv Hz D' r (acc ++ [.ref p]) (upd H' D' (.lst (acc ++ [.ref p]))) := fun Hz D' z r acc Hw H' p ⟨nacc, m1, m2, m3, m4, m5, m6, m7⟩ e hp => by
          have hD' := e _ _ m3
          have kD : Kp D' H' (upd H' D' (.lst (acc ++ [V.ref p]))) := Kp.set
          have tD := tupL kD hD'
          refine ⟨hD', nacc ++ [(p, c2 ++ [some z])], fun x o h => kD _ _ (fun y => by subst y; rw [m2] at h; cases h) (e _ _ (m1 _ _ h)), m2, upd_same, by rw [m4]; simp, by rw [List.length_append, List.length_singleton]; rw [List.length_cons] at m5; omega, fun q hq => ?_, fun y hy => m7 y (List.mem_cons_of_mem _ hy)⟩
          rcases List.mem_append.mp hq with y | y
          · exact ⟨TupX.mono (TupX.mono (m6 q y).1 e.tup) tD, (m6 q y).2⟩
          · rw [List.mem_singleton.mp y]
            refine ⟨?_, hc.2.2.som ok (m7 z List.mem_cons_self)⟩
            show TupX _ p ((c2 ++ [some z]).map layV)
            rw [List.map_append]
            exact TupX.mono hp tD
        have ve : ∀ (Hz : Hp) (D' : Addr) (acc : List V) (Hw : Hp) (ac2 : List (Addr × Lay)) (x5 x6 : Option V), Ext Hx Hz → Hz mq = some (.lst (ac2.map fun q => .ref q.1)) → ac2.length ≤ 4 * pre.length + 1 → (ac2 = [] → leftL st c2 ≠ []) → (∀ q, q ∈ ac2 → LayX Hz q.1 q.2 ∧ PL st (b + 1) q.2) → Pv Hz D' [] acc Hw →
            Hw mq = some (.lst (ac2.map fun q => .ref q.1)) ∧ Hw D' = some (.lst acc) ∧ (ac2.map fun q => V.ref q.1).length + acc.length ≤ 16777216 ∧ ∀ p, Hw p = none → ∃ (pre' acc' : List (Addr × Lay)) (mq' : Addr) (y4 y5 y6 : Option V), la = pre' ++ r2 ∧ [some (V.ref a), some (.ref rp), some (.int ((b : Nat) : Int)), some (.ref p), some (.ref c1), x5, x6] = [some (V.ref a), some (.ref rp), some (.int ((b : Nat) : Int)), some (.ref mq'), y4, y5, y6] ∧ Ext Hx (upd Hw p (.lst ((ac2.map fun q => V.ref q.1) ++ acc))) ∧ Hx mq' = none ∧ (upd Hw p (.lst ((ac2.map fun q => V.ref q.1) ++ acc))) mq' = some (.lst (acc'.map fun q => .ref q.1)) ∧ acc'.length ≤ 4 * pre'.length ∧ (pre' ≠ [] → acc' ≠ []) ∧ ∀ q, q ∈ acc' → LayX (upd Hw p (.lst ((ac2.map fun q => V.ref q.1) ++ acc))) q.1 q.2 ∧ PL st (b + 1) q.2 :=
          fun Hz D' acc Hw ac2 x5 x6 ez hz1 hz2 hz3 hz4 ⟨nacc, m1, m2, m3, m4, m5, m6, m7⟩ => by
            have h3 := left_len ok (l := c2)
            have hpl : pre.length ≤ la.length := by rw [k1, List.length_append]; omega
            have h4 : (4 : Nat) ^ b ≤ 4 ^ 4 := Nat.pow_le_pow_right (by decide) (by omega)
            have m5 : nacc.length = (leftL st c2).length := by simpa using m5
            have hal : acc.length = nacc.length := by rw [m4, List.length_map]
            refine ⟨m1 _ _ hz1, m3, by rw [List.length_map, hal]; omega, fun p hp => ?_⟩
            have en := Ext.new (o := .lst ((ac2.map fun q => V.ref q.1) ++ acc)) hp
            refine ⟨pre ++ [(c1, c2)], ac2 ++ nacc, p, _, _, _, by rw [k1]; simp, rfl, (ez.trans m1).trans en, ?_, by rw [upd_same, m4]; simp, by simp only [List.length_append, List.length_singleton]; omega, fun _ z => ?_, fun q hq => ?_⟩
            · cases y : Hx p with
              | none => rfl
              | some o =>
                rw [m1 _ _ (ez _ _ y)] at hp
                cases hp
            · obtain ⟨z1, z2⟩ := List.append_eq_nil_iff.mp z
              refine hz3 z1 (List.length_eq_zero_iff.mp ?_)
              rw [← m5, z2]
              rfl
            · rcases List.mem_append.mp hq with y | y
              · exact ⟨TupX.mono (TupX.mono (hz4 q y).1 m1.tup) en.tup, (hz4 q y).2⟩
              · exact ⟨TupX.mono (m6 q y).1 en.tup, (m6 q y).2⟩
        have hmq2 := e _ _ k5
        refine ⟨_, rfl, _, rfl, _, rfl, ?_⟩
        by_cases hlt2 : ((leftL st c2).length : Int) < ((st.es.length : Nat) : Int) - ((b : Nat) : Int)
        · rw [if_pos (by simpa using hlt2)]
          refine ⟨_, rfl, mq, rfl, ⟨_, by rw [hmq2]; rfl⟩, _, rfl, by decide, fun p o hp ho => ⟨c1, rfl, c2.map layV, ?_, _, ⟨o, upd_same, ho⟩, by simp, by rw [List.length_map]; show _ + 1 ≤ _; omega, fun p2 H3 e3 hp2 => ?_⟩⟩
          · exact LayAt.mono (LayAt.mono hcy e.tup) (Ext.new hp).tup
          have e23 := (Ext.new (o := .frz o (.tup [V.non])) hp).trans e3
          have h3mq := e23 _ _ hmq2
          have h3D := e23 _ _ hl
          have kM : Kp mq H3 (upd H3 mq (.lst ((acc.map fun q => V.ref q.1) ++ [V.ref p2]))) := Kp.set
          have tM := tupL kM h3mq
          have nD : D ≠ mq := fun z => by subst z; rw [k5] at hD; cases hD
          refine ⟨_, by rw [h3mq]; rfl, by rw [List.length_map]; have hpl : pre.length ≤ la.length := (by rw [k1, List.length_append]; omega); have h4 : (4 : Nat) ^ b ≤ 4 ^ 4 := Nat.pow_le_pow_right (by decide) (by omega); omega, _, rfl, _, rfl, D, rfl, _, by rw [kM _ _ nD h3D]; rfl, Str, leftL st c2, V.str, rfl, by have := left_len ok (l := c2); omega, Pv (upd H3 mq (.lst ((acc.map fun q => V.ref q.1) ++ [V.ref p2]))), fun D' h => v0 _ D' h, fun D' r ac Hw ⟨nacc, m1, _⟩ => m1 _ _ (kM _ _ nD h3D), fun D' z r ac Hw hv => ⟨rfl, _, rfl, _, rfl, by decide, fun pn on hpn hon => ⟨c1, rfl, c2.map layV, ?_, _, ⟨on, upd_same, hon⟩, by simp, by rw [List.length_map]; show _ + 1 ≤ _; omega, fun p3 H4 e4 hp3 => vs _ D' z r ac Hw H4 p3 hv ((Ext.new hpn).trans e4) hp3⟩⟩, fun D' ac Hw hv => ?_⟩
          · obtain ⟨nacc, m1, _⟩ := hv
            exact LayAt.mono (LayAt.mono (LayAt.mono (LayAt.mono (LayAt.mono hcy e.tup) e23.tup) tM) m1.tup) (Ext.new hpn).tup
          · have := ve (upd H3 mq (.lst ((acc.map fun q => V.ref q.1) ++ [V.ref p2]))) D' ac Hw (acc ++ [(p2, c2 ++ [none])]) (some (.ref D)) x6 (fun x o h => kM _ _ (fun y => by subst y; rw [k4] at h; cases h) (e23 _ _ (e2 _ _ h))) (by rw [upd_same]; simp) (by rw [List.length_append, List.length_singleton]; omega) (by simp) (fun q hq => ?_) hv
            · obtain ⟨w1, w2, w3, w4⟩ := this
              exact ⟨mq, rfl, _, w1, _, w2, w3, w4⟩
            · rcases List.mem_append.mp hq with y | y
              · exact ⟨TupX.mono (TupX.mono (TupX.mono (k8 q y).1 e.tup) e23.tup) tM, (k8 q y).2⟩
              · rw [List.mem_singleton.mp y]
                refine ⟨?_, hc.2.2.non (by show (leftL st c2).length < _; omega)⟩
                show TupX _ p2 ((c2 ++ [none]).map layV)
                rw [List.map_append]
                exact TupX.mono hp2 tM
        · rw [if_neg (by simpa using hlt2)]
          refine ⟨_, rfl, _, rfl, D, rfl, _, by rw [hl]; rfl, Str, leftL st c2, V.str, rfl, by have := left_len ok (l := c2); omega, Pv H2, fun D' h => v0 _ D' h, fun D' r ac Hw ⟨nacc, m1, _⟩ => m1 _ _ hl, fun D' z r ac Hw hv => ⟨rfl, _, rfl, _, rfl, by decide, fun pn on hpn hon => ⟨c1, rfl, c2.map layV, ?_, _, ⟨on, upd_same, hon⟩, by simp, by rw [List.length_map]; show _ + 1 ≤ _; omega, fun p3 H4 e4 hp3 => vs _ D' z r ac Hw H4 p3 hv ((Ext.new hpn).trans e4) hp3⟩⟩, fun D' ac Hw hv => ?_⟩
          · obtain ⟨nacc, m1, _⟩ := hv
            exact LayAt.mono (LayAt.mono (LayAt.mono hcy e.tup) m1.tup) (Ext.new hpn).tup
          · have := ve H2 D' ac Hw acc (some (.ref D)) x6 e2 hmq2 (by omega) (fun _ z => ?_) (fun q hq => ⟨TupX.mono (k8 q hq).1 e.tup, (k8 q hq).2⟩) hv
            · obtain ⟨w1, w2, w3, w4⟩ := this
              exact ⟨mq, rfl, _, w1, _, w2, w3, w4⟩
            · rw [z] at hlt2
              exact hlt2 (by simp; omega)
      · intro σ Hy ⟨pre, acc, mq, x4, x5, x6, k1, k2, k3, k4, k5, k6, k7, k8⟩
        subst k2
        have k1 : la = pre := by simpa using k1
        refine ⟨_, rfl, b + 1, acc, mq, _, _, _, _, _, gr, by omega, rfl, g4.trans k3, k5, k7 (by rw [← k1]; exact g6), ?_, fun q hq => ⟨(k8 q hq).1.at, fun _ => (k8 q hq).1, (k8 q hq).2⟩⟩
        rw [Nat.pow_succ]
        rw [k1] at g7
        omega
    · intro σ Hx ⟨i, la, rp, x2, x3, x4, x5, x6, g1, g2, g3, g4, g5, g6, g7, g8⟩
      subst g3
      have hi : i = st.es.length := by
        have := congrArg List.length g1
        rw [List.length_drop, List.length_range, List.length_nil] at this
        omega
      have hn1 : 0 < i := by
        have := ok.np
        have := ok.n1
        omega
      have h4 : (4 : Nat) ^ i ≤ 4 ^ 4 := Nat.pow_le_pow_right (by decide) (by omega)
      refine ⟨_, rfl, q rp Hx la g4 g5 g6 (by omega) fun x hx => ⟨(g8 x hx).2.1 hn1, ?_⟩⟩
      have := (g8 x hx).2.2
      rw [hi] at this
      exact this.full ok
end
end CC
set_option maxHeartbeats 4000000
namespace CC
open PySem PySem.Spec PyProof.Rows L2
local macro_rules | `(tactic| walk_at "rd") => `(tactic| simp only [tVar, tC, tOp, tUn, rI0, rI, rU, rEq, rNe, tTest, tB, tAnd, tOr, tNot, tAndV, tOrV, tNotV, tIf, tChain, tIfS, tRet, tRetN, tSeq, tNext, tAsg, gName, tDrop, tCons, tNil, tCB, tCR, tTup, tLst, rIsF, tyN_non, tyN_bl, tyN_int, tyN_str, tyN_ref, isB_1, isB_2, isB_3, isB_4, isB_5, isB_6, isB_7, isB_8, tyO_tup, tyO_lst, tyO_dK, tyO_frz, rIxG, rLenG, rInG, rAllG, rSumG, rListG, rTupG, tLcF, tLcP, tForF, tForP, srcTup, srcLst, srcStr, srcRng, srcEnum, srcZip, srcEnumT, tYes, wipe, gTupG, gCons, gNil, tStarG, tSl, rSlTG, rSlLG, rCatTG, rRep, tJoinG, rSortedSG, tApp, tExd, tupO_tup, lstO_lst, seqO_tup, seqO_lst, dKO_dK, tNoPart, tPart, tFl, sFl, tSls, sSls, tMeS, tPrS, tPrF, tMethR, tMake, sFlAug, rLenS, L2.start, List.map_cons, List.map_nil, List.length_cons, List.length_nil, Nat.zero_add, Nat.reduceAdd, Nat.reduceSub, List.replicate_succ, List.replicate_zero, List.forall_mem_map, List.cons_append, List.nil_append, List.getElem?_cons_succ, List.getElem?_cons_zero, List.set_cons_zero, List.set_cons_succ, Option.some.injEq, V.int.injEq, V.str.injEq, V.bl.injEq, V.ref.injEq, V.ty.injEq, List.cons.injEq, HO.tup.injEq, HO.lst.injEq, HO.ins.injEq, reduceCtorEq, exists_eq_left', exists_eq_left, exists_eq_right', exists_eq_right, exists_and_left, exists_and_right, and_true, true_and, and_false, false_and, or_false, false_or, or_true, true_or, exists_const, exists_eq', exists_eq, scal_ii, scal_ss, scal_bb, scal_nn, scal_ns, scal_sn, tPar, upd_same, if_true, if_false, ite_true, ite_false, Bool.not_true, Bool.not_false, Bool.true_and, Bool.and_true, Bool.false_eq_true, decide_true, decide_false, sz1, atI_0, atI_1, and_assoc])
local macro_rules | `(tactic| walk_at "rh") => `(tactic| simp only [*, tVar, tC, tOp, tUn, rI0, rI, rU, rEq, rNe, tTest, tB, tAnd, tOr, tNot, tAndV, tOrV, tNotV, tIf, tChain, tIfS, tRet, tRetN, tSeq, tNext, tAsg, gName, tDrop, tCons, tNil, tCB, tCR, tTup, tLst, rIsF, tyN_non, tyN_bl, tyN_int, tyN_str, tyN_ref, isB_1, isB_2, isB_3, isB_4, isB_5, isB_6, isB_7, isB_8, tyO_tup, tyO_lst, tyO_dK, tyO_frz, rIxG, rLenG, rInG, rAllG, rSumG, rListG, rTupG, tLcF, tLcP, tForF, tForP, srcTup, srcLst, srcStr, srcRng, srcEnum, srcZip, srcEnumT, tYes, wipe, gTupG, gCons, gNil, tStarG, tSl, rSlTG, rSlLG, rCatTG, rRep, tJoinG, rSortedSG, tApp, tExd, tupO_tup, lstO_lst, seqO_tup, seqO_lst, dKO_dK, tNoPart, tPart, tFl, sFl, tSls, sSls, tMeS, tPrS, tPrF, tMethR, tMake, sFlAug, rLenS, L2.start, List.map_cons, List.map_nil, List.length_cons, List.length_nil, Nat.zero_add, Nat.reduceAdd, Nat.reduceSub, List.replicate_succ, List.replicate_zero, List.forall_mem_map, List.cons_append, List.nil_append, List.getElem?_cons_succ, List.getElem?_cons_zero, List.set_cons_zero, List.set_cons_succ, Option.some.injEq, V.int.injEq, V.str.injEq, V.bl.injEq, V.ref.injEq, V.ty.injEq, List.cons.injEq, HO.tup.injEq, HO.lst.injEq, HO.ins.injEq, reduceCtorEq, exists_eq_left', exists_eq_left, exists_eq_right', exists_eq_right, exists_and_left, exists_and_right, and_true, true_and, and_false, false_and, or_false, false_or, or_true, true_or, exists_const, exists_eq', exists_eq, scal_ii, scal_ss, scal_bb, scal_nn, scal_ns, scal_sn, tPar, upd_same, if_true, if_false, ite_true, ite_false, Bool.not_true, Bool.not_false, Bool.true_and, Bool.and_true, Bool.false_eq_true, decide_true, decide_false, sz1, atI_0, atI_1, and_assoc])
theorem kp_new {ra : Addr} {H H1 H' : Hp} {p : Addr} (k : Kp ra H1 H') (e : Ext H H1) : Kp ra H H' := fun b o n h => k _ _ n (e _ _ h)
/-- the data of an operation -/
def Op.ds : Op → List PyData
  | .look d => [.str "look", .int d]
  | .put n p => [.str "put", .str n, .int p]
  | .exch a b => [.str "exchange", .str a, .str b]
  | .shut => [.str "shut"]
  | .keep x => [.str "keep_as", .str x]
  | .fetch x => [.str "fetch", .str x]
theorem Op.dp {K : PySem.W.Frag} {H : Hp} (op : Op) : DpAll K H op.vs op.ds := by
  cases op <;> repeat (first | exact .nil | refine .cons (by constructor) ?_)
def names2 : List Str := ["x", "y"]
/-- an operation that the law draws -/
def Op.Dr : Op → Prop
  | .look _ => True
  | .put n _ => n ∈ names3
  | .exch a b => a ∈ names3 ∧ b ∈ names3
  | .shut => True
  | .keep x => x ∈ names2
  | .fetch x => x ∈ names2
theorem names2_ok {z : Str} (h : z ∈ names2) : PyData.strOk z = true ∧ isWordB z = true ∧ z.length ≤ 1000 := by
  simp [names2] at h
  rcases h with rfl | rfl <;> exact ⟨by decide +kernel, by decide +kernel, by decide +kernel⟩
theorem Op.Dr.ok {op : Op} (h : op.Dr) : op.Ok := by
  cases op with
  | keep x => exact (names2_ok h).2
  | _ => trivial
theorem Op.Dr.dOk {op : Op} (h : op.Dr) : dOk 1 (.tuple op.ds) := dOk.tup fun d hd => by
  have w : ∀ z : Str, z ∈ [("look" : Str), "put", "exchange", "shut", "keep_as", "fetch"] → CC.dOk 0 (.str z) := fun z hz => dOk.str (by
    simp only [List.mem_cons, List.mem_nil_iff, or_false] at hz
    rcases hz with rfl | rfl | rfl | rfl | rfl | rfl <;> decide +kernel)
  cases op with
  | look d => 
    simp only [Op.ds, List.mem_cons, List.mem_nil_iff, or_false] at hd
    rcases hd with rfl | rfl
    · exact w _ (by simp)
    · exact dOk.int
  | put n p =>
    simp only [Op.ds, List.mem_cons, List.mem_nil_iff, or_false] at hd
    rcases hd with rfl | rfl | rfl
    · exact w _ (by simp)
    · exact dOk.str (names_ok h)
    · exact dOk.int
  | exch a b =>
    simp only [Op.ds, List.mem_cons, List.mem_nil_iff, or_false] at hd
    rcases hd with rfl | rfl | rfl
    · exact w _ (by simp)
    · exact dOk.str (names_ok h.1)
    · exact dOk.str (names_ok h.2)
  | shut =>
    simp only [Op.ds, List.mem_cons, List.mem_nil_iff, or_false] at hd
    subst hd
    exact w _ (by simp)
  | keep x =>
    simp only [Op.ds, List.mem_cons, List.mem_nil_iff, or_false] at hd
    rcases hd with rfl | rfl
    · exact w _ (by simp)
    · exact dOk.str (names2_ok h).1
  | fetch x =>
    simp only [Op.ds, List.mem_cons, List.mem_nil_iff, or_false] at hd
    rcases hd with rfl | rfl
    · exact w _ (by simp)
    · exact dOk.str (names2_ok h).1
section
variable {P : Program} {w : World} {K : PySem.W.Frag} {mg : Str → Option Value} {base : Heap}
def spLawLay (K : PySem.W.Frag) : Sp := fun vs H Q _ => ∃ (ra a sc : Addr) (ns : List Int) (s : Sto), vs = [.ref ra, .ref a] ∧ RowA K H ra sc ns ∧ StoAt K H a s ∧ s.Ok ∧ ∀ p H' (l : Lay), Kp ra H H' → RowA K H' ra sc ns → LayX H' p l → IsLay s l → Q (.ref p) H'
theorem ok_law_layout (T : Txt K mg w) : OkF P w K mg base CX0 5 (gA K "_law_layout") ["_law_row", "_law_store_here"] (spLawLay K) := by
  have F_law_taken := ok_law_taken (P := P) (base := base) T
  have F_law_layouts := ok_law_layouts (P := P) (base := base) T
  refine mk0 (k := 4) T.d_law_layout sc_law_layout (fun _ _ _ _ _ _ us hl => match us, hl with | [_, _], _ => rfl) (fun vs H Q E h => ?_) (fun cdv A outer s H vs Q E hr h => ?_)
  · obtain ⟨ra, a, sc, ns, st, rfl, _⟩ := h
    rfl
  · obtain ⟨ra, a, sc, ns, st, rfl, hra, hst, ok, q⟩ := h
    refine ⟨_, (pss_cons (CC.st (i := 2) sc_law_layout.nd (pe_cR F_law_layouts.raw hr T.g_law_layouts pass0 (pa_cons (pv 1) pa_nil)))
    (pss_one (ps_ret (pe_ix ix_G (pv 2) (pe_cR F_law_taken.raw hr T.g_law_taken pass0 (pa_cons (pv 0) (pa_cons (pe_callB call_lenG rfl T.b_len PySem.boot_len (pa_cons (pv 2) pa_nil)) pa_nil))) (fun _ _ => rfl))))), ?_⟩
    walk_at "rh"
    refine ⟨a, st, rfl, hst, ok, fun p H1 l e1 hp hne hlen hl => ?_⟩
    have hra1 := hra.ext e1
    have hl1 : 1 ≤ l.length := List.length_pos_iff.mpr hne
    refine ⟨p, rfl, _, by rw [hp]; rfl, ra, sc, ns, _, rfl, hra1, ?_, ?_, fun v H2 hv0 hv1 k2 r2 => ?_⟩
    · rw [List.length_map]; omega
    · rw [List.length_map]; omega
    have t2 := hra1.tup k2
    rw [List.length_map] at hv1
    have npr : p ≠ ra := fun z => by
      subst z
      obtain ⟨c1, c2, c3, h1, _⟩ := hra1.l
      rw [hp] at h1
      cases l with
      | nil => exact hne rfl
      | cons x r =>
        have := List.cons.inj (HO.lst.inj (Option.some.inj h1))
        cases r with
        | nil => cases this.2
        | cons y r2 => cases (List.cons.inj this.2).1
    have hlt : v.toNat < l.length := by omega
    have hx : l[v.toNat]? = some l[v.toNat] := List.getElem?_eq_getElem hlt
    have hm := hl _ (List.getElem_mem hlt)
    refine ⟨p, rfl, v, rfl, _, by rw [k2 _ _ npr hp]; rfl, .ref (l[v.toNat]).1, ?_, q _ _ _ (kp_new (p := p) k2 e1) r2 (TupX.mono hm.1 t2) hm.2⟩
    have hat : atI (l.map fun q => V.ref q.1) ((v.toNat : Nat) : Int) = some (.ref (l[v.toNat]).1) := atI_nat (by rw [List.getElem?_map, hx]; rfl)
    rw [Int.toNat_of_nonneg hv0] at hat
    exact hat
def spLawOp (K : PySem.W.Frag) : Sp := fun vs H Q _ => ∃ (ra sc : Addr) (ns : List Int), vs = [.ref ra] ∧ RowA K H ra sc ns ∧ ∀ p H' (op : Op), Kp ra H H' → RowA K H' ra sc ns → OpAt H' p op → op.Dr → Q (.ref p) H'
theorem ok_law_op (T : Txt K mg w) : OkF P w K mg base CX0 2 (gA K "_law_op") ["_law_row"] (spLawOp K) := by
  have F_law_taken := ok_law_taken (P := P) (base := base) T
  refine mk0 (k := 1) T.d_law_op sc_law_op (fun _ _ _ _ _ _ us hl => match us, hl with | [_], _ => rfl) (fun vs H Q E h => ?_) (fun cdv A outer s H vs Q E hr h => ?_)
  · obtain ⟨ra, sc, ns, rfl, _⟩ := h
    rfl
  · obtain ⟨ra, sc, ns, rfl, hra, q⟩ := h
    refine ⟨_, (pss_cons (ps_par (by rfl) sc_law_op.nd (i := 1) (j := 2) rfl rfl (by decide) rfl rfl (pa_cons (pe_cR F_law_taken.raw hr T.g_law_taken pass0 (pa_cons (pv 0) (pa_cons pe_int pa_nil))) (pa_cons (pe_lst (pa_cons pe_str (pa_cons pe_str (pa_cons pe_str pa_nil)))) pa_nil)) (by rfl))
    (pss_cons (CC.st (i := 3) sc_law_op.nd (pe_ix ix_G (pv 2) (pe_cR F_law_taken.raw hr T.g_law_taken pass0 (pa_cons (pv 0) (pa_cons pe_int pa_nil))) (fun _ _ => rfl)))
    (pss_cons (ps_if (pt_cmpR op_lt (pv 1) pe_int (nomark _)) (pss_one (ps_ret (pe_tup (pa_cons pe_str (pa_cons (pe_cR F_law_taken.raw hr T.g_law_taken pass0 (pa_cons (pv 0) (pa_cons pe_int pa_nil))) pa_nil))))) pss_nil)
    (pss_cons (ps_if (pt_cmpR op_lt (pv 1) pe_int (nomark _)) (pss_one (ps_ret (pe_tup (pa_cons pe_str (pa_cons (pv 3) (pa_cons (pe_cR F_law_taken.raw hr T.g_law_taken pass0 (pa_cons (pv 0) (pa_cons pe_int pa_nil))) pa_nil)))))) pss_nil)
    (pss_cons (ps_if (pt_cmpR op_lt (pv 1) pe_int (nomark _)) (pss_one (ps_ret (pe_tup (pa_cons pe_str (pa_cons (pv 3) (pa_cons (pe_ix ix_G (pv 2) (pe_cR F_law_taken.raw hr T.g_law_taken pass0 (pa_cons (pv 0) (pa_cons pe_int pa_nil))) (fun _ _ => rfl)) pa_nil)))))) pss_nil)
    (pss_cons (ps_if (pt_cmpR op_eq (pv 1) pe_int (nomark _)) (pss_one (ps_ret (pe_tup (pa_cons pe_str pa_nil)))) pss_nil)
    (pss_one (ps_ret (pe_tup (pa_cons (pe_ix ix_G (pe_lst (pa_cons pe_str (pa_cons pe_str pa_nil))) (pe_op op_sub (pv 1) pe_int) (fun _ _ => rfl)) (pa_cons (pe_ix ix_G (pe_lst (pa_cons pe_str (pa_cons pe_str pa_nil))) (pe_cR F_law_taken.raw hr T.g_law_taken pass0 (pa_cons (pv 0) (pa_cons pe_int pa_nil))) (fun _ _ => rfl)) pa_nil))))))))))), ?_⟩
    walk_at "rh"
    refine ⟨ra, sc, ns, 11, rfl, hra, by decide, by decide, fun v H1 hv0 hv1 k1 r1 => ⟨by decide, fun pn hpn => ?_⟩⟩
    have npr : pn ≠ ra := fun z => by
      subst z
      obtain ⟨c1, c2, c3, h1, _⟩ := r1.l
      rw [h1] at hpn
      cases hpn
    have en := Ext.new (o := .lst [V.str "fig", V.str "kiwi", V.str "plum"]) hpn
    have rn := r1.ext en
    have kn : ∀ {H' : Hp}, Kp ra (upd H1 pn (.lst [V.str "fig", V.str "kiwi", V.str "plum"])) H' → Kp ra H H' := fun k b o n h => k _ _ n (en _ _ (k1 _ _ n h))
    have hn0 := upd_same (H := H1) (a := pn) (o := .lst [V.str "fig", V.str "kiwi", V.str "plum"])
    generalize upd H1 pn (.lst [V.str "fig", V.str "kiwi", V.str "plum"]) = G at en rn kn hn0
    have pick : ∀ x : Int, 0 ≤ x → x < 3 → ∃ z : Str, z ∈ names3 ∧ atI [V.str "fig", V.str "kiwi", V.str "plum"] x = some (.str z) := fun x h1 h2 => by
      have : x = 0 ∨ x = 1 ∨ x = 2 := by omega
      rcases this with rfl | rfl | rfl
      · exact ⟨"fig", by simp [names3], rfl⟩
      · exact ⟨"kiwi", by simp [names3], rfl⟩
      · exact ⟨"plum", by simp [names3], rfl⟩
    have fin : ∀ {H2 H3 : Hp} {p : Addr} {op : Op}, Kp ra G H2 → RowA K H2 ra sc ns → Kp ra H2 H3 → RowA K H3 ra sc ns → H3 p = none → op.Dr → Q (.ref p) (upd H3 p (.tup op.vs)) := fun {H2 H3 p op} k2 r2 k3 r3 hp hd => by
      have e := Ext.new (o := .tup op.vs) hp
      exact q p _ op (kn (fun b o n h => e _ _ (k3 _ _ n (k2 _ _ n h)))) (r3.ext e) upd_same hd
    refine ⟨ra, sc, ns, 3, rfl, rn, by decide, by decide, fun x H2 hx0 hx1 k2 r2 => ?_⟩
    obtain ⟨z, hz, hza⟩ := pick x hx0 hx1
    have hn2 := k2 _ _ npr hn0
    refine ⟨x, rfl, _, by rw [hn2]; rfl, _, hza, v, rfl, ?_⟩
    by_cases h3 : v < 3
    · rw [if_pos (by simpa using h3)]
      exact ⟨ra, sc, ns, 4, rfl, r2, by decide, by decide, fun u H3 hu0 hu1 k3 r3 => ⟨by decide, fun p hp => fin (op := .look u) k2 r2 k3 r3 hp trivial⟩⟩
    rw [if_neg (by simpa using h3)]
    refine ⟨v, rfl, ?_⟩
    by_cases h6 : v < 6
    · rw [if_pos (by simpa using h6)]
      exact ⟨ra, sc, ns, 5, rfl, r2, by decide, by decide, fun u H3 hu0 hu1 k3 r3 => ⟨by decide, fun p hp => fin (op := .put z u) k2 r2 k3 r3 hp hz⟩⟩
    rw [if_neg (by simpa using h6)]
    refine ⟨v, rfl, ?_⟩
    by_cases h8 : v < 8
    · rw [if_pos (by simpa using h8)]
      refine ⟨ra, sc, ns, 3, rfl, r2, by decide, by decide, fun u H3 hu0 hu1 k3 r3 => ?_⟩
      obtain ⟨y, hy, hya⟩ := pick u hu0 hu1
      exact ⟨u, rfl, _, by rw [k3 _ _ npr hn2]; rfl, _, hya, by decide, fun p hp => fin (op := .exch z y) k2 r2 k3 r3 hp ⟨hz, hy⟩⟩
    rw [if_neg (by simpa using h8)]
    refine ⟨rfl, ?_⟩
    by_cases h9 : v = 8
    · subst h9
      rw [if_pos (by decide)]
      exact ⟨by decide, fun p hp => fin (op := .shut) k2 r2 (Kp.refl _ _) r2 hp trivial⟩
    rw [if_neg (by simpa using h9)]
    have hv : v = 9 ∨ v = 10 := by omega
    refine ⟨by decide, fun p4 hp4 => ?_⟩
    have e4 := Ext.new (o := .lst [V.str "keep_as", V.str "fetch"]) hp4
    have pick2 : ∀ x : Int, 0 ≤ x → x < 2 → ∃ z : Str, z ∈ names2 ∧ atI [V.str "x", V.str "y"] x = some (.str z) := fun x h1 h2 => by
      have : x = 0 ∨ x = 1 := by omega
      rcases this with rfl | rfl
      · exact ⟨"x", by simp [names2], rfl⟩
      · exact ⟨"y", by simp [names2], rfl⟩
    have tail : ∀ (wd : Str) (mk : Str → Op), (∀ y, (mk y).vs = [.str wd, .str y]) → (∀ y, y ∈ names2 → (mk y).Dr) → 2 ≤ 16777216 ∧ ∀ (p_1 : Addr), upd H2 p4 (HO.lst [V.str "keep_as", V.str "fetch"]) p_1 = none → spTaken K [V.ref ra, V.int 2] (upd (upd H2 p4 (HO.lst [V.str "keep_as", V.str "fetch"])) p_1 (HO.lst [V.str "x", V.str "y"])) (fun y H2 => ∃ x_3, y = V.int x_3 ∧ ∃ x_4, seqO (H2 p_1) = some x_4 ∧ ∃ x_5, atI x_4 x_3 = some x_5 ∧ 2 ≤ 16777216 ∧ ∀ (p : Addr), H2 p = none → Q (V.ref p) (upd H2 p (HO.tup [V.str wd, x_5]))) E0 := fun wd mk h1 h2 => by
      refine ⟨by decide, fun p5 hp5 => ?_⟩
      have e5 := Ext.new (o := .lst [V.str "x", V.str "y"]) hp5
      have hx5 := upd_same (H := upd H2 p4 (HO.lst [V.str "keep_as", V.str "fetch"])) (a := p5) (o := .lst [V.str "x", V.str "y"])
      have r5 := (r2.ext e4).ext e5
      refine ⟨ra, sc, ns, 2, rfl, r5, by decide, by decide, fun u H3 hu0 hu1 k3 r3 => ?_⟩
      obtain ⟨y, hy, hya⟩ := pick2 u hu0 hu1
      have np5 : p5 ≠ ra := fun z => by
        subst z
        obtain ⟨c1, c2, c3, y1, _⟩ := (r2.ext e4).l
        rw [y1] at hp5
        cases hp5
      refine ⟨u, rfl, _, by rw [k3 _ _ np5 hx5]; rfl, _, hya, by decide, fun p hp => ?_⟩
      have := fin (op := mk y) k2 r2 (fun b o n h => k3 _ _ n (e5 _ _ (e4 _ _ h))) r3 hp (h2 y hy)
      rw [h1] at this
      exact this
    rcases hv with rfl | rfl
    · exact ⟨9, rfl, _, rfl, tail "keep_as" .keep (fun _ => rfl) fun y hy => hy⟩
    · exact ⟨10, rfl, _, rfl, tail "fetch" .fetch (fun _ => rfl) fun y hy => hy⟩
end
end CC
set_option maxHeartbeats 4000000
namespace CC
open PySem PySem.Spec PyProof.Rows L2
local macro_rules | `(tactic| walk_at "rd") => `(tactic| simp only [tVar, tC, tOp, tUn, rI0, rI, rU, rEq, rNe, tTest, tB, tAnd, tOr, tNot, tAndV, tOrV, tNotV, tIf, tChain, tIfS, tRet, tRetN, tSeq, tNext, tAsg, gName, tDrop, tCons, tNil, tCB, tCR, tTup, tLst, rIsF, tyN_non, tyN_bl, tyN_int, tyN_str, tyN_ref, isB_1, isB_2, isB_3, isB_4, isB_5, isB_6, isB_7, isB_8, tyO_tup, tyO_lst, tyO_dK, tyO_frz, rIxG, rLenG, rInG, rAllG, rSumG, rListG, rTupG, tLcF, tLcP, tForF, tForP, srcTup, srcLst, srcStr, srcRng, srcEnum, srcZip, srcEnumT, tYes, wipe, gTupG, gCons, gNil, tStarG, tSl, rSlTG, rSlLG, rCatTG, rRep, tJoinG, rSortedSG, tApp, tExd, tupO_tup, lstO_lst, seqO_tup, seqO_lst, dKO_dK, tNoPart, tPart, tFl, sFl, tSls, sSls, tMeS, tPrS, tPrF, tMethR, tMake, sFlAug, rLenS, L2.start, List.map_cons, List.map_nil, List.length_cons, List.length_nil, Nat.zero_add, Nat.reduceAdd, Nat.reduceSub, List.replicate_succ, List.replicate_zero, List.forall_mem_map, List.cons_append, List.nil_append, List.getElem?_cons_succ, List.getElem?_cons_zero, List.set_cons_zero, List.set_cons_succ, Option.some.injEq, V.int.injEq, V.str.injEq, V.bl.injEq, V.ref.injEq, V.ty.injEq, List.cons.injEq, HO.tup.injEq, HO.lst.injEq, HO.ins.injEq, reduceCtorEq, exists_eq_left', exists_eq_left, exists_eq_right', exists_eq_right, exists_and_left, exists_and_right, and_true, true_and, and_false, false_and, or_false, false_or, or_true, true_or, exists_const, exists_eq', exists_eq, scal_ii, scal_ss, scal_bb, scal_nn, scal_ns, scal_sn, tPar, upd_same, if_true, if_false, ite_true, ite_false, Bool.not_true, Bool.not_false, Bool.true_and, Bool.and_true, Bool.false_eq_true, decide_true, decide_false, sz1, atI_0, atI_1, and_assoc])
local macro_rules | `(tactic| walk_at "rh") => `(tactic| simp only [*, tVar, tC, tOp, tUn, rI0, rI, rU, rEq, rNe, tTest, tB, tAnd, tOr, tNot, tAndV, tOrV, tNotV, tIf, tChain, tIfS, tRet, tRetN, tSeq, tNext, tAsg, gName, tDrop, tCons, tNil, tCB, tCR, tTup, tLst, rIsF, tyN_non, tyN_bl, tyN_int, tyN_str, tyN_ref, isB_1, isB_2, isB_3, isB_4, isB_5, isB_6, isB_7, isB_8, tyO_tup, tyO_lst, tyO_dK, tyO_frz, rIxG, rLenG, rInG, rAllG, rSumG, rListG, rTupG, tLcF, tLcP, tForF, tForP, srcTup, srcLst, srcStr, srcRng, srcEnum, srcZip, srcEnumT, tYes, wipe, gTupG, gCons, gNil, tStarG, tSl, rSlTG, rSlLG, rCatTG, rRep, tJoinG, rSortedSG, tApp, tExd, tupO_tup, lstO_lst, seqO_tup, seqO_lst, dKO_dK, tNoPart, tPart, tFl, sFl, tSls, sSls, tMeS, tPrS, tPrF, tMethR, tMake, sFlAug, rLenS, L2.start, List.map_cons, List.map_nil, List.length_cons, List.length_nil, Nat.zero_add, Nat.reduceAdd, Nat.reduceSub, List.replicate_succ, List.replicate_zero, List.forall_mem_map, List.cons_append, List.nil_append, List.getElem?_cons_succ, List.getElem?_cons_zero, List.set_cons_zero, List.set_cons_succ, Option.some.injEq, V.int.injEq, V.str.injEq, V.bl.injEq, V.ref.injEq, V.ty.injEq, List.cons.injEq, HO.tup.injEq, HO.lst.injEq, HO.ins.injEq, reduceCtorEq, exists_eq_left', exists_eq_left, exists_eq_right', exists_eq_right, exists_and_left, exists_and_right, and_true, true_and, and_false, false_and, or_false, false_or, or_true, true_or, exists_const, exists_eq', exists_eq, scal_ii, scal_ss, scal_bb, scal_nn, scal_ns, scal_sn, tPar, upd_same, if_true, if_false, ite_true, ite_false, Bool.not_true, Bool.not_false, Bool.true_and, Bool.and_true, Bool.false_eq_true, decide_true, decide_false, sz1, atI_0, atI_1, and_assoc])
/-- tuples, dicts and lists stand -/
structure TupL (H H' : Hp) : Prop extends Tup H H' where
  l : ∀ a xs, H a = some (.lst xs) → H' a = some (.lst xs)
theorem Ext.tl {H H' : Hp} (e : Ext H H') : TupL H H' := ⟨e.tup, fun a xs h => e a _ h⟩
theorem TupL.trans {H H1 H2 : Hp} (a : TupL H H1) (b : TupL H1 H2) : TupL H H2 := ⟨a.toTup.trans b.toTup, fun x xs h => b.l x xs (a.l x xs h)⟩
theorem TupL.refl (H : Hp) : TupL H H := ⟨Tup.refl H, fun _ _ h => h⟩
theorem Kp.tl {H H' : Hp} {s C : Addr} {vs : List V} (k : Kp s H H') (h : SB H s C vs) : TupL H H' := by
  refine ⟨k.tupS h, fun a xs e => k a _ (fun z => ?_) e⟩
  subst z
  obtain ⟨dx, h1, _⟩ := h
  rw [e] at h1
  exact nomatch Option.some.inj h1
theorem LiveOn.tl {K : PySem.W.Frag} {H H' : Hp} {v s sa : Addr} {st : Sto} {ls : LS} (h : LiveOn K H v s sa st ls) (k : Kp s H H') : TupL H H' := let ⟨_, hs⟩ := h.lst.sb; k.tl hs
/-- the names under which something is kept, in order -/
def keptL (ls : LS) : List Str := names2.filter fun z => decide (z ∈ ls.sh.map Prod.fst)
structure LS.Ky (ls : LS) : Prop where
  nd : (ls.sh.map Prod.fst).Nodup
  m : ∀ z, z ∈ ls.sh.map Prod.fst → z ∈ names2
theorem ky_perm {ls : LS} (h : ls.Ky) : (ls.sh.map Prod.fst).Perm (keptL ls) := (List.perm_ext_iff_of_nodup h.nd (List.Pairwise.filter _ (by decide +kernel : names2.Nodup))).mpr fun z => ⟨fun hz => List.mem_filter.mpr ⟨h.m z hz, by simpa using hz⟩, fun hz => by simpa using (List.mem_filter.mp hz).2⟩
theorem kept_of {ls : LS} (h : ls.Ky) {ks : List Str} (p : ks.Perm (ls.sh.map Prod.fst)) (hs : sortedS ks = true) : ks = keptL ls := by
  have hp : ks.Perm (keptL ls) := p.trans (ky_perm h)
  have hc : keptL ls = [] ∨ keptL ls = [("x" : Str)] ∨ keptL ls = [("y" : Str)] ∨ keptL ls = [("x" : Str), "y"] := by
    unfold keptL names2
    by_cases a : ("x" : Str) ∈ ls.sh.map Prod.fst <;> by_cases b : ("y" : Str) ∈ ls.sh.map Prod.fst <;> simp only [List.filter_cons, List.filter_nil, a, b, decide_true, decide_false, if_true, Bool.false_eq_true, if_false] <;> simp
  rcases hc with e | e | e | e <;> rw [e] at hp ⊢
  · exact List.perm_nil.mp hp
  · exact List.perm_singleton.mp hp
  · exact List.perm_singleton.mp hp
  · have hl := hp.length_eq
    match ks, hl with
    | [a, b], _ =>
      have ha : a ∈ [("x" : Str), "y"] := hp.subset (by simp)
      have hb : b ∈ [("x" : Str), "y"] := hp.subset (by simp)
      simp only [List.mem_cons, List.mem_nil_iff, or_false] at ha hb
      rcases ha with rfl | rfl <;> rcases hb with rfl | rfl <;> first | rfl | (exfalso; revert hp; decide +kernel) | (exfalso; revert hs; decide +kernel)
/-- what a store tells -/
def FactsT (H : Hp) (p : Addr) (ls : LS) : Prop := ∃ (la dl kl hl : Addr) (l : List (Addr × Op)), tupO (H p) = some [.ref la, .int ls.f.2.1, .ref dl, .ref kl, .ref hl] ∧ LayX H la ls.f.1 ∧ H dl = some (.lst (ls.f.2.2.map V.int)) ∧ H kl = some (.lst ((keptL ls).map V.str)) ∧ H hl = some (.lst (l.map fun q => .ref q.1)) ∧ l.map Prod.snd = ls.past.map Prod.fst ∧ ∀ q, q ∈ l → OpAt H q.1 q.2
theorem FactsT.mono {H H' : Hp} {p : Addr} {ls : LS} (h : FactsT H p ls) (t : TupL H H') : FactsT H' p ls := by
  obtain ⟨la, dl, kl, hl, l, h1, h2, h3, h4, h5, h6, h7⟩ := h
  exact ⟨la, dl, kl, hl, l, t.tO h1, TupX.mono h2 t.toTup, t.l _ _ h3, t.l _ _ h4, t.l _ _ h5, h6, fun q hq => OpAt.mono t.toTup (h7 q hq)⟩
section
variable {P : Program} {w : World} {K : PySem.W.Frag} {mg : Str → Option Value} {base : Heap}
def spFactsL (K : PySem.W.Frag) : Sp := fun vs H Q _ => ∃ (v s sa : Addr) (st : Sto) (ls : LS), vs = [.ref v] ∧ LiveOn K H v s sa st ls ∧ ls.Ky ∧ ls.past.length ≤ 1000 ∧ ∀ p H', Ext H H' → FactsT H' p ls → (∀ D xs H'', H D = some (.lst xs) → Kp D H' H'' → FactsT H'' p ls) → Q (.ref p) H'
theorem ky_len {ls : LS} (h : ls.Ky) : ls.sh.length < 64 := by
  have h1 := (ky_perm h).length_eq
  have h2 : (keptL ls).length ≤ 2 := List.length_filter_le _ _
  rw [List.length_map] at h1
  omega
theorem ok_law_facts (T : Txt K mg w) : OkF P w K mg base CX0 4 (gA K "_law_facts") ["_law_live"] (spFactsL K) := by
  have F_Live_layout_now := ok_Live_layout_now (P := P) (base := base) T
  have F_Live_warmth_now := ok_Live_warmth_now (P := P) (base := base) T
  have F_Live_day_warmths := ok_Live_day_warmths (P := P) (base := base) T
  have F_Live_kept_under := ok_Live_kept_under (P := P) (base := base) T
  have F_Live_history := ok_Live_history (P := P) (base := base) T
  refine mk0 (k := 3) T.d_law_facts sc_law_facts (fun _ _ _ _ _ _ us hl => match us, hl with | [_], _ => rfl) (fun vs H Q E h => ?_) (fun cdv A outer s H vs Q E hr h => ?_)
  · obtain ⟨v, s, sa, st, ls, rfl, _⟩ := h
    rfl
  · obtain ⟨v, s, sa, st, ls, rfl, L, ky, hp, q⟩ := h
    obtain ⟨dx, hv⟩ := L.live
    refine ⟨_, (pss_cons (CC.st (i := 1) sc_law_facts.nd (pe_tup (pa_cons (pe_prF T.cls_Live T.pr_Live_layout_now F_Live_layout_now.raw hr pass0 (pv 0)) (pa_cons (pe_prF T.cls_Live T.pr_Live_warmth_now F_Live_warmth_now.raw hr pass0 (pv 0)) (pa_cons (pe_prF T.cls_Live T.pr_Live_day_warmths F_Live_day_warmths.raw hr pass0 (pv 0)) pa_nil)))))
    (pss_one (ps_ret (pe_op op_catTG (pv 1) (pe_tup (pa_cons (pe_prF T.cls_Live T.pr_Live_kept_under F_Live_kept_under.raw hr pass0 (pv 0)) (pa_cons (pe_prF T.cls_Live T.pr_Live_history F_Live_history.raw hr pass0 (pv 0)) pa_nil))))))), ?_⟩
    walk_at "rh"
    refine ⟨v, s, sa, st, ls, rfl, L, fun la hla => ⟨⟨_, _, hv⟩, v, s, sa, st, ls, rfl, L, ⟨_, _, hv⟩, v, s, sa, st, ls, rfl, L, fun dl hdl => ⟨by decide, fun p1 hp1 => ?_⟩⟩⟩
    have e1 := Ext.new (o := .lst (ls.f.2.2.map V.int)) hdl
    have e2 := Ext.new (o := .tup [V.ref la, .int ls.f.2.1, .ref dl]) hp1
    have a1 := e2 _ _ (upd_same (H := H) (a := dl) (o := .lst (ls.f.2.2.map V.int)))
    have a2 := upd_same (H := upd H dl (.lst (ls.f.2.2.map V.int))) (a := p1) (o := .tup [V.ref la, .int ls.f.2.1, .ref dl])
    have e12 := e1.trans e2
    generalize upd (upd H dl (.lst (ls.f.2.2.map V.int))) p1 (.tup [V.ref la, .int ls.f.2.1, .ref dl]) = H1 at e12 a1 a2
    refine ⟨⟨_, _, e12 _ _ hv⟩, v, s, sa, st, ls, rfl, L.ext e12, ky_len ky, fun kl ks hks hso hkl => ?_⟩
    have e3 := Ext.new (o := .lst (ks.map V.str)) hkl
    have a3 := upd_same (H := H1) (a := kl) (o := .lst (ks.map V.str))
    have e13 := e12.trans e3
    have ek := kept_of ky hks hso
    generalize upd H1 kl (.lst (ks.map V.str)) = H2 at e3 e13 a3
    refine ⟨⟨_, _, e13 _ _ hv⟩, v, s, sa, st, ls, rfl, L.ext e13, hp, fun hl H3 l hhl e4 h5 h6 h7 => ⟨by decide, fun p2 hp2 => ?_⟩⟩
    have e5 := Ext.new (o := .tup [V.ref kl, .ref hl]) hp2
    refine ⟨[V.ref la, .int ls.f.2.1, .ref dl], by rw [e5 _ _ (e4 _ _ (e3 _ _ a2))]; rfl, show (3 : Nat) + 2 ≤ 16777216 by decide, fun p3 H4 e6 hp3 => ?_⟩
    have e46 := (e4.trans e5).trans e6
    have eAll := e13.trans e46
    have hk0 : H kl = none := by
      cases z : H kl with
      | none => rfl
      | some o => rw [e12 _ _ z] at hkl; cases hkl
    have hh0 : H hl = none := by
      cases z : H hl with
      | none => rfl
      | some o => rw [e13 _ _ z] at hhl; cases hhl
    have b1 := e46 _ _ (e3 _ _ a1)
    have b2 : H4 kl = some (.lst ((keptL ls).map V.str)) := by rw [e46 _ _ a3, ek]
    have b3 := (e5.trans e6) _ _ h5
    refine q p3 H4 eAll ⟨la, dl, kl, hl, l, hp3, TupX.mono hla eAll.tup, b1, b2, b3, h6, fun x hx => OpAt.mono e46.tup (h7 x hx)⟩ fun D xs H'' hD k => ?_
    have t := tupL k (eAll _ _ hD)
    exact ⟨la, dl, kl, hl, l, t.tO hp3, TupX.mono (TupX.mono hla eAll.tup) t, k _ _ (fun z => by subst z; rw [hD] at hdl; cases hdl) b1, k _ _ (fun z => by subst z; rw [hD] at hk0; cases hk0) b2, k _ _ (fun z => by subst z; rw [hD] at hh0; cases hh0) b3, h6, fun x hx => OpAt.mono t (OpAt.mono e46.tup (h7 x hx))⟩
end
end CC
set_option maxHeartbeats 4000000
/-! D32: what a used store keeps through the law's operations; plain. -/
namespace CC
open PySem PySem.Spec PyProof.Rows L2
structure LS.Wm (n : Int) (ls : LS) : Prop where
  f0 : 0 ≤ ls.f.2.1
  f1 : ls.f.2.1 ≤ 20 * n
  s0 : ∀ q, q ∈ ls.sh → 0 ≤ q.2.2.1 ∧ q.2.2.1 ≤ 20 * n
theorem wd_le {s : Sto} (ok : s.Ok) (e : Int) : 0 ≤ wd s e ∧ wd s e ≤ 9 := by
  unfold wd
  by_cases h : e.toNat < s.ds.length
  · have : s.ds.getD e.toNat (0, 0) = s.ds[e.toNat] := by simp [h]
    rw [this]
    have := (ok.d.dw _ (List.getElem_mem h)).1
    omega
  · have : s.ds.getD e.toNat (0, 0) = (0, 0) := by simp [List.getD, List.getElem?_eq_none (Nat.le_of_not_lt h)]
    rw [this]
    decide
theorem wsum_le {s : Sto} (ok : s.Ok) (a b : Int) : 0 ≤ wsum s a b ∧ wsum s a b ≤ 18 := by
  have h1 := wd_le ok a
  have h2 := wd_le ok b
  unfold wsum
  split <;> omega
structure LS.In (st : Sto) (l0 : Lay) (n : Nat) (ls : LS) : Prop where
  good : ls.Good st
  sz : ls.Sz (1000 - n)
  ky : ls.Ky
  un : ls.undone = []
  wm : ls.Wm n
  dr : ∀ e, e ∈ ls.past → e.1.Dr
  rc : ∃ rs, execAll st (LS.new l0) (ls.past.map Prod.fst) = some (ls, rs)
theorem In.new {st : Sto} {l0 : Lay} (h : IsLay st l0) : LS.In st l0 0 (LS.new l0) := by
  refine ⟨⟨h, fun q hq => (nomatch hq)⟩, ⟨by simp, by simp, by simp, fun q hq => (nomatch hq)⟩, ⟨by simp, fun z hz => (nomatch hz)⟩, rfl, ⟨by simp, by simp, fun q hq => (nomatch hq)⟩, fun e he => (nomatch he), ⟨[], rfl⟩⟩
theorem execAll_snoc {st : Sto} {op : Op} : ∀ {ops : List Op} {ls ls1 ls2 : LS} {rs : List Res} {r : Res}, execAll st ls ops = some (ls1, rs) → execM st ls1 op = some (ls2, r) → execAll st ls (ops ++ [op]) = some (ls2, rs ++ [r])
  | [], ls, ls1, ls2, rs, r, h1, h2 => by
    cases h1
    simp [execAll, h2]
  | o :: ops, ls, ls1, ls2, rs, r, h1, h2 => by
    simp only [execAll, List.cons_append] at h1 ⊢
    cases q : execM st ls o with
    | none => rw [q] at h1; cases h1
    | some p =>
      obtain ⟨la, x⟩ := p
      rw [q] at h1
      simp only at h1 ⊢
      cases q2 : execAll st la ops with
      | none => rw [q2] at h1; cases h1
      | some p2 =>
        obtain ⟨lb, xs⟩ := p2
        rw [q2] at h1
        cases h1
        rw [execAll_snoc q2 h2]
        rfl
theorem putS_keys {sh : Shelf} {x : Str} {f : Facts} (nd : (sh.map Prod.fst).Nodup) : ((putS sh x f).map Prod.fst).Nodup ∧ ∀ z, z ∈ (putS sh x f).map Prod.fst → z ∈ sh.map Prod.fst ∨ z = x := by
  unfold putS
  split
  · rename_i h
    have : (sh.map fun q => if q.1 = x then (x, f) else q).map Prod.fst = sh.map Prod.fst := by
      rw [List.map_map]
      refine List.map_congr_left fun q _ => ?_
      by_cases e : q.1 = x
      · simp [e]
      · simp [e]
    rw [this]
    exact ⟨nd, fun z hz => .inl hz⟩
  · rename_i h
    rw [List.map_append]
    refine ⟨?_, fun z hz => ?_⟩
    · rw [List.nodup_append]
      refine ⟨nd, by simp, fun a ha b hb => ?_⟩
      simp at hb
      subst hb
      intro e
      subst e
      exact h ha
    · rcases List.mem_append.mp hz with y | y
      · exact .inl y
      · simp at y
        exact .inr y
/-- what an operation makes of a used store -/
theorem execM_form {st : Sto} (ok : st.Ok) {ls ls' : LS} {op : Op} {r : Res} {n : Nat} (ky : ls.Ky) (wm : ls.Wm n) (d : op.Dr) (h : execM st ls op = some (ls', r)) :
    ∃ f sh, ls' = ls.goOn op f sh ∧ LS.Ky (ls.goOn op f sh) ∧ LS.Wm ((n : Int) + 1) (ls.goOn op f sh) := by
  have mono : ∀ q, q ∈ ls.sh → 0 ≤ q.2.2.1 ∧ q.2.2.1 ≤ 20 * ((n : Int) + 1) := fun q hq => by have := wm.s0 q hq; omega
  have w0 := wm.f0
  have w1 := wm.f1
  cases op with
  | look k =>
    simp only [execM] at h
    split at h
    · cases h
      have := wd_le ok k
      exact ⟨_, _, rfl, ⟨ky.nd, ky.m⟩, ⟨by simp only [LS.looked, LS.goOn]; omega, by simp only [LS.looked, LS.goOn]; omega, mono⟩⟩
    · cases h
  | put z i =>
    simp only [execM] at h
    split at h
    · cases h
      have := wsum_le ok (eAt st (ixOf ls.f.1 z)) (eAt st i)
      exact ⟨_, _, rfl, ⟨ky.nd, ky.m⟩, ⟨by simp only [LS.putd, LS.goOn]; omega, by simp only [LS.putd, LS.goOn]; omega, mono⟩⟩
    · cases h
  | exch a b =>
    simp only [execM] at h
    split at h
    · cases h
      have := wsum_le ok (eAt st (ixOf ls.f.1 a)) (eAt st (ixOf ls.f.1 b))
      exact ⟨_, _, rfl, ⟨ky.nd, ky.m⟩, ⟨by simp only [LS.exd, LS.goOn]; omega, by simp only [LS.exd, LS.goOn]; omega, mono⟩⟩
    · cases h
  | shut =>
    cases h
    exact ⟨_, _, rfl, ⟨ky.nd, ky.m⟩, ⟨by simp only [LS.goOn]; omega, by simp only [LS.goOn]; omega, mono⟩⟩
  | keep x =>
    cases h
    have pk := putS_keys (x := x) (f := ls.f) ky.nd
    refine ⟨_, _, rfl, ⟨pk.1, fun z hz => (pk.2 z hz).elim (ky.m z) fun e => e ▸ d⟩, ⟨w0, by simp only [LS.goOn]; omega, fun q hq => ?_⟩⟩
    rcases putS_mem hq with y | y
    · exact mono q y
    · rw [y]; omega
  | fetch x =>
    simp only [execM] at h
    split at h
    · rename_i f hf
      cases h
      obtain ⟨q, h1, h2⟩ := lookup_memS hf
      have := mono q h1
      rw [h2] at this
      exact ⟨_, _, rfl, ⟨ky.nd, ky.m⟩, ⟨this.1, this.2, mono⟩⟩
    · cases h
theorem In.step {st : Sto} {l0 : Lay} (ok : st.Ok) {n : Nat} {ls ls' : LS} {op : Op} {r : Res} (I : LS.In st l0 n ls) (hn : n < 500) (d : op.Dr) (h : execM st ls op = some (ls', r)) : LS.In st l0 (n + 1) ls' := by
  have sz : LS.Sz (1000 - (n + 1)) ls' := execM_sz (by rw [show 1000 - (n + 1) + 1 = 1000 - n by omega]; exact I.sz) h
  have gd := execM_good ok I.good h
  obtain ⟨f, sh, e, k, wm⟩ := execM_form ok I.ky I.wm d h
  obtain ⟨rs, hrc⟩ := I.rc
  have hx := execAll_snoc hrc h
  subst e
  refine ⟨gd, sz, k, rfl, by simpa using wm, fun x hx => ?_, ⟨rs ++ [r], ?_⟩⟩
  · rcases List.mem_append.mp hx with y | y
    · exact I.dr x y
    · rw [List.mem_singleton.mp y]
      exact d
  · show execAll st _ ((ls.past ++ [(op, ls.f, ls.sh)]).map Prod.fst) = _
    rw [List.map_append]
    exact hx
/-- undone, and done again -/
theorem In.back {st : Sto} {l0 : Lay} (ok : st.Ok) {n : Nat} {ls ls' : LS} {op : Op} {r : Res} (I : LS.In st l0 n ls) (d : op.Dr) (h : execM st ls op = some (ls', r)) :
    ∃ lb : LS, ls'.goBack = some lb ∧ lb.f = ls.f ∧ lb.sh = ls.sh ∧ lb.past = ls.past ∧ lb.undone.length ≤ 1 ∧ lb.goAgain = some ls' := by
  obtain ⟨f, sh, e, _⟩ := execM_form ok I.ky I.wm d h
  subst e
  refine ⟨⟨ls.f, ls.sh, ls.past, [(op, f, sh)]⟩, ?_, rfl, rfl, rfl, Nat.le_refl _, ?_⟩
  · simp [LS.goBack, LS.goOn]
  · simp [LS.goAgain, LS.goOn]
/-! ### the facts as data -/
def factsD (ls : LS) : List PyData := [.tuple (ls.f.1.map layD), .int ls.f.2.1, .list (ls.f.2.2.map .int), .list ((keptL ls).map .str), .list ((ls.past.map Prod.fst).map fun op => .tuple op.ds)]
theorem FactsT.dpA {K : PySem.W.Frag} {H : Hp} {p : Addr} {ls : LS} (h : FactsT H p ls) : ∃ xs, tupO (H p) = some xs ∧ DpAll K H xs (factsD ls) := by
  obtain ⟨la, dl, kl, hl, l, h1, h2, h3, h4, h5, h6, h7⟩ := h
  refine ⟨_, h1, .cons (Dp.lay h2.at) (.cons (.int _) (.cons (.lst (.of h3) (dpAll_map fun x _ => .int x)) (.cons (.lst (.of h4) (dpAll_map fun x _ => .str x)) (.cons (.lst (.of h5) ?_) .nil))))⟩
  rw [← h6, List.map_map]
  exact dpAll_map fun q hq => .tup (.of (h7 q hq)) q.2.dp
theorem FactsT.dp {K : PySem.W.Frag} {H : Hp} {p : Addr} {ls : LS} (h : FactsT H p ls) : Dp K H (.ref p) (.tuple (factsD ls)) := by
  obtain ⟨xs, h1, h2⟩ := h.dpA (K := K)
  exact .tup (sqT_of h1) h2
theorem layN_of {st : Sto} {l : Lay} (h : IsLay st l) : LayN l := fun z hz => by
  have : z ∈ l.filterMap id := mem_fm.mpr hz
  exact List.mem_of_mem_take (h.prm.subset this)
theorem factsD_ok {st : Sto} {l0 : Lay} {n : Nat} {ls : LS} (g : IsLay st ls.f.1) (dr : ∀ e, e ∈ ls.past → e.1.Dr) : ∀ d, d ∈ factsD ls → dOk 3 d := fun d hd => by
  simp only [factsD, List.mem_cons, List.mem_nil_iff, or_false] at hd
  rcases hd with rfl | rfl | rfl | rfl | rfl
  · exact (layN_of g).dOk.mono (by decide)
  · exact dOk.int
  · exact (dOk.lst (n := 0) fun d hd => by obtain ⟨x, _, rfl⟩ := List.mem_map.mp hd; exact dOk.int).mono (by decide)
  · exact (dOk.lst (n := 0) fun d hd => by
      obtain ⟨x, hx, rfl⟩ := List.mem_map.mp hd
      exact dOk.str (names2_ok (List.mem_filter.mp hx).1).1).mono (by decide)
  · exact (dOk.lst (n := 1) fun d hd => by
      obtain ⟨x, hx, rfl⟩ := List.mem_map.mp hd
      obtain ⟨e, he, rfl⟩ := List.mem_map.mp hx
      exact (dr e he).dOk).mono (by decide)
/-- a put is a step -/
theorem put_step {st : Sto} {l : Lay} {z : Str} {i : Int} (il : IsLay st l) (h : putOk st l z i = true) : ∃ e : StE, e ∈ stepsL st l ∧ e.2.2.1 = wsum st (eAt st (ixOf l z)) (eAt st i) ∧ e.2.2.2 = exL l (ixOf l z) i.toNat := by
  simp only [putOk, Bool.and_eq_true, decide_eq_true_eq] at h
  obtain ⟨⟨h1, h2⟩, h3⟩ := h
  have hi : (i.toNat : Int) = i := by
    unfold inB at h2
    simp at h2
    omega
  have ho := ixOf_ok (il.has h1)
  refine ⟨(z, i.toNat, wsum st (eAt st (ixOf l z)) (eAt st i), exL l (ixOf l z) i.toNat), ?_, rfl, rfl⟩
  refine List.mem_flatMap.mpr ⟨(some z, ixOf l z), List.mk_mem_zipIdx_iff_getElem?.mpr ho.1, ?_⟩
  show _ ∈ l.zipIdx.filterMap (stepOne st l z (ixOf l z))
  refine List.mem_filterMap.mpr ⟨(none, i.toNat), List.mk_mem_zipIdx_iff_getElem?.mpr h3, ?_⟩
  simp only [stepOne, if_true]
  rw [hi]
end CC
set_option maxHeartbeats 4000000
/-! D33: what is told of an operation, as a text. -/
namespace CC
open PySem PySem.Spec PyProof.Rows L2
def resD : Res → PyData
  | .lay l => .tuple (l.map layD)
  | .int i => .int i
  | .bl b => .bool b
def resT (r : Res) : Str := (PyData.list [resD r]).shown
def Res.Nice : Res → Prop
  | .lay l => LayN l ∧ l.length ≤ 1000
  | .int i => 0 ≤ i ∧ i ≤ 100000
  | .bl _ => True
theorem Res.dp {K : PySem.W.Frag} {H : Hp} {x : V} {r : Res} (h : ResAt H x r) : Dp K H x (resD r) := by
  cases r with
  | lay l =>
    obtain ⟨p, rfl, h⟩ := h
    exact Dp.lay h
  | int i => cases h; exact .int i
  | bl b => cases h; exact .bl b
theorem log_small {i : Int} (h0 : 0 ≤ i) (h : i ≤ 100000) : i.natAbs.log2 < 1920 := by
  have : i.natAbs < 2 ^ 1920 := Nat.lt_of_le_of_lt (show i.natAbs ≤ 100000 by omega) (by decide +kernel)
  by_cases z : i.natAbs = 0
  · rw [z]; decide
  · exact (Nat.log2_lt z).mpr this
theorem showAll_lay : ∀ l : Lay, PyData.showableAll (l.map layD) = true
  | [] => by simp [PyData.showableAll]
  | none :: r => by simp [PyData.showableAll, PyData.showable, layD, showAll_lay r]
  | some z :: r => by simp [PyData.showableAll, PyData.showable, layD, showAll_lay r]
theorem dictAll_lay : ∀ l : Lay, PyData.hasDictAll (l.map layD) = false
  | [] => by simp [PyData.hasDictAll]
  | none :: r => by simp [PyData.hasDictAll, PyData.hasDict, layD, dictAll_lay r]
  | some z :: r => by simp [PyData.hasDictAll, PyData.hasDict, layD, dictAll_lay r]
theorem depthAll_lay : ∀ l : Lay, PyData.depthAll (l.map layD) = 0
  | [] => by simp [PyData.depthAll]
  | none :: r => by simp [PyData.depthAll, PyData.depth, layD, depthAll_lay r]
  | some z :: r => by simp [PyData.depthAll, PyData.depth, layD, depthAll_lay r]
theorem shown_len {o : Option Str} (h : ∀ z, o = some z → z ∈ names3) : (layD o).shown.length ≤ 10 := by
  cases o with
  | none => simp only [layD, PyData.shown]; decide +kernel
  | some z =>
    have := h z rfl
    simp [names3] at this
    rcases this with rfl | rfl | rfl <;> simp only [layD, PyData.shown] <;> decide +kernel
theorem piled_lay : ∀ l : Lay, LayN l → piled (PyData.shownAll (l.map layD)) ≤ 12 * l.length
  | [], _ => by simp [PyData.shownAll, piled]
  | a :: r, h => by
    have h1 := shown_len (o := a) fun z e => h z (by rw [e]; exact List.mem_cons_self)
    have h2 := piled_lay r fun z hz => h z (List.mem_cons_of_mem _ hz)
    simp only [List.map_cons, PyData.shownAll, piled_cons, List.length_cons]
    omega
theorem listText1 (t : Str) : listText [t] = ("[" : Str) ++ ("" : Str) ++ t ++ ("]" : Str) := rfl
theorem resT_eq (r : Res) : resT r = ("[" : Str) ++ ("" : Str) ++ (resD r).shown ++ ("]" : Str) := by
  unfold resT
  simp only [PyData.shown, PyData.shownAll]
  exact listText1 _
theorem resD_len {r : Res} (h : r.Nice) : (resD r).shown.length ≤ 12100 := by
  cases r with
  | lay l =>
    simp only [resD, PyData.shown]
    have h1 := fmt_text (PyData.shownAll (l.map layD))
    have h2 := piled_lay l h.1
    have := h.2
    omega
  | int i =>
    simp only [resD, PyData.shown]
    have := int_text_len_1921 (log_small h.1 h.2)
    exact Nat.le_trans this (by decide)
  | bl b => cases b <;> simp only [resD, PyData.shown] <;> decide +kernel
theorem resT_ok {r : Res} (h : r.Nice) : (PyData.list [resD r]).showable = true ∧ (PyData.list [resD r]).hasDict = false ∧ (PyData.list [resD r]).depth ≤ 16 ∧ (PyData.list [resD r]).shown.length ≤ sizeLine := by
  refine ⟨?_, ?_, ?_, ?_⟩
  · cases r with
    | lay l => simp [PyData.showable, PyData.showableAll, resD, showAll_lay]
    | int i => simp [PyData.showable, PyData.showableAll, resD, log_small h.1 h.2]
    | bl b => simp [PyData.showable, PyData.showableAll, resD]
  · cases r with
    | lay l => simp [PyData.hasDict, PyData.hasDictAll, resD, dictAll_lay]
    | int i => simp [PyData.hasDict, PyData.hasDictAll, resD]
    | bl b => simp [PyData.hasDict, PyData.hasDictAll, resD]
  · cases r with
    | lay l => simp [PyData.depth, PyData.depthAll, resD, depthAll_lay]
    | int i => simp [PyData.depth, PyData.depthAll, resD]
    | bl b => simp [PyData.depth, PyData.depthAll, resD]
  · have := resT_eq r
    unfold resT at this
    rw [this]
    simp only [strLen_append]
    have h1 := resD_len h
    have e1 : ("[" : Str).length = 1 := by decide +kernel
    have e2 : ("]" : Str).length = 1 := by decide +kernel
    have e3 : ("" : Str).length = 0 := by decide +kernel
    rw [e1, e2, e3, sizeLine_eq]
    omega
theorem resT_bad (r : Res) : resT r ≠ ("bad" : Str) := fun z => by
  rw [resT_eq] at z
  have z := congrArg (fun x : Str => x.cps.toList.getLast?) z
  have e : (("[" : Str) ++ ("" : Str) ++ (resD r).shown ++ ("]" : Str)).cps.toList = (("[" : Str) ++ ("" : Str) ++ (resD r).shown).cps.toList ++ [93] := by
    show ((("[" : Str) ++ ("" : Str) ++ (resD r).shown).cps ++ ("]" : Str).cps).toList = _
    rw [Array.toList_append]
    rfl
  simp only [e, List.getLast?_append, List.getLast?_singleton, Option.some_or] at z
  revert z
  decide +kernel
theorem resT_bool (b : Bool) : resT (.bl b) = ("[" : Str) ++ (if b then ("True" : Str) else ("False" : Str)) ++ ("]" : Str) := by
  cases b <;> rw [resT_eq] <;> simp only [resD, PyData.shown] <;> decide +kernel
theorem seenL_mem {st : Sto} {l : Lay} {d : Int} : ∀ x, x ∈ seenL st l d → x ∈ l := fun x hx => by
  obtain ⟨q, hq, e⟩ := List.mem_filterMap.mp hx
  split at e
  · cases e
    exact (List.of_mem_zip hq).1
  · cases e
theorem seenL_len {st : Sto} {l : Lay} {d : Int} : (seenL st l d).length ≤ l.length := by
  refine Nat.le_trans (List.length_filterMap_le _ _) ?_
  rw [List.length_zip]
  exact Nat.min_le_left _ _
theorem execM_nice {st : Sto} {l0 : Lay} {n : Nat} {ls ls' : LS} {op : Op} {r : Res} (ok : st.Ok) (I : LS.In st l0 n ls) (hn : n < 500) (h : execM st ls op = some (ls', r)) : r.Nice := by
  have hl : ls.f.1.length ≤ 1000 := by
    have h1 := I.good.il.len
    have h2 := ok.len
    have h3 := ok.d.ps
    omega
  have w0 := I.wm.f0
  have w1 := I.wm.f1
  cases op with
  | look k =>
    simp only [execM] at h
    split at h
    · cases h
      exact ⟨fun z hz => layN_of I.good.il z (seenL_mem _ hz), Nat.le_trans seenL_len hl⟩
    · cases h
  | put z i =>
    simp only [execM] at h
    split at h
    · rename_i hp
      cases h
      simp only [putOk, Bool.and_eq_true, decide_eq_true_eq] at hp
      have := (ixOf_ok (I.good.il.has hp.1.1)).2.2
      exact ⟨by omega, by omega⟩
    · cases h
  | exch a b =>
    simp only [execM] at h
    split at h
    · cases h; trivial
    · cases h
  | shut =>
    cases h
    exact ⟨w0, by omega⟩
  | keep x =>
    cases h
    trivial
  | fetch x =>
    simp only [execM] at h
    split at h
    · rename_i f hf
      cases h
      obtain ⟨q, h1, h2⟩ := lookup_memS hf
      have g := I.good.sh q h1
      rw [h2] at g
      refine ⟨layN_of g, ?_⟩
      have h2 := ok.len
      have h3 := ok.d.ps
      have := g.len
      omega
    · cases h
end CC
set_option maxHeartbeats 4000000
/-! D34: _law_told. -/
namespace CC
open PySem PySem.Spec PyProof.Rows L2
local macro_rules | `(tactic| walk_at "rd") => `(tactic| simp only [tVar, tC, tOp, tUn, rI0, rI, rU, rEq, rNe, tTest, tB, tAnd, tOr, tNot, tAndV, tOrV, tNotV, tIf, tChain, tIfS, tRet, tRetN, tSeq, tNext, tAsg, gName, tDrop, tCons, tNil, tCB, tCR, tTup, tLst, rIsF, tyN_non, tyN_bl, tyN_int, tyN_str, tyN_ref, isB_1, isB_2, isB_3, isB_4, isB_5, isB_6, isB_7, isB_8, tyO_tup, tyO_lst, tyO_dK, tyO_frz, rIxG, rLenG, rInG, rAllG, rSumG, rListG, rTupG, tLcF, tLcP, tForF, tForP, srcTup, srcLst, srcStr, srcRng, srcEnum, srcZip, srcEnumT, tYes, wipe, gTupG, gCons, gNil, tStarG, tSl, rSlTG, rSlLG, rCatTG, rRep, tJoinG, rSortedSG, tApp, tExd, tupO_tup, lstO_lst, seqO_tup, seqO_lst, dKO_dK, tNoPart, tPart, tFl, sFl, tSls, sSls, tMeS, tPrS, tPrF, tMethR, tMake, sFlAug, rLenS, L2.start, List.map_cons, List.map_nil, List.length_cons, List.length_nil, Nat.zero_add, Nat.reduceAdd, Nat.reduceSub, List.replicate_succ, List.replicate_zero, List.forall_mem_map, List.cons_append, List.nil_append, List.getElem?_cons_succ, List.getElem?_cons_zero, List.set_cons_zero, List.set_cons_succ, Option.some.injEq, V.int.injEq, V.str.injEq, V.bl.injEq, V.ref.injEq, V.ty.injEq, List.cons.injEq, HO.tup.injEq, HO.lst.injEq, HO.ins.injEq, reduceCtorEq, exists_eq_left', exists_eq_left, exists_eq_right', exists_eq_right, exists_and_left, exists_and_right, and_true, true_and, and_false, false_and, or_false, false_or, or_true, true_or, exists_const, exists_eq', exists_eq, scal_ii, scal_ss, scal_bb, scal_nn, scal_ns, scal_sn, rStrD, upd_same, if_true, if_false, ite_true, ite_false, Bool.not_true, Bool.not_false, Bool.true_and, Bool.and_true, Bool.false_eq_true, decide_true, decide_false, sz1, atI_0, atI_1, and_assoc])
local macro_rules | `(tactic| walk_at "rh") => `(tactic| simp only [*, tVar, tC, tOp, tUn, rI0, rI, rU, rEq, rNe, tTest, tB, tAnd, tOr, tNot, tAndV, tOrV, tNotV, tIf, tChain, tIfS, tRet, tRetN, tSeq, tNext, tAsg, gName, tDrop, tCons, tNil, tCB, tCR, tTup, tLst, rIsF, tyN_non, tyN_bl, tyN_int, tyN_str, tyN_ref, isB_1, isB_2, isB_3, isB_4, isB_5, isB_6, isB_7, isB_8, tyO_tup, tyO_lst, tyO_dK, tyO_frz, rIxG, rLenG, rInG, rAllG, rSumG, rListG, rTupG, tLcF, tLcP, tForF, tForP, srcTup, srcLst, srcStr, srcRng, srcEnum, srcZip, srcEnumT, tYes, wipe, gTupG, gCons, gNil, tStarG, tSl, rSlTG, rSlLG, rCatTG, rRep, tJoinG, rSortedSG, tApp, tExd, tupO_tup, lstO_lst, seqO_tup, seqO_lst, dKO_dK, tNoPart, tPart, tFl, sFl, tSls, sSls, tMeS, tPrS, tPrF, tMethR, tMake, sFlAug, rLenS, L2.start, List.map_cons, List.map_nil, List.length_cons, List.length_nil, Nat.zero_add, Nat.reduceAdd, Nat.reduceSub, List.replicate_succ, List.replicate_zero, List.forall_mem_map, List.cons_append, List.nil_append, List.getElem?_cons_succ, List.getElem?_cons_zero, List.set_cons_zero, List.set_cons_succ, Option.some.injEq, V.int.injEq, V.str.injEq, V.bl.injEq, V.ref.injEq, V.ty.injEq, List.cons.injEq, HO.tup.injEq, HO.lst.injEq, HO.ins.injEq, reduceCtorEq, exists_eq_left', exists_eq_left, exists_eq_right', exists_eq_right, exists_and_left, exists_and_right, and_true, true_and, and_false, false_and, or_false, false_or, or_true, true_or, exists_const, exists_eq', exists_eq, scal_ii, scal_ss, scal_bb, scal_nn, scal_ns, scal_sn, rStrD, upd_same, if_true, if_false, ite_true, ite_false, Bool.not_true, Bool.not_false, Bool.true_and, Bool.and_true, Bool.false_eq_true, decide_true, decide_false, sz1, atI_0, atI_1, and_assoc])
theorem xm_bad {K : PySem.W.Frag} {mg : Str → Option Value} {w : World} (T : Txt K mg w) {c : Str} (h : isBad c) : PySem.W.exmOne K (.ref (gA K c)) (.ref (gA K "StoreError")) = some true := by
  rcases h with rfl | rfl | rfl | rfl | rfl
  · exact T.xm_UnknownCrate
  · exact T.xm_UnknownPlace
  · exact T.xm_TakenPlace
  · exact T.xm_UnknownDoor
  · exact T.xm_UnknownKept
theorem LS.Sz.mono1 {n : Nat} {ls : LS} (h : ls.Sz (1000 - n)) (hn : n < 500) : ls.Sz 1 := ⟨by have := h.p; omega, by have := h.d; omega, by have := h.s; omega, fun q hq => by have := h.sd q hq; omega⟩
section
variable {P : Program} {w : World} {K : PySem.W.Frag} {mg : Str → Option Value} {base : Heap}
def spTold (K : PySem.W.Frag) : Sp := fun vs H Q _ => ∃ (v s sa oa : Addr) (st : Sto) (l0 : Lay) (n : Nat) (ls : LS) (op : Op), vs = [.ref v, .ref oa] ∧ LiveOn K H v s sa st ls ∧ LS.In st l0 n ls ∧ n < 500 ∧ OpAt H oa op ∧ op.Dr ∧
  (∀ ls' r, execM st ls op = some (ls', r) → ∀ H', Kp s H H' → LSAt K H' s ls' → Q (.str (resT r)) H') ∧ (execM st ls op = none → ∀ H', Kp s H H' → LSAt K H' s ls → Q (.str "bad") H')
theorem ok_law_told (T : Txt K mg w) : FnG P w K mg base 11 (gA K "_law_told") (spTold K) := by
  have F_Live_apply_all := ok_Live_apply_all (P := P) (base := base) T
  refine mkG (k := 10) T.d_law_told sc_law_told (fun _ _ _ _ _ _ us hl => match us, hl with | [_, _], _ => rfl) (fun vs H Q E h => ?_) (fun cdv A outer s0 H vs Q E hr hgd h => ?_)
  · obtain ⟨v, s, sa, oa, st, l0, n, ls, op, rfl, _⟩ := h
    rfl
  · obtain ⟨v, s, sa, oa, sto, l0, n, ls, op, rfl, L, I, hn, ho, hd, q1, q2⟩ := h
    obtain ⟨dx, hv⟩ := L.live
    have hu32 : (cxOf CX0 P w K mg base n_law_told "_law_told" (defScope s_law_told) (gA K "_law_told") cdv A outer s0 H E).nox.A.units + 32 < cLine := Nat.lt_of_le_of_lt (Nat.add_le_add_left (by decide : 32 ≤ 64) _) hr.units
    refine ⟨_, (pss_one (ps_try_only rfl rfl ⟨rfl, by decide, .inl T.g_StoreError.1⟩ LamX.takes0
      (fun W pn xe tk _ => pss_one (ps_ret (pe_callTy (T := "str") (by exact call_strK K hgd hu32 rfl) rfl T.b_str (by decide +kernel) (pa_cons (pe_meF T.cls_Live T.me_Live_apply_all F_Live_apply_all.raw hr (E := fun c d H => ∀ σ, W c d σ H) (passes_call tk fun _ _ σ _ h => h σ) (pv 0) (pa_cons (pe_lst (pa_cons (pv 1) pa_nil)) pa_nil)) pa_nil))))
      (fun a oe cls d pn _ _ => pss_one (ps_ret pe_str)))), ?_⟩
    walk_at "rh"
    refine ⟨rfl, by decide, fun p hp => ?_⟩
    have e1 := Ext.new (o := .lst [V.ref oa]) hp
    refine ⟨v, s, sa, p, sto, ls, [(oa, op)], rfl, L.ext e1, upd_same, fun q hq => ?_, I.sz.mono1 hn, I.good, fun ls' rs hex p2 H2 xs k l2 hp2 hm hres _ => ?_, fun hx c H2 hb k l2 σ => ⟨true, xm_bad T hb, fun _ a ha => q2 ?_ H2 (fun b u n e => k b u n (e1 _ _ e)) l2, fun z => nomatch z⟩⟩
    · rw [List.mem_singleton.mp hq]
      exact ⟨OpAt.mono e1.tup ho, hd.ok⟩
    · simp only [List.map_cons, List.map_nil, execAll] at hex
      cases ex : execM sto ls op with
      | none => rw [ex] at hex; cases hex
      | some z =>
        obtain ⟨la, r⟩ := z
        rw [ex] at hex
        cases hex
        match xs, hm with
        | [(x, r')], hm =>
          have hr2 : r' = r := by simpa using hm
          subst hr2
          have nice := execM_nice L.ok I hn ex
          obtain ⟨o1, o2, o3, o4⟩ := resT_ok nice
          rw [sizeLine_eq] at o4
          exact ⟨p2, rfl, _, .lst (.of hp2) (.cons (Res.dp (hres _ List.mem_cons_self)) .nil), o1, o2, o3, o4, q1 _ _ ex H2 (fun b u n e => k b u n (e1 _ _ e)) l2⟩
    · simp only [List.map_cons, List.map_nil, execAll] at hx
      cases ex : execM sto ls op with
      | none => rfl
      | some z =>
        rw [ex] at hx
        cases hx
end
end CC
set_option maxHeartbeats 4000000
/-! D35: _law_is_right. -/
namespace CC
open PySem PySem.Spec PyProof.Rows L2
local macro_rules | `(tactic| walk_at "rd") => `(tactic| simp only [tVar, tC, tOp, tUn, rI0, rI, rU, rEq, rNe, tTest, tB, tAnd, tOr, tNot, tAndV, tOrV, tNotV, tIf, tChain, tIfS, tRet, tRetN, tSeq, tNext, tAsg, gName, tDrop, tCons, tNil, tCB, tCR, tTup, tLst, rIsF, tyN_non, tyN_bl, tyN_int, tyN_str, tyN_ref, isB_1, isB_2, isB_3, isB_4, isB_5, isB_6, isB_7, isB_8, tyO_tup, tyO_lst, tyO_dK, tyO_frz, rIxG, rLenG, rInG, rAllG, rSumG, rListG, rTupG, tLcF, tLcP, tForF, tForP, srcTup, srcLst, srcStr, srcRng, srcEnum, srcZip, srcEnumT, tYes, wipe, gTupG, gCons, gNil, tStarG, tSl, rSlTG, rSlLG, rCatTG, rRep, tJoinG, rSortedSG, tApp, tExd, tupO_tup, lstO_lst, seqO_tup, seqO_lst, dKO_dK, tNoPart, tPart, tFl, sFl, tSls, sSls, tMeS, tPrS, tPrF, tMethR, tMake, sFlAug, rLenS, L2.start, List.map_cons, List.map_nil, List.length_cons, List.length_nil, Nat.zero_add, Nat.reduceAdd, Nat.reduceSub, List.replicate_succ, List.replicate_zero, List.forall_mem_map, List.cons_append, List.nil_append, List.getElem?_cons_succ, List.getElem?_cons_zero, List.set_cons_zero, List.set_cons_succ, Option.some.injEq, V.int.injEq, V.str.injEq, V.bl.injEq, V.ref.injEq, V.ty.injEq, List.cons.injEq, HO.tup.injEq, HO.lst.injEq, HO.ins.injEq, reduceCtorEq, exists_eq_left', exists_eq_left, exists_eq_right', exists_eq_right, exists_and_left, exists_and_right, and_true, true_and, and_false, false_and, or_false, false_or, or_true, true_or, exists_const, exists_eq', exists_eq, scal_ii, scal_ss, scal_bb, scal_nn, scal_ns, scal_sn, tPar, tTix, rStrB, upd_same, if_true, if_false, ite_true, ite_false, Bool.not_true, Bool.not_false, Bool.true_and, Bool.and_true, Bool.false_eq_true, decide_true, decide_false, sz1, atI_0, atI_1, and_assoc])
local macro_rules | `(tactic| walk_at "rh") => `(tactic| simp only [*, tVar, tC, tOp, tUn, rI0, rI, rU, rEq, rNe, tTest, tB, tAnd, tOr, tNot, tAndV, tOrV, tNotV, tIf, tChain, tIfS, tRet, tRetN, tSeq, tNext, tAsg, gName, tDrop, tCons, tNil, tCB, tCR, tTup, tLst, rIsF, tyN_non, tyN_bl, tyN_int, tyN_str, tyN_ref, isB_1, isB_2, isB_3, isB_4, isB_5, isB_6, isB_7, isB_8, tyO_tup, tyO_lst, tyO_dK, tyO_frz, rIxG, rLenG, rInG, rAllG, rSumG, rListG, rTupG, tLcF, tLcP, tForF, tForP, srcTup, srcLst, srcStr, srcRng, srcEnum, srcZip, srcEnumT, tYes, wipe, gTupG, gCons, gNil, tStarG, tSl, rSlTG, rSlLG, rCatTG, rRep, tJoinG, rSortedSG, tApp, tExd, tupO_tup, lstO_lst, seqO_tup, seqO_lst, dKO_dK, tNoPart, tPart, tFl, sFl, tSls, sSls, tMeS, tPrS, tPrF, tMethR, tMake, sFlAug, rLenS, L2.start, List.map_cons, List.map_nil, List.length_cons, List.length_nil, Nat.zero_add, Nat.reduceAdd, Nat.reduceSub, List.replicate_succ, List.replicate_zero, List.forall_mem_map, List.cons_append, List.nil_append, List.getElem?_cons_succ, List.getElem?_cons_zero, List.set_cons_zero, List.set_cons_succ, Option.some.injEq, V.int.injEq, V.str.injEq, V.bl.injEq, V.ref.injEq, V.ty.injEq, List.cons.injEq, HO.tup.injEq, HO.lst.injEq, HO.ins.injEq, reduceCtorEq, exists_eq_left', exists_eq_left, exists_eq_right', exists_eq_right, exists_and_left, exists_and_right, and_true, true_and, and_false, false_and, or_false, false_or, or_true, true_or, exists_const, exists_eq', exists_eq, scal_ii, scal_ss, scal_bb, scal_nn, scal_ns, scal_sn, tPar, tTix, rStrB, upd_same, if_true, if_false, ite_true, ite_false, Bool.not_true, Bool.not_false, Bool.true_and, Bool.and_true, Bool.false_eq_true, decide_true, decide_false, sz1, atI_0, atI_1, and_assoc])
theorem uniq_ix {z : Str} : ∀ {l : Lay} {m j : Nat}, (l.filterMap id).Nodup → l[m]? = some (some z) → l[j]? = some (some z) → m = j
  | [], _, _, _, h, _ => by simp at h
  | a :: r, 0, 0, _, _, _ => rfl
  | a :: r, 0, j + 1, nd, h1, h2 => by
    simp at h1 h2
    subst h1
    have : z ∈ r.filterMap id := mem_fm.mpr (List.mem_of_getElem? h2)
    simp only [List.filterMap_cons, id, List.nodup_cons] at nd
    exact absurd this nd.1
  | a :: r, m + 1, 0, nd, h1, h2 => by
    simp at h1 h2
    subst h2
    have : z ∈ r.filterMap id := mem_fm.mpr (List.mem_of_getElem? h1)
    simp only [List.filterMap_cons, id, List.nodup_cons] at nd
    exact absurd this nd.1
  | a :: r, m + 1, j + 1, nd, h1, h2 => by
    simp at h1 h2
    have nd2 : (r.filterMap id).Nodup := by
      cases a with
      | none => simpa using nd
      | some y =>
        simp only [List.filterMap_cons, id, List.nodup_cons] at nd
        exact nd.2
    rw [uniq_ix nd2 h1 h2]
theorem put_ix {st : Sto} {l : Lay} {z : Str} {i : Int} (ok : st.Ok) (il : IsLay st l) (h : putOk st l z i = true) : (exL l (ixOf l z) i.toNat)[i.toNat]? = some (some z) ∧ (∀ m, m < i.toNat → (exL l (ixOf l z) i.toNat)[m]? ≠ some (some z)) ∧ ((i.toNat : Nat) : Int) = i := by
  simp only [putOk, Bool.and_eq_true, decide_eq_true_eq] at h
  obtain ⟨⟨h1, h2⟩, h3⟩ := h
  have ho := ixOf_ok (il.has h1)
  have hi := (List.getElem?_eq_some_iff.mp h3).1
  have h4 : (exL l (ixOf l z) i.toNat)[i.toNat]? = some (some z) := by
    unfold exL
    rw [List.getElem?_set_self (by simpa using hi)]
    rw [getD_eq ho.1]
  have il2 := il.ex ho.2.2 hi
  refine ⟨h4, fun m hm e => ?_, ?_⟩
  · have nd : ((exL l (ixOf l z) i.toNat).filterMap id).Nodup := il2.prm.nodup_iff.mpr (cs_nodup ok)
    have := uniq_ix nd e h4
    omega
  · unfold inB at h2
    simp at h2
    omega
theorem ne_same {K : PySem.W.Frag} {H : Hp} {x y : V} {d : PyData} {n : Nat} {Q : VK} (h1 : Dp K H x d) (h2 : Dp K H y d) (ok : dOk n d) (q : Q (.bl false) H) (hn : n ≤ 64 := by decide) : rNeD K x y H Q := ⟨d, d, h1, h2, ok.shaped hn, ok.shaped hn, by rw [eqv_self d ok.1]; exact q⟩
section
variable {P : Program} {w : World} {K : PySem.W.Frag} {mg : Str → Option Value} {base : Heap}
def spIsRight (K : PySem.W.Frag) : Sp := fun vs H Q _ => ∃ (a v s sa oa tw ta ba : Addr) (st : Sto) (ls ls' : LS) (op : Op) (t : Str) (tr : List V), vs = [.ref a, .ref v, .ref oa, .ref tw] ∧ StoAt K H a st ∧ LiveOn K H v s sa st ls' ∧ OpAt H oa op ∧ op.Dr ∧ H tw = some (.tup [.ref ta, .ref ba]) ∧ H ta = some (.lst (.str t :: tr)) ∧ FactsT H ba ls ∧ ls.Good st ∧
  ((t = "bad" ∧ ls' = ls) ∨ ∃ r, execM st ls op = some (ls', r) ∧ t = resT r) ∧ ∀ H', Ext H H' → Q (.bl true) H'
theorem ok_law_is_right (T : Txt K mg w) : OkF P w K mg base CX0 73 (gA K "_law_is_right") ["_law_store_here", "_law_live", "_law_operation", "_law_two"] (spIsRight K) := by
  have F_Live_layout_now := ok_Live_layout_now (P := P) (base := base) T
  have F_Live_warmth_now := ok_Live_warmth_now (P := P) (base := base) T
  have F_least_steps := ok_least_steps (P := P) (base := base) T
  have F_is_sorted := ok_is_sorted (P := P) (base := base) T
  refine mk0 (k := 72) T.d_law_is_right sc_law_is_right (fun _ _ _ _ _ _ us hl => match us, hl with | [_, _, _, _], _ => rfl) (fun vs H Q E h => ?_) (fun cdv A outer s0 H vs Q E hr h => ?_)
  · obtain ⟨a, v, s, sa, oa, tw, ta, ba, st, ls, ls', op, t, tr, rfl, _⟩ := h
    rfl
  · obtain ⟨a, v, s, sa, oa, tw, ta, ba, sto, ls, ls', op, t, tr, rfl, hst, L, ho, hd, htw, hta, hba, gd, hx, q⟩ := h
    obtain ⟨dx, hv⟩ := L.live
    refine ⟨_, (pss_cons (ps_asg (pv 3) (pg_tupG (n := 2) rfl (pgs_cons (pg_name (i := 4) sc_law_is_right.nd rfl (.inl rfl)) (pgs_cons (pg_name (i := 5) sc_law_is_right.nd rfl (.inl rfl)) pgs_nil))))
    (pss_cons (CC.st (i := 6) sc_law_is_right.nd (pe_lst (pa_cons (pv 1) pa_nil)))
    (pss_cons (ps_if (PW.pt (pw_and (pt_cmpR op_ne (pe_ix ix_G (pv 4) pe_int (fun _ _ => rfl)) pe_str (nomark _)) (pw_and1 (pt_cmpR op_eq (pe_ix ix_G (pv 2) pe_int (fun _ _ => rfl)) pe_str (nomark _))))) (pss_cons (ps_par (by rfl) sc_law_is_right.nd (i := 7) (j := 8) rfl rfl (by decide) rfl rfl (pa_cons (pe_prF T.cls_Live T.pr_Live_layout_now F_Live_layout_now.raw hr pass0 (pe_ix ix_G (pv 6) pe_int (fun _ _ => rfl))) (pa_cons (pe_op op_sub (pe_prF T.cls_Live T.pr_Live_warmth_now F_Live_warmth_now.raw hr pass0 (pe_ix ix_G (pv 6) pe_int (fun _ _ => rfl))) (pe_ix ix_G (pv 5) pe_int (fun _ _ => rfl))) pa_nil)) (by rfl))
    (pss_cons (ps_asg (pe_cR F_least_steps.raw hr T.g_least_steps pass0 (pa_cons (pv 0) (pa_cons (pe_ix ix_G (pv 5) pe_int (fun _ _ => rfl)) (pa_cons (pv 7) pa_nil)))) (pg_tupG (n := 2) rfl (pgs_cons (pg_name (i := 9) sc_law_is_right.nd rfl (.inl rfl)) (pgs_cons (pg_name (i := 10) sc_law_is_right.nd rfl (.inl rfl)) pgs_nil))))
    (pss_one (ps_if (PW.pt (pw_or (pt_cmpR op_lt (pv 8) (pv 9) (nomark _)) (pw_or (pt_cmpR op_ne (pe_tix (pv 7) (pe_ix ix_G (pv 2) pe_int (fun _ _ => rfl))) (pe_ix ix_G (pv 2) pe_int (fun _ _ => rfl)) (nomark _)) (pw_or1 (pt_cmpR op_lt (pe_callB call_lenG rfl T.b_len PySem.boot_len (pa_cons (pv 10) pa_nil)) pe_int (nomark _)))))) (pss_one (ps_ret pe_bl)) pss_nil)))) pss_nil)
    (pss_cons (ps_if (PW.pt (pw_and (pt_cmpR op_ne (pe_ix ix_G (pv 4) pe_int (fun _ _ => rfl)) pe_str (nomark _)) (pw_and1 (pt_cmpR op_eq (pe_ix ix_G (pv 2) pe_int (fun _ _ => rfl)) pe_str (nomark _))))) (pss_one (ps_if (pt_cmpR op_ne (pe_ix ix_G (pv 4) pe_int (fun _ _ => rfl)) (pe_op op_add_str (pe_op op_add_str pe_str (pe_callTy call_str_bool rfl T.b_str (by decide +kernel) (pa_cons (pe_cR F_is_sorted.raw hr T.g_is_sorted pass0 (pa_cons (pv 0) (pa_cons (pe_prF T.cls_Live T.pr_Live_layout_now F_Live_layout_now.raw hr pass0 (pe_ix ix_G (pv 6) pe_int (fun _ _ => rfl))) pa_nil))) pa_nil))) pe_str) (nomark _)) (pss_one (ps_ret pe_bl)) pss_nil)) pss_nil)
    (pss_cons (ps_if (PW.pt (pw_and (pt_cmpR op_ne (pe_ix ix_G (pv 4) pe_int (fun _ _ => rfl)) pe_str (nomark _)) (pw_and (pt_cmpR op_eq (pe_ix ix_G (pv 2) pe_int (fun _ _ => rfl)) pe_str (nomark _)) (pw_and1 (pt_cmpR (op_neD hr.units) (pe_prF T.cls_Live T.pr_Live_layout_now F_Live_layout_now.raw hr pass0 (pe_ix ix_G (pv 6) pe_int (fun _ _ => rfl))) (pe_ix ix_G (pv 5) pe_int (fun _ _ => rfl)) (nomark _)))))) (pss_one (ps_ret pe_bl)) pss_nil)
    (pss_one (ps_ret pe_bl))))))), ?_⟩
    walk_at "rh"
    refine ⟨by decide, fun p hp => ?_⟩
    have e := Ext.new (o := .lst [V.ref v]) hp
    have hG := upd_same (H := H) (a := p) (o := .lst [V.ref v])
    generalize upd H p (.lst [V.ref v]) = G at e hG
    have hO : ∀ {Hz : Hp}, Ext H Hz → seqO (Hz oa) = some op.vs := fun {Hz} z => by rw [z _ _ (show H oa = some (.tup op.vs) from ho)]; rfl
    have hT : ∀ {Hz : Hp}, Ext H Hz → seqO (Hz ta) = some (.str t :: tr) := fun {Hz} z => by rw [z _ _ hta]; rfl
    obtain ⟨la0, dl, kl, hl, l, b1, b2, b3⟩ := id hba
    rcases hx with ⟨rfl, rfl⟩ | ⟨r, hex, rfl⟩
    · refine ⟨_, hT e, _, atI_0, rfl, ?_⟩
      rw [if_neg (by simp)]
      refine ⟨_, hT e, _, atI_0, rfl, ?_⟩
      rw [if_neg (by simp)]
      refine ⟨_, hT e, _, atI_0, rfl, ?_⟩
      rw [if_neg (by simp)]
      exact q _ e
    have hb : (!decide (V.str (resT r) = V.str "bad")) = true := by simp [resT_bad r]
    have LG := L.ext e
    cases op with
    | put z i =>
      simp only [execM] at hex
      split at hex
      · rename_i hok
        cases hex
        obtain ⟨x1, x2, x3⟩ := put_ix L.ok gd.il hok
        obtain ⟨es, s1, s2, s3⟩ := put_step gd.il hok
        refine ⟨_, hT e, _, atI_0, rfl, ?_⟩
        rw [if_pos hb]
        refine ⟨_, hO e, _, atI_0, rfl, ?_⟩
        rw [if_pos (by simp)]
        have hm : ∀ wt : Int, wt ≤ es.2.2.1 → ¬ ((ls.putd sto z i).f.2.1 - ls.f.2.1 < wt) := fun wt h => by
          show ¬ (ls.f.2.1 + wsum sto (eAt sto (ixOf ls.f.1 z)) (eAt sto i) - ls.f.2.1 < wt)
          omega
        have hil : IsLay sto es.2.2.2 := by
          rw [s3]
          simp only [putOk, Bool.and_eq_true, decide_eq_true_eq] at hok
          exact gd.il.ex (ixOf_ok (gd.il.has hok.1.1)).2.2 (List.getElem?_eq_some_iff.mp hok.2).1
        refine ⟨⟨_, _, e _ _ hv⟩, v, s, sa, sto, _, rfl, LG, fun lb hlb => ⟨_, by rw [hG]; rfl, _, atI_0, v, rfl, ⟨_, _, e _ _ hv⟩, v, s, sa, sto, _, rfl, LG, ⟨_, seqO_of (e.tupO b1), _, atI_1, _, rfl, _, rfl, _, seqO_of (e.tupO b1), _, atI_0, a, la0, lb, sto, ls.f.1, es, rfl, hst.ext e, L.ok, LayX.at (TupX.mono b2 e.tup), gd.il, by rw [s3]; exact hlb.at, hil, s1, fun p3 H3 wt la3 xs e3 h3 h4 h5 h6 => ?_⟩⟩⟩
        have e13 := e.trans e3
        have hlb3 : LayX H3 lb (exL ls.f.1 (ixOf ls.f.1 z) i.toNat) := TupX.mono hlb e3.tup
        refine ⟨p3, rfl, _, by rw [h3]; rfl, rfl, _, _, rfl, _, _, rfl, rfl, wt, rfl, ?_⟩
        rw [if_neg (by simpa using hm wt h5)]
        refine ⟨lb, rfl, _, hlb3, _, hO e13, _, atI_1, z, rfl, hlb3, i.toNat, x1, x2, _, hO e13, .int i, rfl, rfl, ?_⟩
        rw [if_neg (by simp [x3])]
        refine ⟨la3, rfl, _, by rw [h4]; rfl, ?_⟩
        rw [if_neg (by have := List.length_pos_iff.mpr h6; simp; omega)]
        refine ⟨_, hT e13, _, atI_0, rfl, ?_⟩
        rw [if_pos hb]
        refine ⟨_, hO e13, _, atI_0, rfl, ?_⟩
        rw [if_neg (by decide)]
        refine ⟨_, hT e13, _, atI_0, rfl, ?_⟩
        rw [if_pos hb]
        refine ⟨_, hO e13, _, atI_0, rfl, ?_⟩
        rw [if_neg (by decide)]
        exact q _ e13
      · cases hex
    | exch x y =>
      simp only [execM] at hex
      split at hex
      · rename_i hok
        cases hex
        have hil : IsLay sto (exL ls.f.1 (ixOf ls.f.1 x) (ixOf ls.f.1 y)) := by
          simp only [exOk, Bool.and_eq_true, decide_eq_true_eq] at hok
          exact gd.il.ex (ixOf_ok (gd.il.has hok.1.1)).2.2 (ixOf_ok (gd.il.has hok.1.2)).2.2
        refine ⟨_, hT e, _, atI_0, rfl, ?_⟩
        rw [if_pos hb]
        refine ⟨_, hO e, _, atI_0, rfl, ?_⟩
        rw [if_neg (by decide)]
        refine ⟨_, hT e, _, atI_0, rfl, ?_⟩
        rw [if_pos hb]
        refine ⟨_, hO e, _, atI_0, rfl, ?_⟩
        rw [if_pos (by decide)]
        have ln : ∀ b : Bool, ("[" : Str).length + (if b = true then ("True" : Str) else "False").length ≤ 16777216 ∧ (("[" : Str) ++ if b = true then ("True" : Str) else "False").length + ("]" : Str).length ≤ 16777216 := fun b => by cases b <;> decide +kernel
        refine ⟨_, hT e, _, atI_0, ⟨_, _, e _ _ hv⟩, v, s, sa, sto, _, rfl, LG, fun lb hlb => ⟨a, lb, sto, _, rfl, hst.ext e, L.ok, hlb.at, hil, fun H3 e3 => ⟨_, rfl, (ln _).1, (ln _).2, rfl, ?_⟩⟩⟩
        have e13 := e.trans e3
        rw [if_neg (by
          rw [resT_bool]
          have : rightB sto (exL ls.f.1 (ixOf ls.f.1 x) (ixOf ls.f.1 y)) = decide (List.filterMap id (ls.exd sto x y).f.1 = sto.cs) := rfl
          rw [this]
          simp only [decide_true, Bool.not_true, Bool.false_eq_true, not_false_eq_true])]
        refine ⟨_, hT e13, _, atI_0, rfl, ?_⟩
        rw [if_pos hb]
        refine ⟨_, hO e13, _, atI_0, rfl, ?_⟩
        rw [if_neg (by decide)]
        exact q _ e13
      · cases hex
    | look k =>
      simp only [execM] at hex
      split at hex
      · rename_i hok
        cases hex
        refine ⟨_, hT e, _, atI_0, rfl, ?_⟩
        rw [if_pos hb]
        refine ⟨_, hO e, _, atI_0, rfl, ?_⟩
        rw [if_neg (by decide)]
        refine ⟨_, hT e, _, atI_0, rfl, ?_⟩
        rw [if_pos hb]
        refine ⟨_, hO e, _, atI_0, rfl, ?_⟩
        rw [if_neg (by decide)]
        refine ⟨_, hT e, _, atI_0, rfl, ?_⟩
        rw [if_pos hb]
        refine ⟨_, hO e, _, atI_0, rfl, ?_⟩
        rw [if_pos (by decide)]
        refine ⟨⟨_, _, e _ _ hv⟩, v, s, sa, sto, _, rfl, LG, fun la hla => ⟨_, seqO_of (e.tupO b1), _, atI_0, ne_same (Dp.lay hla.at) (Dp.lay (LayX.at (TupX.mono b2 e.tup))) (layN_of gd.il).dOk ⟨false, rfl, ?_⟩⟩⟩
        exact q _ e
      · cases hex
    | shut =>
      refine ⟨_, hT e, _, atI_0, rfl, ?_⟩
      rw [if_pos hb]
      refine ⟨_, hO e, _, atI_0, rfl, ?_⟩
      rw [if_neg (by decide)]
      refine ⟨_, hT e, _, atI_0, rfl, ?_⟩
      rw [if_pos hb]
      refine ⟨_, hO e, _, atI_0, rfl, ?_⟩
      rw [if_neg (by decide)]
      refine ⟨_, hT e, _, atI_0, rfl, ?_⟩
      rw [if_pos hb]
      refine ⟨_, hO e, _, atI_0, rfl, ?_⟩
      rw [if_neg (by decide)]
      exact q _ e
    | keep x =>
      refine ⟨_, hT e, _, atI_0, rfl, ?_⟩
      rw [if_pos hb]
      refine ⟨_, hO e, _, atI_0, rfl, ?_⟩
      rw [if_neg (by decide)]
      refine ⟨_, hT e, _, atI_0, rfl, ?_⟩
      rw [if_pos hb]
      refine ⟨_, hO e, _, atI_0, rfl, ?_⟩
      rw [if_neg (by decide)]
      refine ⟨_, hT e, _, atI_0, rfl, ?_⟩
      rw [if_pos hb]
      refine ⟨_, hO e, _, atI_0, rfl, ?_⟩
      rw [if_neg (by decide)]
      exact q _ e
    | fetch x =>
      refine ⟨_, hT e, _, atI_0, rfl, ?_⟩
      rw [if_pos hb]
      refine ⟨_, hO e, _, atI_0, rfl, ?_⟩
      rw [if_neg (by decide)]
      refine ⟨_, hT e, _, atI_0, rfl, ?_⟩
      rw [if_pos hb]
      refine ⟨_, hO e, _, atI_0, rfl, ?_⟩
      rw [if_neg (by decide)]
      refine ⟨_, hT e, _, atI_0, rfl, ?_⟩
      rw [if_pos hb]
      refine ⟨_, hO e, _, atI_0, rfl, ?_⟩
      rw [if_neg (by decide)]
      exact q _ e
end
end CC
set_option maxHeartbeats 4000000
/-! D36: what the law's loop keeps. -/
namespace CC
open PySem PySem.Spec PyProof.Rows L2 LamX
theorem codeO_slo {c a C dx : Addr} {q : Str} {vs : List (Option V)} : CodeO c q ≠ SlX.SlO a C dx vs := fun z => by
  unfold CodeO SlX.SlO at z
  have z := HO.ext.inj z
  have h := congrFun z ⟨Array.replicate (max c a + 1) { cls := .none, data := .fields #[.none, .str q 0] }, {}⟩
  have g : ∀ b, b < max c a + 1 → Heap.get? ⟨Array.replicate (max c a + 1) { cls := .none, data := .fields #[.none, .str q 0] }, {}⟩ b = some { cls := .none, data := .fields #[.none, .str q 0] } := fun b hb => by
    simp [Heap.get?, hb]
  have h1 : (∃ (oc : Obj) (vs : Array Value) (t : Tok), Heap.get? ⟨Array.replicate (max c a + 1) { cls := .none, data := .fields #[.none, .str q 0] }, {}⟩ c = some oc ∧ oc.data = .fields vs ∧ vs[1]? = some (.str q t)) := ⟨_, _, 0, g c (Nat.lt_succ_of_le (Nat.le_max_left _ _)), rfl, rfl⟩
  obtain ⟨sl, h2, _⟩ := h.mp h1
  rw [g a (Nat.lt_succ_of_le (Nat.le_max_right _ _))] at h2
  have h3 := congrArg Obj.data (Option.some.inj h2)
  simp [PySem.W.instObj] at h3
theorem tabs_kps {T : List (Addr × Str)} {s C : Addr} {vs : List V} {H H1 : Hp} (t : Tabs T H) (k : Kp s H H1) (h : SB H s C vs) : Tabs T H1 := by
  obtain ⟨dx, h1, _⟩ := h
  exact tabs_kp t k (fun ps z => by rw [h1] at z; cases z) (fun c q z => by rw [h1] at z; exact codeO_slo (Option.some.inj z).symm)
/-! ### the texts told are texts -/
def SOk (x : Str) : Prop := ∀ c, c ∈ x.cps.toList → c < 1114112
theorem SOk.ok {x : Str} (h : SOk x) : PyData.strOk x = true := by
  unfold PyData.strOk
  rw [← Array.all_toList, List.all_eq_true]
  exact fun c hc => by simpa using h c hc
theorem SOk.app {x y : Str} (h1 : SOk x) (h2 : SOk y) : SOk (x ++ y) := fun c hc => by
  have e : (x ++ y).cps.toList = x.cps.toList ++ y.cps.toList := by
    show (x.cps ++ y.cps).toList = _
    rw [Array.toList_append]
  rw [e] at hc
  exact (List.mem_append.mp hc).elim (h1 c) (h2 c)
theorem SOk.join {sep : Str} (h : SOk sep) : ∀ {l : List Str}, (∀ x, x ∈ l → SOk x) → SOk (Str.join sep l)
  | [], _ => fun c hc => by cases hc
  | [x], hl => hl x List.mem_cons_self
  | x :: y :: r, hl => by
    have h1 := SOk.join h (l := y :: r) fun z hz => hl z (List.mem_cons_of_mem _ hz)
    exact ((hl x List.mem_cons_self).app h).app h1
theorem sok_const {x : Str} (h : (x.cps.toList.all fun c => decide (c < 1114112)) = true) : SOk x := fun c hc => by simpa using List.all_eq_true.mp h c hc
theorem sok_lay {o : Option Str} (h : ∀ z, o = some z → z ∈ names3) : SOk (layD o).shown := by
  cases o with
  | none =>
    simp only [layD, PyData.shown]
    exact sok_const (by decide +kernel)
  | some z =>
    have := h z rfl
    simp [names3] at this
    rcases this with rfl | rfl | rfl <;> simp only [layD, PyData.shown] <;> exact sok_const (by decide +kernel)
theorem sok_lays : ∀ l : Lay, LayN l → ∀ x, x ∈ PyData.shownAll (l.map layD) → SOk x
  | [], _, x, hx => by simp [PyData.shownAll] at hx
  | a :: r, h, x, hx => by
    simp only [List.map_cons, PyData.shownAll, List.mem_cons] at hx
    rcases hx with rfl | hx
    · exact sok_lay fun z e => h z (by rw [e]; exact List.mem_cons_self)
    · exact sok_lays r (fun z hz => h z (List.mem_cons_of_mem _ hz)) x hx
theorem sok_res {r : Res} (h : r.Nice) : SOk (resD r).shown := by
  cases r with
  | lay l =>
    simp only [resD, PyData.shown]
    unfold tupleText
    refine ((sok_const (by decide +kernel)).app (SOk.join (sok_const (by decide +kernel)) (sok_lays l h.1))).app ?_
    split <;> exact sok_const (by decide +kernel)
  | int i =>
    simp only [resD, PyData.shown]
    have e : i = ((i.toNat : Nat) : Int) := (Int.toNat_of_nonneg h.1).symm
    rw [e]
    intro c hc
    have h1 : (Str.ofString (toString ((i.toNat : Nat) : Int))).cps.toList = TL.numL i.toNat := TL.tl_num _
    rw [h1] at hc
    have h2 := TL.numL_digits i.toNat c hc
    have h3 : c ≤ 57 := h2.2
    omega
  | bl b => cases b <;> simp only [resD, PyData.shown] <;> exact sok_const (by decide +kernel)
theorem resT_sok {r : Res} (h : r.Nice) : PyData.strOk (resT r) = true := by
  refine SOk.ok ?_
  rw [resT_eq]
  exact (((sok_const (by decide +kernel)).app (sok_const (by decide +kernel))).app (sok_res h)).app (sok_const (by decide +kernel))
end CC
set_option maxHeartbeats 4000000
/-! D37: frames of the law's loop. -/
namespace CC
open PySem PySem.Spec PyProof.Rows L2 LamX
theorem relRef (a : Addr) : RelV (.ref a) (.ref a) := rfl
theorem sb_two {H : Hp} {a C C' e p f g h u : Addr} (x : SB H a C [.ref e, .ref p]) (y : SB H a C' [.ref f, .ref g, .ref h, .ref u]) : False := by
  obtain ⟨dx, x1, _⟩ := x
  obtain ⟨dy, y1, _⟩ := y
  rw [x1] at y1
  have z := Option.some.inj y1
  unfold SlX.SlO at z
  have z := congrFun (HO.ext.inj z) ⟨Array.replicate (Nat.succ a) { PySem.W.instObj C dx with slots := #[some (.ref e), some (.ref p)] }, {}⟩
  have g1 : Heap.get? ⟨Array.replicate (Nat.succ a) { PySem.W.instObj C dx with slots := #[some (.ref e), some (.ref p)] }, {}⟩ a = some { PySem.W.instObj C dx with slots := #[some (.ref e), some (.ref p)] } := by
    simp [Heap.get?, PySem.W.instObj]
  obtain ⟨sl, h1, h2⟩ := z.mp ⟨_, g1, fun i v hv => by
    match i with
    | 0 => cases hv; exact ⟨_, rfl, rfl⟩
    | 1 => cases hv; exact ⟨_, rfl, rfl⟩
    | n + 2 => simp at hv⟩
  rw [g1] at h1
  have h3 : (#[some (Value.ref e), some (.ref p)] : Array (Option Value)) = sl := congrArg Obj.slots (Option.some.inj h1)
  obtain ⟨w, h4, _⟩ := h2 2 (.ref h) rfl
  rw [← h3] at h4
  simp at h4
theorem sto_ne {K : PySem.W.Frag} {H : Hp} {a s : Addr} {st : Sto} {ls : LS} (x : StoAt K H a st) (y : LSAt K H s ls) : a ≠ s := fun z => by
  subst z
  obtain ⟨ea, pa, da, ca, h1, _⟩ := x
  obtain ⟨fa, pa2, ha, ua, g1, _⟩ := y
  exact sb_two h1 g1
theorem live_ne {K : PySem.W.Frag} {H : Hp} {v s s' sa : Addr} {st : Sto} {ls ls' : LS} (x : LiveOn K H v s sa st ls) (y : LSAt K H s' ls') : v ≠ s' := fun z => by
  subst z
  obtain ⟨dx, hv⟩ := x.live
  obtain ⟨_, dy, g1, _⟩ := y.sb
  rw [hv] at g1
  exact nomatch Option.some.inj g1
theorem SB.notXd {H : Hp} {s C : Addr} {vs : List V} (h : SB H s C vs) : H s ≠ some (.xd []) := by
  obtain ⟨dx, h1, _⟩ := h
  rw [h1]
  intro z
  exact SB.ne (Option.some.inj z)
theorem LSAt.other {K : PySem.W.Frag} {H H' : Hp} {s s' : Addr} {ls ls' : LS} (h : LSAt K H s ls) (y : LSAt K H s' ls') (k : Kp s' H H') (n : s ≠ s') : LSAt K H' s ls := by
  obtain ⟨C, hs⟩ := y.sb
  have t := k.tupS hs
  obtain ⟨fa, pa, ha, ua, h1, h2, h3, h4, h5⟩ := h
  exact ⟨fa, pa, ha, ua, h1.kp k n hs.notXd, h2.mono t, h3.mono t, h4.mono t, h5.mono t⟩
theorem StoAt.other {K : PySem.W.Frag} {H H' : Hp} {a s' : Addr} {st : Sto} {ls' : LS} (h : StoAt K H a st) (y : LSAt K H s' ls') (k : Kp s' H H') : StoAt K H' a st := by
  obtain ⟨C, hs⟩ := y.sb
  exact h.kp k hs (sto_ne h y)
theorem LiveOn.other {K : PySem.W.Frag} {H H' : Hp} {v s s' sa : Addr} {st : Sto} {ls ls' : LS} (h : LiveOn K H v s sa st ls) (y : LSAt K H s' ls') (k : Kp s' H H') (n : s ≠ s') : LiveOn K H' v s sa st ls := by
  obtain ⟨dx, hv⟩ := h.live
  exact ⟨⟨dx, k _ _ (live_ne h y) hv⟩, h.sto.other y k, h.lst.other y k n, h.ne, h.ok⟩
/-! a list changes -/
theorem SB.kpL {H H' : Hp} {s C D : Addr} {vs xs : List V} (h : SB H s C vs) (k : Kp D H H') (hD : H D = some (.lst xs)) : SB H' s C vs := by
  obtain ⟨dx, h1, h2⟩ := h
  exact ⟨dx, k _ _ (fun z => by subst z; rw [hD] at h1; exact nomatch Option.some.inj h1) h1, k _ _ (fun z => by subst z; rw [hD] at h2; cases h2) h2⟩
theorem StoAt.kpL {K : PySem.W.Frag} {H H' : Hp} {a D : Addr} {st : Sto} {xs : List V} (h : StoAt K H a st) (k : Kp D H H') (hD : H D = some (.lst xs)) : StoAt K H' a st := by
  have t := tupL k hD
  obtain ⟨ea, pa, da, ca, h1, h2, h3, h4, h5⟩ := h
  exact ⟨ea, pa, da, ca, h1.kpL k hD, t.t _ _ h2, t.t _ _ h3, h4.mono t, t.t _ _ h5⟩
theorem LiveOn.kpL {K : PySem.W.Frag} {H H' : Hp} {v s sa D : Addr} {st : Sto} {ls : LS} {xs : List V} (h : LiveOn K H v s sa st ls) (k : Kp D H H') (hD : H D = some (.lst xs)) : LiveOn K H' v s sa st ls := by
  obtain ⟨dx, hv⟩ := h.live
  exact ⟨⟨dx, k _ _ (fun z => by subst z; rw [hD] at hv; cases hv) hv⟩, h.sto.kpL k hD, h.lst.kpL k hD, h.ne, h.ok⟩
/-! tables grow -/
theorem extN_tup {H H' : Hp} (e : ExtN H H') : Tup H H' := ⟨fun a xs h => e a _ h (fun ps z => by cases z), fun a xs h => e a _ h (fun ps z => by cases z), fun a o u h => e a _ h (fun ps z => by cases z)⟩
theorem extN_tl {H H' : Hp} (e : ExtN H H') : TupL H H' := ⟨extN_tup e, fun a xs h => e a _ h (fun ps z => by cases z)⟩
theorem SB.extN {H H' : Hp} {s C : Addr} {vs : List V} (h : SB H s C vs) (e : ExtN H H') : SB H' s C vs := by
  obtain ⟨dx, h1, h2⟩ := h
  exact ⟨dx, e _ _ h1 (fun ps z => by unfold SlX.SlO at z; cases z), e _ _ h2 (fun ps z => by cases z)⟩
theorem StoAt.extN {K : PySem.W.Frag} {H H' : Hp} {a : Addr} {st : Sto} (h : StoAt K H a st) (e : ExtN H H') : StoAt K H' a st := by
  have t := extN_tup e
  obtain ⟨ea, pa, da, ca, h1, h2, h3, h4, h5⟩ := h
  exact ⟨ea, pa, da, ca, h1.extN e, t.t _ _ h2, t.t _ _ h3, h4.mono t, t.t _ _ h5⟩
theorem LSAt.extN {K : PySem.W.Frag} {H H' : Hp} {s : Addr} {ls : LS} (h : LSAt K H s ls) (e : ExtN H H') : LSAt K H' s ls := by
  have t := extN_tup e
  obtain ⟨fa, pa, ha, ua, h1, h2, h3, h4, h5⟩ := h
  exact ⟨fa, pa, ha, ua, h1.extN e, h2.mono t, h3.mono t, h4.mono t, h5.mono t⟩
theorem LiveOn.extN {K : PySem.W.Frag} {H H' : Hp} {v s sa : Addr} {st : Sto} {ls : LS} (h : LiveOn K H v s sa st ls) (e : ExtN H H') : LiveOn K H' v s sa st ls := by
  obtain ⟨dx, hv⟩ := h.live
  exact ⟨⟨dx, e _ _ hv (fun ps z => by cases z)⟩, h.sto.extN e, h.lst.extN e, h.ne, h.ok⟩
theorem RowA.extN {K : PySem.W.Frag} {H H' : Hp} {ra sc : Addr} {ns : List Int} (h : RowA K H ra sc ns) (e : ExtN H H') : RowA K H' ra sc ns := by
  obtain ⟨⟨c1, c2, c3, h1, h2⟩, h3⟩ := h
  refine ⟨⟨c1, c2, c3, e _ _ h1 (fun ps z => by cases z), h2⟩, ?_⟩
  rcases h3 with (h | ⟨o, h⟩) | h
  · exact .inl (.inl (e _ _ h (fun ps z => by cases z)))
  · exact .inl (.inr ⟨o, e _ _ h (fun ps z => by cases z)⟩)
  · exact .inr h
/-! what stands through one turn -/
/-- a change that leaves tuples, dicts, lists, and the tables' words -/
structure Still (K : PySem.W.Frag) (Tb : List (Addr × Str)) (H H' : Hp) : Prop where
  tl : TupL H H'
  tb : Tabs Tb H → Tabs Tb H'
  st : ∀ a s, StoAt K H a s → StoAt K H' a s
theorem Still.ext {K : PySem.W.Frag} {Tb : List (Addr × Str)} {H H' : Hp} (e : Ext H H') : Still K Tb H H' := ⟨e.tl, fun t => t.ext e, fun a s h => h.ext e⟩
theorem Still.kps {K : PySem.W.Frag} {Tb : List (Addr × Str)} {H H' : Hp} {s : Addr} {ls : LS} (h : LSAt K H s ls) (k : Kp s H H') : Still K Tb H H' := by
  obtain ⟨vs, hs⟩ := h.sb
  exact ⟨k.tl hs, fun t => tabs_kps t k hs, fun a st x => x.other h k⟩
theorem Still.trans {K : PySem.W.Frag} {Tb : List (Addr × Str)} {H H1 H2 : Hp} (a : Still K Tb H H1) (b : Still K Tb H1 H2) : Still K Tb H H2 := ⟨a.tl.trans b.tl, fun t => b.tb (a.tb t), fun x s h => b.st x s (a.st x s h)⟩
theorem Still.refl {K : PySem.W.Frag} {Tb : List (Addr × Str)} {H : Hp} : Still K Tb H H := .ext (Ext.refl H)
theorem RowA.still {K : PySem.W.Frag} {H H' : Hp} {ra sc : Addr} {ns : List Int} (h : RowA K H ra sc ns) (t : TupL H H') : RowA K H' ra sc ns := by
  obtain ⟨⟨c1, c2, c3, h1, h2⟩, h3⟩ := h
  refine ⟨⟨c1, c2, c3, t.l _ _ h1, h2⟩, ?_⟩
  rcases h3 with (h | ⟨o, h⟩) | h
  · exact .inl (.inl (t.l _ _ h))
  · exact .inl (.inr ⟨o, t.f _ _ _ h⟩)
  · exact .inr h
abbrev Tri := Addr × Addr × Addr
/-- the three stores in use, each as ls tells -/
def LvL (K : PySem.W.Frag) (H : Hp) (st : Sto) (ls : LS) (L : List Tri) : Prop := ∀ t, t ∈ L → LiveOn K H t.1 t.2.1 t.2.2 st ls
theorem LvL.ext {K : PySem.W.Frag} {H H' : Hp} {st : Sto} {ls : LS} {L : List Tri} (h : LvL K H st ls L) (e : Ext H H') : LvL K H' st ls L := fun t ht => (h t ht).ext e
theorem LvL.kpL {K : PySem.W.Frag} {H H' : Hp} {st : Sto} {ls : LS} {L : List Tri} {D : Addr} {xs : List V} (h : LvL K H st ls L) (k : Kp D H H') (hD : H D = some (.lst xs)) : LvL K H' st ls L := fun t ht => (h t ht).kpL k hD
theorem LvL.other {K : PySem.W.Frag} {H H' : Hp} {st : Sto} {ls ls' : LS} {L : List Tri} {s' : Addr} (h : LvL K H st ls L) (y : LSAt K H s' ls') (k : Kp s' H H') (n : ∀ t, t ∈ L → t.2.1 ≠ s') : LvL K H' st ls L := fun t ht => (h t ht).other y k (n t ht)
/-- what one turn of the law has, besides the stores in use -/
structure Cxt (K : PySem.W.Frag) (Tb : List (Addr × Str)) (ra sc : Addr) (ns : List Int) (a0 : Addr) (st : Sto) (la0 : Addr) (l0 : Lay) (lp : Addr) (L : List Tri) (H : Hp) : Prop where
  R : RowA K H ra sc ns
  T : Tabs Tb H
  S : StoAt K H a0 st
  X : LayX H la0 l0
  P : H lp = some (.lst (L.map fun t => .ref t.1))
section
variable {K : PySem.W.Frag} {Tb : List (Addr × Str)} {ra sc : Addr} {ns : List Int} {a0 : Addr} {st : Sto} {la0 : Addr} {l0 : Lay} {lp : Addr} {L : List Tri} {H H' : Hp}
theorem Cxt.still (c : Cxt K Tb ra sc ns a0 st la0 l0 lp L H) (z : Still K Tb H H') : Cxt K Tb ra sc ns a0 st la0 l0 lp L H' := ⟨c.R.still z.tl, z.tb c.T, z.st _ _ c.S, TupX.mono c.X z.tl.toTup, z.tl.l _ _ c.P⟩
theorem Cxt.ext (c : Cxt K Tb ra sc ns a0 st la0 l0 lp L H) (e : Ext H H') : Cxt K Tb ra sc ns a0 st la0 l0 lp L H' := c.still (.ext e)
theorem row_ne {ra sc : Addr} {L : List Tri} {H : Hp} (h : RowL H ra sc) (hp : H lp = some (.lst (L.map fun t => .ref t.1))) (hL : L.length = 3) : lp ≠ ra := fun z => by
  subst z
  obtain ⟨c1, c2, c3, h1, _⟩ := h
  rw [hp] at h1
  have h2 := HO.lst.inj (Option.some.inj h1)
  match L, hL with
  | [x, y, w], _ => cases h2
/-- the row of drawn numbers goes on -/
theorem Cxt.row (c : Cxt K Tb ra sc ns a0 st la0 l0 lp L H) (hL : L.length = 3) (k : Kp ra H H') (r : RowA K H' ra sc ns) : Cxt K Tb ra sc ns a0 st la0 l0 lp L H' := by
  obtain ⟨c1, c2, c3, h1, _⟩ := c.R.l
  exact ⟨r, tabs_kpl c.T k h1, c.S.kpL k h1, TupX.mono c.X (c.R.tup k), k _ _ (row_ne c.R.l c.P hL) c.P⟩
/-- another list goes on -/
theorem Cxt.kpD {D : Addr} {xs : List V} {G : Hp} (c : Cxt K Tb ra sc ns a0 st la0 l0 lp L H) (g : Cxt K Tb ra sc ns a0 st la0 l0 lp L G) (hG : G D = none) (k : Kp D H H') (hD : H D = some (.lst xs)) : Cxt K Tb ra sc ns a0 st la0 l0 lp L H' := by
  obtain ⟨c1, c2, c3, h1, h2⟩ := c.R.l
  obtain ⟨d1, d2, d3, g1, _⟩ := g.R.l
  have n1 : ra ≠ D := fun z => by subst z; rw [g1] at hG; cases hG
  have n2 : lp ≠ D := fun z => by subst z; rw [g.P] at hG; cases hG
  have hs : SqL K H' sc (ns.map V.int) := by
    rcases c.R.s with (h | ⟨o, h⟩) | h
    · rcases g.R.s with (y | ⟨o, y⟩) | y
      · exact .inl (.inl (k _ _ (fun z => by subst z; rw [y] at hG; cases hG) h))
      · exact .inl (.inl (k _ _ (fun z => by subst z; rw [y] at hG; cases hG) h))
      · exact .inr y
    · exact .inl (.inr ⟨o, k _ _ (fun z => by subst z; rw [hD] at h; cases h) h⟩)
    · exact .inr h
  exact ⟨⟨⟨c1, c2, c3, k _ _ n1 h1, h2⟩, hs⟩, tabs_kpl c.T k hD, c.S.kpL k hD, TupX.mono c.X (tupL k hD), k _ _ n2 c.P⟩
end
/-- a list that is new in G and goes on in H leaves what G's facts are -/
theorem FactsT.kpD {G H H' : Hp} {D : Addr} {xs : List V} {p : Addr} {ls : LS} (h : FactsT H p ls) (g : FactsT G p ls) (hG : G D = none) (gs : TupL G H) (k : Kp D H H') (hD : H D = some (.lst xs)) : FactsT H' p ls := by
  obtain ⟨la, dl, kl, hl, l, h1, h2, h3, h4, h5, h6, h7⟩ := g
  have ne : ∀ {q : Addr} {ys : List V}, G q = some (.lst ys) → q ≠ D := fun {q ys} e z => by subst z; rw [e] at hG; cases hG
  have t := tupL k hD
  exact ⟨la, dl, kl, hl, l, t.tO (gs.tO h1), TupX.mono (TupX.mono h2 gs.toTup) t, k _ _ (ne h3) (gs.l _ _ h3), k _ _ (ne h4) (gs.l _ _ h4), k _ _ (ne h5) (gs.l _ _ h5), h6, fun q hq => OpAt.mono t (OpAt.mono gs.toTup (h7 q hq))⟩
theorem TupL.own {G H H' : Hp} {D : Addr} {xs : List V} (g : TupL G H) (hG : G D = none) (k : Kp D H H') (hD : H D = some (.lst xs)) : TupL G H' :=
  ⟨g.toTup.trans (tupL k hD), fun a ys h => k _ _ (fun z => by subst z; rw [h] at hG; cases hG) (g.l _ _ h)⟩
theorem In.mono {st : Sto} {l0 : Lay} {n : Nat} {ls : LS} (I : LS.In st l0 n ls) : LS.In st l0 (n + 1) ls :=
  ⟨I.good, ⟨by have := I.sz.p; omega, by have := I.sz.d; omega, by have := I.sz.s; omega, fun q hq => by have := I.sz.sd q hq; omega⟩, I.ky, I.un,
    ⟨I.wm.f0, by have := I.wm.f1; omega, fun q hq => by have := I.wm.s0 q hq; omega⟩, I.dr, I.rc⟩
theorem dpAll_take {K : PySem.W.Frag} {H : Hp} : ∀ {xs : List V} {ds : List PyData} (k : Nat), DpAll K H xs ds → DpAll K H (xs.take k) (ds.take k)
  | _, _, 0, _ => by simpa using DpAll.nil
  | _, _, _ + 1, .nil => .nil
  | _, _, k + 1, .cons h r => .cons h (dpAll_take k r)
theorem facts_take {a b : LS} (hf : a.f = b.f) (hs : a.sh = b.sh) : (factsD a).take 4 = (factsD b).take 4 := by
  simp [factsD, keptL, hf]
  rw [hs]
theorem pw_cases {L : List Tri} (h : L.Pairwise fun a b => a.2.1 ≠ b.2.1) {x t : Tri} (hx : x ∈ L) (ht : t ∈ L) : x = t ∨ x.2.1 ≠ t.2.1 := by
  induction L with
  | nil => cases hx
  | cons a r ih =>
    obtain ⟨h1, h2⟩ := List.pairwise_cons.mp h
    rcases List.mem_cons.mp hx with e1 | hx1
    · rcases List.mem_cons.mp ht with e2 | ht1
      · exact .inl (e1.trans e2.symm)
      · exact .inr (by rw [e1]; exact h1 _ ht1)
    · rcases List.mem_cons.mp ht with e2 | ht1
      · exact .inr (by rw [e2]; exact Ne.symm (h1 _ hx1))
      · exact ih h2 hx1 ht1
end CC
set_option maxHeartbeats 8000000
set_option pp.deepTerms true
set_option pp.maxSteps 1000000
/-! D38: law. -/
namespace CC
open PySem PySem.Spec PyProof.Rows L2 LamX
local macro_rules | `(tactic| walk_at "rd") => `(tactic| simp only [tVar, tC, tOp, tUn, rI0, rI, rU, rEq, rNe, tTest, tB, tAnd, tOr, tNot, tAndV, tOrV, tNotV, tIf, tChain, tIfS, tRet, tRetN, tSeq, tNext, tAsg, gName, tDrop, tCons, tNil, tCB, tCR, tTup, tLst, rIsF, tyN_non, tyN_bl, tyN_int, tyN_str, tyN_ref, isB_1, isB_2, isB_3, isB_4, isB_5, isB_6, isB_7, isB_8, tyO_tup, tyO_lst, tyO_dK, tyO_frz, rIxG, rLenG, rInG, rAllG, rSumG, rListG, rTupG, tLcF, tLcP, tForF, tForP, srcTup, srcLst, srcStr, srcRng, srcEnum, srcZip, srcEnumT, tYes, wipe, gTupG, gCons, gNil, tStarG, tSl, rSlTG, rSlLG, rCatTG, rRep, tJoinG, rSortedSG, tApp, tExd, tupO_tup, lstO_lst, seqO_tup, seqO_lst, dKO_dK, tNoPart, tPart, tFl, sFl, tSls, sSls, tMeS, tPrS, tPrF, tMethR, tMake, sFlAug, rLenS, L2.start, List.map_cons, List.map_nil, List.length_cons, List.length_nil, Nat.zero_add, Nat.reduceAdd, Nat.reduceSub, List.replicate_succ, List.replicate_zero, List.forall_mem_map, List.cons_append, List.nil_append, List.getElem?_cons_succ, List.getElem?_cons_zero, List.set_cons_zero, List.set_cons_succ, Option.some.injEq, V.int.injEq, V.str.injEq, V.bl.injEq, V.ref.injEq, V.ty.injEq, List.cons.injEq, HO.tup.injEq, HO.lst.injEq, HO.ins.injEq, reduceCtorEq, exists_eq_left', exists_eq_left, exists_eq_right', exists_eq_right, exists_and_left, exists_and_right, and_true, true_and, and_false, false_and, or_false, false_or, or_true, true_or, exists_const, exists_eq', exists_eq, scal_ii, scal_ss, scal_bb, scal_nn, scal_ns, scal_sn, tPar, tLcI, ClX.tCMeth, upd_upd, upd_same, if_true, if_false, ite_true, ite_false, Bool.not_true, Bool.not_false, Bool.true_and, Bool.and_true, Bool.false_eq_true, decide_true, decide_false, sz1, atI_0, atI_1, and_assoc])
local macro_rules | `(tactic| walk_at "rh") => `(tactic| simp only [*, tVar, tC, tOp, tUn, rI0, rI, rU, rEq, rNe, tTest, tB, tAnd, tOr, tNot, tAndV, tOrV, tNotV, tIf, tChain, tIfS, tRet, tRetN, tSeq, tNext, tAsg, gName, tDrop, tCons, tNil, tCB, tCR, tTup, tLst, rIsF, tyN_non, tyN_bl, tyN_int, tyN_str, tyN_ref, isB_1, isB_2, isB_3, isB_4, isB_5, isB_6, isB_7, isB_8, tyO_tup, tyO_lst, tyO_dK, tyO_frz, rIxG, rLenG, rInG, rAllG, rSumG, rListG, rTupG, tLcF, tLcP, tForF, tForP, srcTup, srcLst, srcStr, srcRng, srcEnum, srcZip, srcEnumT, tYes, wipe, gTupG, gCons, gNil, tStarG, tSl, rSlTG, rSlLG, rCatTG, rRep, tJoinG, rSortedSG, tApp, tExd, tupO_tup, lstO_lst, seqO_tup, seqO_lst, dKO_dK, tNoPart, tPart, tFl, sFl, tSls, sSls, tMeS, tPrS, tPrF, tMethR, tMake, sFlAug, rLenS, L2.start, List.map_cons, List.map_nil, List.length_cons, List.length_nil, Nat.zero_add, Nat.reduceAdd, Nat.reduceSub, List.replicate_succ, List.replicate_zero, List.forall_mem_map, List.cons_append, List.nil_append, List.getElem?_cons_succ, List.getElem?_cons_zero, List.set_cons_zero, List.set_cons_succ, Option.some.injEq, V.int.injEq, V.str.injEq, V.bl.injEq, V.ref.injEq, V.ty.injEq, List.cons.injEq, HO.tup.injEq, HO.lst.injEq, HO.ins.injEq, reduceCtorEq, exists_eq_left', exists_eq_left, exists_eq_right', exists_eq_right, exists_and_left, exists_and_right, and_true, true_and, and_false, false_and, or_false, false_or, or_true, true_or, exists_const, exists_eq', exists_eq, scal_ii, scal_ss, scal_bb, scal_nn, scal_ns, scal_sn, tPar, tLcI, ClX.tCMeth, upd_upd, upd_same, if_true, if_false, ite_true, ite_false, Bool.not_true, Bool.not_false, Bool.true_and, Bool.and_true, Bool.false_eq_true, decide_true, decide_false, sz1, atI_0, atI_1, and_assoc])
theorem tSeq_gen {a b : TS} {D : Ends} {σ : L2.St} {H : Hp} (h : ∀ R, R = b D → a { D with nx := R } σ H) : tSeq a b D σ H := h _ rfl
section
variable {P : Program} {w : World} {K : PySem.W.Frag} {mg : Str → Option Value} {base : Heap}
def spLaw (K : PySem.W.Frag) (Tb : List (Addr × Str)) : Sp := fun vs H Q _ => ∃ (sc : Addr) (ns : List Int), vs = [.ref sc] ∧ SqL K H sc (ns.map V.int) ∧ Tabs Tb H ∧ ∀ H', Q (.bl true) H'
theorem ok_law (T : Txt K mg w) {Pt1 Pt : Addr} {Tb : List (Addr × Str)} (TF1 : TabF K base mg (mA K "Row" "read_crates") Pt1) (hmT1 : (Pt1, q1) ∈ Tb) (hu1 : ∀ p ∈ Tb, p.1 = Pt1 → p.2 = q1) (TF : TabF K base mg (gA K "parse_store") Pt) (hmT : (Pt, q2) ∈ Tb) (hu : ∀ p ∈ Tb, p.1 = Pt → p.2 = q2) : FnG P w K mg base 75 (gA K "law") (spLaw K Tb) := by
  have F_law_store := ok_law_store (P := P) (base := base) T
  have F_law_layout := ok_law_layout (P := P) (base := base) T
  have F_law_op := ok_law_op (P := P) (base := base) T
  have F_law_facts := ok_law_facts (P := P) (base := base) T
  have F_law_told := ok_law_told (P := P) (base := base) T
  have F_law_is_right := ok_law_is_right (P := P) (base := base) T
  have F_Live___init__ := ok_Live___init__ (P := P) (base := base) T
  have F_parse_store := ok_parse_store (P := P) (base := base) T TF1 hmT1 hu1 TF hmT hu
  have F_format_store := ok_format_store (P := P) (base := base) T
  have F_decode_store := ok_decode_store (P := P) (base := base) T
  have F_encode_store := ok_encode_store (P := P) (base := base) T
  have F_Live_layout_now := ok_Live_layout_now (P := P) (base := base) T
  have F_Live_warmth_now := ok_Live_warmth_now (P := P) (base := base) T
  have F_Live_day_warmths := ok_Live_day_warmths (P := P) (base := base) T
  have F_Live_history := ok_Live_history (P := P) (base := base) T
  have F_Live_undo := ok_Live_undo (P := P) (base := base) T
  have F_Live_redo := ok_Live_redo (P := P) (base := base) T
  have F_Live_shut := ok_Live_shut (P := P) (base := base) T
  have F_Live_replay := ok_Live_replay (P := P) (base := base) T
  refine mkG (k := 74) T.d_law sc_law (fun _ _ _ _ _ _ us hl => match us, hl with | [_], _ => rfl) (fun vs H Q E h => ?_) (fun cdv A outer s0 H vs Q E hr hgd h => ?_)
  · obtain ⟨sc, ns, rfl, _⟩ := h
    rfl
  · obtain ⟨sc, ns, rfl, hsc, hTb, q⟩ := h
    refine ⟨_, (pss_cons (CC.st (i := 1) sc_law.nd (pe_lst (pa_cons (pv 0) (pa_cons pe_int (pa_cons pe_int (pa_cons pe_int pa_nil))))))
    (pss_cons (forF PassesOwn.never rfl (sr_rng T.b_range (pa_cons pe_int pa_nil)) (pg_name (i := 2) sc_law.nd rfl (.inl rfl))
      (pss_cons (CC.st (i := 3) sc_law.nd (pe_cR F_law_store.raw hr T.g_law_store pass0 (pa_cons (pv 1) pa_nil)))
    (pss_cons (CC.st (i := 4) sc_law.nd (pe_cR F_law_layout.raw hr T.g_law_layout pass0 (pa_cons (pv 1) (pa_cons (pv 3) pa_nil))))
    (pss_cons (CC.st (i := 5) sc_law.nd (pe_lst (pa_cons (pe_mk T.mk_Live F_Live___init__ hr T.g_Live.1 pass0 (pa_cons (pv 3) (pa_cons (pv 4) pa_nil))) (pa_cons (pe_mk T.mk_Live F_Live___init__ hr T.g_Live.1 pass0 (pa_cons (pe_cR F_parse_store.raw hr T.g_parse_store pass0 (pa_cons (pe_cR F_format_store.raw hr T.g_format_store pass0 (pa_cons (pv 3) pa_nil)) pa_nil)) (pa_cons (pv 4) pa_nil))) pa_nil))))
    (pss_cons (ps_expr (pe_app (pe_bm PySem.F.plainAttrs_list PySem.F.slot_list_append PySem.F.type_list_append mt_append (upPE (pv 5)) (pa_cons (upPE (pe_mk T.mk_Live F_Live___init__ hr T.g_Live.1 pass0 (pa_cons (pe_cR F_decode_store.raw hr T.g_decode_store pass0 (pa_cons (pe_cR F_encode_store.raw hr T.g_encode_store pass0 (pa_cons (pv 3) pa_nil)) pa_nil)) (pa_cons (pv 4) pa_nil)))) pa_nil))))
    (pss_cons (forF PassesOwn.never rfl (sr_rng T.b_range (pa_cons pe_int pa_nil)) (pg_name (i := 6) sc_law.nd rfl (.inl rfl))
      (pss_cons (ps_asg (pe_tup (pa_cons (pe_cR F_law_op.raw hr T.g_law_op pass0 (pa_cons (pv 1) pa_nil)) (pa_cons (pe_cR F_law_facts.raw hr T.g_law_facts pass0 (pa_cons (pe_ix ix_G (pv 5) pe_int (fun _ _ => rfl)) pa_nil)) pa_nil))) (pg_tupG (n := 2) rfl (pgs_cons (pg_name (i := 7) sc_law.nd rfl (.inr rfl)) (pgs_cons (pg_name (i := 8) sc_law.nd rfl (.inl rfl)) pgs_nil))))
    (pss_cons (setLcI (i := 9) (own := [("_law_live", 10)]) rfl sc_law.nd (sw_true rfl rfl rfl (by decide +kernel)) (sr_lst (pv 5)) (blkOk_by (N := n_law) (sc := defScope s_law) (by decide +kernel)) (fun _ _ _ _ _ => (pg_name (i := 10) sc_law.nd rfl (.inl rfl))) (fun _ _ _ _ _ => pts_nil) (fun _ _ _ _ _ => (pe_cG (E := E0) F_law_told hr hgd T.g_law_told (pa_cons (pv 10) (pa_cons (pv 7) pa_nil)))))
    (pss_cons (ps_if (PW.pt (pw_or (pt_cmpR (op_neD hr.units) (pv 9) (pe_op op_rep (pe_lst (pa_cons (pe_ix ix_G (pv 9) pe_int (fun _ _ => rfl)) pa_nil)) pe_int) (nomark _)) (pw_or1 (pt_cmpR (op_neD hr.units) (lcI (own := [("_law_live", 10)]) rfl sc_law.nd (sr_lst (pv 5)) (blkOk_by (N := n_law) (sc := defScope s_law) (by decide +kernel)) (fun _ _ _ _ _ => (pg_name (i := 10) sc_law.nd rfl (.inl rfl))) (fun _ _ _ _ _ => pts_nil) (fun _ _ _ _ _ => (pe_prF T.cls_Live T.pr_Live_layout_now F_Live_layout_now.raw hr pass0 (pv 10)))) (pe_op op_rep (pe_lst (pa_cons (pe_prF T.cls_Live T.pr_Live_layout_now F_Live_layout_now.raw hr pass0 (pe_ix ix_G (pv 5) pe_int (fun _ _ => rfl))) pa_nil)) pe_int) (nomark _))))) (pss_one (ps_ret pe_bl)) pss_nil)
    (pss_cons (ps_if (pt_not (pt_val (pe_cR F_law_is_right.raw hr T.g_law_is_right pass0 (pa_cons (pv 3) (pa_cons (pe_ix ix_G (pv 5) pe_int (fun _ _ => rfl)) (pa_cons (pv 7) (pa_cons (pe_tup (pa_cons (pv 9) (pa_cons (pv 8) pa_nil))) pa_nil))))))) (pss_one (ps_ret pe_bl)) pss_nil)
    (pss_one (ps_if (pt_cmpR op_ne (pe_ix ix_G (pv 9) pe_int (fun _ _ => rfl)) pe_str (nomark _)) (pss_one (forF PassesOwn.never rfl (sr_lst (pv 5)) (pg_name (i := 10) sc_law.nd rfl (.inl rfl))
      (pss_one (ps_if (PW.pt (pw_or (pt_not (pt_val (pe_meF0 T.cls_Live T.me_Live_undo F_Live_undo.raw hr pass0 (pv 10)))) (pw_or (pt_cmpR (op_neD hr.units) (pe_slice sl_tupG (pe_cR F_law_facts.raw hr T.g_law_facts pass0 (pa_cons (pv 10) pa_nil)) po_none (po_some pe_int)) (pe_slice sl_tupG (pv 8) po_none (po_some pe_int)) (nomark _)) (pw_or1 (pt_not (pt_val (pe_meF0 T.cls_Live T.me_Live_redo F_Live_redo.raw hr pass0 (pv 10)))))))) (pss_one (ps_ret pe_bl)) pss_nil)))) pss_nil)))))))
    (pss_cons (ps_if (pt_cmpR (op_neD hr.units) (lcI (own := [("_law_live", 10)]) rfl sc_law.nd (sr_lst (pv 5)) (blkOk_by (N := n_law) (sc := defScope s_law) (by decide +kernel)) (fun _ _ _ _ _ => (pg_name (i := 10) sc_law.nd rfl (.inl rfl))) (fun _ _ _ _ _ => pts_nil) (fun _ _ _ _ _ => (pe_cR F_law_facts.raw hr T.g_law_facts pass0 (pa_cons (pv 10) pa_nil)))) (pe_op op_rep (pe_lst (pa_cons (pe_cR F_law_facts.raw hr T.g_law_facts pass0 (pa_cons (pe_ix ix_G (pv 5) pe_int (fun _ _ => rfl)) pa_nil)) pa_nil)) pe_int) (nomark _)) (pss_one (ps_ret pe_bl)) pss_nil)
    (pss_cons (ps_if (pt_cmpR (op_neD hr.units) (pe_cR F_law_facts.raw hr T.g_law_facts pass0 (pa_cons (ClX.pe_cmeth (pe_glob (v := .ref (gA K "Live")) rfl T.g_Live.1 rfl) T.cr_Live T.cm_Live_replay F_Live_replay.raw (hr.mono (by decide)) pass0 (pa_cons (pv 3) (pa_cons (pv 4) (pa_cons (pe_prF T.cls_Live T.pr_Live_history F_Live_history.raw hr pass0 (pe_ix ix_G (pv 5) pe_int (fun _ _ => rfl))) pa_nil)))) pa_nil)) (pe_cR F_law_facts.raw hr T.g_law_facts pass0 (pa_cons (pe_ix ix_G (pv 5) pe_int (fun _ _ => rfl)) pa_nil)) (nomark _)) (pss_one (ps_ret pe_bl)) pss_nil)
    (pss_cons (CC.st (i := 10) sc_law.nd (pe_ix ix_G (pv 5) pe_int (fun _ _ => rfl)))
    (pss_cons (CC.st (i := 11) sc_law.nd (pe_prF T.cls_Live T.pr_Live_warmth_now F_Live_warmth_now.raw hr pass0 (pv 10)))
    (pss_one (ps_if (PW.pt (pw_or (pt_cmpR op_ne (pe_meF0 T.cls_Live T.me_Live_shut F_Live_shut.raw hr pass0 (pv 10)) (pv 11) (nomark _)) (pw_or (pt_cmpR op_ne (pe_ix ix_G (pe_prF T.cls_Live T.pr_Live_day_warmths F_Live_day_warmths.raw hr pass0 (pv 10)) (pe_un un_neg pe_int) (fun _ _ => rfl)) (pv 11) (nomark _)) (pw_or (pt_cmpR op_ne (pe_prF T.cls_Live T.pr_Live_warmth_now F_Live_warmth_now.raw hr pass0 (pv 10)) pe_int (nomark _)) (pw_or1 (pt_cmpR op_ne (pe_meF0 T.cls_Live T.me_Live_shut F_Live_shut.raw hr pass0 (pv 10)) pe_int (nomark _))))))) (pss_one (ps_ret pe_bl)) pss_nil))))))))))))
    (pss_one (ps_ret pe_bl)))), ?_⟩
    refine ⟨_, rfl, (show (4 : Nat) ≤ sizeLine by rw [sizeLine_eq]; decide), fun ra hra => ?_⟩
    refine ⟨3, rfl, by decide, Nat, List.range 3, fun i => .int (i : Nat), fun r σ Hx => ∃ x2 x3 x4 x5 x6 x7 x8 x9 x10 x11 : Option V, σ = [some (.ref sc), some (.ref ra), x2, x3, x4, x5, x6, x7, x8, x9, x10, x11] ∧ RowA K Hx ra sc ns ∧ Tabs Tb Hx, rfl,
      ⟨_, _, _, _, _, _, _, _, _, _, rfl, ?_, hTb.ext (Ext.new hra)⟩, fun _ _ _ _ => trivial, ?_, fun σ Hx _ => q Hx⟩
    · exact ⟨⟨0, 0, 0, upd_same, by decide, by decide, by decide⟩, sqL_ext hsc (Ext.new hra)⟩
    · intro turn r σ Hx ⟨x2, x3, x4, x5, x6, x7, x8, x9, x10, x11, hσ, hR, hT⟩
      subst hσ
      have hrw := hR.l
      -- the store
      refine ⟨_, rfl, ra, sc, ns, rfl, hR, fun a0 st H1 ok k1 ha0 R1 S1 => ?_⟩
      obtain ⟨c1, c2, c3, hrl, _⟩ := hR.l
      have T1 : Tabs Tb H1 := tabs_kpl hT k1 hrl
      -- the layout
      refine ⟨_, rfl, _, rfl, ra, a0, sc, ns, st, rfl, R1, S1, ok, fun la0 H2 l0 k2 R2 X2 il => ?_⟩
      obtain ⟨d1, d2, d3, hrl1, _⟩ := R1.l
      have T2 : Tabs Tb H2 := tabs_kpl T1 k2 hrl1
      have S2 : StoAt K H2 a0 st := S1.kpL k2 hrl1
      -- three stores in use
      refine ⟨_, rfl, _, rfl, fun v0 dv0 hv0 hdv0 ndv0 => ?_⟩
      have eM0 := Made.ext (C := gA K "Live") hv0 hdv0
      refine ⟨v0, a0, la0, dv0, st, l0, rfl, Made.of ndv0, S2.ext eM0, ok, TupX.mono X2 eM0.tup, il, fun s0a H3 k3 hs0 L0 => ⟨rfl, ?_⟩⟩
      have e3 := k3.ext hv0 hdv0
      refine ⟨_, rfl, a0, st, rfl, S2.ext e3, ok, fun H4 e4 => ⟨st, rfl, ok, T2.ext (e3.trans e4), fun b1 H5 n5 T5 Sb1 => ⟨_, rfl, fun v1 dv1 hv1 hdv1 ndv1 => ?_⟩⟩⟩
      have eM1 := Made.ext (C := gA K "Live") hv1 hdv1
      have X5 : LayX H5 la0 l0 := TupX.mono (TupX.mono X2 (e3.trans e4).tup) (extN_tup n5)
      refine ⟨v1, b1, la0, dv1, st, l0, rfl, Made.of ndv1, Sb1.ext eM1, ok, TupX.mono X5 eM1.tup, il, fun s1a H6 k6 hs1 L1 => ⟨rfl, ?_⟩⟩
      have e6 := k6.ext hv1 hdv1
      have L0' : LiveOn K H6 v0 s0a a0 st (LS.new l0) := ((L0.ext e4).extN n5).ext e6
      refine ⟨(show (2 : Nat) ≤ sizeLine by rw [sizeLine_eq]; decide), fun lp hlp => ?_⟩
      have e7 := Ext.new (o := .lst [V.ref v0, .ref v1]) hlp
      have hlp7 := upd_same (H := H6) (a := lp) (o := .lst [V.ref v0, .ref v1])
      generalize upd H6 lp (.lst [V.ref v0, .ref v1]) = H7 at e7 hlp7
      have S7 : StoAt K H7 a0 st := (((S2.ext (e3.trans e4)).extN n5).ext e6).ext e7
      refine ⟨_, rfl, lp, _, rfl, by rw [hlp7]; rfl, ⟨_, rfl, a0, st, rfl, S7, ok, fun ep H8 e8 hep hepl => ⟨ep, st, rfl, hepl, ok, fun c2a H9 e9 hc2 Sc => ⟨_, rfl, fun v2 dv2 hv2 hdv2 ndv2 => ?_⟩⟩⟩⟩
      have eM2 := Made.ext (C := gA K "Live") hv2 hdv2
      have e89 := e8.trans e9
      have X9 : LayX H9 la0 l0 := TupX.mono (TupX.mono X5 (e6.trans e7).tup) e89.tup
      refine ⟨v2, c2a, la0, dv2, st, l0, rfl, Made.of ndv2, Sc.ext eM2, ok, TupX.mono X9 eM2.tup, il, fun s2a H10 k10 hs2 L2 => ⟨rfl, ?_⟩⟩
      have e10 := k10.ext hv2 hdv2
      have e710 := e89.trans e10
      have hlp10 := e710 _ _ hlp7
      refine ⟨[V.ref v0, .ref v1], by rw [hlp10]; rfl, (show (2 : Nat) < 16777216 by decide), ?_⟩
      have kL : Kp lp H10 (upd H10 lp (.lst ([V.ref v0, .ref v1] ++ [V.ref v2]))) := Kp.set
      have hlp11 := upd_same (H := H10) (a := lp) (o := .lst ([V.ref v0, .ref v1] ++ [V.ref v2]))
      generalize upd H10 lp (.lst ([V.ref v0, .ref v1] ++ [V.ref v2])) = H11 at kL hlp11
      have LL : LvL K H11 st (LS.new l0) [(v0, s0a, a0), (v1, s1a, b1), (v2, s2a, c2a)] := fun t ht => by
        simp only [List.mem_cons, List.mem_nil_iff, or_false] at ht
        rcases ht with rfl | rfl | rfl
        · exact ((L0'.ext e7).ext e710).kpL kL hlp10
        · exact ((L1.ext e7).ext e710).kpL kL hlp10
        · exact L2.kpL kL hlp10
      have sne : ∀ {Hz : Hp} {s s' : Addr} {ls : LS}, LSAt K Hz s ls → Hz s' = none → s ≠ s' := fun {Hz s s' ls} h h2 z => by
        subst z
        obtain ⟨_, dx, h1, _⟩ := h.sb
        rw [h1] at h2
        cases h2
      have hdist : [(v0, s0a, a0), (v1, s1a, b1), (v2, s2a, c2a)].Pairwise (fun a b : Tri => a.2.1 ≠ b.2.1) := by
        have d01 : s0a ≠ s1a := sne (((L0.ext e4).extN n5).ext eM1).lst hs1
        have d02 : s0a ≠ s2a := sne (((L0'.ext e7).ext e89).ext eM2).lst hs2
        have d12 : s1a ≠ s2a := sne (((L1.ext e7).ext e89).ext eM2).lst hs2
        simp [d01, d02, d12]
      have n2 : lp ≠ ra := fun z => by
        subst z
        obtain ⟨d1, d2, d3, hrl2, _⟩ := R2.l
        rw [e6 _ _ (n5 _ _ (e4 _ _ (e3 _ _ hrl2)) (fun ps z => by cases z))] at hlp
        cases hlp
      have C11 : Cxt K Tb ra sc ns a0 st la0 l0 lp [(v0, s0a, a0), (v1, s1a, b1), (v2, s2a, c2a)] H11 := by
        have hlpN : H5 lp = none := by
          cases z : H5 lp with
          | none => rfl
          | some o => rw [e6 _ _ z] at hlp; cases hlp
        have R10 := (((((R2.ext (e3.trans e4)).extN n5).ext e6).ext e7).ext e710)
        have R5 := (R2.ext (e3.trans e4)).extN n5
        refine ⟨⟨?_, ?_⟩, tabs_kpl ((T5.ext e6).ext (e7.trans e710)) kL hlp10, (S7.ext e710).kpL kL hlp10, TupX.mono (TupX.mono X9 e10.tup) (tupL kL hlp10), hlp11⟩
        · obtain ⟨x1, x2, x3, y1, y2⟩ := R10.l
          exact ⟨x1, x2, x3, kL _ _ (Ne.symm n2) y1, y2⟩
        · rcases R10.s with (h | ⟨o, h⟩) | h
          · rcases R5.s with (y | ⟨o, y⟩) | y
            · exact .inl (.inl (kL _ _ (fun z => by subst z; rw [y] at hlpN; cases hlpN) h))
            · exact .inl (.inl (kL _ _ (fun z => by subst z; rw [y] at hlpN; cases hlpN) h))
            · exact .inr y
          · exact .inl (.inr ⟨o, kL _ _ (fun z => by subst z; rw [hlp10] at h; cases h) h⟩)
          · exact .inr h
      clear L0 L0' L1 L2 hlp7 hlp10 hlp11 kL
      generalize hLe : [(v0, s0a, a0), (v1, s1a, b1), (v2, s2a, c2a)] = L at LL hdist C11
      obtain ⟨t0, t1, t2, hL3⟩ : ∃ t0 t1 t2 : Tri, L = [t0, t1, t2] := ⟨_, _, _, hLe.symm⟩
      clear hLe
      subst hL3
      have hL : [t0, t1, t2].length = 3 := rfl
      refine ⟨9, rfl, by decide, Nat, List.range 9, fun i => .int (i : Nat), fun r σ Hx => ∃ (n : Nat) (ls : LS) (x6 x7 x8 x9 x10 x11 : Option V), n + r.length ≤ 9 ∧ σ = [some (.ref sc), some (.ref ra), some (.int (turn : Nat)), some (.ref a0), some (.ref la0), some (.ref lp), x6, x7, x8, x9, x10, x11] ∧ Cxt K Tb ra sc ns a0 st la0 l0 lp [t0, t1, t2] Hx ∧ LvL K Hx st ls [t0, t1, t2] ∧ LS.In st l0 n ls, rfl,
        ⟨0, LS.new l0, _, _, _, _, _, _, by rw [List.length_range]; omega, rfl, C11, LL, In.new il⟩, fun _ _ _ _ => trivial, ?_, ?_⟩
      · intro b r2 σ Hx ⟨n, ls, x6, x7, x8, x9, x10, x11, hn, hσ, C, W0, I⟩
        subst hσ
        have hn500 : n < 500 := by rw [List.length_cons] at hn; omega
        -- an operation, and what the first store tells
        refine ⟨_, rfl, ra, sc, ns, rfl, C.R, fun oa H1 op k1 R1 ho hd => ?_⟩
        obtain ⟨c1, c2, c3, hrl, _⟩ := C.R.l
        have C1 := C.row hL k1 R1
        have W1 := W0.kpL k1 hrl
        refine ⟨_, rfl, lp, 0, _, .ref t0.1, rfl, rfl, (by rw [C1.P]; rfl), atI_0, t0.1, t0.2.1, t0.2.2, st, ls, rfl, W1 t0 (by simp), I.ky, ?_, fun ba H2 e2 hF2 _ => ⟨(show (2 : Nat) ≤ sizeLine by rw [sizeLine_eq]; decide), fun tp htp => ?_⟩⟩
        · have := I.sz.p
          omega
        have e3 := Ext.new (o := .tup [V.ref oa, .ref ba]) htp
        have htp3 := upd_same (H := H2) (a := tp) (o := .tup [V.ref oa, .ref ba])
        generalize upd H2 tp (.tup [V.ref oa, .ref ba]) = G at e3 htp3
        have C3 := (C1.ext e2).ext e3
        have W3 := (W1.ext e2).ext e3
        have F3 := hF2.mono e3.tl
        have O3 := OpAt.mono (e2.trans e3).tup ho
        refine ⟨tp, _, rfl, by rw [htp3]; rfl, rfl, _, _, rfl, _, _, rfl, rfl, ?_⟩
        clear htp3 hF2 W1 C1 W0 C
        -- what is told
        obtain ⟨txt, ls1, hres⟩ : ∃ (txt : Str) (ls1 : LS), (execM st ls op = none ∧ txt = "bad" ∧ ls1 = ls) ∨ ∃ r, execM st ls op = some (ls1, r) ∧ txt = resT r := by
          cases ex : execM st ls op with
          | none => exact ⟨"bad", ls, .inl ⟨rfl, rfl, rfl⟩⟩
          | some z => exact ⟨resT z.2, z.1, .inr ⟨z.2, rfl, rfl⟩⟩
        refine ⟨_, rfl, lp, _, rfl, (by rw [C3.P]; rfl), Tri, [t0, t1, t2], fun t => .ref t.1,
          fun D r acc Hz => ∃ pre : List Tri, [t0, t1, t2] = pre ++ r ∧ G D = none ∧ Hz D = some (.lst acc) ∧ acc = List.replicate pre.length (.str txt) ∧ Cxt K Tb ra sc ns a0 st la0 l0 lp [t0, t1, t2] Hz ∧ TupL G Hz ∧ LvL K Hz st ls1 pre ∧ LvL K Hz st ls r, rfl, (show (3 : Nat) ≤ 16777216 by decide),
          fun D hD => ⟨[], rfl, hD, upd_same, rfl, C3.ext (Ext.new hD), (Ext.new hD).tl, fun t ht => (nomatch ht), W3.ext (Ext.new hD)⟩, fun D r acc Hz ⟨pre, g1, g2, g3, g4, g5, _⟩ => g5.P, ?_, ?_⟩
        · intro D t r acc Hz ⟨pre, g1, g2, g3, g4, g5, g6, g8, g9⟩
          refine ⟨rfl, ?_⟩
          have Lt := g9 t List.mem_cons_self
          have hD1 : D ≠ t.2.1 := fun z => by
            obtain ⟨_, dx, y1, _⟩ := Lt.lst.sb
            rw [← z, g3] at y1
            exact nomatch Option.some.inj y1
          have hdp := hdist
          rw [g1, List.pairwise_append] at hdp
          obtain ⟨p1, p2, p3⟩ := hdp
          rw [List.pairwise_cons] at p2
          have fin : ∀ H5, Kp t.2.1 Hz H5 → LSAt K H5 t.2.1 ls1 → H5 D = some (.lst acc) ∧ ∃ pre : List Tri, [t0, t1, t2] = pre ++ r ∧ G D = none ∧ (upd H5 D (.lst (acc ++ [.str txt]))) D = some (.lst (acc ++ [.str txt])) ∧ acc ++ [.str txt] = List.replicate pre.length (.str txt) ∧ Cxt K Tb ra sc ns a0 st la0 l0 lp [t0, t1, t2] (upd H5 D (.lst (acc ++ [.str txt]))) ∧ TupL G (upd H5 D (.lst (acc ++ [.str txt]))) ∧ LvL K (upd H5 D (.lst (acc ++ [.str txt]))) st ls1 pre ∧ LvL K (upd H5 D (.lst (acc ++ [.str txt]))) st ls r := fun H5 k5 l5 => by
            have hD5 := k5 _ _ hD1 g3
            have s5 : Still K Tb Hz H5 := .kps Lt.lst k5
            have kD : Kp D H5 (upd H5 D (.lst (acc ++ [.str txt]))) := Kp.set
            have L5 : LvL K H5 st ls1 (pre ++ [t]) := fun x hx => by
              rcases List.mem_append.mp hx with y | y
              · exact (g8 x y).other Lt.lst k5 (p3 x y t List.mem_cons_self)
              · rw [List.mem_singleton.mp y]
                exact Lt.kp k5 l5
            have L6 : LvL K H5 st ls r := fun x hx => (g9 x (List.mem_cons_of_mem _ hx)).other Lt.lst k5 (Ne.symm (p2.1 x hx))
            refine ⟨hD5, pre ++ [t], by rw [g1]; simp, g2, upd_same, by rw [g4, List.length_append, List.length_singleton, List.replicate_succ'], (g5.still s5).kpD C3 g2 kD hD5, (g6.trans s5.tl).own g2 kD hD5, L5.kpL kD hD5, L6.kpL kD hD5⟩
          refine ⟨_, rfl, _, rfl, t.1, t.2.1, t.2.2, oa, st, l0, n, ls, op, rfl, Lt, I, hn500, OpAt.mono g6.toTup O3, hd, fun ls' rr hex H5 k5 l5 => ?_, fun hex H5 k5 l5 => ?_⟩
          · rcases hres with ⟨z, _⟩ | ⟨r', z1, z2⟩
            · rw [hex] at z; cases z
            · rw [hex] at z1
              cases z1
              rw [← z2]
              exact fin H5 k5 l5
          · rcases hres with ⟨_, z2, z3⟩ | ⟨r', z1, _⟩
            · rw [← z2]
              exact fin H5 k5 (by rw [z3]; exact l5)
            · rw [hex] at z1; cases z1
        intro D acc H4 ⟨pre, g1, g2, g3, g4, C4, g6, W4, _⟩
        have g1 : pre = [t0, t1, t2] := by simpa using g1.symm
        subst g1
        have F4 := F3.mono g6
        have O4 := OpAt.mono g6.toTup O3
        have g3 : H4 D = some (.lst [.str txt, .str txt, .str txt]) := by rw [g3, g4]; rfl
        have hDd : ∀ {Hz : Hp} {q : Addr}, Hz q = some (.lst [.str txt, .str txt, .str txt]) → Dp K Hz (.ref q) (.list [.str txt, .str txt, .str txt]) := fun {Hz q} h => .lst (.of h) (.cons (.str _) (.cons (.str _) (.cons (.str _) .nil)))
        clear g4 g6 C3 W3 F3 O3
        have I1 : LS.In st l0 (n + 1) ls1 := by
          rcases hres with ⟨_, _, z⟩ | ⟨r', z1, _⟩
          · rw [z]
            exact CC.In.mono I
          · exact CC.In.step ok I hn500 hd z1
        have stx : PyData.strOk txt = true := by
          rcases hres with ⟨_, z, _⟩ | ⟨r', z1, z2⟩
          · rw [z]; decide +kernel
          · rw [z2]
            exact resT_sok (execM_nice ok I hn500 z1)
        have ok3 : dOk 1 (.list [.str txt, .str txt, .str txt]) := dOk.lst fun d hd => by
          simp only [List.mem_cons, List.mem_nil_iff, or_false, or_self] at hd
          subst hd
          exact dOk.str stx
        -- the same is told by all
        refine ⟨_, rfl, _, rfl, D, 0, _, .str txt, rfl, rfl, (by rw [g3]; rfl), atI_0, (show (1 : Nat) ≤ sizeLine by rw [sizeLine_eq]; decide), fun p1 hp1 => ⟨p1, 3, _, rfl, rfl, upd_same, by decide, by decide, (show (3 : Nat) ≤ sizeLine by rw [sizeLine_eq]; decide), fun p2 hp2 => ?_⟩⟩
        have e5 := (Ext.new (o := .lst [V.str txt]) hp1).trans (Ext.new (o := .lst (List.replicate (3 : Int).toNat [V.str txt]).flatten) hp2)
        have hp2s : upd (upd H4 p1 (.lst [V.str txt])) p2 (.lst (List.replicate (3 : Int).toNat [V.str txt]).flatten) p2 = some (.lst [V.str txt, .str txt, .str txt]) := upd_same
        generalize upd (upd H4 p1 (.lst [V.str txt])) p2 (.lst (List.replicate (3 : Int).toNat [V.str txt]).flatten) = H5 at e5 hp2s
        refine ne_same (hDd (e5 _ _ g3)) (hDd hp2s) ok3 ⟨false, rfl, ?_⟩
        have W5 := W4.ext e5
        have C5 := C4.ext e5
        have okL : dOk 2 (.list [.tuple (ls1.f.1.map layD), .tuple (ls1.f.1.map layD), .tuple (ls1.f.1.map layD)]) := dOk.lst fun d hd => by
          simp only [List.mem_cons, List.mem_nil_iff, or_false, or_self] at hd
          subst hd
          exact (layN_of I1.good.il).dOk
        have lvV : ∀ {Hz : Hp}, Ext H5 Hz → ∀ t, t ∈ [t0, t1, t2] → ∃ dx fs, Hz t.1 = some (.ins (gA K "Live") dx fs) := fun {Hz} e t ht => by
          obtain ⟨dx, hv⟩ := (W5 t ht).live
          exact ⟨_, _, e _ _ hv⟩
        refine ⟨_, rfl, lp, _, rfl, (by rw [C5.P]; rfl), Tri, [t0, t1, t2], fun t => .ref t.1, fun D2 r acc Hz => ∃ as : List Addr, H5 D2 = none ∧ Hz D2 = some (.lst acc) ∧ acc = as.map V.ref ∧ as.length + r.length = 3 ∧ (∀ a, a ∈ as → LayX Hz a ls1.f.1) ∧ (∀ t, t ∈ r → t ∈ [t0, t1, t2]) ∧ Ext H5 Hz, rfl, (show (3 : Nat) ≤ 16777216 by decide),
          fun D2 hD2 => ⟨[], hD2, upd_same, rfl, rfl, fun a ha => (nomatch ha), fun t ht => ht, Ext.new hD2⟩, fun D2 r acc Hz ⟨as, y1, y2, y3, y4, y5, y6, y7⟩ => y7 _ _ C5.P, ?_, ?_⟩
        · intro D2 t r acc Hz ⟨as, y1, y2, y3, y4, y5, y6, y7⟩
          have ht := y6 t List.mem_cons_self
          obtain ⟨dx, fs, hv⟩ := lvV y7 t ht
          refine ⟨rfl, ?_⟩
          refine ⟨_, rfl, t.1, dx, fs, rfl, hv, t.1, t.2.1, t.2.2, st, ls1, rfl, (W5 t ht).ext y7, fun la hla => ⟨y2, as ++ [la], y1, upd_same, by rw [y3]; simp, by rw [List.length_append, List.length_singleton]; rw [List.length_cons] at y4; omega, fun a ha => ?_, fun x hx => y6 x (List.mem_cons_of_mem _ hx), ?_⟩⟩
          · have kD : Kp D2 Hz (upd Hz D2 (.lst (acc ++ [V.ref la]))) := Kp.set
            rcases List.mem_append.mp ha with z | z
            · exact TupX.mono (y5 a z) (tupL kD y2)
            · rw [List.mem_singleton.mp z]
              exact TupX.mono hla (tupL kD y2)
          · exact y7.set y1
        intro D2 acc H6 ⟨as, y1, y2, y3, y4, y5, _, e6⟩
        obtain ⟨w0, w1, w2, has⟩ : ∃ w0 w1 w2 : Addr, as = [w0, w1, w2] := by
          match as, y4 with
          | [a, b, c], _ => exact ⟨a, b, c, rfl⟩
        subst has
        subst y3
        obtain ⟨dx0, fs0, hv0⟩ := lvV e6 t0 (by simp)
        refine ⟨_, rfl, lp, 0, _, .ref t0.1, rfl, rfl, (by rw [(C5.ext e6).P]; rfl), atI_0, t0.1, dx0, fs0, rfl, hv0, t0.1, t0.2.1, t0.2.2, st, ls1, rfl, (W5 t0 (by simp)).ext e6, fun lb hlb => ⟨(show (1 : Nat) ≤ sizeLine by rw [sizeLine_eq]; decide), fun p3 hp3 => ⟨p3, 3, _, rfl, rfl, upd_same, by decide, by decide, (show (3 : Nat) ≤ sizeLine by rw [sizeLine_eq]; decide), fun p4 hp4 => ?_⟩⟩⟩
        have e7 := (Ext.new (o := .lst [V.ref lb]) hp3).trans (Ext.new (o := .lst (List.replicate (3 : Int).toNat [V.ref lb]).flatten) hp4)
        have hp4s : upd (upd H6 p3 (.lst [V.ref lb])) p4 (.lst (List.replicate (3 : Int).toNat [V.ref lb]).flatten) p4 = some (.lst [V.ref lb, .ref lb, .ref lb]) := upd_same
        generalize upd (upd H6 p3 (.lst [V.ref lb])) p4 (.lst (List.replicate (3 : Int).toNat [V.ref lb]).flatten) = H7 at e7 hp4s
        have lyD : ∀ a, LayX H6 a ls1.f.1 → Dp K H7 (.ref a) (.tuple (ls1.f.1.map layD)) := fun a h => Dp.lay (LayX.at (TupX.mono h e7.tup))
        refine ne_same (.lst (.of (e7 _ _ y2)) (.cons (lyD _ (y5 w0 (by simp))) (.cons (lyD _ (y5 w1 (by simp))) (.cons (lyD _ (y5 w2 (by simp))) .nil)))) (.lst (.of hp4s) (.cons (lyD _ hlb) (.cons (lyD _ hlb) (.cons (lyD _ hlb) .nil)))) okL ⟨false, rfl, ?_⟩
        have e57 := e6.trans e7
        have e47 := e5.trans e57
        have C7 := C5.ext e57
        have W7 := W5.ext e57
        have F7 := F4.mono e47.tl
        have O7 := OpAt.mono e47.tup O4
        have D7 := e47 _ _ g3
        clear C5 W5 lvV F4 O4 g3 C4 W4 hp2s hp4s
        -- it is right
        have hres2 : (txt = "bad" ∧ ls1 = ls) ∨ ∃ r, execM st ls op = some (ls1, r) ∧ txt = resT r := hres.imp (fun z => ⟨z.2.1, z.2.2⟩) id
        refine ⟨_, rfl, _, rfl, lp, 0, _, .ref t0.1, rfl, rfl, (by rw [C7.P]; rfl), atI_0, _, rfl, _, rfl, _, rfl, (show (2 : Nat) ≤ sizeLine by rw [sizeLine_eq]; decide), fun tw htw => ?_⟩
        have e8 := Ext.new (o := .tup [V.ref D, .ref ba]) htw
        refine ⟨a0, t0.1, t0.2.1, t0.2.2, oa, tw, D, ba, st, ls, ls1, op, txt, [.str txt, .str txt], rfl, C7.S.ext e8, (W7 t0 (by simp)).ext e8, OpAt.mono e8.tup O7, hd, upd_same, e8 _ _ D7, F7.mono e8.tl, I.good, hres2, fun H9 e9 => ⟨true, rfl, ?_⟩⟩
        have e79 := e8.trans e9
        have C9 := C7.ext e79
        have W9 := W7.ext e79
        have F9 := F7.mono e79.tl
        have D9 := e79 _ _ D7
        clear C7 W7 F7 O7 D7
        refine ⟨_, rfl, D, 0, _, .str txt, rfl, rfl, (by rw [D9]; rfl), atI_0, rfl, _, rfl, ?_⟩
        have hlen : n + 1 + r2.length ≤ 9 := by rw [List.length_cons] at hn; omega
        by_cases hb : txt = "bad"
        · show (if (!decide (V.str txt = V.str "bad")) = true then _ else _)
          rw [if_neg (by simp [hb])]
          exact ⟨n + 1, ls1, _, _, _, _, _, _, hlen, rfl, C9, W9, I1⟩
        · show (if (!decide (V.str txt = V.str "bad")) = true then _ else _)
          rw [if_pos (by simp [hb])]
          obtain ⟨rr, hex, _⟩ : ∃ r, execM st ls op = some (ls1, r) ∧ txt = resT r := by
            rcases hres2 with ⟨z, _⟩ | z
            · exact absurd z hb
            · exact z
          obtain ⟨lb, hbk, hbf, hbs, hbp, hbu, hag⟩ := In.back ok I hd hex
          have kyb : lb.Ky := ⟨by rw [hbs]; exact I.ky.nd, by rw [hbs]; exact I.ky.m⟩
          have lenp := I.sz.p
          have ok4 : dOk 4 (.tuple ((factsD ls).take 4)) := dOk.tup fun d hd => factsD_ok (l0 := l0) (n := n) I.good.il I.dr d (List.mem_of_mem_take hd)
          refine ⟨_, rfl, lp, _, rfl, (by rw [C9.P]; rfl), Tri, [t0, t1, t2], fun t => .ref t.1, fun r σ Hz => ∃ (y : Option V), σ = [some (.ref sc), some (.ref ra), some (.int (turn : Nat)), some (.ref a0), some (.ref la0), some (.ref lp), some (.int ((b : Nat) : Int)), some (.ref oa), some (.ref ba), some (.ref D), y, x11] ∧ Cxt K Tb ra sc ns a0 st la0 l0 lp [t0, t1, t2] Hz ∧ LvL K Hz st ls1 [t0, t1, t2] ∧ FactsT Hz ba ls ∧ ∀ t, t ∈ r → t ∈ [t0, t1, t2], rfl,
            ⟨_, rfl, C9, W9, F9, fun t ht => ht⟩, fun r σ Hz ⟨_, _, h, _⟩ => h.P, ?_, fun σ Hz ⟨y, hσ, h1, h2, _⟩ => ?_⟩
          · intro t r σ Hz ⟨y, hσ, Cz, Wz, Fz, hr2⟩
            subst hσ
            have ht := hr2 t List.mem_cons_self
            have Lt := Wz t ht
            obtain ⟨dx, hv⟩ := Lt.live
            refine ⟨_, rfl, t.1, dx, _, rfl, hv, rfl, t.1, t.2.1, t.2.2, st, ls1, rfl, Lt, by rw [I1.un]; simp, .inr ⟨lb, hbk, fun Ha ka la => ⟨true, rfl, ?_⟩⟩⟩
            have sa := Still.kps (K := K) (Tb := Tb) Lt.lst ka
            have La := Lt.kp ka la
            refine ⟨_, rfl, t.1, t.2.1, t.2.2, st, lb, rfl, La, kyb, by rw [hbp]; omega, fun q1 Hb eb hFb _ => ?_⟩
            obtain ⟨xs, hx1, _⟩ := hFb.dpA (K := K)
            have Fb := (Fz.mono sa.tl).mono eb.tl
            refine ⟨4, rfl, q1, xs, rfl, hx1, fun q2 Hc ec hq2 => ?_⟩
            have Fc := Fb.mono ec.tl
            obtain ⟨ys, hy1, _⟩ := Fc.dpA (K := K)
            refine ⟨_, rfl, 4, rfl, ba, ys, rfl, hy1, fun q3 Hd ed hq3 => ?_⟩
            have ecd := ec.trans ed
            obtain ⟨xs', hx1', hx2'⟩ := (hFb.mono ecd.tl).dpA (K := K)
            obtain ⟨ys', hy1', hy2'⟩ := (Fc.mono ed.tl).dpA (K := K)
            have ex : xs' = xs := Option.some.inj (hx1'.symm.trans (ecd.tupO hx1))
            have ey : ys' = ys := Option.some.inj (hy1'.symm.trans (ed.tupO hy1))
            subst ex ey
            have hq2 : tupO (Hc q2) = some (xs'.take 4) := by rw [hq2]; exact congrArg some (cutV_hi (k := 4))
            have hq3 : tupO (Hd q3) = some (ys'.take 4) := by rw [hq3]; exact congrArg some (cutV_hi (k := 4))
            have dx2 := dpAll_take 4 hx2'
            rw [facts_take hbf hbs] at dx2
            refine ne_same (.tup (sqT_of (ed.tupO hq2)) dx2) (.tup (sqT_of hq3) (dpAll_take 4 hy2')) ok4 ⟨false, rfl, ?_⟩
            have ebd := eb.trans ecd
            have Ld := La.ext ebd
            obtain ⟨dy, hvd⟩ := Ld.live
            refine ⟨_, rfl, t.1, dy, _, rfl, hvd, rfl, t.1, t.2.1, t.2.2, st, lb, rfl, Ld, by rw [hbp]; omega, .inr ⟨ls1, hag, fun He ke le => ⟨true, rfl, ?_⟩⟩⟩
            have se := Still.kps (K := K) (Tb := Tb) Ld.lst ke
            have sall : Still K Tb Hz He := (sa.trans (.ext ebd)).trans se
            refine ⟨_, rfl, Cz.still sall, fun x hx => ?_, Fz.mono sall.tl, fun x hx => hr2 x (List.mem_cons_of_mem _ hx)⟩
            rcases pw_cases hdist hx ht with rfl | hne
            · exact Ld.kp ke le
            · exact (((Wz x hx).other Lt.lst ka hne).ext ebd).other Ld.lst ke hne
          · subst hσ
            exact ⟨n + 1, ls1, _, _, _, _, _, _, hlen, rfl, h1, h2, I1⟩
      · intro σ Hx ⟨n, ls, x6, x7, x8, x9, x10, x11, hn, hσ, C, W0, I⟩
        subst hσ
        have hn9 : n ≤ 9 := by simpa using hn
        have hpast := I.sz.p
        have hdays := I.sz.d
        have okF : dOk 4 (.tuple (factsD ls)) := dOk.tup (factsD_ok (l0 := l0) (n := n) I.good.il I.dr)
        have okF3 : dOk 5 (.list [.tuple (factsD ls), .tuple (factsD ls), .tuple (factsD ls)]) := dOk.lst fun d hd => by
          simp only [List.mem_cons, List.mem_nil_iff, or_false, or_self] at hd
          subst hd
          exact okF
        -- all tell the same
        refine ⟨_, rfl, lp, _, rfl, (by rw [C.P]; rfl), Tri, [t0, t1, t2], fun t => .ref t.1, fun D r acc Hz => ∃ as : List Addr, Hx D = none ∧ Hz D = some (.lst acc) ∧ acc = as.map V.ref ∧ as.length + r.length = 3 ∧ (∀ a, a ∈ as → ∀ H'', Kp D Hz H'' → FactsT H'' a ls) ∧ (∀ t, t ∈ r → t ∈ [t0, t1, t2]) ∧ Ext Hx Hz, rfl, (show (3 : Nat) ≤ 16777216 by decide),
          fun D hD => ⟨[], hD, upd_same, rfl, rfl, fun a ha => (nomatch ha), fun t ht => ht, Ext.new hD⟩, fun D r acc Hz ⟨as, y1, y2, y3, y4, y5, y6, y7⟩ => y7 _ _ C.P, ?_, ?_⟩
        · intro D t r acc Hz ⟨as, y1, y2, y3, y4, y5, y6, y7⟩
          have ht := y6 t List.mem_cons_self
          refine ⟨rfl, ?_⟩
          refine ⟨_, rfl, t.1, t.2.1, t.2.2, st, ls, rfl, (W0 t ht).ext y7, I.ky, by omega, fun p Hp ep hF hFD => ?_⟩
          have hDp := ep _ _ y2
          have kD : Kp D Hp (upd Hp D (.lst (acc ++ [V.ref p]))) := Kp.set
          refine ⟨hDp, as ++ [p], y1, upd_same, by rw [y3]; simp, by rw [List.length_append, List.length_singleton]; rw [List.length_cons] at y4; omega, fun a ha H'' k => ?_, fun x hx => y6 x (List.mem_cons_of_mem _ hx), (y7.trans ep).set y1⟩
          rcases List.mem_append.mp ha with z | z
          · exact y5 a z H'' (((ep.kp D).trans kD).trans k)
          · rw [List.mem_singleton.mp z]
            exact hFD D acc H'' y2 (kD.trans k)
        intro D acc Hy ⟨as, y1, y2, y3, y4, y5, _, ey⟩
        obtain ⟨w0, w1, w2, has⟩ : ∃ w0 w1 w2 : Addr, as = [w0, w1, w2] := by
          match as, y4 with
          | [a, b, c], _ => exact ⟨a, b, c, rfl⟩
        subst has
        subst y3
        have Cy := C.ext ey
        have Wy := W0.ext ey
        refine ⟨_, rfl, lp, 0, _, .ref t0.1, rfl, rfl, (by rw [Cy.P]; rfl), atI_0, t0.1, t0.2.1, t0.2.2, st, ls, rfl, Wy t0 (by simp), I.ky, by omega, fun p Hp ep hF _ => ⟨(show (1 : Nat) ≤ sizeLine by rw [sizeLine_eq]; decide), fun p1 hp1 => ⟨p1, 3, _, rfl, rfl, upd_same, by decide, by decide, (show (3 : Nat) ≤ sizeLine by rw [sizeLine_eq]; decide), fun p2 hp2 => ?_⟩⟩⟩
        have e1 := (Ext.new (o := .lst [V.ref p]) hp1).trans (Ext.new (o := .lst (List.replicate (3 : Int).toNat [V.ref p]).flatten) hp2)
        have hp2s : upd (upd Hp p1 (.lst [V.ref p])) p2 (.lst (List.replicate (3 : Int).toNat [V.ref p]).flatten) p2 = some (.lst [V.ref p, .ref p, .ref p]) := upd_same
        generalize upd (upd Hp p1 (.lst [V.ref p])) p2 (.lst (List.replicate (3 : Int).toNat [V.ref p]).flatten) = H1 at e1 hp2s
        have eyp := ep.trans e1
        have fD : ∀ a, a ∈ [w0, w1, w2] → Dp K H1 (.ref a) (.tuple (factsD ls)) := fun a ha => ((y5 a ha Hy (Kp.refl _ _)).mono eyp.tl).dp
        have fp : Dp K H1 (.ref p) (.tuple (factsD ls)) := (hF.mono e1.tl).dp
        refine ne_same (.lst (.of (eyp _ _ y2)) (.cons (fD w0 (by simp)) (.cons (fD w1 (by simp)) (.cons (fD w2 (by simp)) .nil)))) (.lst (.of hp2s) (.cons fp (.cons fp (.cons fp .nil)))) okF3 ⟨false, rfl, ?_⟩
        have C1 := Cy.ext eyp
        have W1 := Wy.ext eyp
        clear y5 Cy Wy fD fp hp2s hF
        -- the operations again
        obtain ⟨dx1, hv1⟩ := (W1 t1 (by simp)).live
        obtain ⟨rs, hrc⟩ := I.rc
        refine ⟨rfl, _, rfl, _, rfl, _, rfl, lp, 1, _, .ref t1.1, rfl, rfl, (by rw [C1.P]; rfl), atI_1, t1.1, dx1, _, rfl, hv1, t1.1, t1.2.1, t1.2.2, st, ls, rfl, W1 t1 (by simp), by omega, fun hl Ha l hn1 ea hl1 hl2 hops => ?_⟩
        have Ca := C1.ext ea
        have hll : l.length ≤ 1000 := by
          have := congrArg List.length hl2
          rw [List.length_map, List.length_map] at this
          omega
        refine ⟨a0, la0, hl, st, l0, l, ls, rs, rfl, Ca.S, ok, Ca.X, il, hl1, fun q hq => ⟨OpAt.mono ea.tup (hops q hq), ?_⟩, hll, by rw [hl2]; exact hrc, fun v' s' Hb eb hv' Lv => ?_⟩
        · have : q.2 ∈ ls.past.map Prod.fst := by rw [← hl2]; exact List.mem_map.mpr ⟨q, hq, rfl⟩
          obtain ⟨en, he1, he2⟩ := List.mem_map.mp this
          rw [← he2]
          exact (I.dr en he1).ok
        refine ⟨v', s', a0, st, ls, rfl, Lv, I.ky, by omega, fun p3 Hc ec hF3 _ => ?_⟩
        have eac := (ea.trans eb).trans ec
        have Cc := C1.ext eac
        have Wc := W1.ext eac
        refine ⟨_, rfl, lp, 0, _, .ref t0.1, rfl, rfl, (by rw [Cc.P]; rfl), atI_0, t0.1, t0.2.1, t0.2.2, st, ls, rfl, Wc t0 (by simp), I.ky, by omega, fun p4 Hd ed hF4 _ => ne_same (hF3.mono ed.tl).dp hF4.dp okF ⟨false, rfl, ?_⟩⟩
        have Cd := Cc.ext ed
        have Wd := Wc.ext ed
        clear Ca Cc Wc hF3 hF4 Lv C1 W1
        -- the day's warmth
        have L2d := Wd t2 (by simp)
        obtain ⟨dx2, hv2⟩ := L2d.live
        refine ⟨_, rfl, lp, 2, _, .ref t2.1, rfl, rfl, (by rw [Cd.P]; rfl), rfl, ?_⟩
        refine ⟨_, rfl, t2.1, dx2, _, rfl, hv2, t2.1, t2.2.1, t2.2.2, st, ls, rfl, L2d, ?_⟩
        refine ⟨_, rfl, t2.1, dx2, _, rfl, hv2, rfl, t2.1, t2.2.1, t2.2.2, st, ls, rfl, L2d, by omega, by omega, fun He ke le => ?_⟩
        refine ⟨_, rfl, rfl, false, by simp, ?_⟩
        have s2 := Still.kps (K := K) (Tb := Tb) L2d.lst ke
        have Le := L2d.kp ke le
        obtain ⟨dx3, hv3⟩ := Le.live
        refine ⟨_, rfl, t2.1, dx3, _, rfl, hv3, t2.1, t2.2.1, t2.2.2, st, _, rfl, Le, fun p5 hp5 => ⟨1, rfl, p5, -1, _, .int ls.f.2.1, rfl, rfl, (by rw [upd_same]; rfl), CC.atI_last (by show ((ls.f.2.2 ++ [ls.f.2.1]).map V.int).getLast? = _; simp), _, rfl, rfl, false, by simp, ?_⟩⟩
        have e6 := Ext.new (o := .lst ((ls.goOn .shut (ls.f.1, 0, ls.f.2.2 ++ [ls.f.2.1]) ls.sh).f.2.2.map V.int)) hp5
        have Lf := Le.ext e6
        obtain ⟨dx4, hv4⟩ := Lf.live
        refine ⟨_, rfl, t2.1, dx4, _, rfl, hv4, t2.1, t2.2.1, t2.2.2, st, _, rfl, Lf, rfl, false, by simp [LS.goOn], ?_⟩
        refine ⟨_, rfl, t2.1, dx4, _, rfl, hv4, rfl, t2.1, t2.2.1, t2.2.2, st, _, rfl, Lf, (by simp only [LS.goOn, List.length_append, List.length_singleton]; omega), (by simp only [LS.goOn, List.length_append, List.length_singleton]; omega), fun Hg kg lg => ⟨rfl, false, by simp [LS.goOn], ?_⟩⟩
        have s3 := Still.kps (K := K) (Tb := Tb) Lf.lst kg
        have Cg := Cd.still ((s2.trans (.ext e6)).trans s3)
        exact ⟨_, _, _, _, _, _, _, _, _, _, rfl, Cg.R, Cg.T⟩
end
end CC
set_option maxHeartbeats 4000000
/-! CCFin: what the head tells, carried to the end. -/
namespace CC
open PySem PySem.Spec PyProof.Rows L2
variable {P : Program} {w : World} {K : PySem.W.Frag} {mg : Str → Option Value} {base : Heap}
theorem codeA_eq {a : Addr} {oc : Value} {od : Option Addr} {osl : Array (Option Value)} {fd : FuncData} {c : Addr} (lk : K.lookup a = some ⟨oc, od, .func fd, osl⟩) (e : fd.code = .ref c) : codeA K a = c := by
  unfold codeA
  rw [lk]
  show (match fd.code with | .ref c => c | _ => 0) = c
  rw [e]
theorem tabF_of {x q : Str} {st : Stmt} {a : Addr} (D : ∃ fd, Fun K x q st a fd) (B : LamX.TabB base mg (codeA K a) (tabA K a)) : TabF K base mg a (tabA K a) := by
  intro oc od x' qual params body scope dV kV doc pm an cdv ct osl lk
  obtain ⟨fd, F⟩ := D
  obtain ⟨oc2, od2, kV2, doc2, pm2, an2, cdv2, ct2, osl2, rfl, lk2, hcd⟩ := F.ex
  obtain ⟨c, rfl⟩ := He.codeIn_ref hcd
  rw [lk] at lk2
  have z := congrArg (fun o : Option Obj => match o with | some ⟨_, _, .func fd, _⟩ => fd.code | _ => .none) lk2
  have z : cdv = .ref c := z
  subst z
  exact ⟨c, rfl, by rw [codeA_eq lk rfl] at B; exact B⟩
/-- the code objects that grow a table, with it -/
def csK (K : PySem.W.Frag) : List (Addr × Addr) := [(codeA K (mA K "Row" "read_crates"), tabA K (mA K "Row" "read_crates")), (codeA K (gA K "parse_store"), tabA K (gA K "parse_store"))]
def tbK (K : PySem.W.Frag) : List (Addr × Str) := [(tabA K (mA K "Row" "read_crates"), q1), (tabA K (gA K "parse_store"), q2)]
theorem fin_law {h : Heap} (c : SaysM w h K) (T : Txt K mg w) (TB : ∀ p, p ∈ csK K → LamX.TabB base mg p.1 p.2) : FnG P w K mg base 75 (gA K "law") (spLaw K (tbK K)) :=
  ok_law T (tabF_of T.d_Row_read_crates (TB _ (List.mem_cons_self ..))) (List.mem_cons_self ..)
    (fun p hp e => by
      rcases List.mem_cons.mp hp with rfl | hp
      · rfl
      · rcases List.mem_cons.mp hp with rfl | hp
        · exact absurd e.symm c.ne
        · cases hp)
    (tabF_of T.d_parse_store (TB _ (List.mem_cons_of_mem _ (List.mem_cons_self ..)))) (List.mem_cons_of_mem _ (List.mem_cons_self ..))
    (fun p hp e => by
      rcases List.mem_cons.mp hp with rfl | hp
      · exact absurd e c.ne
      · rcases List.mem_cons.mp hp with rfl | hp
        · rfl
        · cases hp)
theorem csK_all {Z : Addr × Addr → Prop} (h1 : Z (codeA K (mA K "Row" "read_crates"), tabA K (mA K "Row" "read_crates"))) (h2 : Z (codeA K (gA K "parse_store"), tabA K (gA K "parse_store"))) : ∀ p, p ∈ csK K → Z p := fun p hp => by
  rcases List.mem_cons.mp hp with rfl | hp
  · exact h1
  · rcases List.mem_cons.mp hp with rfl | hp
    · exact h2
    · cases hp
theorem fin_tabs {H : Hp} (hH : ∀ p, p ∈ csK K → H p.2 = some (.tbl #[])) : LamX.Tabs (tbK K) H := fun p hp => by
  rcases List.mem_cons.mp hp with rfl | hp
  · exact LamX.TabS.nil (hH _ (List.mem_cons_self ..))
  · rcases List.mem_cons.mp hp with rfl | hp
    · exact LamX.TabS.nil (hH _ (List.mem_cons_of_mem _ (List.mem_cons_self ..)))
    · cases hp
/-- the law's call, when the head has told what it tells -/
theorem fin_call {s1 : Shared} {mb : Str → Option Value} {fa a : Addr} {vs : List Value} {ns : List Int} (c : SaysM w s1.heap K) (KX : K.In s1.heap) (hns : s1.heap.Ns mainGlobals mg) (hb : s1.heap.Ns builtinsNs mb) (hbb : ∀ x : Str, x ≠ "__name__" → mb x = bootBuiltins x) (hlim : s1.heap.NoLimit) (hg : s1.gens = #[])
    (hbm : ∃ (bm : Addr) (ob : Obj), mg "__builtins__" = some (.ref bm) ∧ bm ≠ builtinsNs ∧ s1.heap.get? bm = some ob ∧ ob.cls = .type "module" ∧ ob.dict = some builtinsNs ∧ ob.data = .plain)
    (hmg : mg "law" = some (.ref fa)) (ha : s1.heap.get? a = some { cls := .type "list", data := .seq vs.toArray }) (hi : IntsAre vs ns) (hl : ns.length ≤ sizeLine) :
    codeAny (model P w) callerA (.call (.ref fa) ⟨[.ref a], []⟩) (fun r s2 => r = .ok (.ret (.bool true)) ∧ OldK s1.heap s2.heap ∧ s2.os = s1.os ∧ AllBare s2.gens) s1 := by
  have T : Txt K mg w := c.txt KX hns
  have e : fa = gA K "law" := by
    have z := hmg.symm.trans T.g_law.1
    exact Value.ref.inj (Option.some.inj z)
  subst e
  exact callG (cs := csK K) KX hns hb hbb hlim hg (csK_all c.em1 c.em2) (csK_all c.out1 c.out2) (csK_all (PySem.W.codeHd_of_K KX c.hd1) (PySem.W.codeHd_of_K KX c.hd2)) hbm ha hi hl ⟨rfl, by decide, by decide⟩
    (fun base hK hB TB => fin_law c T TB) fun H hH hS => ⟨a, ns, rfl, hS, fin_tabs hH, fun _ => rfl⟩
end CC
set_option maxHeartbeats 0
open PySem PySem.W PySem.Calls PyProof.Rows
theorem PySem.Challenge.cw_coldcrates_k57_whole_stores_through_text_holds : PySem.Challenge.rw_coldcrates_k57_whole_stores_through_text.Holds := by
  w_on; o_law
  refine HandSHeadRun.head_any (r := OpenLaw.row PySem.Challenge.rw_coldcrates_k57_whole_stores_through_text) (q := view (OpenLaw.row PySem.Challenge.rw_coldcrates_k57_whole_stores_through_text).prog [75]) (H := CC.hookM) (ob := CC.obT) (M := 9000) (loose := CC.loose) (d := HandSHeadRun.topDef (OpenLaw.row PySem.Challenge.rw_coldcrates_k57_whole_stores_through_text).prog 75) (kwd := []) CC.obT_eq
    (by kernel_rfl) (fun s => by kernel_rfl) CC.HdRun.hd_run (by kernel_rfl) (by kernel_rfl) (by kernel_rfl) (by rfl) (by first | assumption | decide +kernel) (by decide +kernel) ⟨rfl, rfl, rfl, rfl, rfl, by decide +kernel⟩ ?hw ?hc
  case hw => w_witness2
  case hc =>
    refine Att.attach_callB (l := PySem.Challenge.rw_coldcrates_k57_whole_stores_through_text) (n := 63) rfl (by kernel_rfl) fun w s0 s1 mg mb fa o pm cd doc a vs ns G Y ho hd hcd hmg hobj hints hlen hbits hg => ?_
    obtain ⟨K, KX, c⟩ := Y
    have hm : mg ("law" : PySem.Str) = some (.ref fa) := by
      have e : (HandSHeadRun.topDef (OpenLaw.row PySem.Challenge.rw_coldcrates_k57_whole_stores_through_text).prog 75).name = ("law" : PySem.Str) := by kernel_rfl
      rw [← e]
      exact hmg
    exact CC.fin_call c KX G.T.g G.T.b G.T.builtins G.T.nolimit hg G.T.bmain hm hobj hints (Nat.le_trans hlen (by decide))
