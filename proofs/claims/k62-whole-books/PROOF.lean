import PyProof.Rows.All
import Wide.All
import OpenK.AllK
import Wide.FinOn
import KE.KStateDown
import Lean
import HandS.ForMost
import HandS.HeadHook4
import HandS.HeadWalk
import PySem.Challenge.RW_purepowers_k62_whole_books_taken_back
import KE.KExcInit
import HandS.Property
import HandS.ExcIs
import HandS.Head2
import HandS.Flow
import HandS.Style
import HandS.TupAny
import HandS.IsInst
import HandS.Exc
import HandS.ExcOwn
import HandS.WordsExc
import HandS.TryOnly
import HandS.ExcField
import HandS.Wide
import HandS.WideMore
import HandS.RaiseMore
import HandS.DictComp
import HandS.More
import HandS.Zip
import HandS.Evl
import HandS.ExcInit
import HandS.ExcCtx
import HandS.HotCalls
import KE.KExcMake
import HandS.Walk
import KE.GoesEnum
import OpenK.KOps
import KE.KOpsOwn
import PyProof.Conv_bool
import HandS.Hot
import PyProof.Rows.CountFlat
import HandS.Lambda
import PyProof.ReprRoads
import PyProof.ReprLen
import HandS.EndTab
section
set_option Elab.async false
set_option linter.all false
set_option maxRecDepth 100000
set_option maxHeartbeats 4000000
namespace KB
open PySem PySem.Spec PyProof.Rows L2
def top (i : Nat) : Stmt := PySem.Challenge.pw_purepowers_k62_whole_books_taken_back.main.body.getD i (.Pass ⟨0, 0, 0, 0⟩)
abbrev s_InvalidName_init : Stmt := inClass (top 3) 0
abbrev n_InvalidName_init : List Str := ["self", "given"]
theorem sc_InvalidName_init : FnScope n_InvalidName_init ["self", "given"] (defScope s_InvalidName_init) := ⟨rfl, rfl, rfl, by decide +kernel, rfl, by decide +kernel, by decide +kernel⟩
abbrev s_InvalidNumber_init : Stmt := inClass (top 4) 0
abbrev n_InvalidNumber_init : List Str := ["self", "given"]
theorem sc_InvalidNumber_init : FnScope n_InvalidNumber_init ["self", "given"] (defScope s_InvalidNumber_init) := ⟨rfl, rfl, rfl, by decide +kernel, rfl, by decide +kernel, by decide +kernel⟩
abbrev s_InvalidWish_init : Stmt := inClass (top 5) 0
abbrev n_InvalidWish_init : List Str := ["self", "given"]
theorem sc_InvalidWish_init : FnScope n_InvalidWish_init ["self", "given"] (defScope s_InvalidWish_init) := ⟨rfl, rfl, rfl, by decide +kernel, rfl, by decide +kernel, by decide +kernel⟩
abbrev s_InvalidIndex_init : Stmt := inClass (top 6) 0
abbrev n_InvalidIndex_init : List Str := ["self", "given"]
theorem sc_InvalidIndex_init : FnScope n_InvalidIndex_init ["self", "given"] (defScope s_InvalidIndex_init) := ⟨rfl, rfl, rfl, by decide +kernel, rfl, by decide +kernel, by decide +kernel⟩
abbrev s_UnknownName_init : Stmt := inClass (top 8) 0
abbrev n_UnknownName_init : List Str := ["self", "given"]
theorem sc_UnknownName_init : FnScope n_UnknownName_init ["self", "given"] (defScope s_UnknownName_init) := ⟨rfl, rfl, rfl, by decide +kernel, rfl, by decide +kernel, by decide +kernel⟩
abbrev s_Broken_init : Stmt := inClass (top 10) 0
abbrev n_Broken_init : List Str := ["self", "index"]
theorem sc_Broken_init : FnScope n_Broken_init ["self", "index"] (defScope s_Broken_init) := ⟨rfl, rfl, rfl, by decide +kernel, rfl, by decide +kernel, by decide +kernel⟩
abbrev s_InUse_init : Stmt := inClass (top 11) 0
abbrev n_InUse_init : List Str := ["self", "index"]
theorem sc_InUse_init : FnScope n_InUse_init ["self", "index"] (defScope s_InUse_init) := ⟨rfl, rfl, rfl, by decide +kernel, rfl, by decide +kernel, by decide +kernel⟩
abbrev s_is_integer : Stmt := top 16
abbrev n_is_integer : List Str := ["value"]
theorem sc_is_integer : FnScope n_is_integer ["value"] (defScope s_is_integer) := ⟨rfl, rfl, rfl, by decide +kernel, rfl, by decide +kernel, by decide +kernel⟩
abbrev s_is_between : Stmt := top 17
abbrev n_is_between : List Str := ["value", "low", "high"]
theorem sc_is_between : FnScope n_is_between ["value", "low", "high"] (defScope s_is_between) := ⟨rfl, rfl, rfl, by decide +kernel, rfl, by decide +kernel, by decide +kernel⟩
abbrev s_is_name : Stmt := top 18
abbrev n_is_name : List Str := ["value", "sign"]
theorem sc_is_name : FnScope n_is_name ["value"] (defScope s_is_name) := ⟨rfl, rfl, rfl, by decide +kernel, rfl, by decide +kernel, by decide +kernel⟩
abbrev s_power_of : Stmt := top 19
abbrev n_power_of : List Str := ["base", "many", "found", "turn"]
theorem sc_power_of : FnScope n_power_of ["base", "many"] (defScope s_power_of) := ⟨rfl, rfl, rfl, by decide +kernel, rfl, by decide +kernel, by decide +kernel⟩
abbrev s_common_divisor : Stmt := top 20
abbrev n_common_divisor : List Str := ["one", "other"]
theorem sc_common_divisor : FnScope n_common_divisor ["one", "other"] (defScope s_common_divisor) := ⟨rfl, rfl, rfl, by decide +kernel, rfl, by decide +kernel, by decide +kernel⟩
abbrev s_floor_root : Stmt := top 21
abbrev n_floor_root : List Str := ["value", "power", "low", "high", "middle"]
theorem sc_floor_root : FnScope n_floor_root ["value", "power"] (defScope s_floor_root) := ⟨rfl, rfl, rfl, by decide +kernel, rfl, by decide +kernel, by decide +kernel⟩
abbrev s_is_power : Stmt := top 22
abbrev n_is_power : List Str := ["value", "power"]
theorem sc_is_power : FnScope n_is_power ["value", "power"] (defScope s_is_power) := ⟨rfl, rfl, rfl, by decide +kernel, rfl, by decide +kernel, by decide +kernel⟩
abbrev s_prime_divisors : Stmt := top 23
abbrev n_prime_divisors : List Str := ["value", "found", "left", "step"]
theorem sc_prime_divisors : FnScope n_prime_divisors ["value"] (defScope s_prime_divisors) := ⟨rfl, rfl, rfl, by decide +kernel, rfl, by decide +kernel, by decide +kernel⟩
abbrev s_is_number : Stmt := top 26
abbrev n_is_number : List Str := ["value"]
theorem sc_is_number : FnScope n_is_number ["value"] (defScope s_is_number) := ⟨rfl, rfl, rfl, by decide +kernel, rfl, by decide +kernel, by decide +kernel⟩
abbrev s_check_number : Stmt := top 27
abbrev n_check_number : List Str := ["value"]
theorem sc_check_number : FnScope n_check_number ["value"] (defScope s_check_number) := ⟨rfl, rfl, rfl, by decide +kernel, rfl, by decide +kernel, by decide +kernel⟩
abbrev s_lowest : Stmt := top 28
abbrev n_lowest : List Str := ["top", "bottom", "common"]
theorem sc_lowest : FnScope n_lowest ["top", "bottom"] (defScope s_lowest) := ⟨rfl, rfl, rfl, by decide +kernel, rfl, by decide +kernel, by decide +kernel⟩
abbrev s_raised : Stmt := top 29
abbrev n_raised : List Str := ["number", "power"]
theorem sc_raised : FnScope n_raised ["number", "power"] (defScope s_raised) := ⟨rfl, rfl, rfl, by decide +kernel, rfl, by decide +kernel, by decide +kernel⟩
abbrev s_whole_root : Stmt := top 30
abbrev n_whole_root : List Str := ["value", "power", "low", "high", "middle"]
theorem sc_whole_root : FnScope n_whole_root ["value", "power"] (defScope s_whole_root) := ⟨rfl, rfl, rfl, by decide +kernel, rfl, by decide +kernel, by decide +kernel⟩
abbrev s_base_and_exponent : Stmt := top 31
abbrev n_base_and_exponent : List Str := ["top", "bottom", "power", "bound"]
theorem sc_base_and_exponent : FnScope n_base_and_exponent ["top", "bottom"] (defScope s_base_and_exponent) := ⟨rfl, rfl, rfl, by decide +kernel, rfl, by decide +kernel, by decide +kernel⟩
abbrev s_base_for : Stmt := top 32
abbrev n_base_for : List Str := ["number"]
theorem sc_base_for : FnScope n_base_for ["number"] (defScope s_base_for) := ⟨rfl, rfl, rfl, by decide +kernel, rfl, by decide +kernel, by decide +kernel⟩
abbrev s_root_for : Stmt := top 33
abbrev n_root_for : List Str := ["number", "n", "base", "power", "found"]
theorem sc_root_for : FnScope n_root_for ["number", "n"] (defScope s_root_for) := ⟨rfl, rfl, rfl, by decide +kernel, rfl, by decide +kernel, by decide +kernel⟩
abbrev s_four_for : Stmt := top 34
abbrev n_four_for : List Str := ["number"]
theorem sc_four_for : FnScope n_four_for ["number"] (defScope s_four_for) := ⟨rfl, rfl, rfl, by decide +kernel, rfl, by decide +kernel, by decide +kernel⟩
abbrev s_primes_for : Stmt := top 37
abbrev n_primes_for : List Str := ["sign", "n", "prime"]
theorem sc_primes_for : FnScope n_primes_for ["sign", "n"] (defScope s_primes_for) := ⟨rfl, rfl, rfl, by decide +kernel, rfl, by decide +kernel, by decide +kernel⟩
abbrev s_own_kind : Stmt := top 38
abbrev n_own_kind : List Str := ["number", "sign", "power", "primes"]
theorem sc_own_kind : FnScope n_own_kind ["number"] (defScope s_own_kind) := ⟨rfl, rfl, rfl, by decide +kernel, rfl, by decide +kernel, by decide +kernel⟩
abbrev s_kind_of : Stmt := top 39
abbrev n_kind_of : List Str := ["number"]
theorem sc_kind_of : FnScope n_kind_of ["number"] (defScope s_kind_of) := ⟨rfl, rfl, rfl, by decide +kernel, rfl, by decide +kernel, by decide +kernel⟩
abbrev s_odd_part : Stmt := top 41
abbrev n_odd_part : List Str := ["value"]
theorem sc_odd_part : FnScope n_odd_part ["value"] (defScope s_odd_part) := ⟨rfl, rfl, rfl, by decide +kernel, rfl, by decide +kernel, by decide +kernel⟩
abbrev s_shared : Stmt := top 42
abbrev n_shared : List Str := ["number", "n"]
theorem sc_shared : FnScope n_shared ["number", "n"] (defScope s_shared) := ⟨rfl, rfl, rfl, by decide +kernel, rfl, by decide +kernel, by decide +kernel⟩
abbrev s_is_split_by_four : Stmt := top 43
abbrev n_is_split_by_four : List Str := ["number", "n"]
theorem sc_is_split_by_four : FnScope n_is_split_by_four ["number", "n"] (defScope s_is_split_by_four) := ⟨rfl, rfl, rfl, by decide +kernel, rfl, by decide +kernel, by decide +kernel⟩
abbrev s_does_split : Stmt := top 44
abbrev n_does_split : List Str := ["number", "n"]
theorem sc_does_split : FnScope n_does_split ["number", "n"] (defScope s_does_split) := ⟨rfl, rfl, rfl, by decide +kernel, rfl, by decide +kernel, by decide +kernel⟩
abbrev s_is_always : Stmt := top 45
abbrev n_is_always : List Str := ["number", "power"]
theorem sc_is_always : FnScope n_is_always ["number"] (defScope s_is_always) := ⟨rfl, rfl, rfl, by decide +kernel, rfl, by decide +kernel, by decide +kernel⟩
abbrev s_begins_with_word : Stmt := top 48
abbrev n_begins_with_word : List Str := ["value"]
theorem sc_begins_with_word : FnScope n_begins_with_word ["value"] (defScope s_begins_with_word) := ⟨rfl, rfl, rfl, by decide +kernel, rfl, by decide +kernel, by decide +kernel⟩
abbrev s_is_wish : Stmt := top 49
abbrev n_is_wish : List Str := ["value"]
theorem sc_is_wish : FnScope n_is_wish ["value"] (defScope s_is_wish) := ⟨rfl, rfl, rfl, by decide +kernel, rfl, by decide +kernel, by decide +kernel⟩
abbrev s_names_in : Stmt := top 50
abbrev n_names_in : List Str := ["wish"]
theorem sc_names_in : FnScope n_names_in ["wish"] (defScope s_names_in) := ⟨rfl, rfl, rfl, by decide +kernel, rfl, by decide +kernel, by decide +kernel⟩
abbrev s_holds : Stmt := top 51
abbrev n_holds : List Str := ["wish", "numbers", "number", "name"]
theorem sc_holds : FnScope n_holds ["wish", "numbers"] (defScope s_holds) := ⟨rfl, rfl, rfl, by decide +kernel, rfl, by decide +kernel, by decide +kernel⟩
abbrev s_Book_init : Stmt := inClass (top 52) 0
abbrev n_Book_init : List Str := ["self"]
theorem sc_Book_init : FnScope n_Book_init ["self"] (defScope s_Book_init) := ⟨rfl, rfl, rfl, by decide +kernel, rfl, by decide +kernel, by decide +kernel⟩
abbrev s_Book_names : Stmt := inClass (top 52) 1
abbrev n_Book_names : List Str := ["self"]
theorem sc_Book_names : FnScope n_Book_names ["self"] (defScope s_Book_names) := ⟨rfl, rfl, rfl, by decide +kernel, rfl, by decide +kernel, by decide +kernel⟩
abbrev s_Book_wishes : Stmt := inClass (top 52) 2
abbrev n_Book_wishes : List Str := ["self"]
theorem sc_Book_wishes : FnScope n_Book_wishes ["self"] (defScope s_Book_wishes) := ⟨rfl, rfl, rfl, by decide +kernel, rfl, by decide +kernel, by decide +kernel⟩
abbrev s_Book_changes : Stmt := inClass (top 52) 3
abbrev n_Book_changes : List Str := ["self"]
theorem sc_Book_changes : FnScope n_Book_changes ["self"] (defScope s_Book_changes) := ⟨rfl, rfl, rfl, by decide +kernel, rfl, by decide +kernel, by decide +kernel⟩
abbrev s_Book_become : Stmt := inClass (top 52) 4
abbrev n_Book_become : List Str := ["self", "numbers", "made"]
theorem sc_Book_become : FnScope n_Book_become ["self", "numbers", "made"] (defScope s_Book_become) := ⟨rfl, rfl, rfl, by decide +kernel, rfl, by decide +kernel, by decide +kernel⟩
abbrev s_Book_check_known : Stmt := inClass (top 52) 5
abbrev n_Book_check_known : List Str := ["self", "name"]
theorem sc_Book_check_known : FnScope n_Book_check_known ["self", "name"] (defScope s_Book_check_known) := ⟨rfl, rfl, rfl, by decide +kernel, rfl, by decide +kernel, by decide +kernel⟩
abbrev s_Book_setitem : Stmt := inClass (top 52) 6
abbrev n_Book_setitem : List Str := ["self", "name", "number", "numbers", "index", "wish"]
theorem sc_Book_setitem : FnScope n_Book_setitem ["self", "name", "number"] (defScope s_Book_setitem) := ⟨rfl, rfl, rfl, by decide +kernel, rfl, by decide +kernel, by decide +kernel⟩
abbrev s_Book_getitem : Stmt := inClass (top 52) 7
abbrev n_Book_getitem : List Str := ["self", "name"]
theorem sc_Book_getitem : FnScope n_Book_getitem ["self", "name"] (defScope s_Book_getitem) := ⟨rfl, rfl, rfl, by decide +kernel, rfl, by decide +kernel, by decide +kernel⟩
abbrev s_Book_contains : Stmt := inClass (top 52) 9
abbrev n_Book_contains : List Str := ["self", "name"]
theorem sc_Book_contains : FnScope n_Book_contains ["self", "name"] (defScope s_Book_contains) := ⟨rfl, rfl, rfl, by decide +kernel, rfl, by decide +kernel, by decide +kernel⟩
abbrev s_Book_len : Stmt := inClass (top 52) 10
abbrev n_Book_len : List Str := ["self"]
theorem sc_Book_len : FnScope n_Book_len ["self"] (defScope s_Book_len) := ⟨rfl, rfl, rfl, by decide +kernel, rfl, by decide +kernel, by decide +kernel⟩
abbrev s_Book_drop : Stmt := inClass (top 52) 11
abbrev n_Book_drop : List Str := ["self", "name", "index", "wish", "other"]
theorem sc_Book_drop : FnScope n_Book_drop ["self", "name"] (defScope s_Book_drop) := ⟨rfl, rfl, rfl, by decide +kernel, rfl, by decide +kernel, by decide +kernel⟩
abbrev s_Book_wish : Stmt := inClass (top 52) 12
abbrev n_Book_wish : List Str := ["self", "wish"]
theorem sc_Book_wish : FnScope n_Book_wish ["self", "wish"] (defScope s_Book_wish) := ⟨rfl, rfl, rfl, by decide +kernel, rfl, by decide +kernel, by decide +kernel⟩
abbrev s_Book_lift : Stmt := inClass (top 52) 13
abbrev n_Book_lift : List Str := ["self", "index"]
theorem sc_Book_lift : FnScope n_Book_lift ["self", "index"] (defScope s_Book_lift) := ⟨rfl, rfl, rfl, by decide +kernel, rfl, by decide +kernel, by decide +kernel⟩
abbrev s_Book_undo : Stmt := inClass (top 52) 14
abbrev n_Book_undo : List Str := ["self"]
theorem sc_Book_undo : FnScope n_Book_undo ["self"] (defScope s_Book_undo) := ⟨rfl, rfl, rfl, by decide +kernel, rfl, by decide +kernel, by decide +kernel⟩
abbrev s__law_jug : Stmt := top 54
abbrev n__law_jug : List Str := ["_law_cells", "_law_k", "_law_cell", "_law_mixed", "_law_each", "_law_digits"]
theorem sc__law_jug : FnScope n__law_jug ["_law_cells", "_law_k"] (defScope s__law_jug) := ⟨rfl, rfl, rfl, by decide +kernel, rfl, by decide +kernel, by decide +kernel⟩
abbrev s__law_pull : Stmt := top 55
abbrev n__law_pull : List Str := ["_law_jug_here", "_law_top", "_law_figure", "_law_base"]
theorem sc__law_pull : FnScope n__law_pull ["_law_jug_here", "_law_top"] (defScope s__law_pull) := ⟨rfl, rfl, rfl, by decide +kernel, rfl, by decide +kernel, by decide +kernel⟩
abbrev s__law_one_of : Stmt := top 56
abbrev n__law_one_of : List Str := ["_law_jug_here", "_law_some"]
theorem sc__law_one_of : FnScope n__law_one_of ["_law_jug_here", "_law_some"] (defScope s__law_one_of) := ⟨rfl, rfl, rfl, by decide +kernel, rfl, by decide +kernel, by decide +kernel⟩
abbrev s__law_common : Stmt := top 57
abbrev n__law_common : List Str := ["_law_one", "_law_two", "_law_turn"]
theorem sc__law_common : FnScope n__law_common ["_law_one", "_law_two"] (defScope s__law_common) := ⟨rfl, rfl, rfl, by decide +kernel, rfl, by decide +kernel, by decide +kernel⟩
abbrev s__law_power : Stmt := top 58
abbrev n__law_power : List Str := ["_law_row", "_law_found", "_law_each"]
theorem sc__law_power : FnScope n__law_power ["_law_row"] (defScope s__law_power) := ⟨rfl, rfl, rfl, by decide +kernel, rfl, by decide +kernel, by decide +kernel⟩
abbrev s__law_pair : Stmt := top 59
abbrev n__law_pair : List Str := ["_law_sign", "_law_row", "_law_top", "_law_bottom", "_law_each", "_law_amount", "_law_turn"]
theorem sc__law_pair : FnScope n__law_pair ["_law_sign", "_law_row"] (defScope s__law_pair) := ⟨rfl, rfl, rfl, by decide +kernel, rfl, by decide +kernel, by decide +kernel⟩
abbrev s__law_small : Stmt := top 60
abbrev n__law_small : List Str := ["_law_jug_here", "_law_low", "_law_high", "_law_found", "_law_k"]
theorem sc__law_small : FnScope n__law_small ["_law_jug_here", "_law_low", "_law_high"] (defScope s__law_small) := ⟨rfl, rfl, rfl, by decide +kernel, rfl, by decide +kernel, by decide +kernel⟩
abbrev s__law_plan : Stmt := top 61
abbrev n__law_plan : List Str := ["_law_jug_here", "_law_way", "_law_sign", "_law_amount", "_law_found", "_law_each"]
theorem sc__law_plan : FnScope n__law_plan ["_law_jug_here"] (defScope s__law_plan) := ⟨rfl, rfl, rfl, by decide +kernel, rfl, by decide +kernel, by decide +kernel⟩
abbrev s__law_is_four : Stmt := top 62
abbrev n__law_is_four : List Str := ["_law_plan_here", "_law_row", "_law_each"]
theorem sc__law_is_four : FnScope n__law_is_four ["_law_plan_here"] (defScope s__law_is_four) := ⟨rfl, rfl, rfl, by decide +kernel, rfl, by decide +kernel, by decide +kernel⟩
abbrev s__law_splits : Stmt := top 63
abbrev n__law_splits : List Str := ["_law_plan_here", "_law_upto", "_law_left", "_law_turn"]
theorem sc__law_splits : FnScope n__law_splits ["_law_plan_here", "_law_upto"] (defScope s__law_splits) := ⟨rfl, rfl, rfl, by decide +kernel, rfl, by decide +kernel, by decide +kernel⟩
abbrev s__law_is_always : Stmt := top 64
abbrev n__law_is_always : List Str := ["_law_plan_here", "_law_amount"]
theorem sc__law_is_always : FnScope n__law_is_always ["_law_plan_here"] (defScope s__law_is_always) := ⟨rfl, rfl, rfl, by decide +kernel, rfl, by decide +kernel, by decide +kernel⟩
abbrev s__law_some_n : Stmt := top 65
abbrev n__law_some_n : List Str := ["_law_jug_here", "_law_some"]
theorem sc__law_some_n : FnScope n__law_some_n ["_law_jug_here"] (defScope s__law_some_n) := ⟨rfl, rfl, rfl, by decide +kernel, rfl, by decide +kernel, by decide +kernel⟩
abbrev s__law_kind : Stmt := top 66
abbrev n__law_kind : List Str := ["_law_plan_here", "_law_many", "_law_primes_here", "_law_each"]
theorem sc__law_kind : FnScope n__law_kind ["_law_plan_here"] (defScope s__law_kind) := ⟨rfl, rfl, rfl, by decide +kernel, rfl, by decide +kernel, by decide +kernel⟩
abbrev s__law_answer : Stmt := top 67
abbrev n__law_answer : List Str := ["_law_shelf", "_law_due", "_law_thing"]
theorem sc__law_answer : FnScope n__law_answer ["_law_shelf", "_law_due"] (defScope s__law_answer) := ⟨rfl, rfl, rfl, by decide +kernel, rfl, by decide +kernel, by decide +kernel⟩
abbrev s__law_new_wish : Stmt := top 68
abbrev n__law_new_wish : List Str := ["_law_jug_here", "_law_titles", "_law_word", "_law_title"]
theorem sc__law_new_wish : FnScope n__law_new_wish ["_law_jug_here", "_law_titles"] (defScope s__law_new_wish) := ⟨rfl, rfl, rfl, by decide +kernel, rfl, by decide +kernel, by decide +kernel⟩
abbrev s__law_broken : Stmt := top 69
abbrev n__law_broken : List Str := ["_law_shelf", "_law_wishes_here", "_law_k"]
theorem sc__law_broken : FnScope n__law_broken ["_law_shelf", "_law_wishes_here"] (defScope s__law_broken) := ⟨rfl, rfl, rfl, by decide +kernel, rfl, by decide +kernel, by decide +kernel⟩
abbrev s__law_named : Stmt := top 70
abbrev n__law_named : List Str := ["_law_due"]
theorem sc__law_named : FnScope n__law_named ["_law_due"] (defScope s__law_named) := ⟨rfl, rfl, rfl, by decide +kernel, rfl, by decide +kernel, by decide +kernel⟩
abbrev s__law_behind : Stmt := top 71
abbrev n__law_behind : List Str := ["_law_page", "_law_deed", "_law_shelf", "_law_wishes_here", "_law_uses", "_law_rest", "_law_later", "_law_at", "_law_k", "_law_each"]
theorem sc__law_behind : FnScope n__law_behind ["_law_page", "_law_deed"] (defScope s__law_behind) := ⟨rfl, rfl, rfl, by decide +kernel, rfl, by decide +kernel, by decide +kernel⟩
abbrev s__law_new_deed : Stmt := top 72
abbrev n__law_new_deed : List Str := ["_law_jug_here", "_law_page", "_law_titles", "_law_way"]
theorem sc__law_new_deed : FnScope n__law_new_deed ["_law_jug_here", "_law_page"] (defScope s__law_new_deed) := ⟨rfl, rfl, rfl, by decide +kernel, rfl, by decide +kernel, by decide +kernel⟩
abbrev s__law_done : Stmt := top 73
abbrev n__law_done : List Str := ["_law_book_here", "_law_deed"]
theorem sc__law_done : FnScope n__law_done ["_law_book_here", "_law_deed"] (defScope s__law_done) := ⟨rfl, rfl, rfl, by decide +kernel, rfl, by decide +kernel, by decide +kernel⟩
abbrev s__law_book_is : Stmt := top 74
abbrev n__law_book_is : List Str := ["_law_book_here", "_law_page", "_law_many", "_law_shelf", "_law_wishes_here", "_law_told", "_law_title"]
theorem sc__law_book_is : FnScope n__law_book_is ["_law_book_here", "_law_page", "_law_many"] (defScope s__law_book_is) := ⟨rfl, rfl, rfl, by decide +kernel, rfl, by decide +kernel, by decide +kernel⟩
abbrev s__law_slip : Stmt := top 75
abbrev n__law_slip : List Str := ["_law_e", "_law_bases", "_law_kinds", "_law_found"]
theorem sc__law_slip : FnScope n__law_slip ["_law_e"] (defScope s__law_slip) := ⟨rfl, rfl, rfl, by decide +kernel, rfl, by decide +kernel, by decide +kernel⟩
abbrev s__law_heard : Stmt := top 76
abbrev n__law_heard : List Str := ["_law_call_here", "_law_got", "_law_e"]
theorem sc__law_heard : FnScope n__law_heard ["_law_call_here"] (defScope s__law_heard) := ⟨rfl, rfl, rfl, by decide +kernel, rfl, by decide +kernel, by decide +kernel⟩
abbrev s__law_again : Stmt := top 77
abbrev n__law_again : List Str := ["_law_jug_here", "_law_page", "_law_shelf", "_law_wishes_here", "_law_title"]
theorem sc__law_again : FnScope n__law_again ["_law_jug_here", "_law_page"] (defScope s__law_again) := ⟨rfl, rfl, rfl, by decide +kernel, rfl, by decide +kernel, by decide +kernel⟩
abbrev s__law_right : Stmt := top 78
abbrev n__law_right : List Str := ["_law_jug_here", "_law_book_here", "_law_pages", "_law_deeds", "_law_turn", "_law_deed", "_law_more", "_law_due", "_law_later", "_law_again_here", "_law_k"]
theorem sc__law_right : FnScope n__law_right ["_law_jug_here"] (defScope s__law_right) := ⟨rfl, rfl, rfl, by decide +kernel, rfl, by decide +kernel, by decide +kernel⟩
abbrev s_law : Stmt := top 79
abbrev n_law : List Str := ["_law_cells", "_law_k"]
theorem sc_law : FnScope n_law ["_law_cells"] (defScope s_law) := ⟨rfl, rfl, rfl, by decide +kernel, rfl, by decide +kernel, by decide +kernel⟩
def d_InvalidName_init : He.DefD := ⟨("InvalidName", some "__init__"), "__init__", "InvalidName.__init__", defArgs s_InvalidName_init, defBody s_InvalidName_init, defScope s_InvalidName_init, [], []⟩
def d_InvalidNumber_init : He.DefD := ⟨("InvalidNumber", some "__init__"), "__init__", "InvalidNumber.__init__", defArgs s_InvalidNumber_init, defBody s_InvalidNumber_init, defScope s_InvalidNumber_init, [], []⟩
def d_InvalidWish_init : He.DefD := ⟨("InvalidWish", some "__init__"), "__init__", "InvalidWish.__init__", defArgs s_InvalidWish_init, defBody s_InvalidWish_init, defScope s_InvalidWish_init, [], []⟩
def d_InvalidIndex_init : He.DefD := ⟨("InvalidIndex", some "__init__"), "__init__", "InvalidIndex.__init__", defArgs s_InvalidIndex_init, defBody s_InvalidIndex_init, defScope s_InvalidIndex_init, [], []⟩
def d_UnknownName_init : He.DefD := ⟨("UnknownName", some "__init__"), "__init__", "UnknownName.__init__", defArgs s_UnknownName_init, defBody s_UnknownName_init, defScope s_UnknownName_init, [], []⟩
def d_Broken_init : He.DefD := ⟨("Broken", some "__init__"), "__init__", "Broken.__init__", defArgs s_Broken_init, defBody s_Broken_init, defScope s_Broken_init, [], []⟩
def d_InUse_init : He.DefD := ⟨("InUse", some "__init__"), "__init__", "InUse.__init__", defArgs s_InUse_init, defBody s_InUse_init, defScope s_InUse_init, [], []⟩
def d_is_integer : He.DefD := ⟨("is_integer", none), "is_integer", "is_integer", defArgs s_is_integer, defBody s_is_integer, defScope s_is_integer, [], []⟩
def d_is_between : He.DefD := ⟨("is_between", none), "is_between", "is_between", defArgs s_is_between, defBody s_is_between, defScope s_is_between, [], []⟩
def d_is_name : He.DefD := ⟨("is_name", none), "is_name", "is_name", defArgs s_is_name, defBody s_is_name, defScope s_is_name, [], []⟩
def d_power_of : He.DefD := ⟨("power_of", none), "power_of", "power_of", defArgs s_power_of, defBody s_power_of, defScope s_power_of, [], []⟩
def d_common_divisor : He.DefD := ⟨("common_divisor", none), "common_divisor", "common_divisor", defArgs s_common_divisor, defBody s_common_divisor, defScope s_common_divisor, [], []⟩
def d_floor_root : He.DefD := ⟨("floor_root", none), "floor_root", "floor_root", defArgs s_floor_root, defBody s_floor_root, defScope s_floor_root, [], []⟩
def d_is_power : He.DefD := ⟨("is_power", none), "is_power", "is_power", defArgs s_is_power, defBody s_is_power, defScope s_is_power, [], []⟩
def d_prime_divisors : He.DefD := ⟨("prime_divisors", none), "prime_divisors", "prime_divisors", defArgs s_prime_divisors, defBody s_prime_divisors, defScope s_prime_divisors, [], []⟩
def d_is_number : He.DefD := ⟨("is_number", none), "is_number", "is_number", defArgs s_is_number, defBody s_is_number, defScope s_is_number, [], []⟩
def d_check_number : He.DefD := ⟨("check_number", none), "check_number", "check_number", defArgs s_check_number, defBody s_check_number, defScope s_check_number, [], []⟩
def d_lowest : He.DefD := ⟨("lowest", none), "lowest", "lowest", defArgs s_lowest, defBody s_lowest, defScope s_lowest, [], []⟩
def d_raised : He.DefD := ⟨("raised", none), "raised", "raised", defArgs s_raised, defBody s_raised, defScope s_raised, [], []⟩
def d_whole_root : He.DefD := ⟨("whole_root", none), "whole_root", "whole_root", defArgs s_whole_root, defBody s_whole_root, defScope s_whole_root, [], []⟩
def d_base_and_exponent : He.DefD := ⟨("base_and_exponent", none), "base_and_exponent", "base_and_exponent", defArgs s_base_and_exponent, defBody s_base_and_exponent, defScope s_base_and_exponent, [], []⟩
def d_base_for : He.DefD := ⟨("base_for", none), "base_for", "base_for", defArgs s_base_for, defBody s_base_for, defScope s_base_for, [], []⟩
def d_root_for : He.DefD := ⟨("root_for", none), "root_for", "root_for", defArgs s_root_for, defBody s_root_for, defScope s_root_for, [], []⟩
def d_four_for : He.DefD := ⟨("four_for", none), "four_for", "four_for", defArgs s_four_for, defBody s_four_for, defScope s_four_for, [], []⟩
def d_primes_for : He.DefD := ⟨("primes_for", none), "primes_for", "primes_for", defArgs s_primes_for, defBody s_primes_for, defScope s_primes_for, [], []⟩
def d_own_kind : He.DefD := ⟨("own_kind", none), "own_kind", "own_kind", defArgs s_own_kind, defBody s_own_kind, defScope s_own_kind, [], []⟩
def d_kind_of : He.DefD := ⟨("kind_of", none), "kind_of", "kind_of", defArgs s_kind_of, defBody s_kind_of, defScope s_kind_of, [], []⟩
def d_odd_part : He.DefD := ⟨("odd_part", none), "odd_part", "odd_part", defArgs s_odd_part, defBody s_odd_part, defScope s_odd_part, [], []⟩
def d_shared : He.DefD := ⟨("shared", none), "shared", "shared", defArgs s_shared, defBody s_shared, defScope s_shared, [], []⟩
def d_is_split_by_four : He.DefD := ⟨("is_split_by_four", none), "is_split_by_four", "is_split_by_four", defArgs s_is_split_by_four, defBody s_is_split_by_four, defScope s_is_split_by_four, [], []⟩
def d_does_split : He.DefD := ⟨("does_split", none), "does_split", "does_split", defArgs s_does_split, defBody s_does_split, defScope s_does_split, [], []⟩
def d_is_always : He.DefD := ⟨("is_always", none), "is_always", "is_always", defArgs s_is_always, defBody s_is_always, defScope s_is_always, [], []⟩
def d_begins_with_word : He.DefD := ⟨("begins_with_word", none), "begins_with_word", "begins_with_word", defArgs s_begins_with_word, defBody s_begins_with_word, defScope s_begins_with_word, [], []⟩
def d_is_wish : He.DefD := ⟨("is_wish", none), "is_wish", "is_wish", defArgs s_is_wish, defBody s_is_wish, defScope s_is_wish, [], []⟩
def d_names_in : He.DefD := ⟨("names_in", none), "names_in", "names_in", defArgs s_names_in, defBody s_names_in, defScope s_names_in, [], []⟩
def d_holds : He.DefD := ⟨("holds", none), "holds", "holds", defArgs s_holds, defBody s_holds, defScope s_holds, [], []⟩
def d_Book_init : He.DefD := ⟨("Book", some "__init__"), "__init__", "Book.__init__", defArgs s_Book_init, defBody s_Book_init, defScope s_Book_init, [], []⟩
def d_Book_names : He.DefD := ⟨("Book", some "names"), "names", "Book.names", defArgs s_Book_names, defBody s_Book_names, defScope s_Book_names, [], []⟩
def d_Book_wishes : He.DefD := ⟨("Book", some "wishes"), "wishes", "Book.wishes", defArgs s_Book_wishes, defBody s_Book_wishes, defScope s_Book_wishes, [], []⟩
def d_Book_changes : He.DefD := ⟨("Book", some "changes"), "changes", "Book.changes", defArgs s_Book_changes, defBody s_Book_changes, defScope s_Book_changes, [], []⟩
def d_Book_become : He.DefD := ⟨("Book", some "become"), "become", "Book.become", defArgs s_Book_become, defBody s_Book_become, defScope s_Book_become, [], []⟩
def d_Book_check_known : He.DefD := ⟨("Book", some "check_known"), "check_known", "Book.check_known", defArgs s_Book_check_known, defBody s_Book_check_known, defScope s_Book_check_known, [], []⟩
def d_Book_setitem : He.DefD := ⟨("Book", some "__setitem__"), "__setitem__", "Book.__setitem__", defArgs s_Book_setitem, defBody s_Book_setitem, defScope s_Book_setitem, [], []⟩
def d_Book_getitem : He.DefD := ⟨("Book", some "__getitem__"), "__getitem__", "Book.__getitem__", defArgs s_Book_getitem, defBody s_Book_getitem, defScope s_Book_getitem, [], []⟩
def d_Book_contains : He.DefD := ⟨("Book", some "__contains__"), "__contains__", "Book.__contains__", defArgs s_Book_contains, defBody s_Book_contains, defScope s_Book_contains, [], []⟩
def d_Book_len : He.DefD := ⟨("Book", some "__len__"), "__len__", "Book.__len__", defArgs s_Book_len, defBody s_Book_len, defScope s_Book_len, [], []⟩
def d_Book_drop : He.DefD := ⟨("Book", some "drop"), "drop", "Book.drop", defArgs s_Book_drop, defBody s_Book_drop, defScope s_Book_drop, [], []⟩
def d_Book_wish : He.DefD := ⟨("Book", some "wish"), "wish", "Book.wish", defArgs s_Book_wish, defBody s_Book_wish, defScope s_Book_wish, [], []⟩
def d_Book_lift : He.DefD := ⟨("Book", some "lift"), "lift", "Book.lift", defArgs s_Book_lift, defBody s_Book_lift, defScope s_Book_lift, [], []⟩
def d_Book_undo : He.DefD := ⟨("Book", some "undo"), "undo", "Book.undo", defArgs s_Book_undo, defBody s_Book_undo, defScope s_Book_undo, [], []⟩
def d__law_jug : He.DefD := ⟨("_law_jug", none), "_law_jug", "_law_jug", defArgs s__law_jug, defBody s__law_jug, defScope s__law_jug, [], []⟩
def d__law_pull : He.DefD := ⟨("_law_pull", none), "_law_pull", "_law_pull", defArgs s__law_pull, defBody s__law_pull, defScope s__law_pull, [], []⟩
def d__law_one_of : He.DefD := ⟨("_law_one_of", none), "_law_one_of", "_law_one_of", defArgs s__law_one_of, defBody s__law_one_of, defScope s__law_one_of, [], []⟩
def d__law_common : He.DefD := ⟨("_law_common", none), "_law_common", "_law_common", defArgs s__law_common, defBody s__law_common, defScope s__law_common, [], []⟩
def d__law_power : He.DefD := ⟨("_law_power", none), "_law_power", "_law_power", defArgs s__law_power, defBody s__law_power, defScope s__law_power, [], []⟩
def d__law_pair : He.DefD := ⟨("_law_pair", none), "_law_pair", "_law_pair", defArgs s__law_pair, defBody s__law_pair, defScope s__law_pair, [], []⟩
def d__law_small : He.DefD := ⟨("_law_small", none), "_law_small", "_law_small", defArgs s__law_small, defBody s__law_small, defScope s__law_small, [], []⟩
def d__law_plan : He.DefD := ⟨("_law_plan", none), "_law_plan", "_law_plan", defArgs s__law_plan, defBody s__law_plan, defScope s__law_plan, [], []⟩
def d__law_is_four : He.DefD := ⟨("_law_is_four", none), "_law_is_four", "_law_is_four", defArgs s__law_is_four, defBody s__law_is_four, defScope s__law_is_four, [], []⟩
def d__law_splits : He.DefD := ⟨("_law_splits", none), "_law_splits", "_law_splits", defArgs s__law_splits, defBody s__law_splits, defScope s__law_splits, [], []⟩
def d__law_is_always : He.DefD := ⟨("_law_is_always", none), "_law_is_always", "_law_is_always", defArgs s__law_is_always, defBody s__law_is_always, defScope s__law_is_always, [], []⟩
def d__law_some_n : He.DefD := ⟨("_law_some_n", none), "_law_some_n", "_law_some_n", defArgs s__law_some_n, defBody s__law_some_n, defScope s__law_some_n, [], []⟩
def d__law_kind : He.DefD := ⟨("_law_kind", none), "_law_kind", "_law_kind", defArgs s__law_kind, defBody s__law_kind, defScope s__law_kind, [], []⟩
def d__law_answer : He.DefD := ⟨("_law_answer", none), "_law_answer", "_law_answer", defArgs s__law_answer, defBody s__law_answer, defScope s__law_answer, [], []⟩
def d__law_new_wish : He.DefD := ⟨("_law_new_wish", none), "_law_new_wish", "_law_new_wish", defArgs s__law_new_wish, defBody s__law_new_wish, defScope s__law_new_wish, [], []⟩
def d__law_broken : He.DefD := ⟨("_law_broken", none), "_law_broken", "_law_broken", defArgs s__law_broken, defBody s__law_broken, defScope s__law_broken, [], []⟩
def d__law_named : He.DefD := ⟨("_law_named", none), "_law_named", "_law_named", defArgs s__law_named, defBody s__law_named, defScope s__law_named, [], []⟩
def d__law_behind : He.DefD := ⟨("_law_behind", none), "_law_behind", "_law_behind", defArgs s__law_behind, defBody s__law_behind, defScope s__law_behind, [], []⟩
def d__law_new_deed : He.DefD := ⟨("_law_new_deed", none), "_law_new_deed", "_law_new_deed", defArgs s__law_new_deed, defBody s__law_new_deed, defScope s__law_new_deed, [], []⟩
def d__law_done : He.DefD := ⟨("_law_done", none), "_law_done", "_law_done", defArgs s__law_done, defBody s__law_done, defScope s__law_done, [], []⟩
def d__law_book_is : He.DefD := ⟨("_law_book_is", none), "_law_book_is", "_law_book_is", defArgs s__law_book_is, defBody s__law_book_is, defScope s__law_book_is, [], []⟩
def d__law_slip : He.DefD := ⟨("_law_slip", none), "_law_slip", "_law_slip", defArgs s__law_slip, defBody s__law_slip, defScope s__law_slip, [], []⟩
def d__law_heard : He.DefD := ⟨("_law_heard", none), "_law_heard", "_law_heard", defArgs s__law_heard, defBody s__law_heard, defScope s__law_heard, [], []⟩
def d__law_again : He.DefD := ⟨("_law_again", none), "_law_again", "_law_again", defArgs s__law_again, defBody s__law_again, defScope s__law_again, [], []⟩
def d__law_right : He.DefD := ⟨("_law_right", none), "_law_right", "_law_right", defArgs s__law_right, defBody s__law_right, defScope s__law_right, [], []⟩
def d_law : He.DefD := ⟨("law", none), "law", "law", defArgs s_law, defBody s_law, defScope s_law, [], []⟩
def fn : List He.DefD := [d_InvalidName_init, d_InvalidNumber_init, d_InvalidWish_init, d_InvalidIndex_init, d_UnknownName_init, d_Broken_init, d_InUse_init, d_is_integer, d_is_between, d_is_name, d_power_of, d_common_divisor, d_floor_root, d_is_power, d_prime_divisors, d_is_number, d_check_number, d_lowest, d_raised, d_whole_root, d_base_and_exponent, d_base_for, d_root_for, d_four_for, d_primes_for, d_own_kind, d_kind_of, d_odd_part, d_shared, d_is_split_by_four, d_does_split, d_is_always, d_begins_with_word, d_is_wish, d_names_in, d_holds, d_Book_init, d_Book_become, d_Book_check_known, d_Book_setitem, d_Book_getitem, d_Book_contains, d_Book_len, d_Book_drop, d_Book_wish, d_Book_lift, d_Book_undo, d__law_jug, d__law_pull, d__law_one_of, d__law_common, d__law_power, d__law_pair, d__law_small, d__law_plan, d__law_is_four, d__law_splits, d__law_is_always, d__law_some_n, d__law_kind, d__law_answer, d__law_new_wish, d__law_broken, d__law_named, d__law_behind, d__law_new_deed, d__law_done, d__law_book_is, d__law_slip, d__law_heard, d__law_again, d__law_right, d_law]
def fnp : List He.DefD := [d_Book_names, d_Book_wishes, d_Book_changes]
end KB
end
section
set_option Elab.async false
set_option linter.all false
set_option maxRecDepth 100000
set_option maxHeartbeats 0
/-! the head: what is looked at behind the top, the run -/
namespace KB
open PySem PySem.Spec PyProof.Rows L2
/-! ### property getters -/
def gAd (K : PySem.W.Frag) (p : Str × Option Str) : Addr :=
  match PySem.W.recIn K (He.fAd K p) "property" with
  | some (.ref g :: _) => g
  | _ => 0
def gW (K : PySem.W.Frag) (p : Str × Option Str) : He.FnW :=
  match K.lookup (gAd K p) with
  | some ⟨_, _, .func fd, _⟩ =>
    some (fd.name, fd.qualname, fd.params, fd.body, fd.scope, fd.globals, fd.closure, fd.builtins)
  | _ => none
def gOk (K : PySem.W.Frag) (d : He.DefD) : Bool :=
  PySem.W.keepIn K (.ref (gAd K d.at_)) &&
    (match K.lookup (gAd K d.at_) with
    | some ⟨_, _, .func fd, _⟩ => PySem.W.codeIn K fd.code d.qual && (fd.defaults == .none)
    | _ => false)
/-! ### facts -/
def bookC : Str := "Book"
def glosA : List Str := ["WrongValue", "InvalidName", "InvalidNumber", "InvalidWish", "InvalidIndex", "WrongName", "UnknownName", "NoAnswer", "Broken", "InUse", "NothingToUndo"]
def glosB : List Str := ["is_integer", "is_between", "is_name", "power_of", "common_divisor", "floor_root", "is_power", "prime_divisors", "is_number", "check_number", "lowest", "raised", "whole_root", "base_and_exponent"]
def glosC : List Str := ["base_for", "root_for", "four_for", "primes_for", "own_kind", "kind_of", "odd_part", "shared", "is_split_by_four", "does_split", "is_always", "FORMS"]
def glos : List Str := glosA ++ (glosB ++ glosC)
def glosD : List Str := ["begins_with_word", "is_wish", "names_in", "holds", "Book"]
def glosE : List Str := ["_law_jug", "_law_pull", "_law_one_of", "_law_common", "_law_power", "_law_pair", "_law_small", "_law_plan", "_law_is_four", "_law_splits", "_law_is_always", "_law_some_n", "_law_kind", "_law_answer"]
def glosF : List Str := ["_law_new_wish", "_law_broken", "_law_named", "_law_behind", "_law_new_deed", "_law_done", "_law_book_is", "_law_slip", "_law_heard", "_law_again", "_law_right", "law"]
def glos2 : List Str := glosD ++ (glosE ++ glosF)
def frees : List Str := ["isinstance", "len", "all", "range", "tuple", "ValueError", "LookupError", "ArithmeticError", "int", "abs", "zip", "dict", "repr", "sorted", "bool", "max", "min", "str", "enumerate", "list", "TypeError"]
def bmeths : List Str := ["__init__", "become", "check_known", "__setitem__", "__getitem__", "__contains__", "__len__", "drop", "wish", "lift", "undo"]
def bprops : List Str := ["names", "wishes", "changes"]
def fa : List He.Fa := glos.map .glo ++ (glos2.map .glo ++ (frees.map .free ++ ([.int "MOST_LETTERS" 8, .int "MOST_SIZE" 1000000000000000000000000000000, .str "LETTERS" "abcdefghijklmnopqrstuvwxyz", .str "ALL" "all",
  .cls bookC, .noat bookC "numbers", .noat bookC "made", .noat bookC "past", .noat bookC "__bool__", .mkr bookC] ++ bmeths.map (.meth bookC))))
def ts : List He.Tab := [(fun K => He.ga K "FORMS", ["splits", "whole", "always", "alike"])]
def tf : List He.Defn := [("_law_right", none)]
abbrev sv (n : String) : Value := .type n
def baseVE : List Value := [sv "ValueError", sv "Exception", sv "BaseException", sv "object"]
def baseLE : List Value := [sv "LookupError", sv "Exception", sv "BaseException", sv "object"]
def baseAE : List Value := [sv "ArithmeticError", sv "Exception", sv "BaseException", sv "object"]
/-- the classes of errors, with their own field (none: no __init__), their base -/
structure Er where
  nm : Str
  fld : Option Str
  bb : List Value
  new : String
  ini : String
def erIdx : Er := ⟨"InvalidIndex", some "given", baseVE, "ValueError.__new__", "ValueError.__init__"⟩
def erUnk : Er := ⟨"UnknownName", some "given", baseLE, "LookupError.__new__", "LookupError.__init__"⟩
def erBro : Er := ⟨"Broken", some "index", baseAE, "ArithmeticError.__new__", "ArithmeticError.__init__"⟩
def erUse : Er := ⟨"InUse", some "index", baseAE, "ArithmeticError.__new__", "ArithmeticError.__init__"⟩
def erNot : Er := ⟨"NothingToUndo", none, baseAE, "ArithmeticError.__new__", "ArithmeticError.__init__"⟩
def ers : List Er := [erIdx, erUnk, erBro, erUse, erNot]
def optEq (a b : Option Bool) : Bool := decide (a = b)
/-- where each error belongs: under WrongValue, WrongName, NoAnswer -/
def fam (e : Er) : Bool × Bool × Bool := (decide (e.nm = "InvalidIndex"), decide (e.nm = "UnknownName"), decide (e.nm = "Broken") || (decide (e.nm = "InUse") || decide (e.nm = "NothingToUndo")))
/-- an error's class as the making, the raising, the catching and isinstance ask it -/
def erB (K : PySem.W.Frag) (e : Er) : Bool :=
  let C := He.ga K e.nm
  PySem.W.excInitIn K C e.bb e.new && (PySem.W.keepIn K (.ref C) && (decide (PySem.W.subIn K (.ref C) (sv "BaseException") = some true) && (decide (PySem.W.typeIn K (.ref C) = some (sv "type")) &&
  (PySem.W.hasDictIn K C && (PySem.W.excOver K C e.bb && (He.eqO (PySem.W.findIn K (.ref C) "__setattr__") (some (some (.builtin "object.__setattr__"))) &&
  (He.eqO (PySem.W.findIn K (.ref C) "__getattribute__") (some (some (.builtin "BaseException.__getattribute__"))) && (He.eqO (PySem.W.findIn K (.ref C) "__getattr__") (some none) &&
  (He.eqO (PySem.W.findIn K (.ref C) "given") (some none) && (He.eqO (PySem.W.findIn K (.ref C) "index") (some none) &&
  (He.eqO (PySem.W.findIn K (.ref C) "__class__") (some (some (.builtin "object.__class__"))) && decide (PySem.W.mroIn K C (sv "object") = some true))))))))))))
/-- .. its __init__ -/
def erI (K : PySem.W.Frag) (e : Er) : Bool :=
  match e.fld with
  | some _ => He.eqO (PySem.W.findIn K (.ref (He.ga K e.nm)) "__init__") (some (some (.ref (He.ma K (He.ga K e.nm) "__init__")))) &&
      (PySem.W.isFn K (.ref (He.ma K (He.ga K e.nm) "__init__")) && decide (PySem.W.typeIn K (.ref (He.ma K (He.ga K e.nm) "__init__")) = some (sv "function")))
  | none => He.eqO (PySem.W.findIn K (.ref (He.ga K e.nm)) "__init__") (some (some (.builtin e.ini)))
/-- .. what except clauses and isinstance say of it -/
def erM (K : PySem.W.Frag) (e : Er) : Bool :=
  optEq (PySem.W.exmOne K (.ref (He.ga K e.nm)) (.ref (He.ga K "WrongValue"))) (some (fam e).1) && (optEq (PySem.W.exmOne K (.ref (He.ga K e.nm)) (.ref (He.ga K "WrongName"))) (some (fam e).2.1) &&
  (optEq (PySem.W.exmOne K (.ref (He.ga K e.nm)) (.ref (He.ga K "NoAnswer"))) (some (fam e).2.2) &&
  (optEq (PySem.W.kitOne K (.ref (He.ga K e.nm)) (.ref (He.ga K "WrongValue"))) (some (fam e).1) && (optEq (PySem.W.kitOne K (.ref (He.ga K e.nm)) (.ref (He.ga K "WrongName"))) (some (fam e).2.1) &&
  (optEq (PySem.W.kitOne K (.ref (He.ga K e.nm)) (.ref (He.ga K "NoAnswer"))) (some (fam e).2.2) &&
  (optEq (PySem.W.kitOne K (.ref (He.ga K e.nm)) (sv "ValueError")) (some (fam e).1) && (optEq (PySem.W.kitOne K (.ref (He.ga K e.nm)) (sv "LookupError")) (some (fam e).2.1) &&
  (optEq (PySem.W.kitOne K (.ref (He.ga K e.nm)) (sv "ArithmeticError")) (some (fam e).2.2) &&
  (ers.all fun f => optEq (PySem.W.kitOne K (.ref (He.ga K e.nm)) (.ref (He.ga K f.nm))) (some (decide (e.nm = f.nm))))))))))))
def bookB (K : PySem.W.Frag) : Bool :=
  PySem.W.noSeq K (He.ga K bookC) && (PySem.W.selfFirst K (He.ga K bookC) && (bprops.all fun f =>
    He.eqO (PySem.W.findIn K (.ref (He.ga K bookC)) f) (some (some (.ref (He.ma K (He.ga K bookC) f)))) &&
    (He.eqO (PySem.W.specialIn K (.ref (He.ma K (He.ga K bookC) f)) "__get__") (some (some (.builtin "property.__get__"))) && (decide (PySem.W.takesIn K (.ref (He.ma K (He.ga K bookC) f)) = some true) &&
    (match PySem.W.recIn K (He.ma K (He.ga K bookC) f) "property" with
    | some (.ref _ :: _) => true
    | _ => false)))))
def miscB (K : PySem.W.Frag) : Bool :=
  decide (PySem.W.specialIn K (.builtin "object.__class__") "__get__" = some (some (.builtin "getset_descriptor.__get__"))) && (decide (PySem.W.takesIn K (.builtin "object.__class__") = some true) &&
  (He.valsB K (He.ga K "FORMS") [("splits", .int 3), ("whole", .int 3), ("always", .int 2), ("alike", .int 3)] && (["WrongValue", "WrongName", "NoAnswer"].all fun x =>
    PySem.W.keepIn K (.ref (He.ga K x)) && PySem.W.isClsIn K (He.ga K x))))
def keepB (K : PySem.W.Frag) : Bool := glos2.all fun x => PySem.W.keepIn K (.ref (He.ga K x)) || decide (x = "Book")
def ex (K : PySem.W.Frag) : Bool := (ers.all fun e => erB K e && (erI K e && erM K e)) && (bookB K && (miscB K && (fnp.all fun d => gOk K d)))
/-! ### the Hook -/
abbrev AlP : Type := He.AlX × List He.FnW
/-- the top's objects (fewer than 760 stand behind it) -/
def asL : List Addr := List.range 760
def obsP (g : Addr → Option Obj) : AlP :=
  ((He.obsT fa fn ts (He.frT g asL), ex (He.frT g asL) && He.tabsB g tf (He.frT g asL)), fnp.map fun d => gW (He.frT g asL) d.at_)
def valP (w : World) : AlP := (He.valX fn ts w, fnp.map He.DefD.val)
def SaysP (w : World) (h : Heap) (K : PySem.W.Frag) : Prop := He.SaysX fa fn ts tf ex w h K ∧ (fnp.map fun d => gW K d.at_) = fnp.map He.DefD.val
theorem ofP {w : World} {h : Heap} (e : obsP h.get? = valP w) : SaysP w h (He.frT h.get? asL) := by
  unfold obsP valP He.valX at e
  have e1 := congrArg (fun z => z.1.1) e
  have e2 := congrArg (fun z => z.1.2) e
  have e3 := congrArg Prod.snd e
  dsimp only at e1 e2 e3
  obtain ⟨h1, h2⟩ := He.ba e2
  have key : ∀ p ∈ tf, PySem.W.codeHdIn (He.frT h.get? asL) (He.cT (He.frT h.get? asL) p).1 (He.cT (He.frT h.get? asL) p).2 = true ∧
      ∃ o, h.get? (He.cT (He.frT h.get? asL) p).2 = some o ∧ He.emptyTab o = true := by
    intro p hp
    obtain ⟨h3, h4⟩ := He.ba (List.all_eq_true.mp h2 p hp)
    refine ⟨h3, ?_⟩
    cases q : h.get? (He.cT (He.frT h.get? asL) p).2 with
    | none => rw [q] at h4; cases h4
    | some o => rw [q] at h4; exact ⟨o, rfl, h4⟩
  refine ⟨⟨e1, h1, fun p hp => (key p hp).1, fun p hp => ?_, fun p hp => ?_⟩, e3⟩
  · obtain ⟨_, o, q, z⟩ := key p hp
    exact He.frT_none q z
  · obtain ⟨_, o, q, z⟩ := key p hp
    rw [q, He.emptyTab_eq z]
theorem keepsP {w : World} {h h' : Heap} {K : PySem.W.Frag} (c : SaysP w h K) (k : ∀ b o, h.get? b = some o → h'.get? b = some o) : SaysP w h' K := by
  obtain ⟨c, q⟩ := c
  exact ⟨⟨c.t, c.more, c.hd, c.out, fun p hp => k _ _ (c.empty p hp)⟩, q⟩
def hookP : PySem.W.Hook where
  α := AlP
  obs := fun s => obsP s.heap.get?
  val := valP
  says := fun w h => ∃ K : PySem.W.Frag, K.In h ∧ SaysP w h K
  of := fun w s e => ⟨He.frT s.heap.get? asL, He.frT_in, ofP e⟩
  keeps := fun w h h' hs k => by
    obtain ⟨K, hK, c⟩ := hs
    exact ⟨K, PySem.W.Frag.In.keeps hK k, keepsP c k⟩
abbrev R : PySem.W.OpenRow := PySem.W.OpenLaw.row PySem.Challenge.rw_purepowers_k62_whole_books_taken_back
def ob (s : PySem.W.SharedT) : AlP := obsP (HandSHeadRun.getT s)
theorem ob_eq (s : PySem.W.SharedT) : ob s = hookP.obs s.abs := by
  have e : HandSHeadRun.getT s = s.abs.heap.get? := funext (HandSHeadRun.getT_eq s)
  show obsP (HandSHeadRun.getT s) = obsP s.abs.heap.get?
  rw [e]
def looseG : List Str := ["_law_new_wish", "_law_broken", "_law_named", "_law_behind", "_law_new_deed", "_law_done", "_law_book_is", "_law_slip", "_law_heard", "_law_again", "_law_right"]
def looseH : List Str := ["_wall", "LETTERS", "MOST_LETTERS", "MOST_SIZE", "ALL"]
def loose : List Str := looseH ++ (glosA ++ (glosB ++ (glosC ++ (glosD ++ (glosE ++ looseG)))))
abbrev qv : Program := PySem.W.view R.prog [79]
theorem runF (w : World) : HandSHeadRun.RunEq R qv hookP ob 6000 loose (w.withFollow "special-get-raises" false) := by
  intro os
  kernel_rfl
theorem runT (w : World) : HandSHeadRun.RunEq R qv hookP ob 6000 loose (w.withFollow "special-get-raises" true) := by
  intro os
  kernel_rfl
theorem run (w : World) : HandSHeadRun.RunEq R qv hookP ob 6000 loose w := PySem.W.byRow2 "special-get-raises" (P := fun w => HandSHeadRun.RunEq R qv hookP ob 6000 loose w) runF runT w
end KB
end
section
set_option Elab.async false
set_option linter.all false
set_option maxRecDepth 100000
set_option maxHeartbeats 4000000
/-! the mathematics: exponents of 2, 3, 5 and 7, perfect powers -/
namespace KM
/-! ### how often a prime divides -/
def vp (p n : Nat) : Nat :=
  if h : 2 ≤ p ∧ n ≠ 0 ∧ n % p = 0 then 1 + vp p (n / p) else 0
termination_by n
decreasing_by exact Nat.div_lt_self (by omega) (by omega)
theorem vp_yes {p n : Nat} (hp : 2 ≤ p) (hn : n ≠ 0) (hm : n % p = 0) : vp p n = 1 + vp p (n / p) := by
  rw [vp, dif_pos ⟨hp, hn, hm⟩]
theorem vp_no {p n : Nat} (hm : n % p ≠ 0) : vp p n = 0 := by
  rw [vp, dif_neg (fun h => hm h.2.2)]
theorem vp_mul_self {p n : Nat} (hp : 2 ≤ p) (hn : n ≠ 0) : vp p (p * n) = 1 + vp p n := by
  have h0 : p * n ≠ 0 := Nat.mul_ne_zero (by omega) hn
  rw [vp_yes hp h0 (Nat.mul_mod_right p n), Nat.mul_div_cancel_left n (by omega)]
/-- p is a prime, as it is used -/
def Eu (p : Nat) : Prop := 2 ≤ p ∧ ∀ a b : Nat, (a * b) % p = 0 → a % p = 0 ∨ b % p = 0
theorem eu_of {p : Nat} (hp : 2 ≤ p) (h : ∀ a < p, ∀ b < p, (a * b) % p = 0 → a = 0 ∨ b = 0) : Eu p := by
  refine ⟨hp, fun a b hab => ?_⟩
  rw [Nat.mul_mod] at hab
  exact h _ (Nat.mod_lt _ (by omega)) _ (Nat.mod_lt _ (by omega)) hab
theorem eu2 : Eu 2 := eu_of (by decide) (by decide)
theorem eu3 : Eu 3 := eu_of (by decide) (by decide)
theorem eu5 : Eu 5 := eu_of (by decide) (by decide)
theorem eu7 : Eu 7 := eu_of (by decide) (by decide)
theorem vp_mul {p : Nat} (hp : Eu p) : ∀ (s m n : Nat), m + n ≤ s → m ≠ 0 → n ≠ 0 → vp p (m * n) = vp p m + vp p n := by
  intro s
  induction s with
  | zero => intro m n h hm; omega
  | succ s ih =>
    intro m n h hm hn
    have h2 := hp.1
    by_cases c : m % p = 0
    · obtain ⟨k, rfl⟩ := Nat.dvd_of_mod_eq_zero c
      have hk : k ≠ 0 := fun z => hm (by rw [z, Nat.mul_zero])
      have hlt : k < p * k := by
        have := Nat.mul_lt_mul_of_pos_right (show 1 < p by omega) (Nat.pos_of_ne_zero hk)
        omega
      rw [Nat.mul_assoc, vp_mul_self h2 (Nat.mul_ne_zero hk hn), vp_mul_self h2 hk, ih k n (by omega) hk hn]
      omega
    · by_cases d : n % p = 0
      · obtain ⟨k, rfl⟩ := Nat.dvd_of_mod_eq_zero d
        have hk : k ≠ 0 := fun z => hn (by rw [z, Nat.mul_zero])
        have hlt : k < p * k := by
          have := Nat.mul_lt_mul_of_pos_right (show 1 < p by omega) (Nat.pos_of_ne_zero hk)
          omega
        rw [Nat.mul_left_comm, vp_mul_self h2 (Nat.mul_ne_zero hm hk), vp_mul_self h2 hk, ih m k (by omega) hm hk]
        omega
      · have e : (m * n) % p ≠ 0 := fun z => (hp.2 m n z).elim c d
        rw [vp_no e, vp_no c, vp_no d]
theorem vp_mul' {p m n : Nat} (hp : Eu p) (hm : m ≠ 0) (hn : n ≠ 0) : vp p (m * n) = vp p m + vp p n := vp_mul hp _ m n (Nat.le_refl _) hm hn
theorem vp_pow {p r : Nat} (hp : Eu p) (hr : r ≠ 0) : ∀ k : Nat, vp p (r ^ k) = k * vp p r
  | 0 => by
    rw [Nat.pow_zero, Nat.zero_mul]
    exact vp_no (by have := hp.1; rw [Nat.mod_eq_of_lt (by omega)]; decide)
  | k + 1 => by
    rw [Nat.pow_succ, vp_mul' hp (Nat.pow_ne_zero hr) hr, vp_pow hp hr k, Nat.succ_mul]
where
  Nat.pow_ne_zero {r k : Nat} (h : r ≠ 0) : r ^ k ≠ 0 := Nat.pos_iff_ne_zero.mp (Nat.pow_pos (Nat.pos_of_ne_zero h))
theorem vp_self {p : Nat} (hp : 2 ≤ p) : vp p p = 1 := by
  have h := vp_mul_self hp (n := 1) (by decide)
  rw [Nat.mul_one] at h
  rw [h, vp_no (by rw [Nat.mod_eq_of_lt (by omega)]; decide)]
theorem pow_ne {r k : Nat} (h : r ≠ 0) : r ^ k ≠ 0 := Nat.pos_iff_ne_zero.mp (Nat.pow_pos (Nat.pos_of_ne_zero h))
/-! ### products of four powers -/
def four (a b c d : Nat) : Nat := 2 ^ a * 3 ^ b * 5 ^ c * 7 ^ d
theorem four_pos (a b c d : Nat) : 0 < four a b c d := by
  unfold four
  exact Nat.mul_pos (Nat.mul_pos (Nat.mul_pos (Nat.pow_pos (by decide)) (Nat.pow_pos (by decide))) (Nat.pow_pos (by decide))) (Nat.pow_pos (by decide))
theorem vp_four {p : Nat} (hp : Eu p) (a b c d : Nat) : vp p (four a b c d) = a * vp p 2 + b * vp p 3 + c * vp p 5 + d * vp p 7 := by
  unfold four
  have h2 : (2 : Nat) ^ a ≠ 0 := pow_ne (by decide)
  have h3 : (3 : Nat) ^ b ≠ 0 := pow_ne (by decide)
  have h5 : (5 : Nat) ^ c ≠ 0 := pow_ne (by decide)
  have h7 : (7 : Nat) ^ d ≠ 0 := pow_ne (by decide)
  rw [vp_mul' hp (Nat.mul_ne_zero (Nat.mul_ne_zero h2 h3) h5) h7, vp_mul' hp (Nat.mul_ne_zero h2 h3) h5, vp_mul' hp h2 h3,
    vp_pow hp (by decide), vp_pow hp (by decide), vp_pow hp (by decide), vp_pow hp (by decide)]
theorem vp2_four (a b c d : Nat) : vp 2 (four a b c d) = a := by
  rw [vp_four eu2, vp_self (by decide), vp_no (p := 2) (n := 3) (by decide), vp_no (p := 2) (n := 5) (by decide), vp_no (p := 2) (n := 7) (by decide)]
  omega
theorem vp3_four (a b c d : Nat) : vp 3 (four a b c d) = b := by
  rw [vp_four eu3, vp_self (by decide), vp_no (p := 3) (n := 2) (by decide), vp_no (p := 3) (n := 5) (by decide), vp_no (p := 3) (n := 7) (by decide)]
  omega
theorem vp5_four (a b c d : Nat) : vp 5 (four a b c d) = c := by
  rw [vp_four eu5, vp_self (by decide), vp_no (p := 5) (n := 2) (by decide), vp_no (p := 5) (n := 3) (by decide), vp_no (p := 5) (n := 7) (by decide)]
  omega
theorem vp7_four (a b c d : Nat) : vp 7 (four a b c d) = d := by
  rw [vp_four eu7, vp_self (by decide), vp_no (p := 7) (n := 2) (by decide), vp_no (p := 7) (n := 3) (by decide), vp_no (p := 7) (n := 5) (by decide)]
  omega
/-- a perfect power -/
def Perf (k n : Nat) : Prop := ∃ r : Nat, r ^ k = n
theorem perf_dvd {p k n : Nat} (hp : Eu p) (hk : k ≠ 0) (hn : n ≠ 0) (h : Perf k n) : k ∣ vp p n := by
  obtain ⟨r, rfl⟩ := h
  have hr : r ≠ 0 := fun z => hn (by rw [z, Nat.zero_pow (Nat.pos_of_ne_zero hk)])
  rw [vp_pow hp hr]
  exact Nat.dvd_mul_right _ _
theorem perf_four {k a b c d : Nat} (hk : k ≠ 0) : Perf k (four a b c d) ↔ k ∣ a ∧ k ∣ b ∧ k ∣ c ∧ k ∣ d := by
  have hn : four a b c d ≠ 0 := Nat.pos_iff_ne_zero.mp (four_pos a b c d)
  constructor
  · intro h
    refine ⟨?_, ?_, ?_, ?_⟩
    · have := perf_dvd eu2 hk hn h
      rwa [vp2_four] at this
    · have := perf_dvd eu3 hk hn h
      rwa [vp3_four] at this
    · have := perf_dvd eu5 hk hn h
      rwa [vp5_four] at this
    · have := perf_dvd eu7 hk hn h
      rwa [vp7_four] at this
  · rintro ⟨⟨a, rfl⟩, ⟨b, rfl⟩, ⟨c, rfl⟩, ⟨d, rfl⟩⟩
    refine ⟨four a b c d, ?_⟩
    unfold four
    rw [Nat.mul_pow, Nat.mul_pow, Nat.mul_pow, ← Nat.pow_mul, ← Nat.pow_mul, ← Nat.pow_mul, ← Nat.pow_mul, Nat.mul_comm a k, Nat.mul_comm b k, Nat.mul_comm c k, Nat.mul_comm d k]
/-! ### exponents with signs -/
structure Vec where
  a : Int
  b : Int
  c : Int
  d : Int
  deriving DecidableEq
def Vec.top (v : Vec) : Nat := four v.a.toNat v.b.toNat v.c.toNat v.d.toNat
def Vec.bot (v : Vec) : Nat := four (-v.a).toNat (-v.b).toNat (-v.c).toNat (-v.d).toNat
def Vec.g (v : Vec) : Nat := Nat.gcd (Nat.gcd (Nat.gcd v.a.natAbs v.b.natAbs) v.c.natAbs) v.d.natAbs
theorem dvd_both {k : Nat} {e : Int} : (k ∣ e.toNat ∧ k ∣ (-e).toNat) ↔ k ∣ e.natAbs := by
  constructor
  · rintro ⟨h1, h2⟩
    by_cases c : 0 ≤ e
    · have : e.toNat = e.natAbs := by omega
      rwa [this] at h1
    · have : (-e).toNat = e.natAbs := by omega
      rwa [this] at h2
  · intro h
    by_cases c : 0 ≤ e
    · have h1 : e.toNat = e.natAbs := by omega
      have h2 : (-e).toNat = 0 := by omega
      rw [h1, h2]
      exact ⟨h, Nat.dvd_zero _⟩
    · have h1 : (-e).toNat = e.natAbs := by omega
      have h2 : e.toNat = 0 := by omega
      rw [h1, h2]
      exact ⟨Nat.dvd_zero _, h⟩
theorem dvd_g {k : Nat} {v : Vec} : k ∣ v.g ↔ k ∣ v.a.natAbs ∧ k ∣ v.b.natAbs ∧ k ∣ v.c.natAbs ∧ k ∣ v.d.natAbs := by
  unfold Vec.g
  rw [Nat.dvd_gcd_iff, Nat.dvd_gcd_iff, Nat.dvd_gcd_iff]
  constructor
  · rintro ⟨⟨⟨h1, h2⟩, h3⟩, h4⟩
    exact ⟨h1, h2, h3, h4⟩
  · rintro ⟨h1, h2, h3, h4⟩
    exact ⟨⟨⟨h1, h2⟩, h3⟩, h4⟩
theorem perf_vec {k : Nat} (hk : k ≠ 0) (v : Vec) : (Perf k v.top ∧ Perf k v.bot) ↔ k ∣ v.g := by
  unfold Vec.top Vec.bot
  rw [perf_four hk, perf_four hk, dvd_g]
  constructor
  · rintro ⟨⟨a1, a2, a3, a4⟩, ⟨b1, b2, b3, b4⟩⟩
    exact ⟨dvd_both.mp ⟨a1, b1⟩, dvd_both.mp ⟨a2, b2⟩, dvd_both.mp ⟨a3, b3⟩, dvd_both.mp ⟨a4, b4⟩⟩
  · rintro ⟨h1, h2, h3, h4⟩
    have e1 := dvd_both.mpr h1
    have e2 := dvd_both.mpr h2
    have e3 := dvd_both.mpr h3
    have e4 := dvd_both.mpr h4
    exact ⟨⟨e1.1, e2.1, e3.1, e4.1⟩, ⟨e1.2, e2.2, e3.2, e4.2⟩⟩
theorem g_zero {v : Vec} (h : v.g = 0) : v.a = 0 ∧ v.b = 0 ∧ v.c = 0 ∧ v.d = 0 := by
  unfold Vec.g at h
  obtain ⟨h1, h4⟩ := Nat.gcd_eq_zero_iff.mp h
  obtain ⟨h1, h3⟩ := Nat.gcd_eq_zero_iff.mp h1
  obtain ⟨h1, h2⟩ := Nat.gcd_eq_zero_iff.mp h1
  omega
theorem top_pos (v : Vec) : 0 < v.top := four_pos _ _ _ _
theorem bot_pos (v : Vec) : 0 < v.bot := four_pos _ _ _ _
theorem g_one_of {v : Vec} (ht : v.top = 1) (hb : v.bot = 1) : v.g = 0 := by
  -- every k > 0 makes 1 a perfect power
  have key : ∀ k : Nat, k ≠ 0 → k ∣ v.g := fun k hk => (perf_vec hk v).mp ⟨⟨1, by rw [Nat.one_pow, ht]⟩, ⟨1, by rw [Nat.one_pow, hb]⟩⟩
  have h := key (v.g + 1) (by omega)
  rcases Nat.eq_zero_or_pos v.g with z | z
  · exact z
  · have := Nat.le_of_dvd z h
    omega
/-- the exponent of a fraction -/
def IsExpo (t b e : Nat) : Prop := (t = 1 ∧ b = 1 ∧ e = 0) ∨ (¬ (t = 1 ∧ b = 1) ∧ 1 ≤ e ∧ Perf e t ∧ Perf e b ∧ ∀ k, e < k → ¬ (Perf k t ∧ Perf k b))
theorem expo_vec (v : Vec) : ∀ e : Nat, IsExpo v.top v.bot e → e = v.g := by
  intro e h
  rcases h with ⟨h1, h2, h3⟩ | ⟨h1, h2, h3, h4, h5⟩
  · rw [h3, g_one_of h1 h2]
  · have hd : e ∣ v.g := (perf_vec (by omega) v).mp ⟨h3, h4⟩
    rcases Nat.eq_zero_or_pos v.g with z | z
    · obtain ⟨e1, e2, e3, e4⟩ := g_zero z
      refine absurd ?_ h1
      unfold Vec.top Vec.bot
      rw [e1, e2, e3, e4]
      decide
    · have h6 := Nat.le_of_dvd z hd
      rcases Nat.lt_or_ge e v.g with y | y
      · exact absurd ((perf_vec (k := v.g) (by omega) v).mpr (Nat.dvd_refl _)) (h5 _ y)
      · omega
end KM
end
section
set_option Elab.async false
set_option linter.all false
set_option maxRecDepth 100000
set_option maxHeartbeats 4000000
namespace KM
/-! ### a fraction in lowest form -/
theorem cop_pow {p q : Nat} (h : Nat.Coprime p q) (i j : Nat) : Nat.Coprime (p ^ i) (q ^ j) := Nat.Coprime.pow i j h
theorem cop_same {p i j : Nat} (h : i = 0 ∨ j = 0) : Nat.Coprime (p ^ i) (p ^ j) := by
  rcases h with rfl | rfl
  · rw [Nat.pow_zero]; exact Nat.gcd_one_left _
  · rw [Nat.pow_zero]; exact Nat.gcd_one_right _
theorem cop_four {a b c d a' b' c' d' : Nat} (ha : a = 0 ∨ a' = 0) (hb : b = 0 ∨ b' = 0) (hc : c = 0 ∨ c' = 0) (hd : d = 0 ∨ d' = 0) : Nat.Coprime (four a b c d) (four a' b' c' d') := by
  unfold four
  have x2 : ∀ j, Nat.Coprime (2 ^ j) (2 ^ a' * 3 ^ b' * 5 ^ c' * 7 ^ d') ↔ Nat.Coprime (2 ^ j) (2 ^ a' * 3 ^ b' * 5 ^ c' * 7 ^ d') := fun _ => Iff.rfl
  refine Nat.Coprime.mul_left (Nat.Coprime.mul_left (Nat.Coprime.mul_left ?_ ?_) ?_) ?_
  · exact Nat.Coprime.mul_right (Nat.Coprime.mul_right (Nat.Coprime.mul_right (cop_same ha) (cop_pow (by decide) _ _)) (cop_pow (by decide) _ _)) (cop_pow (by decide) _ _)
  · exact Nat.Coprime.mul_right (Nat.Coprime.mul_right (Nat.Coprime.mul_right (cop_pow (by decide) _ _) (cop_same hb)) (cop_pow (by decide) _ _)) (cop_pow (by decide) _ _)
  · exact Nat.Coprime.mul_right (Nat.Coprime.mul_right (Nat.Coprime.mul_right (cop_pow (by decide) _ _) (cop_pow (by decide) _ _)) (cop_same hc)) (cop_pow (by decide) _ _)
  · exact Nat.Coprime.mul_right (Nat.Coprime.mul_right (Nat.Coprime.mul_right (cop_pow (by decide) _ _) (cop_pow (by decide) _ _)) (cop_pow (by decide) _ _)) (cop_same hd)
theorem cop_vec (v : Vec) : Nat.gcd v.top v.bot = 1 := cop_four (by omega) (by omega) (by omega) (by omega)
/-- a quarter -/
def Vec.quart (v : Vec) : Vec := { v with a := v.a - 2 }
theorem four_succ (a b c d : Nat) : four (a + 1) b c d = 2 * four a b c d := by
  unfold four
  rw [Nat.pow_succ, Nat.mul_comm (2 ^ a) 2, Nat.mul_assoc 2, Nat.mul_assoc 2, Nat.mul_assoc 2]
/-- the common divisor of top and 4 * bot -/
theorem quart_of (v : Vec) : ∃ c : Nat, (c = 1 ∨ c = 2 ∨ c = 4) ∧ Nat.gcd v.top (4 * v.bot) = c ∧ v.top = c * v.quart.top ∧ 4 * v.bot = c * v.quart.bot := by
  have key : ∀ c : Nat, v.top = c * v.quart.top → 4 * v.bot = c * v.quart.bot → Nat.gcd v.top (4 * v.bot) = c := fun c h1 h2 => by
    rw [h1, h2, Nat.gcd_mul_left, cop_vec, Nat.mul_one]
  by_cases h : 2 ≤ v.a
  · have h1 : v.top = 4 * v.quart.top := by
      unfold Vec.top Vec.quart
      have e : v.a.toNat = (v.a - 2).toNat + 1 + 1 := by omega
      show four v.a.toNat _ _ _ = _
      rw [e, four_succ, four_succ, ← Nat.mul_assoc]
    have h2 : 4 * v.bot = 4 * v.quart.bot := by
      unfold Vec.bot Vec.quart
      have e : (-v.a).toNat = (-(v.a - 2)).toNat := by omega
      show 4 * four (-v.a).toNat _ _ _ = 4 * four (-(v.a - 2)).toNat _ _ _
      rw [e]
    exact ⟨4, .inr (.inr rfl), key 4 h1 h2, h1, h2⟩
  · by_cases h' : v.a = 1
    · have h1 : v.top = 2 * v.quart.top := by
        unfold Vec.top Vec.quart
        have e : v.a.toNat = (v.a - 2).toNat + 1 := by omega
        show four v.a.toNat _ _ _ = _
        rw [e, four_succ]
      have h2 : 4 * v.bot = 2 * v.quart.bot := by
        unfold Vec.bot Vec.quart
        have e : (-(v.a - 2)).toNat = (-v.a).toNat + 1 := by omega
        show 4 * four (-v.a).toNat _ _ _ = 2 * four (-(v.a - 2)).toNat _ _ _
        rw [e, four_succ, ← Nat.mul_assoc]
      exact ⟨2, .inr (.inl rfl), key 2 h1 h2, h1, h2⟩
    · have h1 : v.top = 1 * v.quart.top := by
        unfold Vec.top Vec.quart
        have e : v.a.toNat = (v.a - 2).toNat := by omega
        show four v.a.toNat _ _ _ = _
        rw [e, Nat.one_mul]
      have h2 : 4 * v.bot = 1 * v.quart.bot := by
        unfold Vec.bot Vec.quart
        have e : (-(v.a - 2)).toNat = (-v.a).toNat + 1 + 1 := by omega
        show 4 * four (-v.a).toNat _ _ _ = 1 * four (-(v.a - 2)).toNat _ _ _
        rw [e, four_succ, four_succ, Nat.one_mul, ← Nat.mul_assoc]
      exact ⟨1, .inl rfl, key 1 h1 h2, h1, h2⟩
/-! ### the plans' bounds -/
structure Vec.Ok (v : Vec) : Prop where
  a1 : -18 ≤ v.a
  a2 : v.a ≤ 18
  b1 : -12 ≤ v.b
  b2 : v.b ≤ 12
  c1 : -12 ≤ v.c
  c2 : v.c ≤ 12
  d1 : -12 ≤ v.d
  d2 : v.d ≤ 12
theorem four_le {a b c d a' b' c' d' : Nat} (ha : a ≤ a') (hb : b ≤ b') (hc : c ≤ c') (hd : d ≤ d') : four a b c d ≤ four a' b' c' d' := by
  unfold four
  exact Nat.mul_le_mul (Nat.mul_le_mul (Nat.mul_le_mul (Nat.pow_le_pow_right (by decide) ha) (Nat.pow_le_pow_right (by decide) hb)) (Nat.pow_le_pow_right (by decide) hc)) (Nat.pow_le_pow_right (by decide) hd)
theorem big_four : four 18 12 12 12 ≤ 1000000000000000000000000000000 := by decide +kernel
theorem Vec.Ok.top_le {v : Vec} (h : v.Ok) : v.top ≤ 1000000000000000000000000000000 := by
  have := h.a1; have := h.a2; have := h.b1; have := h.b2; have := h.c1; have := h.c2; have := h.d1; have := h.d2
  exact Nat.le_trans (four_le (by omega) (by omega) (by omega) (by omega)) big_four
theorem Vec.Ok.bot_le {v : Vec} (h : v.Ok) : v.bot ≤ 1000000000000000000000000000000 := by
  have := h.a1; have := h.a2; have := h.b1; have := h.b2; have := h.c1; have := h.c2; have := h.d1; have := h.d2
  exact Nat.le_trans (four_le (by omega) (by omega) (by omega) (by omega)) big_four
theorem big_quart : four 20 12 12 12 ≤ 4000000000000000000000000000000 := by decide +kernel
theorem Vec.Ok.qtop_le {v : Vec} (h : v.Ok) : v.quart.top ≤ 4000000000000000000000000000000 := by
  have := h.a1; have := h.a2; have := h.b1; have := h.b2; have := h.c1; have := h.c2; have := h.d1; have := h.d2
  unfold Vec.quart
  refine Nat.le_trans (four_le (a' := 20) (b' := 12) (c' := 12) (d' := 12) ?_ ?_ ?_ ?_) big_quart <;> dsimp only <;> omega
theorem Vec.Ok.qbot_le {v : Vec} (h : v.Ok) : v.quart.bot ≤ 4000000000000000000000000000000 := by
  have := h.a1; have := h.a2; have := h.b1; have := h.b2; have := h.c1; have := h.c2; have := h.d1; have := h.d2
  unfold Vec.quart
  refine Nat.le_trans (four_le (a' := 20) (b' := 12) (c' := 12) (d' := 12) ?_ ?_ ?_ ?_) big_quart <;> dsimp only <;> omega
theorem gcd_le_of {m n k : Nat} (h : Nat.gcd m n ≠ 0) (hm : m ≤ k) (hn : n ≤ k) : Nat.gcd m n ≤ k := by
  rcases Nat.eq_zero_or_pos m with z | z
  · rw [z, Nat.gcd_zero_left]; exact hn
  · exact Nat.le_trans (Nat.gcd_le_left n z) hm
theorem gcd_le_max {m n k : Nat} (hm : m ≤ k) (hn : n ≤ k) : Nat.gcd m n ≤ k := by
  rcases Nat.eq_zero_or_pos m with z | z
  · rw [z, Nat.gcd_zero_left]; exact hn
  · exact Nat.le_trans (Nat.gcd_le_left n z) hm
theorem Vec.Ok.g_le {v : Vec} (h : v.Ok) : v.g ≤ 18 := by
  have := h.a1; have := h.a2; have := h.b1; have := h.b2; have := h.c1; have := h.c2; have := h.d1; have := h.d2
  exact gcd_le_max (gcd_le_max (gcd_le_max (by omega) (by omega)) (by omega)) (by omega)
/-! ### odd parts -/
def oddp (n : Nat) : Nat := n / 2 ^ vp 2 n
theorem oddp_of {n j o : Nat} (h : n = 2 ^ j * o) (ho : o % 2 = 1) : oddp n = o := by
  have h0 : o ≠ 0 := fun z => by rw [z] at ho; cases ho
  have h2 : (2 : Nat) ^ j ≠ 0 := pow_ne (by decide)
  have e : vp 2 n = j := by
    rw [h, vp_mul' eu2 h2 h0, vp_pow eu2 (by decide), vp_self (by decide), vp_no (by omega)]
    omega
  unfold oddp
  rw [e, h]
  exact Nat.mul_div_cancel_left o (Nat.pos_of_ne_zero h2)
theorem oddp_even {n : Nat} (hn : n ≠ 0) (h : n % 2 = 0) : oddp n = oddp (n / 2) := by
  have e : vp 2 n = 1 + vp 2 (n / 2) := vp_yes (by decide) hn h
  unfold oddp
  rw [e, Nat.pow_add, Nat.pow_one, Nat.div_div_eq_div_mul]
theorem oddp_odd {n : Nat} (h : n % 2 = 1) : oddp n = n := oddp_of (j := 0) (by rw [Nat.pow_zero, Nat.one_mul]) h
def halveN : Nat → Nat → Nat
  | 0, n => n
  | k + 1, n => halveN k (if n % 2 = 0 then n / 2 else n)
theorem halveN_odd {n : Nat} (h : n % 2 = 1) : ∀ k, halveN k n = n
  | 0 => rfl
  | k + 1 => by
    unfold halveN
    rw [if_neg (by omega)]
    exact halveN_odd h k
theorem halveN_eq : ∀ (k n : Nat), n ≠ 0 → n < 2 ^ k → halveN k n = oddp n
  | 0, n, h0, h => by rw [Nat.pow_zero] at h; omega
  | k + 1, n, h0, h => by
    unfold halveN
    by_cases c : n % 2 = 0
    · rw [if_pos c, oddp_even h0 c]
      exact halveN_eq k (n / 2) (by omega) (by rw [Nat.pow_succ] at h; omega)
    · rw [if_neg c, halveN_odd (by omega), oddp_odd (by omega)]
/-- one more turn at the end -/
theorem halveN_last : ∀ (k n : Nat), halveN (k + 1) n = (if halveN k n % 2 = 0 then halveN k n / 2 else halveN k n)
  | 0, n => rfl
  | k + 1, n => by
    have h := halveN_last k (if n % 2 = 0 then n / 2 else n)
    exact h
def jl (g : Nat) : Nat := ([0, 0, 1, 0, 2, 0, 1, 0, 3, 0, 1, 0, 2, 0, 1, 0, 4, 0, 1] : List Nat).getD g 0
theorem pow2_tab : ∀ g : Nat, g < 19 → 0 < g → (g = 2 ^ jl g * (g / 2 ^ jl g) ∧ (g / 2 ^ jl g) % 2 = 1 ∧ ((g / 2 ^ jl g = 1) ↔ g ∈ [1, 2, 4, 8, 16, 32, 64])) := by decide +kernel
theorem pow2_of {g : Nat} (h : g ≤ 18) : (0 < g ∧ oddp g = 1) ↔ g ∈ [1, 2, 4, 8, 16, 32, 64] := by
  rcases Nat.eq_zero_or_pos g with z | z
  · rw [z]; decide
  · obtain ⟨h1, h2, h3⟩ := pow2_tab g (by omega) z
    rw [oddp_of h1 h2, ← h3]
    exact ⟨fun q => q.2, fun q => ⟨z, q⟩⟩
/-! ### fours -/
/-- the four exponents of a four: the first less 2, all divisible by 4 -/
def Vec.isFour (v : Vec) : Bool := v.quart.a % 4 == 0 && (v.b % 4 == 0 && (v.c % 4 == 0 && v.d % 4 == 0))
theorem dvd_abs4 {e : Int} : 4 ∣ e.natAbs ↔ e % 4 = 0 := by omega
theorem four_iff (v : Vec) : v.isFour = true ↔ v.quart.g % 4 = 0 := by
  rw [← Nat.dvd_iff_mod_eq_zero, dvd_g, dvd_abs4, dvd_abs4, dvd_abs4, dvd_abs4]
  unfold Vec.isFour
  rw [Bool.and_eq_true, Bool.and_eq_true, Bool.and_eq_true, beq_iff_eq, beq_iff_eq, beq_iff_eq, beq_iff_eq]
  exact Iff.rfl
/-! ### the primes that divide -/
def strip : Nat → Nat → Nat → Nat
  | 0, l, _ => l
  | f + 1, l, s => if l % s = 0 then strip f (l / s) s else l
def pd : Nat → List Nat → Nat → Nat → List Nat
  | 0, found, left, _ => found ++ (if 1 < left then [left] else [])
  | f + 1, found, left, step => if step * step ≤ left then (if left % step = 0 then pd f (found ++ [step]) (strip left left step) (step + 1) else pd f found left (step + 1)) else found ++ (if 1 < left then [left] else [])
def pdiv (v : Nat) : List Nat := pd 20 [] v 2
theorem pd_end {f : Nat} {found : List Nat} {left step : Nat} (h : ¬ step * step ≤ left) : pd f found left step = found ++ (if 1 < left then [left] else []) := by
  cases f with
  | zero => rfl
  | succ f => unfold pd; rw [if_neg h]
/-- the law's list of primes -/
def primesL : List Nat := [2, 3, 5, 7, 11, 13, 17, 19, 23, 29, 31]
theorem pdiv_tab : ∀ g : Nat, g < 19 → 0 < g → pdiv g = primesL.filter fun p => decide (g % p = 0) := by decide +kernel
theorem strip_le : ∀ (f l s : Nat), strip f l s ≤ l
  | 0, l, s => Nat.le_refl _
  | f + 1, l, s => by
    unfold strip
    split
    · exact Nat.le_trans (strip_le f _ s) (Nat.div_le_self _ _)
    · exact Nat.le_refl _
end KM
end
section
set_option Elab.async false
set_option linter.all false
set_option maxRecDepth 100000
set_option maxHeartbeats 4000000
/-! the ground of the walk: what the head has told, by names; a def, its call -/
namespace KB
open PySem PySem.Spec PyProof.Rows L2
/-- what is known of the top -/
structure Wd (K : PySem.W.Frag) (mg : Str → Option Value) : Prop where
  says : He.SaysD fa fn K
  more : ex K = true
  gets : (fnp.map fun d => gW K d.at_) = fnp.map He.DefD.val
  glob : ∀ x, (He.Fa.glo x).ok K = true → mg x = some (.ref (He.ga K x))
  free_ : ∀ x, (He.Fa.free x).ok K = true → mg x = none
  int_ : ∀ x i, (He.Fa.int x i).ok K = true → ∃ t, mg x = some (.int i t)
  str_ : ∀ x z, (He.Fa.str x z).ok K = true → ∃ t, mg x = some (.str z t)
theorem wd_of {w : World} {h base : Heap} {K : PySem.W.Frag} {mg : Str → Option Value} (c : SaysP w h K) (X : K.In base) (G : base.Ns mainGlobals mg) : Wd K mg :=
  ⟨c.1.t.d, c.1.more, c.2, fun x e => He.glo_ok X G e, fun x e => He.free_ok X G e, fun x i e => He.int_ok X G e, fun x z e => He.str_ok X G e⟩
section
variable {K : PySem.W.Frag} {mg : Str → Option Value}
theorem Wd.fact (W : Wd K mg) {f : He.Fa} (h : f ∈ fa) : f.ok K = true := W.says.facts h
theorem Wd.glo (W : Wd K mg) {x : Str} (h : x ∈ glos ++ glos2) : mg x = some (.ref (He.ga K x)) := by
  refine W.glob x (W.fact ?_)
  unfold fa
  rcases List.mem_append.mp h with h | h
  · exact List.mem_append_left _ (List.mem_map_of_mem h)
  · exact List.mem_append_right _ (List.mem_append_left _ (List.mem_map_of_mem h))
theorem Wd.free (W : Wd K mg) {x : Str} (h : x ∈ frees) : mg x = none := by
  refine W.free_ x (W.fact ?_)
  unfold fa
  exact List.mem_append_right _ (List.mem_append_right _ (List.mem_append_left _ (List.mem_map_of_mem h)))
theorem Wd.rest (W : Wd K mg) {f : He.Fa} (h : f ∈ ([.int "MOST_LETTERS" 8, .int "MOST_SIZE" 1000000000000000000000000000000, .str "LETTERS" "abcdefghijklmnopqrstuvwxyz", .str "ALL" "all",
  .cls bookC, .noat bookC "numbers", .noat bookC "made", .noat bookC "past", .noat bookC "__bool__", .mkr bookC] ++ bmeths.map (He.Fa.meth bookC) : List He.Fa)) : f.ok K = true := by
  refine W.fact ?_
  unfold fa
  exact List.mem_append_right _ (List.mem_append_right _ (List.mem_append_right _ h))
/-! ### a def of the module, a method -/
structure FnF (K : PySem.W.Frag) (mg : Str → Option Value) (x : Str) (st : Stmt) (ps : List Str) : Prop where
  ex : ∃ fd, Fun K x x st (He.ga K x) fd ∧ Binds K fd ps []
  gl : mg x = some (.ref (He.ga K x))
structure FnM (K : PySem.W.Frag) (x qual : Str) (st : Stmt) (f : Addr) (ps : List Str) : Prop where
  ex : ∃ fd, Fun K x qual st f fd ∧ Binds K fd ps []
theorem fun_of {x qual : Str} {st : Stmt} {f : Addr} {fd : FuncData} (F : FunD K x qual (defArgs st) (defBody st) (defScope st) [] [] f fd) : Fun K x qual st f fd := by
  obtain ⟨⟨oc, od, dV, kV, doc, pm, an, cdv, ct, osl, e1, e2, e3, e4, _⟩, kp⟩ := F
  rcases e4 with ⟨_, e4⟩ | ⟨e4, _⟩
  · subst e4
    exact ⟨⟨oc, od, kV, doc, pm, an, cdv, ct, osl, e1, e2, e3⟩, kp⟩
  · exact absurd rfl e4
theorem funD_ex {x qual : Str} {st : Stmt} {f : Addr} (c : ∃ fd, FunD K x qual (defArgs st) (defBody st) (defScope st) [] [] f fd) : ∃ fd, Fun K x qual st f fd := by
  obtain ⟨fd, F⟩ := c
  exact ⟨fd, fun_of F⟩
theorem fnF_mk {x : Str} {st : Stmt} {ps : List Str} (_ : He.SaysD fa fn K) (c : ∃ fd, FunD K x x (defArgs st) (defBody st) (defScope st) [] [] (He.ga K x) fd) (g : mg x = some (.ref (He.ga K x)))
    (h : ∀ (kV doc pm : Value) (an : Option Addr) (cdv ct : Value) (us : List Value), us.length = ps.length → bindArgs (PySem.W.fnOf x x (defArgs st) (defBody st) (defScope st) .none kV doc pm an cdv ct) ⟨us, []⟩ = pure (ps.zip us)) : FnF K mg x st ps := by
  obtain ⟨fd, F⟩ := c
  exact ⟨⟨fd, fun_of F, (fun_of F).binds h⟩, g⟩
theorem fnM_mk {x qual : Str} {st : Stmt} {f : Addr} {ps : List Str} (c : ∃ fd, Fun K x qual st f fd)
    (h : ∀ (kV doc pm : Value) (an : Option Addr) (cdv ct : Value) (us : List Value), us.length = ps.length → bindArgs (PySem.W.fnOf x qual (defArgs st) (defBody st) (defScope st) .none kV doc pm an cdv ct) ⟨us, []⟩ = pure (ps.zip us)) : FnM K x qual st f ps := by
  obtain ⟨fd, F⟩ := c
  exact ⟨⟨fd, F, F.binds h⟩⟩
theorem fun_to {x qual : Str} {st st' : Stmt} {f : Addr} (h1 : defArgs st = defArgs st') (h2 : defBody st = defBody st') (h3 : defScope st = defScope st') (c : ∃ fd, Fun K x qual st f fd) : ∃ fd, Fun K x qual st' f fd := by
  obtain ⟨fd, ⟨ex, kp⟩⟩ := c
  refine ⟨fd, ⟨?_, kp⟩⟩
  rw [h1, h2, h3] at ex
  exact ex
/-- a property's getter -/
theorem getter_ok {d : He.DefD} (e : gW K d.at_ = d.val) (c : gOk K d = true) : ∃ fd, Fun K d.name d.qual (.FunctionDef d.name d.params d.body [] none [] d.scope none d.name default) (gAd K d.at_) fd := by
  obtain ⟨kp, c2⟩ := He.ba c
  unfold gW at e
  cases q : K.lookup (gAd K d.at_) with
  | none => rw [q] at c2; cases c2
  | some o =>
    obtain ⟨oc, od, dt, osl⟩ := o
    rw [q] at c2 e
    cases dt with
    | func fd =>
      obtain ⟨n1, n2, n3, n4, n5, n6, n7, n8, n9, n10, n11, n12, n13, n14, n15⟩ := fd
      have e2 : (some (n1, n2, n3, n4, n5, n6, n7, n15) : He.FnW) = some (d.name, d.qual, d.params, .stmts d.body, d.scope, mainGlobals, [], builtinsNs) := e
      simp only [Option.some.injEq, Prod.mk.injEq] at e2
      obtain ⟨h1, h2, h3, h4, h5, h6, h7, h8⟩ := e2
      subst h1 h2 h3 h4 h5 h6 h7 h8
      obtain ⟨k1, k2⟩ := He.ba (show (PySem.W.codeIn K n13 d.qual && (n8 == Value.none)) = true from c2)
      have e8 : n8 = Value.none := beq_iff_eq.mp k2
      subst e8
      exact ⟨_, ⟨oc, od, n9, n10, n11, n12, n13, n14, osl, rfl, q, k1⟩, kp⟩
    | _ => cases c2
theorem Wd.exAll (W : Wd K mg) : ((ers.all fun e => erB K e && (erI K e && erM K e)) = true) ∧ (bookB K = true ∧ (miscB K = true ∧ (fnp.all fun d => gOk K d) = true)) := by
  have h := W.more
  unfold ex at h
  obtain ⟨h1, h2⟩ := He.ba h
  obtain ⟨h3, h4⟩ := He.ba h2
  obtain ⟨h5, h6⟩ := He.ba h4
  exact ⟨h1, h3, h5, h6⟩
theorem getter_of (W : Wd K mg) {d : He.DefD} {i : Nat} (h : fnp[i]? = some d) (hm : i < fnp.length) : ∃ fd, Fun K d.name d.qual (.FunctionDef d.name d.params d.body [] none [] d.scope none d.name default) (gAd K d.at_) fd := by
  have e2 : (fnp.map fun d => gW K d.at_)[i]? = (fnp.map He.DefD.val)[i]? := by rw [W.gets]
  rw [List.getElem?_map, List.getElem?_map, h] at e2
  exact getter_ok (Option.some.inj e2) (List.all_eq_true.mp W.exAll.2.2.2 d (List.mem_of_getElem? h))
end
/-! ### a def that keeps its promise -/
structure OkD (P : Program) (w : World) (K : PySem.W.Frag) (mg : Str → Option Value) (base : Heap) (CX : CXT) (k : Nat) (x : Str) (ps : List Str) (sp : Sp) : Prop where
  ex : ∃ fd, FnOk P w K mg base CX k (He.ga K x) fd ps sp ∧ Binds K fd ps []
  gl : mg x = some (.ref (He.ga K x))
  kp : PySem.W.keepIn K (.ref (He.ga K x)) = true
structure OkM (P : Program) (w : World) (K : PySem.W.Frag) (mg : Str → Option Value) (base : Heap) (CX : CXT) (k : Nat) (f : Addr) (ps : List Str) (sp : Sp) : Prop where
  ex : ∃ fd, FnOk P w K mg base CX k f fd ps sp ∧ Binds K fd ps []
section
variable {P : Program} {w : World} {K : PySem.W.Frag} {mg : Str → Option Value} {base : Heap}
theorem FnF.ok {x : Str} {st : Stmt} {ps N : List Str} {k : Nat} {sp : Sp} (F : FnF K mg x st ps) (S : FnScope N ps (defScope st)) (len : ∀ vs H Q E, sp vs H Q E → vs.length = ps.length)
    (hbody : ∀ (cdv : Value) (A : Around) (outer : List Env) (s : Shared) (H : Hp) (vs : List V) (Q : VK) (E : XK), Room k (A.deeper (envOfC x (defScope st) s.heap.objs.size (He.ga K x) cdv)) → sp vs H Q E →
      ∃ t, PSs (cxOf CX0 P w K mg base N x (defScope st) (He.ga K x) cdv A outer s H E).nox (defBody st) t ∧ t { nx := fun _ H' => Q .non H', rt := Q } (start N vs) H) : OkD P w K mg base CX0 (k + 1) x ps sp := by
  obtain ⟨fd, G, b⟩ := F.ex
  exact ⟨⟨fd, G.ok S len hbody, b⟩, F.gl, G.kp⟩
theorem FnF.okX {x : Str} {st : Stmt} {ps N : List Str} {k : Nat} {sp : Sp} (F : FnF K mg x st ps) (S : FnScope N ps (defScope st)) (len : ∀ vs H Q E, sp vs H Q E → vs.length = ps.length)
    (hbody : ∀ (cdv : Value) (A : Around) (outer : List Env) (s : Shared) (H : Hp) (vs : List V) (Q : VK) (E : XK), Room k (A.deeper (envOfC x (defScope st) s.heap.objs.size (He.ga K x) cdv)) → sp vs H Q E →
      ∃ t, PSs (cxOf (L2.CX P w) P w K mg base N x (defScope st) (He.ga K x) cdv A outer s H E) (defBody st) t ∧ t { nx := fun _ H' => Q .non H', rt := Q } (start N vs) H) : OkD P w K mg base (L2.CX P w) (k + 1) x ps sp := by
  obtain ⟨fd, G, b⟩ := F.ex
  exact ⟨⟨fd, G.okX S len hbody, b⟩, F.gl, G.kp⟩
theorem FnM.ok {x qual : Str} {st : Stmt} {f : Addr} {ps N : List Str} {k : Nat} {sp : Sp} (F : FnM K x qual st f ps) (S : FnScope N ps (defScope st)) (len : ∀ vs H Q E, sp vs H Q E → vs.length = ps.length)
    (hbody : ∀ (cdv : Value) (A : Around) (outer : List Env) (s : Shared) (H : Hp) (vs : List V) (Q : VK) (E : XK), Room k (A.deeper (envOfC qual (defScope st) s.heap.objs.size f cdv)) → sp vs H Q E →
      ∃ t, PSs (cxOf CX0 P w K mg base N qual (defScope st) f cdv A outer s H E).nox (defBody st) t ∧ t { nx := fun _ H' => Q .non H', rt := Q } (start N vs) H) : OkM P w K mg base CX0 (k + 1) f ps sp := by
  obtain ⟨fd, G, b⟩ := F.ex
  exact ⟨⟨fd, G.ok S len hbody, b⟩⟩
theorem FnM.okX {x qual : Str} {st : Stmt} {f : Addr} {ps N : List Str} {k : Nat} {sp : Sp} (F : FnM K x qual st f ps) (S : FnScope N ps (defScope st)) (len : ∀ vs H Q E, sp vs H Q E → vs.length = ps.length)
    (hbody : ∀ (cdv : Value) (A : Around) (outer : List Env) (s : Shared) (H : Hp) (vs : List V) (Q : VK) (E : XK), Room k (A.deeper (envOfC qual (defScope st) s.heap.objs.size f cdv)) → sp vs H Q E →
      ∃ t, PSs (cxOf (L2.CX P w) P w K mg base N qual (defScope st) f cdv A outer s H E) (defBody st) t ∧ t { nx := fun _ H' => Q .non H', rt := Q } (start N vs) H) : OkM P w K mg base (L2.CX P w) (k + 1) f ps sp := by
  obtain ⟨fd, G, b⟩ := F.ex
  exact ⟨⟨fd, G.okX S len hbody, b⟩⟩
end
/-! ### the call -/
section
variable {X : Cx} {k : Nat} {x : Str} {ps : List Str} {sp : Sp} {p pos : Pos} {e : Expr} {es : List Expr} {t : TA}
/-- x(e, ..), x lets nothing out -/
theorem pcall (O : OkD X.prog X.w X.K X.mg X.base CX0 k x ps sp) (hr : Room k X.A) (ha : PA X (e :: es) t) (hg : Gl X x := by rfl) (hdb : (x == ("__debug__" : Str)) = false := by decide)
    (he : starEach (e :: es) X.env = (false, eval e X.env) :: starEach es X.env := by rfl) (hpl : (backTo pos (starEach es X.env)).any (·.1) = false := by rfl) :
    PE X (.Call (.Name x p) (e :: es) [] pos) (tCall sp [] E0 t) := by
  obtain ⟨fd, G, b⟩ := O.ex
  exact pe_call G hr hg O.gl O.kp b .nil pass0 ha hdb he hpl
/-- .. x may let an error out, that is taken -/
theorem pcallX {W : WX} {E : XK} (O : OkD X.prog X.w X.K X.mg X.base (L2.CX X.prog X.w) k x ps sp) (hr : Room k X.A) (tk : Takes X W) (hW : ∀ cls d σ H, E cls d H → W cls d σ H) (ha : PA X (e :: es) t) (hg : Gl X x := by rfl) (hdb : (x == ("__debug__" : Str)) = false := by decide)
    (he : starEach (e :: es) X.env = (false, eval e X.env) :: starEach es X.env := by rfl) (hpl : (backTo pos (starEach es X.env)).any (·.1) = false := by rfl) :
    PE X (.Call (.Name x p) (e :: es) [] pos) (tCall sp [] E t) := by
  obtain ⟨fd, G, b⟩ := O.ex
  exact pe_call G hr hg O.gl O.kp b .nil (passes_call tk hW) ha hdb he hpl
end
end KB
end
section
set_option Elab.async false
set_option linter.all false
set_option maxRecDepth 100000
set_option maxHeartbeats 4000000
namespace KB
open PySem PySem.Spec PyProof.Rows L2
section
variable {K : PySem.W.Frag} {mg : Str → Option Value}
theorem fn_InvalidName_init (W : Wd K mg) : FnM K "__init__" "InvalidName.__init__" s_InvalidName_init (He.ma K (He.ga K "InvalidName") "__init__") ["self", "given"] :=
  fnM_mk (funD_ex (W.says.def_ 0 (d := d_InvalidName_init) rfl)) (fun _ _ _ _ _ _ us hl => match us, hl with | [_, _], _ => rfl)
theorem fn_InvalidNumber_init (W : Wd K mg) : FnM K "__init__" "InvalidNumber.__init__" s_InvalidNumber_init (He.ma K (He.ga K "InvalidNumber") "__init__") ["self", "given"] :=
  fnM_mk (funD_ex (W.says.def_ 1 (d := d_InvalidNumber_init) rfl)) (fun _ _ _ _ _ _ us hl => match us, hl with | [_, _], _ => rfl)
theorem fn_InvalidWish_init (W : Wd K mg) : FnM K "__init__" "InvalidWish.__init__" s_InvalidWish_init (He.ma K (He.ga K "InvalidWish") "__init__") ["self", "given"] :=
  fnM_mk (funD_ex (W.says.def_ 2 (d := d_InvalidWish_init) rfl)) (fun _ _ _ _ _ _ us hl => match us, hl with | [_, _], _ => rfl)
theorem fn_InvalidIndex_init (W : Wd K mg) : FnM K "__init__" "InvalidIndex.__init__" s_InvalidIndex_init (He.ma K (He.ga K "InvalidIndex") "__init__") ["self", "given"] :=
  fnM_mk (funD_ex (W.says.def_ 3 (d := d_InvalidIndex_init) rfl)) (fun _ _ _ _ _ _ us hl => match us, hl with | [_, _], _ => rfl)
theorem fn_UnknownName_init (W : Wd K mg) : FnM K "__init__" "UnknownName.__init__" s_UnknownName_init (He.ma K (He.ga K "UnknownName") "__init__") ["self", "given"] :=
  fnM_mk (funD_ex (W.says.def_ 4 (d := d_UnknownName_init) rfl)) (fun _ _ _ _ _ _ us hl => match us, hl with | [_, _], _ => rfl)
theorem fn_Broken_init (W : Wd K mg) : FnM K "__init__" "Broken.__init__" s_Broken_init (He.ma K (He.ga K "Broken") "__init__") ["self", "index"] :=
  fnM_mk (funD_ex (W.says.def_ 5 (d := d_Broken_init) rfl)) (fun _ _ _ _ _ _ us hl => match us, hl with | [_, _], _ => rfl)
theorem fn_InUse_init (W : Wd K mg) : FnM K "__init__" "InUse.__init__" s_InUse_init (He.ma K (He.ga K "InUse") "__init__") ["self", "index"] :=
  fnM_mk (funD_ex (W.says.def_ 6 (d := d_InUse_init) rfl)) (fun _ _ _ _ _ _ us hl => match us, hl with | [_, _], _ => rfl)
theorem fn_is_integer (W : Wd K mg) : FnF K mg "is_integer" s_is_integer ["value"] :=
  fnF_mk W.says (c := W.says.def_ 7 (d := d_is_integer) rfl) (W.glo (by decide +kernel)) (fun _ _ _ _ _ _ us hl => match us, hl with | [_], _ => rfl)
theorem fn_is_between (W : Wd K mg) : FnF K mg "is_between" s_is_between ["value", "low", "high"] :=
  fnF_mk W.says (c := W.says.def_ 8 (d := d_is_between) rfl) (W.glo (by decide +kernel)) (fun _ _ _ _ _ _ us hl => match us, hl with | [_, _, _], _ => rfl)
theorem fn_is_name (W : Wd K mg) : FnF K mg "is_name" s_is_name ["value"] :=
  fnF_mk W.says (c := W.says.def_ 9 (d := d_is_name) rfl) (W.glo (by decide +kernel)) (fun _ _ _ _ _ _ us hl => match us, hl with | [_], _ => rfl)
theorem fn_power_of (W : Wd K mg) : FnF K mg "power_of" s_power_of ["base", "many"] :=
  fnF_mk W.says (c := W.says.def_ 10 (d := d_power_of) rfl) (W.glo (by decide +kernel)) (fun _ _ _ _ _ _ us hl => match us, hl with | [_, _], _ => rfl)
theorem fn_common_divisor (W : Wd K mg) : FnF K mg "common_divisor" s_common_divisor ["one", "other"] :=
  fnF_mk W.says (c := W.says.def_ 11 (d := d_common_divisor) rfl) (W.glo (by decide +kernel)) (fun _ _ _ _ _ _ us hl => match us, hl with | [_, _], _ => rfl)
theorem fn_floor_root (W : Wd K mg) : FnF K mg "floor_root" s_floor_root ["value", "power"] :=
  fnF_mk W.says (c := W.says.def_ 12 (d := d_floor_root) rfl) (W.glo (by decide +kernel)) (fun _ _ _ _ _ _ us hl => match us, hl with | [_, _], _ => rfl)
theorem fn_is_power (W : Wd K mg) : FnF K mg "is_power" s_is_power ["value", "power"] :=
  fnF_mk W.says (c := W.says.def_ 13 (d := d_is_power) rfl) (W.glo (by decide +kernel)) (fun _ _ _ _ _ _ us hl => match us, hl with | [_, _], _ => rfl)
theorem fn_prime_divisors (W : Wd K mg) : FnF K mg "prime_divisors" s_prime_divisors ["value"] :=
  fnF_mk W.says (c := W.says.def_ 14 (d := d_prime_divisors) rfl) (W.glo (by decide +kernel)) (fun _ _ _ _ _ _ us hl => match us, hl with | [_], _ => rfl)
theorem fn_is_number (W : Wd K mg) : FnF K mg "is_number" s_is_number ["value"] :=
  fnF_mk W.says (c := W.says.def_ 15 (d := d_is_number) rfl) (W.glo (by decide +kernel)) (fun _ _ _ _ _ _ us hl => match us, hl with | [_], _ => rfl)
theorem fn_check_number (W : Wd K mg) : FnF K mg "check_number" s_check_number ["value"] :=
  fnF_mk W.says (c := W.says.def_ 16 (d := d_check_number) rfl) (W.glo (by decide +kernel)) (fun _ _ _ _ _ _ us hl => match us, hl with | [_], _ => rfl)
theorem fn_lowest (W : Wd K mg) : FnF K mg "lowest" s_lowest ["top", "bottom"] :=
  fnF_mk W.says (c := W.says.def_ 17 (d := d_lowest) rfl) (W.glo (by decide +kernel)) (fun _ _ _ _ _ _ us hl => match us, hl with | [_, _], _ => rfl)
theorem fn_raised (W : Wd K mg) : FnF K mg "raised" s_raised ["number", "power"] :=
  fnF_mk W.says (c := W.says.def_ 18 (d := d_raised) rfl) (W.glo (by decide +kernel)) (fun _ _ _ _ _ _ us hl => match us, hl with | [_, _], _ => rfl)
theorem fn_whole_root (W : Wd K mg) : FnF K mg "whole_root" s_whole_root ["value", "power"] :=
  fnF_mk W.says (c := W.says.def_ 19 (d := d_whole_root) rfl) (W.glo (by decide +kernel)) (fun _ _ _ _ _ _ us hl => match us, hl with | [_, _], _ => rfl)
theorem fn_base_and_exponent (W : Wd K mg) : FnF K mg "base_and_exponent" s_base_and_exponent ["top", "bottom"] :=
  fnF_mk W.says (c := W.says.def_ 20 (d := d_base_and_exponent) rfl) (W.glo (by decide +kernel)) (fun _ _ _ _ _ _ us hl => match us, hl with | [_, _], _ => rfl)
theorem fn_base_for (W : Wd K mg) : FnF K mg "base_for" s_base_for ["number"] :=
  fnF_mk W.says (c := W.says.def_ 21 (d := d_base_for) rfl) (W.glo (by decide +kernel)) (fun _ _ _ _ _ _ us hl => match us, hl with | [_], _ => rfl)
theorem fn_root_for (W : Wd K mg) : FnF K mg "root_for" s_root_for ["number", "n"] :=
  fnF_mk W.says (c := W.says.def_ 22 (d := d_root_for) rfl) (W.glo (by decide +kernel)) (fun _ _ _ _ _ _ us hl => match us, hl with | [_, _], _ => rfl)
theorem fn_four_for (W : Wd K mg) : FnF K mg "four_for" s_four_for ["number"] :=
  fnF_mk W.says (c := W.says.def_ 23 (d := d_four_for) rfl) (W.glo (by decide +kernel)) (fun _ _ _ _ _ _ us hl => match us, hl with | [_], _ => rfl)
theorem fn_primes_for (W : Wd K mg) : FnF K mg "primes_for" s_primes_for ["sign", "n"] :=
  fnF_mk W.says (c := W.says.def_ 24 (d := d_primes_for) rfl) (W.glo (by decide +kernel)) (fun _ _ _ _ _ _ us hl => match us, hl with | [_, _], _ => rfl)
theorem fn_own_kind (W : Wd K mg) : FnF K mg "own_kind" s_own_kind ["number"] :=
  fnF_mk W.says (c := W.says.def_ 25 (d := d_own_kind) rfl) (W.glo (by decide +kernel)) (fun _ _ _ _ _ _ us hl => match us, hl with | [_], _ => rfl)
theorem fn_kind_of (W : Wd K mg) : FnF K mg "kind_of" s_kind_of ["number"] :=
  fnF_mk W.says (c := W.says.def_ 26 (d := d_kind_of) rfl) (W.glo (by decide +kernel)) (fun _ _ _ _ _ _ us hl => match us, hl with | [_], _ => rfl)
theorem fn_odd_part (W : Wd K mg) : FnF K mg "odd_part" s_odd_part ["value"] :=
  fnF_mk W.says (c := W.says.def_ 27 (d := d_odd_part) rfl) (W.glo (by decide +kernel)) (fun _ _ _ _ _ _ us hl => match us, hl with | [_], _ => rfl)
theorem fn_shared (W : Wd K mg) : FnF K mg "shared" s_shared ["number", "n"] :=
  fnF_mk W.says (c := W.says.def_ 28 (d := d_shared) rfl) (W.glo (by decide +kernel)) (fun _ _ _ _ _ _ us hl => match us, hl with | [_, _], _ => rfl)
theorem fn_is_split_by_four (W : Wd K mg) : FnF K mg "is_split_by_four" s_is_split_by_four ["number", "n"] :=
  fnF_mk W.says (c := W.says.def_ 29 (d := d_is_split_by_four) rfl) (W.glo (by decide +kernel)) (fun _ _ _ _ _ _ us hl => match us, hl with | [_, _], _ => rfl)
theorem fn_does_split (W : Wd K mg) : FnF K mg "does_split" s_does_split ["number", "n"] :=
  fnF_mk W.says (c := W.says.def_ 30 (d := d_does_split) rfl) (W.glo (by decide +kernel)) (fun _ _ _ _ _ _ us hl => match us, hl with | [_, _], _ => rfl)
theorem fn_is_always (W : Wd K mg) : FnF K mg "is_always" s_is_always ["number"] :=
  fnF_mk W.says (c := W.says.def_ 31 (d := d_is_always) rfl) (W.glo (by decide +kernel)) (fun _ _ _ _ _ _ us hl => match us, hl with | [_], _ => rfl)
theorem fn_begins_with_word (W : Wd K mg) : FnF K mg "begins_with_word" s_begins_with_word ["value"] :=
  fnF_mk W.says (c := W.says.def_ 32 (d := d_begins_with_word) rfl) (W.glo (by decide +kernel)) (fun _ _ _ _ _ _ us hl => match us, hl with | [_], _ => rfl)
theorem fn_is_wish (W : Wd K mg) : FnF K mg "is_wish" s_is_wish ["value"] :=
  fnF_mk W.says (c := W.says.def_ 33 (d := d_is_wish) rfl) (W.glo (by decide +kernel)) (fun _ _ _ _ _ _ us hl => match us, hl with | [_], _ => rfl)
theorem fn_names_in (W : Wd K mg) : FnF K mg "names_in" s_names_in ["wish"] :=
  fnF_mk W.says (c := W.says.def_ 34 (d := d_names_in) rfl) (W.glo (by decide +kernel)) (fun _ _ _ _ _ _ us hl => match us, hl with | [_], _ => rfl)
theorem fn_holds (W : Wd K mg) : FnF K mg "holds" s_holds ["wish", "numbers"] :=
  fnF_mk W.says (c := W.says.def_ 35 (d := d_holds) rfl) (W.glo (by decide +kernel)) (fun _ _ _ _ _ _ us hl => match us, hl with | [_, _], _ => rfl)
theorem fn_Book_init (W : Wd K mg) : FnM K "__init__" "Book.__init__" s_Book_init (He.ma K (He.ga K "Book") "__init__") ["self"] :=
  fnM_mk (funD_ex (W.says.def_ 36 (d := d_Book_init) rfl)) (fun _ _ _ _ _ _ us hl => match us, hl with | [_], _ => rfl)
theorem fn_Book_names (W : Wd K mg) : FnM K "names" "Book.names" s_Book_names (gAd K ("Book", some "names")) ["self"] :=
  fnM_mk (fun_to (st := .FunctionDef _ (defArgs s_Book_names) (defBody s_Book_names) [] none [] (defScope s_Book_names) none _ default) rfl rfl rfl (getter_of W (d := d_Book_names) (i := 0) rfl (by decide +kernel))) (fun _ _ _ _ _ _ us hl => match us, hl with | [_], _ => rfl)
theorem fn_Book_wishes (W : Wd K mg) : FnM K "wishes" "Book.wishes" s_Book_wishes (gAd K ("Book", some "wishes")) ["self"] :=
  fnM_mk (fun_to (st := .FunctionDef _ (defArgs s_Book_wishes) (defBody s_Book_wishes) [] none [] (defScope s_Book_wishes) none _ default) rfl rfl rfl (getter_of W (d := d_Book_wishes) (i := 1) rfl (by decide +kernel))) (fun _ _ _ _ _ _ us hl => match us, hl with | [_], _ => rfl)
theorem fn_Book_changes (W : Wd K mg) : FnM K "changes" "Book.changes" s_Book_changes (gAd K ("Book", some "changes")) ["self"] :=
  fnM_mk (fun_to (st := .FunctionDef _ (defArgs s_Book_changes) (defBody s_Book_changes) [] none [] (defScope s_Book_changes) none _ default) rfl rfl rfl (getter_of W (d := d_Book_changes) (i := 2) rfl (by decide +kernel))) (fun _ _ _ _ _ _ us hl => match us, hl with | [_], _ => rfl)
theorem fn_Book_become (W : Wd K mg) : FnM K "become" "Book.become" s_Book_become (He.ma K (He.ga K "Book") "become") ["self", "numbers", "made"] :=
  fnM_mk (funD_ex (W.says.def_ 37 (d := d_Book_become) rfl)) (fun _ _ _ _ _ _ us hl => match us, hl with | [_, _, _], _ => rfl)
theorem fn_Book_check_known (W : Wd K mg) : FnM K "check_known" "Book.check_known" s_Book_check_known (He.ma K (He.ga K "Book") "check_known") ["self", "name"] :=
  fnM_mk (funD_ex (W.says.def_ 38 (d := d_Book_check_known) rfl)) (fun _ _ _ _ _ _ us hl => match us, hl with | [_, _], _ => rfl)
theorem fn_Book_setitem (W : Wd K mg) : FnM K "__setitem__" "Book.__setitem__" s_Book_setitem (He.ma K (He.ga K "Book") "__setitem__") ["self", "name", "number"] :=
  fnM_mk (funD_ex (W.says.def_ 39 (d := d_Book_setitem) rfl)) (fun _ _ _ _ _ _ us hl => match us, hl with | [_, _, _], _ => rfl)
theorem fn_Book_getitem (W : Wd K mg) : FnM K "__getitem__" "Book.__getitem__" s_Book_getitem (He.ma K (He.ga K "Book") "__getitem__") ["self", "name"] :=
  fnM_mk (funD_ex (W.says.def_ 40 (d := d_Book_getitem) rfl)) (fun _ _ _ _ _ _ us hl => match us, hl with | [_, _], _ => rfl)
theorem fn_Book_contains (W : Wd K mg) : FnM K "__contains__" "Book.__contains__" s_Book_contains (He.ma K (He.ga K "Book") "__contains__") ["self", "name"] :=
  fnM_mk (funD_ex (W.says.def_ 41 (d := d_Book_contains) rfl)) (fun _ _ _ _ _ _ us hl => match us, hl with | [_, _], _ => rfl)
theorem fn_Book_len (W : Wd K mg) : FnM K "__len__" "Book.__len__" s_Book_len (He.ma K (He.ga K "Book") "__len__") ["self"] :=
  fnM_mk (funD_ex (W.says.def_ 42 (d := d_Book_len) rfl)) (fun _ _ _ _ _ _ us hl => match us, hl with | [_], _ => rfl)
theorem fn_Book_drop (W : Wd K mg) : FnM K "drop" "Book.drop" s_Book_drop (He.ma K (He.ga K "Book") "drop") ["self", "name"] :=
  fnM_mk (funD_ex (W.says.def_ 43 (d := d_Book_drop) rfl)) (fun _ _ _ _ _ _ us hl => match us, hl with | [_, _], _ => rfl)
theorem fn_Book_wish (W : Wd K mg) : FnM K "wish" "Book.wish" s_Book_wish (He.ma K (He.ga K "Book") "wish") ["self", "wish"] :=
  fnM_mk (funD_ex (W.says.def_ 44 (d := d_Book_wish) rfl)) (fun _ _ _ _ _ _ us hl => match us, hl with | [_, _], _ => rfl)
theorem fn_Book_lift (W : Wd K mg) : FnM K "lift" "Book.lift" s_Book_lift (He.ma K (He.ga K "Book") "lift") ["self", "index"] :=
  fnM_mk (funD_ex (W.says.def_ 45 (d := d_Book_lift) rfl)) (fun _ _ _ _ _ _ us hl => match us, hl with | [_, _], _ => rfl)
theorem fn_Book_undo (W : Wd K mg) : FnM K "undo" "Book.undo" s_Book_undo (He.ma K (He.ga K "Book") "undo") ["self"] :=
  fnM_mk (funD_ex (W.says.def_ 46 (d := d_Book_undo) rfl)) (fun _ _ _ _ _ _ us hl => match us, hl with | [_], _ => rfl)
theorem fn__law_jug (W : Wd K mg) : FnF K mg "_law_jug" s__law_jug ["_law_cells", "_law_k"] :=
  fnF_mk W.says (c := W.says.def_ 47 (d := d__law_jug) rfl) (W.glo (by decide +kernel)) (fun _ _ _ _ _ _ us hl => match us, hl with | [_, _], _ => rfl)
theorem fn__law_pull (W : Wd K mg) : FnF K mg "_law_pull" s__law_pull ["_law_jug_here", "_law_top"] :=
  fnF_mk W.says (c := W.says.def_ 48 (d := d__law_pull) rfl) (W.glo (by decide +kernel)) (fun _ _ _ _ _ _ us hl => match us, hl with | [_, _], _ => rfl)
theorem fn__law_one_of (W : Wd K mg) : FnF K mg "_law_one_of" s__law_one_of ["_law_jug_here", "_law_some"] :=
  fnF_mk W.says (c := W.says.def_ 49 (d := d__law_one_of) rfl) (W.glo (by decide +kernel)) (fun _ _ _ _ _ _ us hl => match us, hl with | [_, _], _ => rfl)
theorem fn__law_common (W : Wd K mg) : FnF K mg "_law_common" s__law_common ["_law_one", "_law_two"] :=
  fnF_mk W.says (c := W.says.def_ 50 (d := d__law_common) rfl) (W.glo (by decide +kernel)) (fun _ _ _ _ _ _ us hl => match us, hl with | [_, _], _ => rfl)
theorem fn__law_power (W : Wd K mg) : FnF K mg "_law_power" s__law_power ["_law_row"] :=
  fnF_mk W.says (c := W.says.def_ 51 (d := d__law_power) rfl) (W.glo (by decide +kernel)) (fun _ _ _ _ _ _ us hl => match us, hl with | [_], _ => rfl)
theorem fn__law_pair (W : Wd K mg) : FnF K mg "_law_pair" s__law_pair ["_law_sign", "_law_row"] :=
  fnF_mk W.says (c := W.says.def_ 52 (d := d__law_pair) rfl) (W.glo (by decide +kernel)) (fun _ _ _ _ _ _ us hl => match us, hl with | [_, _], _ => rfl)
theorem fn__law_small (W : Wd K mg) : FnF K mg "_law_small" s__law_small ["_law_jug_here", "_law_low", "_law_high"] :=
  fnF_mk W.says (c := W.says.def_ 53 (d := d__law_small) rfl) (W.glo (by decide +kernel)) (fun _ _ _ _ _ _ us hl => match us, hl with | [_, _, _], _ => rfl)
theorem fn__law_plan (W : Wd K mg) : FnF K mg "_law_plan" s__law_plan ["_law_jug_here"] :=
  fnF_mk W.says (c := W.says.def_ 54 (d := d__law_plan) rfl) (W.glo (by decide +kernel)) (fun _ _ _ _ _ _ us hl => match us, hl with | [_], _ => rfl)
theorem fn__law_is_four (W : Wd K mg) : FnF K mg "_law_is_four" s__law_is_four ["_law_plan_here"] :=
  fnF_mk W.says (c := W.says.def_ 55 (d := d__law_is_four) rfl) (W.glo (by decide +kernel)) (fun _ _ _ _ _ _ us hl => match us, hl with | [_], _ => rfl)
theorem fn__law_splits (W : Wd K mg) : FnF K mg "_law_splits" s__law_splits ["_law_plan_here", "_law_upto"] :=
  fnF_mk W.says (c := W.says.def_ 56 (d := d__law_splits) rfl) (W.glo (by decide +kernel)) (fun _ _ _ _ _ _ us hl => match us, hl with | [_, _], _ => rfl)
theorem fn__law_is_always (W : Wd K mg) : FnF K mg "_law_is_always" s__law_is_always ["_law_plan_here"] :=
  fnF_mk W.says (c := W.says.def_ 57 (d := d__law_is_always) rfl) (W.glo (by decide +kernel)) (fun _ _ _ _ _ _ us hl => match us, hl with | [_], _ => rfl)
theorem fn__law_some_n (W : Wd K mg) : FnF K mg "_law_some_n" s__law_some_n ["_law_jug_here"] :=
  fnF_mk W.says (c := W.says.def_ 58 (d := d__law_some_n) rfl) (W.glo (by decide +kernel)) (fun _ _ _ _ _ _ us hl => match us, hl with | [_], _ => rfl)
theorem fn__law_kind (W : Wd K mg) : FnF K mg "_law_kind" s__law_kind ["_law_plan_here"] :=
  fnF_mk W.says (c := W.says.def_ 59 (d := d__law_kind) rfl) (W.glo (by decide +kernel)) (fun _ _ _ _ _ _ us hl => match us, hl with | [_], _ => rfl)
theorem fn__law_answer (W : Wd K mg) : FnF K mg "_law_answer" s__law_answer ["_law_shelf", "_law_due"] :=
  fnF_mk W.says (c := W.says.def_ 60 (d := d__law_answer) rfl) (W.glo (by decide +kernel)) (fun _ _ _ _ _ _ us hl => match us, hl with | [_, _], _ => rfl)
theorem fn__law_new_wish (W : Wd K mg) : FnF K mg "_law_new_wish" s__law_new_wish ["_law_jug_here", "_law_titles"] :=
  fnF_mk W.says (c := W.says.def_ 61 (d := d__law_new_wish) rfl) (W.glo (by decide +kernel)) (fun _ _ _ _ _ _ us hl => match us, hl with | [_, _], _ => rfl)
theorem fn__law_broken (W : Wd K mg) : FnF K mg "_law_broken" s__law_broken ["_law_shelf", "_law_wishes_here"] :=
  fnF_mk W.says (c := W.says.def_ 62 (d := d__law_broken) rfl) (W.glo (by decide +kernel)) (fun _ _ _ _ _ _ us hl => match us, hl with | [_, _], _ => rfl)
theorem fn__law_named (W : Wd K mg) : FnF K mg "_law_named" s__law_named ["_law_due"] :=
  fnF_mk W.says (c := W.says.def_ 63 (d := d__law_named) rfl) (W.glo (by decide +kernel)) (fun _ _ _ _ _ _ us hl => match us, hl with | [_], _ => rfl)
theorem fn__law_behind (W : Wd K mg) : FnF K mg "_law_behind" s__law_behind ["_law_page", "_law_deed"] :=
  fnF_mk W.says (c := W.says.def_ 64 (d := d__law_behind) rfl) (W.glo (by decide +kernel)) (fun _ _ _ _ _ _ us hl => match us, hl with | [_, _], _ => rfl)
theorem fn__law_new_deed (W : Wd K mg) : FnF K mg "_law_new_deed" s__law_new_deed ["_law_jug_here", "_law_page"] :=
  fnF_mk W.says (c := W.says.def_ 65 (d := d__law_new_deed) rfl) (W.glo (by decide +kernel)) (fun _ _ _ _ _ _ us hl => match us, hl with | [_, _], _ => rfl)
theorem fn__law_done (W : Wd K mg) : FnF K mg "_law_done" s__law_done ["_law_book_here", "_law_deed"] :=
  fnF_mk W.says (c := W.says.def_ 66 (d := d__law_done) rfl) (W.glo (by decide +kernel)) (fun _ _ _ _ _ _ us hl => match us, hl with | [_, _], _ => rfl)
theorem fn__law_book_is (W : Wd K mg) : FnF K mg "_law_book_is" s__law_book_is ["_law_book_here", "_law_page", "_law_many"] :=
  fnF_mk W.says (c := W.says.def_ 67 (d := d__law_book_is) rfl) (W.glo (by decide +kernel)) (fun _ _ _ _ _ _ us hl => match us, hl with | [_, _, _], _ => rfl)
theorem fn__law_slip (W : Wd K mg) : FnF K mg "_law_slip" s__law_slip ["_law_e"] :=
  fnF_mk W.says (c := W.says.def_ 68 (d := d__law_slip) rfl) (W.glo (by decide +kernel)) (fun _ _ _ _ _ _ us hl => match us, hl with | [_], _ => rfl)
theorem fn__law_heard (W : Wd K mg) : FnF K mg "_law_heard" s__law_heard ["_law_call_here"] :=
  fnF_mk W.says (c := W.says.def_ 69 (d := d__law_heard) rfl) (W.glo (by decide +kernel)) (fun _ _ _ _ _ _ us hl => match us, hl with | [_], _ => rfl)
theorem fn__law_again (W : Wd K mg) : FnF K mg "_law_again" s__law_again ["_law_jug_here", "_law_page"] :=
  fnF_mk W.says (c := W.says.def_ 70 (d := d__law_again) rfl) (W.glo (by decide +kernel)) (fun _ _ _ _ _ _ us hl => match us, hl with | [_, _], _ => rfl)
theorem fn__law_right (W : Wd K mg) : FnF K mg "_law_right" s__law_right ["_law_jug_here"] :=
  fnF_mk W.says (c := W.says.def_ 71 (d := d__law_right) rfl) (W.glo (by decide +kernel)) (fun _ _ _ _ _ _ us hl => match us, hl with | [_], _ => rfl)
theorem fn_law (W : Wd K mg) : FnF K mg "law" s_law ["_law_cells"] :=
  fnF_mk W.says (c := W.says.def_ 72 (d := d_law) rfl) (W.glo (by decide +kernel)) (fun _ _ _ _ _ _ us hl => match us, hl with | [_], _ => rfl)
theorem fr_isinstance (W : Wd K mg) : mg "isinstance" = none := W.free (by decide +kernel)
theorem fr_len (W : Wd K mg) : mg "len" = none := W.free (by decide +kernel)
theorem fr_all (W : Wd K mg) : mg "all" = none := W.free (by decide +kernel)
theorem fr_range (W : Wd K mg) : mg "range" = none := W.free (by decide +kernel)
theorem fr_tuple (W : Wd K mg) : mg "tuple" = none := W.free (by decide +kernel)
theorem fr_ValueError (W : Wd K mg) : mg "ValueError" = none := W.free (by decide +kernel)
theorem fr_LookupError (W : Wd K mg) : mg "LookupError" = none := W.free (by decide +kernel)
theorem fr_ArithmeticError (W : Wd K mg) : mg "ArithmeticError" = none := W.free (by decide +kernel)
theorem fr_int (W : Wd K mg) : mg "int" = none := W.free (by decide +kernel)
theorem fr_abs (W : Wd K mg) : mg "abs" = none := W.free (by decide +kernel)
theorem fr_zip (W : Wd K mg) : mg "zip" = none := W.free (by decide +kernel)
theorem fr_dict (W : Wd K mg) : mg "dict" = none := W.free (by decide +kernel)
theorem fr_repr (W : Wd K mg) : mg "repr" = none := W.free (by decide +kernel)
theorem fr_sorted (W : Wd K mg) : mg "sorted" = none := W.free (by decide +kernel)
theorem fr_bool (W : Wd K mg) : mg "bool" = none := W.free (by decide +kernel)
theorem fr_max (W : Wd K mg) : mg "max" = none := W.free (by decide +kernel)
theorem fr_min (W : Wd K mg) : mg "min" = none := W.free (by decide +kernel)
theorem fr_str (W : Wd K mg) : mg "str" = none := W.free (by decide +kernel)
theorem fr_enumerate (W : Wd K mg) : mg "enumerate" = none := W.free (by decide +kernel)
theorem fr_list (W : Wd K mg) : mg "list" = none := W.free (by decide +kernel)
theorem fr_TypeError (W : Wd K mg) : mg "TypeError" = none := W.free (by decide +kernel)
theorem gl_FORMS (W : Wd K mg) : mg "FORMS" = some (.ref (He.ga K "FORMS")) := W.glo (by decide +kernel)
theorem gl_Book (W : Wd K mg) : mg "Book" = some (.ref (He.ga K "Book")) := W.glo (by decide +kernel)
theorem gl_WrongValue (W : Wd K mg) : mg "WrongValue" = some (.ref (He.ga K "WrongValue")) := W.glo (by decide +kernel)
theorem gl_WrongName (W : Wd K mg) : mg "WrongName" = some (.ref (He.ga K "WrongName")) := W.glo (by decide +kernel)
theorem gl_NoAnswer (W : Wd K mg) : mg "NoAnswer" = some (.ref (He.ga K "NoAnswer")) := W.glo (by decide +kernel)
theorem gl_Broken (W : Wd K mg) : mg "Broken" = some (.ref (He.ga K "Broken")) := W.glo (by decide +kernel)
theorem gl_InUse (W : Wd K mg) : mg "InUse" = some (.ref (He.ga K "InUse")) := W.glo (by decide +kernel)
theorem gl_InvalidIndex (W : Wd K mg) : mg "InvalidIndex" = some (.ref (He.ga K "InvalidIndex")) := W.glo (by decide +kernel)
theorem gl_UnknownName (W : Wd K mg) : mg "UnknownName" = some (.ref (He.ga K "UnknownName")) := W.glo (by decide +kernel)
theorem gl_NothingToUndo (W : Wd K mg) : mg "NothingToUndo" = some (.ref (He.ga K "NothingToUndo")) := W.glo (by decide +kernel)
theorem pe_int_MOST_LETTERS {X : Cx} {pos : Pos} (W : Wd X.K X.mg) (hg : Gl X "MOST_LETTERS" := by rfl) : PE X (.Name "MOST_LETTERS" pos) (tC (.int 8)) := by
  obtain ⟨t, e⟩ := W.int_ _ _ (W.rest (f := .int "MOST_LETTERS" 8) (.head _))
  exact pe_glob hg e ⟨t, rfl⟩
theorem pe_int_MOST_SIZE {X : Cx} {pos : Pos} (W : Wd X.K X.mg) (hg : Gl X "MOST_SIZE" := by rfl) : PE X (.Name "MOST_SIZE" pos) (tC (.int 1000000000000000000000000000000)) := by
  obtain ⟨t, e⟩ := W.int_ _ _ (W.rest (f := .int "MOST_SIZE" 1000000000000000000000000000000) (.tail _ (.head _)))
  exact pe_glob hg e ⟨t, rfl⟩
theorem pe_str_LETTERS {X : Cx} {pos : Pos} (W : Wd X.K X.mg) (hg : Gl X "LETTERS" := by rfl) : PE X (.Name "LETTERS" pos) (tC (.str "abcdefghijklmnopqrstuvwxyz")) := by
  obtain ⟨t, e⟩ := W.str_ _ _ (W.rest (f := .str "LETTERS" "abcdefghijklmnopqrstuvwxyz") (.tail _ (.tail _ (.head _))))
  exact pe_glob hg e ⟨t, rfl⟩
theorem pe_str_ALL {X : Cx} {pos : Pos} (W : Wd X.K X.mg) (hg : Gl X "ALL" := by rfl) : PE X (.Name "ALL" pos) (tC (.str "all")) := by
  obtain ⟨t, e⟩ := W.str_ _ _ (W.rest (f := .str "ALL" "all") (.tail _ (.tail _ (.tail _ (.head _)))))
  exact pe_glob hg e ⟨t, rfl⟩
end
end KB
end
section
set_option Elab.async false
set_option linter.all false
set_option maxRecDepth 100000
set_option maxHeartbeats 4000000
/-! numbers: power_of, common_divisor, floor_root, is_power .. -/
namespace KB
open PySem PySem.Spec PyProof.Rows L2 KM
section
variable {P : Program} {w : World} {K : PySem.W.Frag} {mg : Str → Option Value} {base : Heap}
theorem iteN {c A B : Prop} [Decidable c] (hc : ¬ c) (h : A) : if (!decide c) = true then A else B := by
  rw [decide_eq_false hc]
  exact iteT h
theorem iteD {c A B : Prop} [Decidable c] (hc : c) (h : A) : if decide c = true then A else B := by
  rw [decide_eq_true hc]
  exact iteT h
theorem iteDF {c A B : Prop} [Decidable c] (hc : ¬ c) (h : B) : if decide c = true then A else B := by
  rw [decide_eq_false hc]
  exact iteF h
theorem ite2D {c A B : Prop} [Decidable c] (h1 : c → A) (h2 : ¬ c → B) : if decide c = true then A else B := by
  by_cases h : c
  · exact iteD h (h1 h)
  · exact iteDF h (h2 h)
theorem ite2N {c A B : Prop} [Decidable c] (h1 : ¬ c → A) (h2 : c → B) : if (!decide c) = true then A else B := by
  by_cases h : c
  · exact iteNS h (h2 h)
  · exact iteN h (h1 h)
def spPow : Sp := fun vs H Q _ => ∃ (b : Int) (m : Nat), vs = [.int b, .int m] ∧ m ≤ 200 ∧ b.natAbs < 2 ^ 200 ∧ Q (.int (b ^ m)) H
theorem pow_small {b : Int} {i : Nat} (hb : b.natAbs < 2 ^ 200) (hi : i ≤ 200) : (b ^ i).natAbs < 2 ^ 40001 := by
  rw [Int.natAbs_pow]
  refine Nat.lt_of_le_of_lt (Nat.pow_le_pow_left (Nat.le_of_lt hb) i) ?_
  rw [← Nat.pow_mul]
  exact Nat.pow_lt_pow_right (by decide) (by omega)
theorem ok_power_of (W : Wd K mg) : OkD P w K mg base CX0 1 "power_of" ["base", "many"] spPow := by
  refine (fn_power_of W).ok sc_power_of (fun vs H Q E h => ?_) (fun cdv A outer s H vs Q E hr h => ?_)
  · obtain ⟨b, m, rfl, _⟩ := h
    rfl
  · obtain ⟨b, m, rfl, h1, h2, k⟩ := h
    refine ⟨_, (pss_cons (ps_set (i := 2) sc_power_of.nd rfl (.inl rfl) pe_int)
      (pss_cons (ps_for PassesOwn.never rfl (pi_range1 rfl (fr_range W) (pa_cons (pv 1) pa_nil)) (pg_name (i := 3) sc_power_of.nd rfl (.inl rfl)) (pss_one (ps_set (i := 2) sc_power_of.nd rfl (.inl rfl) (pe_op op_mulW (pv 2) (pv 0)))))
      (pss_one (ps_ret (pv 2))))), ?_⟩
    refine ⟨_, rfl, (m : Int), rfl, by omega, by omega, ?_⟩
    refine for_range (lo := 0) (n := ((m : Int)).toNat) (fun i σ H2 => H2 = H ∧ ∃ v : Option V, σ = [some (.int b), some (.int m), some (.int (b ^ i)), v]) ⟨rfl, none, by rw [Int.pow_zero]; rfl⟩ ?_ ?_
    · rintro i σ H2 hi ⟨rfl, v, rfl⟩
      refine ⟨_, rfl, _, rfl, _, _, rfl, rfl, wide_mul (pow_small h2 (by omega)) h2 (by decide) (by decide) (by decide), ?_⟩
      exact ⟨rfl, _, by rw [Int.pow_succ]; rfl⟩
    · rintro σ H2 ⟨rfl, v, rfl⟩
      refine ⟨_, rfl, ?_⟩
      rw [Int.toNat_natCast]
      exact k
def spGcd : Sp := fun vs H Q _ => ∃ a b : Nat, vs = [.int a, .int b] ∧ Q (.int (Nat.gcd a b : Nat)) H
theorem ok_common_divisor (W : Wd K mg) : OkD P w K mg base CX0 1 "common_divisor" ["one", "other"] spGcd := by
  refine (fn_common_divisor W).ok sc_common_divisor (fun vs H Q E h => ?_) (fun cdv A outer s H vs Q E hr h => ?_)
  · obtain ⟨a, b, rfl, _⟩ := h
    rfl
  · obtain ⟨a, b, rfl, k⟩ := h
    refine ⟨_, (pss_cons (ps_while PassesOwn.never (pt_cmpR op_ne (pv 1) pe_int (nomark _)) (pss_one (ps_par (i := 0) (j := 1) rfl sc_common_divisor.nd rfl rfl (by decide) rfl rfl (pa_cons (pv 1) (pa_cons (pe_op op_mod (pv 0) (pv 1)) pa_nil)) (by rfl))))
      (pss_one (ps_ret (pv 0)))), ?_⟩
    refine ⟨fun m σ H2 => H2 = H ∧ ∃ x y : Nat, m = y ∧ Nat.gcd x y = Nat.gcd a b ∧ σ = [some (.int x), some (.int y)], ⟨b, rfl, a, b, rfl, rfl, rfl⟩, ?_⟩
    rintro m σ H2 ⟨rfl, x, y, hm, hg, rfl⟩
    refine ⟨_, rfl, rfl, _, rfl, ?_⟩
    by_cases c : y = 0
    · subst c
      refine iteNS rfl ?_
      refine ⟨_, rfl, ?_⟩
      rw [Nat.gcd_zero_right] at hg
      rw [hg]
      exact k
    · have c2 : ¬ ((V.int (y : Int)) = V.int 0) := fun z => by injection z with z; omega
      refine iteN c2 ?_
      refine ⟨fun σ H3 => H3 = H2 ∧ σ = [some (.int y), some (.int (x % y : Nat))], ?_, ?_⟩
      · rintro σ' H' ⟨rfl, rfl⟩
        exact ⟨x % y, by rw [hm]; exact Nat.mod_lt _ (Nat.pos_of_ne_zero c), rfl, y, x % y, rfl, by rw [← hg, Nat.gcd_comm x y, Nat.gcd_rec y x, Nat.gcd_comm], rfl⟩
      · refine ⟨_, rfl, _, rfl, _, rfl, _, _, rfl, rfl, (by show (0 : Int) < (y : Int); omega), _, _, rfl, ?_⟩
        exact ⟨rfl, rfl⟩
end
end KB
end
section
set_option Elab.async false
set_option linter.all false
set_option maxRecDepth 100000
set_option maxHeartbeats 4000000
set_option exponentiation.threshold 100000
/-! roots of integers -/
namespace KB
open PySem PySem.Spec PyProof.Rows L2 KM
section
variable {P : Program} {w : World} {K : PySem.W.Frag} {mg : Str → Option Value} {base : Heap}
/-- an integer that the roots are asked of -/
def Sz (v : Nat) : Prop := v < 2 ^ 110
theorem lt200 {b : Nat} (h : b < 2 ^ 112) : (b : Int).natAbs < 2 ^ 200 := by
  rw [Int.natAbs_natCast]
  exact Nat.lt_trans h (by decide +kernel)
theorem le_pow_self {h p : Nat} (hp : 1 ≤ p) : h ≤ h ^ p := by
  rcases Nat.eq_zero_or_pos h with z | z
  · rw [z]; exact Nat.zero_le _
  · exact Nat.le_trans (Nat.le_of_eq (Nat.pow_one h).symm) (Nat.pow_le_pow_right z hp)
theorem ipow_le {a p v : Nat} : ((a : Int) ^ p ≤ (v : Int)) ↔ a ^ p ≤ v := by
  rw [← Int.natCast_pow]
  exact Int.ofNat_le
theorem ipow_lt {a p v : Nat} : ((a : Int) ^ p < (v : Int)) ↔ a ^ p < v := by
  rw [← Int.natCast_pow]
  exact Int.ofNat_lt
theorem ipow_eq {a p v : Nat} : ((a : Int) ^ p = (v : Int)) ↔ a ^ p = v := by
  rw [← Int.natCast_pow]
  exact Int.ofNat_inj
/-- a new object beside -/
theorem same_new {H : Hp} {p : Addr} {o : HO} (h : H p = none) : Same H (upd H p o) := fun b u e => by
  rw [upd_ne (ne_of_none e h)]
  exact e
def spFloor : Sp := fun vs H Q _ => ∃ v p : Nat, vs = [.int v, .int p] ∧ Sz v ∧ 1 ≤ p ∧ p ≤ 200 ∧ ∀ r : Nat, r ^ p ≤ v → v < (r + 1) ^ p → ∀ H', Same H H' → Q (.int r) H'
theorem ok_floor_root (W : Wd K mg) : OkD P w K mg base CX0 2 "floor_root" ["value", "power"] spFloor := by
  have O_power_of := ok_power_of (P := P) (w := w) (base := base) W
  refine (fn_floor_root W).ok sc_floor_root (fun vs H Q E h => ?_) (fun cdv A outer s H vs Q E hr h => ?_)
  · obtain ⟨v, p, rfl, _⟩ := h
    rfl
  · obtain ⟨v, p, rfl, hv, hp, hp2, k⟩ := h
    have hv' : v < 2 ^ 110 := hv
    refine ⟨_, (pss_cons (ps_asg (pe_tup (pa_cons pe_int (pa_cons pe_int pa_nil))) (pg_tup rfl (pgs_cons (pg_name (i := 2) sc_floor_root.nd rfl (.inl rfl)) (pgs_cons (pg_name (i := 3) sc_floor_root.nd rfl (.inl rfl)) pgs_nil))))
      (pss_cons (ps_while PassesOwn.never (pt_cmpR op_le (pcall O_power_of (hr.mono (by decide)) (pa_cons (pv 3) (pa_cons (pv 1) pa_nil))) (pv 0) (nomark _)) (pss_one (ps_par (i := 2) (j := 3) rfl sc_floor_root.nd rfl rfl (by decide) rfl rfl (pa_cons (pv 3) (pa_cons (pe_op op_mulW pe_int (pv 3)) pa_nil)) (by rfl))))
      (pss_cons (ps_while PassesOwn.never (pt_cmpR op_gt (pe_op op_sub (pv 3) (pv 2)) pe_int (nomark _)) (pss_cons (ps_set (i := 4) sc_floor_root.nd rfl (.inl rfl) (pe_op op_fdiv (pe_op op_add (pv 2) (pv 3)) pe_int))
      (pss_one (ps_if (pt_cmpR op_le (pcall O_power_of (hr.mono (by decide)) (pa_cons (pv 4) (pa_cons (pv 1) pa_nil))) (pv 0) (nomark _)) (pss_one (ps_set (i := 2) sc_floor_root.nd rfl (.inl rfl) (pv 4))) (pss_one (ps_set (i := 3) sc_floor_root.nd rfl (.inl rfl) (pv 4)))))))
      (pss_one (ps_ret (pv 2)))))), ?_⟩
    -- low, high = 0, 1
    refine ⟨by show 2 ≤ sizeLine; decide, fun q hq => ⟨q, _, rfl, SqT.of upd_same, rfl, _, _, rfl, _, _, rfl, rfl, ?_⟩⟩
    have s0 : Same H (upd H q (.tup [.int 0, .int 1])) := same_new hq
    refine ⟨fun m σ H2 => Same H H2 ∧ ∃ lo hi : Nat, ∃ x : Option V, m = v + 1 - lo ∧ lo < hi ∧ lo ^ p ≤ v ∧ hi ≤ 2 * v + 1 ∧ σ = [some (.int v), some (.int p), some (.int lo), some (.int hi), x], ⟨v + 1, s0, 0, 1, none, rfl, by decide, by rw [Nat.zero_pow (by omega)]; exact Nat.zero_le _, by omega, rfl⟩, ?_⟩
    rintro m σ H2 ⟨sm, lo, hi, x, hm, hlh, hlo, hhi, rfl⟩
    refine ⟨_, rfl, _, rfl, hi, p, rfl, hp2, lt200 (by omega), _, rfl, _, _, rfl, rfl, _, rfl, ?_⟩
    refine ite2D (fun c => ?_) (fun c => ?_)
    · have c' : hi ^ p ≤ v := ipow_le.mp c
      have hiv : hi ≤ v := Nat.le_trans (le_pow_self hp) c'
      refine ⟨fun σ' H' => H' = H2 ∧ σ' = [some (.int v), some (.int p), some (.int hi), some (.int (2 * hi : Nat)), x], ?_, ?_⟩
      · rintro σ' H' ⟨rfl, rfl⟩
        exact ⟨v + 1 - hi, by omega, sm, hi, 2 * hi, x, rfl, by omega, c', by omega, rfl⟩
      · refine ⟨_, rfl, _, rfl, _, _, rfl, rfl, wide_mul (a := 10) (b := 200) (by decide) (lt200 (by omega)) (by decide) (by decide) (by decide), _, _, rfl, ?_⟩
        exact ⟨rfl, rfl⟩
    · have c' : v < hi ^ p := Nat.lt_of_not_le fun z => c (ipow_le.mpr z)
      refine ⟨fun m σ H3 => Same H H3 ∧ ∃ lo hi : Nat, ∃ x : Option V, m = hi - lo ∧ lo < hi ∧ lo ^ p ≤ v ∧ v < hi ^ p ∧ hi ≤ 2 * v + 1 ∧ σ = [some (.int v), some (.int p), some (.int lo), some (.int hi), x], ⟨_, sm, lo, hi, x, rfl, hlh, hlo, c', hhi, rfl⟩, ?_⟩
      clear hm hlh hlo hhi c c' x lo hi m sm
      rintro m σ H3 ⟨sm, lo, hi, x, hm, hlh, hlo, hhi, hb, rfl⟩
      refine ⟨_, rfl, _, rfl, _, _, rfl, rfl, _, _, rfl, rfl, _, rfl, ?_⟩
      refine ite2D (fun c => ?_) (fun c => ?_)
      · have e : ((lo : Int) + (hi : Int)) / 2 = (((lo + hi) / 2 : Nat) : Int) := by omega
        refine ⟨fun σ' H' => H' = H3 ∧ ∃ lo' hi' : Nat, hi' - lo' < hi - lo ∧ lo' < hi' ∧ lo' ^ p ≤ v ∧ v < hi' ^ p ∧ hi' ≤ 2 * v + 1 ∧ σ' = [some (.int v), some (.int p), some (.int lo'), some (.int hi'), some (.int (((lo : Int) + (hi : Int)) / 2))], ?_, ?_⟩
        · rintro σ' H' ⟨rfl, lo', hi', h1, h2, h3, h4, h5, rfl⟩
          exact ⟨hi' - lo', by omega, sm, lo', hi', _, rfl, h2, h3, h4, h5, rfl⟩
        · refine ⟨_, rfl, _, rfl, _, _, rfl, rfl, _, _, rfl, rfl, ⟨by decide, by decide⟩, ?_⟩
          refine ⟨_, rfl, _, rfl, ((lo : Int) + (hi : Int)) / 2, p, rfl, hp2, by rw [e]; exact lt200 (by omega), _, rfl, _, _, rfl, rfl, _, rfl, ?_⟩
          refine ite2D (fun d => ?_) (fun d => ?_)
          · rw [e] at d; exact ⟨_, rfl, rfl, (lo + hi) / 2, hi, by omega, by omega, ipow_le.mp d, hhi, hb, by rw [← e]; rfl⟩
          · rw [e] at d; exact ⟨_, rfl, rfl, lo, (lo + hi) / 2, by omega, by omega, hlo, Nat.lt_of_not_le fun z => d (ipow_le.mpr z), by omega, by rw [← e]; rfl⟩
      · refine ⟨_, rfl, ?_⟩
        have e : hi = lo + 1 := by omega
        rw [e] at hhi
        exact k lo hlo hhi _ sm
def spIsPow : Sp := fun vs H Q _ => ∃ v p : Nat, vs = [.int v, .int p] ∧ Sz v ∧ 1 ≤ p ∧ p ≤ 200 ∧ ∀ b : Bool, (b = true ↔ Perf p v) → ∀ H', Same H H' → Q (.bl b) H'
theorem perf_floor {v p r : Nat} (hp : 1 ≤ p) (h1 : r ^ p ≤ v) (h2 : v < (r + 1) ^ p) : r ^ p = v ↔ Perf p v := by
  constructor
  · intro h
    exact ⟨r, h⟩
  · rintro ⟨s, rfl⟩
    have a : r ≤ s := Nat.le_of_not_lt fun z => absurd (Nat.pow_lt_pow_left z (by omega : p ≠ 0)) (Nat.not_lt.mpr h1)
    have b : s < r + 1 := Nat.lt_of_not_le fun z => absurd (Nat.pow_le_pow_left z p) (Nat.not_le.mpr h2)
    have : r = s := by omega
    rw [this]
theorem floor_le {v p r : Nat} (hp : 1 ≤ p) (h1 : r ^ p ≤ v) : r ≤ v := Nat.le_trans (le_pow_self hp) h1
theorem ok_is_power (W : Wd K mg) : OkD P w K mg base CX0 3 "is_power" ["value", "power"] spIsPow := by
  have O_power_of := ok_power_of (P := P) (w := w) (base := base) W
  have O_floor_root := ok_floor_root (P := P) (w := w) (base := base) W
  refine (fn_is_power W).ok sc_is_power (fun vs H Q E h => ?_) (fun cdv A outer s H vs Q E hr h => ?_)
  · obtain ⟨v, p, rfl, _⟩ := h
    rfl
  · obtain ⟨v, p, rfl, hv, hp, hp2, k⟩ := h
    have hv' : v < 2 ^ 110 := hv
    refine ⟨_, (pss_one (ps_ret (pe_cmpR op_eq (pcall O_power_of (hr.mono (by decide)) (pa_cons (pcall O_floor_root (hr.mono (by decide)) (pa_cons (pv 0) (pa_cons (pv 1) pa_nil))) (pa_cons (pv 1) pa_nil))) (pv 0) (nomark _)))), ?_⟩
    refine ⟨_, rfl, _, rfl, v, p, rfl, hv, hp, hp2, fun r h1 h2 H' sm => ?_⟩
    have hr1 := floor_le hp h1
    refine ⟨_, rfl, r, p, rfl, hp2, lt200 (by omega), _, rfl, rfl, ?_⟩
    refine k _ ?_ _ sm
    rw [decide_eq_true_iff, ← perf_floor hp h1 h2]
    constructor
    · intro z
      injection z with z
      exact ipow_eq.mp z
    · intro z
      rw [ipow_eq.mpr z]
/-- asked of a perfect power alone: its root -/
def spWhole : Sp := fun vs H Q _ => ∃ t p : Nat, vs = [.int (t ^ p : Nat), .int p] ∧ Sz (t ^ p) ∧ 1 ≤ p ∧ p ≤ 200 ∧ ∀ H', Same H H' → Q (.int t) H'
theorem ok_whole_root (W : Wd K mg) : OkD P w K mg base CX0 2 "whole_root" ["value", "power"] spWhole := by
  have O_power_of := ok_power_of (P := P) (w := w) (base := base) W
  refine (fn_whole_root W).ok sc_whole_root (fun vs H Q E h => ?_) (fun cdv A outer s H vs Q E hr h => ?_)
  · obtain ⟨v, p, rfl, _⟩ := h
    rfl
  · obtain ⟨t, p, rfl, hv, hp, hp2, k⟩ := h
    have hv' : t ^ p < 2 ^ 110 := hv
    have htv : t ≤ t ^ p := le_pow_self hp
    generalize hT : t ^ p = T at hv hv' htv
    have lt_iff : ∀ a : Nat, a ^ p < T ↔ a < t := fun a => by
      rw [← hT]
      exact Nat.pow_lt_pow_iff_left (by omega)
    refine ⟨_, (pss_cons (ps_asg (pe_tup (pa_cons pe_int (pa_cons pe_int pa_nil))) (pg_tup rfl (pgs_cons (pg_name (i := 2) sc_whole_root.nd rfl (.inl rfl)) (pgs_cons (pg_name (i := 3) sc_whole_root.nd rfl (.inl rfl)) pgs_nil))))
      (pss_cons (ps_while PassesOwn.never (pt_cmpR op_lt (pcall O_power_of (hr.mono (by decide)) (pa_cons (pv 3) (pa_cons (pv 1) pa_nil))) (pv 0) (nomark _)) (pss_one (ps_set (i := 3) sc_whole_root.nd rfl (.inl rfl) (pe_op op_mulW pe_int (pv 3)))))
      (pss_cons (ps_while PassesOwn.never (pt_cmpR op_lt (pv 2) (pv 3) (nomark _)) (pss_cons (ps_set (i := 4) sc_whole_root.nd rfl (.inl rfl) (pe_op op_fdiv (pe_op op_add (pv 2) (pv 3)) pe_int))
      (pss_one (ps_if (pt_cmpR op_lt (pcall O_power_of (hr.mono (by decide)) (pa_cons (pv 4) (pa_cons (pv 1) pa_nil))) (pv 0) (nomark _)) (pss_one (ps_set (i := 2) sc_whole_root.nd rfl (.inl rfl) (pe_op op_add (pv 4) pe_int))) (pss_one (ps_set (i := 3) sc_whole_root.nd rfl (.inl rfl) (pv 4)))))))
      (pss_one (ps_ret (pv 2)))))), ?_⟩
    refine ⟨by show 2 ≤ sizeLine; decide, fun q hq => ⟨q, _, rfl, SqT.of upd_same, rfl, _, _, rfl, _, _, rfl, rfl, ?_⟩⟩
    have s0 : Same H (upd H q (.tup [.int 0, .int 1])) := same_new hq
    refine ⟨fun m σ H2 => Same H H2 ∧ ∃ hi : Nat, ∃ x : Option V, m = t + 1 - hi ∧ 1 ≤ hi ∧ hi ≤ 2 * t + 1 ∧ σ = [some (.int T), some (.int p), some (.int 0), some (.int hi), x], ⟨t, s0, 1, none, by omega, by decide, by omega, rfl⟩, ?_⟩
    rintro m σ H2 ⟨sm, hi, x, hm, h1, h2, rfl⟩
    refine ⟨_, rfl, _, rfl, hi, p, rfl, hp2, lt200 (by omega), _, rfl, _, _, rfl, rfl, _, rfl, ?_⟩
    refine ite2D (fun c => ?_) (fun c => ?_)
    · have c' : hi < t := (lt_iff hi).mp (ipow_lt.mp c)
      refine ⟨fun σ' H' => H' = H2 ∧ σ' = [some (.int T), some (.int p), some (.int 0), some (.int (2 * hi : Nat)), x], ?_, ?_⟩
      · rintro σ' H' ⟨rfl, rfl⟩
        exact ⟨t + 1 - 2 * hi, by omega, sm, 2 * hi, x, rfl, by omega, by omega, rfl⟩
      · refine ⟨_, rfl, _, _, rfl, rfl, wide_mul (a := 10) (b := 200) (by decide) (lt200 (by omega)) (by decide) (by decide) (by decide), ?_⟩
        exact ⟨rfl, rfl⟩
    · have c' : t ≤ hi := Nat.le_of_not_lt fun z => c (ipow_lt.mpr ((lt_iff hi).mpr z))
      refine ⟨fun m σ H3 => Same H H3 ∧ ∃ lo hi : Nat, ∃ x : Option V, m = hi - lo ∧ lo ≤ t ∧ t ≤ hi ∧ hi ≤ 2 * t + 1 ∧ σ = [some (.int T), some (.int p), some (.int lo), some (.int hi), x], ⟨hi, sm, 0, hi, x, by omega, Nat.zero_le _, c', h2, rfl⟩, ?_⟩
      clear hm h1 h2 c c' x hi m sm
      rintro m σ H3 ⟨sm, lo, hi, x, hm, hlo, hhi, hb, rfl⟩
      refine ⟨_, rfl, _, rfl, _, _, rfl, rfl, _, rfl, ?_⟩
      refine ite2D (fun c => ?_) (fun c => ?_)
      · have e : ((lo : Int) + (hi : Int)) / 2 = (((lo + hi) / 2 : Nat) : Int) := by omega
        refine ⟨fun σ' H' => H' = H3 ∧ ∃ lo' hi' : Nat, hi' - lo' < hi - lo ∧ lo' ≤ t ∧ t ≤ hi' ∧ hi' ≤ 2 * t + 1 ∧ σ' = [some (.int T), some (.int p), some (.int lo'), some (.int hi'), some (.int (((lo : Int) + (hi : Int)) / 2))], ?_, ?_⟩
        · rintro σ' H' ⟨rfl, lo', hi', h1, h2, h3, h4, rfl⟩
          exact ⟨hi' - lo', by omega, sm, lo', hi', _, rfl, h2, h3, h4, rfl⟩
        · refine ⟨_, rfl, _, rfl, _, _, rfl, rfl, _, _, rfl, rfl, ⟨by decide, by decide⟩, ?_⟩
          refine ⟨_, rfl, _, rfl, ((lo : Int) + (hi : Int)) / 2, p, rfl, hp2, by rw [e]; exact lt200 (by omega), _, rfl, _, _, rfl, rfl, _, rfl, ?_⟩
          refine ite2D (fun d => ?_) (fun d => ?_)
          · rw [e] at d
            have d' := (lt_iff _).mp (ipow_lt.mp d)
            refine ⟨_, rfl, _, _, rfl, rfl, rfl, (lo + hi) / 2 + 1, hi, by omega, by omega, hhi, hb, by rw [Int.natCast_add, ← e]; rfl⟩
          · rw [e] at d
            have d' : t ≤ (lo + hi) / 2 := Nat.le_of_not_lt fun z => d (ipow_lt.mpr ((lt_iff _).mpr z))
            exact ⟨_, rfl, rfl, lo, (lo + hi) / 2, by omega, hlo, d', by omega, by rw [← e]; rfl⟩
      · refine ⟨_, rfl, ?_⟩
        have e : lo = t := by omega
        rw [e]
        exact k _ sm
end
end KB
end
section
set_option Elab.async false
set_option linter.all false
set_option maxRecDepth 100000
set_option maxHeartbeats 4000000
set_option exponentiation.threshold 100000
/-! integers, numbers, base and exponent -/
namespace KB
open PySem PySem.Spec PyProof.Rows L2 KM
section
variable {P : Program} {w : World} {K : PySem.W.Frag} {mg : Str → Option Value} {base : Heap}
def spIsInt : Sp := fun vs H Q _ => ∃ v : Int, vs = [.int v] ∧ Q (.bl true) H
theorem ok_is_integer (W : Wd K mg) : OkD P w K mg base CX0 1 "is_integer" ["value"] spIsInt := by
  refine (fn_is_integer W).ok sc_is_integer (fun vs H Q E h => ?_) (fun cdv A outer s H vs Q E hr h => ?_)
  · obtain ⟨v, rfl, _⟩ := h
    rfl
  · obtain ⟨v, rfl, k⟩ := h
    refine ⟨_, (pss_one (ps_ret (pe_and (pe_callB call_isi rfl (fr_isinstance W) (by decide +kernel) (pa_cons (pv 0) (pa_cons (pe_bltn rfl (fr_int W) (by decide +kernel) (show RelV (.ty "int") (.type "int") from rfl)) pa_nil))) (pe_one (pe_not (pe_callB call_isi rfl (fr_isinstance W) (by decide +kernel) (pa_cons (pv 0) (pa_cons (pe_bltn rfl (fr_bool W) (by decide +kernel) (show RelV (.ty "bool") (.type "bool") from rfl)) pa_nil)))))))), ?_⟩
    refine ⟨_, rfl, _, _, _, _, true, rfl, .ty "int", .base (.int _), kit_ty (by decide +kernel), _, rfl, iteT ?_⟩
    exact ⟨_, rfl, _, _, _, _, false, rfl, .ty "bool", .base (.int _), kit_ty (by decide +kernel), _, rfl, k⟩
def spBetween : Sp := fun vs H Q _ => ∃ v l h : Int, vs = [.int v, .int l, .int h] ∧ Q (.bl (decide (l ≤ v ∧ v ≤ h))) H
theorem ok_is_between (W : Wd K mg) : OkD P w K mg base CX0 2 "is_between" ["value", "low", "high"] spBetween := by
  have O_is_integer := ok_is_integer (P := P) (w := w) (base := base) W
  refine (fn_is_between W).ok sc_is_between (fun vs H Q E h => ?_) (fun cdv A outer s H vs Q E hr h => ?_)
  · obtain ⟨v, l, u, rfl, _⟩ := h
    rfl
  · obtain ⟨v, l, u, rfl, k⟩ := h
    refine ⟨_, (pss_one (ps_ret (pe_and (pcall O_is_integer (hr.mono (by decide)) (pa_cons (pv 0) pa_nil)) (pe_one (pe_chain op_le op_le (pv 1) (pv 0) (pv 2)))))), ?_⟩
    refine ⟨_, rfl, v, rfl, _, rfl, iteT ?_⟩
    refine ⟨_, rfl, _, rfl, _, _, rfl, rfl, _, rfl, ?_⟩
    refine ite2D (fun c => ?_) (fun c => ?_)
    · refine ⟨_, rfl, _, _, rfl, rfl, ?_⟩
      have e : decide (v ≤ u) = decide (l ≤ v ∧ v ≤ u) := by
        rw [decide_eq_decide]
        exact ⟨fun z => ⟨c, z⟩, fun z => z.2⟩
      show Q (.bl (decide (v ≤ u))) H
      rw [e]
      exact k
    · have e : false = decide (l ≤ v ∧ v ≤ u) := by
        symm
        rw [decide_eq_false_iff_not]
        exact fun z => c z.1
      rw [e]
      exact k
/-- a number, as the text has it -/
abbrev big : Int := 1000000000000000000000000000000
def NumAt (H : Hp) (a : Addr) (t : Int) (b : Nat) : Prop := H a = some (.tup [.int t, .int b])
structure NumOk (t : Int) (b : Nat) : Prop where
  t0 : t ≠ 0
  t1 : t.natAbs ≤ 1000000000000000000000000000000
  b0 : b ≠ 0
  b1 : b ≤ 1000000000000000000000000000000
  cop : Nat.gcd t.natAbs b = 1
theorem NumAt.same {H H' : Hp} {a : Addr} {t : Int} {b : Nat} (h : NumAt H a t b) (s : Same H H') : NumAt H' a t b := s _ _ h
def spIsNum : Sp := fun vs H Q _ => ∃ (a : Addr) (t : Int) (b : Nat), vs = [.ref a] ∧ NumAt H a t b ∧ NumOk t b ∧ Q (.bl true) H
theorem abs_val (t : Int) : (if t < 0 then -t else t) = (t.natAbs : Int) := by
  split <;> omega
theorem ok_is_number (W : Wd K mg) : OkD P w K mg base CX0 3 "is_number" ["value"] spIsNum := by
  have O_is_between := ok_is_between (P := P) (w := w) (base := base) W
  have O_common_divisor := ok_common_divisor (P := P) (w := w) (base := base) W
  refine (fn_is_number W).ok sc_is_number (fun vs H Q E h => ?_) (fun cdv A outer s H vs Q E hr h => ?_)
  · obtain ⟨a, t, b, rfl, _⟩ := h
    rfl
  · obtain ⟨a, t, b, rfl, ha, ho, k⟩ := h
    have hT : SqT K H a [.int t, .int b] := .of ha
    refine ⟨_, (pss_cons (ps_if (PW.pt (pw_or (pt_not (pt_val (pe_callB call_isi rfl (fr_isinstance W) (by decide +kernel) (pa_cons (pv 0) (pa_cons (pe_bltn rfl (fr_tuple W) (by decide +kernel) (show RelV (.ty "tuple") (.type "tuple") from rfl)) pa_nil))))) (pw_or1 (pt_cmpR op_ne (pe_callB call_len rfl (fr_len W) (by decide +kernel) (pa_cons (pv 0) pa_nil)) pe_int (nomark _))))) (pss_one (ps_ret pe_bl)) pss_nil)
      (pss_cons (ps_if (PW.pt (pw_or (pt_not (pt_val (pcall O_is_between (hr.mono (by decide)) (pa_cons (pe_ix ix_tup (pv 0) pe_int (fun _ _ => rfl)) (pa_cons (pe_un un_neg (pe_int_MOST_SIZE W)) (pa_cons (pe_int_MOST_SIZE W) pa_nil)))))) (pw_or (pt_cmpR op_eq (pe_ix ix_tup (pv 0) pe_int (fun _ _ => rfl)) pe_int (nomark _)) (pw_or1 (pt_not (pt_val (pcall O_is_between (hr.mono (by decide)) (pa_cons (pe_ix ix_tup (pv 0) pe_int (fun _ _ => rfl)) (pa_cons pe_int (pa_cons (pe_int_MOST_SIZE W) pa_nil)))))))))) (pss_one (ps_ret pe_bl)) pss_nil)
      (pss_one (ps_ret (pe_cmpR op_eq (pcall O_common_divisor (hr.mono (by decide)) (pa_cons (pe_callB call_abs rfl (fr_abs W) (by decide +kernel) (pa_cons (pe_ix ix_tup (pv 0) pe_int (fun _ _ => rfl)) pa_nil)) (pa_cons (pe_ix ix_tup (pv 0) pe_int (fun _ _ => rfl)) pa_nil))) pe_int (nomark _)))))), ?_⟩
    -- not isinstance(value, tuple) or len(value) != 2
    refine ⟨_, rfl, _, _, _, _, true, rfl, .ty "tuple", .base (.tup ha), kit_ty (by decide +kernel), _, rfl, iteF ?_⟩
    refine ⟨_, rfl, _, 2, rfl, .inr ⟨_, hT, rfl⟩, rfl, _, rfl, iteNS rfl ?_⟩
    -- the parts
    refine ⟨_, rfl, _, _, _, _, rfl, rfl, hT, atI_nat (j := 0) rfl, _, rfl, t, _, _, rfl, _, rfl, ?_⟩
    rw [decide_eq_true (show -big ≤ t ∧ t ≤ big by have := ho.t1; unfold big; omega)]
    refine iteF ?_
    refine ⟨_, rfl, _, _, _, _, rfl, rfl, hT, atI_nat (j := 0) rfl, rfl, _, rfl, ?_⟩
    refine iteDF (fun z => ho.t0 (by injection z)) ?_
    refine ⟨_, rfl, _, _, _, _, rfl, rfl, hT, atI_nat (j := 1) rfl, b, _, _, rfl, _, rfl, ?_⟩
    rw [decide_eq_true (show 1 ≤ (b : Int) ∧ (b : Int) ≤ big by have := ho.b0; have := ho.b1; unfold big; omega)]
    refine iteF ?_
    refine ⟨_, rfl, _, _, _, _, rfl, rfl, hT, atI_nat (j := 0) rfl, _, rfl, _, rfl, _, _, _, _, rfl, rfl, hT, atI_nat (j := 1) rfl, ?_⟩
    refine ⟨t.natAbs, b, by rw [abs_val]; rfl, rfl, ?_⟩
    rw [ho.cop]
    exact k
def spLowest : Sp := fun vs H Q _ => ∃ c x y : Nat, vs = [.int (c * x : Nat), .int (c * y : Nat)] ∧ 0 < c ∧ c < 1000 ∧ Nat.gcd (c * x) (c * y) = c ∧ ∀ p H', Same H H' → NumAt H' p x y → Q (.ref p) H'
theorem ok_lowest (W : Wd K mg) : OkD P w K mg base CX0 2 "lowest" ["top", "bottom"] spLowest := by
  have O_common_divisor := ok_common_divisor (P := P) (w := w) (base := base) W
  refine (fn_lowest W).ok sc_lowest (fun vs H Q E h => ?_) (fun cdv A outer s H vs Q E hr h => ?_)
  · obtain ⟨c, x, y, rfl, _⟩ := h
    rfl
  · obtain ⟨c, x, y, rfl, hc0, hc1, hg, k⟩ := h
    refine ⟨_, (pss_cons (ps_set (i := 2) sc_lowest.nd rfl (.inl rfl) (pcall O_common_divisor (hr.mono (by decide)) (pa_cons (pe_callB call_abs rfl (fr_abs W) (by decide +kernel) (pa_cons (pv 0) pa_nil)) (pa_cons (pv 1) pa_nil))))
      (pss_one (ps_ret (pe_tup (pa_cons (pe_op op_fdiv (pv 0) (pv 2)) (pa_cons (pe_op op_fdiv (pv 1) (pv 2)) pa_nil)))))), ?_⟩
    refine ⟨_, rfl, _, rfl, _, rfl, c * x, c * y, ?_⟩
    refine ⟨by rw [abs_val, Int.natAbs_natCast]; rfl, ?_⟩
    rw [hg]
    have e1 : ((c * x : Nat) : Int) / (c : Int) = (x : Int) := by
      rw [← Int.natCast_ediv, Nat.mul_div_cancel_left x hc0]
    have e2 : ((c * y : Nat) : Int) / (c : Int) = (y : Int) := by
      rw [← Int.natCast_ediv, Nat.mul_div_cancel_left y hc0]
    have hd : CDiv ((c * x : Nat) : Int) (c : Int) := ⟨by omega, by omega⟩
    have hd2 : CDiv ((c * y : Nat) : Int) (c : Int) := ⟨by omega, by omega⟩
    refine ⟨_, rfl, _, rfl, _, _, rfl, rfl, hd, _, rfl, _, rfl, _, _, rfl, rfl, hd2, (by show 2 ≤ sizeLine; decide), fun p hp => ?_⟩
    refine k p _ (same_new hp) ?_
    show upd H p (.tup [.int (((c * x : Nat) : Int) / (c : Int)), .int (((c * y : Nat) : Int) / (c : Int))]) p = some (.tup [.int x, .int y])
    rw [e1, e2]
    exact upd_same
def spRaised : Sp := fun vs H Q _ => ∃ (a : Addr) (x y m : Nat), vs = [.ref a, .int m] ∧ NumAt H a x y ∧ m ≤ 200 ∧ x < 2 ^ 112 ∧ y < 2 ^ 112 ∧ ∀ p H', Same H H' → NumAt H' p (x ^ m : Nat) (y ^ m) → Q (.ref p) H'
theorem ok_raised (W : Wd K mg) : OkD P w K mg base CX0 2 "raised" ["number", "power"] spRaised := by
  have O_power_of := ok_power_of (P := P) (w := w) (base := base) W
  refine (fn_raised W).ok sc_raised (fun vs H Q E h => ?_) (fun cdv A outer s H vs Q E hr h => ?_)
  · obtain ⟨a, x, y, m, rfl, _⟩ := h
    rfl
  · obtain ⟨a, x, y, m, rfl, ha, hm, hx, hy, k⟩ := h
    have hT : SqT K H a [.int x, .int y] := .of ha
    refine ⟨_, (pss_one (ps_ret (pe_tup (pa_cons (pcall O_power_of (hr.mono (by decide)) (pa_cons (pe_ix ix_tup (pv 0) pe_int (fun _ _ => rfl)) (pa_cons (pv 1) pa_nil))) (pa_cons (pcall O_power_of (hr.mono (by decide)) (pa_cons (pe_ix ix_tup (pv 0) pe_int (fun _ _ => rfl)) (pa_cons (pv 1) pa_nil))) pa_nil))))), ?_⟩
    refine ⟨_, rfl, _, _, _, _, rfl, rfl, hT, atI_nat (j := 0) rfl, _, rfl, x, m, rfl, hm, lt200 hx, ?_⟩
    refine ⟨_, rfl, _, _, _, _, rfl, rfl, hT, atI_nat (j := 1) rfl, _, rfl, y, m, rfl, hm, lt200 hy, (by show 2 ≤ sizeLine; decide), fun p hp => ?_⟩
    refine k p _ (same_new hp) ?_
    unfold NumAt
    rw [upd_same, Int.natCast_pow, Int.natCast_pow]
end
end KB
end
section
set_option Elab.async false
set_option linter.all false
set_option maxRecDepth 100000
set_option maxHeartbeats 4000000
set_option exponentiation.threshold 100000
/-! base and exponent, splitting -/
namespace KB
open PySem PySem.Spec PyProof.Rows L2 KM
section
variable {P : Program} {w : World} {K : PySem.W.Frag} {mg : Str → Option Value} {base : Heap}
theorem perf_one {n : Nat} : Perf 1 n := ⟨n, Nat.pow_one n⟩
/-- beyond the binary length nothing is a power -/
theorem no_perf {t b k n : Nat} (ht : 1 ≤ t) (hb : 1 ≤ b) (h1 : ¬ (t = 1 ∧ b = 1)) (hm : max t b < 2 ^ n) (hk : n ≤ k) : ¬ (Perf k t ∧ Perf k b) := by
  rintro ⟨⟨r, hr⟩, ⟨s, hs⟩⟩
  have key : ∀ u v : Nat, u ^ k = v → 1 ≤ v → v ≠ 1 → v < 2 ^ n → False := fun u v e hv h1 hlt => by
    have hu : 2 ≤ u := by
      rcases Nat.lt_or_ge u 2 with z | z
      · rcases (by omega : u = 0 ∨ u = 1) with rfl | rfl
        · rcases Nat.eq_zero_or_pos k with y | y
          · rw [y, Nat.pow_zero] at e; exact absurd e.symm h1
          · rw [Nat.zero_pow y] at e; omega
        · rw [Nat.one_pow] at e; exact absurd e.symm h1
      · exact z
    have a := Nat.pow_le_pow_left hu k
    have b := Nat.pow_le_pow_right (show 0 < 2 by decide) hk
    omega
  have l1 : t ≤ max t b := Nat.le_max_left t b
  have l2 : b ≤ max t b := Nat.le_max_right t b
  by_cases c : t = 1
  · exact key s b hs hb (fun z => h1 ⟨c, z⟩) (by omega)
  · exact key r t hr ht c (by omega)
def spBE : Sp := fun vs H Q _ => ∃ t b : Nat, vs = [.int t, .int b] ∧ 1 ≤ t ∧ 1 ≤ b ∧ Sz t ∧ Sz b ∧
  ∀ (e x y : Nat) (p q : Addr) H', IsExpo t b e → e ≤ 111 → x ^ e = t → y ^ e = b → x ≤ t → y ≤ b → Same H H' → NumAt H' q x y → H' p = some (.tup [.ref q, .int e]) → Q (.ref p) H'
theorem max_val (t b : Nat) : (if (b : Int) > (t : Int) then (b : Int) else (t : Int)) = ((max t b : Nat) : Int) := by
  rw [Nat.max_def]
  split <;> split <;> omega
theorem ok_base_and_exponent (W : Wd K mg) : OkD P w K mg base CX0 4 "base_and_exponent" ["top", "bottom"] spBE := by
  have O_is_power := ok_is_power (P := P) (w := w) (base := base) W
  have O_whole_root := ok_whole_root (P := P) (w := w) (base := base) W
  refine (fn_base_and_exponent W).ok sc_base_and_exponent (fun vs H Q E h => ?_) (fun cdv A outer s H vs Q E hr h => ?_)
  · obtain ⟨t, b, rfl, _⟩ := h
    rfl
  · obtain ⟨t, b, rfl, ht, hb, st, sb, k⟩ := h
    have st' : t < 2 ^ 110 := st
    have sb' : b < 2 ^ 110 := sb
    refine ⟨_, (pss_cons (ps_if (PW.pt (pw_and (pt_cmpR op_eq (pv 0) pe_int (nomark _)) (pw_and1 (pt_cmpR op_eq (pv 1) pe_int (nomark _))))) (pss_one (ps_ret (pe_tup (pa_cons (pe_tup (pa_cons pe_int (pa_cons pe_int pa_nil))) (pa_cons pe_int pa_nil))))) pss_nil)
      (pss_cons (ps_asg (pe_tup (pa_cons pe_int (pa_cons pe_int pa_nil))) (pg_tup rfl (pgs_cons (pg_name (i := 2) sc_base_and_exponent.nd rfl (.inl rfl)) (pgs_cons (pg_name (i := 3) sc_base_and_exponent.nd rfl (.inl rfl)) pgs_nil))))
      (pss_cons (ps_while PassesOwn.never (pt_cmpR op_le (pv 3) (pe_callB (call_max2 rfl) rfl (fr_max W) (by decide +kernel) (pa_cons (pv 0) (pa_cons (pv 1) pa_nil))) (nomark _)) (pss_one (ps_par (i := 2) (j := 3) rfl sc_base_and_exponent.nd rfl rfl (by decide) rfl rfl (pa_cons (pe_op op_add (pv 2) pe_int) (pa_cons (pe_op op_mulW pe_int (pv 3)) pa_nil)) (by rfl))))
      (pss_cons (ps_while PassesOwn.never (PW.pt (pw_or (pt_not (pt_val (pcall O_is_power (hr.mono (by decide)) (pa_cons (pv 0) (pa_cons (pv 2) pa_nil))))) (pw_or1 (pt_not (pt_val (pcall O_is_power (hr.mono (by decide)) (pa_cons (pv 1) (pa_cons (pv 2) pa_nil)))))))) (pss_one (ps_aug (i := 2) sc_base_and_exponent.nd rfl (.inl rfl) pe_int ip_sub)))
      (pss_one (ps_ret (pe_tup (pa_cons (pe_tup (pa_cons (pcall O_whole_root (hr.mono (by decide)) (pa_cons (pv 0) (pa_cons (pv 2) pa_nil))) (pa_cons (pcall O_whole_root (hr.mono (by decide)) (pa_cons (pv 1) (pa_cons (pv 2) pa_nil))) pa_nil))) (pa_cons (pv 2) pa_nil))))))))), ?_⟩
    -- top == 1 and bottom == 1
    refine ⟨_, rfl, rfl, _, rfl, ?_⟩
    refine ite2D (fun c => ⟨_, rfl, rfl, _, rfl, ite2D (fun d => ?one) (fun d => ?b1)⟩) (fun c => ?b2)
    case one =>
      -- return ((1, 1), 0)
      have e1 : t = 1 := by injection c with c; omega
      have e2 : b = 1 := by injection d with d; omega
      refine ⟨by show 2 ≤ sizeLine; decide, fun q1 hq1 => ⟨by show 2 ≤ sizeLine; decide, fun p1 hp1 => ?_⟩⟩
      refine k 0 1 1 p1 q1 _ (.inl ⟨e1, e2, rfl⟩) (by omega) (by rw [e1]) (by rw [e2]) (by omega) (by omega) ((same_new hq1).trans (same_new hp1)) ?_ upd_same
      exact same_new hp1 _ _ upd_same
    all_goals
      have h1 : ¬ (t = 1 ∧ b = 1) := by
        first
          | exact fun z => d (by rw [z.2]; rfl)
          | exact fun z => c (by rw [z.1]; rfl)
      clear c
      try clear d
      have s0 := Same.refl H
      refine ⟨by show 2 ≤ sizeLine; decide, fun q hq => ⟨q, _, rfl, SqT.of upd_same, rfl, _, _, rfl, _, _, rfl, rfl, ?_⟩⟩
      have s1 : Same H (upd H q (.tup [.int 1, .int 4])) := s0.trans (same_new hq)
      refine ⟨fun m σ H2 => Same H H2 ∧ ∃ j : Nat, m = 200 - j ∧ 1 ≤ j ∧ j ≤ 110 ∧ σ = [some (.int t), some (.int b), some (.int j), some (.int (2 ^ (j + 1) : Nat))], ⟨199, s1, 1, rfl, by decide, by decide, rfl⟩, ?_⟩
      rintro m σ H2 ⟨sm, j, hm, hj1, hj2, rfl⟩
      refine ⟨_, rfl, _, rfl, _, rfl, _, _, rfl, _, _, rfl, rfl, _, rfl, ?_⟩
      refine ite2D (fun c => ?_) (fun c => ?_)
      · have c' : 2 ^ (j + 1) ≤ max t b := by
          rw [max_val] at c
          exact Int.ofNat_le.mp c
        have hlt : max t b < 2 ^ 110 := by rw [Nat.max_def]; split <;> assumption
        have hj : j + 1 < 110 := (Nat.pow_lt_pow_iff_right (show 1 < 2 by decide)).mp (Nat.lt_of_le_of_lt c' hlt)
        refine ⟨fun σ' H' => H' = H2 ∧ σ' = [some (.int t), some (.int b), some (.int (j + 1 : Nat)), some (.int (2 ^ (j + 1 + 1) : Nat))], ?_, ?_⟩
        · rintro σ' H' ⟨rfl, rfl⟩
          exact ⟨200 - (j + 1), by omega, sm, j + 1, rfl, by omega, by omega, rfl⟩
        · refine ⟨_, rfl, _, _, rfl, rfl, _, rfl, _, _, rfl, rfl, wide_mul (a := 10) (b := 200) (by decide) (lt200 (Nat.lt_trans (Nat.pow_lt_pow_right (by decide) hj) (by decide +kernel))) (by decide) (by decide) (by decide), _, _, rfl, rfl, ?_⟩
          rw [Nat.pow_succ 2 (j + 1), Nat.mul_comm (2 ^ (j + 1)) 2, Int.natCast_mul, Int.natCast_add]
          rfl
      · have c' : max t b < 2 ^ (j + 1) := by
          rw [max_val] at c
          exact Nat.lt_of_not_le fun z => c (Int.ofNat_le.mpr z)
        have nop : ∀ k, j < k → ¬ (Perf k t ∧ Perf k b) := fun k hk => no_perf ht hb h1 c' hk
        refine ⟨fun m σ H3 => Same H H3 ∧ ∃ (j : Nat) (z : V), m = j ∧ 1 ≤ j ∧ j ≤ 110 ∧ (∀ k, j < k → ¬ (Perf k t ∧ Perf k b)) ∧ σ = [some (.int t), some (.int b), some (.int j), some z], ⟨_, sm, j, _, rfl, hj1, hj2, nop, rfl⟩, ?_⟩
        clear hm hj1 hj2 c c' nop j m sm
        rintro m σ H3 ⟨sm, j, z, hm, hj1, hj2, nop, rfl⟩
        -- one turn more
        have turn : ∀ H4, Same H H4 → ¬ (Perf j t ∧ Perf j b) → ∃ N : L2.St → Hp → Prop, (∀ σ' H', N σ' H' → ∃ m', m' < m ∧ (Same H H' ∧ ∃ (j : Nat) (z : V), m' = j ∧ 1 ≤ j ∧ j ≤ 110 ∧ (∀ k, j < k → ¬ (Perf k t ∧ Perf k b)) ∧ σ' = [some (.int t), some (.int b), some (.int j), some z])) ∧
            N [some (.int t), some (.int b), some (.int ((j : Int) - 1)), some z] H4 := by
          intro H4 s4 np
          have hj : 2 ≤ j := by
            rcases (by omega : j = 1 ∨ 2 ≤ j) with e | e
            · rw [e] at np; exact absurd ⟨perf_one, perf_one⟩ np
            · exact e
          refine ⟨fun σ' H' => H' = H4 ∧ σ' = [some (.int t), some (.int b), some (.int ((j : Int) - 1)), some z], ?_, ⟨rfl, rfl⟩⟩
          rintro σ' H' ⟨rfl, rfl⟩
          refine ⟨j - 1, by omega, s4, j - 1, z, rfl, by omega, by omega, fun k hk => ?_, ?_⟩
          · rcases (by omega : k = j ∨ j < k) with e | e
            · rw [e]; exact np
            · exact nop k e
          · have e : (j : Int) - 1 = ((j - 1 : Nat) : Int) := by omega
            rw [e]
        refine ⟨_, rfl, _, rfl, t, j, rfl, st, hj1, by omega, fun b1 h1' H4 s4 => ⟨_, rfl, ?_⟩⟩
        have s4' := sm.trans s4
        cases b1 with
        | false =>
          have np : ¬ (Perf j t ∧ Perf j b) := fun z => by have := h1'.mpr z.1; cases this
          obtain ⟨N, hN1, hN2⟩ := turn H4 s4' np
          refine iteT (iteT ⟨N, hN1, ?_⟩)
          exact ⟨_, rfl, _, _, rfl, rfl, hN2⟩
        | true =>
          refine iteF ⟨_, rfl, _, rfl, b, j, rfl, sb, hj1, by omega, fun b2 h2' H5 s5 => ⟨_, rfl, ?_⟩⟩
          have s5' := s4'.trans s5
          cases b2 with
          | false =>
            have np : ¬ (Perf j t ∧ Perf j b) := fun z => by have := h2'.mpr z.2; cases this
            obtain ⟨N, hN1, hN2⟩ := turn H5 s5' np
            refine iteT ⟨N, hN1, ?_⟩
            exact ⟨_, rfl, _, _, rfl, rfl, hN2⟩
          | true =>
            refine iteF ?_
            obtain ⟨x, hx⟩ := h1'.mp rfl
            obtain ⟨y, hy⟩ := h2'.mp rfl
            have ex : IsExpo t b j := .inr ⟨h1, hj1, ⟨x, hx⟩, ⟨y, hy⟩, nop⟩
            have lx : x ≤ t := by rw [← hx]; exact le_pow_self hj1
            have ly : y ≤ b := by rw [← hy]; exact le_pow_self hj1
            refine ⟨_, rfl, _, rfl, x, j, by rw [hx]; rfl, by rw [hx]; exact st, hj1, by omega, fun H6 s6 => ?_⟩
            refine ⟨_, rfl, _, rfl, y, j, by rw [hy]; rfl, by rw [hy]; exact sb, hj1, by omega, fun H7 s7 => ?_⟩
            refine ⟨by show 2 ≤ sizeLine; decide, fun q1 hq1 => ⟨_, rfl, by show 2 ≤ sizeLine; decide, fun p1 hp1 => ?_⟩⟩
            refine k j x y p1 q1 _ ex (by omega) hx hy lx ly (((s5'.trans s6).trans s7).trans ((same_new hq1).trans (same_new hp1))) ?_ upd_same
            exact same_new hp1 _ _ upd_same
end
end KB
end
section
set_option Elab.async false
set_option linter.all false
set_option maxRecDepth 100000
set_option maxHeartbeats 4000000
set_option exponentiation.threshold 100000
/-! the program's answers about a number, told of its plan -/
namespace KM
/-- a number's sign and exponents -/
structure Pl where
  s : Int
  v : Vec
  deriving DecidableEq
structure Pl.Ok (π : Pl) : Prop where
  s : π.s = 1 ∨ π.s = -1
  v : π.v.Ok
def Pl.t (π : Pl) : Int := π.s * (π.v.top : Int)
def Pl.four (π : Pl) : Bool := decide (π.s < 0) && π.v.isFour
def Pl.sh (π : Pl) (n : Nat) : Nat := Nat.gcd (if 0 < π.s then n else oddp n) π.v.g
def Pl.split (π : Pl) (n : Nat) : Bool := decide (1 < π.sh n) || (decide (n % 4 = 0) && π.four)
def Pl.always (π : Pl) : Bool := if 0 < π.s then decide (π.v.g = 1) else (decide (0 < π.v.g) && (decide (oddp π.v.g = 1) && !π.four))
theorem Pl.Ok.abs {π : Pl} (h : π.Ok) : π.t.natAbs = π.v.top := by
  unfold Pl.t
  rcases h.s with e | e <;> rw [e] <;> omega
theorem Pl.Ok.pos {π : Pl} (h : π.Ok) : 0 < π.t ↔ 0 < π.s := by
  have := top_pos π.v
  unfold Pl.t
  rcases h.s with e | e <;> rw [e] <;> omega
theorem Pl.Ok.neg {π : Pl} (h : π.Ok) : π.t < 0 ↔ π.s < 0 := by
  have := top_pos π.v
  unfold Pl.t
  rcases h.s with e | e <;> rw [e] <;> omega
end KM
namespace KB
open PySem PySem.Spec PyProof.Rows L2 KM
section
variable {P : Program} {w : World} {K : PySem.W.Frag} {mg : Str → Option Value} {base : Heap}
def PNum (H : Hp) (a : Addr) (π : Pl) : Prop := NumAt H a π.t π.v.bot
theorem PNum.same {H H' : Hp} {a : Addr} {π : Pl} (h : PNum H a π) (s : Same H H') : PNum H' a π := s _ _ h
theorem numOk_of {π : Pl} (h : π.Ok) : NumOk π.t π.v.bot := by
  have h1 := top_pos π.v
  have h2 := bot_pos π.v
  have h3 := h.abs
  refine ⟨fun z => by rw [z] at h3; have : (0 : Int).natAbs = 0 := rfl; omega, by rw [h3]; exact h.v.top_le, by omega, h.v.bot_le, by rw [h3]; exact cop_vec π.v⟩
theorem sz_of {n : Nat} (h : n ≤ 4000000000000000000000000000000) : Sz n := Nat.lt_of_le_of_lt h (by decide +kernel)
theorem sz_top {v : Vec} (h : v.Ok) : Sz v.top := sz_of (Nat.le_trans h.top_le (by decide +kernel))
theorem sz_bot {v : Vec} (h : v.Ok) : Sz v.bot := sz_of (Nat.le_trans h.bot_le (by decide +kernel))
def spCheck : Sp := fun vs H Q _ => ∃ (a : Addr) (t : Int) (b : Nat), vs = [.ref a] ∧ NumAt H a t b ∧ NumOk t b ∧ Q .non H
theorem ok_check_number (W : Wd K mg) : OkD P w K mg base CX0 4 "check_number" ["value"] spCheck := by
  have O_is_number := ok_is_number (P := P) (w := w) (base := base) W
  refine (fn_check_number W).ok sc_check_number (fun vs H Q E h => ?_) (fun cdv A outer s H vs Q E hr h => ?_)
  · obtain ⟨a, t, b, rfl, _⟩ := h
    rfl
  · obtain ⟨a, t, b, rfl, ha, ho, k⟩ := h
    refine ⟨_, (pss_one (ps_if (pt_not (pt_val (pcall O_is_number (hr.mono (by decide)) (pa_cons (pv 0) pa_nil)))) (pss_one ps_never) pss_nil)), ?_⟩
    refine ⟨_, rfl, a, t, b, rfl, ha, ho, _, rfl, iteF ?_⟩
    exact k
def spBaseFor : Sp := fun vs H Q _ => ∃ (a : Addr) (t : Int) (v : Vec), vs = [.ref a] ∧ NumAt H a t v.bot ∧ t.natAbs = v.top ∧ Sz v.top ∧ Sz v.bot ∧
  ∀ (x y : Nat) (p q : Addr) H', x ≤ v.top → y ≤ v.bot → v.g ≤ 111 → Same H H' → NumAt H' q x y → H' p = some (.tup [.ref q, .int v.g]) → Q (.ref p) H'
theorem ok_base_for (W : Wd K mg) : OkD P w K mg base CX0 5 "base_for" ["number"] spBaseFor := by
  have O_base_and_exponent := ok_base_and_exponent (P := P) (w := w) (base := base) W
  refine (fn_base_for W).ok sc_base_for (fun vs H Q E h => ?_) (fun cdv A outer s H vs Q E hr h => ?_)
  · obtain ⟨a, t, b, rfl, _⟩ := h
    rfl
  · obtain ⟨a, t, v, rfl, ha, ht, s1, s2, k⟩ := h
    have hT : SqT K H a [.int t, .int v.bot] := .of ha
    refine ⟨_, (pss_one (ps_ret (pcall O_base_and_exponent (hr.mono (by decide)) (pa_cons (pe_callB call_abs rfl (fr_abs W) (by decide +kernel) (pa_cons (pe_ix ix_tup (pv 0) pe_int (fun _ _ => rfl)) pa_nil)) (pa_cons (pe_ix ix_tup (pv 0) pe_int (fun _ _ => rfl)) pa_nil))))), ?_⟩
    refine ⟨_, rfl, _, _, _, _, rfl, rfl, hT, atI_nat (j := 0) rfl, _, rfl, _, rfl, _, _, _, _, rfl, rfl, hT, atI_nat (j := 1) rfl, ?_⟩
    refine ⟨v.top, v.bot, by rw [abs_val, ht]; rfl, top_pos v, bot_pos v, s1, s2, fun e x y p q H' he le hx hy lx ly sm hq hp => ?_⟩
    have e' := expo_vec v e he
    subst e'
    exact k x y p q H' lx ly le sm hq hp
/-- asked for the fourth root of a number above 0 alone -/
def spRoot4 : Sp := fun vs H Q _ => ∃ (a : Addr) (v : Vec), vs = [.ref a, .int 4] ∧ NumAt H a (v.top : Int) v.bot ∧ Sz v.top ∧ Sz v.bot ∧
  (v.g % 4 = 0 → ∀ p H', Same H H' → Q (.ref p) H') ∧ (v.g % 4 ≠ 0 → ∀ H', Same H H' → Q .non H')
theorem ok_root_for (W : Wd K mg) : OkD P w K mg base CX0 6 "root_for" ["number", "n"] spRoot4 := by
  have O_base_for := ok_base_for (P := P) (w := w) (base := base) W
  have O_raised := ok_raised (P := P) (w := w) (base := base) W
  refine (fn_root_for W).ok sc_root_for (fun vs H Q E h => ?_) (fun cdv A outer s H vs Q E hr h => ?_)
  · obtain ⟨a, v, rfl, _⟩ := h
    rfl
  · obtain ⟨a, v, rfl, ha, s1, s2, ky, kn⟩ := h
    refine ⟨_, (pss_cons (ps_asg (pcall O_base_for (hr.mono (by decide)) (pa_cons (pv 0) pa_nil)) (pg_tup rfl (pgs_cons (pg_name (i := 2) sc_root_for.nd rfl (.inl rfl)) (pgs_cons (pg_name (i := 3) sc_root_for.nd rfl (.inl rfl)) pgs_nil))))
      (pss_cons (ps_if (PW.pt (pw_or (pt_cmpR op_ne (pe_op op_mod (pv 3) (pv 1)) pe_int (nomark _)) (pw_or1 (PW.pt (pw_and (pt_cmpR op_lt (pe_ix ix_tup (pv 0) pe_int (fun _ _ => rfl)) pe_int (nomark _)) (pw_and1 (pt_cmpR op_eq (pe_op op_mod (pv 1) pe_int) pe_int (nomark _)))))))) (pss_one (ps_ret pe_non)) pss_nil)
      (pss_cons (ps_set (i := 4) sc_root_for.nd rfl (.inl rfl) (pcall O_raised (hr.mono (by decide)) (pa_cons (pv 2) (pa_cons (pe_op op_fdiv (pv 3) (pv 1)) pa_nil))))
      (pss_one (ps_ret (pe_ifExp (pt_cmpR op_gt (pe_ix ix_tup (pv 0) pe_int (fun _ _ => rfl)) pe_int (nomark _)) (pv 4) (pe_tup (pa_cons (pe_un un_neg (pe_ix ix_tup (pv 4) pe_int (fun _ _ => rfl))) (pa_cons (pe_ix ix_tup (pv 4) pe_int (fun _ _ => rfl)) pa_nil))))))))), ?_⟩
    refine ⟨_, rfl, a, _, v, rfl, ha, Int.natAbs_natCast _, s1, s2, fun x y p q H1 lx ly lg sm hq hp => ?_⟩
    refine ⟨p, _, rfl, .of hp, rfl, _, _, rfl, _, _, rfl, rfl, ?_⟩
    have ha1 := ha.same sm
    have hT1 : SqT K H1 a [.int v.top, .int v.bot] := .of ha1
    refine ⟨_, rfl, _, rfl, _, _, rfl, rfl, (by show (0 : Int) < 4; decide), rfl, _, rfl, ?_⟩
    by_cases c : v.g % 4 = 0
    · have c' : V.int ((v.g : Int) % 4) = V.int 0 := by rw [show (v.g : Int) % 4 = 0 by omega]
      refine iteNS c' ?_
      have ht : (0 : Int) < (v.top : Int) := by have := top_pos v; omega
      refine ⟨_, rfl, _, _, _, _, rfl, rfl, hT1, atI_nat (j := 0) rfl, _, _, rfl, rfl, _, rfl, ?_⟩
      refine iteDF (by omega) ?_
      refine iteF ?_
      have hg : ((v.g : Int) / 4) = ((v.g / 4 : Nat) : Int) := by omega
      have s1' : v.top < 2 ^ 110 := s1
      have s2' : v.bot < 2 ^ 110 := s2
      refine ⟨_, rfl, _, rfl, _, rfl, _, _, rfl, rfl, ⟨by decide, by decide⟩, ?_⟩
      refine ⟨q, x, y, v.g / 4, by rw [← hg]; rfl, hq, by omega, by omega, by omega, fun p2 H2 s3 hp2 => ?_⟩
      have hT2 : SqT K H2 a [.int v.top, .int v.bot] := .of (ha1.same s3)
      refine ⟨_, rfl, _, _, _, _, rfl, rfl, hT2, atI_nat (j := 0) rfl, _, _, rfl, rfl, _, rfl, ?_⟩
      refine iteD ht ?_
      exact ⟨_, rfl, ky c _ _ (sm.trans s3)⟩
    · have c' : ¬ V.int ((v.g : Int) % 4) = V.int 0 := fun z => by injection z with z; omega
      refine iteN c' ?_
      exact iteT (kn c _ sm)
def spFourFor : Sp := fun vs H Q _ => ∃ (a : Addr) (π : Pl), vs = [.ref a] ∧ PNum H a π ∧ π.Ok ∧ (π.four = true → ∀ p H', Same H H' → Q (.ref p) H') ∧ (π.four = false → ∀ H', Same H H' → Q .non H')
theorem ok_four_for (W : Wd K mg) : OkD P w K mg base CX0 7 "four_for" ["number"] spFourFor := by
  have O_root_for := ok_root_for (P := P) (w := w) (base := base) W
  have O_lowest := ok_lowest (P := P) (w := w) (base := base) W
  refine (fn_four_for W).ok sc_four_for (fun vs H Q E h => ?_) (fun cdv A outer s H vs Q E hr h => ?_)
  · obtain ⟨a, v, rfl, _⟩ := h
    rfl
  · obtain ⟨a, π, rfl, ha, ho, ky, kn⟩ := h
    have hT : SqT K H a [.int π.t, .int π.v.bot] := .of ha
    refine ⟨_, (pss_one (ps_ret (pe_ifExp (pt_cmpR op_lt (pe_ix ix_tup (pv 0) pe_int (fun _ _ => rfl)) pe_int (nomark _)) (pcall O_root_for (hr.mono (by decide)) (pa_cons (pcall O_lowest (hr.mono (by decide)) (pa_cons (pe_un un_neg (pe_ix ix_tup (pv 0) pe_int (fun _ _ => rfl))) (pa_cons (pe_op op_mulW pe_int (pe_ix ix_tup (pv 0) pe_int (fun _ _ => rfl))) pa_nil))) (pa_cons pe_int pa_nil))) pe_non))), ?_⟩
    refine ⟨_, rfl, _, _, _, _, rfl, rfl, hT, atI_nat (j := 0) rfl, _, _, rfl, rfl, _, rfl, ?_⟩
    refine ite2D (fun c => ?_) (fun c => ?_)
    · have hs : π.s < 0 := ho.neg.mp c
      obtain ⟨d, hd, hg, e1, e2⟩ := quart_of π.v
      have hneg : -π.t = ((d * π.v.quart.top : Nat) : Int) := by
        have := ho.abs
        rw [← e1]
        omega
      have hb : (4 : Int) * (π.v.bot : Int) = ((d * π.v.quart.bot : Nat) : Int) := by
        rw [← e2, Int.natCast_mul]
        rfl
      have h4 : π.four = decide (π.v.quart.g % 4 = 0) := by
        unfold Pl.four
        rw [decide_eq_true hs, Bool.true_and, Bool.eq_iff_iff, four_iff, decide_eq_true_iff]
      refine ⟨_, rfl, _, _, _, _, rfl, rfl, hT, atI_nat (j := 0) rfl, _, rfl, _, rfl, _, _, _, _, rfl, rfl, hT, atI_nat (j := 1) rfl, _, _, rfl, rfl, ?_, ?_⟩
      · refine wide_mul (a := 10) (b := 200) (by decide) (lt200 ?_) (by decide) (by decide) (by decide)
        exact Nat.lt_of_le_of_lt ho.v.bot_le (by decide +kernel)
      refine ⟨d, π.v.quart.top, π.v.quart.bot, by rw [← hneg, ← hb]; rfl, by rcases hd with e | e | e <;> omega, by rcases hd with e | e | e <;> omega, by rw [← e1, ← e2]; exact hg, fun p H1 sm hp => ?_⟩
      refine ⟨p, π.v.quart, rfl, hp, sz_of ho.v.qtop_le, sz_of ho.v.qbot_le, fun z p2 H2 s2 => ?_, fun z H2 s2 => ?_⟩
      · exact ky (by rw [h4]; exact decide_eq_true z) _ _ (sm.trans s2)
      · exact kn (by rw [h4]; exact decide_eq_false z) _ (sm.trans s2)
    · refine kn ?_ _ (Same.refl H)
      unfold Pl.four
      rw [decide_eq_false (fun z => c (ho.neg.mpr z)), Bool.false_and]
def spOdd : Sp := fun vs H Q _ => ∃ n : Nat, vs = [.int n] ∧ 1 ≤ n ∧ Q (.int (oddp n : Nat)) H
theorem ok_odd_part (W : Wd K mg) : OkD P w K mg base CX0 1 "odd_part" ["value"] spOdd := by
  refine (fn_odd_part W).ok sc_odd_part (fun vs H Q E h => ?_) (fun cdv A outer s H vs Q E hr h => ?_)
  · obtain ⟨n, rfl, _⟩ := h
    rfl
  · obtain ⟨n, rfl, hn, k⟩ := h
    refine ⟨_, (pss_cons (ps_while PassesOwn.never (pt_cmpR op_eq (pe_op op_mod (pv 0) pe_int) pe_int (nomark _)) (pss_one (ps_set (i := 0) sc_odd_part.nd rfl (.inl rfl) (pe_op op_fdiv (pv 0) pe_int))))
      (pss_one (ps_ret (pv 0)))), ?_⟩
    refine ⟨fun m σ H2 => H2 = H ∧ ∃ j : Nat, m = j ∧ 1 ≤ j ∧ oddp j = oddp n ∧ σ = [some (.int j)], ⟨n, rfl, n, rfl, hn, rfl, rfl⟩, ?_⟩
    rintro m σ H2 ⟨rfl, j, hm, hj, ho, rfl⟩
    refine ⟨_, rfl, _, _, rfl, rfl, (by show (0 : Int) < 2; decide), rfl, _, rfl, ?_⟩
    by_cases c : j % 2 = 0
    · have c' : V.int ((j : Int) % 2) = V.int 0 := by rw [show (j : Int) % 2 = 0 by omega]
      refine iteD c' ?_
      refine ⟨fun σ' H' => H' = H2 ∧ σ' = [some (.int (j / 2 : Nat))], ?_, ?_⟩
      · rintro σ' H' ⟨rfl, rfl⟩
        exact ⟨j / 2, by omega, rfl, j / 2, rfl, by omega, by rw [← oddp_even (by omega) c]; exact ho, rfl⟩
      · refine ⟨_, rfl, _, _, rfl, rfl, ⟨by decide, by decide⟩, rfl, ?_⟩
        have e : (j : Int) / 2 = ((j / 2 : Nat) : Int) := by omega
        rw [← e]
        rfl
    · have c' : ¬ V.int ((j : Int) % 2) = V.int 0 := fun z => by injection z with z; omega
      refine iteDF c' ⟨_, rfl, ?_⟩
      have e : oddp n = j := by rw [← ho]; exact oddp_odd (by omega)
      rw [e] at k
      exact k
def spShared : Sp := fun vs H Q _ => ∃ (a : Addr) (π : Pl) (n : Nat), vs = [.ref a, .int n] ∧ PNum H a π ∧ π.Ok ∧ 1 ≤ n ∧ ∀ H', Same H H' → Q (.int (π.sh n : Nat)) H'
theorem ok_shared (W : Wd K mg) : OkD P w K mg base CX0 6 "shared" ["number", "n"] spShared := by
  have O_base_for := ok_base_for (P := P) (w := w) (base := base) W
  have O_odd_part := ok_odd_part (P := P) (w := w) (base := base) W
  have O_common_divisor := ok_common_divisor (P := P) (w := w) (base := base) W
  refine (fn_shared W).ok sc_shared (fun vs H Q E h => ?_) (fun cdv A outer s H vs Q E hr h => ?_)
  · obtain ⟨a, π, n, rfl, _⟩ := h
    rfl
  · obtain ⟨a, π, n, rfl, ha, ho, hn, k⟩ := h
    have hT : SqT K H a [.int π.t, .int π.v.bot] := .of ha
    refine ⟨_, (pss_one (ps_ret (pcall O_common_divisor (hr.mono (by decide)) (pa_cons (pe_ifExp (pt_cmpR op_gt (pe_ix ix_tup (pv 0) pe_int (fun _ _ => rfl)) pe_int (nomark _)) (pv 1) (pcall O_odd_part (hr.mono (by decide)) (pa_cons (pv 1) pa_nil))) (pa_cons (pe_ix ix_tup (pcall O_base_for (hr.mono (by decide)) (pa_cons (pv 0) pa_nil)) pe_int (fun _ _ => rfl)) pa_nil))))), ?_⟩
    refine ⟨_, rfl, _, _, _, _, rfl, rfl, hT, atI_nat (j := 0) rfl, _, _, rfl, rfl, _, rfl, ?_⟩
    refine ite2D (fun c => ⟨_, rfl, ?_⟩) (fun c => ⟨_, rfl, n, rfl, hn, ?_⟩)
    all_goals
      refine ⟨_, rfl, a, _, π.v, rfl, ha, ho.abs, sz_top ho.v, sz_bot ho.v, fun x y p q H1 lx ly lg sm hq hp => ?_⟩
      refine ⟨_, _, _, _, rfl, rfl, .of hp, atI_nat (j := 1) rfl, ?_⟩
    · refine ⟨n, π.v.g, rfl, ?_⟩
      have e : π.sh n = Nat.gcd n π.v.g := by unfold Pl.sh; rw [if_pos (ho.pos.mp c)]
      rw [← e]
      exact k _ sm
    · refine ⟨oddp n, π.v.g, rfl, ?_⟩
      have e : π.sh n = Nat.gcd (oddp n) π.v.g := by unfold Pl.sh; rw [if_neg (fun z => c (ho.pos.mpr z))]
      rw [← e]
      exact k _ sm
def spBy4 : Sp := fun vs H Q _ => ∃ (a : Addr) (π : Pl) (n : Nat), vs = [.ref a, .int n] ∧ PNum H a π ∧ π.Ok ∧ ∀ H', Same H H' → Q (.bl (decide (n % 4 = 0) && π.four)) H'
theorem ok_is_split_by_four (W : Wd K mg) : OkD P w K mg base CX0 8 "is_split_by_four" ["number", "n"] spBy4 := by
  have O_four_for := ok_four_for (P := P) (w := w) (base := base) W
  refine (fn_is_split_by_four W).ok sc_is_split_by_four (fun vs H Q E h => ?_) (fun cdv A outer s H vs Q E hr h => ?_)
  · obtain ⟨a, π, n, rfl, _⟩ := h
    rfl
  · obtain ⟨a, π, n, rfl, ha, ho, k⟩ := h
    refine ⟨_, (pss_one (ps_ret (pe_and (pe_cmpR op_eq (pe_op op_mod (pv 1) pe_int) pe_int (nomark _)) (pe_one (pe_cmpR op_notN (pcall O_four_for (hr.mono (by decide)) (pa_cons (pv 0) pa_nil)) pe_non (nomark _)))))), ?_⟩
    refine ⟨_, rfl, _, _, rfl, rfl, (by show (0 : Int) < 4; decide), rfl, _, rfl, ?_⟩
    by_cases c : n % 4 = 0
    · have c' : V.int ((n : Int) % 4) = V.int 0 := by rw [show (n : Int) % 4 = 0 by omega]
      refine iteD c' ?_
      rw [decide_eq_true c, Bool.true_and] at k
      refine ⟨_, rfl, a, π, rfl, ha, ho, fun z p H1 s1 => ⟨rfl, ?_⟩, fun z H1 s1 => ⟨rfl, ?_⟩⟩
      · rw [z] at k
        exact k _ s1
      · rw [z] at k
        exact k _ s1
    · have c' : ¬ V.int ((n : Int) % 4) = V.int 0 := fun z => by injection z with z; omega
      refine iteDF c' ?_
      rw [decide_eq_false c, Bool.false_and] at k
      exact k _ (Same.refl H)
def spSplit : Sp := fun vs H Q _ => ∃ (a : Addr) (π : Pl) (n : Nat), vs = [.ref a, .int n] ∧ PNum H a π ∧ π.Ok ∧ 1 ≤ n ∧ ∀ H', Same H H' → Q (.bl (π.split n)) H'
theorem ok_does_split (W : Wd K mg) : OkD P w K mg base CX0 9 "does_split" ["number", "n"] spSplit := by
  have O_shared := ok_shared (P := P) (w := w) (base := base) W
  have O_is_split_by_four := ok_is_split_by_four (P := P) (w := w) (base := base) W
  refine (fn_does_split W).ok sc_does_split (fun vs H Q E h => ?_) (fun cdv A outer s H vs Q E hr h => ?_)
  · obtain ⟨a, π, n, rfl, _⟩ := h
    rfl
  · obtain ⟨a, π, n, rfl, ha, ho, hn, k⟩ := h
    refine ⟨_, (pss_one (ps_ret (pe_or (pe_cmpR op_gt (pcall O_shared (hr.mono (by decide)) (pa_cons (pv 0) (pa_cons (pv 1) pa_nil))) pe_int (nomark _)) (pe_one (pcall O_is_split_by_four (hr.mono (by decide)) (pa_cons (pv 0) (pa_cons (pv 1) pa_nil))))))), ?_⟩
    refine ⟨_, rfl, _, rfl, a, π, n, rfl, ha, ho, hn, fun H1 s1 => ⟨_, _, rfl, rfl, _, rfl, ?_⟩⟩
    unfold Pl.split at k
    refine ite2D (fun c => ?_) (fun c => ?_)
    · have c' : 1 < π.sh n := by omega
      rw [decide_eq_true c', Bool.true_or] at k
      exact k _ s1
    · have c' : ¬ 1 < π.sh n := by omega
      rw [decide_eq_false c', Bool.false_or] at k
      exact ⟨_, rfl, _, rfl, a, π, n, rfl, ha.same s1, ho, fun H2 s2 => k _ (s1.trans s2)⟩
def spAlways : Sp := fun vs H Q _ => ∃ (a : Addr) (π : Pl), vs = [.ref a] ∧ PNum H a π ∧ π.Ok ∧ ∀ H', Same H H' → Q (.bl π.always) H'
theorem ok_is_always (W : Wd K mg) : OkD P w K mg base CX0 8 "is_always" ["number"] spAlways := by
  have O_base_for := ok_base_for (P := P) (w := w) (base := base) W
  have O_odd_part := ok_odd_part (P := P) (w := w) (base := base) W
  have O_four_for := ok_four_for (P := P) (w := w) (base := base) W
  refine (fn_is_always W).ok sc_is_always (fun vs H Q E h => ?_) (fun cdv A outer s H vs Q E hr h => ?_)
  · obtain ⟨a, π, rfl, _⟩ := h
    rfl
  · obtain ⟨a, π, rfl, ha, ho, k⟩ := h
    refine ⟨_, (pss_cons (ps_set (i := 1) sc_is_always.nd rfl (.inl rfl) (pe_ix ix_tup (pcall O_base_for (hr.mono (by decide)) (pa_cons (pv 0) pa_nil)) pe_int (fun _ _ => rfl)))
      (pss_cons (ps_if (pt_cmpR op_gt (pe_ix ix_tup (pv 0) pe_int (fun _ _ => rfl)) pe_int (nomark _)) (pss_one (ps_ret (pe_cmpR op_eq (pv 1) pe_int (nomark _)))) pss_nil)
      (pss_one (ps_ret (pe_and (pe_cmpR op_gt (pv 1) pe_int (nomark _)) (pe_and (pe_cmpR op_eq (pcall O_odd_part (hr.mono (by decide)) (pa_cons (pv 1) pa_nil)) pe_int (nomark _)) (pe_one (pe_cmpR op_isN (pcall O_four_for (hr.mono (by decide)) (pa_cons (pv 0) pa_nil)) pe_non (nomark _))))))))), ?_⟩
    refine ⟨_, rfl, a, _, π.v, rfl, ha, ho.abs, sz_top ho.v, sz_bot ho.v, fun x y p q H1 lx ly lg s1 hq hp => ?_⟩
    refine ⟨_, _, _, _, rfl, rfl, .of hp, atI_nat (j := 1) rfl, ?_⟩
    have ha1 := ha.same s1
    have hT1 : SqT K H1 a [.int π.t, .int π.v.bot] := .of ha1
    refine ⟨_, rfl, _, _, _, _, rfl, rfl, hT1, atI_nat (j := 0) rfl, _, _, rfl, rfl, _, rfl, ?_⟩
    unfold Pl.always at k
    refine ite2D (fun c => ?_) (fun c => ?_)
    · rw [if_pos (ho.pos.mp c)] at k
      refine ⟨_, rfl, rfl, ?_⟩
      have e : decide (V.int (π.v.g : Int) = V.int 1) = decide (π.v.g = 1) := by
        rw [decide_eq_decide]
        exact ⟨fun z => by injection z with z; omega, fun z => by rw [z]; rfl⟩
      rw [e]
      exact k _ s1
    · rw [if_neg (fun z => c (ho.pos.mpr z))] at k
      refine ⟨_, rfl, _, _, rfl, rfl, _, rfl, ?_⟩
      refine ite2D (fun d => ?_) (fun d => ?_)
      · have d' : 0 < π.v.g := by omega
        rw [decide_eq_true d', Bool.true_and] at k
        refine ⟨_, rfl, π.v.g, rfl, d', rfl, _, rfl, ?_⟩
        by_cases f : oddp π.v.g = 1
        · rw [decide_eq_true f, Bool.true_and] at k
          refine iteD (by rw [f]; rfl) ?_
          refine ⟨_, rfl, a, π, rfl, ha1, ho, fun z p H2 s2 => ⟨rfl, ?_⟩, fun z H2 s2 => ⟨rfl, ?_⟩⟩
          · rw [z] at k
            exact k _ (s1.trans s2)
          · rw [z] at k
            exact k _ (s1.trans s2)
        · rw [decide_eq_false f, Bool.false_and] at k
          refine iteDF (fun z => f (by injection z with z; omega)) ?_
          exact k _ s1
      · have d' : ¬ 0 < π.v.g := by omega
        rw [decide_eq_false d', Bool.false_and] at k
        exact k _ s1
end
end KB
end
section
set_option Elab.async false
set_option linter.all false
set_option maxRecDepth 100000
set_option maxHeartbeats 4000000
set_option exponentiation.threshold 100000
/-! kinds -/
namespace KB
open PySem PySem.Spec PyProof.Rows L2 KM
section
variable {P : Program} {w : World} {K : PySem.W.Frag} {mg : Str → Option Value} {base : Heap}
theorem same_mut {H H' : Hp} {p : Addr} {o : HO} (s : Same H H') (h : H p = none) : Same H (upd H' p o) := fun b u e => by
  rw [upd_ne (ne_of_none e h)]
  exact s b u e
/-- ints as values -/
abbrev nI (l : List Nat) : List V := l.map fun (n : Nat) => V.int (n : Int)
def spPrimes : Sp := fun vs H Q _ => ∃ n : Nat, vs = [.int n] ∧ 1 ≤ n ∧ n ≤ 18 ∧ ∀ p H', Same H H' → H' p = some (.lst (nI (pdiv n))) → (pdiv n).length ≤ 100 → Q (.ref p) H'
theorem strip_end {f l s : Nat} (h : l % s ≠ 0) : KM.strip f l s = l := by
  cases f with
  | zero => rfl
  | succ f => unfold KM.strip; rw [if_neg h]
theorem ok_prime_divisors (W : Wd K mg) : OkD P w K mg base CX0 1 "prime_divisors" ["value"] spPrimes := by
  refine (fn_prime_divisors W).ok sc_prime_divisors (fun vs H Q E h => ?_) (fun cdv A outer s H vs Q E hr h => ?_)
  · obtain ⟨n, rfl, _⟩ := h
    rfl
  · obtain ⟨n, rfl, hn1, hn2, k⟩ := h
    refine ⟨_, (pss_cons (ps_par3 (i := 1) (j := 2) (l := 3) rfl sc_prime_divisors.nd rfl rfl rfl (by decide) (by decide) (by decide) rfl rfl rfl (pa_cons (pe_lst pa_nil) (pa_cons (pv 0) (pa_cons pe_int pa_nil))) (by rfl))
      (pss_cons (ps_while PassesOwn.never (pt_cmpR op_le (pe_op op_mulW (pv 3) (pv 3)) (pv 2) (nomark _)) (pss_cons (ps_if (pt_cmpR op_eq (pe_op op_mod (pv 2) (pv 3)) pe_int (nomark _)) (pss_cons (ps_expr (pe_bm PySem.F.plainAttrs_list PySem.F.slot_list_append PySem.F.type_list_append mt_append (pv 1) (pa_cons (pv 3) pa_nil)))
      (pss_one (ps_while PassesOwn.never (pt_cmpR op_eq (pe_op op_mod (pv 2) (pv 3)) pe_int (nomark _)) (pss_one (ps_set (i := 2) sc_prime_divisors.nd rfl (.inl rfl) (pe_op op_fdiv (pv 2) (pv 3))))))) pss_nil)
      (pss_one (ps_aug (i := 3) sc_prime_divisors.nd rfl (.inl rfl) pe_int ip_add))))
      (pss_one (ps_ret (pe_op op_cat (pv 1) (pe_ifExp (pt_cmpR op_gt (pv 2) pe_int (nomark _)) (pe_lst (pa_cons (pv 2) pa_nil)) (pe_lst pa_nil))))))), ?_⟩
    refine ⟨by show 0 ≤ sizeLine; decide, fun p hp => ⟨_, rfl, _, _, _, rfl, ?_⟩⟩
    refine ⟨fun m σ H2 => ∃ (found : List Nat) (left step : Nat), m = 30 - step ∧ 2 ≤ step ∧ step ≤ 22 ∧ 1 ≤ left ∧ left ≤ 18 ∧ found.length ≤ step ∧ pd (22 - step) found left step = pdiv n ∧ Same H H2 ∧ H2 p = some (.lst (nI found)) ∧ σ = [some (.int n), some (.ref p), some (.int left), some (.int step)],
      ⟨28, [], n, 2, rfl, by decide, by decide, hn1, hn2, Nat.zero_le _, rfl, same_new hp, upd_same, rfl⟩, ?_⟩
    rintro m σ H2 ⟨found, left, step, hm, hs1, hs2, hl1, hl2, hfl, hpd, sm, hf, rfl⟩
    have emul : (step : Int) * (step : Int) = ((step * step : Nat) : Int) := by rw [Int.natCast_mul]
    refine ⟨_, rfl, _, rfl, _, _, rfl, rfl, wide_mul (a := 200) (b := 200) (lt200 ?_) (lt200 ?_) (by decide) (by decide) (by decide), _, rfl, _, _, rfl, rfl, _, rfl, ?_⟩
    · exact Nat.lt_of_le_of_lt hs2 (by decide +kernel)
    · exact Nat.lt_of_le_of_lt hs2 (by decide +kernel)
    refine ite2D (fun c => ?_) (fun c => ?_)
    · have c' : step * step ≤ left := by rw [emul] at c; omega
      have hst : step ≤ 4 := by
        rcases Nat.lt_or_ge 4 step with z | z
        · have := Nat.mul_le_mul z z; omega
        · exact z
      obtain ⟨f, hf22⟩ : ∃ f, 22 - step = f + 1 := ⟨21 - step, by omega⟩
      have hf2 : 22 - (step + 1) = f := by omega
      rw [hf22] at hpd
      unfold pd at hpd
      rw [if_pos c'] at hpd
      refine ⟨fun σ' H' => ∃ (found : List Nat) (left : Nat), 1 ≤ left ∧ left ≤ 18 ∧ found.length ≤ step + 1 ∧ pd f found left (step + 1) = pdiv n ∧ Same H H' ∧ H' p = some (.lst (nI found)) ∧ σ' = [some (.int n), some (.ref p), some (.int left), some (.int (step + 1 : Nat))], ?_, ?_⟩
      · rintro σ' H' ⟨found', left', h1, h2, h3, h4, h5, h6, rfl⟩
        exact ⟨30 - (step + 1), by omega, found', left', step + 1, rfl, by omega, by omega, h1, h2, h3, by rw [hf2]; exact h4, h5, h6, rfl⟩
      · refine ⟨_, rfl, _, rfl, _, _, rfl, rfl, (by show (0 : Int) < (step : Int); omega), rfl, _, rfl, ?_⟩
        have emod : (left : Int) % (step : Int) = ((left % step : Nat) : Int) := by rw [Int.natCast_emod]
        by_cases d : left % step = 0
        · rw [if_pos d] at hpd
          refine iteD (by show V.int ((left : Int) % (step : Int)) = V.int 0; rw [emod, d]; rfl) ?_
          -- found.append(step)
          refine ⟨_, rfl, .inl ⟨rfl, _, SqL.of hf⟩, _, rfl, p, _, _, rfl, rfl, hf, ?_, ?_⟩
          · rw [List.length_map]
            exact small1000 (by omega)
          have ef : nI found ++ [V.int (step : Int)] = nI (found ++ [step]) := by simp
          rw [ef]
          refine ⟨fun m σ H3 => ∃ (l g : Nat), m = l ∧ 1 ≤ l ∧ l ≤ left ∧ l ≤ g ∧ KM.strip g l step = KM.strip left left step ∧ Same H H3 ∧ H3 p = some (.lst (nI (found ++ [step]))) ∧ σ = [some (.int n), some (.ref p), some (.int l), some (.int step)],
            ⟨left, left, left, rfl, hl1, Nat.le_refl _, Nat.le_refl _, rfl, same_mut sm hp, upd_same, rfl⟩, ?_⟩
          rintro m σ H3 ⟨l, g, hm, h1, h2, h3, h4, s3, hf3, rfl⟩
          have emod2 : (l : Int) % (step : Int) = ((l % step : Nat) : Int) := by rw [Int.natCast_emod]
          refine ⟨_, rfl, _, rfl, _, _, rfl, rfl, (by show (0 : Int) < (step : Int); omega), rfl, _, rfl, ?_⟩
          by_cases e : l % step = 0
          · refine iteD (by show V.int ((l : Int) % (step : Int)) = V.int 0; rw [emod2, e]; rfl) ?_
            have hls : step ≤ l := Nat.le_of_dvd h1 (Nat.dvd_of_mod_eq_zero e)
            have hq1 : 1 ≤ l / step := (Nat.le_div_iff_mul_le (by omega)).mpr (by omega)
            have hq2 : l / step < l := Nat.div_lt_self h1 hs1
            obtain ⟨g', rfl⟩ : ∃ g', g = g' + 1 := ⟨g - 1, by omega⟩
            unfold KM.strip at h4
            rw [if_pos e] at h4
            refine ⟨fun σ' H' => H' = H3 ∧ σ' = [some (.int n), some (.ref p), some (.int (l / step : Nat)), some (.int step)], ?_, ?_⟩
            · rintro σ' H' ⟨rfl, rfl⟩
              exact ⟨l / step, by omega, l / step, g', rfl, hq1, by omega, by omega, by rw [h4]; conv => rhs; unfold KM.strip, s3, hf3, rfl⟩
            · refine ⟨_, rfl, _, rfl, _, _, rfl, rfl, ⟨by omega, by omega⟩, rfl, ?_⟩
              rw [Int.natCast_ediv]
              rfl
          · refine iteDF (fun z => e (by have z' : V.int ((l : Int) % (step : Int)) = V.int 0 := z; rw [emod2] at z'; injection z' with z'; omega)) ?_
            refine ⟨_, rfl, _, _, rfl, rfl, found ++ [step], l, h1, by omega, by rw [List.length_append]; simp only [List.length_cons, List.length_nil]; omega, ?_, s3, hf3, rfl⟩
            rw [← hpd, ← h4, strip_end e]
        · rw [if_neg d] at hpd
          refine iteDF (fun z => d (by have z' : V.int ((left : Int) % (step : Int)) = V.int 0 := z; rw [emod] at z'; injection z' with z'; omega)) ?_
          exact ⟨_, rfl, _, _, rfl, rfl, found, left, hl1, hl2, by omega, hpd, sm, hf, rfl⟩
    · have c' : ¬ step * step ≤ left := fun z => c (by rw [emul]; omega)
      rw [pd_end c'] at hpd
      refine ⟨_, rfl, _, rfl, _, _, rfl, rfl, _, rfl, ?_⟩
      have fin : ∀ (ex : List Nat) (q : Addr) (H3 : Hp), H2 q = none → H3 = upd H2 q (.lst (nI ex)) → ex.length ≤ 1 → found ++ ex = pdiv n → ∃ a b xs ys, V.ref p = .ref a ∧ V.ref q = .ref b ∧ H3 a = some (.lst xs) ∧ H3 b = some (.lst ys) ∧ xs.length + ys.length ≤ sizeLine ∧
          ∀ r, H3 r = none → Q (.ref r) (upd H3 r (.lst (xs ++ ys))) := by
        rintro ex q H3 hq rfl hlen he
        refine ⟨p, q, nI found, nI ex, rfl, rfl, same_new hq _ _ hf, upd_same, ?_, fun r hr => ?_⟩
        · rw [List.length_map, List.length_map]
          exact Nat.le_of_lt (small1000 (by omega))
        · refine k r _ ((sm.trans (same_new hq)).trans (same_new hr)) ?_ ?_
          · rw [upd_same, ← he]; simp
          · rw [← he, List.length_append]
            omega
      refine ite2D (fun e => ?_) (fun e => ?_)
      · rw [if_pos (show 1 < left by omega)] at hpd
        refine ⟨_, rfl, by show 1 ≤ sizeLine; decide, fun q hq => ?_⟩
        exact fin [left] q _ hq rfl (Nat.le_refl 1) hpd
      · rw [if_neg (show ¬ 1 < left by omega)] at hpd
        refine ⟨by show 0 ≤ sizeLine; decide, fun q hq => ?_⟩
        exact fin [] q _ hq rfl (Nat.zero_le 1) hpd
end
end KB
end
section
set_option Elab.async false
set_option linter.all false
set_option maxRecDepth 100000
set_option maxHeartbeats 4000000
namespace KM
/-- the primes of a kind -/
def kpr (s : Int) (g : Nat) : List Nat := (pdiv g).filter fun p => decide (0 < s) || decide (2 < p)
end KM
namespace KB
open PySem PySem.Spec PyProof.Rows L2 KM
section
variable {P : Program} {w : World} {K : PySem.W.Frag} {mg : Str → Option Value} {base : Heap}
theorem nI_get {l : List Nat} {i : Nat} {x : V} (h : (nI l)[i]? = some x) : ∃ z, l[i]? = some z ∧ x = V.int (z : Int) := by
  rw [List.getElem?_map] at h
  cases e : l[i]? with
  | none => rw [e] at h; cases h
  | some z => rw [e] at h; exact ⟨z, rfl, (Option.some.inj h).symm⟩
theorem take_one {α : Type} {l : List α} {i : Nat} {x : α} (h : l[i]? = some x) : l.take (i + 1) = l.take i ++ [x] := by
  rw [List.take_add_one, h]
  rfl
theorem filt_yes {α : Type} {f : α → Bool} {l : List α} {i : Nat} {x : α} (h : l[i]? = some x) (hf : f x = true) : (l.take (i + 1)).filter f = (l.take i).filter f ++ [x] := by
  rw [take_one h, List.filter_append, List.filter_cons_of_pos hf]
  rfl
theorem filt_no {α : Type} {f : α → Bool} {l : List α} {i : Nat} {x : α} (h : l[i]? = some x) (hf : f x = false) : (l.take (i + 1)).filter f = (l.take i).filter f := by
  rw [take_one h, List.filter_append, List.filter_cons_of_neg (by rw [hf]; decide)]
  simp
theorem filt_len {α : Type} (f : α → Bool) (l : List α) (i : Nat) : ((l.take i).filter f).length ≤ l.length :=
  Nat.le_trans (List.length_filter_le _ _) (by rw [List.length_take]; omega)
def spPrFor : Sp := fun vs H Q _ => ∃ (s : Int) (n : Nat), vs = [.int s, .int n] ∧ 1 ≤ n ∧ n ≤ 18 ∧ ∀ p H', Same H H' → H' p = some (.lst (nI (kpr s n))) → Q (.ref p) H'
theorem ok_primes_for (W : Wd K mg) : OkD P w K mg base CX0 2 "primes_for" ["sign", "n"] spPrFor := by
  have O_prime_divisors := ok_prime_divisors (P := P) (w := w) (base := base) W
  refine (fn_primes_for W).ok sc_primes_for (fun vs H Q E h => ?_) (fun cdv A outer s H vs Q E hr h => ?_)
  · obtain ⟨s, n, rfl, _⟩ := h
    rfl
  · obtain ⟨sg, n, rfl, h1, h2, k⟩ := h
    refine ⟨_, (pss_one (ps_ret (pe_lc (own := [("prime", 2)]) (g := gName 2) rfl sc_primes_for.nd (pi_list (pcall O_prime_divisors (hr.mono (by decide)) (pa_cons (pv 1) pa_nil))) (blkOk_by (own := [("prime", 2)]) (N := n_primes_for) (sc := defScope s_primes_for) (by decide +kernel)) (fun _ _ _ _ _ => pg_name (i := 2) sc_primes_for.nd rfl (Or.inl rfl)) (fun _ _ _ _ _ => (pts_one (PW.pt (pw_or (pt_cmpR op_gt (pv 0) pe_int (nomark _)) (pw_or1 (pt_cmpR op_gt (pv 2) pe_int (nomark _))))))) (fun _ _ _ _ _ => (pv 2))))), ?_⟩
    refine ⟨_, rfl, n, rfl, h1, h2, fun p H1 s1 hp hlen => ⟨p, rfl, ⟨_, .of hp⟩, fun D hD => ?_⟩⟩
    refine lc_list (K := K) (a := p) (xs := nI (pdiv n)) (fun i H' => Same H1 H' ∧ H' D = some (.lst (nI (((pdiv n).take i).filter fun p => decide (0 < sg) || decide (2 < p)))))
      ⟨same_new hD, upd_same⟩ (fun i H' _ h => .of (h.1 _ _ hp)) ?_ ?_
    · rintro i x H' hi ⟨s2, hd⟩
      obtain ⟨z, hz, rfl⟩ := nI_get hi
      have yes : (decide (0 < sg) || decide (2 < z)) = true → ∃ acc, H' D = some (.lst acc) ∧ acc.length < sizeLine ∧ (Same H1 (upd H' D (.lst (acc ++ [V.int (z : Int)]))) ∧ (upd H' D (.lst (acc ++ [V.int (z : Int)]))) D = some (.lst (nI (((pdiv n).take (i + 1)).filter fun p => decide (0 < sg) || decide (2 < p))))) := fun e => by
        refine ⟨_, hd, ?_, same_mut s2 hD, ?_⟩
        · rw [List.length_map]
          refine small1000 (Nat.le_trans (filt_len _ _ _) (by omega))
        · rw [upd_same, filt_yes hz e]
          simp
      refine ⟨rfl, _, rfl, _, _, rfl, rfl, _, rfl, ?_⟩
      refine ite2D (fun c => ?_) (fun c => ?_)
      · refine iteT ⟨_, rfl, yes ?_⟩
        rw [decide_eq_true c, Bool.true_or]
      · refine ⟨_, rfl, _, _, rfl, rfl, _, rfl, ?_⟩
        refine ite2D (fun d => ?_) (fun d => ?_)
        · refine ⟨_, rfl, yes ?_⟩
          rw [decide_eq_true (show 2 < z by omega), Bool.or_true]
        · refine ⟨s2, ?_⟩
          rw [filt_no hz (by rw [decide_eq_false c, decide_eq_false (show ¬ 2 < z by omega)]; rfl)]
          exact hd
    · rintro H' ⟨s2, hd⟩
      refine k D H' (s1.trans s2) ?_
      rw [hd, List.length_map, List.take_length]
      rfl
/-- a kind, as it is handed back -/
def KindAt (H : Hp) (p : Addr) (π : Pl) : Prop :=
  (π.v.g = 0 ∧ H p = some (.tup [.int π.s, .str "all", .bl π.four])) ∨ (π.v.g ≠ 0 ∧ ∃ q, H q = some (.tup (nI (kpr π.s π.v.g))) ∧ H p = some (.tup [.int π.s, .ref q, .bl π.four]))
def spKind : Sp := fun vs H Q _ => ∃ (a : Addr) (π : Pl), vs = [.ref a] ∧ PNum H a π ∧ π.Ok ∧ ∀ p H', Same H H' → KindAt H' p π → Q (.ref p) H'
theorem ok_own_kind (W : Wd K mg) : OkD P w K mg base CX0 8 "own_kind" ["number"] spKind := by
  have O_base_for := ok_base_for (P := P) (w := w) (base := base) W
  have O_primes_for := ok_primes_for (P := P) (w := w) (base := base) W
  have O_four_for := ok_four_for (P := P) (w := w) (base := base) W
  refine (fn_own_kind W).ok sc_own_kind (fun vs H Q E h => ?_) (fun cdv A outer s H vs Q E hr h => ?_)
  · obtain ⟨a, π, rfl, _⟩ := h
    rfl
  · obtain ⟨a, π, rfl, ha, ho, k⟩ := h
    have hT : SqT K H a [.int π.t, .int π.v.bot] := .of ha
    refine ⟨_, (pss_cons (ps_par (i := 1) (j := 2) rfl sc_own_kind.nd rfl rfl (by decide) rfl rfl (pa_cons (pe_ifExp (pt_cmpR op_gt (pe_ix ix_tup (pv 0) pe_int (fun _ _ => rfl)) pe_int (nomark _)) pe_int (pe_un un_neg pe_int)) (pa_cons (pe_ix ix_tup (pcall O_base_for (hr.mono (by decide)) (pa_cons (pv 0) pa_nil)) pe_int (fun _ _ => rfl)) pa_nil)) (by rfl))
      (pss_cons (ps_set (i := 3) sc_own_kind.nd rfl (.inl rfl) (pe_ifExp (pt_cmpR op_eq (pv 2) pe_int (nomark _)) (pe_str_ALL W) (pe_callTy call_tuple_of rfl (fr_tuple W) (by decide +kernel) (pa_cons (pcall O_primes_for (hr.mono (by decide)) (pa_cons (pv 1) (pa_cons (pv 2) pa_nil))) pa_nil))))
      (pss_one (ps_ret (pe_tup (pa_cons (pv 1) (pa_cons (pv 3) (pa_cons (pe_cmpR op_notN (pcall O_four_for (hr.mono (by decide)) (pa_cons (pv 0) pa_nil)) pe_non (nomark _)) pa_nil)))))))), ?_⟩
    -- the sign
    refine ⟨_, rfl, _, _, _, _, rfl, rfl, hT, atI_nat (j := 0) rfl, _, _, rfl, rfl, _, rfl, ?_⟩
    refine ite2D (fun c => ?_) (fun c => ⟨_, rfl, ?_⟩)
    all_goals
      refine ⟨_, rfl, a, _, π.v, rfl, ha, ho.abs, sz_top ho.v, sz_bot ho.v, fun x y p q H1 lx ly lg s1 hq hp => ?_⟩
      refine ⟨_, _, _, _, rfl, rfl, .of hp, atI_nat (j := 1) rfl, _, _, rfl, ?_⟩
      have es : (if 0 < π.t then (1 : Int) else -1) = π.s := by
        rcases ho.s with e | e
        · rw [if_pos (ho.pos.mpr (by omega)), e]
        · rw [if_neg (fun z => by have := ho.pos.mp z; omega), e]
      first
        | rw [if_pos c] at es
        | rw [if_neg c] at es
      have hgl := ho.v.g_le
      refine ⟨_, rfl, rfl, _, rfl, ?_⟩
      by_cases d : π.v.g = 0
      · refine iteD (by rw [d]; rfl) ?_
        refine ⟨_, rfl, _, rfl, _, rfl, a, π, rfl, ha.same s1, ho, fun z p2 H2 s2 => ⟨rfl, by show 3 ≤ sizeLine; decide, fun r hr => ?_⟩, fun z H2 s2 => ⟨rfl, by show 3 ≤ sizeLine; decide, fun r hr => ?_⟩⟩
        all_goals
          refine k r _ ((s1.trans s2).trans (same_new hr)) (.inl ⟨d, ?_⟩)
          rw [upd_same, z, ← es]
          rfl
      · refine iteDF (fun z => d (by injection z with z; omega)) ?_
        refine ⟨_, rfl, _, rfl, _, π.v.g, rfl, by omega, hgl, fun p1 H2 s2 hp1 => ?_⟩
        rw [es] at hp1
        refine ⟨_, _, rfl, .inl ⟨.of hp1, fun t ht => ?_⟩⟩
        have s3 : Same H1 (upd H2 t (.tup (nI (kpr π.s π.v.g)))) := s2.trans (same_new ht)
        refine ⟨_, rfl, _, rfl, _, rfl, a, π, rfl, ha.same (s1.trans s3), ho, fun z p2 H4 s4 => ⟨rfl, by show 3 ≤ sizeLine; decide, fun r hr => ?_⟩, fun z H4 s4 => ⟨rfl, by show 3 ≤ sizeLine; decide, fun r hr => ?_⟩⟩
        all_goals
          refine k r _ (((s1.trans s3).trans s4).trans (same_new hr)) (.inr ⟨d, t, ?_, ?_⟩)
          · exact same_new hr _ _ (s4 _ _ upd_same)
          · rw [upd_same, z, ← es]
            rfl
theorem ok_kind_of (W : Wd K mg) : OkD P w K mg base CX0 9 "kind_of" ["number"] spKind := by
  have O_check_number := ok_check_number (P := P) (w := w) (base := base) W
  have O_own_kind := ok_own_kind (P := P) (w := w) (base := base) W
  refine (fn_kind_of W).ok sc_kind_of (fun vs H Q E h => ?_) (fun cdv A outer s H vs Q E hr h => ?_)
  · obtain ⟨a, π, rfl, _⟩ := h
    rfl
  · obtain ⟨a, π, rfl, ha, ho, k⟩ := h
    refine ⟨_, (pss_cons (ps_expr (pcall O_check_number (hr.mono (by decide)) (pa_cons (pv 0) pa_nil)))
      (pss_one (ps_ret (pcall O_own_kind (hr.mono (by decide)) (pa_cons (pv 0) pa_nil))))), ?_⟩
    exact ⟨_, rfl, a, _, _, rfl, ha, numOk_of ho, _, rfl, a, π, rfl, ha, ho, k⟩
end
end KB
end
section
set_option Elab.async false
set_option linter.all false
set_option maxRecDepth 100000
set_option maxHeartbeats 4000000
set_option exponentiation.threshold 100000
/-! the law's draws, its numbers -/
namespace KB
open PySem PySem.Spec PyProof.Rows L2 KM
section
variable {P : Program} {w : World} {K : PySem.W.Frag} {mg : Str → Option Value} {base : Heap}
/-! ### the jug -/
abbrev jg (a b c : Int) : HO := .lst [.int a, .int b, .int c]
def JugAt (H : Hp) (j : Addr) : Prop := ∃ a b c : Int, H j = some (jg a b c)
/-- all stands but the jug -/
structure Jk (j : Addr) (H H' : Hp) : Prop where
  jug : JugAt H' j
  kept : ∀ b o, b ≠ j → H b = some o → H' b = some o
theorem Jk.refl {j : Addr} {H : Hp} (h : JugAt H j) : Jk j H H := ⟨h, fun _ _ _ e => e⟩
theorem Jk.trans {j : Addr} {H H1 H2 : Hp} (a : Jk j H H1) (b : Jk j H1 H2) : Jk j H H2 := ⟨b.jug, fun c o n e => b.kept c o n (a.kept c o n e)⟩
theorem Jk.of_same {j : Addr} {H H' : Hp} (h : JugAt H j) (s : Same H H') : Jk j H H' := by
  obtain ⟨a, b, c, e⟩ := h
  exact ⟨⟨a, b, c, s _ _ e⟩, fun b o _ e => s b o e⟩
theorem Jk.same {j : Addr} {H H1 H2 : Hp} (a : Jk j H H1) (s : Same H1 H2) : Jk j H H2 := a.trans (.of_same a.jug s)
theorem Jk.new {j : Addr} {H H1 : Hp} {p : Addr} {o : HO} (a : Jk j H H1) (h : H1 p = none) : Jk j H (upd H1 p o) := a.same (same_new h)
theorem Jk.put {j : Addr} {H : Hp} (a b c : Int) : Jk j H (upd H j (jg a b c)) := ⟨⟨a, b, c, upd_same⟩, fun b o n e => by rw [upd_ne n]; exact e⟩
theorem JugAt.ne {j p : Addr} {H : Hp} {o : HO} (h : JugAt H j) (e : H p = some o) (d : ∀ a b c : Int, o ≠ jg a b c) : p ≠ j := by
  obtain ⟨a, b, c, hj⟩ := h
  exact ne_of e hj (d a b c)
theorem JugAt.new {j p : Addr} {H : Hp} (h : JugAt H j) (e : H p = none) : p ≠ j := by
  obtain ⟨a, b, c, hj⟩ := h
  exact (ne_of_none hj e).symm
def spJug (K : PySem.W.Frag) : Sp := fun vs H Q _ => ∃ (a : Addr) (ns : List Int) (k : Nat), vs = [.ref a, .int k] ∧ SqL K H a (ns.map V.int) ∧ ns.length ≤ 63 ∧ k ≤ 5 ∧ ∀ j H', Same H H' → H j = none → JugAt H' j → Q (.ref j) H'
theorem sm64 {i : Int} (h1 : -1000000000000 < i) (h2 : i < 1000000000000) : -(2 ^ 64) < i ∧ i < 2 ^ 64 := by
  have : (2 : Int) ^ 64 = 18446744073709551616 := by decide +kernel
  rw [this]
  omega
theorem int_get {ns : List Int} {i : Nat} {x : V} (h : (ns.map V.int)[i]? = some x) : ∃ z, ns[i]? = some z ∧ x = V.int z := by
  rw [List.getElem?_map] at h
  cases e : ns[i]? with
  | none => rw [e] at h; cases h
  | some z => rw [e] at h; exact ⟨z, rfl, (Option.some.inj h).symm⟩
theorem ok__law_jug (W : Wd K mg) : OkD P w K mg base CX0 1 "_law_jug" ["_law_cells", "_law_k"] (spJug K) := by
  refine (fn__law_jug W).ok sc__law_jug (fun vs H Q E h => ?_) (fun cdv A outer s H vs Q E hr h => ?_)
  · obtain ⟨a, ns, n, rfl, _⟩ := h
    rfl
  · obtain ⟨a, ns, k, rfl, hS, hlen, hk, kq⟩ := h
    refine ⟨_, (pss_cons (ps_par (i := 2) (j := 3) rfl sc__law_jug.nd rfl rfl (by decide) rfl rfl (pa_cons (pe_ifExp (pt_cmpR op_lt (pv 1) (pe_callB call_len rfl (fr_len W) (by decide +kernel) (pa_cons (pv 0) pa_nil)) (nomark _)) (pe_callTy call_int1 rfl (fr_int W) (by decide +kernel) (pa_cons (pe_ix ix_list (pv 0) (pv 1) (fun _ _ => rfl)) pa_nil)) pe_int) (pa_cons (pe_op op_add (pe_op op_mul pe_int (pe_op op_add (pv 1) pe_int)) pe_int) pa_nil)) (by rfl))
      (pss_cons (ps_for PassesOwn.never rfl (pi_list (pe_slice sl_list (pv 0) po_none (po_some pe_int))) (pg_name (i := 4) sc__law_jug.nd rfl (.inl rfl)) (pss_one (ps_set (i := 3) sc__law_jug.nd rfl (.inl rfl) (pe_op op_mod (pe_callTy call_int1 rfl (fr_int W) (by decide +kernel) (pa_cons (pe_op op_add (pe_op op_add (pe_op op_mul (pv 3) pe_int) (pe_op op_mod (pe_callTy call_int1 rfl (fr_int W) (by decide +kernel) (pa_cons (pv 4) pa_nil)) pe_int)) (pe_op op_mul pe_int (pv 1))) pa_nil)) pe_int))))
      (pss_cons (ps_set (i := 5) sc__law_jug.nd rfl (.inl rfl) (pe_ifExp (PW.pt (pw_or (pt_cmpR op_lt (pv 2) pe_int (nomark _)) (pw_or1 (pt_cmpR op_ge (pv 2) (pe_op op_pow pe_int pe_int) (nomark _))))) (pe_callB call_abs rfl (fr_abs W) (by decide +kernel) (pa_cons (pv 2) pa_nil)) pe_int))
      (pss_one (ps_ret (pe_lst (pa_cons (pv 5) (pa_cons (pe_op op_mod (pe_callTy call_int1 rfl (fr_int W) (by decide +kernel) (pa_cons (pe_op op_add (pv 3) (pe_op op_mul pe_int (pe_op op_mod (pe_callTy call_int1 rfl (fr_int W) (by decide +kernel) (pa_cons (pv 2) pa_nil)) pe_int))) pa_nil)) pe_int) (pa_cons pe_int pa_nil))))))))), ?_⟩
    -- the cell
    refine ⟨_, rfl, _, rfl, _, (ns.map V.int).length, rfl, .inl ⟨_, hS, rfl⟩, _, _, rfl, rfl, _, rfl, ?_⟩
    refine ite2D (fun c => ?_) (fun c => ?_)
    · rw [List.length_map] at c
      have c' : k < ns.length := by omega
      have hx : ns[k]? = some ns[k] := List.getElem?_eq_getElem c'
      generalize ns[k] = cell at hx
      refine ⟨_, rfl, _, rfl, a, _, _, _, rfl, rfl, hS, atI_nat (j := k) (by rw [List.getElem?_map, hx]; rfl), .inl ⟨cell, rfl, ?_⟩⟩
      refine ⟨_, rfl, _, _, rfl, rfl, _, _, rfl, rfl, .inl (sm64 (by omega) (by omega)), _, _, rfl, rfl, _, _, rfl, ?_⟩
      -- the mixed number
      refine ⟨_, rfl, _, rfl, a, _, rfl, hS, fun l hl => ⟨l, rfl, ⟨_, .of upd_same⟩, ?_⟩⟩
      have hs0 : Same H (upd H l (.lst (cutV (ns.map V.int) none (some 6)))) := same_new hl
      refine for_list (K := K) (a := l) (xs := cutV (ns.map V.int) none (some 6)) (fun i σ H2 => H2 = upd H l (.lst (cutV (ns.map V.int) none (some 6))) ∧ ∃ (m : Int) (v : Option V), 0 ≤ m ∧ m < 2147483269 ∧ σ = [some (.ref a), some (.int k), some (.int cell), some (.int m), v, none])
        ⟨rfl, _, none, by omega, by omega, rfl⟩ (fun i σ H2 _ ⟨e, _⟩ => by rw [e]; exact .of upd_same) ?_ ?_
      · rintro i x σ H2 hi ⟨rfl, m, v, m0, m1, rfl⟩
        obtain ⟨z, rfl⟩ : ∃ z : Int, x = .int z := by
          have hx : x ∈ cutV (ns.map V.int) none (some 6) := List.mem_of_getElem? hi
          have hx2 : x ∈ ns.map V.int := List.mem_of_mem_drop (List.mem_of_mem_take hx)
          obtain ⟨z, _, e⟩ := List.mem_map.mp hx2
          exact ⟨z, e.symm⟩
        refine ⟨_, rfl, _, _, rfl, rfl, .inl (sm64 (by omega) (by omega)), _, rfl, .inl ⟨z, rfl, _, _, rfl, rfl, (by show (0 : Int) < 1000403; decide), _, _, rfl, rfl, _, rfl, _, _, rfl, rfl, .inl (sm64 (by omega) (by omega)), _, _, rfl, rfl, .inl ⟨_, rfl, _, _, rfl, rfl, (by show (0 : Int) < 2147483269; decide), ?_⟩⟩⟩
        exact ⟨rfl, _, _, Int.emod_nonneg _ (by decide), Int.emod_lt_of_pos _ (by decide), rfl⟩
      · rintro σ H2 ⟨rfl, m, v, m0, m1, rfl⟩
        refine ⟨_, rfl, _, _, rfl, rfl, _, rfl, ?_⟩
        refine ite2D (fun c1 => ⟨_, rfl, _, rfl, ?_⟩) (fun c1 => ⟨_, rfl, _, _, rfl, rfl, ⟨by decide, by decide, by decide⟩, _, _, rfl, rfl, _, rfl, ite2D (fun c2 => ⟨_, rfl, _, rfl, ?_⟩) (fun c2 => ?_)⟩)
        all_goals
          have c0 := Int.emod_nonneg cell (show (999863 : Int) ≠ 0 by decide)
          have c1 := Int.emod_lt_of_pos cell (show (0 : Int) < 999863 by decide)
          refine ⟨_, rfl, _, rfl, _, rfl, .inl ⟨cell, rfl, _, _, rfl, rfl, (by show (0 : Int) < 999863; decide), _, _, rfl, rfl, .inl (sm64 (by omega) (by omega)), _, _, rfl, rfl, .inl ⟨_, rfl, _, _, rfl, rfl, (by show (0 : Int) < 2147483269; decide), (by show 3 ≤ sizeLine; decide), fun j hj => ?_⟩⟩⟩
          exact kq j _ (hs0.trans (same_new hj)) (hs0.free hj) ⟨_, _, _, upd_same⟩
    · refine ⟨_, rfl, _, _, rfl, rfl, _, _, rfl, rfl, .inl (sm64 (by omega) (by omega)), _, _, rfl, rfl, _, _, rfl, ?_⟩
      -- the mixed number
      refine ⟨_, rfl, _, rfl, a, _, rfl, hS, fun l hl => ⟨l, rfl, ⟨_, .of upd_same⟩, ?_⟩⟩
      have hs0 : Same H (upd H l (.lst (cutV (ns.map V.int) none (some 6)))) := same_new hl
      refine for_list (K := K) (a := l) (xs := cutV (ns.map V.int) none (some 6)) (fun i σ H2 => H2 = upd H l (.lst (cutV (ns.map V.int) none (some 6))) ∧ ∃ (m : Int) (v : Option V), 0 ≤ m ∧ m < 2147483269 ∧ σ = [some (.ref a), some (.int k), some (.int 0), some (.int m), v, none])
        ⟨rfl, _, none, by omega, by omega, rfl⟩ (fun i σ H2 _ ⟨e, _⟩ => by rw [e]; exact .of upd_same) ?_ ?_
      · rintro i x σ H2 hi ⟨rfl, m, v, m0, m1, rfl⟩
        obtain ⟨z, rfl⟩ : ∃ z : Int, x = .int z := by
          have hx : x ∈ cutV (ns.map V.int) none (some 6) := List.mem_of_getElem? hi
          have hx2 : x ∈ ns.map V.int := List.mem_of_mem_drop (List.mem_of_mem_take hx)
          obtain ⟨z, _, e⟩ := List.mem_map.mp hx2
          exact ⟨z, e.symm⟩
        refine ⟨_, rfl, _, _, rfl, rfl, .inl (sm64 (by omega) (by omega)), _, rfl, .inl ⟨z, rfl, _, _, rfl, rfl, (by show (0 : Int) < 1000403; decide), _, _, rfl, rfl, _, rfl, _, _, rfl, rfl, .inl (sm64 (by omega) (by omega)), _, _, rfl, rfl, .inl ⟨_, rfl, _, _, rfl, rfl, (by show (0 : Int) < 2147483269; decide), ?_⟩⟩⟩
        exact ⟨rfl, _, _, Int.emod_nonneg _ (by decide), Int.emod_lt_of_pos _ (by decide), rfl⟩
      · rintro σ H2 ⟨rfl, m, v, m0, m1, rfl⟩
        refine ⟨_, rfl, _, _, rfl, rfl, _, rfl, ?_⟩
        refine ite2D (fun c1 => ⟨_, rfl, _, rfl, ?_⟩) (fun c1 => ⟨_, rfl, _, _, rfl, rfl, ⟨by decide, by decide, by decide⟩, _, _, rfl, rfl, _, rfl, ite2D (fun c2 => ⟨_, rfl, _, rfl, ?_⟩) (fun c2 => ?_)⟩)
        all_goals
          have c0 := Int.emod_nonneg (0 : Int) (show (999863 : Int) ≠ 0 by decide)
          have c1 := Int.emod_lt_of_pos (0 : Int) (show (0 : Int) < 999863 by decide)
          refine ⟨_, rfl, _, rfl, _, rfl, .inl ⟨(0 : Int), rfl, _, _, rfl, rfl, (by show (0 : Int) < 999863; decide), _, _, rfl, rfl, .inl (sm64 (by omega) (by omega)), _, _, rfl, rfl, .inl ⟨_, rfl, _, _, rfl, rfl, (by show (0 : Int) < 2147483269; decide), (by show 3 ≤ sizeLine; decide), fun j hj => ?_⟩⟩⟩
          exact kq j _ (hs0.trans (same_new hj)) (hs0.free hj) ⟨_, _, _, upd_same⟩
def spPull : Sp := fun vs H Q _ => ∃ (j : Addr) (top : Int), vs = [.ref j, .int top] ∧ JugAt H j ∧ 0 < top ∧ top ≤ 1000000000 ∧ ∀ (r : Int) H', 0 ≤ r → r < top → Jk j H H' → (∀ p, H p = none → H' p = none) → Q (.int r) H'
theorem ok__law_pull (W : Wd K mg) : OkD P w K mg base CX0 1 "_law_pull" ["_law_jug_here", "_law_top"] spPull := by
  refine (fn__law_pull W).ok sc__law_pull (fun vs H Q E h => ?_) (fun cdv A outer s H vs Q E hr h => ?_)
  · obtain ⟨j, top, rfl, _⟩ := h
    rfl
  · obtain ⟨j, top, rfl, ⟨a, b, c, hj⟩, h0, h1, k⟩ := h
    have hS : SqL K H j [.int a, .int b, .int c] := .of hj
    refine ⟨_, (pss_cons (ps_if (pt_cmpR op_gt (pe_ix ix_list (pv 0) pe_int (fun _ _ => rfl)) pe_int (nomark _)) (pss_cons (ps_set (i := 2) sc__law_pull.nd rfl (.inl rfl) (pe_op op_mod (pe_callTy call_int1 rfl (fr_int W) (by decide +kernel) (pa_cons (pe_ix ix_list (pv 0) pe_int (fun _ _ => rfl)) pa_nil)) (pv 1)))
      (pss_cons (ps_asg (pe_op op_fdiv (pe_ix ix_list (pv 0) pe_int (fun _ _ => rfl)) (pv 1)) (pg_sub (pv 0) pe_int set_list))
      (pss_one (ps_ret (pv 2))))) pss_nil)
      (pss_cons (ps_asg (pe_op op_add (pe_ix ix_list (pv 0) pe_int (fun _ _ => rfl)) pe_int) (pg_sub (pv 0) pe_int set_list))
      (pss_cons (ps_set (i := 3) sc__law_pull.nd rfl (.inl rfl) (pe_op op_mod (pe_callTy call_int1 rfl (fr_int W) (by decide +kernel) (pa_cons (pe_op op_add (pe_ix ix_list (pv 0) pe_int (fun _ _ => rfl)) (pe_op op_mul pe_int (pe_ix ix_list (pv 0) pe_int (fun _ _ => rfl)))) pa_nil)) pe_int))
      (pss_cons (ps_asg (pe_op op_mod (pe_callTy call_int1 rfl (fr_int W) (by decide +kernel) (pa_cons (pe_op op_add (pe_op op_add (pe_op op_mul (pv 3) (pe_op op_add (pe_op op_mod (pe_callTy call_int1 rfl (fr_int W) (by decide +kernel) (pa_cons (pv 3) pa_nil)) pe_int) pe_int)) (pe_op op_mul pe_int (pe_ix ix_list (pv 0) pe_int (fun _ _ => rfl)))) pe_int) pa_nil)) pe_int) (pg_sub (pv 0) pe_int set_list))
      (pss_one (ps_ret (pe_op op_mod (pe_op op_fdiv (pe_callTy call_int1 rfl (fr_int W) (by decide +kernel) (pa_cons (pe_ix ix_list (pv 0) pe_int (fun _ _ => rfl)) pa_nil)) pe_int) (pv 1)))))))), ?_⟩
    refine ⟨_, rfl, _, _, _, _, rfl, rfl, hS, atI_nat (j := 0) rfl, _, _, rfl, rfl, _, rfl, ?_⟩
    have fr : ∀ (x y z : Int) (p : Addr), H p = none → upd H j (jg x y z) p = none := fun x y z p hp => by
      rw [upd_ne (ne_of_none hj hp).symm]
      exact hp
    refine ite2D (fun ca => ?_) (fun ca => ?_)
    · refine ⟨_, rfl, _, _, _, _, rfl, rfl, hS, atI_nat (j := 0) rfl, .inl ⟨a, rfl, _, rfl, _, _, rfl, rfl, h0, ?_⟩⟩
      refine ⟨_, rfl, _, _, _, _, rfl, rfl, hS, atI_nat (j := 0) rfl, _, rfl, _, _, rfl, rfl, ⟨h0, by omega⟩, _, rfl, j, _, _, 0, rfl, rfl, hj, rfl, _, rfl, ?_⟩
      exact k _ _ (Int.emod_nonneg _ (by omega)) (Int.emod_lt_of_pos _ h0) (.put (a / top) b c) (fr _ _ _)
    · -- the second cell
      refine ⟨_, rfl, _, _, _, _, rfl, rfl, hS, atI_nat (j := 2) rfl, _, _, rfl, rfl, _, rfl, j, _, _, 2, rfl, rfl, hj, rfl, ?_⟩
      have h2 : upd H j (jg a b (c + 1)) j = some (jg a b (c + 1)) := upd_same
      have hS2 : SqL K (upd H j (jg a b (c + 1))) j [.int a, .int b, .int (c + 1)] := .of h2
      refine ⟨_, rfl, _, _, _, _, rfl, rfl, hS2, atI_nat (j := 1) rfl, _, rfl, _, _, _, _, rfl, rfl, hS2, atI_nat (j := 2) rfl, _, _, rfl, rfl, .inl (sm64 (by omega) (by omega)), _, _, rfl, rfl, .inl ⟨_, rfl, _, _, rfl, rfl, (by show (0 : Int) < 2147483269; decide), ?_⟩⟩
      have q1 := Int.emod_nonneg (b + 54121 * (c + 1)) (show (2147483269 : Int) ≠ 0 by decide)
      have q2 := Int.emod_lt_of_pos (b + 54121 * (c + 1)) (show (0 : Int) < 2147483269 by decide)
      refine ⟨_, rfl, _, rfl, .inl ⟨_, rfl, _, _, rfl, rfl, (by show (0 : Int) < 36007; decide), _, _, rfl, rfl, _, _, rfl, rfl, .inl (sm64 (by omega) (by omega)), ?_⟩⟩
      refine ⟨_, rfl, _, _, _, _, rfl, rfl, hS2, atI_nat (j := 2) rfl, _, _, rfl, rfl, .inl (sm64 (by omega) (by omega)), _, _, rfl, rfl, _, _, rfl, rfl, .inl ⟨_, rfl, _, _, rfl, rfl, (by show (0 : Int) < 2147483269; decide), ?_⟩⟩
      refine ⟨_, rfl, j, _, _, 1, rfl, rfl, h2, rfl, ?_⟩
      rw [upd_upd]
      refine ⟨_, rfl, _, _, _, _, rfl, rfl, .of upd_same, atI_nat (j := 1) rfl, .inl ⟨_, rfl, _, _, rfl, rfl, ⟨by decide, by decide⟩, _, rfl, _, _, rfl, rfl, h0, ?_⟩⟩
      exact k _ _ (Int.emod_nonneg _ (by omega)) (Int.emod_lt_of_pos _ h0) (.put a _ (c + 1)) (fr _ _ _)
/-- one of some things, whichever -/
def spOneOf : Sp := fun vs H Q _ => ∃ (j a : Addr) (xs : List V), vs = [.ref j, .ref a] ∧ JugAt H j ∧ H a = some (.lst xs) ∧ a ≠ j ∧ 0 < xs.length ∧ xs.length ≤ 100 ∧ ∀ x ∈ xs, ∀ H', Jk j H H' → (∀ p, H p = none → H' p = none) → Q x H'
theorem ok__law_one_of (W : Wd K mg) : OkD P w K mg base CX0 2 "_law_one_of" ["_law_jug_here", "_law_some"] spOneOf := by
  have O__law_pull := ok__law_pull (P := P) (w := w) (base := base) W
  refine (fn__law_one_of W).ok sc__law_one_of (fun vs H Q E h => ?_) (fun cdv A outer s H vs Q E hr h => ?_)
  · obtain ⟨j, a, xs, rfl, _⟩ := h
    rfl
  · obtain ⟨j, a, xs, rfl, hj, ha, ne, h0, h1, k⟩ := h
    refine ⟨_, (pss_one (ps_ret (pe_ix ix_list (pv 1) (pcall O__law_pull (hr.mono (by decide)) (pa_cons (pv 0) (pa_cons (pe_callB call_len rfl (fr_len W) (by decide +kernel) (pa_cons (pv 1) pa_nil)) pa_nil))) (fun _ _ => rfl)))), ?_⟩
    refine ⟨_, rfl, _, rfl, _, rfl, _, xs.length, rfl, .inl ⟨_, .of ha, rfl⟩, j, _, rfl, hj, by omega, by omega, fun r H1 r0 r1 jk fr => ?_⟩
    obtain ⟨n, rfl⟩ : ∃ n : Nat, r = n := ⟨r.toNat, by omega⟩
    have hn : n < xs.length := by omega
    refine ⟨a, xs, _, _, rfl, rfl, .of (jk.kept _ _ ne ha), atI_nat (j := n) (List.getElem?_eq_getElem hn), ?_⟩
    exact k _ (List.getElem_mem hn) _ jk fr
def spCommon : Sp := fun vs H Q _ => ∃ x y : Int, vs = [.int x, .int y] ∧ y.natAbs ≤ 100 ∧ Q (.int (Nat.gcd x.natAbs y.natAbs : Nat)) H
theorem ok__law_common (W : Wd K mg) : OkD P w K mg base CX0 1 "_law_common" ["_law_one", "_law_two"] spCommon := by
  refine (fn__law_common W).ok sc__law_common (fun vs H Q E h => ?_) (fun cdv A outer s H vs Q E hr h => ?_)
  · obtain ⟨x, y, rfl, _⟩ := h
    rfl
  · obtain ⟨x, y, rfl, hy, k⟩ := h
    refine ⟨_, (pss_cons (ps_par (i := 0) (j := 1) rfl sc__law_common.nd rfl rfl (by decide) rfl rfl (pa_cons (pe_callB call_abs rfl (fr_abs W) (by decide +kernel) (pa_cons (pv 0) pa_nil)) (pa_cons (pe_callB call_abs rfl (fr_abs W) (by decide +kernel) (pa_cons (pv 1) pa_nil)) pa_nil)) (by rfl))
      (pss_cons (ps_for PassesOwn.never rfl (pi_range1 rfl (fr_range W) (pa_cons pe_int pa_nil)) (pg_name (i := 2) sc__law_common.nd rfl (.inl rfl)) (pss_cons (ps_if (pt_cmpR op_eq (pv 1) pe_int (nomark _)) (pss_one ps_break) pss_nil)
      (pss_one (ps_par (i := 0) (j := 1) rfl sc__law_common.nd rfl rfl (by decide) rfl rfl (pa_cons (pv 1) (pa_cons (pe_op op_mod (pe_callTy call_int1 rfl (fr_int W) (by decide +kernel) (pa_cons (pv 0) pa_nil)) (pv 1)) pa_nil)) (by rfl)))))
      (pss_one (ps_ret (pv 0))))), ?_⟩
    refine ⟨_, rfl, _, rfl, _, rfl, _, rfl, _, _, rfl, _, rfl, by decide, by decide, ?_⟩
    refine for_range (lo := 0) (n := (400 : Int).toNat) (fun i σ H2 => H2 = H ∧ ∃ (a b : Nat) (v : Option V), Nat.gcd a b = Nat.gcd x.natAbs y.natAbs ∧ b + i ≤ 100 ∧ σ = [some (.int a), some (.int b), v]) ⟨rfl, x.natAbs, y.natAbs, none, rfl, by omega, by rw [← abs_val, ← abs_val]; rfl⟩ ?_ ?_
    · rintro i σ H2 hi ⟨rfl, a, b, v, hg, hb, rfl⟩
      refine ⟨_, rfl, rfl, _, rfl, ?_⟩
      refine ite2D (fun c => ?_) (fun c => ?_)
      · have b0 : b = 0 := by injection c with c; omega
        refine ⟨_, rfl, ?_⟩
        rw [b0, Nat.gcd_zero_right] at hg
        rw [hg]
        exact k
      · have b0 : 0 < b := Nat.pos_of_ne_zero fun z => c (by rw [z]; rfl)
        refine ⟨_, rfl, _, rfl, .inl ⟨_, rfl, _, rfl, _, _, rfl, rfl, (by show (0 : Int) < (b : Int); omega), _, _, rfl, ?_⟩⟩
        have hl := Nat.mod_lt a b0
        exact ⟨rfl, b, a % b, _, by rw [← hg, Nat.gcd_comm a b, Nat.gcd_rec b a, Nat.gcd_comm], by omega, rfl⟩
    · rintro σ H2 ⟨rfl, a, b, v, hg, hb, rfl⟩
      have : (400 : Int).toNat = 400 := rfl
      omega
end
end KB
end
section
set_option Elab.async false
set_option linter.all false
set_option maxRecDepth 100000
set_option maxHeartbeats 4000000
set_option exponentiation.threshold 100000
/-! the law's numbers -/
namespace KM
def rowL (v : Vec) : List Int := [v.a, v.b, v.c, v.d]
def gl (l : List Int) : Nat := l.foldl (fun g e => Nat.gcd g e.natAbs) 0
theorem gl_row (v : Vec) : gl (rowL v) = v.g := by
  show Nat.gcd (Nat.gcd (Nat.gcd (Nat.gcd 0 v.a.natAbs) v.b.natAbs) v.c.natAbs) v.d.natAbs = v.g
  rw [Nat.gcd_zero_left]
  rfl
theorem gl_more {l : List Int} {i : Nat} {e : Int} (h : l[i]? = some e) : gl (l.take (i + 1)) = Nat.gcd (gl (l.take i)) e.natAbs := by
  rw [List.take_add_one, h]
  unfold gl
  show (l.take i ++ [e]).foldl _ 0 = _
  rw [List.foldl_append]
  rfl
def zl (v : Vec) : List (Nat × Int) := [(2, v.a), (3, v.b), (5, v.c), (7, v.d)]
def tpart (l : List (Nat × Int)) : Nat := l.foldl (fun t q => t * q.1 ^ q.2.toNat) 1
def bpart (l : List (Nat × Int)) : Nat := l.foldl (fun t q => t * q.1 ^ (-q.2).toNat) 1
theorem tpart_all (v : Vec) : tpart (zl v) = v.top := by
  show (((1 * 2 ^ v.a.toNat) * 3 ^ v.b.toNat) * 5 ^ v.c.toNat) * 7 ^ v.d.toNat = v.top
  rw [Nat.one_mul]
  rfl
theorem bpart_all (v : Vec) : bpart (zl v) = v.bot := by
  show (((1 * 2 ^ (-v.a).toNat) * 3 ^ (-v.b).toNat) * 5 ^ (-v.c).toNat) * 7 ^ (-v.d).toNat = v.bot
  rw [Nat.one_mul]
  rfl
theorem tpart_more {l : List (Nat × Int)} {i : Nat} {q : Nat × Int} (h : l[i]? = some q) : tpart (l.take (i + 1)) = tpart (l.take i) * q.1 ^ q.2.toNat := by
  rw [List.take_add_one, h]
  unfold tpart
  show (l.take i ++ [q]).foldl _ 1 = _
  rw [List.foldl_append]
  rfl
theorem bpart_more {l : List (Nat × Int)} {i : Nat} {q : Nat × Int} (h : l[i]? = some q) : bpart (l.take (i + 1)) = bpart (l.take i) * q.1 ^ (-q.2).toNat := by
  rw [List.take_add_one, h]
  unfold bpart
  show (l.take i ++ [q]).foldl _ 1 = _
  rw [List.foldl_append]
  rfl
end KM
namespace KB
open PySem PySem.Spec PyProof.Rows L2 KM
section
variable {P : Program} {w : World} {K : PySem.W.Frag} {mg : Str → Option Value} {base : Heap}
def RowAt (H : Hp) (r : Addr) (v : Vec) : Prop := H r = some (.lst ((rowL v).map V.int))
def PlanAt (H : Hp) (p : Addr) (π : Pl) : Prop := ∃ r, RowAt H r π.v ∧ H p = some (.tup [.int π.s, .ref r])
theorem PlanAt.same {H H' : Hp} {p : Addr} {π : Pl} (h : PlanAt H p π) (s : Same H H') : PlanAt H' p π := by
  obtain ⟨r, h1, h2⟩ := h
  exact ⟨r, s _ _ h1, s _ _ h2⟩
theorem JugAt.ne_row {H : Hp} {j r : Addr} {v : Vec} (h : JugAt H j) (e : RowAt H r v) : r ≠ j := h.ne e (by intro a b c z; unfold rowL at z; injection z with z; injection z with _ z; injection z with _ z; injection z with _ z; cases z)
theorem JugAt.ne_tup {H : Hp} {j r : Addr} {xs : List V} (h : JugAt H j) (e : H r = some (.tup xs)) : r ≠ j := h.ne e (by intro a b c z; cases z)
theorem PlanAt.jk {H H' : Hp} {p j : Addr} {π : Pl} (h : PlanAt H p π) (hj : JugAt H j) (k : Jk j H H') : PlanAt H' p π := by
  obtain ⟨r, h1, h2⟩ := h
  exact ⟨r, k.kept _ _ (hj.ne_row h1) h1, k.kept _ _ (hj.ne_tup h2) h2⟩
theorem Vec.Ok.mem {v : Vec} (h : v.Ok) {e : Int} (he : e ∈ rowL v) : e.natAbs ≤ 18 := by
  have := h.a1; have := h.a2; have := h.b1; have := h.b2; have := h.c1; have := h.c2; have := h.d1; have := h.d2
  unfold rowL at he
  simp only [List.mem_cons, List.not_mem_nil, or_false] at he
  rcases he with rfl | rfl | rfl | rfl <;> omega
def spPower : Sp := fun vs H Q _ => ∃ (r : Addr) (v : Vec), vs = [.ref r] ∧ RowAt H r v ∧ v.Ok ∧ Q (.int (v.g : Nat)) H
theorem ok__law_power (W : Wd K mg) : OkD P w K mg base CX0 2 "_law_power" ["_law_row"] spPower := by
  have O__law_common := ok__law_common (P := P) (w := w) (base := base) W
  refine (fn__law_power W).ok sc__law_power (fun vs H Q E h => ?_) (fun cdv A outer s H vs Q E hr h => ?_)
  · obtain ⟨r, v, rfl, _⟩ := h
    rfl
  · obtain ⟨r, v, rfl, hr0, ho, k⟩ := h
    refine ⟨_, (pss_cons (ps_set (i := 1) sc__law_power.nd rfl (.inl rfl) pe_int)
      (pss_cons (ps_for PassesOwn.never rfl (pi_list (pv 0)) (pg_name (i := 2) sc__law_power.nd rfl (.inl rfl)) (pss_one (ps_set (i := 1) sc__law_power.nd rfl (.inl rfl) (pcall O__law_common (hr.mono (by decide)) (pa_cons (pv 1) (pa_cons (pv 2) pa_nil))))))
      (pss_one (ps_ret (pv 1))))), ?_⟩
    refine ⟨_, rfl, r, rfl, ⟨_, .of hr0⟩, ?_⟩
    refine for_list (K := K) (a := r) (xs := (rowL v).map V.int) (fun i σ H2 => H2 = H ∧ ∃ x : Option V, σ = [some (.ref r), some (.int (gl ((rowL v).take i) : Nat)), x]) ⟨rfl, none, rfl⟩ (fun i σ H2 _ ⟨e, _⟩ => by rw [e]; exact .of hr0) ?_ ?_
    · rintro i x σ H2 hi ⟨rfl, y, rfl⟩
      obtain ⟨e, he, rfl⟩ := int_get hi
      have hb := Vec.Ok.mem ho (List.mem_of_getElem? he)
      refine ⟨_, rfl, _, rfl, _, e, rfl, by omega, ?_⟩
      refine ⟨rfl, some (.int e), ?_⟩
      rw [gl_more he, Int.natAbs_natCast]
      rfl
    · rintro σ H2 ⟨rfl, y, rfl⟩
      refine ⟨_, rfl, ?_⟩
      have e : (rowL v).take ((rowL v).map V.int).length = rowL v := by rw [List.length_map, List.take_length]
      rw [e, gl_row]
      exact k
def spPair : Sp := fun vs H Q _ => ∃ (r : Addr) (π : Pl), vs = [.int π.s, .ref r] ∧ RowAt H r π.v ∧ π.v.Ok ∧ ∀ p H', Same H H' → PNum H' p π → Q (.ref p) H'
theorem zl_get {v : Vec} {i : Nat} {x y : V} (hx : ([.int 2, .int 3, .int 5, .int 7] : List V)[i]? = some x) (hy : ((rowL v).map V.int)[i]? = some y) :
    ∃ (q : Nat) (e : Int), (zl v)[i]? = some (q, e) ∧ e ∈ rowL v ∧ q ≤ 7 ∧ x = .int (q : Int) ∧ y = .int e := by
  match i, hx, hy with
  | 0, hx, hy => exact ⟨2, v.a, rfl, by simp [rowL], by decide, (Option.some.inj hx).symm, (Option.some.inj hy).symm⟩
  | 1, hx, hy => exact ⟨3, v.b, rfl, by simp [rowL], by decide, (Option.some.inj hx).symm, (Option.some.inj hy).symm⟩
  | 2, hx, hy => exact ⟨5, v.c, rfl, by simp [rowL], by decide, (Option.some.inj hx).symm, (Option.some.inj hy).symm⟩
  | 3, hx, hy => exact ⟨7, v.d, rfl, by simp [rowL], by decide, (Option.some.inj hx).symm, (Option.some.inj hy).symm⟩
  | n + 4, hx, hy => simp at hx
theorem ok__law_pair (W : Wd K mg) : OkD P w K mg base CX0 1 "_law_pair" ["_law_sign", "_law_row"] spPair := by
  refine (fn__law_pair W).ok sc__law_pair (fun vs H Q E h => ?_) (fun cdv A outer s H vs Q E hr h => ?_)
  · obtain ⟨r, π, rfl, _⟩ := h
    rfl
  · obtain ⟨r, π, rfl, hr0, ho, k⟩ := h
    refine ⟨_, (pss_cons (ps_par (i := 2) (j := 3) rfl sc__law_pair.nd rfl rfl (by decide) rfl rfl (pa_cons (pv 0) (pa_cons pe_int pa_nil)) (by rfl))
      (pss_cons (ps_for PassesOwn.never rfl (pi_zip (by rfl) (fr_zip W) (pa_cons (pe_lst (pa_cons pe_int (pa_cons pe_int (pa_cons pe_int (pa_cons pe_int pa_nil))))) (pa_cons (pv 1) pa_nil))) (pg_tup rfl (pgs_cons (pg_name (i := 4) sc__law_pair.nd rfl (.inl rfl)) (pgs_cons (pg_name (i := 5) sc__law_pair.nd rfl (.inl rfl)) pgs_nil))) (pss_one (ps_for PassesOwn.never rfl (pi_range1 rfl (fr_range W) (pa_cons (pe_callB call_abs rfl (fr_abs W) (by decide +kernel) (pa_cons (pv 5) pa_nil)) pa_nil)) (pg_name (i := 6) sc__law_pair.nd rfl (.inl rfl)) (pss_one (ps_asg (pe_ifExp (pt_cmpR op_gt (pv 5) pe_int (nomark _)) (pe_tup (pa_cons (pe_op op_mul (pv 2) (pv 4)) (pa_cons (pv 3) pa_nil))) (pe_tup (pa_cons (pv 2) (pa_cons (pe_op op_mul (pv 3) (pv 4)) pa_nil)))) (pg_tup rfl (pgs_cons (pg_name (i := 2) sc__law_pair.nd rfl (.inl rfl)) (pgs_cons (pg_name (i := 3) sc__law_pair.nd rfl (.inl rfl)) pgs_nil))))))))
      (pss_one (ps_ret (pe_tup (pa_cons (pv 2) (pa_cons (pv 3) pa_nil))))))), ?_⟩
    refine ⟨_, rfl, _, _, rfl, by show 4 ≤ sizeLine; decide, fun l hl => ⟨_, rfl, _, _, _, _, rfl, .of upd_same, .of (same_new hl _ _ hr0), ?_⟩⟩
    have sl : Same H (upd H l (.lst [.int 2, .int 3, .int 5, .int 7])) := same_new hl
    refine RZ.for_zipL (K := K) (a := l) (b := r) (xs := [.int 2, .int 3, .int 5, .int 7]) (ys := (rowL π.v).map V.int) rfl (fun i σ H2 => Same H H2 ∧ H2 l = some (.lst [.int 2, .int 3, .int 5, .int 7]) ∧
        ∃ x4 x5 x6 : Option V, σ = [some (.int π.s), some (.ref r), some (.int (π.s * (tpart ((zl π.v).take i) : Nat))), some (.int (bpart ((zl π.v).take i) : Nat)), x4, x5, x6])
      ⟨sl, upd_same, none, none, none, ?_⟩ (fun i σ H2 ⟨s2, h2, _⟩ => ⟨.of h2, .of (s2 _ _ hr0)⟩) ?_ ?_
    · show [some (V.int π.s), some (.ref r), some (.int π.s), some (.int 1), none, none, none] = [some (V.int π.s), some (.ref r), some (.int (π.s * (1 : Nat))), some (.int 1), none, none, none]
      rw [show π.s * ((1 : Nat) : Int) = π.s by omega]
    · rintro i x y T σ H2 hx hy ⟨s2, h2, x4, x5, x6, rfl⟩ hT
      obtain ⟨q, e, hz, hm, hq, rfl, rfl⟩ := zl_get hx hy
      have hb := Vec.Ok.mem ho hm
      refine ⟨T, _, rfl, .of upd_same, rfl, _, _, rfl, _, _, rfl, rfl, ?_⟩
      have s3 : Same H (upd H2 T (.tup [.int (q : Int), .int e])) := s2.trans (same_new hT)
      have h3 : (upd H2 T (.tup [.int (q : Int), .int e])) l = some (.lst [.int 2, .int 3, .int 5, .int 7]) := same_new hT _ _ h2
      refine ⟨_, rfl, _, rfl, _, rfl, by rw [abs_val]; omega, by rw [abs_val]; omega, ?_⟩
      have en : ((if e < 0 then -e else e).toNat) = e.natAbs := by rw [abs_val]; rfl
      refine for_range (lo := 0) (n := (if e < 0 then -e else e).toNat) (fun m σ H4 => Same H H4 ∧ H4 l = some (.lst [.int 2, .int 3, .int 5, .int 7]) ∧
          ∃ x6 : Option V, σ = [some (.int π.s), some (.ref r), some (.int (π.s * (tpart ((zl π.v).take i) * q ^ (if 0 < e then m else 0) : Nat))), some (.int (bpart ((zl π.v).take i) * q ^ (if 0 < e then 0 else m) : Nat)), some (.int q), some (.int e), x6])
        ⟨s3, h3, x6, ?_⟩ ?_ ?_
      · rw [show (if 0 < e then 0 else 0) = 0 by split <;> rfl, Nat.pow_zero, Nat.mul_one, Nat.mul_one]
        rfl
      · rintro m σ H4 hm ⟨s4, h4, y6, rfl⟩
        refine ⟨_, rfl, _, _, rfl, rfl, _, rfl, ?_⟩
        refine ite2D (fun c => ?_) (fun c => ?_)
        · refine ⟨_, rfl, _, rfl, _, _, rfl, rfl, .inr (sm64 (by omega) (by omega)), _, rfl, by show 2 ≤ sizeLine; decide, fun t ht => ⟨t, _, rfl, .of upd_same, rfl, _, _, rfl, _, _, rfl, rfl, ?_⟩⟩
          refine ⟨s4.trans (same_new ht), same_new ht _ _ h4, some (.int ((0 : Int) + (m : Int))), ?_⟩
          have e1 : (π.s * (tpart ((zl π.v).take i) * q ^ (if 0 < e then m else 0) : Nat)) * (q : Int) = π.s * (tpart ((zl π.v).take i) * q ^ (if 0 < e then m + 1 else 0) : Nat) := by
            rw [if_pos c, if_pos c, Nat.pow_succ, ← Nat.mul_assoc, Int.natCast_mul _ q, Int.mul_assoc]
          rw [← e1]; simp only [if_pos c]
          rfl
        · refine ⟨_, rfl, _, rfl, _, rfl, _, _, rfl, rfl, .inr (sm64 (by omega) (by omega)), by show 2 ≤ sizeLine; decide, fun t ht => ⟨t, _, rfl, .of upd_same, rfl, _, _, rfl, _, _, rfl, rfl, ?_⟩⟩
          refine ⟨s4.trans (same_new ht), same_new ht _ _ h4, some (.int ((0 : Int) + (m : Int))), ?_⟩
          have e1 : ((bpart ((zl π.v).take i) * q ^ (if 0 < e then 0 else m) : Nat) : Int) * (q : Int) = ((bpart ((zl π.v).take i) * q ^ (if 0 < e then 0 else m + 1) : Nat) : Int) := by
            rw [if_neg c, if_neg c, Nat.pow_succ, ← Nat.mul_assoc, Int.natCast_mul _ q]
          rw [← e1]; simp only [if_neg c]
          rfl
      · rintro σ H4 ⟨s4, h4, y6, rfl⟩
        refine ⟨s4, h4, some (.int q), some (.int e), y6, ?_⟩
        rw [tpart_more hz, bpart_more hz, en]
        have a1 : (if 0 < e then e.natAbs else 0) = e.toNat := by split <;> omega
        have a2 : (if 0 < e then 0 else e.natAbs) = (-e).toNat := by split <;> omega
        rw [a1, a2]
    · rintro σ H2 ⟨s2, h2, x4, x5, x6, rfl⟩
      refine ⟨_, rfl, _, rfl, by show 2 ≤ sizeLine; decide, fun p hp => ?_⟩
      refine k p _ (s2.trans (same_new hp)) ?_
      unfold PNum NumAt
      have e1 : tpart ((zl π.v).take ([.int 2, .int 3, .int 5, .int 7] : List V).length) = π.v.top := tpart_all π.v
      have e2 : bpart ((zl π.v).take ([.int 2, .int 3, .int 5, .int 7] : List V).length) = π.v.bot := bpart_all π.v
      rw [upd_same, e1, e2]
      rfl
def SmM (lo hi z : Int) : Prop := (lo ≤ z ∧ z ≤ hi) ∨ z = 0 ∨ z = 1
theorem Jk.mut {j D : Addr} {H H1 : Hp} {o : HO} (k : Jk j H H1) (h : H D = none) (n : D ≠ j) : Jk j H (upd H1 D o) := by
  refine ⟨?_, fun b u nb e => ?_⟩
  · obtain ⟨a, b, c, e⟩ := k.jug
    exact ⟨a, b, c, by rw [upd_ne n.symm]; exact e⟩
  · rw [upd_ne (ne_of_none e h)]
    exact k.kept b u nb e
def spSmall : Sp := fun vs H Q _ => ∃ (j : Addr) (lo hi : Int), vs = [.ref j, .int lo, .int hi] ∧ JugAt H j ∧ -5 ≤ lo ∧ lo ≤ hi ∧ hi ≤ 5 ∧
  ∀ (r : Addr) (v : Vec) H', Jk j H H' → RowAt H' r v → H r = none → (∀ z ∈ rowL v, SmM lo hi z) → Q (.ref r) H'
theorem four_list {l : List Int} (h : l.length = 4) : ∃ v : Vec, l = rowL v := by
  match l, h with
  | [a, b, c, d], _ => exact ⟨⟨a, b, c, d⟩, rfl⟩
theorem ok__law_small (W : Wd K mg) : OkD P w K mg base CX0 3 "_law_small" ["_law_jug_here", "_law_low", "_law_high"] spSmall := by
  have O__law_pull := ok__law_pull (P := P) (w := w) (base := base) W
  have O__law_one_of := ok__law_one_of (P := P) (w := w) (base := base) W
  refine (fn__law_small W).ok sc__law_small (fun vs H Q E h => ?_) (fun cdv A outer s H vs Q E hr h => ?_)
  · obtain ⟨j, lo, hi, rfl, _⟩ := h
    rfl
  · obtain ⟨j, lo, hi, rfl, hj, b1, b2, b3, k⟩ := h
    refine ⟨_, (pss_cons (ps_setLc (i := 3) (own := [("_law_k", 4)]) (g := gName 4) (tt := tYes) rfl sc__law_small.nd rfl rfl (sw_true rfl rfl rfl (by decide +kernel)) (pi_range1 rfl (fr_range W) (pa_cons pe_int pa_nil)) (blkOk_by (own := [("_law_k", 4)]) (N := n__law_small) (sc := defScope s__law_small) (by decide +kernel)) (fun _ _ _ _ _ => pg_name (i := 4) sc__law_small.nd rfl (Or.inl rfl)) (fun _ _ _ _ _ => pts_nil) (fun _ _ _ _ _ => (pe_ifExp (pt_cmpR op_eq (pcall O__law_pull (hr.mono (by decide)) (pa_cons (pv 0) (pa_cons pe_int pa_nil))) pe_int (nomark _)) (pe_op op_add (pv 1) (pcall O__law_pull (hr.mono (by decide)) (pa_cons (pv 0) (pa_cons (pe_op op_add (pe_op op_sub (pv 2) (pv 1)) pe_int) pa_nil)))) pe_int)))
      (pss_cons (ps_asg (pcall O__law_one_of (hr.mono (by decide)) (pa_cons (pv 0) (pa_cons (pe_lst (pa_cons pe_int (pa_cons pe_int (pa_cons pe_int (pa_cons (pv 1) (pa_cons (pv 2) pa_nil)))))) pa_nil))) (pg_sub (pv 3) (pcall O__law_pull (hr.mono (by decide)) (pa_cons (pv 0) (pa_cons pe_int pa_nil))) set_list))
      (pss_one (ps_ret (pv 3))))), ?_⟩
    refine ⟨_, rfl, by decide, by decide, fun D hD => ?_⟩
    have Dj : D ≠ j := hj.new hD
    refine lc_range (lo := 0) (n := (4 : Int).toNat) (fun i H' => Jk j H H' ∧ ∃ l : List Int, l.length = i ∧ (∀ z ∈ l, SmM lo hi z) ∧ H' D = some (.lst (l.map V.int)))
      ⟨(Jk.refl hj).new hD, [], rfl, fun z hz => absurd hz (by simp), upd_same⟩ ?_ ?_
    · rintro i H1 hi' ⟨jk, l, hl, hm, hd⟩
      have add : ∀ (z : Int) (H2 : Hp), Jk j H1 H2 → SmM lo hi z → ∃ acc, H2 D = some (.lst acc) ∧ acc.length < sizeLine ∧ (Jk j H (upd H2 D (.lst (acc ++ [V.int z]))) ∧ ∃ l : List Int, l.length = i + 1 ∧ (∀ z ∈ l, SmM lo hi z) ∧ (upd H2 D (.lst (acc ++ [V.int z]))) D = some (.lst (l.map V.int))) := by
        intro z H2 jk2 hz
        refine ⟨_, jk2.kept _ _ Dj hd, ?_, (jk.trans jk2).mut hD Dj, l ++ [z], by rw [List.length_append, hl]; rfl, ?_, ?_⟩
        · rw [List.length_map, hl]
          have : (4 : Int).toNat = 4 := rfl
          exact small1000 (by omega)
        · intro y hy
          rcases List.mem_append.mp hy with h | h
          · exact hm y h
          · rw [List.mem_singleton.mp h]; exact hz
        · rw [upd_same]
          simp
      refine ⟨rfl, ?_⟩
      refine ⟨_, rfl, j, 2, rfl, jk.jug, by decide, by decide, fun r H2 r0 r1 jk2 fr2 => ⟨rfl, _, rfl, ?_⟩⟩
      refine ite2D (fun c => ?_) (fun c => ?_)
      · refine ⟨_, rfl, _, rfl, _, rfl, _, rfl, _, _, rfl, rfl, _, _, rfl, rfl, j, _, rfl, jk2.jug, by omega, by omega, fun r2 H3 s0 s1 jk3 fr3 => ⟨_, _, rfl, rfl, ?_⟩⟩
        exact add _ _ (jk2.trans jk3) (.inl ⟨by omega, by omega⟩)
      · exact add _ _ jk2 (.inr (.inl rfl))
    · rintro H1 ⟨jk, l, hl, hm, hd⟩
      have hl4 : l.length = 4 := hl
      refine ⟨_, rfl, _, rfl, _, rfl, by show 5 ≤ sizeLine; decide, fun q hq => ?_⟩
      have qj : q ≠ j := jk.jug.new hq
      refine ⟨j, q, _, rfl, (Jk.refl jk.jug |>.new hq).jug, upd_same, qj, by show 0 < 5; decide, by show 5 ≤ 100; decide, fun x hx H2 jk2 fr2 => ?_⟩
      have hx' : ∃ z : Int, x = .int z ∧ SmM lo hi z := by
        simp only [List.mem_cons, List.not_mem_nil, or_false] at hx
        rcases hx with rfl | rfl | rfl | rfl | rfl
        · exact ⟨1, rfl, .inr (.inr rfl)⟩
        · exact ⟨1, rfl, .inr (.inr rfl)⟩
        · exact ⟨0, rfl, .inr (.inl rfl)⟩
        · exact ⟨lo, rfl, .inl ⟨by omega, by omega⟩⟩
        · exact ⟨hi, rfl, .inl ⟨by omega, by omega⟩⟩
      obtain ⟨z, rfl, hz⟩ := hx'
      refine ⟨_, rfl, _, rfl, j, 4, rfl, jk2.jug, by decide, by decide, fun r H3 r0 r1 jk3 fr3 => ?_⟩
      obtain ⟨n, rfl⟩ : ∃ n : Nat, r = n := ⟨r.toNat, by omega⟩
      have hn : n < (l.map V.int).length := by rw [List.length_map]; omega
      have kp : Jk j H1 H3 := ((Jk.refl jk.jug).new hq |>.trans jk2).trans jk3
      have hd3 := kp.kept _ _ Dj hd
      refine ⟨D, _, _, n, rfl, rfl, hd3, Evl.ixN_nat hn, ?_⟩
      have es : (l.map V.int).set n (V.int z) = (l.set n z).map V.int := by rw [List.map_set]
      rw [es]
      obtain ⟨v, hv⟩ := four_list (l := l.set n z) (by rw [List.length_set]; exact hl4)
      refine ⟨_, rfl, k D v _ ((jk.trans kp).mut hD Dj) ?_ hD ?_⟩
      · unfold RowAt
        rw [upd_same, hv]
      · intro y hy
        rw [← hv] at hy
        rcases List.mem_or_eq_of_mem_set hy with h | h
        · exact hm y h
        · rw [h]; exact hz
end
end KB
end
section
set_option Elab.async false
set_option linter.all false
set_option maxRecDepth 100000
set_option maxHeartbeats 4000000
set_option exponentiation.threshold 100000
/-! data that is compared; the law's plans and their answers -/
namespace KB
open PySem PySem.Spec PyProof.Rows L2 KM
/-! ### shapes of data -/
structure Fits (n : Nat) (d : PyData) : Prop where
  lay : d.canLay0 = true
  dep : d.depth ≤ n
theorem fits_all {n : Nat} : ∀ {ds : List PyData}, (∀ d ∈ ds, Fits n d) → PyData.canLayAll0 ds = true ∧ PyData.depthAll ds ≤ n
  | [], _ => ⟨rfl, Nat.zero_le _⟩
  | d :: ds, h => by
    obtain ⟨h1, h2⟩ := fits_all fun e he => h e (List.mem_cons_of_mem _ he)
    have hd := h d List.mem_cons_self
    refine ⟨?_, ?_⟩
    · show (d.canLay0 && PyData.canLayAll0 ds) = true
      rw [hd.lay, h1]
      rfl
    · show max d.depth (PyData.depthAll ds) ≤ n
      exact Nat.max_le.mpr ⟨hd.dep, h2⟩
theorem fits_list {n : Nat} {ds : List PyData} (h : ∀ d ∈ ds, Fits n d) : Fits (n + 1) (.list ds) := by
  obtain ⟨h1, h2⟩ := fits_all h
  exact ⟨h1, Nat.succ_le_succ h2⟩
theorem fits_tuple {n : Nat} {ds : List PyData} (h : ∀ d ∈ ds, Fits n d) : Fits (n + 1) (.tuple ds) := by
  obtain ⟨h1, h2⟩ := fits_all h
  exact ⟨h1, Nat.succ_le_succ h2⟩
theorem fits_int (i : Int) : Fits 0 (.int i) := ⟨rfl, Nat.le_refl _⟩
theorem fits_bool (b : Bool) : Fits 0 (.bool b) := ⟨rfl, Nat.le_refl _⟩
theorem fits_none : Fits 0 .none := ⟨rfl, Nat.le_refl _⟩
theorem fits_str {x : Str} (h : PyData.canLay0 (.str x) = true) : Fits 0 (.str x) := ⟨h, Nat.le_refl _⟩
theorem Fits.up {n m : Nat} {d : PyData} (h : Fits n d) (l : n ≤ m) : Fits m d := ⟨h.lay, Nat.le_trans h.dep l⟩
theorem Fits.shaped {n : Nat} {d : PyData} (h : Fits n d) (l : n ≤ 64) : SeqAt.shaped d = true := by
  unfold SeqAt.shaped
  rw [h.lay, decide_eq_true (Nat.le_trans h.dep l)]
  rfl
theorem dp_ints {K : PySem.W.Frag} {H : Hp} : ∀ l : List Int, DpAll K H (l.map V.int) (l.map PyData.int)
  | [] => .nil
  | i :: l => .cons (.int i) (dp_ints l)
theorem dp_bools {K : PySem.W.Frag} {H : Hp} : ∀ l : List Bool, DpAll K H (l.map V.bl) (l.map PyData.bool)
  | [] => .nil
  | i :: l => .cons (.bl i) (dp_bools l)
theorem fits_ints (l : List Int) : ∀ d ∈ l.map PyData.int, Fits 0 d := fun d hd => by
  obtain ⟨i, _, rfl⟩ := List.mem_map.mp hd
  exact fits_int i
theorem fits_bools (l : List Bool) : ∀ d ∈ l.map PyData.bool, Fits 0 d := fun d hd => by
  obtain ⟨i, _, rfl⟩ := List.mem_map.mp hd
  exact fits_bool i
theorem eqv_nil (ds : List PyData) : PyData.eqv (.list ds) (.list []) = ds.isEmpty := by
  show PyData.eqvAll ds [] = ds.isEmpty
  cases ds <;> rfl
section
variable {P : Program} {w : World} {K : PySem.W.Frag} {mg : Str → Option Value} {base : Heap}
def Vec.times (m : Int) (v : Vec) : Vec := ⟨m * v.a, m * v.b, m * v.c, m * v.d⟩
theorem row_times (m : Int) (v : Vec) : rowL (Vec.times m v) = (rowL v).map fun e => m * e := rfl
theorem small_mem {v : Vec} {lo hi : Int} (h : ∀ z ∈ rowL v, SmM lo hi z) : SmM lo hi v.a ∧ SmM lo hi v.b ∧ SmM lo hi v.c ∧ SmM lo hi v.d :=
  ⟨h _ (by simp [rowL]), h _ (by simp [rowL]), h _ (by simp [rowL]), h _ (by simp [rowL])⟩
theorem mul_in {m z : Int} (h0 : 0 ≤ m) (hz : SmM (-1) 1 z) : -m ≤ m * z ∧ m * z ≤ m := by
  have hz' : z = -1 ∨ z = 0 ∨ z = 1 := by
    rcases hz with ⟨a, b⟩ | a | a <;> omega
  rcases hz' with rfl | rfl | rfl <;> omega
theorem ok_times {m : Int} {v : Vec} (h0 : 0 ≤ m) (h1 : m ≤ 12) (h : ∀ z ∈ rowL v, SmM (-1) 1 z) : (Vec.times m v).Ok := by
  obtain ⟨ha, hb, hc, hd⟩ := small_mem h
  have a := mul_in h0 ha; have b := mul_in h0 hb; have c := mul_in h0 hc; have d := mul_in h0 hd
  unfold Vec.times
  constructor <;> dsimp only <;> omega
theorem ok_zero : (⟨0, 0, 0, 0⟩ : Vec).Ok := by constructor <;> decide
def spPlan : Sp := fun vs H Q _ => ∃ j : Addr, vs = [.ref j] ∧ JugAt H j ∧ ∀ (p : Addr) (π : Pl) H', Jk j H H' → PlanAt H' p π → π.Ok → H p = none → Q (.ref p) H'
theorem sign_of {x : V} (h : x ∈ ([.int 1, .int 1, .int (-1)] : List V)) : ∃ s : Int, x = .int s ∧ (s = 1 ∨ s = -1) := by
  simp only [List.mem_cons, List.not_mem_nil, or_false] at h
  rcases h with rfl | rfl | rfl
  · exact ⟨1, rfl, .inl rfl⟩
  · exact ⟨1, rfl, .inl rfl⟩
  · exact ⟨-1, rfl, .inr rfl⟩
theorem Jk.free {j p : Addr} {H H1 : Hp} (k : Jk j H H1) (hj : JugAt H j) (h : H1 p = none) : H p = none := by
  cases e : H p with
  | none => rfl
  | some o =>
    by_cases n : p = j
    · obtain ⟨a, b, c, e1⟩ := k.jug
      rw [n, e1] at h
      cases h
    · rw [k.kept _ _ n e] at h
      cases h
theorem ok__law_plan (W : Wd K mg) : OkD P w K mg base CX0 4 "_law_plan" ["_law_jug_here"] spPlan := by
  have O__law_pull := ok__law_pull (P := P) (w := w) (base := base) W
  have O__law_one_of := ok__law_one_of (P := P) (w := w) (base := base) W
  have O__law_small := ok__law_small (P := P) (w := w) (base := base) W
  refine (fn__law_plan W).ok sc__law_plan (fun vs H Q E h => ?_) (fun cdv A outer s H vs Q E hr h => ?_)
  · obtain ⟨j, rfl, _⟩ := h
    rfl
  · obtain ⟨j, rfl, hj, k⟩ := h
    refine ⟨_, (pss_cons (ps_par (i := 1) (j := 2) rfl sc__law_plan.nd rfl rfl (by decide) rfl rfl (pa_cons (pcall O__law_pull (hr.mono (by decide)) (pa_cons (pv 0) (pa_cons pe_int pa_nil))) (pa_cons (pcall O__law_one_of (hr.mono (by decide)) (pa_cons (pv 0) (pa_cons (pe_lst (pa_cons pe_int (pa_cons pe_int (pa_cons (pe_un un_neg pe_int) pa_nil)))) pa_nil))) pa_nil)) (by rfl))
      (pss_cons (ps_if (pt_cmpR op_eq (pv 1) pe_int (nomark _)) (pss_one (ps_ret (pe_tup (pa_cons (pv 2) (pa_cons (pe_lst (pa_cons pe_int (pa_cons pe_int (pa_cons pe_int (pa_cons pe_int pa_nil))))) pa_nil))))) pss_nil)
      (pss_cons (ps_if (pt_cmpR op_lt (pv 1) pe_int (nomark _)) (pss_cons (ps_set (i := 3) sc__law_plan.nd rfl (.inr rfl) (pcall O__law_one_of (hr.mono (by decide)) (pa_cons (pv 0) (pa_cons (pe_lst (pa_cons pe_int (pa_cons pe_int (pa_cons pe_int (pa_cons pe_int (pa_cons pe_int (pa_cons pe_int (pa_cons pe_int (pa_cons pe_int (pa_cons pe_int (pa_cons pe_int pa_nil))))))))))) pa_nil))))
      (pss_one (ps_ret (pe_tup (pa_cons (pv 2) (pa_cons (pe_lc (own := [("_law_each", 5)]) (g := gName 5) (tt := tYes) rfl sc__law_plan.nd (pi_list (pcall O__law_small (hr.mono (by decide)) (pa_cons (pv 0) (pa_cons (pe_un un_neg pe_int) (pa_cons pe_int pa_nil))))) (blkOk_by (own := [("_law_each", 5)]) (N := n__law_plan) (sc := defScope s__law_plan) (by decide +kernel)) (fun _ _ _ _ _ => pg_name (i := 5) sc__law_plan.nd rfl (Or.inl rfl)) (fun _ _ _ _ _ => pts_nil) (fun _ _ _ _ _ => (pe_op op_mul (pv 3) (pv 5)))) pa_nil)))))) pss_nil)
      (pss_cons (ps_if (pt_cmpR op_eq (pv 1) pe_int (nomark _)) (pss_cons (ps_set (i := 3) sc__law_plan.nd rfl (.inr rfl) (pcall O__law_one_of (hr.mono (by decide)) (pa_cons (pv 0) (pa_cons (pe_lst (pa_cons pe_int (pa_cons pe_int (pa_cons pe_int pa_nil)))) pa_nil))))
      (pss_cons (ps_setLc (i := 4) (own := [("_law_each", 5)]) (g := gName 5) (tt := tYes) rfl sc__law_plan.nd rfl rfl (sw_true rfl rfl rfl (by decide +kernel)) (pi_list (pcall O__law_small (hr.mono (by decide)) (pa_cons (pv 0) (pa_cons (pe_un un_neg pe_int) (pa_cons pe_int pa_nil))))) (blkOk_by (own := [("_law_each", 5)]) (N := n__law_plan) (sc := defScope s__law_plan) (by decide +kernel)) (fun _ _ _ _ _ => pg_name (i := 5) sc__law_plan.nd rfl (Or.inl rfl)) (fun _ _ _ _ _ => pts_nil) (fun _ _ _ _ _ => (pe_op op_mul (pv 3) (pv 5))))
      (pss_one (ps_ret (pe_tup (pa_cons (pe_un un_neg pe_int) (pa_cons (pe_op op_cat (pe_lst (pa_cons (pe_op op_add (pe_ix ix_list (pv 4) pe_int (fun _ _ => rfl)) (pe_ifExp (pt_cmpR op_eq (pv 3) pe_int (nomark _)) pe_int pe_int)) pa_nil)) (pe_slice sl_list (pv 4) (po_some pe_int) po_none)) pa_nil))))))) pss_nil)
      (pss_one (ps_ret (pe_tup (pa_cons (pv 2) (pa_cons (pcall O__law_small (hr.mono (by decide)) (pa_cons (pv 0) (pa_cons (pe_un un_neg pe_int) (pa_cons pe_int pa_nil)))) pa_nil))))))))), ?_⟩
    -- way, sign
    refine ⟨_, rfl, j, 7, rfl, hj, by decide, by decide, fun way H1 w0 w1 jk1 fr1 => ?_⟩
    refine ⟨_, rfl, _, rfl, by show 3 ≤ sizeLine; decide, fun q hq => ?_⟩
    have jk2 := jk1.new (o := .lst [.int 1, .int 1, .int (-1)]) hq
    refine ⟨j, q, _, rfl, jk2.jug, upd_same, jk1.jug.new hq, by show 0 < 3; decide, by show 3 ≤ 100; decide, fun x hx H2 jk3 fr2 => ?_⟩
    obtain ⟨sg, rfl, hs⟩ := sign_of hx
    have jk := jk2.trans jk3
    refine ⟨_, _, rfl, ?_⟩
    refine ⟨_, rfl, rfl, _, rfl, ?_⟩
    refine ite2D (fun c => ?_) (fun c => ?_)
    · refine ⟨_, rfl, by show 4 ≤ sizeLine; decide, fun r hr => ⟨by show 2 ≤ sizeLine; decide, fun p hp => ?_⟩⟩
      have jk4 := (jk.new (o := .lst [.int 0, .int 0, .int 0, .int 0]) hr).new (o := .tup [.int sg, .ref r]) hp
      refine k p ⟨sg, ⟨0, 0, 0, 0⟩⟩ _ jk4 ⟨r, same_new hp _ _ upd_same, upd_same⟩ ⟨hs, ok_zero⟩ ?_
      exact (jk.new (o := .lst [.int 0, .int 0, .int 0, .int 0]) hr).free hj hp
    · refine ⟨_, rfl, _, _, rfl, rfl, _, rfl, ?_⟩
      refine ite2D (fun d => ?_) (fun d => ?_)
      · -- a power
        refine ⟨_, rfl, by show 10 ≤ sizeLine; decide, fun q2 hq2 => ?_⟩
        have jk4 := jk.new (o := .lst [.int 2, .int 2, .int 3, .int 4, .int 5, .int 6, .int 8, .int 9, .int 10, .int 12]) hq2
        refine ⟨j, q2, _, rfl, jk4.jug, upd_same, jk.jug.new hq2, by show 0 < 10; decide, by show 10 ≤ 100; decide, fun x hx H3 jk5 fr3 => ?_⟩
        obtain ⟨m, rfl, m0, m1⟩ : ∃ m : Int, x = .int m ∧ 0 ≤ m ∧ m ≤ 12 := by
          simp only [List.mem_cons, List.not_mem_nil, or_false] at hx
          rcases hx with rfl | rfl | rfl | rfl | rfl | rfl | rfl | rfl | rfl | rfl <;> exact ⟨_, rfl, by decide, by decide⟩
        have jk6 := jk4.trans jk5
        refine ⟨_, rfl, _, rfl, _, rfl, j, _, _, rfl, jk6.jug, by decide, by decide, by decide, fun r v H4 jk7 hrow hrn hm => ⟨r, rfl, ⟨_, .of hrow⟩, fun D hD => ?_⟩⟩
        have jk8 := jk6.trans jk7
        refine lc_list (K := K) (a := r) (xs := (rowL v).map V.int) (fun i H' => Same H4 H' ∧ H' D = some (.lst ((((rowL v).take i).map fun e => m * e).map V.int))) ⟨same_new hD, upd_same⟩ (fun i H' _ h => .of (h.1 _ _ hrow)) ?_ ?_
        · rintro i y H' hi ⟨s2, hd⟩
          obtain ⟨z, hz, rfl⟩ := int_get hi
          refine ⟨rfl, _, rfl, _, rfl, _, _, rfl, rfl, .inl (sm64 (by omega) (by omega)), _, hd, ?_, same_mut s2 hD, ?_⟩
          · have e4 : (rowL v).length = 4 := rfl
            rw [List.length_map, List.length_map, List.length_take]
            exact small1000 (by omega)
          · rw [upd_same, take_one hz]
            simp
        · rintro H' ⟨s2, hd⟩
          rw [List.length_map, List.take_length, ← row_times] at hd
          refine ⟨by show 2 ≤ sizeLine; decide, fun p hp => ?_⟩
          have s3 := s2.trans (same_new (o := .tup [.int sg, .ref D]) hp)
          exact k p ⟨sg, Vec.times m v⟩ _ (jk8.same s3) ⟨D, same_new hp _ _ hd, upd_same⟩ ⟨hs, ok_times m0 m1 hm⟩ ((jk8.same s2).free hj hp)
      · refine ⟨_, rfl, rfl, _, rfl, ?_⟩
        refine ite2D (fun e => ?_) (fun e => ?_)
        · -- a four
          refine ⟨_, rfl, by show 3 ≤ sizeLine; decide, fun q2 hq2 => ?_⟩
          have jk4 := jk.new (o := .lst [.int 4, .int 4, .int 12]) hq2
          refine ⟨j, q2, _, rfl, jk4.jug, upd_same, jk.jug.new hq2, by show 0 < 3; decide, by show 3 ≤ 100; decide, fun x hx H3 jk5 fr3 => ?_⟩
          obtain ⟨m, rfl, m0⟩ : ∃ m : Int, x = .int m ∧ (m = 4 ∨ m = 12) := by
            simp only [List.mem_cons, List.not_mem_nil, or_false] at hx
            rcases hx with rfl | rfl | rfl
            · exact ⟨4, rfl, .inl rfl⟩
            · exact ⟨4, rfl, .inl rfl⟩
            · exact ⟨12, rfl, .inr rfl⟩
          have jk6 := jk4.trans jk5
          refine ⟨_, rfl, _, rfl, j, _, _, rfl, jk6.jug, by decide, by decide, by decide, fun r v H4 jk7 hrow hrn hm => ⟨r, rfl, ⟨_, .of hrow⟩, fun D hD => ?_⟩⟩
          have jk8 := jk6.trans jk7
          refine lc_list (K := K) (a := r) (xs := (rowL v).map V.int) (fun i H' => Same H4 H' ∧ H' D = some (.lst ((((rowL v).take i).map fun e => m * e).map V.int))) ⟨same_new hD, upd_same⟩ (fun i H' _ h => .of (h.1 _ _ hrow)) ?_ ?_
          · rintro i y H' hi ⟨s2, hd⟩
            obtain ⟨z, hz, rfl⟩ := int_get hi
            refine ⟨rfl, _, rfl, _, rfl, _, _, rfl, rfl, .inl (sm64 (by omega) (by omega)), _, hd, ?_, same_mut s2 hD, ?_⟩
            · have e4 : (rowL v).length = 4 := rfl
              rw [List.length_map, List.length_map, List.length_take]
              exact small1000 (by omega)
            · rw [upd_same, take_one hz]
              simp
          · rintro H' ⟨s2, hd⟩
            rw [List.length_map, List.take_length, ← row_times] at hd
            have hd' : H' D = some (.lst [.int (m * v.a), .int (m * v.b), .int (m * v.c), .int (m * v.d)]) := hd
            -- (-1, [found[0] + ..] + found[1:])
            have fin : ∀ (t : Int), t = (if m = 4 then 2 else 6) → ∀ q5, H' q5 = none → ∀ q6, (upd H' q5 (.lst [.int (m * v.a + t)])) q6 = none → ∀ q7, (upd (upd H' q5 (.lst [.int (m * v.a + t)])) q6 (.lst [.int (m * v.b), .int (m * v.c), .int (m * v.d)])) q7 = none →
                ∀ p, (upd (upd (upd H' q5 (.lst [.int (m * v.a + t)])) q6 (.lst [.int (m * v.b), .int (m * v.c), .int (m * v.d)])) q7 (.lst [.int (m * v.a + t), .int (m * v.b), .int (m * v.c), .int (m * v.d)])) p = none →
                Q (.ref p) (upd (upd (upd (upd H' q5 (.lst [.int (m * v.a + t)])) q6 (.lst [.int (m * v.b), .int (m * v.c), .int (m * v.d)])) q7 (.lst [.int (m * v.a + t), .int (m * v.b), .int (m * v.c), .int (m * v.d)])) p (.tup [.int (-1), .ref q7])) := by
              intro t ht q5 h5 q6 h6 q7 h7 p hp
              have j5 := ((jk8.same s2).new (o := .lst [.int (m * v.a + t)]) h5)
              have j6 := j5.new (o := .lst [.int (m * v.b), .int (m * v.c), .int (m * v.d)]) h6
              have j7 := j6.new (o := .lst [.int (m * v.a + t), .int (m * v.b), .int (m * v.c), .int (m * v.d)]) h7
              refine k p ⟨-1, ⟨m * v.a + t, m * v.b, m * v.c, m * v.d⟩⟩ _ (j7.new hp) ⟨q7, same_new hp _ _ upd_same, upd_same⟩ ⟨.inr rfl, ?_⟩ (j7.free hj hp)
              have m0' : (0 : Int) ≤ m := by rcases m0 with z | z <;> omega
              have o := ok_times m0' (by rcases m0 with z | z <;> omega) hm
              obtain ⟨ha, _⟩ := small_mem hm
              have hb := mul_in m0' ha
              have ht2 : t = 2 ∧ m = 4 ∨ t = 6 ∧ m = 12 := by
                rcases m0 with z | z
                · rw [if_pos z] at ht; exact .inl ⟨ht, z⟩
                · rw [if_neg (by omega)] at ht; exact .inr ⟨ht, z⟩
              exact ⟨by dsimp only; omega, by dsimp only; omega, o.b1, o.b2, o.c1, o.c2, o.d1, o.d2⟩
            refine ⟨_, rfl, _, rfl, _, _, _, _, rfl, rfl, .of hd', atI_nat (j := 0) rfl, _, rfl, rfl, _, rfl, ?_⟩
            refine ite2D (fun g => ?_) (fun g => ?_)
            · have ht : (2 : Int) = (if m = 4 then 2 else 6) := by rw [if_pos (by injection g)]
              refine ⟨_, _, rfl, rfl, by show 1 ≤ sizeLine; decide, fun q5 h5 => ⟨_, rfl, _, rfl, D, _, rfl, .of (same_new h5 _ _ hd'), fun q6 h6 => ⟨q5, q6, _, _, rfl, rfl, same_new h6 _ _ upd_same, upd_same, by show 4 ≤ sizeLine; decide, fun q7 h7 => ⟨by show 2 ≤ sizeLine; decide, fun p hp => ?_⟩⟩⟩⟩
              exact fin _ ht q5 h5 q6 h6 q7 h7 p hp
            · have ht : (6 : Int) = (if m = 4 then 2 else 6) := by rw [if_neg (fun z => g (by rw [z]))]
              refine ⟨_, _, rfl, rfl, by show 1 ≤ sizeLine; decide, fun q5 h5 => ⟨_, rfl, _, rfl, D, _, rfl, .of (same_new h5 _ _ hd'), fun q6 h6 => ⟨q5, q6, _, _, rfl, rfl, same_new h6 _ _ upd_same, upd_same, by show 4 ≤ sizeLine; decide, fun q7 h7 => ⟨by show 2 ≤ sizeLine; decide, fun p hp => ?_⟩⟩⟩⟩
              exact fin _ ht q5 h5 q6 h6 q7 h7 p hp
        · -- any
          refine ⟨_, rfl, _, rfl, _, rfl, j, _, _, rfl, jk.jug, by decide, by decide, by decide, fun r v H3 jk4 hrow hrn hm => ⟨by show 2 ≤ sizeLine; decide, fun p hp => ?_⟩⟩
          have jk5 := jk.trans jk4
          refine k p ⟨sg, v⟩ _ (jk5.new hp) ⟨r, same_new hp _ _ hrow, upd_same⟩ ⟨hs, ?_⟩ (jk5.free hj hp)
          obtain ⟨ha, hb, hc, hd⟩ := small_mem hm
          have key : ∀ z, SmM (-5) 5 z → -5 ≤ z ∧ z ≤ 5 := fun z hz => by rcases hz with a | a | a <;> omega
          have a := key _ ha; have b := key _ hb; have c := key _ hc; have d := key _ hd
          constructor <;> dsimp only <;> omega
end
end KB
end
section
set_option Elab.async false
set_option linter.all false
set_option maxRecDepth 100000
set_option maxHeartbeats 4000000
set_option exponentiation.threshold 100000
/-! the law's answers about a plan -/
namespace KM
theorem four_filter (v : Vec) : ((rowL v.quart).filter fun e => decide (e % 4 ≠ 0)).isEmpty = v.isFour := by
  rw [Bool.eq_iff_iff, List.isEmpty_iff, List.filter_eq_nil_iff]
  unfold rowL Vec.isFour
  rw [Bool.and_eq_true, Bool.and_eq_true, Bool.and_eq_true, beq_iff_eq, beq_iff_eq, beq_iff_eq, beq_iff_eq]
  constructor
  · intro h
    have h1 := h v.quart.a (by simp)
    have h2 := h v.quart.b (by simp)
    have h3 := h v.quart.c (by simp)
    have h4 := h v.quart.d (by simp)
    have hb : v.quart.b = v.b := rfl
    have hc : v.quart.c = v.c := rfl
    have hd : v.quart.d = v.d := rfl
    rw [hb] at h2
    rw [hc] at h3
    rw [hd] at h4
    simp only [ne_eq, decide_not, Bool.not_eq_true', decide_eq_false_iff_not, Decidable.not_not] at h1 h2 h3 h4
    exact ⟨h1, h2, h3, h4⟩
  · rintro ⟨h1, h2, h3, h4⟩ e he
    have hb : v.quart.b = v.b := rfl
    have hc : v.quart.c = v.c := rfl
    have hd : v.quart.d = v.d := rfl
    simp only [List.mem_cons, List.not_mem_nil, or_false] at he
    rw [hb, hc, hd] at he
    rcases he with rfl | rfl | rfl | rfl <;> simp [*]
theorem primesL_sub {g : Nat} (h : g < 19) (h0 : 0 < g) (s : Int) : kpr s g = primesL.filter fun p => decide (g % p = 0) && (decide (0 < s) || decide (2 < p)) := by
  unfold kpr
  rw [pdiv_tab g h h0, List.filter_filter]
  congr 1
  funext p
  rw [Bool.and_comm]
end KM
namespace KB
open PySem PySem.Spec PyProof.Rows L2 KM
section
variable {P : Program} {w : World} {K : PySem.W.Frag} {mg : Str → Option Value} {base : Heap}
def spLFour : Sp := fun vs H Q _ => ∃ (p : Addr) (π : Pl), vs = [.ref p] ∧ PlanAt H p π ∧ ∀ H', Same H H' → Q (.bl π.four) H'
theorem ok__law_is_four (W : Wd K mg) : OkD P w K mg base CX0 1 "_law_is_four" ["_law_plan_here"] spLFour := by
  refine (fn__law_is_four W).ok sc__law_is_four (fun vs H Q E h => ?_) (fun cdv A outer s H vs Q E hr h => ?_)
  · obtain ⟨p, π, rfl, _⟩ := h
    rfl
  · obtain ⟨p, π, rfl, ⟨r, hrow, hp⟩, k⟩ := h
    have hT : SqT K H p [.int π.s, .ref r] := .of hp
    have hL : SqL K H r [.int π.v.a, .int π.v.b, .int π.v.c, .int π.v.d] := .of hrow
    refine ⟨_, (pss_cons (ps_set (i := 1) sc__law_is_four.nd rfl (.inl rfl) (pe_op op_cat (pe_lst (pa_cons (pe_op op_sub (pe_ix ix_list (pe_ix ix_tup (pv 0) pe_int (fun _ _ => rfl)) pe_int (fun _ _ => rfl)) pe_int) pa_nil)) (pe_slice sl_list (pe_ix ix_tup (pv 0) pe_int (fun _ _ => rfl)) (po_some pe_int) po_none)))
      (pss_one (ps_ret (pe_and (pe_cmpR op_lt (pe_ix ix_tup (pv 0) pe_int (fun _ _ => rfl)) pe_int (nomark _)) (pe_one (pe_cmpR (op_eqD hr.units) (pe_lc (own := [("_law_each", 2)]) (g := gName 2) rfl sc__law_is_four.nd (pi_list (pv 1)) (blkOk_by (own := [("_law_each", 2)]) (N := n__law_is_four) (sc := defScope s__law_is_four) (by decide +kernel)) (fun _ _ _ _ _ => pg_name (i := 2) sc__law_is_four.nd rfl (Or.inl rfl)) (fun _ _ _ _ _ => (pts_one (pt_cmpR op_ne (pe_op op_mod (pe_callTy call_int1 rfl (fr_int W) (by decide +kernel) (pa_cons (pv 2) pa_nil)) pe_int) pe_int (nomark _)))) (fun _ _ _ _ _ => (pv 2))) (pe_lst pa_nil) (nomark _))))))), ?_⟩
    refine ⟨_, rfl, _, _, _, _, rfl, rfl, hT, atI_nat (j := 1) rfl, _, _, _, _, rfl, rfl, hL, atI_nat (j := 0) rfl, _, _, rfl, rfl, by show 1 ≤ sizeLine; decide, fun q5 h5 => ?_⟩
    refine ⟨_, rfl, _, _, _, _, rfl, rfl, .of (same_new h5 _ _ hp), atI_nat (j := 1) rfl, _, rfl, r, _, rfl, .of (same_new h5 _ _ hrow), fun q6 h6 => ?_⟩
    refine ⟨q5, q6, _, _, rfl, rfl, same_new h6 _ _ upd_same, upd_same, by show 4 ≤ sizeLine; decide, fun q7 h7 => ?_⟩
    have sm := ((same_new (o := .lst [.int (π.v.a - 2)]) h5).trans (same_new (o := .lst [.int π.v.b, .int π.v.c, .int π.v.d]) h6)).trans (same_new (o := .lst ((rowL π.v.quart).map V.int)) h7)
    refine ⟨_, rfl, _, _, _, _, rfl, rfl, .of (sm _ _ hp), atI_nat (j := 0) rfl, _, _, rfl, rfl, _, rfl, ?_⟩
    unfold Pl.four at k
    refine ite2D (fun c => ?_) (fun c => ?_)
    · rw [decide_eq_true c, Bool.true_and] at k
      refine ⟨_, rfl, q7, rfl, ⟨_, .of upd_same⟩, fun D hD => ?_⟩
      refine lc_list (K := K) (a := q7) (xs := (rowL π.v.quart).map V.int) (fun i H' => Same (upd (upd (upd H q5 (.lst [.int (π.v.a - 2)])) q6 (.lst [.int π.v.b, .int π.v.c, .int π.v.d])) q7 (.lst ((rowL π.v.quart).map V.int))) H' ∧ H' D = some (.lst ((((rowL π.v.quart).take i).filter fun e => decide (e % 4 ≠ 0)).map V.int)))
        ⟨same_new hD, upd_same⟩ (fun i H' _ h => .of (h.1 _ _ upd_same)) ?_ ?_
      · rintro i y H' hi ⟨s2, hd⟩
        obtain ⟨z, hz, rfl⟩ := int_get hi
        refine ⟨rfl, _, rfl, .inl ⟨z, rfl, _, _, rfl, rfl, (by show (0 : Int) < 4; decide), rfl, _, rfl, ?_⟩⟩
        refine ite2N (fun e => ?_) (fun e => ?_)
        · have e' : decide (z % 4 ≠ 0) = true := decide_eq_true fun q => e (by show V.int (z % 4) = V.int 0; rw [q])
          refine ⟨_, rfl, _, hd, ?_, same_mut s2 hD, ?_⟩
          · rw [List.length_map]
            exact small1000 (Nat.le_trans (filt_len _ _ _) (by show 4 ≤ 1000; decide))
          · rw [upd_same, filt_yes hz e']
            simp
        · have e' : decide (z % 4 ≠ 0) = false := decide_eq_false fun q => q (by have e2 : V.int (z % 4) = V.int 0 := e; injection e2)
          refine ⟨s2, ?_⟩
          rw [filt_no hz e']
          exact hd
      · rintro H' ⟨s2, hd⟩
        rw [List.length_map, List.take_length] at hd
        refine ⟨by show 0 ≤ sizeLine; decide, fun q8 h8 => ?_⟩
        refine ⟨_, _, .lst (.of (same_new h8 _ _ hd)) (dp_ints _), .lst (.of upd_same) .nil, (fits_list (fits_ints _)).shaped (by decide), (fits_list (n := 0) (ds := []) (fun d hd => absurd hd (by simp))).shaped (by decide), ?_⟩
        rw [eqv_nil]
        have ee : (((rowL π.v.quart).filter fun e => decide (e % 4 ≠ 0)).map PyData.int).isEmpty = π.v.isFour := by
          rw [← four_filter, List.isEmpty_map]
        rw [ee]
        exact k _ ((sm.trans s2).trans (same_new h8))
    · rw [decide_eq_false c, Bool.false_and] at k
      exact k _ sm
def spLSplit : Sp := fun vs H Q _ => ∃ (p : Addr) (π : Pl) (n : Nat), vs = [.ref p, .int n] ∧ PlanAt H p π ∧ π.Ok ∧ 1 ≤ n ∧ n ≤ 1000000000000000000000000000000 ∧ ∀ H', Same H H' → Q (.bl (π.split n)) H'
theorem ok__law_splits (W : Wd K mg) : OkD P w K mg base CX0 3 "_law_splits" ["_law_plan_here", "_law_upto"] spLSplit := by
  have O__law_common := ok__law_common (P := P) (w := w) (base := base) W
  have O__law_power := ok__law_power (P := P) (w := w) (base := base) W
  have O__law_is_four := ok__law_is_four (P := P) (w := w) (base := base) W
  refine (fn__law_splits W).ok sc__law_splits (fun vs H Q E h => ?_) (fun cdv A outer s H vs Q E hr h => ?_)
  · obtain ⟨p, π, n, rfl, _⟩ := h
    rfl
  · obtain ⟨p, π, n, rfl, hpl, ho, hn, hn2, k⟩ := h
    obtain ⟨r, hrow, hp⟩ := id hpl
    have hT : SqT K H p [.int π.s, .ref r] := .of hp
    have hg := ho.v.g_le
    refine ⟨_, (pss_cons (ps_set (i := 2) sc__law_splits.nd rfl (.inl rfl) (pv 1))
      (pss_cons (ps_for PassesOwn.never rfl (pi_range1 rfl (fr_range W) (pa_cons (pe_ifExp (pt_cmpR op_lt (pe_ix ix_tup (pv 0) pe_int (fun _ _ => rfl)) pe_int (nomark _)) pe_int pe_int) pa_nil)) (pg_name (i := 3) sc__law_splits.nd rfl (.inl rfl)) (pss_one (ps_set (i := 2) sc__law_splits.nd rfl (.inl rfl) (pe_ifExp (pt_cmpR op_eq (pe_op op_mod (pe_callTy call_int1 rfl (fr_int W) (by decide +kernel) (pa_cons (pv 2) pa_nil)) pe_int) pe_int (nomark _)) (pe_op op_fdiv (pv 2) pe_int) (pv 2)))))
      (pss_one (ps_ret (pe_or (pe_cmpR op_gt (pcall O__law_common (hr.mono (by decide)) (pa_cons (pv 2) (pa_cons (pcall O__law_power (hr.mono (by decide)) (pa_cons (pe_ix ix_tup (pv 0) pe_int (fun _ _ => rfl)) pa_nil)) pa_nil))) pe_int (nomark _)) (pe_one (pe_and (pe_cmpR op_eq (pe_op op_mod (pe_callTy call_int1 rfl (fr_int W) (by decide +kernel) (pa_cons (pv 1) pa_nil)) pe_int) pe_int (nomark _)) (pe_one (pcall O__law_is_four (hr.mono (by decide)) (pa_cons (pv 0) pa_nil)))))))))), ?_⟩
    refine ⟨_, rfl, _, rfl, _, _, _, _, rfl, rfl, hT, atI_nat (j := 0) rfl, _, _, rfl, rfl, _, rfl, ?_⟩
    have n100 : n < 2 ^ 100 := Nat.lt_of_le_of_lt hn2 (by decide +kernel)
    have esh1 : π.s < 0 → Nat.gcd (Int.natAbs ((halveN (100 : Int).toNat n : Nat) : Int)) (Int.natAbs ((π.v.g : Nat) : Int)) = π.sh n := fun c => by
      rw [Int.natAbs_natCast, Int.natAbs_natCast]
      unfold Pl.sh
      rw [if_neg (show ¬ 0 < π.s by omega), show (100 : Int).toNat = 100 from rfl, halveN_eq 100 n (by omega) n100]
    have esh0 : ¬ π.s < 0 → Nat.gcd (Int.natAbs ((halveN (0 : Int).toNat n : Nat) : Int)) (Int.natAbs ((π.v.g : Nat) : Int)) = π.sh n := fun c => by
      rw [Int.natAbs_natCast, Int.natAbs_natCast]
      unfold Pl.sh
      rw [if_pos (show 0 < π.s by rcases ho.s with z | z <;> omega)]
      rfl
    -- the loop, for so many turns
    have turn : ∀ (i : Nat), ((halveN i n : Nat) : Int) % 2 = ((halveN i n % 2 : Nat) : Int) := fun i => by omega
    refine ite2D (fun c => ⟨_, rfl, by decide, by decide, for_range (lo := 0) (n := (100 : Int).toNat) (fun i σ H2 => H2 = H ∧ ∃ v : Option V, σ = [some (.ref p), some (.int n), some (.int (halveN i n : Nat)), v]) ⟨rfl, none, rfl⟩ ?_ ?_⟩)
      (fun c => ⟨_, rfl, by decide, by decide, for_range (lo := 0) (n := (0 : Int).toNat) (fun i σ H2 => H2 = H ∧ ∃ v : Option V, σ = [some (.ref p), some (.int n), some (.int (halveN i n : Nat)), v]) ⟨rfl, none, rfl⟩ ?_ ?_⟩)
    case refine_1 | refine_3 =>
      rintro i σ H2 hi ⟨rfl, v, rfl⟩
      refine ⟨_, rfl, .inl ⟨_, rfl, _, _, rfl, rfl, (by show (0 : Int) < 2; decide), rfl, _, rfl, ?_⟩⟩
      refine ite2D (fun d => ?_) (fun d => ?_)
      · have d' : halveN i n % 2 = 0 := by
          have e2 : V.int (((halveN i n : Nat) : Int) % 2) = V.int 0 := d
          injection e2 with e2
          omega
        refine ⟨_, rfl, _, _, rfl, rfl, ⟨by decide, by decide⟩, rfl, some (.int ((0 : Int) + (i : Int))), ?_⟩
        rw [halveN_last, if_pos d']
        have e3 : ((halveN i n : Nat) : Int) / 2 = ((halveN i n / 2 : Nat) : Int) := by omega
        rw [← e3]
        rfl
      · have d' : ¬ halveN i n % 2 = 0 := fun q => d (by show V.int (((halveN i n : Nat) : Int) % 2) = V.int 0; rw [turn i, q]; rfl)
        refine ⟨_, rfl, rfl, some (.int ((0 : Int) + (i : Int))), ?_⟩
        rw [halveN_last, if_neg d']
        rfl
    all_goals
      rintro σ H2 ⟨rfl, v, rfl⟩
      refine ⟨_, rfl, _, rfl, _, _, _, _, rfl, rfl, hT, atI_nat (j := 1) rfl, r, π.v, rfl, hrow, ho.v, _, _, rfl, by omega, _, _, rfl, rfl, _, rfl, ?_⟩
      first
        | rw [esh1 c]
        | rw [esh0 c]
      unfold Pl.split at k
      refine ite2D (fun d => ?_) (fun d => ?_)
      · have d' : 1 < π.sh n := by omega
        rw [decide_eq_true d', Bool.true_or] at k
        exact k _ (Same.refl _)
      · have d' : ¬ 1 < π.sh n := by omega
        rw [decide_eq_false d', Bool.false_or] at k
        refine ⟨_, rfl, .inl ⟨_, rfl, _, _, rfl, rfl, (by show (0 : Int) < 4; decide), rfl, _, rfl, ?_⟩⟩
        refine ite2D (fun e => ?_) (fun e => ?_)
        · have e' : n % 4 = 0 := by
            have e2 : V.int ((n : Int) % 4) = V.int 0 := e
            injection e2 with e2
            omega
          rw [decide_eq_true e', Bool.true_and] at k
          exact ⟨_, rfl, p, π, rfl, hpl, k⟩
        · have e' : ¬ n % 4 = 0 := fun q => e (by show V.int ((n : Int) % 4) = V.int 0; rw [show (n : Int) % 4 = 0 by omega])
          rw [decide_eq_false e', Bool.false_and] at k
          exact k _ (Same.refl _)
def spLAlways : Sp := fun vs H Q _ => ∃ (p : Addr) (π : Pl), vs = [.ref p] ∧ PlanAt H p π ∧ π.Ok ∧ ∀ H', Same H H' → Q (.bl π.always) H'
theorem inV_two {g : Nat} (h : g ≤ 18) : inV (.int (g : Int)) [.int 1, .int 2, .int 4, .int 8, .int 16, .int 32, .int 64] = (decide (0 < g) && decide (oddp g = 1)) := by
  rw [← Bool.decide_and, Bool.eq_iff_iff, decide_eq_true_iff, pow2_of h]
  have : ∀ g : Nat, g < 19 → (inV (.int (g : Int)) [.int 1, .int 2, .int 4, .int 8, .int 16, .int 32, .int 64] = true ↔ g ∈ [1, 2, 4, 8, 16, 32, 64]) := by decide +kernel
  exact this g (by omega)
theorem ok__law_is_always (W : Wd K mg) : OkD P w K mg base CX0 3 "_law_is_always" ["_law_plan_here"] spLAlways := by
  have O__law_power := ok__law_power (P := P) (w := w) (base := base) W
  have O__law_is_four := ok__law_is_four (P := P) (w := w) (base := base) W
  refine (fn__law_is_always W).ok sc__law_is_always (fun vs H Q E h => ?_) (fun cdv A outer s H vs Q E hr h => ?_)
  · obtain ⟨p, π, rfl, _⟩ := h
    rfl
  · obtain ⟨p, π, rfl, hpl, ho, k⟩ := h
    obtain ⟨r, hrow, hp⟩ := id hpl
    have hT : SqT K H p [.int π.s, .ref r] := .of hp
    have hg := ho.v.g_le
    refine ⟨_, (pss_cons (ps_set (i := 1) sc__law_is_always.nd rfl (.inl rfl) (pcall O__law_power (hr.mono (by decide)) (pa_cons (pe_ix ix_tup (pv 0) pe_int (fun _ _ => rfl)) pa_nil)))
      (pss_cons (ps_if (pt_cmpR op_gt (pe_ix ix_tup (pv 0) pe_int (fun _ _ => rfl)) pe_int (nomark _)) (pss_one (ps_ret (pe_cmpR op_eq (pv 1) pe_int (nomark _)))) pss_nil)
      (pss_one (ps_ret (pe_and (pe_cmpR op_in_seq (pv 1) (pe_lst (pa_cons pe_int (pa_cons pe_int (pa_cons pe_int (pa_cons pe_int (pa_cons pe_int (pa_cons pe_int (pa_cons pe_int pa_nil)))))))) (by rfl)) (pe_one (pe_not (pcall O__law_is_four (hr.mono (by decide)) (pa_cons (pv 0) pa_nil))))))))), ?_⟩
    refine ⟨_, rfl, _, _, _, _, rfl, rfl, hT, atI_nat (j := 1) rfl, r, π.v, rfl, hrow, ho.v, ?_⟩
    refine ⟨_, rfl, _, _, _, _, rfl, rfl, hT, atI_nat (j := 0) rfl, _, _, rfl, rfl, _, rfl, ?_⟩
    unfold Pl.always at k
    refine ite2D (fun c => ?_) (fun c => ?_)
    · rw [if_pos c] at k
      refine ⟨_, rfl, rfl, ?_⟩
      have e : decide (V.int (π.v.g : Int) = V.int 1) = decide (π.v.g = 1) := by
        rw [decide_eq_decide]
        exact ⟨fun z => by injection z with z; omega, fun z => by rw [z]; rfl⟩
      rw [e]
      exact k _ (Same.refl _)
    · rw [if_neg c] at k
      refine ⟨_, rfl, by show 7 ≤ sizeLine; decide, fun q hq => ⟨q, _, rfl, .inl (.of upd_same), rfl, rfl, _, rfl, ?_⟩⟩
      rw [← Bool.and_assoc, ← inV_two hg] at k
      show if (inV (.int (π.v.g : Int)) [.int 1, .int 2, .int 4, .int 8, .int 16, .int 32, .int 64]) = true then _ else _
      cases e : inV (.int (π.v.g : Int)) [.int 1, .int 2, .int 4, .int 8, .int 16, .int 32, .int 64] with
      | true =>
        rw [e, Bool.true_and] at k
        exact iteT ⟨_, rfl, p, π, rfl, hpl.same (same_new hq), fun H2 s2 => ⟨_, rfl, k _ ((same_new hq).trans s2)⟩⟩
      | false =>
        rw [e, Bool.false_and] at k
        exact iteF (k _ (same_new hq))
end
end KB
end
section
set_option Elab.async false
set_option linter.all false
set_option maxRecDepth 100000
set_option maxHeartbeats 4000000
set_option exponentiation.threshold 100000
namespace KB
open PySem PySem.Spec PyProof.Rows L2 KM
section
variable {P : Program} {w : World} {K : PySem.W.Frag} {mg : Str → Option Value} {base : Heap}
def NOk (n : Nat) : Prop := 1 ≤ n ∧ n ≤ 1000000000000000000000000000000
def spSomeN : Sp := fun vs H Q _ => ∃ j : Addr, vs = [.ref j] ∧ JugAt H j ∧ ∀ (n : Nat) H', NOk n → Jk j H H' → Q (.int n) H'
theorem nok_of {i : Int} (h1 : 1 ≤ i) (h2 : i ≤ 1000000000000000000000000000000) : ∃ n : Nat, V.int i = .int (n : Int) ∧ NOk n := ⟨i.toNat, by rw [Int.toNat_of_nonneg (by omega)], by omega, by omega⟩
theorem ok__law_some_n (W : Wd K mg) : OkD P w K mg base CX0 3 "_law_some_n" ["_law_jug_here"] spSomeN := by
  have O__law_pull := ok__law_pull (P := P) (w := w) (base := base) W
  have O__law_one_of := ok__law_one_of (P := P) (w := w) (base := base) W
  refine (fn__law_some_n W).ok sc__law_some_n (fun vs H Q E h => ?_) (fun cdv A outer s H vs Q E hr h => ?_)
  · obtain ⟨j, rfl, _⟩ := h
    rfl
  · obtain ⟨j, rfl, hj, k⟩ := h
    refine ⟨_, (pss_cons (ps_set (i := 1) sc__law_some_n.nd rfl (.inl rfl) (pe_lst (pa_cons (pe_op op_add pe_int (pcall O__law_pull (hr.mono (by decide)) (pa_cons (pv 0) (pa_cons pe_int pa_nil)))) (pa_cons (pe_op op_add pe_int (pcall O__law_pull (hr.mono (by decide)) (pa_cons (pv 0) (pa_cons pe_int pa_nil)))) (pa_cons (pe_op op_pow pe_int pe_int) (pa_cons (pe_op op_sub (pe_op op_pow pe_int pe_int) (pcall O__law_pull (hr.mono (by decide)) (pa_cons (pv 0) (pa_cons pe_int pa_nil)))) (pa_cons (pe_op op_pow pe_int pe_int) (pa_cons (pe_op op_pow pe_int pe_int) pa_nil))))))))
      (pss_one (ps_ret (pcall O__law_one_of (hr.mono (by decide)) (pa_cons (pv 0) (pa_cons (pe_op op_cat (pv 1) (pe_lst (pa_cons (pe_op op_add pe_int (pcall O__law_pull (hr.mono (by decide)) (pa_cons (pv 0) (pa_cons (pe_op op_pow pe_int pe_int) pa_nil)))) (pa_cons (pe_op op_mul (pe_op op_pow pe_int pe_int) pe_int) (pa_cons (pe_op op_add pe_int (pcall O__law_pull (hr.mono (by decide)) (pa_cons (pv 0) (pa_cons pe_int pa_nil)))) (pa_cons (pe_op op_mul pe_int (pe_op op_pow pe_int pe_int)) pa_nil)))))) pa_nil)))))), ?_⟩
    have t30 : (10 : Int) ^ (30 : Int).toNat = 1000000000000000000000000000000 := by decide +kernel
    have t60 : (2 : Int) ^ (60 : Int).toNat = 1152921504606846976 := by decide +kernel
    have t40 : (3 : Int) ^ (40 : Int).toNat = 12157665459056928801 := by decide +kernel
    have t9 : (10 : Int) ^ (9 : Int).toNat = 1000000000 := by decide +kernel
    have t20 : (5 : Int) ^ (20 : Int).toNat = 95367431640625 := by decide +kernel
    have t11 : (11 : Int) ^ (9 : Int).toNat = 2357947691 := by decide +kernel
    refine ⟨_, rfl, j, 12, rfl, hj, by decide, by decide, fun r1 H1 a0 a1 jk1 _ => ⟨_, _, rfl, rfl, ?_⟩⟩
    refine ⟨_, rfl, j, 60, rfl, jk1.jug, by decide, by decide, fun r2 H2 b0 b1 jk2 _ => ⟨_, _, rfl, rfl, ?_⟩⟩
    refine ⟨_, _, rfl, rfl, ⟨by decide, by decide, by decide⟩, _, _, rfl, rfl, ⟨by decide, by decide, by decide⟩, ?_⟩
    refine ⟨_, rfl, j, 60, rfl, jk2.jug, by decide, by decide, fun r3 H3 c0 c1 jk3 _ => ⟨_, _, rfl, rfl, ?_⟩⟩
    refine ⟨_, _, rfl, rfl, ⟨by decide, by decide, by decide⟩, _, _, rfl, rfl, ⟨by decide, by decide, by decide⟩, by show 6 ≤ sizeLine; decide, fun q hq => ?_⟩
    have jk3' := (jk1.trans jk2).trans jk3
    have jkq := jk3'.new (o := .lst [.int (1 + r1), .int (1 + r2), .int ((10 : Int) ^ (30 : Int).toNat), .int ((10 : Int) ^ (30 : Int).toNat - r3), .int ((2 : Int) ^ (60 : Int).toNat), .int ((3 : Int) ^ (40 : Int).toNat)]) hq
    refine ⟨_, rfl, _, rfl, _, rfl, _, _, rfl, rfl, ⟨by decide, by decide, by decide⟩, j, _, rfl, jkq.jug, by rw [t9]; decide, by rw [t9]; decide, fun r4 H4 d0 d1 jk4 _ => ⟨_, _, rfl, rfl, ?_⟩⟩
    refine ⟨_, _, rfl, rfl, ⟨by decide, by decide, by decide⟩, _, _, rfl, rfl, .inr (sm64 (by omega) (by omega)), ?_⟩
    refine ⟨_, rfl, j, 6, rfl, jk4.jug, by decide, by decide, fun r5 H5 e0 e1 jk5 _ => ⟨_, _, rfl, rfl, ?_⟩⟩
    refine ⟨_, _, rfl, rfl, ⟨by decide, by decide, by decide⟩, _, _, rfl, rfl, .inl (sm64 (by omega) (by omega)), by show 4 ≤ sizeLine; decide, fun p hp => ?_⟩
    have qj : q ≠ j := jk3'.jug.new hq
    have hq5 := jk5.kept _ _ qj (jk4.kept _ _ qj upd_same)
    have jk6 := (jkq.trans jk4).trans jk5
    refine ⟨q, p, _, _, rfl, rfl, same_new hp _ _ hq5, upd_same, by show 10 ≤ sizeLine; decide, fun z hz => ?_⟩
    have jk7 := (jk6.new (o := .lst [.int (1 + r4), .int ((5 : Int) ^ (20 : Int).toNat * 7), .int (1 + r5), .int (4 * (11 : Int) ^ (9 : Int).toNat)]) hp)
    refine ⟨j, z, _, rfl, (jk7.new hz).jug, upd_same, jk7.jug.new hz, by show 0 < 10; decide, by show 10 ≤ 100; decide, fun x hx H7 jk8 _ => ?_⟩
    have hx' : ∃ n : Nat, x = .int (n : Int) ∧ NOk n := by
      rw [t9] at d1
      simp only [List.mem_append, List.mem_cons, List.not_mem_nil, or_false] at hx
      rw [t30, t60, t40, t20, t11] at hx
      rcases hx with (rfl | rfl | rfl | rfl | rfl | rfl) | (rfl | rfl | rfl | rfl) <;> exact nok_of (by omega) (by omega)
    obtain ⟨n, rfl, hn⟩ := hx'
    exact k n _ hn ((jk7.new hz).trans jk8)
def LKindAt (H : Hp) (p : Addr) (π : Pl) : Prop :=
  (π.v.g = 0 ∧ H p = some (.lst [.int π.s, .str "all", .bl π.four])) ∨ (π.v.g ≠ 0 ∧ ∃ q, H q = some (.lst (nI (kpr π.s π.v.g))) ∧ H p = some (.lst [.int π.s, .ref q, .bl π.four]))
def spLKind : Sp := fun vs H Q _ => ∃ (a : Addr) (π : Pl), vs = [.ref a] ∧ PlanAt H a π ∧ π.Ok ∧ ∀ p H', Same H H' → LKindAt H' p π → Q (.ref p) H'
def kf (s : Int) (g : Nat) (p : Nat) : Bool := decide (g % p = 0) && (decide (0 < s) || decide (2 < p))
theorem primesL_get {i : Nat} {x : V} (h : (nI primesL)[i]? = some x) : ∃ z, primesL[i]? = some z ∧ x = V.int (z : Int) ∧ 0 < z := by
  obtain ⟨z, hz, e⟩ := nI_get h
  refine ⟨z, hz, e, ?_⟩
  have : ∀ y ∈ primesL, 0 < y := by decide
  exact this z (List.mem_of_getElem? hz)
theorem ok__law_kind (W : Wd K mg) : OkD P w K mg base CX0 3 "_law_kind" ["_law_plan_here"] spLKind := by
  have O__law_power := ok__law_power (P := P) (w := w) (base := base) W
  have O__law_is_four := ok__law_is_four (P := P) (w := w) (base := base) W
  refine (fn__law_kind W).ok sc__law_kind (fun vs H Q E h => ?_) (fun cdv A outer s H vs Q E hr h => ?_)
  · obtain ⟨p, π, rfl, _⟩ := h
    rfl
  · obtain ⟨p, π, rfl, hpl, ho, k⟩ := h
    obtain ⟨r, hrow, hp⟩ := id hpl
    have hT : SqT K H p [.int π.s, .ref r] := .of hp
    have hg := ho.v.g_le
    refine ⟨_, (pss_cons (ps_par (i := 1) (j := 2) rfl sc__law_kind.nd rfl rfl (by decide) rfl rfl (pa_cons (pcall O__law_power (hr.mono (by decide)) (pa_cons (pe_ix ix_tup (pv 0) pe_int (fun _ _ => rfl)) pa_nil)) (pa_cons (pe_lst pa_nil) pa_nil)) (by rfl))
      (pss_cons (ps_for PassesOwn.never rfl (pi_list (pe_lst (pa_cons pe_int (pa_cons pe_int (pa_cons pe_int (pa_cons pe_int (pa_cons pe_int (pa_cons pe_int (pa_cons pe_int (pa_cons pe_int (pa_cons pe_int (pa_cons pe_int (pa_cons pe_int pa_nil))))))))))))) (pg_name (i := 3) sc__law_kind.nd rfl (.inl rfl)) (pss_one (ps_if (PW.pt (pw_and (pt_cmpR op_gt (pv 1) pe_int (nomark _)) (pw_and (pt_cmpR op_eq (pe_op op_mod (pe_callTy call_int1 rfl (fr_int W) (by decide +kernel) (pa_cons (pv 1) pa_nil)) (pv 3)) pe_int (nomark _)) (pw_and1 (PW.pt (pw_or (pt_cmpR op_gt (pe_ix ix_tup (pv 0) pe_int (fun _ _ => rfl)) pe_int (nomark _)) (pw_or1 (pt_cmpR op_gt (pv 3) pe_int (nomark _))))))))) (pss_one (ps_expr (pe_bm PySem.F.plainAttrs_list PySem.F.slot_list_append PySem.F.type_list_append mt_append (pv 2) (pa_cons (pv 3) pa_nil)))) pss_nil)))
      (pss_one (ps_ret (pe_lst (pa_cons (pe_ix ix_tup (pv 0) pe_int (fun _ _ => rfl)) (pa_cons (pe_ifExp (pt_cmpR op_gt (pv 1) pe_int (nomark _)) (pv 2) pe_str) (pa_cons (pcall O__law_is_four (hr.mono (by decide)) (pa_cons (pv 0) pa_nil)) pa_nil)))))))), ?_⟩
    refine ⟨_, rfl, _, _, _, _, rfl, rfl, hT, atI_nat (j := 1) rfl, r, π.v, rfl, hrow, ho.v, by show 0 ≤ sizeLine; decide, fun q hq => ⟨_, _, rfl, ?_⟩⟩
    refine ⟨by show 11 ≤ sizeLine; decide, fun l hl => ⟨l, rfl, ⟨_, .of upd_same⟩, ?_⟩⟩
    have sq := same_new (o := .lst []) hq
    have sl := same_new (o := .lst (nI primesL)) hl
    have ql : q ≠ l := ne_of_none (o := .lst []) upd_same hl
    -- with the exponent above 0 or not
    refine for_list (K := K) (a := l) (xs := nI primesL) (fun i σ H2 => Same H H2 ∧ H2 l = some (.lst (nI primesL)) ∧ H2 q = some (.lst (nI (if 0 < π.v.g then (primesL.take i).filter (kf π.s π.v.g) else []))) ∧ ∃ v : Option V, σ = [some (.ref p), some (.int (π.v.g : Nat)), some (.ref q), v])
      ⟨sq.trans sl, upd_same, ?_, none, rfl⟩ (fun i σ H2 _ ⟨_, e, _⟩ => .of e) ?_ ?_
    · have e : (if 0 < π.v.g then (primesL.take 0).filter (kf π.s π.v.g) else []) = [] := by split <;> rfl
      rw [e]
      exact sl _ _ upd_same
    · rintro i x σ H2 hi ⟨s2, h2l, h2q, v, rfl⟩
      obtain ⟨z, hz, rfl, z0⟩ := primesL_get hi
      have hT2 : SqT K H2 p [.int π.s, .ref r] := .of (s2 _ _ hp)
      have keep : (0 < π.v.g → kf π.s π.v.g z = false) → (if 0 < π.v.g then (primesL.take (i + 1)).filter (kf π.s π.v.g) else []) = (if 0 < π.v.g then (primesL.take i).filter (kf π.s π.v.g) else []) := fun h => by
        by_cases c : 0 < π.v.g
        · rw [if_pos c, if_pos c, filt_no hz (h c)]
        · rw [if_neg c, if_neg c]
      have more : 0 < π.v.g → kf π.s π.v.g z = true → ∃ (l_1 : Addr) (xs : List V) (v_1 : V), [V.ref q, V.int (z : Int)] = [.ref l_1, v_1] ∧ True := fun _ _ => ⟨q, [], _, rfl, trivial⟩
      clear more
      have app : 0 < π.v.g → kf π.s π.v.g z = true → (H2 q = some (.lst (nI ((primesL.take i).filter (kf π.s π.v.g)))) ∧ (nI ((primesL.take i).filter (kf π.s π.v.g))).length < sizeLine ∧
          (Same H (upd H2 q (.lst (nI ((primesL.take i).filter (kf π.s π.v.g)) ++ [V.int (z : Int)]))) ∧ (upd H2 q (.lst (nI ((primesL.take i).filter (kf π.s π.v.g)) ++ [V.int (z : Int)]))) l = some (.lst (nI primesL)) ∧
            (upd H2 q (.lst (nI ((primesL.take i).filter (kf π.s π.v.g)) ++ [V.int (z : Int)]))) q = some (.lst (nI (if 0 < π.v.g then (primesL.take (i + 1)).filter (kf π.s π.v.g) else []))))) := fun c h => by
        rw [if_pos c] at h2q
        refine ⟨h2q, ?_, same_mut s2 hq, ?_, ?_⟩
        · rw [List.length_map]
          exact small1000 (Nat.le_trans (filt_len _ _ _) (by decide))
        · rw [upd_ne ql.symm]
          exact h2l
        · rw [upd_same, if_pos c, filt_yes hz h]
          simp
      refine ⟨_, rfl, _, _, rfl, rfl, _, rfl, ?_⟩
      refine ite2D (fun c => ?_) (fun c => ?_)
      · have c' : 0 < π.v.g := by omega
        refine ⟨_, rfl, .inl ⟨_, rfl, _, rfl, _, _, rfl, rfl, (by show (0 : Int) < (z : Int); omega), rfl, _, rfl, ?_⟩⟩
        have emod : (π.v.g : Int) % (z : Int) = ((π.v.g % z : Nat) : Int) := by rw [Int.natCast_emod]
        refine ite2D (fun d => ?_) (fun d => ?_)
        · have d' : π.v.g % z = 0 := by
            have e2 : V.int ((π.v.g : Int) % (z : Int)) = V.int 0 := d
            rw [emod] at e2
            injection e2 with e2
            omega
          refine ⟨_, rfl, _, _, _, _, rfl, rfl, hT2, atI_nat (j := 0) rfl, _, _, rfl, rfl, _, rfl, ?_⟩
          refine ite2D (fun e => ?_) (fun e => ?_)
          · obtain ⟨a1, a2, a3⟩ := app c' (by unfold kf; rw [decide_eq_true d', decide_eq_true e]; rfl)
            refine iteT ⟨_, rfl, .inl ⟨rfl, _, .of a1⟩, _, rfl, q, _, _, rfl, rfl, a1, a2, a3.1, a3.2.1, a3.2.2, _, rfl⟩
          · refine ⟨_, rfl, _, _, rfl, rfl, _, rfl, ?_⟩
            refine ite2D (fun f => ?_) (fun f => ?_)
            · obtain ⟨a1, a2, a3⟩ := app c' (by unfold kf; rw [decide_eq_true d', decide_eq_true (show 2 < z by omega), Bool.or_true]; rfl)
              refine ⟨_, rfl, .inl ⟨rfl, _, .of a1⟩, _, rfl, q, _, _, rfl, rfl, a1, a2, a3.1, a3.2.1, a3.2.2, _, rfl⟩
            · refine ⟨s2, h2l, ?_, _, rfl⟩
              rw [keep fun _ => by unfold kf; rw [decide_eq_false e, decide_eq_false (show ¬ 2 < z by omega), Bool.or_false, Bool.and_false]]
              exact h2q
        · have d' : ¬ π.v.g % z = 0 := fun y => d (by show V.int ((π.v.g : Int) % (z : Int)) = V.int 0; rw [emod, y]; rfl)
          refine iteF ⟨s2, h2l, ?_, _, rfl⟩
          rw [keep fun _ => by unfold kf; rw [decide_eq_false d', Bool.false_and]]
          exact h2q
      · have c' : ¬ 0 < π.v.g := by omega
        refine iteF ⟨s2, h2l, ?_, _, rfl⟩
        rw [keep fun y => absurd y c']
        exact h2q
    · rintro σ H2 ⟨s2, h2l, h2q, v, rfl⟩
      have hT2 : SqT K H2 p [.int π.s, .ref r] := .of (s2 _ _ hp)
      refine ⟨_, rfl, _, _, _, _, rfl, rfl, hT2, atI_nat (j := 0) rfl, _, rfl, _, _, rfl, rfl, _, rfl, ?_⟩
      refine ite2D (fun c => ?_) (fun c => ?_)
      · have c' : 0 < π.v.g := by omega
        refine ⟨_, rfl, _, rfl, p, π, rfl, hpl.same s2, fun H3 s3 => ⟨by show 3 ≤ sizeLine; decide, fun t ht => ?_⟩⟩
        refine k t _ ((s2.trans s3).trans (same_new ht)) (.inr ⟨by omega, q, ?_, upd_same⟩)
        refine same_new ht _ _ (s3 _ _ ?_)
        rw [h2q, if_pos c', List.length_map, List.take_length, primesL_sub (by omega) c']
        rfl
      · have c' : π.v.g = 0 := by omega
        refine ⟨_, rfl, p, π, rfl, hpl.same s2, fun H3 s3 => ⟨by show 3 ≤ sizeLine; decide, fun t ht => ?_⟩⟩
        exact k t _ ((s2.trans s3).trans (same_new ht)) (.inl ⟨c', upd_same⟩)
end
end KB
end
section
set_option Elab.async false
set_option linter.all false
set_option maxRecDepth 100000
set_option maxHeartbeats 4000000
/-! an own class of error over any built-in one, with an own __init__ that stores one field -/
namespace KB
open PySem PySem.Spec PyProof.Rows L2
open PySem.HandSPX (call_own excO store_in_new)
open Builtin.ObjectAttr (storeInOwnDict ownDictForStores)
structure ErC (K : PySem.W.Frag) (C : Addr) (B : String) (bb : List Value) (newId : String) : Prop where
  ini : PySem.W.excInitIn K C bb newId = true
  ovr : PySem.W.excOver K C bb = true
  sa : PySem.W.findIn K (.ref C) "__setattr__" = some (some (.builtin "object.__setattr__"))
  exC : PySem.W.subIn K (.ref C) (.type "BaseException") = some true
  tyC : PySem.W.typeIn K (.ref C) = some (.type "type")
  kC : PySem.W.keepIn K (.ref C) = true
  hdC : PySem.W.hasDictIn K C = true
  sf : StoreFacts B bb "object.__setattr__" "object"
section
variable {prog : Program} {w : World} {A : Around} {E : Value → Shared → Prop} {R : Result → Shared → Prop} {hp : Heap} {g : Array GenState} {d : Drawn} {t : Nat} {os : OsState}
theorem exn_osa {K : PySem.W.Frag} {name : Str} {tk : Tok} {v : Value} {x C : Addr} {fv : Array Value} {B newId : String} {bb : List Value} (T : ErC K C B bb newId)
    (X : K.In hp) (hx : hp.get? x = some { cls := .ref C, data := .fields fv }) (ha : PySem.W.findIn K (.ref C) name = some none)
    (hq : ∀ h' tk' dx, (∀ b o, b ≠ x → hp.get? b = some o → h'.get? b = some o) → hp.objs.size ≤ dx → dx ≠ x → h'.get? x = some { cls := .ref C, dict := some dx, data := .fields fv } →
      h'.Ns1 dx (fun y => if y = name then some v else none) → R (.ok (.ret .none)) ⟨h', g, d, tk', os⟩) :
    codeAny (model prog w) A (.call (.builtin "object.__setattr__") ⟨[.ref x, .str name tk, v], []⟩) R ⟨hp, g, d, t, os⟩ := by
  have I : PySem.W.InstAt hp x { cls := .ref C, data := .fields fv } C none := ⟨hx, rfl, rfl, trivial⟩
  have hxs : x ≠ hp.objs.size := Nat.ne_of_lt (Heap.lt_size hx)
  have ht : PySem.W.takerIn K C name = some none := by
    unfold PySem.W.takerIn
    rw [ha]
    rfl
  obtain ⟨cd, hc, hdd⟩ : ∃ cd, PySem.W.clsIn K C = some cd ∧ cd.hasDict = true := by
    have z := T.hdC
    unfold PySem.W.hasDictIn at z
    cases q : PySem.W.clsIn K C with
    | none => rw [q] at z; cases z
    | some cd => rw [q] at z; exact ⟨cd, rfl, z⟩
  refine PySem.W.osa_openX T.sf X I T.ovr ht (fun b => ?_)
  have hcls : PySem.W.Looks (model prog w) hp (classData C) cd := PySem.W.looks_clsIn X hc
  obtain ⟨nm, bs, mro, ns, qn, hd, sn, sb, ab, col, del⟩ := cd
  dsimp only at hdd
  subst hdd
  unfold storeInOwnDict ownDictForStores
  repeat (first | with_reducible refine store_in_new ?_ ?_ | with_reducible refine wpAny_loadPart_at hx ?_ | with_reducible refine hcls.at ?_ | wp_step)
  · exact ⟨_, #[], _, (Heap.get?_update_ne _ _ _ _ hxs.symm).trans (Heap.get?_push_at rfl rfl), rfl, fun e he => absurd he (by simp), fun _ => rfl⟩
  · intro h' tk' hn' hs
    have hx1 : (hp.push { cls := .type "dict", data := .dict #[] }).get? x = some { cls := .ref C, data := .fields fv } := Heap.get?_push_of_some _ hx
    refine hq h' tk' hp.objs.size (fun b o nb ho => (hs.2 b (Nat.ne_of_lt (Heap.lt_size ho))).trans ((Heap.get?_update_ne _ _ _ _ nb).trans (Heap.get?_push_of_some _ ho))) (Nat.le_refl _) hxs.symm ((hs.2 x hxs).trans (Heap.get?_update_self _ hx1 rfl)) hn'
end
section
variable {X : Cx} {pins : List (Addr × Obj)} {σ : L2.St} {H : Hp} {s : Shared} {a C dx : Addr} {f : Str} {y : V} {u : Value} {Q : Unit → Shared → Prop} {E : Value → Shared → Prop} {A : Around} {B newId initId : String} {bb : List Value}
theorem exn_new (T : ErC X.K C B bb newId) (I : Inv X pins σ H s) (e : H a = some (exo a C none)) (hno : PySem.W.findIn X.K (.ref C) f = some none) (ry : RelV y u)
    (h : ∀ dx s', H dx = none → dx ≠ a → Inv X pins σ (upd (upd H dx (exd dx [(f, y)])) a (exo a C (some dx))) s' → Q () s') : wpAny (model X.prog X.w) A (setAttr (.ref a) f u) Q E s := by
  obtain ⟨t1, ho⟩ := exo_at I.hok e
  obtain ⟨hp, g, d, t, os⟩ := s
  refine PySem.W.set_plain I.kIn (ox := { cls := .ref C, dict := none, data := .fields #[.ref t1, .none, .none, .none, .bool false, .none] }) (od := none) ⟨ho, rfl, rfl, trivial⟩ T.sa ?_
  refine exn_osa T I.kIn ho hno (fun h' tk' dx k dn dne hx hn => ?_)
  have fresh : H dx = none := I.hok.fresh dn
  have old : ∀ {b : Addr} {o : Obj}, hp.get? b = some o → b ≠ dx := fun {b o} q => Nat.ne_of_lt (Nat.lt_of_lt_of_le (Heap.lt_size q) dn)
  have out : ∀ {b : Addr}, H b = none → b ≠ a := fun {b} n z => by rw [z, e] at n; cases n
  have U : Un X.fs [] H (upd (upd H dx (exd dx [(f, y)])) a (exo a C (some dx))) hp h' := {
    keep := fun b o q n _ _ => k b o (out n) q
    slot := fun b o q n _ _ => ⟨o.slots, k b o (out n) q⟩
    free := fun b o q n _ => by rw [upd_ne (out n), upd_ne (old q)]; exact n
    there := fun b o q _ => by
      by_cases hb : b = a
      · rw [hb]; exact ⟨_, hx⟩
      · exact ⟨o, k b o hb q⟩
    tups := fun b xs q => by rw [upd_ne (at_ne e q exo_tup), upd_ne (ne_of_none q fresh)]; exact q
    frzs := fun b o v q => by rw [upd_ne (at_ne e q exo_frz), upd_ne (ne_of_none q fresh)]; exact q
    tbls := fun b ps q => ⟨#[], by rw [upd_ne (at_ne e q exo_tbl), upd_ne (ne_of_none q fresh), q]; simp⟩ }
  refine h dx _ fresh dne (I.un (t' := tk') U fun b o q => ?_)
  by_cases hb : b = a
  · subst hb
    rw [upd_same] at q
    cases q
    exact exo_ok hx
  · rw [upd_ne hb] at q
    by_cases hd : b = dx
    · subst hd
      rw [upd_same] at q
      cases q
      exact exd_ok hn (relO_put (fs := []) ry fun g => True.intro)
    · rw [upd_ne hd] at q
      refine (I.hok b o q).stay (fun c v hc z => k c v ?_ z) (fun c hc => by rw [upd_ne (at_ne e hc exo_own), upd_ne (ne_of_none hc fresh)]; exact hc) (fun c xs hc => by rw [upd_ne (at_ne e hc exo_tup), upd_ne (ne_of_none hc fresh)]; exact hc)
      rcases hc with hc | hc
      · rw [hc]; exact hb
      · exact at_ne e hc exo_own
/-- self.f = e, the first field of a new error -/
def tOne (K : PySem.W.Frag) (C : Addr) (B : String) (bb : List Value) (newId : String) (f : Str) (to te : TE) : TS := fun D σ H => te σ H fun y H1 => to σ H1 fun x H2 => ∃ a : Addr, x = .ref a ∧ H2 a = some (exo a C none) ∧ ∀ dx, H2 dx = none → dx ≠ a → D.nx σ (upd (upd H2 dx (exd dx [(f, y)])) a (exo a C (some dx)))
theorem ps_one {o e : Expr} {to te : TE} {p' pos : Pos} (T : ErC X.K C B bb newId) (hno : PySem.W.findIn X.K (.ref C) f = some none) (ho : PE X o to) (he : PE X e te) (hs : swapsWith e (some (.Attribute o f p')) pos.line X.env = pure false := by rfl) : PS X (.Assign [.Attribute o f p'] e pos) (tOne X.K C B bb newId f to te) := by
  refine ⟨fun pins s σ H D I h => ?_⟩
  refine plainObj_wpAny_Assign_Attribute (thn (he.run pins s σ H _ I h) fun v s1 ⟨y, H1, I1, r1, q1⟩ => thn (ho.run pins s1 σ H1 _ I1 q1) fun u s2 ⟨x, H2, I2, r2, a, ex, ea, q⟩ => ?_) hs
  subst ex
  obtain rfl : u = Value.ref a := r2
  exact exn_new T I2 ea hno r1 fun dx s' n ne J => ⟨σ, _, J, q dx n ne⟩
/-- C(e, ..) -/
theorem pmk_er {CX : CXT} {x : Str} {fI : Addr} {k : Nat} {fd : FuncData} {ps : List Str} {sp : Sp} {ta : TA} {e : Expr} {es : List Expr} {p pos : Pos} (T : ErC X.K C B bb newId) (FB : ExcBaseFacts B newId initId bb) (iC : PySem.W.findIn X.K (.ref C) "__init__" = some (some (.ref fI)))
    (tI : PySem.W.typeIn X.K (.ref fI) = some (.type "function")) (F1 : FnOk X.prog X.w X.K X.mg X.base CX k fI fd ps sp) (hr : Room (k + 1) X.A) (hb : Binds X.K fd ps []) (hx : Passes CX X (fun _ _ _ => False)) (hg : Gl X x) (hm : X.mg x = some (.ref C)) (ha : PA X (e :: es) ta)
    (hdb : (x == ("__debug__" : Str)) = false := by decide) (he : starEach (e :: es) X.env = (false, eval e X.env) :: starEach es X.env := by rfl) (hpl : (backTo pos (starEach es X.env)).any (·.1) = false := by rfl) :
    L2N.PMk X (.Call (.Name x p) (e :: es) [] pos) (tMkO C sp [] ta) := by
  intro pins s σ H Q I h
  refine wpAny_Call_Name_kw (ld_glob I hg hm ?_ hdb)
  refine PySem.W.callWith_K (h₀ := X.base) I.ok.mod.kin T.kC (thn (ha.run pos pins s σ H _ I h) fun us s1 ⟨vs, H1, I1, r1, hz, q1⟩ => ⟨I1.kIn, ?_⟩) he hpl
  show wpAny _ _ (call (.ref C) us) _ _ _
  obtain ⟨nm, N, qn, bs, bm, hdct, sn, sub, ab, col, dd, k0, k1, k2, k3, k5, hC, hbm⟩ := PySem.W.excInit_of I1.kIn T.ini
  obtain ⟨hp, g, dr, tk, os⟩ := s1
  have next : hp.objs.size ≤ hp.objs.size + 1 := Nat.le_succ _
  have hq := q1 (hp.objs.size + 1) (I1.hok.fresh next)
  have kk : ∀ b o, hp.get? b = some o → ((hp.push (PySem.W.kdv_tup us)).push (excO C hp.objs.size)).get? b = some o := fun b o e => Heap.get?_push_of_some _ (Heap.get?_push_of_some _ e)
  have got : ((hp.push (PySem.W.kdv_tup us)).push (excO C hp.objs.size)).get? (hp.objs.size + 1) = some (excO C hp.objs.size) := by heap_get
  have I2 : Inv X pins σ (upd H1 (hp.objs.size + 1) (exo (hp.objs.size + 1) C none)) ⟨(hp.push (PySem.W.kdv_tup us)).push (excO C hp.objs.size), g, dr, tk, os⟩ := I1.laid (t' := tk) (a := hp.objs.size + 1) (o := exo (hp.objs.size + 1) C none) (h' := (hp.push (PySem.W.kdv_tup us)).push (excO C hp.objs.size)) kk next (exo_ok got)
  have r2 : Vals (V.ref (hp.objs.size + 1) :: (vs ++ [])) (Value.ref (hp.objs.size + 1) :: (us ++ [])) := .cons rfl (r1.append .nil)
  have hl : (Value.ref (hp.objs.size + 1) :: us ++ []).length = ps.length := by
    have e := r2.length
    rw [F1.len _ _ _ _ hq] at e
    exact e.symm
  have hus : us.length ≤ sizeLine := by
    rw [← Paired.length r1, sizeLine_eq]
    omega
  refine wpAny_call (call_own FB hbm hC (PySem.W.looks_findIn I1.kIn iC) (fun self => PySem.W.bind_fn I1.kIn self tI) hus (codeAny_mono (F1.run _ X.stack _ _ ⟨Value.ref (hp.objs.size + 1) :: us, []⟩ (Value.ref (hp.objs.size + 1) :: us ++ []) _ _ (fun _ _ _ => False) (hr.make C us []) (I2.env0.make C us []) (hb _ (Value.ref (hp.objs.size + 1) :: us) I2.kIn hl) r2 hq) fun r s' hq' => ?_))
  cases r with
  | error er => exact hx pins σ _ _ er s' I2 hq'
  | ok fl =>
    cases fl with
    | ret u =>
      obtain ⟨v, H2, os2, bare2, un2, hok2, rv, ev, d, fs, ea, ed, hd1, q2⟩ := hq'
      subst ev
      obtain ⟨h2, g2, d2, t2, os'⟩ := s'
      obtain ⟨t0, G, J, kG, ge, hoe, na⟩ := mk_end0 (d2 := d2) (t2 := t2) I1 next kk un2 hok2 os2 bare2 ea ed hd1
      exact ⟨rv, hp.objs.size + 1, _, _, ⟨G, g2, d2, t2, os'⟩, _, .ref C, some d, rfl, J, kG, ge, hoe, ⟨rfl, rfl, fun vs e => by cases e; rfl⟩, rfl, rfl, na, rfl, bare2, raises_own T.exC T.tyC, q2⟩
    | next => exact hq'.elim
    | brk => exact hq'.elim
    | cont => exact hq'.elim
end
end KB
end
section
set_option Elab.async false
set_option linter.all false
set_option maxRecDepth 100000
set_option maxHeartbeats 4000000
/-! the program's errors: their classes, __init__, the making -/
namespace KB
open PySem PySem.Spec PyProof.Rows L2
/-- X(), no own __init__ -/
theorem pmk_er0 {X : Cx} {C : Addr} {B newId initId : String} {bb : List Value} {x : Str} {p pos : Pos} (T : ErC X.K C B bb newId) (FB : ExcBaseFacts B newId initId bb) (iC : PySem.W.findIn X.K (.ref C) "__init__" = some (some (.builtin initId)))
    (hg : Gl X x) (hm : X.mg x = some (.ref C)) (hdb : (x == ("__debug__" : Str)) = false := by decide) : L2N.PMk X (.Call (.Name x p) [] [] pos) (fun _ H Q => Q (.ref C) none H) := by
  intro pins s σ H Q I h
  refine wpAny_Call_Name_kw (ld_glob I hg hm ?_ hdb)
  refine PySem.W.callWith_K0 I.kIn T.kC ?_
  obtain ⟨nm, N, qn, bs, bm, hdct, sn, sub, ab, col, dd, k0, k1, k2, k3, k5, hC, hbm⟩ := PySem.W.excInit_of I.kIn T.ini
  obtain ⟨hp, g, dr, tk, os⟩ := s
  refine PySem.W.call_B (rest := []) FB hbm hC (PySem.W.looks_findIn I.kIn iC) (Nat.zero_le _) (fun h' kk e1 e2 => ?_)
  have ne : hp.get? (hp.objs.size + 1) = none := Heap.get?_none_of_le (Nat.le_succ _)
  exact ⟨_, _, _, ⟨hp, g, dr, tk, os⟩, H, .ref C, none, rfl, I, kk, ne, e1, ⟨rfl, rfl, fun vs e => by cases e; rfl⟩, rfl, rfl, I.hok.fresh (Nat.le_succ _), rfl, I.bare, raises_own T.exC T.tyC, h⟩
/-! ### defs that may raise -/
section
variable {P : Program} {w : World} {K : PySem.W.Frag} {mg : Str → Option Value} {base : Heap}
theorem FnF.okN {x : Str} {st : Stmt} {ps N : List Str} {k : Nat} {sp : Sp} (F : FnF K mg x st ps) (S : FnScope N ps (defScope st)) (len : ∀ vs H Q E, sp vs H Q E → vs.length = ps.length)
    (hbody : ∀ (cdv : Value) (A : Around) (outer : List Env) (s : Shared) (H : Hp) (vs : List V) (Q : VK) (E : XK), Room k (A.deeper (envOfC x (defScope st) s.heap.objs.size (He.ga K x) cdv)) → sp vs H Q E →
      ∃ t, PSs (cxOf (L2N.CX P w) P w K mg base N x (defScope st) (He.ga K x) cdv A outer s H E) (defBody st) t ∧ t { nx := fun _ H' => Q .non H', rt := Q } (start N vs) H) : OkD P w K mg base (L2N.CX P w) (k + 1) x ps sp := by
  obtain ⟨fd, G, b⟩ := F.ex
  obtain ⟨⟨oc, od, kV, doc, pm, an, cdv, ct, osl, rfl, lk, hcd⟩, kp⟩ := G
  exact ⟨⟨_, fn_of lk hcd S len (hbody cdv), b⟩, F.gl, kp⟩
theorem FnM.okN {x qual : Str} {st : Stmt} {f : Addr} {ps N : List Str} {k : Nat} {sp : Sp} (F : FnM K x qual st f ps) (S : FnScope N ps (defScope st)) (len : ∀ vs H Q E, sp vs H Q E → vs.length = ps.length)
    (hbody : ∀ (cdv : Value) (A : Around) (outer : List Env) (s : Shared) (H : Hp) (vs : List V) (Q : VK) (E : XK), Room k (A.deeper (envOfC qual (defScope st) s.heap.objs.size f cdv)) → sp vs H Q E →
      ∃ t, PSs (cxOf (L2N.CX P w) P w K mg base N qual (defScope st) f cdv A outer s H E) (defBody st) t ∧ t { nx := fun _ H' => Q .non H', rt := Q } (start N vs) H) : OkM P w K mg base (L2N.CX P w) (k + 1) f ps sp := by
  obtain ⟨fd, G, b⟩ := F.ex
  obtain ⟨⟨oc, od, kV, doc, pm, an, cdv, ct, osl, rfl, lk, hcd⟩, kp⟩ := G
  exact ⟨⟨_, fn_of lk hcd S len (hbody cdv), b⟩⟩
end
section
variable {K : PySem.W.Frag} {mg : Str → Option Value}
structure ErAll (K : PySem.W.Frag) (e : Er) : Prop where
  b : erB K e = true
  i : erI K e = true
  m : erM K e = true
theorem Wd.er (W : Wd K mg) {e : Er} (h : e ∈ ers) : ErAll K e := by
  obtain ⟨h1, h2⟩ := He.ba (List.all_eq_true.mp W.exAll.1 e h)
  obtain ⟨h3, h4⟩ := He.ba h2
  exact ⟨h1, h3, h4⟩
theorem ErAll.c {e : Er} (a : ErAll K e) {B : String} (sf : StoreFacts B e.bb "object.__setattr__" "object") : ErC K (He.ga K e.nm) B e.bb e.new := by
  have z := a.b
  unfold erB at z
  obtain ⟨h1, z⟩ := He.ba z
  obtain ⟨h2, z⟩ := He.ba z
  obtain ⟨h3, z⟩ := He.ba z
  obtain ⟨h4, z⟩ := He.ba z
  obtain ⟨h5, z⟩ := He.ba z
  obtain ⟨h6, z⟩ := He.ba z
  obtain ⟨h7, z⟩ := He.ba z
  exact ⟨h1, h6, He.eqO_ok h7, of_decide_eq_true h3, of_decide_eq_true h4, h2, h5, sf⟩
theorem ErAll.no {e : Er} (a : ErAll K e) : PySem.W.findIn K (.ref (He.ga K e.nm)) "given" = some none ∧ PySem.W.findIn K (.ref (He.ga K e.nm)) "index" = some none := by
  have z := a.b
  unfold erB at z
  obtain ⟨_, z⟩ := He.ba z
  obtain ⟨_, z⟩ := He.ba z
  obtain ⟨_, z⟩ := He.ba z
  obtain ⟨_, z⟩ := He.ba z
  obtain ⟨_, z⟩ := He.ba z
  obtain ⟨_, z⟩ := He.ba z
  obtain ⟨_, z⟩ := He.ba z
  obtain ⟨_, z⟩ := He.ba z
  obtain ⟨_, z⟩ := He.ba z
  obtain ⟨h1, z⟩ := He.ba z
  obtain ⟨h2, z⟩ := He.ba z
  exact ⟨He.eqO_ok h1, He.eqO_ok h2⟩
theorem ErAll.fld {e : Er} (a : ErAll K e) {f : Str} (q : e.fld = some f) : PySem.W.findIn K (.ref (He.ga K e.nm)) "__init__" = some (some (.ref (He.ma K (He.ga K e.nm) "__init__"))) ∧ PySem.W.typeIn K (.ref (He.ma K (He.ga K e.nm) "__init__")) = some (.type "function") := by
  have z := a.i
  unfold erI at z
  rw [q] at z
  obtain ⟨h1, z⟩ := He.ba z
  obtain ⟨_, h2⟩ := He.ba z
  exact ⟨He.eqO_ok h1, of_decide_eq_true h2⟩
theorem ErAll.fld0 {e : Er} (a : ErAll K e) (q : e.fld = none) : PySem.W.findIn K (.ref (He.ga K e.nm)) "__init__" = some (some (.builtin e.ini)) := by
  have z := a.i
  unfold erI at z
  rw [q] at z
  exact He.eqO_ok z
/-- the promise of such an __init__ -/
def spEI (C : Addr) (f : Str) : Sp := fun vs H Q _ => ∃ (a : Addr) (v : V), vs = [.ref a, v] ∧ H a = some (exo a C none) ∧ ∀ dx, H dx = none → dx ≠ a → Q .non (upd (upd H dx (exd dx [(f, v)])) a (exo a C (some dx)))
variable {P : Program} {w : World} {base : Heap}
theorem ok_InvalidIndex_init (W : Wd K mg) : OkM P w K mg base CX0 1 (He.ma K (He.ga K "InvalidIndex") "__init__") ["self", "given"] (spEI (He.ga K "InvalidIndex") "given") := by
  have a := W.er (e := erIdx) (by unfold ers; simp)
  refine (fn_InvalidIndex_init W).ok sc_InvalidIndex_init (fun vs H Q E h => ?_) (fun cdv A outer s H vs Q E hr h => ?_)
  · obtain ⟨x, v, rfl, _⟩ := h
    rfl
  · obtain ⟨x, v, rfl, hx, k⟩ := h
    refine ⟨_, pss_cons (ps_one (a.c PySem.F.store_ValueError) a.no.1 (pv 0) (pv 1)) pss_nil, ?_⟩
    exact ⟨_, rfl, _, rfl, x, rfl, hx, fun dx hn ne => k dx hn ne⟩
theorem ok_UnknownName_init (W : Wd K mg) : OkM P w K mg base CX0 1 (He.ma K (He.ga K "UnknownName") "__init__") ["self", "given"] (spEI (He.ga K "UnknownName") "given") := by
  have a := W.er (e := erUnk) (by unfold ers; simp)
  refine (fn_UnknownName_init W).ok sc_UnknownName_init (fun vs H Q E h => ?_) (fun cdv A outer s H vs Q E hr h => ?_)
  · obtain ⟨x, v, rfl, _⟩ := h
    rfl
  · obtain ⟨x, v, rfl, hx, k⟩ := h
    refine ⟨_, pss_cons (ps_one (a.c PySem.F.store_LookupError) a.no.1 (pv 0) (pv 1)) pss_nil, ?_⟩
    exact ⟨_, rfl, _, rfl, x, rfl, hx, fun dx hn ne => k dx hn ne⟩
theorem ok_Broken_init (W : Wd K mg) : OkM P w K mg base CX0 1 (He.ma K (He.ga K "Broken") "__init__") ["self", "index"] (spEI (He.ga K "Broken") "index") := by
  have a := W.er (e := erBro) (by unfold ers; simp)
  refine (fn_Broken_init W).ok sc_Broken_init (fun vs H Q E h => ?_) (fun cdv A outer s H vs Q E hr h => ?_)
  · obtain ⟨x, v, rfl, _⟩ := h
    rfl
  · obtain ⟨x, v, rfl, hx, k⟩ := h
    refine ⟨_, pss_cons (ps_one (a.c PySem.F.store_ArithmeticError) a.no.2 (pv 0) (pv 1)) pss_nil, ?_⟩
    exact ⟨_, rfl, _, rfl, x, rfl, hx, fun dx hn ne => k dx hn ne⟩
theorem ok_InUse_init (W : Wd K mg) : OkM P w K mg base CX0 1 (He.ma K (He.ga K "InUse") "__init__") ["self", "index"] (spEI (He.ga K "InUse") "index") := by
  have a := W.er (e := erUse) (by unfold ers; simp)
  refine (fn_InUse_init W).ok sc_InUse_init (fun vs H Q E h => ?_) (fun cdv A outer s H vs Q E hr h => ?_)
  · obtain ⟨x, v, rfl, _⟩ := h
    rfl
  · obtain ⟨x, v, rfl, hx, k⟩ := h
    refine ⟨_, pss_cons (ps_one (a.c PySem.F.store_ArithmeticError) a.no.2 (pv 0) (pv 1)) pss_nil, ?_⟩
    exact ⟨_, rfl, _, rfl, x, rfl, hx, fun dx hn ne => k dx hn ne⟩
end
/-! ### the making -/
/-- C(v): an error of the class C whose field f is v -/
def tEr (C : Addr) (f : Str) (ta : TE) : L2.St → Hp → XK → Prop := fun σ H Q => ta σ H fun v H1 => ∀ d H2, H1 d = none → H2 d = some (.xd [(f, v)]) → Same H1 H2 → Q (.ref C) (some d) H2
theorem pmk_imp {X : Cx} {e : Expr} {t t' : L2.St → Hp → XK → Prop} (h : L2N.PMk X e t) (i : ∀ σ H Q, t' σ H Q → t σ H Q) : L2N.PMk X e t' := fun pins s σ H Q I q => h pins s σ H Q I (i σ H Q q)
theorem tEr_of {C : Addr} {f : Str} {ta : TE} (mono : ∀ σ H (Q Q' : VK), (∀ v H', Q v H' → Q' v H') → ta σ H Q → ta σ H Q') (σ : L2.St) (H : Hp) (Q : XK) (h : tEr C f ta σ H Q) : tMkO C (spEI C f) [] (tCons ta tNil) σ H Q := by
  refine mono _ _ _ _ (fun v H1 hv => ?_) h
  refine ⟨(by show 1 ≤ 1000; decide), fun a ha => ⟨a, v, rfl, upd_same, fun dx hd ne => ⟨rfl, dx, [(f, v)], upd_same, ?_, ?_, hv _ _ ?_ upd_same ?_⟩⟩⟩
  · rw [upd_ne ne]
    exact upd_same
  · rw [upd_ne ne] at hd
    exact hd
  · rw [upd_ne ne] at hd
    exact hd
  · intro b o e
    have nb : b ≠ a := fun z => by rw [z, ha] at e; cases e
    have nd : b ≠ dx := fun z => by rw [upd_ne ne] at hd; rw [z, hd] at e; cases e
    rw [upd_ne nd, del_ne nb, upd_ne nb, upd_ne nd, upd_ne nb]
    exact e
section
variable {X : Cx} {ta : TE} {e : Expr} {p pos : Pos}
theorem pmk_InvalidIndex (W : Wd X.K X.mg) (hr : Room 2 X.A) (he : PE X e ta) (mono : ∀ σ H (Q Q' : VK), (∀ v H', Q v H' → Q' v H') → ta σ H Q → ta σ H Q') (hg : Gl X "InvalidIndex") (hs : starEach [e] X.env = (false, eval e X.env) :: starEach [] X.env := by rfl) (hq : (backTo pos (starEach [] X.env)).any (·.1) = false := by rfl) :
    L2N.PMk X (.Call (.Name "InvalidIndex" p) [e] [] pos) (tEr (He.ga X.K "InvalidIndex") "given" ta) := by
  have a := W.er (e := erIdx) (by unfold ers; simp)
  obtain ⟨fd, G, b⟩ := (ok_InvalidIndex_init (P := X.prog) (w := X.w) (base := X.base) W).ex
  exact pmk_imp (pmk_er (a.c PySem.F.store_ValueError) PySem.F.excBase_ValueError (a.fld rfl).1 (a.fld rfl).2 G hr b pass0 hg (W.glo (by decide +kernel)) (pa_cons he pa_nil hs) (he := hs) (hpl := hq)) (tEr_of mono)
theorem pmk_UnknownName (W : Wd X.K X.mg) (hr : Room 2 X.A) (he : PE X e ta) (mono : ∀ σ H (Q Q' : VK), (∀ v H', Q v H' → Q' v H') → ta σ H Q → ta σ H Q') (hg : Gl X "UnknownName") (hs : starEach [e] X.env = (false, eval e X.env) :: starEach [] X.env := by rfl) (hq : (backTo pos (starEach [] X.env)).any (·.1) = false := by rfl) :
    L2N.PMk X (.Call (.Name "UnknownName" p) [e] [] pos) (tEr (He.ga X.K "UnknownName") "given" ta) := by
  have a := W.er (e := erUnk) (by unfold ers; simp)
  obtain ⟨fd, G, b⟩ := (ok_UnknownName_init (P := X.prog) (w := X.w) (base := X.base) W).ex
  exact pmk_imp (pmk_er (a.c PySem.F.store_LookupError) PySem.F.excBase_LookupError (a.fld rfl).1 (a.fld rfl).2 G hr b pass0 hg (W.glo (by decide +kernel)) (pa_cons he pa_nil hs) (he := hs) (hpl := hq)) (tEr_of mono)
theorem pmk_Broken (W : Wd X.K X.mg) (hr : Room 2 X.A) (he : PE X e ta) (mono : ∀ σ H (Q Q' : VK), (∀ v H', Q v H' → Q' v H') → ta σ H Q → ta σ H Q') (hg : Gl X "Broken") (hs : starEach [e] X.env = (false, eval e X.env) :: starEach [] X.env := by rfl) (hq : (backTo pos (starEach [] X.env)).any (·.1) = false := by rfl) :
    L2N.PMk X (.Call (.Name "Broken" p) [e] [] pos) (tEr (He.ga X.K "Broken") "index" ta) := by
  have a := W.er (e := erBro) (by unfold ers; simp)
  obtain ⟨fd, G, b⟩ := (ok_Broken_init (P := X.prog) (w := X.w) (base := X.base) W).ex
  exact pmk_imp (pmk_er (a.c PySem.F.store_ArithmeticError) PySem.F.excBase_ArithmeticError (a.fld rfl).1 (a.fld rfl).2 G hr b pass0 hg (W.glo (by decide +kernel)) (pa_cons he pa_nil hs) (he := hs) (hpl := hq)) (tEr_of mono)
theorem pmk_InUse (W : Wd X.K X.mg) (hr : Room 2 X.A) (he : PE X e ta) (mono : ∀ σ H (Q Q' : VK), (∀ v H', Q v H' → Q' v H') → ta σ H Q → ta σ H Q') (hg : Gl X "InUse") (hs : starEach [e] X.env = (false, eval e X.env) :: starEach [] X.env := by rfl) (hq : (backTo pos (starEach [] X.env)).any (·.1) = false := by rfl) :
    L2N.PMk X (.Call (.Name "InUse" p) [e] [] pos) (tEr (He.ga X.K "InUse") "index" ta) := by
  have a := W.er (e := erUse) (by unfold ers; simp)
  obtain ⟨fd, G, b⟩ := (ok_InUse_init (P := X.prog) (w := X.w) (base := X.base) W).ex
  exact pmk_imp (pmk_er (a.c PySem.F.store_ArithmeticError) PySem.F.excBase_ArithmeticError (a.fld rfl).1 (a.fld rfl).2 G hr b pass0 hg (W.glo (by decide +kernel)) (pa_cons he pa_nil hs) (he := hs) (hpl := hq)) (tEr_of mono)
theorem pmk_NothingToUndo (W : Wd X.K X.mg) (hg : Gl X "NothingToUndo") : L2N.PMk X (.Call (.Name "NothingToUndo" p) [] [] pos) (fun _ H Q => Q (.ref (He.ga X.K "NothingToUndo")) none H) := by
  have a := W.er (e := erNot) (by unfold ers; simp)
  exact pmk_er0 (a.c PySem.F.store_ArithmeticError) PySem.F.excBase_ArithmeticError (a.fld0 rfl) hg (W.glo (by decide +kernel))
end
end KB
end
section
set_option Elab.async false
set_option linter.all false
set_option maxRecDepth 100000
set_option maxHeartbeats 4000000
/-! what books, pages, wishes, deeds are, in plain Lean; where they lie -/
namespace KB
open PySem PySem.Spec PyProof.Rows L2 KM
/-! ### wishes -/
inductive Wi where
  | sp (pos : Bool) (a : Str) (n : Nat)
  | al (a : Str)
  | ak (a b : Str)
def Wi.vals : Wi → List V
  | .sp true a n => [.str "splits", .str a, .int n]
  | .sp false a n => [.str "whole", .str a, .int n]
  | .al a => [.str "always", .str a]
  | .ak a b => [.str "alike", .str a, .str b]
def Wi.names : Wi → List Str
  | .sp _ a _ => [a]
  | .al a => [a]
  | .ak a b => [a, b]
def titles : List Str := ["a", "main", "zz"]
def Wi.Ok : Wi → Prop
  | .sp _ a n => a ∈ titles ∧ NOk n
  | .al a => a ∈ titles
  | .ak a b => a ∈ titles ∧ b ∈ titles
theorem Wi.Ok.names {w : Wi} (h : w.Ok) : ∀ a ∈ w.names, a ∈ titles := by
  cases w with
  | sp p a n => intro b hb; rw [show b = a from by simpa [Wi.names] using hb]; exact h.1
  | al a => intro b hb; rw [show b = a from by simpa [Wi.names] using hb]; exact h
  | ak a c =>
    intro b hb
    rcases (show b = a ∨ b = c by simpa [Wi.names] using hb) with rfl | rfl
    · exact h.1
    · exact h.2
/-! ### shelves -/
abbrev Sh := List (Str × Pl)
def look : Sh → Str → Option Pl
  | [], _ => none
  | p :: r, a => if p.1 = a then some p.2 else look r a
def put (sh : Sh) (a : Str) (π : Pl) : Sh := if (look sh a).isSome = true then sh.map (fun p => if p.1 = a then (p.1, π) else p) else sh ++ [(a, π)]
def drp (sh : Sh) (a : Str) : Sh := sh.filter fun p => decide (p.1 ≠ a)
structure ShOk (sh : Sh) : Prop where
  nd : (sh.map (·.1)).Nodup
  ok : ∀ p ∈ sh, p.1 ∈ titles ∧ p.2.Ok
theorem look_mem : ∀ {sh : Sh} {a : Str} {π : Pl}, look sh a = some π → (a, π) ∈ sh
  | p :: r, a, π, h => by
    unfold look at h
    by_cases c : p.1 = a
    · rw [if_pos c] at h
      cases h
      rw [← c]
      exact List.mem_cons_self
    · rw [if_neg c] at h
      exact List.mem_cons_of_mem _ (look_mem h)
theorem look_none : ∀ {sh : Sh} {a : Str}, look sh a = none → ∀ p ∈ sh, p.1 ≠ a
  | [], _, _, _, hp => nomatch hp
  | q :: r, a, h, p, hp => by
    unfold look at h
    by_cases c : q.1 = a
    · rw [if_pos c] at h; cases h
    · rw [if_neg c] at h
      rcases List.mem_cons.mp hp with rfl | hp
      · exact c
      · exact look_none h p hp
theorem look_some : ∀ {sh : Sh} {p : Str × Pl}, (sh.map (·.1)).Nodup → p ∈ sh → look sh p.1 = some p.2
  | q :: r, p, nd, hp => by
    rw [List.map_cons, List.nodup_cons] at nd
    unfold look
    rcases List.mem_cons.mp hp with rfl | hp
    · rw [if_pos rfl]
    · rw [if_neg fun z => nd.1 (by rw [z]; exact List.mem_map_of_mem hp)]
      exact look_some nd.2 hp
theorem look_ok {sh : Sh} {a : Str} {π : Pl} (o : ShOk sh) (h : look sh a = some π) : a ∈ titles ∧ π.Ok := o.ok _ (look_mem h)
theorem look_drp : ∀ {sh : Sh} {a b : Str}, b ≠ a → look (drp sh a) b = look sh b
  | [], _, _, _ => rfl
  | p :: r, a, b, n => by
    unfold drp
    by_cases c : p.1 = a
    · rw [List.filter_cons_of_neg (by simpa using c)]
      show look (drp r a) b = look (p :: r) b
      rw [look_drp n]
      unfold look
      rw [if_neg fun z => n (z.symm.trans c)]
      cases r <;> rfl
    · rw [List.filter_cons_of_pos (by simpa using c)]
      show look (p :: drp r a) b = look (p :: r) b
      show (if p.1 = b then some p.2 else look (drp r a) b) = (if p.1 = b then some p.2 else look r b)
      rw [look_drp n]
theorem map_put (sh : Sh) (a : Str) (π : Pl) : (sh.map (fun p => if p.1 = a then (p.1, π) else p)).map (·.1) = sh.map (·.1) := by
  rw [List.map_map]
  refine List.map_congr_left fun p _ => ?_
  show (if p.1 = a then (p.1, π) else p).1 = p.1
  split <;> rfl
theorem ShOk.put {sh : Sh} {a : Str} {π : Pl} (o : ShOk sh) (ha : a ∈ titles) (hπ : π.Ok) : ShOk (put sh a π) := by
  unfold KB.put
  by_cases c : (look sh a).isSome = true
  · rw [if_pos c]
    refine ⟨by rw [map_put]; exact o.nd, fun p hp => ?_⟩
    obtain ⟨q, hq, rfl⟩ := List.mem_map.mp hp
    split
    · exact ⟨(o.ok q hq).1, hπ⟩
    · exact o.ok q hq
  · rw [if_neg c]
    have cn : look sh a = none := by
      cases e : look sh a with
      | none => rfl
      | some _ => rw [e] at c; exact absurd rfl c
    refine ⟨?_, fun p hp => ?_⟩
    · rw [List.map_append, List.nodup_append]
      refine ⟨o.nd, by simp, fun x hx y hy => ?_⟩
      obtain ⟨p, hp, rfl⟩ := List.mem_map.mp hx
      rw [show y = a by simpa using hy]
      exact look_none cn p hp
    · rcases List.mem_append.mp hp with hp | hp
      · exact o.ok p hp
      · rw [show p = (a, π) by simpa using hp]
        exact ⟨ha, hπ⟩
theorem ShOk.drp {sh : Sh} {a : Str} (o : ShOk sh) : ShOk (drp sh a) := by
  refine ⟨?_, fun p hp => o.ok p (List.mem_filter.mp hp).1⟩
  exact List.Pairwise.sublist (List.Sublist.map _ List.filter_sublist) o.nd
theorem ShOk.nil : ShOk [] := ⟨List.nodup_nil, fun _ h => nomatch h⟩
theorem len_sub : ∀ {l m : List Str}, l.Nodup → (∀ x ∈ l, x ∈ m) → l.length ≤ m.length
  | [], _, _, _ => Nat.zero_le _
  | x :: l, m, nd, s => by
    rw [List.nodup_cons] at nd
    have hx := s x List.mem_cons_self
    have ih := len_sub (m := m.erase x) nd.2 fun y hy => (List.mem_erase_of_ne fun z => nd.1 (by rw [← z]; exact hy)).mpr (s y (List.mem_cons_of_mem _ hy))
    rw [List.length_erase_of_mem hx] at ih
    have := List.length_pos_of_mem hx
    rw [List.length_cons]
    omega
theorem ShOk.len {sh : Sh} (o : ShOk sh) : sh.length ≤ 3 := by
  have h : (sh.map (·.1)).length ≤ titles.length := len_sub o.nd fun a ha => (by
    obtain ⟨p, hp, rfl⟩ := List.mem_map.mp ha
    exact (o.ok p hp).1)
  rw [List.length_map] at h
  exact h
/-! ### answers -/
def kindL (mk : List PyData → PyData) (π : Pl) : List PyData := [.int π.s, if π.v.g = 0 then .str "all" else mk ((kpr π.s π.v.g).map fun p => .int (p : Nat)), .bool π.four]
def alike (π ρ : Pl) : Bool := PyData.eqvAll (kindL .list π) (kindL .list ρ)
theorem alike_tup (π ρ : Pl) : PyData.eqvAll (kindL .tuple π) (kindL .tuple ρ) = alike π ρ := by
  unfold alike kindL
  by_cases c : π.v.g = 0 <;> by_cases d : ρ.v.g = 0
  · rw [if_pos c, if_pos d, if_pos c, if_pos d]
  · rw [if_pos c, if_neg d, if_pos c, if_neg d]; rfl
  · rw [if_neg c, if_pos d, if_neg c, if_pos d]; rfl
  · rw [if_neg c, if_neg d, if_neg c, if_neg d]; rfl
def ans (sh : Sh) : Wi → Bool
  | .sp pos a n => match look sh a with
    | some π => π.split n == pos
    | none => false
  | .al a => match look sh a with
    | some π => π.always
    | none => false
  | .ak a b => match look sh a, look sh b with
    | some π, some ρ => alike π ρ
    | _, _ => false
theorem ans_congr {sh sh' : Sh} {w : Wi} (h : ∀ a ∈ w.names, look sh' a = look sh a) : ans sh' w = ans sh w := by
  cases w with
  | sp p a n => unfold ans; dsimp only; rw [h a (by simp [Wi.names])]
  | al a => unfold ans; dsimp only; rw [h a (by simp [Wi.names])]
  | ak a b => unfold ans; dsimp only; rw [h a (by simp [Wi.names]), h b (by simp [Wi.names])]
/-- the first wish that does not hold -/
def brk (sh : Sh) (ws : List Wi) : Option Nat := ws.findIdx? fun w => !ans sh w
theorem brk_none {sh : Sh} {ws : List Wi} : brk sh ws = none ↔ ∀ w ∈ ws, ans sh w = true := by
  unfold brk
  rw [List.findIdx?_eq_none_iff]
  exact ⟨fun h w hw => by simpa using h w hw, fun h w hw => by simpa using h w hw⟩
/-! ### pages, deeds -/
abbrev Pg := Sh × List Wi
structure PgOk (pg : Pg) : Prop where
  sh : ShOk pg.1
  ws : ∀ w ∈ pg.2, w.Ok
  all : ∀ w ∈ pg.2, ans pg.1 w = true
theorem PgOk.nil : PgOk ([], []) := PgOk.mk ShOk.nil (fun _ h => nomatch h) (fun _ h => nomatch h)
inductive De where
  | lift (k : Nat)
  | drop (a : Str)
  | wish (w : Wi)
  | put (a : Str) (π : Pl)
def De.Ok : De → Prop
  | .lift k => k ≤ 100
  | .drop a => a ∈ titles
  | .wish w => w.Ok
  | .put a π => a ∈ titles ∧ π.Ok
/-- what is heard of a deed -/
inductive Due where
  | ok
  | idx (k : Nat)
  | unk (a : Str)
  | brk (k : Nat)
  | use (k : Nat)
def useIx (ws : List Wi) (a : Str) : Option Nat := ws.findIdx? fun w => decide (a ∈ w.names)
def behind (pg : Pg) : De → Due × Pg
  | .lift k => if k < pg.2.length then (.ok, (pg.1, pg.2.take k ++ pg.2.drop (k + 1))) else (.idx k, pg)
  | .drop a => if (look pg.1 a).isSome = true then (match useIx pg.2 a with
      | some i => (.use i, pg)
      | none => (.ok, (drp pg.1 a, pg.2))) else (.unk a, pg)
  | .wish w => match brk pg.1 (pg.2 ++ [w]) with
    | some i => (.brk i, pg)
    | none => (.ok, (pg.1, pg.2 ++ [w]))
  | .put a π => match brk (KB.put pg.1 a π) pg.2 with
    | some i => (.brk i, pg)
    | none => (.ok, (KB.put pg.1 a π, pg.2))
theorem behind_ok {pg : Pg} {d : De} (h : PgOk pg) (hd : d.Ok) : PgOk (behind pg d).2 := by
  cases d with
  | lift k =>
    unfold behind
    dsimp only
    split
    · have sub : ∀ w ∈ pg.2.take k ++ pg.2.drop (k + 1), w ∈ pg.2 := fun w hw => by
        rcases List.mem_append.mp hw with hw | hw
        · exact List.mem_of_mem_take hw
        · exact List.mem_of_mem_drop hw
      exact ⟨h.sh, fun w hw => h.ws w (sub w hw), fun w hw => h.all w (sub w hw)⟩
    · exact h
  | drop a =>
    unfold behind
    dsimp only
    split
    · split
      · exact h
      · rename_i e
        have nu : ∀ w ∈ pg.2, a ∉ w.names := fun w hw => by
          have z := (List.findIdx?_eq_none_iff.mp e) w hw
          simpa using z
        refine ⟨h.sh.drp, h.ws, fun w hw => ?_⟩
        rw [ans_congr fun b hb => look_drp fun z => nu w hw (by rw [← z]; exact hb)]
        exact h.all w hw
    · exact h
  | wish w =>
    unfold behind
    dsimp only
    split
    · exact h
    · rename_i e
      refine ⟨h.sh, fun v hv => ?_, brk_none.mp e⟩
      rcases List.mem_append.mp hv with hv | hv
      · exact h.ws v hv
      · rw [show v = w by simpa using hv]; exact hd
  | put a π =>
    unfold behind
    dsimp only
    split
    · exact h
    · rename_i e
      exact ⟨h.sh.put hd.1 hd.2, h.ws, brk_none.mp e⟩
theorem behind_err {pg : Pg} {d : De} (h : (behind pg d).1 ≠ .ok) : (behind pg d).2 = pg := by
  cases d with
  | lift k => unfold behind at *; dsimp only at *; split <;> simp_all
  | drop a => unfold behind at *; dsimp only at *; split <;> (try split) <;> simp_all
  | wish w => unfold behind at *; dsimp only at *; split <;> simp_all
  | put a π => unfold behind at *; dsimp only at *; split <;> simp_all
/-- a wish more: the first that does not hold is the new one, if any -/
theorem brk_more {pg : Pg} (h : PgOk pg) (w : Wi) : brk pg.1 (pg.2 ++ [w]) = if ans pg.1 w = true then none else some pg.2.length := by
  unfold brk
  rw [List.findIdx?_append]
  have z : pg.2.findIdx? (fun w => !ans pg.1 w) = none := brk_none.mpr h.all
  rw [z]
  by_cases c : ans pg.1 w = true
  · rw [if_pos c]
    simp [c]
  · rw [if_neg c]
    simp [c]
theorem behind_len {pg : Pg} {d : De} : (behind pg d).2.2.length ≤ pg.2.length + 1 := by
  cases d with
  | lift k => unfold behind; dsimp only; split <;> simp <;> omega
  | drop a => unfold behind; dsimp only; split <;> (try split) <;> simp
  | wish w => unfold behind; dsimp only; split <;> simp
  | put a π => unfold behind; dsimp only; split <;> simp
end KB
end
section
set_option Elab.async false
set_option linter.all false
set_option maxRecDepth 100000
set_option maxHeartbeats 4000000
/-! where the data lies -/
namespace KB
open PySem PySem.Spec PyProof.Rows L2 KM
/-! ### a heap without some addresses -/
def off (M : List Addr) (H : Hp) : Hp := fun b => if b ∈ M then none else H b
section
variable {M : List Addr} {H H' G G' : Hp} {p j m : Addr} {o : HO}
theorem off_le : Same (off M H) H := fun b u e => by
  unfold off at e
  by_cases c : b ∈ M
  · rw [if_pos c] at e; cases e
  · rw [if_neg c] at e; exact e
theorem off_at (h : p ∉ M) : off M H p = H p := if_neg h
theorem off_same (s : Same H H') : Same (off M H) (off M H') := fun b u e => by
  unfold off at *
  by_cases c : b ∈ M
  · rw [if_pos c] at e; cases e
  · rw [if_neg c] at *; exact s _ _ e
theorem off_in (h : m ∈ M) : off M (upd H m o) = off M H := funext fun b => by
  unfold off
  by_cases c : b ∈ M
  · rw [if_pos c, if_pos c]
  · rw [if_neg c, if_neg c, upd_ne fun z => c (by rw [z]; exact h)]
theorem off_out (h : p ∉ M) : off M (upd H p o) p = some o := by rw [off_at h, upd_same]
theorem off_jk (h : j ∈ M) (k : Jk j H H') : Same (off M H) (off M H') := fun b u e => by
  unfold off at *
  by_cases c : b ∈ M
  · rw [if_pos c] at e; cases e
  · rw [if_neg c] at *
    exact k.kept b u (fun z => c (by rw [z]; exact h)) e
theorem off_new (h : H p = none) : Same (off M H) (off M (upd H p o)) := off_same (same_new h)
theorem off_nil : off [] H = H := funext fun b => if_neg (by simp)
end
/-! ### dicts of shelves -/
abbrev Rl := Hp → Addr → Pl → Prop
def Ent (R : Rl) (G : Hp) (p : Str × Pl) (q : Key × V) : Prop := q.1 = .inr p.1 ∧ ∃ x, q.2 = .ref x ∧ R G x p.2
abbrev Ents (R : Rl) (G : Hp) : Sh → List (Key × V) → Prop := Paired (Ent R G)
def DAt (R : Rl) (G : Hp) (d : Addr) (sh : Sh) : Prop := ∃ kvs, G d = some (.dK kvs) ∧ Ents R G sh kvs
def Mono (R : Rl) : Prop := ∀ G G' x π, Same G G' → R G x π → R G' x π
theorem mono_plan : Mono PlanAt := fun _ _ _ _ s h => h.same s
theorem mono_num : Mono PNum := fun _ _ _ _ s h => h.same s
section
variable {R : Rl} {G G' H : Hp} {sh : Sh} {kvs : List (Key × V)} {a : Str} {π : Pl} {x d : Addr}
theorem Ents.same (mo : Mono R) (s : Same G G') (h : Ents R G sh kvs) : Ents R G' sh kvs := Paired.mapP h fun _ _ ⟨e, x, ex, r⟩ => ⟨e, x, ex, mo _ _ _ _ s r⟩
theorem DAt.same (mo : Mono R) (s : Same G G') (h : DAt R G d sh) : DAt R G' d sh := by
  obtain ⟨kvs, e, r⟩ := h
  exact ⟨kvs, s _ _ e, r.same mo s⟩
theorem Ents.len (h : Ents R G sh kvs) : sh.length = kvs.length := Paired.length h
theorem Ents.val : ∀ {sh : Sh} {kvs : List (Key × V)}, Ents R G sh kvs → ∀ a, (look sh a = none ∧ valV kvs (.inr a : Key) = none) ∨ ∃ π x, look sh a = some π ∧ valV kvs (.inr a : Key) = some (.ref x) ∧ R G x π
  | _, _, .nil, a => .inl ⟨rfl, rfl⟩
  | p :: r, q :: s, .cons ⟨e, x, ex, h⟩ t, a => by
    by_cases c : p.1 = a
    · refine .inr ⟨p.2, x, if_pos c, ?_, h⟩
      rw [valV_pos (by rw [e, c]), ex]
    · have i := Ents.val t a
      have e1 : look (p :: r) a = look r a := if_neg c
      have e2 : valV (q :: s) (.inr a : Key) = valV s (.inr a) := valV_neg (by rw [e]; exact fun z => c (Sum.inr.inj z))
      rw [e1, e2]
      exact i
theorem Ents.any (h : Ents R G sh kvs) (a : Str) : (kvs.any fun kv => decide (kv.1 = (.inr a : Key))) = (look sh a).isSome := by
  rw [valV_any]
  rcases h.val a with ⟨e1, e2⟩ | ⟨π, x, e1, e2, _⟩ <;> rw [e1, e2] <;> rfl
theorem Ents.put (h : Ents R G sh kvs) (r : R G x π) : Ents R G (put sh a π) (putK kvs (.inr a) (.ref x)) := by
  unfold KB.put putK
  rw [h.any a]
  by_cases c : (look sh a).isSome = true
  · rw [if_pos c, if_pos c]
    have key : ∀ {sh : Sh} {kvs : List (Key × V)}, Ents R G sh kvs → Ents R G (sh.map fun p => if p.1 = a then (p.1, π) else p) (kvs.map fun kv => if kv.1 = .inr a then (kv.1, .ref x) else kv) := by
      intro sh kvs h
      induction h with
      | nil => exact .nil
      | @cons p q ps qs e t ih =>
        rw [List.map_cons, List.map_cons]
        refine .cons ?_ ih
        obtain ⟨e1, y, ey, hy⟩ := e
        by_cases d : p.1 = a
        · rw [if_pos d, if_pos (by rw [e1, d])]
          exact ⟨e1, x, rfl, r⟩
        · rw [if_neg d, if_neg (by rw [e1]; exact fun z => d (Sum.inr.inj z))]
          exact ⟨e1, y, ey, hy⟩
    exact key h
  · rw [if_neg c, if_neg c]
    have key : ∀ {sh : Sh} {kvs : List (Key × V)}, Ents R G sh kvs → Ents R G (sh ++ [(a, π)]) (kvs ++ [(.inr a, .ref x)]) := by
      intro sh kvs h
      induction h with
      | nil => exact .cons ⟨rfl, x, rfl, r⟩ .nil
      | cons e t ih => exact .cons e ih
    exact key h
theorem Ents.keys : ∀ {sh : Sh} {kvs : List (Key × V)}, Ents R G sh kvs → kvs.map (·.1) = sh.map fun p => (.inr p.1 : Key)
  | _, _, .nil => rfl
  | p :: r, q :: s, .cons ⟨e, _⟩ t => by rw [List.map_cons, List.map_cons, Ents.keys t, e]
theorem Ents.get : ∀ {sh : Sh} {kvs : List (Key × V)} {i : Nat} {q : Key × V}, Ents R G sh kvs → kvs[i]? = some q → ∃ p, sh[i]? = some p ∧ Ent R G p q
  | _, _, 0, q, .cons (a := p) e _, h => by
    cases h
    exact ⟨p, rfl, e⟩
  | _, _, i + 1, q, .cons _ t, h => by
    obtain ⟨p, h1, h2⟩ := Ents.get t (show _ = some q from h)
    exact ⟨p, h1, h2⟩
theorem Ents.get' : ∀ {sh : Sh} {kvs : List (Key × V)} {i : Nat} {p : Str × Pl}, Ents R G sh kvs → sh[i]? = some p → ∃ q, kvs[i]? = some q ∧ Ent R G p q
  | _, _, 0, q, .cons (b := p) e _, h => by
    cases h
    exact ⟨p, rfl, e⟩
  | _, _, i + 1, q, .cons _ t, h => by
    obtain ⟨p, h1, h2⟩ := Ents.get' t (show _ = some q from h)
    exact ⟨p, h1, h2⟩
theorem Ents.drp : ∀ {sh : Sh} {kvs : List (Key × V)}, Ents R G sh kvs → ∀ a, Ents R G (drp sh a) (dropK kvs (.inr a))
  | _, _, .nil, _ => .nil
  | p :: r, q :: s, .cons e t, a => by
    unfold KB.drp dropK
    by_cases c : p.1 = a
    · rw [List.filter_cons_of_neg (by simpa using c), List.filter_cons_of_neg (by rw [e.1, c]; simp)]
      exact Ents.drp t a
    · rw [List.filter_cons_of_pos (by simpa using c), List.filter_cons_of_pos (by rw [e.1]; simpa using c)]
      exact .cons e (Ents.drp t a)
theorem DAt.get (h : DAt R G d sh) (s : Same G H) (a : Str) : ∃ o, DGet H d (.str a) o ∧ ((look sh a = none ∧ o = none) ∨ ∃ π x, look sh a = some π ∧ o = some (.ref x) ∧ R G x π) := by
  obtain ⟨kvs, e, r⟩ := h
  refine ⟨_, DGet.k (k := .inr a) (s _ _ e), ?_⟩
  exact r.val a
end
/-! ### wishes -/
def WiAt (G : Hp) (w : Wi) (v : V) : Prop := ∃ p, v = .ref p ∧ G p = some (.tup w.vals)
def WLs (G : Hp) (l : Addr) (ws : List Wi) : Prop := ∃ vs, G l = some (.lst vs) ∧ Paired (WiAt G) ws vs
def WTs (G : Hp) (t : Addr) (ws : List Wi) : Prop := ∃ vs, G t = some (.tup vs) ∧ Paired (WiAt G) ws vs
section
variable {G G' : Hp} {w : Wi} {v : V} {ws : List Wi} {l : Addr}
theorem WiAt.same (s : Same G G') (h : WiAt G w v) : WiAt G' w v := by
  obtain ⟨p, e, h⟩ := h
  exact ⟨p, e, s _ _ h⟩
theorem wis_same {vs : List V} (s : Same G G') (h : Paired (WiAt G) ws vs) : Paired (WiAt G') ws vs := Paired.mapP h fun _ _ => WiAt.same s
theorem WLs.same (s : Same G G') (h : WLs G l ws) : WLs G' l ws := by
  obtain ⟨vs, e, h⟩ := h
  exact ⟨vs, s _ _ e, wis_same s h⟩
theorem WTs.same (s : Same G G') (h : WTs G l ws) : WTs G' l ws := by
  obtain ⟨vs, e, h⟩ := h
  exact ⟨vs, s _ _ e, wis_same s h⟩
theorem prd_get {α β : Type} {F : α → β → Prop} : ∀ {xs : List α} {ys : List β} {i : Nat} {y : β}, Paired F xs ys → ys[i]? = some y → ∃ x, xs[i]? = some x ∧ F x y
  | _, _, 0, _, .cons e _, h => by
    cases h
    exact ⟨_, rfl, e⟩
  | _, _, i + 1, y, .cons _ t, h => by
    obtain ⟨x, h1, h2⟩ := prd_get t (show _ = some y from h)
    exact ⟨x, h1, h2⟩
theorem prd_get' {α β : Type} {F : α → β → Prop} : ∀ {xs : List α} {ys : List β} {i : Nat} {x : α}, Paired F xs ys → xs[i]? = some x → ∃ y, ys[i]? = some y ∧ F x y
  | _, _, 0, _, .cons e _, h => by
    cases h
    exact ⟨_, rfl, e⟩
  | _, _, i + 1, x, .cons _ t, h => by
    obtain ⟨y, h1, h2⟩ := prd_get' t (show _ = some x from h)
    exact ⟨y, h1, h2⟩
theorem prd_append {α β : Type} {F : α → β → Prop} : ∀ {xs xs' : List α} {ys ys' : List β}, Paired F xs ys → Paired F xs' ys' → Paired F (xs ++ xs') (ys ++ ys')
  | _, _, _, _, .nil, h => h
  | _, _, _, _, .cons e t, h => .cons e (prd_append t h)
theorem prd_take {α β : Type} {F : α → β → Prop} : ∀ {xs : List α} {ys : List β} (n : Nat), Paired F xs ys → Paired F (xs.take n) (ys.take n)
  | _, _, 0, _ => .nil
  | _, _, n + 1, .nil => .nil
  | _, _, n + 1, .cons e t => .cons e (prd_take n t)
theorem prd_drop {α β : Type} {F : α → β → Prop} : ∀ {xs : List α} {ys : List β} (n : Nat), Paired F xs ys → Paired F (xs.drop n) (ys.drop n)
  | _, _, 0, h => h
  | _, _, n + 1, .nil => .nil
  | _, _, n + 1, .cons e t => prd_drop n t
end
/-! ### pages, deeds, what is due -/
def PageAt (G : Hp) (pg : Pg) (v : V) : Prop := ∃ p d l, v = .ref p ∧ G p = some (.tup [.ref d, .ref l]) ∧ DAt PlanAt G d pg.1 ∧ WLs G l pg.2
def DeAt (G : Hp) (d : De) (v : V) : Prop := ∃ q, v = .ref q ∧ match d with
  | .lift k => G q = some (.lst [.str "lift", .int k])
  | .drop a => G q = some (.lst [.str "drop", .str a])
  | .wish w => ∃ p, G q = some (.lst [.str "wish", .ref p]) ∧ G p = some (.tup w.vals)
  | .put a π => ∃ p, G q = some (.lst [.str "put", .str a, .ref p]) ∧ PlanAt G p π
theorem PageAt.same {G G' : Hp} {pg : Pg} {v : V} (s : Same G G') (h : PageAt G pg v) : PageAt G' pg v := by
  obtain ⟨p, d, l, e, e1, e2, e3⟩ := h
  exact ⟨p, d, l, e, s _ _ e1, e2.same mono_plan s, e3.same s⟩
theorem DeAt.same {G G' : Hp} {d : De} {v : V} (s : Same G G') (h : DeAt G d v) : DeAt G' d v := by
  obtain ⟨q, e, h⟩ := h
  refine ⟨q, e, ?_⟩
  cases d with
  | lift k => exact s _ _ h
  | drop a => exact s _ _ h
  | wish w => obtain ⟨p, h1, h2⟩ := h; exact ⟨p, s _ _ h1, s _ _ h2⟩
  | put a π => obtain ⟨p, h1, h2⟩ := h; exact ⟨p, s _ _ h1, h2.same s⟩
def nText (k : Nat) : Str := toString (k : Int)
/-- the texts of what is due -/
def Due.parts : Due → List Str
  | .ok => []
  | .idx k => ["InvalidIndex", nText k]
  | .unk a => ["UnknownName", reprText a]
  | .brk k => ["Broken", nText k]
  | .use k => ["InUse", nText k]
def DueAt (G : Hp) (u : Due) (v : V) : Prop := ∃ q, v = .ref q ∧ G q = some (.lst (u.parts.map V.str))
end KB
end
section
set_option Elab.async false
set_option linter.all false
set_option maxRecDepth 100000
set_option maxHeartbeats 4000000
/-! names, wishes: what the program asks of them -/
namespace KB
open PySem PySem.Spec PyProof.Rows L2 KM
/-- the table of the wishes' forms -/
def FT (K : PySem.W.Frag) (w : World) : Prop := ∃ es n, KDict K w (He.ga K "FORMS") es n
theorem forms_vals {K : PySem.W.Frag} {mg : Str → Option Value} (W : Wd K mg) : He.valsB K (He.ga K "FORMS") [("splits", .int 3), ("whole", .int 3), ("always", .int 2), ("alike", .int 3)] = true := by
  have h := W.exAll.2.2.1
  unfold miscB at h
  exact (He.ba (He.ba (He.ba h).2).2).1
def Wi.form : Wi → Str
  | .sp true _ _ => "splits"
  | .sp false _ _ => "whole"
  | .al _ => "always"
  | .ak _ _ => "alike"
def Wi.size : Wi → Nat
  | .al _ => 2
  | _ => 3
theorem Wi.vals_head (w : Wi) : w.vals[0]? = some (.str w.form) := by cases w with
  | sp p a n => cases p <;> rfl
  | al a => rfl
  | ak a b => rfl
theorem Wi.vals_len (w : Wi) : w.vals.length = w.size := by cases w with
  | sp p a n => cases p <;> rfl
  | al a => rfl
  | ak a b => rfl
theorem FT.item {K : PySem.W.Frag} {mg : Str → Option Value} {w : World} (F : FT K w) (W : Wd K mg) (i : Wi) : ∃ u0, PySem.W.nsIn K (He.ga K "FORMS") i.form = some (some u0) ∧ RelV (.int i.size) u0 := by
  have h := forms_vals W
  cases i with
  | sp p a n =>
    cases p
    · exact He.valsB_ok h (q := ("whole", .int 3)) (by simp)
    · exact He.valsB_ok h (q := ("splits", .int 3)) (by simp)
  | al a => exact He.valsB_ok h (q := ("always", .int 2)) (by simp)
  | ak a b => exact He.valsB_ok h (q := ("alike", .int 3)) (by simp)
theorem FT.dct {K : PySem.W.Frag} {mg : Str → Option Value} {w : World} (F : FT K w) (W : Wd K mg) (i : Wi) : KDct K w (He.ga K "FORMS") i.form (.int i.size) := by
  obtain ⟨es, n, D⟩ := id F
  obtain ⟨u0, e, r⟩ := F.item W i
  exact ⟨es, n, u0, D.at_, D.lit, e, r⟩
section
variable {P : Program} {w : World} {K : PySem.W.Frag} {mg : Str → Option Value} {base : Heap}
/-! ### is_name -/
def spName : Sp := fun vs H Q _ => ∃ a : Str, vs = [.str a] ∧ a ∈ titles ∧ ∀ H', Same H H' → Q (.bl true) H'
theorem title_len {a : Str} (h : a ∈ titles) : 1 ≤ (a.length : Int) ∧ (a.length : Int) ≤ 8 := by
  have : ∀ a ∈ titles, 1 ≤ a.length ∧ a.length ≤ 8 := by decide +kernel
  obtain ⟨h1, h2⟩ := this a h
  omega
theorem title_signs {a : Str} (h : a ∈ titles) {i c : Nat} (hc : a.cps[i]? = some c) : c ∈ ("abcdefghijklmnopqrstuvwxyz" : Str).cps.toList := by
  have : ∀ a ∈ titles, ∀ c ∈ a.cps.toList, c ∈ ("abcdefghijklmnopqrstuvwxyz" : Str).cps.toList := by decide +kernel
  exact this a h c (Array.mem_toList_iff.mpr (Array.mem_of_getElem? hc))
theorem ok_is_name (W : Wd K mg) : OkD P w K mg base CX0 1 "is_name" ["value"] spName := by
  refine (fn_is_name W).ok sc_is_name (fun vs H Q E h => ?_) (fun cdv A outer s H vs Q E hr h => ?_)
  · obtain ⟨v, rfl, _⟩ := h
    rfl
  · obtain ⟨a, rfl, ha, k⟩ := h
    refine ⟨_, (pss_one (ps_ret (pe_and (pe_callB call_isi rfl (fr_isinstance W) (by decide +kernel) (pa_cons (pv 0) (pa_cons (pe_bltn rfl (fr_str W) (by decide +kernel) (show RelV (.ty "str") (.type "str") from rfl)) pa_nil))) (pe_and (pe_chain op_le op_le pe_int (pe_callB call_len_str rfl (fr_len W) (by decide +kernel) (pa_cons (pv 0) pa_nil)) (pe_int_MOST_LETTERS W)) (pe_one (pe_callB (cr_all rfl) rfl (fr_all W) (by decide +kernel) (pa_cons (pe_lc (own := [("sign", 1)]) (g := gName 1) (tt := tYes) rfl sc_is_name.nd (pi_str (pv 0)) (blkOk_by (own := [("sign", 1)]) (N := n_is_name) (sc := defScope s_is_name) (by decide +kernel)) (fun _ _ _ _ _ => pg_name (i := 1) sc_is_name.nd rfl (Or.inl rfl)) (fun _ _ _ _ _ => pts_nil) (fun _ _ _ _ _ => (pe_cmpR op_in_sign (pv 1) (pe_str_LETTERS W) (by rfl)))) pa_nil))))))), ?_⟩
    obtain ⟨l1, l2⟩ := title_len ha
    refine ⟨_, rfl, _, _, _, _, true, rfl, .ty "str", .base (.str _), kit_ty (by decide +kernel), _, rfl, iteT ?_⟩
    refine ⟨_, rfl, a, rfl, Nat.le_trans (show a.length ≤ 8 by omega) (show 8 ≤ sizeLine by decide), _, _, rfl, rfl, _, rfl, ite2D (fun _ => ?_) (fun z => absurd l1 z)⟩
    refine ⟨_, _, rfl, rfl, _, rfl, ?_⟩
    rw [decide_eq_true l2]
    refine iteT ⟨_, rfl, _, rfl, fun D hD => ?_⟩
    refine lc_it walk_str (fun i H' => Same H H' ∧ H' D = some (.lst ((List.replicate i true).map V.bl)) ∧ i ≤ 8) ⟨same_new hD, upd_same, Nat.zero_le _⟩ (fun _ _ _ _ => trivial) ?_ ?_
    · rintro i x H1 H2 hi ⟨s1, hd, h8⟩ ⟨rfl, c, hc, rfl⟩
      refine ⟨rfl, _, rfl, c, _, rfl, rfl, _, hd, ?_, same_mut s1 hD, ?_, ?_⟩
      · rw [List.length_map, List.length_replicate]
        exact small1000 (by omega)
      · rw [decide_eq_true (title_signs ha hc), upd_same]
        show some (HO.lst ((List.replicate i true).map V.bl ++ [.bl true])) = _
        rw [List.replicate_succ', List.map_append]
        rfl
      · have e : a.length = a.cps.size := rfl
        omega
    · rintro H1 ⟨s1, hd, _⟩
      refine ⟨D, _, rfl, .of hd, ?_⟩
      have e : (List.replicate a.cps.size true).all id = true := by simp
      rw [e]
      exact k H1 s1
/-! ### wishes -/
def spWord : Sp := fun vs H Q _ => ∃ (p : Addr) (i : Wi), vs = [.ref p] ∧ H p = some (.tup i.vals) ∧ Q (.bl true) H
theorem at_head (i : Wi) : atI i.vals 0 = some (.str i.form) := atI_nat (j := 0) i.vals_head
theorem ok_begins_with_word (W : Wd K mg) : OkD P w K mg base CX0 1 "begins_with_word" ["value"] spWord := by
  refine (fn_begins_with_word W).ok sc_begins_with_word (fun vs H Q E h => ?_) (fun cdv A outer s H vs Q E hr h => ?_)
  · obtain ⟨p, i, rfl, _⟩ := h
    rfl
  · obtain ⟨p, i, rfl, hp, k⟩ := h
    have hT : SqT K H p i.vals := .of hp
    refine ⟨_, (pss_one (ps_ret (pe_and (pe_callB call_isi rfl (fr_isinstance W) (by decide +kernel) (pa_cons (pv 0) (pa_cons (pe_bltn rfl (fr_tuple W) (by decide +kernel) (show RelV (.ty "tuple") (.type "tuple") from rfl)) pa_nil))) (pe_and (pe_cmpR op_gt (pe_callB call_len rfl (fr_len W) (by decide +kernel) (pa_cons (pv 0) pa_nil)) pe_int (nomark _)) (pe_one (pe_callB call_isi rfl (fr_isinstance W) (by decide +kernel) (pa_cons (pe_ix ix_tup (pv 0) pe_int (fun _ _ => rfl)) (pa_cons (pe_bltn rfl (fr_str W) (by decide +kernel) (show RelV (.ty "str") (.type "str") from rfl)) pa_nil)))))))), ?_⟩
    refine ⟨_, rfl, _, _, _, _, true, rfl, .ty "tuple", .base (.tup hp), kit_ty (by decide +kernel), _, rfl, iteT ?_⟩
    refine ⟨_, rfl, _, _, rfl, .inr ⟨_, hT, rfl⟩, _, _, rfl, rfl, _, rfl, ite2D (fun _ => ?_) (fun z => ?_)⟩
    · exact ⟨_, rfl, _, _, _, _, rfl, rfl, hT, at_head i, _, _, _, _, true, rfl, .ty "str", .base (.str _), kit_ty (by decide +kernel), k⟩
    · refine absurd ?_ z
      rw [i.vals_len]
      cases i <;> simp [Wi.size]
def spIsWish : Sp := fun vs H Q _ => ∃ (p : Addr) (i : Wi), vs = [.ref p] ∧ H p = some (.tup i.vals) ∧ i.Ok ∧ ∀ H', Same H H' → Q (.bl true) H'
theorem ok_is_wish (W : Wd K mg) (F : FT K w) : OkD P w K mg base CX0 3 "is_wish" ["value"] spIsWish := by
  have O_begins_with_word := ok_begins_with_word (P := P) (w := w) (base := base) W
  have O_is_between := ok_is_between (P := P) (w := w) (base := base) W
  obtain ⟨es, n, D⟩ := id F
  refine (fn_is_wish W).ok sc_is_wish (fun vs H Q E h => ?_) (fun cdv A outer s H vs Q E hr h => ?_)
  · obtain ⟨p, i, rfl, _⟩ := h
    rfl
  · obtain ⟨p, i, rfl, hp, ho, k⟩ := h
    have hT : SqT K H p i.vals := .of hp
    obtain ⟨u0, e0, r0⟩ := F.item W i
    refine ⟨_, (pss_cons (ps_if (PW.pt (pw_or (pt_not (pt_val (pcall O_begins_with_word (hr.mono (by decide)) (pa_cons (pv 0) pa_nil)))) (pw_or (pt_cmpR (op_notIn_kd D) (pe_ix ix_tup (pv 0) pe_int (fun _ _ => rfl)) (pe_glob rfl (gl_FORMS W) (show RelV (.ref (He.ga K "FORMS")) (.ref (He.ga K "FORMS")) from rfl)) (by rfl)) (pw_or1 (pt_cmpR op_ne (pe_callB call_len rfl (fr_len W) (by decide +kernel) (pa_cons (pv 0) pa_nil)) (pe_ix ix_kdict (pe_glob rfl (gl_FORMS W) (show RelV (.ref (He.ga K "FORMS")) (.ref (He.ga K "FORMS")) from rfl)) (pe_ix ix_tup (pv 0) pe_int (fun _ _ => rfl)) (fun _ _ => rfl)) (nomark _)))))) (pss_one (ps_ret pe_bl)) pss_nil)
      (pss_one (ps_ret (pe_or (pe_cmpR op_in_seq (pe_ix ix_tup (pv 0) pe_int (fun _ _ => rfl)) (pe_tup (pa_cons pe_str (pa_cons pe_str pa_nil))) (by rfl)) (pe_one (pcall O_is_between (hr.mono (by decide)) (pa_cons (pe_ix ix_tup (pv 0) pe_int (fun _ _ => rfl)) (pa_cons pe_int (pa_cons (pe_int_MOST_SIZE W) pa_nil))))))))), ?_⟩
    refine ⟨_, rfl, p, i, rfl, hp, _, rfl, iteF ?_⟩
    refine ⟨_, rfl, _, _, _, _, rfl, rfl, hT, at_head i, _, _, rfl, rfl, e0, _, rfl, iteF ?_⟩
    refine ⟨_, rfl, _, _, rfl, .inr ⟨_, hT, rfl⟩, _, rfl, _, _, _, _, rfl, rfl, hT, at_head i, _, _, _, rfl, rfl, F.dct W i, rfl, _, rfl, ?_⟩
    rw [i.vals_len]
    refine iteNS rfl ?_
    refine ⟨_, rfl, _, _, _, _, rfl, rfl, hT, at_head i, by show 2 ≤ sizeLine; decide, fun q hq => ⟨q, _, rfl, .inr (.of upd_same), rfl, rfl, _, rfl, ?_⟩⟩
    have sq := same_new (o := .tup [.str "always", .str "alike"]) hq
    cases i with
    | al a => exact iteT (k _ sq)
    | ak a b => exact iteT (k _ sq)
    | sp b a n =>
      have hn : NOk n := ho.2
      have hT2 : SqT K (upd H q (.tup [.str "always", .str "alike"])) p (Wi.sp b a n).vals := .of (sq _ _ hp)
      have e2 : atI (Wi.sp b a n).vals 2 = some (.int n) := by cases b <;> rfl
      have e3 : inV (.str (Wi.sp b a n).form) [.str "always", .str "alike"] = false := by
        cases b
        · exact (by decide +kernel : inV (.str "whole") [.str "always", .str "alike"] = false)
        · exact (by decide +kernel : inV (.str "splits") [.str "always", .str "alike"] = false)
      show if inV (.str (Wi.sp b a n).form) [.str "always", .str "alike"] = true then _ else _
      rw [e3]
      refine iteF ⟨_, rfl, _, _, _, _, rfl, rfl, hT2, e2, _, _, _, rfl, ?_⟩
      rw [decide_eq_true (show (1 : Int) ≤ (n : Int) ∧ (n : Int) ≤ 1000000000000000000000000000000 from by
        obtain ⟨h1, h2⟩ := hn
        omega)]
      exact k _ sq
def spNames : Sp := fun vs H Q _ => ∃ (p : Addr) (i : Wi), vs = [.ref p] ∧ H p = some (.tup i.vals) ∧ ∀ q H', Same H H' → H' q = some (.tup (i.names.map V.str)) → Q (.ref q) H'
theorem dec_form (i : Wi) : decide (V.str i.form = V.str "alike") = (match i with | .ak _ _ => true | _ => false) := by
  cases i with
  | sp b a n =>
    cases b
    · exact (by decide +kernel : decide (V.str "whole" = V.str "alike") = false)
    · exact (by decide +kernel : decide (V.str "splits" = V.str "alike") = false)
  | al a => exact (by decide +kernel : decide (V.str "always" = V.str "alike") = false)
  | ak a b => exact (by decide +kernel : decide (V.str "alike" = V.str "alike") = true)
theorem cut_names (i : Wi) : cutV i.vals (some 1) (some (match i with | .ak _ _ => 3 | _ => 2)) = i.names.map V.str := by
  cases i with
  | sp b a n => cases b <;> rfl
  | al a => rfl
  | ak a b => rfl
theorem cut_part (i : Wi) (hi : Option Int) : ¬ (HT.sIx i.vals.length 0 (some 1) = 0 ∧ HT.sIx i.vals.length i.vals.length hi = i.vals.length) := by
  intro h
  have h1 := h.1
  rw [i.vals_len] at h1
  cases i with
  | al a => exact absurd h1 (by decide +kernel : ¬ HT.sIx 2 0 (some 1) = 0)
  | sp b a n => exact absurd h1 (by decide +kernel : ¬ HT.sIx 3 0 (some 1) = 0)
  | ak a b => exact absurd h1 (by decide +kernel : ¬ HT.sIx 3 0 (some 1) = 0)
theorem ok_names_in (W : Wd K mg) : OkD P w K mg base CX0 1 "names_in" ["wish"] spNames := by
  refine (fn_names_in W).ok sc_names_in (fun vs H Q E h => ?_) (fun cdv A outer s H vs Q E hr h => ?_)
  · obtain ⟨p, i, rfl, _⟩ := h
    rfl
  · obtain ⟨p, i, rfl, hp, k⟩ := h
    have hT : SqT K H p i.vals := .of hp
    refine ⟨_, (pss_one (ps_ret (pe_ifExp (pt_cmpR op_eq (pe_ix ix_tup (pv 0) pe_int (fun _ _ => rfl)) pe_str (nomark _)) (pe_slice sl_tupA (pv 0) (po_some pe_int) (po_some pe_int)) (pe_slice sl_tupA (pv 0) (po_some pe_int) (po_some pe_int))))), ?_⟩
    refine ⟨_, rfl, _, _, _, _, rfl, rfl, hT, at_head i, rfl, _, rfl, ?_⟩
    rw [dec_form]
    have fin : ∀ hi, cutV i.vals (some 1) (some hi) = i.names.map V.str → ∀ q, H q = none → Q (.ref q) (upd H q (.tup (cutV i.vals (some 1) (some hi)))) := fun hi e q hq => by
      rw [e]
      exact k q _ (same_new hq) upd_same
    cases i with
    | ak a b => exact iteT ⟨_, rfl, _, rfl, _, rfl, p, _, rfl, hT, fun z => absurd z (cut_part _ _), fun _ q hq => fin 3 (cut_names (.ak a b)) q hq⟩
    | al a => exact iteF ⟨_, rfl, _, rfl, _, rfl, p, _, rfl, hT, fun z => absurd z (cut_part _ _), fun _ q hq => fin 2 (cut_names (.al a)) q hq⟩
    | sp b a n => exact iteF ⟨_, rfl, _, rfl, _, rfl, p, _, rfl, hT, fun z => absurd z (cut_part _ _), fun _ q hq => fin 2 (cut_names (.sp b a n)) q hq⟩
theorem ok__law_named (W : Wd K mg) : OkD P w K mg base CX0 1 "_law_named" ["_law_due"] spNames := by
  refine (fn__law_named W).ok sc__law_named (fun vs H Q E h => ?_) (fun cdv A outer s H vs Q E hr h => ?_)
  · obtain ⟨p, i, rfl, _⟩ := h
    rfl
  · obtain ⟨p, i, rfl, hp, k⟩ := h
    have hT : SqT K H p i.vals := .of hp
    refine ⟨_, (pss_one (ps_ret (pe_ifExp (pt_cmpR op_eq (pe_ix ix_tup (pv 0) pe_int (fun _ _ => rfl)) pe_str (nomark _)) (pe_slice sl_tupA (pv 0) (po_some pe_int) (po_some pe_int)) (pe_slice sl_tupA (pv 0) (po_some pe_int) (po_some pe_int))))), ?_⟩
    refine ⟨_, rfl, _, _, _, _, rfl, rfl, hT, at_head i, rfl, _, rfl, ?_⟩
    rw [dec_form]
    have fin : ∀ hi, cutV i.vals (some 1) (some hi) = i.names.map V.str → ∀ q, H q = none → Q (.ref q) (upd H q (.tup (cutV i.vals (some 1) (some hi)))) := fun hi e q hq => by
      rw [e]
      exact k q _ (same_new hq) upd_same
    cases i with
    | ak a b => exact iteT ⟨_, rfl, _, rfl, _, rfl, p, _, rfl, hT, fun z => absurd z (cut_part _ _), fun _ q hq => fin 3 (cut_names (.ak a b)) q hq⟩
    | al a => exact iteF ⟨_, rfl, _, rfl, _, rfl, p, _, rfl, hT, fun z => absurd z (cut_part _ _), fun _ q hq => fin 2 (cut_names (.al a)) q hq⟩
    | sp b a n => exact iteF ⟨_, rfl, _, rfl, _, rfl, p, _, rfl, hT, fun z => absurd z (cut_part _ _), fun _ q hq => fin 2 (cut_names (.sp b a n)) q hq⟩
end
end KB
end
section
set_option Elab.async false
set_option linter.all false
set_option maxRecDepth 100000
set_option maxHeartbeats 4000000
/-! does a wish hold: the program's answer, the law's -/
namespace KB
open PySem PySem.Spec PyProof.Rows L2 KM
theorem DAt.has {R : Rl} {H : Hp} {d : Addr} {sh : Sh} (h : DAt R H d sh) (a : Str) : ∃ o, DGet H d (.str a) o ∧ o.isSome = (look sh a).isSome := by
  obtain ⟨o, g, c⟩ := h.get (Same.refl _) a
  refine ⟨o, g, ?_⟩
  rcases c with ⟨e1, e2⟩ | ⟨π, x, e1, e2, _⟩ <;> rw [e1, e2] <;> rfl
theorem DAt.at_ {R : Rl} {H : Hp} {d : Addr} {sh : Sh} (h : DAt R H d sh) {a : Str} {π : Pl} (e : look sh a = some π) : ∃ x, DGet H d (.str a) (some (.ref x)) ∧ R H x π := by
  obtain ⟨o, g, c⟩ := h.get (Same.refl _) a
  rcases c with ⟨e1, _⟩ | ⟨ρ, x, e1, e2, r⟩
  · rw [e] at e1; cases e1
  · rw [e] at e1
    cases e1
    exact ⟨x, by rw [← e2]; exact g, r⟩
theorem dp_nats {K : PySem.W.Frag} {H : Hp} : ∀ l : List Nat, DpAll K H (nI l) (l.map fun p => PyData.int (p : Nat))
  | [] => .nil
  | i :: l => .cons (.int i) (dp_nats l)
theorem fits_nats (l : List Nat) : ∀ d ∈ l.map (fun p => PyData.int (p : Nat)), Fits 0 d := fun d hd => by
  obtain ⟨i, _, rfl⟩ := List.mem_map.mp hd
  exact fits_int i
theorem fits_kind {mk : List PyData → PyData} (hm : ∀ n ds, (∀ d ∈ ds, Fits n d) → Fits (n + 1) (mk ds)) (π : Pl) : Fits 2 (mk (kindL mk π)) := by
  refine hm 1 _ fun d hd => ?_
  unfold kindL at hd
  simp only [List.mem_cons, List.not_mem_nil, or_false] at hd
  rcases hd with rfl | rfl | rfl
  · exact (fits_int _).up (Nat.zero_le _)
  · split
    · exact (fits_str (by decide +kernel)).up (Nat.zero_le _)
    · exact hm 0 _ (fits_nats _)
  · exact (fits_bool _).up (Nat.zero_le _)
theorem kind_dp {K : PySem.W.Frag} {H : Hp} {p : Addr} {π : Pl} (h : KindAt H p π) : Dp K H (.ref p) (.tuple (kindL .tuple π)) := by
  unfold kindL
  rcases h with ⟨g, h⟩ | ⟨g, q, hq, h⟩
  · rw [if_pos g]
    exact .tup (.of h) (.cons (.int _) (.cons (.str _) (.cons (.bl _) .nil)))
  · rw [if_neg g]
    exact .tup (.of h) (.cons (.int _) (.cons (.tup (.of hq) (dp_nats _)) (.cons (.bl _) .nil)))
theorem lkind_dp {K : PySem.W.Frag} {H : Hp} {p : Addr} {π : Pl} (h : LKindAt H p π) : Dp K H (.ref p) (.list (kindL .list π)) := by
  unfold kindL
  rcases h with ⟨g, h⟩ | ⟨g, q, hq, h⟩
  · rw [if_pos g]
    exact .lst (.of h) (.cons (.int _) (.cons (.str _) (.cons (.bl _) .nil)))
  · rw [if_neg g]
    exact .lst (.of h) (.cons (.int _) (.cons (.lst (.of hq) (dp_nats _)) (.cons (.bl _) .nil)))
theorem KindAt.same {H H' : Hp} {p : Addr} {π : Pl} (h : KindAt H p π) (s : Same H H') : KindAt H' p π := by
  rcases h with ⟨g, h⟩ | ⟨g, q, hq, h⟩
  · exact .inl ⟨g, s _ _ h⟩
  · exact .inr ⟨g, q, s _ _ hq, s _ _ h⟩
theorem LKindAt.same {H H' : Hp} {p : Addr} {π : Pl} (h : LKindAt H p π) (s : Same H H') : LKindAt H' p π := by
  rcases h with ⟨g, h⟩ | ⟨g, q, hq, h⟩
  · exact .inl ⟨g, s _ _ h⟩
  · exact .inr ⟨g, q, s _ _ hq, s _ _ h⟩
/-- all names of a wish are there -/
def known (sh : Sh) (i : Wi) : Bool := i.names.all fun a => (look sh a).isSome
theorem ans_known {sh : Sh} {i : Wi} (h : known sh i = false) : ans sh i = false := by
  unfold known at h
  cases i with
  | sp b a n =>
    cases e : look sh a with
    | none => simp [ans, e]
    | some π => simp [Wi.names, e] at h
  | al a =>
    cases e : look sh a with
    | none => simp [ans, e]
    | some π => simp [Wi.names, e] at h
  | ak a b =>
    cases e : look sh a with
    | none => simp [ans, e]
    | some π =>
      cases e2 : look sh b with
      | none => simp [ans, e, e2]
      | some ρ => simp [Wi.names, e, e2] at h
theorem dec_always (i : Wi) : decide (V.str i.form = V.str "always") = (match i with | .al _ => true | _ => false) := by
  cases i with
  | sp b a n =>
    cases b
    · exact (by decide +kernel : decide (V.str "whole" = V.str "always") = false)
    · exact (by decide +kernel : decide (V.str "splits" = V.str "always") = false)
  | al a => exact (by decide +kernel : decide (V.str "always" = V.str "always") = true)
  | ak a b => exact (by decide +kernel : decide (V.str "alike" = V.str "always") = false)
theorem dec_splits (b : Bool) (a : Str) (n : Nat) : decide (V.str (Wi.sp b a n).form = V.str "splits") = b := by
  cases b
  · exact (by decide +kernel : decide (V.str "whole" = V.str "splits") = false)
  · exact (by decide +kernel : decide (V.str "splits" = V.str "splits") = true)
theorem at_one {i : Wi} : ∃ a, i.names[0]? = some a ∧ atI i.vals 1 = some (.str a) := by
  cases i with
  | sp b a n => exact ⟨a, rfl, by cases b <;> rfl⟩
  | al a => exact ⟨a, rfl, rfl⟩
  | ak a b => exact ⟨a, rfl, rfl⟩
theorem known_look {sh : Sh} {i : Wi} (h : known sh i = true) {a : Str} (ha : a ∈ i.names) : ∃ π, look sh a = some π := by
  have z := List.all_eq_true.mp h a ha
  cases e : look sh a with
  | none => rw [e] at z; cases z
  | some π => exact ⟨π, rfl⟩
theorem names_len (i : Wi) : i.names.length ≤ 2 := by cases i <;> simp [Wi.names]
section
variable {P : Program} {w : World} {K : PySem.W.Frag} {mg : Str → Option Value} {base : Heap}
def spHolds : Sp := fun vs H Q _ => ∃ (p d : Addr) (i : Wi) (sh : Sh), vs = [.ref p, .ref d] ∧ H p = some (.tup i.vals) ∧ i.Ok ∧ DAt PNum H d sh ∧ ShOk sh ∧ ∀ H', Same H H' → Q (.bl (ans sh i)) H'
theorem ok_holds (W : Wd K mg) : OkD P w K mg base CX0 10 "holds" ["wish", "numbers"] spHolds := by
  have O_names_in := ok_names_in (P := P) (w := w) (base := base) W
  have O_is_always := ok_is_always (P := P) (w := w) (base := base) W
  have O_kind_of := ok_kind_of (P := P) (w := w) (base := base) W
  have O_does_split := ok_does_split (P := P) (w := w) (base := base) W
  refine (fn_holds W).ok sc_holds (fun vs H Q E h => ?_) (fun cdv A outer s H vs Q E hr h => ?_)
  · obtain ⟨p, d, i, sh, rfl, _⟩ := h
    rfl
  · obtain ⟨p, d, i, sh, rfl, hp, ho, hd, hsh, k⟩ := h
    have hu := hu_of hr
    have hT : SqT K H p i.vals := .of hp
    refine ⟨_, (pss_cons (ps_if (pt_not (pt_val (pe_callB (cr_all rfl) rfl (fr_all W) (by decide +kernel) (pa_cons (pe_lc (own := [("name", 3)]) (g := gName 3) (tt := tYes) rfl sc_holds.nd (pi_tup (pcall O_names_in (hr.mono (by decide)) (pa_cons (pv 0) pa_nil))) (blkOk_by (own := [("name", 3)]) (N := n_holds) (sc := defScope s_holds) (by decide +kernel)) (fun _ _ _ _ _ => pg_name (i := 3) sc_holds.nd rfl (Or.inl rfl)) (fun _ _ _ _ _ => pts_nil) (fun _ _ _ _ _ => (pe_and (pe_callB (id := "isinstance") (r := rIsi K) call_isi rfl (fr_isinstance W) (by decide +kernel) (pa_cons (pv 3) (pa_cons (pe_bltn rfl (fr_str W) (by decide +kernel) (show RelV (.ty "str") (.type "str") from rfl)) pa_nil))) (pe_one (pe_cmp (pc_din hu (pv 3) (pv 1))))))) pa_nil)))) (pss_one (ps_ret pe_bl)) pss_nil)
      (pss_cons (ps_set (i := 2) sc_holds.nd rfl (.inl rfl) (pe_dget hu (pv 1) (pe_ix ix_tup (pv 0) pe_int (fun _ _ => rfl)) (fun _ _ => rfl)))
      (pss_cons (ps_if (pt_cmpR op_eq (pe_ix ix_tup (pv 0) pe_int (fun _ _ => rfl)) pe_str (nomark _)) (pss_one (ps_ret (pcall O_is_always (hr.mono (by decide)) (pa_cons (pv 2) pa_nil)))) pss_nil)
      (pss_cons (ps_if (pt_cmpR op_eq (pe_ix ix_tup (pv 0) pe_int (fun _ _ => rfl)) pe_str (nomark _)) (pss_one (ps_ret (pe_cmpR (op_eqD hr.units) (pcall O_kind_of (hr.mono (by decide)) (pa_cons (pv 2) pa_nil)) (pcall O_kind_of (hr.mono (by decide)) (pa_cons (pe_dget hu (pv 1) (pe_ix ix_tup (pv 0) pe_int (fun _ _ => rfl)) (fun _ _ => rfl)) pa_nil)) (nomark _)))) pss_nil)
      (pss_one (ps_ret (pe_cmpR op_eq (pcall O_does_split (hr.mono (by decide)) (pa_cons (pv 2) (pa_cons (pe_ix ix_tup (pv 0) pe_int (fun _ _ => rfl)) pa_nil))) (pe_cmpR op_eq (pe_ix ix_tup (pv 0) pe_int (fun _ _ => rfl)) pe_str (nomark _)) (nomark _)))))))), ?_⟩
    -- all names are there
    refine ⟨_, rfl, p, i, rfl, hp, fun q H1 s1 hq => ⟨q, rfl, ⟨_, .of hq⟩, fun D hD => ?_⟩⟩
    refine lc_tup (K := K) (a := q) (xs := i.names.map V.str) (fun j H' => Same H1 H' ∧ H' D = some (.lst (((i.names.take j).map fun a => (look sh a).isSome).map V.bl)))
      ⟨same_new hD, upd_same⟩ (fun _ _ _ h => .of (h.1 _ _ hq)) ?_ ?_
    · rintro j x H2 hj ⟨s2, h2⟩
      obtain ⟨a, ha, rfl⟩ : ∃ a, i.names[j]? = some a ∧ x = .str a := by
        rw [List.getElem?_map] at hj
        cases e : i.names[j]? with
        | none => rw [e] at hj; cases hj
        | some a => rw [e] at hj; exact ⟨a, rfl, (Option.some.inj hj).symm⟩
      obtain ⟨o, g, eo⟩ := (hd.same mono_num (s1.trans s2)).has a
      refine ⟨rfl, _, rfl, _, _, _, _, true, rfl, .ty "str", .base (.str _), kit_ty (by decide +kernel), _, rfl, iteT ?_⟩
      refine ⟨_, rfl, _, rfl, _, o, rfl, g, _, h2, ?_, same_mut s2 hD, ?_⟩
      · rw [List.length_map, List.length_map, List.length_take]
        have := names_len i
        exact small1000 (by omega)
      · rw [upd_same, take_one ha, List.map_append, List.map_append, eo]
        rfl
    · rintro H2 ⟨s2, h2⟩
      have hd2 := hd.same mono_num (s1.trans s2)
      have hT2 : SqT K H2 p i.vals := .of (s2 _ _ (s1 _ _ hp))
      have s02 := s1.trans s2
      refine ⟨D, _, rfl, .of h2, _, rfl, ?_⟩
      have e : (((i.names.take (i.names.map V.str).length).map fun a => (look sh a).isSome).all id) = known sh i := by
        rw [List.length_map, List.take_length, List.all_map]
        rfl
      rw [e]
      cases hk : known sh i with
      | false =>
        refine iteT ?_
        have z := k H2 s02
        rw [ans_known hk] at z
        exact z
      | true =>
        refine iteF ?_
        obtain ⟨a, ha, h1⟩ := at_one (i := i)
        obtain ⟨π, hπ⟩ := known_look hk (List.mem_of_getElem? ha)
        obtain ⟨x, g, hx⟩ := hd2.at_ hπ
        have oπ := (look_ok hsh hπ).2
        refine ⟨_, rfl, _, rfl, _, _, _, _, rfl, rfl, hT2, h1, _, _, rfl, g, ?_⟩
        refine ⟨_, rfl, _, _, _, _, rfl, rfl, hT2, at_head i, rfl, _, rfl, ?_⟩
        rw [dec_always]
        cases i with
        | al b =>
          cases ha
          refine iteT ⟨_, rfl, x, π, rfl, hx, oπ, fun H3 s3 => ?_⟩
          have z := k H3 (s02.trans s3)
          simp only [ans, hπ] at z
          exact z
        | ak b c =>
          cases ha
          refine iteF ⟨_, rfl, _, _, _, _, rfl, rfl, hT2, at_head _, rfl, _, rfl, ?_⟩
          rw [dec_form]
          obtain ⟨ρ, hρ⟩ := known_look hk (a := c) (by simp [Wi.names])
          have oρ := (look_ok hsh hρ).2
          refine iteT ⟨_, rfl, x, π, rfl, hx, oπ, fun q1 H3 s3 k1 => ?_⟩
          obtain ⟨y, gy, hy⟩ := (hd2.same mono_num s3).at_ hρ
          refine ⟨_, rfl, _, rfl, _, _, _, _, rfl, rfl, SqT.of (s3 _ _ (s02 _ _ hp)), rfl, _, _, rfl, gy, y, ρ, rfl, hy, oρ, fun q2 H4 s4 k2 => ?_⟩
          refine ⟨_, _, kind_dp (k1.same s4), kind_dp k2, (fits_kind (fun _ _ => fits_tuple) π).shaped (by decide), (fits_kind (fun _ _ => fits_tuple) ρ).shaped (by decide), ?_⟩
          have z := k H4 ((s02.trans s3).trans s4)
          simp only [ans, hπ, hρ] at z
          show Q (.bl (PyData.eqvAll (kindL .tuple π) (kindL .tuple ρ))) H4
          rw [alike_tup]
          exact z
        | sp b c n =>
          cases ha
          refine iteF ⟨_, rfl, _, _, _, _, rfl, rfl, hT2, at_head _, rfl, _, rfl, ?_⟩
          rw [dec_form]
          have h2 : atI (Wi.sp b a n).vals 2 = some (.int n) := by cases b <;> rfl
          refine iteF ⟨_, rfl, _, rfl, _, _, _, _, rfl, rfl, hT2, h2, x, π, n, rfl, hx, oπ, ho.2.1, fun H3 s3 => ?_⟩
          refine ⟨_, rfl, _, _, _, _, rfl, rfl, SqT.of (s3 _ _ (s02 _ _ hp)), at_head _, rfl, rfl, ?_⟩
          have z := k H3 (s02.trans s3)
          simp only [ans, hπ] at z
          rw [dec_splits, dec_bl]
          exact z
end
end KB
end
section
set_option Elab.async false
set_option linter.all false
set_option maxRecDepth 100000
set_option maxHeartbeats 4000000
/-! the law's answers about wishes and pages -/
namespace KB
open PySem PySem.Spec PyProof.Rows L2 KM
theorem find_at {α : Type} {f : α → Bool} {l : List α} {j : Nat} {x : α} (h : l[j]? = some x) (hx : f x = true) (hb : ∀ i y, i < j → l[i]? = some y → f y = false) : l.findIdx? f = some j := by
  rw [List.findIdx?_eq_some_iff_getElem]
  obtain ⟨hj, e⟩ := List.getElem?_eq_some_iff.mp h
  refine ⟨hj, by rw [e]; exact hx, fun i hi => ?_⟩
  rw [hb i _ hi (List.getElem?_eq_getElem (by omega))]
  decide
theorem find_no {α : Type} {f : α → Bool} {l : List α} (h : ∀ i y, i < l.length → l[i]? = some y → f y = false) : l.findIdx? f = none := by
  rw [List.findIdx?_eq_none_iff]
  intro x hx
  obtain ⟨i, hi, e⟩ := List.getElem_of_mem hx
  exact h i x hi (by rw [List.getElem?_eq_getElem hi, e])
theorem prd_len {α β : Type} {F : α → β → Prop} {xs : List α} {ys : List β} (h : Paired F xs ys) : xs.length = ys.length := Paired.length h
def isAk : Wi → Bool
  | .ak _ _ => true
  | _ => false
theorem dec_ak (i : Wi) : decide (V.str i.form = V.str "alike") = isAk i := dec_form i
theorem cut_ak {i : Wi} (h : isAk i = true) : cutV i.vals (some 1) (some 3) = i.names.map V.str := by
  cases i with
  | ak a b => rfl
  | sp b a n => cases h
  | al a => cases h
theorem cut_no {i : Wi} (h : isAk i = false) : cutV i.vals (some 1) (some 2) = i.names.map V.str := by
  cases i with
  | ak a b => cases h
  | sp b a n => cases b <;> rfl
  | al a => rfl
theorem str_get {l : List Str} {j : Nat} {x : V} (h : (l.map V.str)[j]? = some x) : ∃ a, l[j]? = some a ∧ x = .str a := by
  rw [List.getElem?_map] at h
  cases e : l[j]? with
  | none => rw [e] at h; cases h
  | some a => rw [e] at h; exact ⟨a, rfl, (Option.some.inj h).symm⟩
section
variable {P : Program} {w : World} {K : PySem.W.Frag} {mg : Str → Option Value} {base : Heap}
def spLAns : Sp := fun vs H Q _ => ∃ (d p : Addr) (i : Wi) (sh : Sh), vs = [.ref d, .ref p] ∧ H p = some (.tup i.vals) ∧ i.Ok ∧ DAt PlanAt H d sh ∧ ShOk sh ∧ ∀ H', Same H H' → Q (.bl (ans sh i)) H'
theorem ok__law_answer (W : Wd K mg) : OkD P w K mg base CX0 4 "_law_answer" ["_law_shelf", "_law_due"] spLAns := by
  have O__law_is_always := ok__law_is_always (P := P) (w := w) (base := base) W
  have O__law_kind := ok__law_kind (P := P) (w := w) (base := base) W
  have O__law_splits := ok__law_splits (P := P) (w := w) (base := base) W
  refine (fn__law_answer W).ok sc__law_answer (fun vs H Q E h => ?_) (fun cdv A outer s H vs Q E hr h => ?_)
  · obtain ⟨d, p, i, sh, rfl, _⟩ := h
    rfl
  · obtain ⟨d, p, i, sh, rfl, hp, ho, hd, hsh, k⟩ := h
    have hu := hu_of hr
    have hT : SqT K H p i.vals := .of hp
    refine ⟨_, (pss_cons (ps_for PassesOwn.never rfl (pi_tup (pe_ifExp (pt_cmpR op_eq (pe_ix ix_tup (pv 1) pe_int (fun _ _ => rfl)) pe_str (nomark _)) (pe_slice sl_tupA (pv 1) (po_some pe_int) (po_some pe_int)) (pe_slice sl_tupA (pv 1) (po_some pe_int) (po_some pe_int)))) (pg_name (i := 2) sc__law_answer.nd rfl (.inl rfl)) (pss_one (ps_if (PW.pt (pw_or (pt_not (pt_val (pe_callB call_isi rfl (fr_isinstance W) (by decide +kernel) (pa_cons (pv 2) (pa_cons (pe_bltn rfl (fr_str W) (by decide +kernel) (show RelV (.ty "str") (.type "str") from rfl)) pa_nil))))) (pw_or1 (pt_cmp (pc_dnotin hu (pv 2) (pv 0)))))) (pss_one (ps_ret pe_bl)) pss_nil)))
      (pss_cons (ps_if (pt_cmpR op_eq (pe_ix ix_tup (pv 1) pe_int (fun _ _ => rfl)) pe_str (nomark _)) (pss_one (ps_ret (pcall O__law_is_always (hr.mono (by decide)) (pa_cons (pe_dget hu (pv 0) (pe_ix ix_tup (pv 1) pe_int (fun _ _ => rfl)) (fun _ _ => rfl)) pa_nil)))) pss_nil)
      (pss_cons (ps_if (pt_cmpR op_eq (pe_ix ix_tup (pv 1) pe_int (fun _ _ => rfl)) pe_str (nomark _)) (pss_one (ps_ret (pe_cmpR (op_eqD hr.units) (pcall O__law_kind (hr.mono (by decide)) (pa_cons (pe_dget hu (pv 0) (pe_ix ix_tup (pv 1) pe_int (fun _ _ => rfl)) (fun _ _ => rfl)) pa_nil)) (pcall O__law_kind (hr.mono (by decide)) (pa_cons (pe_dget hu (pv 0) (pe_ix ix_tup (pv 1) pe_int (fun _ _ => rfl)) (fun _ _ => rfl)) pa_nil)) (nomark _)))) pss_nil)
      (pss_one (ps_ret (pe_cmpR op_eq (pcall O__law_splits (hr.mono (by decide)) (pa_cons (pe_dget hu (pv 0) (pe_ix ix_tup (pv 1) pe_int (fun _ _ => rfl)) (fun _ _ => rfl)) (pa_cons (pe_ix ix_tup (pv 1) pe_int (fun _ _ => rfl)) pa_nil))) (pe_cmpR op_eq (pe_ix ix_tup (pv 1) pe_int (fun _ _ => rfl)) pe_str (nomark _)) (nomark _))))))), ?_⟩
    refine ⟨_, rfl, _, _, _, _, rfl, rfl, hT, at_head i, rfl, _, rfl, ?_⟩
    rw [dec_ak]
    cases hb : isAk i with
    | true =>
      refine iteT ⟨_, rfl, _, rfl, _, rfl, p, _, rfl, hT, fun z => absurd z (cut_part _ _), fun _ q hq => ?_⟩
      rw [cut_ak hb]
      refine ⟨q, rfl, ⟨_, .of upd_same⟩, ?_⟩
      have s1 := same_new (o := .tup (i.names.map V.str)) hq
      refine for_tup (K := K) (a := q) (xs := i.names.map V.str) (fun j σ H2 => H2 = upd H q (.tup (i.names.map V.str)) ∧ (∀ a ∈ i.names.take j, (look sh a).isSome = true) ∧ ∃ v : Option V, σ = [some (.ref d), some (.ref p), v])
        ⟨rfl, fun _ h => by simp at h, none, rfl⟩ (fun _ _ _ _ h => by rw [h.1]; exact .of upd_same) ?_ ?_
      · rintro j x σ H2 hj ⟨rfl, hk, v, rfl⟩
        obtain ⟨a, ha, rfl⟩ := str_get hj
        obtain ⟨o, g, eo⟩ := (hd.same mono_plan s1).has a
        refine ⟨_, rfl, _, _, _, _, true, rfl, .ty "str", .base (.str _), kit_ty (by decide +kernel), _, rfl, iteF ?_⟩
        refine ⟨_, rfl, _, rfl, d, o, rfl, g, _, rfl, ?_⟩
        rw [eo]
        cases e : (look sh a).isSome with
        | true =>
          refine iteF ⟨rfl, fun b hb => ?_, _, rfl⟩
          rw [take_one ha] at hb
          rcases List.mem_append.mp hb with hb | hb
          · exact hk b hb
          · rw [show b = a by simpa using hb]; exact e
        | false =>
          refine iteT ?_
          have z := k _ s1
          rw [ans_known (by
            cases q : known sh i with
            | false => rfl
            | true =>
              have := List.all_eq_true.mp q a (List.mem_of_getElem? ha)
              rw [e] at this
              cases this)] at z
          exact z
      · rintro σ H2 ⟨rfl, hk0, v, rfl⟩
        have hk : known sh i = true := List.all_eq_true.mpr fun a ha => hk0 a (by rw [List.length_map, List.take_length]; exact ha)
        have hd2 := hd.same mono_plan s1
        have hT2 : SqT K (upd H q (.tup (i.names.map V.str))) p i.vals := .of (s1 _ _ hp)
        obtain ⟨a, ha, h1⟩ := at_one (i := i)
        obtain ⟨π, hπ⟩ := known_look hk (List.mem_of_getElem? ha)
        obtain ⟨x, g, hx⟩ := hd2.at_ hπ
        have oπ := (look_ok hsh hπ).2
        refine ⟨_, rfl, _, _, _, _, rfl, rfl, hT2, at_head i, rfl, _, rfl, ?_⟩
        rw [dec_always]
        cases i with
        | al b =>
          cases ha
          refine iteT ⟨_, rfl, _, rfl, _, _, _, _, rfl, rfl, hT2, h1, _, _, rfl, g, x, π, rfl, hx, oπ, fun H3 s3 => ?_⟩
          have z := k H3 (s1.trans s3)
          simp only [ans, hπ] at z
          exact z
        | ak b c =>
          cases ha
          refine iteF ⟨_, rfl, _, _, _, _, rfl, rfl, hT2, at_head _, rfl, _, rfl, ?_⟩
          rw [dec_form]
          obtain ⟨ρ, hρ⟩ := known_look hk (a := c) (by simp [Wi.names])
          have oρ := (look_ok hsh hρ).2
          refine iteT ⟨_, rfl, _, rfl, _, _, _, _, rfl, rfl, hT2, h1, _, _, rfl, g, x, π, rfl, hx, oπ, fun q1 H3 s3 k1 => ?_⟩
          obtain ⟨y, gy, hy⟩ := (hd2.same mono_plan s3).at_ hρ
          refine ⟨_, rfl, _, rfl, _, _, _, _, rfl, rfl, SqT.of (s3 _ _ (s1 _ _ hp)), rfl, _, _, rfl, gy, y, ρ, rfl, hy, oρ, fun q2 H4 s4 k2 => ?_⟩
          refine ⟨_, _, lkind_dp (k1.same s4), lkind_dp k2, (fits_kind (fun _ _ => fits_list) π).shaped (by decide), (fits_kind (fun _ _ => fits_list) ρ).shaped (by decide), ?_⟩
          have z := k H4 ((s1.trans s3).trans s4)
          simp only [ans, hπ, hρ] at z
          exact z
        | sp b c n =>
          cases ha
          refine iteF ⟨_, rfl, _, _, _, _, rfl, rfl, hT2, at_head _, rfl, _, rfl, ?_⟩
          rw [dec_form]
          have h2 : atI (Wi.sp b a n).vals 2 = some (.int n) := by cases b <;> rfl
          refine iteF ⟨_, rfl, _, rfl, _, _, _, _, rfl, rfl, hT2, h1, _, _, rfl, g, _, rfl, _, _, _, _, rfl, rfl, hT2, h2, x, π, n, rfl, hx, oπ, ho.2.1, ho.2.2, fun H3 s3 => ?_⟩
          refine ⟨_, rfl, _, _, _, _, rfl, rfl, SqT.of (s3 _ _ (s1 _ _ hp)), at_head _, rfl, rfl, ?_⟩
          have z := k H3 (s1.trans s3)
          simp only [ans, hπ] at z
          rw [dec_splits, dec_bl]
          exact z
    | false =>
      refine iteF ⟨_, rfl, _, rfl, _, rfl, p, _, rfl, hT, fun z => absurd z (cut_part _ _), fun _ q hq => ?_⟩
      rw [cut_no hb]
      refine ⟨q, rfl, ⟨_, .of upd_same⟩, ?_⟩
      have s1 := same_new (o := .tup (i.names.map V.str)) hq
      refine for_tup (K := K) (a := q) (xs := i.names.map V.str) (fun j σ H2 => H2 = upd H q (.tup (i.names.map V.str)) ∧ (∀ a ∈ i.names.take j, (look sh a).isSome = true) ∧ ∃ v : Option V, σ = [some (.ref d), some (.ref p), v])
        ⟨rfl, fun _ h => by simp at h, none, rfl⟩ (fun _ _ _ _ h => by rw [h.1]; exact .of upd_same) ?_ ?_
      · rintro j x σ H2 hj ⟨rfl, hk, v, rfl⟩
        obtain ⟨a, ha, rfl⟩ := str_get hj
        obtain ⟨o, g, eo⟩ := (hd.same mono_plan s1).has a
        refine ⟨_, rfl, _, _, _, _, true, rfl, .ty "str", .base (.str _), kit_ty (by decide +kernel), _, rfl, iteF ?_⟩
        refine ⟨_, rfl, _, rfl, d, o, rfl, g, _, rfl, ?_⟩
        rw [eo]
        cases e : (look sh a).isSome with
        | true =>
          refine iteF ⟨rfl, fun b hb => ?_, _, rfl⟩
          rw [take_one ha] at hb
          rcases List.mem_append.mp hb with hb | hb
          · exact hk b hb
          · rw [show b = a by simpa using hb]; exact e
        | false =>
          refine iteT ?_
          have z := k _ s1
          rw [ans_known (by
            cases q : known sh i with
            | false => rfl
            | true =>
              have := List.all_eq_true.mp q a (List.mem_of_getElem? ha)
              rw [e] at this
              cases this)] at z
          exact z
      · rintro σ H2 ⟨rfl, hk0, v, rfl⟩
        have hk : known sh i = true := List.all_eq_true.mpr fun a ha => hk0 a (by rw [List.length_map, List.take_length]; exact ha)
        have hd2 := hd.same mono_plan s1
        have hT2 : SqT K (upd H q (.tup (i.names.map V.str))) p i.vals := .of (s1 _ _ hp)
        obtain ⟨a, ha, h1⟩ := at_one (i := i)
        obtain ⟨π, hπ⟩ := known_look hk (List.mem_of_getElem? ha)
        obtain ⟨x, g, hx⟩ := hd2.at_ hπ
        have oπ := (look_ok hsh hπ).2
        refine ⟨_, rfl, _, _, _, _, rfl, rfl, hT2, at_head i, rfl, _, rfl, ?_⟩
        rw [dec_always]
        cases i with
        | al b =>
          cases ha
          refine iteT ⟨_, rfl, _, rfl, _, _, _, _, rfl, rfl, hT2, h1, _, _, rfl, g, x, π, rfl, hx, oπ, fun H3 s3 => ?_⟩
          have z := k H3 (s1.trans s3)
          simp only [ans, hπ] at z
          exact z
        | ak b c =>
          cases ha
          refine iteF ⟨_, rfl, _, _, _, _, rfl, rfl, hT2, at_head _, rfl, _, rfl, ?_⟩
          rw [dec_form]
          obtain ⟨ρ, hρ⟩ := known_look hk (a := c) (by simp [Wi.names])
          have oρ := (look_ok hsh hρ).2
          refine iteT ⟨_, rfl, _, rfl, _, _, _, _, rfl, rfl, hT2, h1, _, _, rfl, g, x, π, rfl, hx, oπ, fun q1 H3 s3 k1 => ?_⟩
          obtain ⟨y, gy, hy⟩ := (hd2.same mono_plan s3).at_ hρ
          refine ⟨_, rfl, _, rfl, _, _, _, _, rfl, rfl, SqT.of (s3 _ _ (s1 _ _ hp)), rfl, _, _, rfl, gy, y, ρ, rfl, hy, oρ, fun q2 H4 s4 k2 => ?_⟩
          refine ⟨_, _, lkind_dp (k1.same s4), lkind_dp k2, (fits_kind (fun _ _ => fits_list) π).shaped (by decide), (fits_kind (fun _ _ => fits_list) ρ).shaped (by decide), ?_⟩
          have z := k H4 ((s1.trans s3).trans s4)
          simp only [ans, hπ, hρ] at z
          exact z
        | sp b c n =>
          cases ha
          refine iteF ⟨_, rfl, _, _, _, _, rfl, rfl, hT2, at_head _, rfl, _, rfl, ?_⟩
          rw [dec_form]
          have h2 : atI (Wi.sp b a n).vals 2 = some (.int n) := by cases b <;> rfl
          refine iteF ⟨_, rfl, _, rfl, _, _, _, _, rfl, rfl, hT2, h1, _, _, rfl, g, _, rfl, _, _, _, _, rfl, rfl, hT2, h2, x, π, n, rfl, hx, oπ, ho.2.1, ho.2.2, fun H3 s3 => ?_⟩
          refine ⟨_, rfl, _, _, _, _, rfl, rfl, SqT.of (s3 _ _ (s1 _ _ hp)), at_head _, rfl, rfl, ?_⟩
          have z := k H3 (s1.trans s3)
          simp only [ans, hπ] at z
          rw [dec_splits, dec_bl]
          exact z
def spBrk : Sp := fun vs H Q _ => ∃ (d l : Addr) (sh : Sh) (ws : List Wi), vs = [.ref d, .ref l] ∧ DAt PlanAt H d sh ∧ ShOk sh ∧ WLs H l ws ∧ (∀ i ∈ ws, i.Ok) ∧ ws.length ≤ 100 ∧
  ∀ H', Same H H' → Q (.int (match brk sh ws with | some n => (n : Int) | none => -1)) H'
theorem ok__law_broken (W : Wd K mg) : OkD P w K mg base CX0 5 "_law_broken" ["_law_shelf", "_law_wishes_here"] spBrk := by
  have O__law_answer := ok__law_answer (P := P) (w := w) (base := base) W
  refine (fn__law_broken W).ok sc__law_broken (fun vs H Q E h => ?_) (fun cdv A outer s H vs Q E hr h => ?_)
  · obtain ⟨d, l, sh, ws, rfl, _⟩ := h
    rfl
  · obtain ⟨d, l, sh, ws, rfl, hd, hsh, ⟨xs, hl, hw⟩, how, hlen, k⟩ := h
    refine ⟨_, (pss_cons (ps_for PassesOwn.never rfl (pi_range1 rfl (fr_range W) (pa_cons (pe_callB call_len rfl (fr_len W) (by decide +kernel) (pa_cons (pv 1) pa_nil)) pa_nil)) (pg_name (i := 2) sc__law_broken.nd rfl (.inl rfl)) (pss_one (ps_if (pt_not (pt_val (pcall O__law_answer (hr.mono (by decide)) (pa_cons (pv 0) (pa_cons (pe_ix ix_list (pv 1) (pv 2) (fun _ _ => rfl)) pa_nil))))) (pss_one (ps_ret (pv 2))) pss_nil)))
      (pss_one (ps_ret (pe_un un_neg pe_int)))), ?_⟩
    have el := prd_len hw
    refine ⟨_, rfl, _, xs.length, rfl, .inl ⟨_, .of hl, rfl⟩, xs.length, rfl, by omega, by omega, ?_⟩
    refine for_range (lo := 0) (n := (xs.length : Int).toNat) (fun j σ H2 => Same H H2 ∧ (∀ i y, i < j → ws[i]? = some y → (!ans sh y) = false) ∧ ∃ v : Option V, σ = [some (.ref d), some (.ref l), v]) ⟨Same.refl _, fun i _ h => absurd h (Nat.not_lt_zero _), none, rfl⟩ ?_ ?_
    · rintro j σ H2 hj ⟨s2, hb, v, rfl⟩
      have hj' : j < xs.length := by omega
      obtain ⟨i, hi, p, ep, hp⟩ := prd_get hw (List.getElem?_eq_getElem hj')
      refine ⟨_, rfl, _, rfl, _, rfl, _, _, _, _, rfl, rfl, .of (s2 _ _ hl), (by rw [Int.zero_add]; exact atI_nat (j := j) (by rw [List.getElem?_eq_getElem hj', ep])), d, p, i, sh, rfl, s2 _ _ hp, how i (List.mem_of_getElem? hi), hd.same mono_plan s2, hsh, fun H3 s3 => ⟨_, rfl, ?_⟩⟩
      cases e : ans sh i with
      | true =>
        refine iteF ⟨s2.trans s3, fun m y hm hy => ?_, _, rfl⟩
        rcases Nat.lt_succ_iff_lt_or_eq.mp hm with c | c
        · exact hb m y c hy
        · rw [c, hi] at hy
          cases hy
          rw [e]
          rfl
      | false =>
        refine iteT ⟨_, rfl, ?_⟩
        have z := k H3 (s2.trans s3)
        unfold brk at z
        rw [find_at hi (by rw [e]; rfl) hb] at z
        show Q (.int (0 + (j : Int))) H3
        rw [Int.zero_add]
        exact z
    · rintro σ H2 ⟨s2, hb, v, rfl⟩
      have z := k H2 s2
      unfold brk at z
      rw [find_no fun i y h => hb i y (by omega)] at z
      exact ⟨1, rfl, z⟩
end
end KB
end
section
set_option Elab.async false
set_option linter.all false
set_option maxRecDepth 100000
set_option maxHeartbeats 4000000
/-! what the law expects of a deed -/
namespace KB
open PySem PySem.Spec PyProof.Rows L2 KM
theorem call_reprX {X : Cx} : CallR X (.builtin "repr") (fun xs H Q => (∃ i : Int, xs = [.int i] ∧ i.natAbs.log2 < 1920 ∧ Q (.str (toString i)) H) ∨ ∃ y : Str, xs = [.str y] ∧ (reprText y).length ≤ sizeLine ∧ Q (.str (reprText y)) H) := by
  intro pins s σ H xs us Q I r h
  rcases h with h | ⟨y, rfl, hz, q⟩
  · exact SkE.call_repr_int pins s σ H xs us Q I r h
  · obtain ⟨u, rfl, t, rfl⟩ := vals1 r
    exact PySem.P.repr_of_str ⟨.str _, H, I.tok _, ⟨_, rfl⟩, q⟩ hz
theorem small_log {n : Nat} (h : n ≤ 100) : (n : Int).natAbs.log2 < 1920 := by
  rw [Int.natAbs_natCast]
  exact Nat.lt_of_le_of_lt (Nat.log2_le_self n) (by omega)
theorem cut_lo {xs : List V} {n : Nat} (h : n ≤ xs.length) : cutV xs none (some (n : Int)) = xs.take n := by
  unfold cutV
  rw [HT.sIx_none, HT.sIx_nat, Nat.min_eq_left h]
  simp
theorem sz {n : Nat} (h : n ≤ 1000) : n ≤ sizeLine := Nat.le_trans h (by decide)
theorem cut_hi {xs : List V} {n : Nat} (h : n ≤ xs.length) : cutV xs (some (n : Int)) none = xs.drop n := by
  unfold cutV
  rw [HT.sIx_none, HT.sIx_nat, Nat.min_eq_left h]
  rw [List.take_of_length_le]
  rw [List.length_drop]
  omega
def Lv (M : List Addr) (H : Hp) : Prop := ∀ m ∈ M, H m ≠ none
theorem Lv.same {M : List Addr} {H H' : Hp} (h : Lv M H) (s : Same H H') : Lv M H' := fun m hm z => h m hm (s.free z)
theorem Lv.new {M : List Addr} {H : Hp} {p : Addr} (h : Lv M H) (hp : H p = none) : p ∉ M := fun z => h p z hp
theorem onto {M : List Addr} {H : Hp} {p : Addr} {o : HO} (hp : p ∉ M) (h : H p = some o) : off M H p = some o := by rw [off_at hp]; exact h
/-- a locked dict is let go -/
theorem unlock {H H' : Hp} {d : Addr} {u z : HO} (h : H d = some u) (s : Same (upd H d z) H') : Same H (upd H' d u) := fun b o e => by
  by_cases c : b = d
  · rw [c] at e ⊢
    rw [upd_same, ← h, e]
  · rw [upd_ne c]
    exact s b o (by rw [upd_ne c]; exact e)
theorem mergeK_app (kvs : List (Key × V)) (p : Key × V) (xs : List (Key × V)) : mergeK xs (kvs ++ [p]) = putK (mergeK xs kvs) p.1 p.2 := by
  unfold mergeK
  rw [List.foldl_append]
  rfl
theorem putK_new {kvs : List (Key × V)} {k : Key} {v : V} (h : k ∉ kvs.map (·.1)) : putK kvs k v = kvs ++ [(k, v)] := by
  unfold putK
  rw [if_neg]
  intro z
  obtain ⟨q, hq, e⟩ := List.any_eq_true.mp z
  exact h (by rw [← of_decide_eq_true e]; exact List.mem_map_of_mem hq)
theorem merge_nodup : ∀ (kvs xs : List (Key × V)), ((xs ++ kvs).map (·.1)).Nodup → mergeK xs kvs = xs ++ kvs
  | [], xs, _ => by rw [List.append_nil]; rfl
  | p :: r, xs, h => by
    have e : putK xs p.1 p.2 = xs ++ [p] := putK_new fun z => by
      rw [List.map_append, List.nodup_append] at h
      exact h.2.2 _ z _ (by simp) rfl
    show mergeK (putK xs p.1 p.2) r = xs ++ p :: r
    rw [e, merge_nodup r (xs ++ [p]) (by simpa using h)]
    simp
theorem Ents.nodup {R : Rl} {G : Hp} {sh : Sh} {kvs : List (Key × V)} (h : Ents R G sh kvs) (n : (sh.map (·.1)).Nodup) : (kvs.map (·.1)).Nodup := by
  rw [h.keys]
  have e : (sh.map fun p => (Sum.inr p.1 : Key)) = (sh.map (·.1)).map Sum.inr := by rw [List.map_map]; rfl
  rw [e]
  exact List.Pairwise.map _ (fun a b n z => n (Sum.inr.inj z)) n
theorem Ents.merge {R : Rl} {G : Hp} {sh : Sh} {kvs : List (Key × V)} (h : Ents R G sh kvs) (n : (sh.map (·.1)).Nodup) : mergeK [] kvs = kvs := by
  rw [merge_nodup kvs [] (by simpa using h.nodup n)]
  rfl
/-! ### lists of pairs -/
abbrev Prs (H : Hp) : List Addr → List (Key × V) → Prop := Paired fun p kv => H p = some (.tup [kV kv.1, kv.2])
theorem Prs.same {H H' : Hp} {ps : List Addr} {kvs : List (Key × V)} (h : Prs H ps kvs) (s : Same H H') : Prs H' ps kvs := Paired.mapP h fun _ _ e => s _ _ e
theorem Prs.mut {H : Hp} {D : Addr} {xs : List V} {o : HO} {ps : List Addr} {kvs : List (Key × V)} (h : Prs H ps kvs) (hD : H D = some (.lst xs)) : Prs (upd H D o) ps kvs := Paired.mapP h fun _ _ e => by
  rw [upd_ne (ne_of e hD (by simp))]
  exact e
theorem Prs.ofD {H : Hp} {d : Addr} {od : Obj} {u z : HO} {ps : List Addr} {kvs : List (Key × V)} (h : Prs H ps kvs) (hd : H d = some (.frz od u)) : Prs (upd H d z) ps kvs := Paired.mapP h fun _ _ e => by
  rw [upd_ne (ne_of e hd (by simp))]
  exact e
theorem Prs.sqt {K : PySem.W.Frag} {H : Hp} {ps : List Addr} {kvs : List (Key × V)} (h : Prs H ps kvs) : Paired (fun p (kv : Key × V) => SqT K H p [kV kv.1, kv.2]) ps kvs := Paired.mapP h fun _ _ e => .of e
theorem val_mem : ∀ {kvs : List (Key × V)} {i : Nat} {k : Key} {v : V}, (kvs.map (·.1)).Nodup → kvs[i]? = some (k, v) → valV kvs k = some v
  | p :: r, 0, k, v, _, h => by
    cases h
    exact valV_pos rfl
  | p :: r, i + 1, k, v, n, h => by
    have h' : r[i]? = some (k, v) := h
    rw [List.map_cons, List.nodup_cons] at n
    rw [valV_neg fun z => n.1 (by rw [z]; exact List.mem_map_of_mem (f := Prod.fst) (List.mem_of_getElem? h'))]
    exact val_mem n.2 h'
theorem dget_frz {H : Hp} {d : Addr} {od : Obj} {kvs : List (Key × V)} {i : Nat} {k : Key} {v : V} (hd : H d = some (.frz od (.dK kvs))) (n : (kvs.map (·.1)).Nodup) (h : kvs[i]? = some (k, v)) : DGet H d (kV k) (some v) :=
  .inl ⟨kvs, k, .inr ⟨od, hd⟩, rfl, (val_mem n h).symm⟩
/-! ### uses -/
def usesB (ws : List Wi) (a : Str) (n : Nat) : Bool := match ws[n]? with
  | some i => decide (a ∈ i.names)
  | none => false
theorem uses_none {ws : List Wi} {a : Str} (h : (List.range ws.length).filter (usesB ws a) = []) : useIx ws a = none := by
  refine find_no fun i y hi hy => ?_
  have z := List.filter_eq_nil_iff.mp h i (List.mem_range.mpr hi)
  unfold usesB at z
  rw [hy] at z
  simpa using z
theorem uses_some {ws : List Wi} {a : Str} {j : Nat} {r : List Nat} (h : (List.range ws.length).filter (usesB ws a) = j :: r) : useIx ws a = some j ∧ j < ws.length := by
  have e : ((List.range ws.length).filter (usesB ws a)).head? = some j := by rw [h]; rfl
  rw [List.head?_filter, List.find?_range_eq_some] at e
  obtain ⟨e1, e2, e3⟩ := e
  have hj : j < ws.length := List.mem_range.mp e2
  refine ⟨find_at (List.getElem?_eq_getElem hj) ?_ fun i y hi hy => ?_, hj⟩
  · unfold usesB at e1
    rw [List.getElem?_eq_getElem hj] at e1
    exact e1
  · have z := e3 i hi
    unfold usesB at z
    rw [hy] at z
    simpa using z
theorem inV_str (a : Str) : ∀ l : List Str, inV (.str a) (l.map V.str) = decide (a ∈ l)
  | [] => by simp [inV]
  | b :: r => by
    have e : inV (.str a) ((b :: r).map V.str) = ((b == a) || inV (.str a) (r.map V.str)) := rfl
    rw [e, inV_str a r]
    by_cases c : a = b
    · rw [c, beq_self_eq_true, Bool.true_or]
      exact (decide_eq_true List.mem_cons_self).symm
    · rw [beq_eq_false_iff_ne.mpr (Ne.symm c), Bool.false_or, decide_eq_decide]
      exact ⟨fun h => List.mem_cons_of_mem _ h, fun h => (List.mem_cons.mp h).resolve_left c⟩
theorem flat_strs : ∀ l : List Str, (l.map V.str).all flatV = true
  | [] => rfl
  | b :: r => flat_strs r
theorem title_repr {a : Str} (h : a ∈ titles) : (reprText a).length ≤ sizeLine := by
  have : ∀ a ∈ titles, (reprText a).length ≤ 100 := by decide +kernel
  exact Nat.le_trans (this a h) (by decide)
section
variable {P : Program} {w : World} {K : PySem.W.Frag} {mg : Str → Option Value} {base : Heap}
def spBehind : Sp := fun vs H Q _ => ∃ (pg : Pg) (de : De) (pp dp : Addr) (M : List Addr), vs = [.ref pp, .ref dp] ∧ PageAt (off M H) pg (.ref pp) ∧ DeAt (off M H) de (.ref dp) ∧ PgOk pg ∧ de.Ok ∧ pg.2.length ≤ 50 ∧ Lv M H ∧
  ∀ r u v H', Same H H' → H' r = some (.tup [u, v]) → H r = none → DueAt (off M H') (behind pg de).1 u → PageAt (off M H') (behind pg de).2 v → Q (.ref r) H'
theorem ok__law_behind (W : Wd K mg) : OkD P w K mg base CX0 6 "_law_behind" ["_law_page", "_law_deed"] spBehind := by
  have O__law_broken := ok__law_broken (P := P) (w := w) (base := base) W
  have O__law_named := ok__law_named (P := P) (w := w) (base := base) W
  refine (fn__law_behind W).ok sc__law_behind (fun vs H Q E h => ?_) (fun cdv A outer s H vs Q E hr h => ?_)
  · obtain ⟨pg, de, pp, dp, M, rfl, _⟩ := h
    rfl
  · obtain ⟨⟨sh, ws⟩, de, pp, dp, M, rfl, ⟨_, d, l, e, hpg, hd, hl⟩, hde, hok, hdo, hlen, lv, k⟩ := h
    cases e
    have hu := hu_of hr
    refine ⟨_, (pss_cons (ps_asg (pv 0) (pg_tup rfl (pgs_cons (pg_name (i := 2) sc__law_behind.nd rfl (.inr rfl)) (pgs_cons (pg_name (i := 3) sc__law_behind.nd rfl (.inr rfl)) pgs_nil))))
      (pss_cons (ps_if (pt_cmpR op_eq (pe_ix ix_list (pv 1) pe_int (fun _ _ => rfl)) pe_str (nomark _)) (pss_cons (ps_if (pt_not (pt_chain op_le op_lt pe_int (pe_ix ix_list (pv 1) pe_int (fun _ _ => rfl)) (pe_callB call_len rfl (fr_len W) (by decide +kernel) (pa_cons (pv 3) pa_nil)))) (pss_one (ps_ret (pe_tup (pa_cons (pe_lst (pa_cons pe_str (pa_cons (pe_callB call_reprX rfl (fr_repr W) (by decide +kernel) (pa_cons (pe_ix ix_list (pv 1) pe_int (fun _ _ => rfl)) pa_nil)) pa_nil))) (pa_cons (pv 0) pa_nil))))) pss_nil)
      (pss_one (ps_ret (pe_tup (pa_cons (pe_lst pa_nil) (pa_cons (pe_tup (pa_cons (pv 2) (pa_cons (pe_op op_cat (pe_slice sl_list (pv 3) po_none (po_some (pe_ix ix_list (pv 1) pe_int (fun _ _ => rfl)))) (pe_slice sl_list (pv 3) (po_some (pe_op op_add (pe_ix ix_list (pv 1) pe_int (fun _ _ => rfl)) pe_int)) po_none)) pa_nil))) pa_nil)))))) pss_nil)
      (pss_cons (ps_if (pt_cmpR op_eq (pe_ix ix_list (pv 1) pe_int (fun _ _ => rfl)) pe_str (nomark _)) (pss_cons (ps_if (pt_cmp (pc_dnotin hu (pe_ix ix_list (pv 1) pe_int (fun _ _ => rfl)) (pv 2))) (pss_one (ps_ret (pe_tup (pa_cons (pe_lst (pa_cons pe_str (pa_cons (pe_callB call_reprX rfl (fr_repr W) (by decide +kernel) (pa_cons (pe_ix ix_list (pv 1) pe_int (fun _ _ => rfl)) pa_nil)) pa_nil))) (pa_cons (pv 0) pa_nil))))) pss_nil)
      (pss_cons (ps_setLc (i := 4) (own := [("_law_k", 8)]) (g := gName 8) rfl sc__law_behind.nd rfl rfl (sw_true rfl rfl rfl (by decide +kernel)) (pi_range1 rfl (fr_range W) (pa_cons (pe_callB call_len rfl (fr_len W) (by decide +kernel) (pa_cons (pv 3) pa_nil)) pa_nil)) (blkOk_by (own := [("_law_k", 8)]) (N := n__law_behind) (sc := defScope s__law_behind) (by decide +kernel)) (fun _ _ _ _ _ => pg_name (i := 8) sc__law_behind.nd rfl (Or.inl rfl)) (fun _ _ _ _ _ => (pts_one (pt_cmpR (r := rIn K false) op_in_seq (pe_ix (r := rIxL K) ix_list (pv 1) pe_int (fun _ _ => rfl)) (pcall O__law_named (hr.mono (by decide)) (pa_cons (pe_ix (r := rIxL K) ix_list (pv 3) (pv 8) (fun _ _ => rfl)) pa_nil)) (by rfl)))) (fun _ _ _ _ _ => (pv 8)))
      (pss_cons (ps_set (i := 5) sc__law_behind.nd rfl (.inl rfl) (pe_callTy (call_dictP rfl) rfl (fr_dict W) (by decide +kernel) (pa_cons (pe_lock (pe_lc (own := [("_law_each", 9)]) (g := gName 9) rfl sc__law_behind.nd (pi_keys (pv 2)) (blkOk_by (own := [("_law_each", 9)]) (N := n__law_behind) (sc := defScope s__law_behind) (by decide +kernel)) (fun _ _ _ _ _ => pg_name (i := 9) sc__law_behind.nd rfl (Or.inl rfl)) (fun _ _ _ _ _ => (pts_one (pt_cmpR op_ne (pv 9) (pe_ix (r := rIxL K) ix_list (pv 1) pe_int (fun _ _ => rfl)) (nomark _)))) (fun _ _ _ _ _ => (pe_tup (pa_cons (pv 9) (pa_cons (pe_dget hu (pv 2) (pv 9) (fun _ _ => rfl)) pa_nil)))))) pa_nil)))
      (pss_one (ps_ret (pe_ifExp (pt_cmpR (op_neD hr.units) (pv 4) (pe_lst pa_nil) (nomark _)) (pe_tup (pa_cons (pe_lst (pa_cons pe_str (pa_cons (pe_callB call_reprX rfl (fr_repr W) (by decide +kernel) (pa_cons (pe_ix ix_list (pv 4) pe_int (fun _ _ => rfl)) pa_nil)) pa_nil))) (pa_cons (pv 0) pa_nil))) (pe_tup (pa_cons (pe_lst pa_nil) (pa_cons (pe_tup (pa_cons (pv 5) (pa_cons (pv 3) pa_nil))) pa_nil))))))))) pss_nil)
      (pss_cons (ps_set (i := 6) sc__law_behind.nd rfl (.inl rfl) (pe_tup (pa_cons (pv 2) (pa_cons (pe_op op_cat (pv 3) (pe_lst (pa_cons (pe_ix ix_list (pv 1) pe_int (fun _ _ => rfl)) pa_nil))) pa_nil))))
      (pss_cons (ps_if (pt_cmpR op_eq (pe_ix ix_list (pv 1) pe_int (fun _ _ => rfl)) pe_str (nomark _)) (pss_one (ps_set (i := 6) sc__law_behind.nd rfl (.inl rfl) (pe_tup (pa_cons (pe_callTy (call_dictP rfl) rfl (fr_dict W) (by decide +kernel) (pa_cons (pe_op op_cat (pe_lock (pe_lc (own := [("_law_each", 9)]) (g := gName 9) (tt := tYes) rfl sc__law_behind.nd (pi_keys (pv 2)) (blkOk_by (own := [("_law_each", 9)]) (N := n__law_behind) (sc := defScope s__law_behind) (by decide +kernel)) (fun _ _ _ _ _ => pg_name (i := 9) sc__law_behind.nd rfl (Or.inl rfl)) (fun _ _ _ _ _ => pts_nil) (fun _ _ _ _ _ => (pe_tup (pa_cons (pv 9) (pa_cons (pe_dget hu (pv 2) (pv 9) (fun _ _ => rfl)) pa_nil)))))) (pe_lst (pa_cons (pe_tup (pa_cons (pe_ix ix_list (pv 1) pe_int (fun _ _ => rfl)) (pa_cons (pe_ix ix_list (pv 1) pe_int (fun _ _ => rfl)) pa_nil))) pa_nil))) pa_nil)) (pa_cons (pv 3) pa_nil))))) pss_nil)
      (pss_cons (ps_set (i := 7) sc__law_behind.nd rfl (.inl rfl) (pcall O__law_broken (hr.mono (by decide)) (pa_cons (pe_ix ix_tup (pv 6) pe_int (fun _ _ => rfl)) (pa_cons (pe_ix ix_tup (pv 6) pe_int (fun _ _ => rfl)) pa_nil))))
      (pss_one (ps_ret (pe_ifExp (pt_cmpR op_ne (pv 7) (pe_un un_neg pe_int) (nomark _)) (pe_tup (pa_cons (pe_lst (pa_cons pe_str (pa_cons (pe_callB call_reprX rfl (fr_repr W) (by decide +kernel) (pa_cons (pv 7) pa_nil)) pa_nil))) (pa_cons (pv 0) pa_nil))) (pe_tup (pa_cons (pe_lst pa_nil) (pa_cons (pv 6) pa_nil)))))))))))), ?_⟩
    refine ⟨_, rfl, pp, _, rfl, .of (off_le _ _ hpg), rfl, _, _, rfl, _, _, rfl, rfl, ?_⟩
    have hdH := hd.same mono_plan off_le
    have hlH := hl.same off_le
    obtain ⟨vs, hls, hws⟩ := id hl
    have hlen : ws.length ≤ 50 := hlen
    have elen : ws.length = vs.length := prd_len hws
    obtain ⟨_, e, hq⟩ := id hde
    cases e
    cases de with
    | lift n =>
      have hqs : SqL K H dp [.str "lift", .int n] := .of (off_le _ _ hq)
      refine ⟨_, rfl, _, _, _, _, rfl, rfl, hqs, rfl, rfl, _, rfl, iteD rfl ?_⟩
      have hl0 : SqL K H l vs := .of (off_le _ _ hls)
      have k' : ∀ {r : Addr} {u v : V} {H' : Hp}, Same H H' → H' r = some (.tup [u, v]) → H r = none → DueAt (off M H') (if n < ws.length then (Due.ok, ((sh, ws.take n ++ ws.drop (n + 1)) : Pg)) else (Due.idx n, (sh, ws))).1 u →
        PageAt (off M H') (if n < ws.length then (Due.ok, ((sh, ws.take n ++ ws.drop (n + 1)) : Pg)) else (Due.idx n, (sh, ws))).2 v → Q (.ref r) H' := fun {r u v H'} => k r u v H'
      refine ⟨_, rfl, _, _, _, _, rfl, rfl, hqs, atI_nat (j := 1) rfl, _, _, rfl, rfl, _, rfl, ite2D (fun _ => ?_) (fun z => absurd (Int.natCast_nonneg n) z)⟩
      refine ⟨_, rfl, _, vs.length, rfl, .inl ⟨_, hl0, rfl⟩, _, _, rfl, rfl, _, rfl, ?_⟩
      refine ite2N (fun c => ?_) (fun c => ?_)
      · have c' : ¬ n < ws.length := by omega
        simp only [if_neg c'] at k'
        refine ⟨_, rfl, _, _, _, _, rfl, rfl, hqs, atI_nat (j := 1) rfl, .inl ⟨n, rfl, ?_, by show 2 ≤ sizeLine; decide, fun x hx => ⟨_, rfl, by show 2 ≤ sizeLine; decide, fun r hr => ?_⟩⟩⟩
        · exact small_log (show n ≤ 100 from hdo)
        · have s1 := same_new (o := .lst [.str "InvalidIndex", .str (toString (n : Int))]) hx
          have s2 := s1.trans (same_new (o := .tup [.ref x, .ref pp]) hr)
          exact k' s2 upd_same (s1.free hr) ⟨x, rfl, onto (lv.new hx) (same_new hr _ _ upd_same)⟩ (PageAt.same (off_same s2) ⟨pp, d, l, rfl, hpg, hd, hl⟩)
      · have c' : n < ws.length := by omega
        simp only [if_pos c'] at k'
        refine ⟨by show 0 ≤ sizeLine; decide, fun x hx => ⟨_, rfl, _, rfl, _, rfl, _, _, _, _, rfl, rfl, .of (same_new hx _ _ (off_le _ _ hq)), atI_nat (j := 1) rfl, _, rfl, ?_⟩⟩
        have s1 := same_new (o := .lst []) hx
        have hl1 := s1 _ _ (off_le _ _ hls)
        refine ⟨l, _, rfl, .of hl1, fun y hy => ?_⟩
        have s2 := s1.trans (same_new (o := .lst (cutV vs none (some (n : Int)))) hy)
        refine ⟨_, rfl, _, rfl, _, _, _, _, rfl, rfl, .of (s2 _ _ (off_le _ _ hq)), atI_nat (j := 1) rfl, _, _, rfl, rfl, _, rfl, l, _, rfl, .of (s2 _ _ (off_le _ _ hls)), fun z hz => ?_⟩
        have s3 := s2.trans (same_new (o := .lst (cutV vs (some ((n : Int) + 1)) none)) hz)
        rw [cut_lo (show n ≤ vs.length by omega), show ((n : Int) + 1) = ((n + 1 : Nat) : Int) by omega, cut_hi (show n + 1 ≤ vs.length by omega)] at *
        refine ⟨y, z, _, _, rfl, rfl, same_new hz _ _ upd_same, upd_same, sz (by rw [List.length_take, List.length_drop]; omega), fun t ht => ⟨by show 2 ≤ sizeLine; decide, fun t2 ht2 => ⟨by show 2 ≤ sizeLine; decide, fun r hr => ?_⟩⟩⟩
        have s4 := s3.trans (same_new (o := .lst (vs.take n ++ vs.drop (n + 1))) ht)
        have s5 := s4.trans (same_new (o := .tup [.ref d, .ref t]) ht2)
        have s6 := s5.trans (same_new (o := .tup [.ref x, .ref t2]) hr)
        have nt : t ∉ M := lv.new (s3.free ht)
        have nt2 : t2 ∉ M := lv.new (s4.free ht2)
        refine k' s6 upd_same (s5.free hr) ⟨x, rfl, onto (lv.new hx) (same_new hr _ _ (same_new ht2 _ _ (same_new ht _ _ (same_new hz _ _ (same_new hy _ _ upd_same)))))⟩ ⟨t2, d, t, rfl, onto nt2 (same_new hr _ _ upd_same), hd.same mono_plan (off_same s6), _, onto nt (same_new hr _ _ (same_new ht2 _ _ upd_same)), ?_⟩
        exact prd_append (prd_take n (wis_same (off_same s6) hws)) (prd_drop (n + 1) (wis_same (off_same s6) hws))
    | drop a =>
      have ha : a ∈ titles := hdo
      have hqs : SqL K H dp [.str "drop", .str a] := .of (off_le _ _ hq)
      refine ⟨_, rfl, _, _, _, _, rfl, rfl, hqs, rfl, rfl, _, rfl, iteDF (by decide +kernel) ?_⟩
      refine ⟨_, rfl, _, _, _, _, rfl, rfl, hqs, rfl, rfl, _, rfl, iteD rfl ?_⟩
      obtain ⟨o, g, eo⟩ := hdH.has a
      refine ⟨_, rfl, _, _, _, _, rfl, rfl, hqs, atI_nat (j := 1) rfl, _, rfl, d, o, rfl, g, _, rfl, ?_⟩
      rw [eo]
      cases hk : (look sh a).isSome with
      | false =>
        have eb : behind (sh, ws) (.drop a) = (.unk a, (sh, ws)) := by
          show (if (look sh a).isSome = true then _ else _) = _
          rw [hk]
          rfl
        refine iteT ⟨_, rfl, _, _, _, _, rfl, rfl, hqs, atI_nat (j := 1) rfl, .inr ⟨a, rfl, title_repr ha, by show 2 ≤ sizeLine; decide, fun x hx => ⟨_, rfl, by show 2 ≤ sizeLine; decide, fun r hr => ?_⟩⟩⟩
        have s1 := same_new (o := .lst [.str "UnknownName", .str (reprText a)]) hx
        have s2 := s1.trans (same_new (o := .tup [.ref x, .ref pp]) hr)
        refine k _ _ _ _ s2 upd_same (s1.free hr) ?_ ?_
        · rw [eb]
          exact ⟨x, rfl, onto (lv.new hx) (same_new hr _ _ upd_same)⟩
        · rw [eb]
          exact PageAt.same (off_same s2) ⟨pp, d, l, rfl, hpg, hd, hl⟩
      | true =>
        refine iteF ?_
        have hl0 : SqL K H l vs := .of (off_le _ _ hls)
        -- the uses
        refine ⟨_, rfl, _, vs.length, rfl, .inl ⟨_, hl0, rfl⟩, vs.length, rfl, by omega, by omega, fun D hD => ?_⟩
        have sD := same_new (o := .lst []) hD
        refine lc_it walk_range (fun i H' => Same H H' ∧ H' D = some (.lst (nI ((List.range i).filter (usesB ws a)))) ∧ i ≤ vs.length) ⟨sD, upd_same, Nat.zero_le _⟩ (fun _ _ _ _ => trivial) ?_ ?_
        · rintro i x H2 H2' hi ⟨s2, h2, _⟩ ⟨rfl, rfl⟩
          have hi' : i < vs.length := by omega
          obtain ⟨wi, hwi, p, ep, hp⟩ := prd_get hws (List.getElem?_eq_getElem hi')
          have hD2 : SqL K H2' l vs := .of (s2 _ _ (off_le _ _ hls))
          refine ⟨rfl, _, rfl, _, _, _, _, rfl, rfl, .of (s2 _ _ (off_le _ _ hq)), atI_nat (j := 1) rfl, ?_⟩
          refine ⟨_, rfl, _, rfl, _, _, _, _, rfl, rfl, hD2, by rw [Int.zero_add]; exact atI_nat (j := i) (by rw [List.getElem?_eq_getElem hi', ep]), p, wi, rfl, s2 _ _ (off_le _ _ hp), fun q H3 s3 hq3 => ?_⟩
          refine ⟨q, _, rfl, .inr (.of hq3), rfl, flat_strs _, _, rfl, ?_⟩
          have eu : usesB ws a i = decide (a ∈ wi.names) := by
            unfold usesB
            rw [hwi]
          show if inV (.str a) (wi.names.map V.str) = true then _ else _
          rw [inV_str, ← eu]
          have h3 := s3 _ _ h2
          have s23 := s2.trans s3
          cases eb : usesB ws a i with
          | true =>
            refine iteT ⟨_, rfl, _, h3, ?_, same_mut s23 hD, ?_, by omega⟩
            · rw [List.length_map]
              exact small1000 (Nat.le_trans (List.length_filter_le _ _) (by rw [List.length_range]; omega))
            · rw [upd_same, List.range_succ, List.filter_append, List.filter_cons_of_pos eb]
              show some (HO.lst (nI ((List.range i).filter (usesB ws a)) ++ [V.int (0 + (i : Int))])) = _
              rw [Int.zero_add]
              simp
          | false =>
            refine iteF ⟨s23, ?_, by omega⟩
            rw [List.range_succ, List.filter_append, List.filter_cons_of_neg (by rw [eb]; decide)]
            simpa using h3
        · rintro H2 ⟨s2, h2, _⟩
          have s2 : Same H H2 := s2
          rw [show (vs.length : Int).toNat = ws.length by omega] at h2
          obtain ⟨kvs, hdk, hen⟩ := hd.same mono_plan (off_same (M := M) s2)
          have hdk2 : H2 d = some (.dK kvs) := off_le _ _ hdk
          have hnd := hen.nodup hok.sh.nd
          have klen : kvs.length ≤ 3 := by rw [← hen.len]; exact hok.sh.len
          -- the rest
          refine ⟨d, _, hdk2, trivial, fun od => ?_⟩
          have hfz : upd H2 d (.frz od (.dK kvs)) d = some (.frz od (.dK kvs)) := upd_same
          refine ⟨_, rfl, d, od, rfl, .inl ⟨kvs, hfz, fun D2 hD2 => ?_⟩⟩
          refine lc_it walk_keys (fun i H' => Same (upd H2 d (.frz od (.dK kvs))) H' ∧ ∃ ps : List Addr, H' D2 = some (.lst (ps.map V.ref)) ∧ ps.length ≤ i ∧ Prs H' ps ((kvs.take i).filter fun kv => decide (kv.1 ≠ .inr a)))
            ⟨same_new hD2, [], upd_same, Nat.le_refl _, .nil⟩ (fun _ _ _ h => h.1 _ _ hfz) ?_ ?_
          · rintro i x H3 H3' hi ⟨s3, ps, h3, hps, hpr⟩ ⟨rfl, ky, v, hkv, rfl⟩
            obtain ⟨pr, _, ek, y, ey, _⟩ := hen.get hkv
            dsimp only at ek ey
            subst ek ey
            have hf3 := s3 _ _ hfz
            have hq3 : SqL K H3' dp [.str "drop", .str a] := by
              have z := s2 _ _ (off_le _ _ hq)
              exact .of (s3 _ _ (by rw [upd_ne (ne_of z hdk2 (by simp))]; exact z))
            refine ⟨rfl, _, rfl, _, rfl, _, _, _, _, rfl, rfl, hq3, atI_nat (j := 1) rfl, rfl, _, rfl, ?_⟩
            refine ite2N (fun c => ?_) (fun c => ?_)
            · have c' : pr.1 ≠ a := fun z => c (by rw [z]; rfl)
              refine ⟨_, rfl, _, rfl, _, rfl, d, _, rfl, dget_frz hf3 hnd hkv, by show 2 ≤ sizeLine; decide, fun p hp => ?_⟩
              have s4 := same_new (o := .tup [kV (.inr pr.1), .ref y]) hp
              have h4 := s4 _ _ h3
              refine ⟨_, h4, by rw [List.length_map]; exact small1000 (by omega), same_mut (s3.trans s4) hD2, ps ++ [p], ?_, by rw [List.length_append]; show ps.length + 1 ≤ i + 1; omega, ?_⟩
              · rw [upd_same, List.map_append]
                rfl
              · rw [take_one hkv, List.filter_append, List.filter_cons_of_pos (by simpa using c')]
                exact prd_append ((hpr.same s4).mut h4) (.cons (by rw [upd_ne (ne_of upd_same h4 (by simp))]; exact upd_same) .nil)
            · have c' : pr.1 = a := by
                have z : V.str pr.1 = V.str a := c
                injection z
              refine ⟨s3, ps, h3, by omega, ?_⟩
              rw [take_one hkv, List.filter_append, List.filter_cons_of_neg (by simp [c']), List.filter_nil, List.append_nil]
              exact hpr
          · rintro H3 ⟨s3, ps, h3, hps, hpr⟩
            have hf3 := s3 _ _ hfz
            rw [List.take_length] at hpr
            have en2 : Ents PlanAt (off M H2) (drp sh a) (dropK kvs (.inr a)) := hen.drp a
            refine ⟨hf3, D2, ps, _, rfl, .of (by rw [upd_ne (ne_of h3 hf3 (by simp))]; exact h3), (hpr.ofD hf3).sqt, fun p hp => ?_⟩
            have s3' : Same H2 (upd H3 d (.dK kvs)) := unlock hdk2 s3
            have em : mergeK [] (kvs.filter fun kv => decide (kv.1 ≠ .inr a)) = dropK kvs (.inr a) := en2.merge hok.sh.drp.nd
            rw [em]
            have s4 := s3'.trans (same_new (o := .dK (dropK kvs (.inr a))) hp)
            have hu4 := s4 _ _ h2
            refine ⟨_, rfl, by show 0 ≤ sizeLine; decide, fun x hx => ⟨_, _, .lst (.of (same_new hx _ _ hu4)) (dp_nats _), .lst (.of upd_same) .nil, (fits_list (fits_nats _)).shaped (by decide), (fits_list (n := 0) (ds := []) (fun d hd => absurd hd (by simp))).shaped (by decide), _, rfl, ?_⟩⟩
            rw [eqv_nil]
            have s5 := s4.trans (same_new (o := .lst []) hx)
            have s05 := s2.trans s5
            cases eu : (List.range ws.length).filter (usesB ws a) with
            | nil =>
              have eb : behind (sh, ws) (.drop a) = (.ok, (drp sh a, ws)) := by
                show (if (look sh a).isSome = true then (match useIx ws a with | some i => _ | none => _) else _) = _
                rw [hk, uses_none eu]
                rfl
              refine iteF ⟨by show 0 ≤ sizeLine; decide, fun y hy => ⟨_, rfl, _, rfl, by show 2 ≤ sizeLine; decide, fun t ht => ⟨by show 2 ≤ sizeLine; decide, fun r hr => ?_⟩⟩⟩
              have s6 := s05.trans (same_new (o := .lst []) hy)
              have s7 := s6.trans (same_new (o := .tup [.ref p, .ref l]) ht)
              have s8 := s7.trans (same_new (o := .tup [.ref y, .ref t]) hr)
              refine k _ _ _ _ s8 upd_same (s7.free hr) ?_ ?_
              · rw [eb]
                exact ⟨y, rfl, onto (lv.new (s05.free hy)) (same_new hr _ _ (same_new ht _ _ upd_same))⟩
              · rw [eb]
                have np : p ∉ M := lv.new ((s2.trans s3').free hp)
                exact ⟨t, p, l, rfl, onto (lv.new (s6.free ht)) (same_new hr _ _ upd_same), ⟨_, onto np (same_new hr _ _ (same_new ht _ _ (same_new hy _ _ (same_new hx _ _ upd_same)))), en2.same mono_plan (off_same (s5.trans (((same_new hy).trans (same_new ht)).trans (same_new hr))))⟩, hl.same (off_same s8)⟩
            | cons j rest =>
              obtain ⟨e1, e2⟩ := uses_some eu
              have eb : behind (sh, ws) (.drop a) = (.use j, (sh, ws)) := by
                show (if (look sh a).isSome = true then (match useIx ws a with | some i => _ | none => _) else _) = _
                rw [hk, e1]
                rfl
              rw [eu] at hu4
              refine iteT ⟨_, rfl, _, _, _, _, rfl, rfl, .of (same_new hx _ _ hu4), atI_nat (j := 0) rfl, .inl ⟨j, rfl, small_log (by omega), by show 2 ≤ sizeLine; decide, fun y hy => ⟨_, rfl, by show 2 ≤ sizeLine; decide, fun r hr => ?_⟩⟩⟩
              have s6 := s05.trans (same_new (o := .lst [.str "InUse", .str (toString (j : Int))]) hy)
              have s7 := s6.trans (same_new (o := .tup [.ref y, .ref pp]) hr)
              refine k _ _ _ _ s7 upd_same (s6.free hr) ?_ ?_
              · rw [eb]
                exact ⟨y, rfl, onto (lv.new (s05.free hy)) (same_new hr _ _ upd_same)⟩
              · rw [eb]
                exact PageAt.same (off_same s7) ⟨pp, d, l, rfl, hpg, hd, hl⟩
    | wish wi =>
      have hw : wi.Ok := hdo
      obtain ⟨p, hq, hp⟩ := hq
      have hqs : SqL K H dp [.str "wish", .ref p] := .of (off_le _ _ hq)
      refine ⟨_, rfl, _, _, _, _, rfl, rfl, hqs, rfl, rfl, _, rfl, iteDF (by decide +kernel) ?_⟩
      refine ⟨_, rfl, _, _, _, _, rfl, rfl, hqs, rfl, rfl, _, rfl, iteDF (by decide +kernel) ?_⟩
      refine ⟨_, rfl, _, rfl, _, rfl, _, _, _, _, rfl, rfl, hqs, atI_nat (j := 1) rfl, by show 1 ≤ sizeLine; decide, fun x hx => ?_⟩
      have s1 := same_new (o := .lst [.ref p]) hx
      refine ⟨l, x, _, _, rfl, rfl, s1 _ _ (off_le _ _ hls), upd_same, sz (by show vs.length + 1 ≤ 1000; omega), fun y hy => ⟨by show 2 ≤ sizeLine; decide, fun t ht => ?_⟩⟩
      have s2 := s1.trans (same_new (o := .lst (vs ++ [.ref p])) hy)
      have s3 := s2.trans (same_new (o := .tup [.ref d, .ref y]) ht)
      have ny : y ∉ M := lv.new (s1.free hy)
      have nt : t ∉ M := lv.new (s2.free ht)
      have hws2 : ∀ {H' : Hp}, Same H H' → Paired (WiAt (off M H')) (ws ++ [wi]) (vs ++ [.ref p]) := fun s' => prd_append (wis_same (off_same s') hws) (.cons ⟨p, rfl, off_same s' _ _ hp⟩ .nil)
      refine ⟨_, rfl, _, _, _, _, rfl, rfl, .of (s3 _ _ (off_le _ _ hq)), rfl, rfl, _, rfl, iteDF (by decide +kernel) ?_⟩
      have ht3 : upd (upd (upd H x (.lst [.ref p])) y (.lst (vs ++ [.ref p]))) t (.tup [.ref d, .ref y]) t = some (.tup [.ref d, .ref y]) := upd_same
      refine ⟨_, rfl, _, _, _, _, rfl, rfl, .of ht3, atI_nat (j := 0) rfl, _, rfl, _, _, _, _, rfl, rfl, .of ht3, atI_nat (j := 1) rfl, ?_⟩
      refine ⟨d, y, sh, ws ++ [wi], rfl, hdH.same mono_plan s3, hok.sh, ⟨_, same_new ht _ _ upd_same, Paired.mapP (hws2 s3) fun _ _ => WiAt.same off_le⟩, ?_, by rw [List.length_append]; show ws.length + 1 ≤ 100; omega, fun H4 s4 => ?_⟩
      · intro j hj
        rcases List.mem_append.mp hj with hj | hj
        · exact hok.ws j hj
        · rw [show j = wi by simpa using hj]; exact hw
      have s04 := s3.trans s4
      have he : behind (sh, ws) (.wish wi) = (match brk sh (ws ++ [wi]) with | some i => (.brk i, (sh, ws)) | none => (.ok, (sh, ws ++ [wi]))) := rfl
      cases eb : brk sh (ws ++ [wi]) with
      | none =>
        rw [eb] at he
        refine ⟨_, rfl, 1, rfl, rfl, _, rfl, iteNS rfl ⟨by show 0 ≤ sizeLine; decide, fun z hz => ⟨_, rfl, by show 2 ≤ sizeLine; decide, fun r hr => ?_⟩⟩⟩
        have s5 := s04.trans (same_new (o := .lst []) hz)
        have s6 := s5.trans (same_new (o := .tup [.ref z, .ref t]) hr)
        have s46 := s4.trans ((same_new (o := .lst []) hz).trans (same_new (o := .tup [.ref z, .ref t]) hr))
        refine k _ _ _ _ s6 upd_same (s5.free hr) ?_ ?_
        · rw [he]
          exact ⟨z, rfl, onto (lv.new (s04.free hz)) (same_new hr _ _ upd_same)⟩
        · rw [he]
          exact ⟨t, d, y, rfl, onto nt (s46 _ _ ht3), hd.same mono_plan (off_same s6), _, onto ny (s46 _ _ (same_new ht _ _ upd_same)), hws2 s6⟩
      | some j =>
        rw [eb] at he
        have hj : j < (ws ++ [wi]).length := by
          unfold brk at eb
          exact (List.findIdx?_eq_some_iff_getElem.mp eb).1
        rw [List.length_append] at hj
        have hj : j < ws.length + 1 := hj
        refine ⟨_, rfl, 1, rfl, rfl, _, rfl, iteN (fun z => ?_) ⟨_, rfl, .inl ⟨j, rfl, small_log (by omega), by show 2 ≤ sizeLine; decide, fun z hz => ⟨_, rfl, by show 2 ≤ sizeLine; decide, fun r hr => ?_⟩⟩⟩⟩
        · have z' : V.int (j : Int) = V.int (-1) := z
          injection z' with z'
          omega
        have s5 := s04.trans (same_new (o := .lst [.str "Broken", .str (toString (j : Int))]) hz)
        have s6 := s5.trans (same_new (o := .tup [.ref z, .ref pp]) hr)
        refine k _ _ _ _ s6 upd_same (s5.free hr) ?_ ?_
        · rw [he]
          exact ⟨z, rfl, onto (lv.new (s04.free hz)) (same_new hr _ _ upd_same)⟩
        · rw [he]
          exact PageAt.same (off_same s6) ⟨pp, d, l, rfl, hpg, hd, hl⟩
    | put a π =>
      have ha : a ∈ titles ∧ π.Ok := hdo
      obtain ⟨p, hq, hp⟩ := hq
      have hqs : SqL K H dp [.str "put", .str a, .ref p] := .of (off_le _ _ hq)
      refine ⟨_, rfl, _, _, _, _, rfl, rfl, hqs, rfl, rfl, _, rfl, iteDF (by decide +kernel) ?_⟩
      refine ⟨_, rfl, _, _, _, _, rfl, rfl, hqs, rfl, rfl, _, rfl, iteDF (by decide +kernel) ?_⟩
      refine ⟨_, rfl, _, rfl, _, rfl, _, _, _, _, rfl, rfl, hqs, atI_nat (j := 1) rfl, by show 1 ≤ sizeLine; decide, fun x hx => ?_⟩
      have s1 := same_new (o := .lst [.str a]) hx
      refine ⟨l, x, _, _, rfl, rfl, s1 _ _ (off_le _ _ hls), upd_same, sz (by show vs.length + 1 ≤ 1000; omega), fun y hy => ⟨by show 2 ≤ sizeLine; decide, fun t ht => ?_⟩⟩
      have s2 := s1.trans (same_new (o := .lst (vs ++ [.str a])) hy)
      have s3 := s2.trans (same_new (o := .tup [.ref d, .ref y]) ht)
      refine ⟨_, rfl, _, _, _, _, rfl, rfl, .of (s3 _ _ (off_le _ _ hq)), rfl, rfl, _, rfl, iteD rfl ?_⟩
      generalize upd (upd (upd H x (.lst [.str a])) y (.lst (vs ++ [.str a]))) t (.tup [.ref d, .ref y]) = H2 at s3
      obtain ⟨kvs, hdk, hen⟩ := hd.same mono_plan (off_same (M := M) s3)
      have hdk2 : H2 d = some (.dK kvs) := off_le _ _ hdk
      have hnd := hen.nodup hok.sh.nd
      have klen : kvs.length ≤ 3 := by rw [← hen.len]; exact hok.sh.len
      refine ⟨d, _, hdk2, trivial, fun od => ?_⟩
      have hfz : upd H2 d (.frz od (.dK kvs)) d = some (.frz od (.dK kvs)) := upd_same
      refine ⟨_, rfl, d, od, rfl, .inl ⟨kvs, hfz, fun D2 hD2 => ?_⟩⟩
      refine lc_it walk_keys (fun i H' => Same (upd H2 d (.frz od (.dK kvs))) H' ∧ ∃ ps : List Addr, H' D2 = some (.lst (ps.map V.ref)) ∧ ps.length ≤ i ∧ Prs H' ps (kvs.take i))
        ⟨same_new hD2, [], upd_same, Nat.le_refl _, .nil⟩ (fun _ _ _ h => h.1 _ _ hfz) ?_ ?_
      · rintro i v H3 H3' hi ⟨s3, ps, h3, hps, hpr⟩ ⟨rfl, ky, v, hkv, rfl⟩
        obtain ⟨pr, _, ek, y, ey, _⟩ := hen.get hkv
        dsimp only at ek ey
        subst ek ey
        have hf3 := s3 _ _ hfz
        refine ⟨rfl, _, rfl, _, rfl, _, rfl, d, _, rfl, dget_frz hf3 hnd hkv, by show 2 ≤ sizeLine; decide, fun p hp => ?_⟩
        have s4 := same_new (o := .tup [kV (.inr pr.1), .ref y]) hp
        have h4 := s4 _ _ h3
        refine ⟨_, h4, by rw [List.length_map]; exact small1000 (by omega), same_mut (s3.trans s4) hD2, ps ++ [p], ?_, by rw [List.length_append]; show ps.length + 1 ≤ i + 1; omega, ?_⟩
        · rw [upd_same, List.map_append]
          rfl
        · rw [take_one hkv]
          exact prd_append ((hpr.same s4).mut h4) (.cons (by rw [upd_ne (ne_of upd_same h4 (by simp))]; exact upd_same) .nil)
      · rintro H3 ⟨s4, ps, h3, hps, hpr⟩
        have hf3 := s4 _ _ hfz
        rw [List.take_length] at hpr
        have s3' : Same H2 (upd H3 d (.dK kvs)) := unlock hdk2 s4
        have hpr' := hpr.ofD (z := .dK kvs) hf3
        have h3' : upd H3 d (.dK kvs) D2 = some (.lst (ps.map V.ref)) := by rw [upd_ne (ne_of h3 hf3 (by simp))]; exact h3
        refine ⟨hf3, ?_⟩
        have s04 := s3.trans s3'
        generalize upd H3 d (.dK kvs) = H4 at s3' hpr' h3' s04
        clear hpr h3 hf3 s4
        have hq4 : SqL K H4 dp [.str "put", .str a, .ref p] := .of (s04 _ _ (off_le _ _ hq))
        refine ⟨_, rfl, _, _, _, _, rfl, rfl, hq4, atI_nat (j := 1) rfl, _, rfl, _, _, _, _, rfl, rfl, hq4, atI_nat (j := 2) rfl, by show 2 ≤ sizeLine; decide, fun q5 h5 => ⟨by show 1 ≤ sizeLine; decide, fun q6 h6 => ?_⟩⟩
        have s5 := s04.trans (same_new (o := .tup [.str a, .ref p]) h5)
        have s6 := s5.trans (same_new (o := .lst [.ref q5]) h6)
        have s46 := (same_new (o := .tup [.str a, .ref p]) h5).trans (same_new (o := .lst [.ref q5]) h6)
        refine ⟨D2, q6, _, _, rfl, rfl, s46 _ _ h3', upd_same, sz (by show (ps.map V.ref).length + 1 ≤ 1000; rw [List.length_map]; omega), fun q7 h7 => ?_⟩
        have s7 := s6.trans (same_new (o := .lst (ps.map V.ref ++ [.ref q5])) h7)
        have s47 := s46.trans (same_new (o := .lst (ps.map V.ref ++ [.ref q5])) h7)
        have ent : Prs (upd (upd (upd H4 q5 (.tup [.str a, .ref p])) q6 (.lst [.ref q5])) q7 (.lst (ps.map V.ref ++ [.ref q5]))) (ps ++ [q5]) (kvs ++ [(.inr a, .ref p)]) :=
          prd_append (hpr'.same s47) (.cons (same_new h7 _ _ (same_new h6 _ _ upd_same)) .nil)
        refine ⟨q7, ps ++ [q5], _, rfl, by rw [List.map_append]; exact .of upd_same, ent.sqt, fun dd hdd => ?_⟩
        rw [mergeK_app, hen.merge hok.sh.nd]
        have s8 := s7.trans (same_new (o := .dK (putK kvs (.inr a) (.ref p))) hdd)
        have enp : ∀ {H' : Hp}, Same H2 H' → Same H H' → Ents PlanAt (off M H') (KB.put sh a π) (putK kvs (.inr a) (.ref p)) := fun s' s0 => (hen.same mono_plan (off_same s')).put (hp.same (off_same s0))
        have s28 := (s3'.trans s47).trans (same_new (o := .dK (putK kvs (.inr a) (.ref p))) hdd)
        have hdd' : upd (upd (upd (upd H4 q5 (.tup [.str a, .ref p])) q6 (.lst [.ref q5])) q7 (.lst (ps.map V.ref ++ [.ref q5]))) dd (.dK (putK kvs (.inr a) (.ref p))) dd = some (.dK (putK kvs (.inr a) (.ref p))) := upd_same
        have ndd : dd ∉ M := lv.new (s7.free hdd)
        generalize upd (upd (upd (upd H4 q5 (.tup [.str a, .ref p])) q6 (.lst [.ref q5])) q7 (.lst (ps.map V.ref ++ [.ref q5]))) dd (.dK (putK kvs (.inr a) (.ref p))) = H8 at s8 s28 hdd'
        refine ⟨_, rfl, by show 2 ≤ sizeLine; decide, fun t ht => ?_⟩
        have s9 := s8.trans (same_new (o := .tup [.ref dd, .ref l]) ht)
        have s29 := s28.trans (same_new (o := .tup [.ref dd, .ref l]) ht)
        have nt : t ∉ M := lv.new (s8.free ht)
        have ht3 : upd H8 t (.tup [.ref dd, .ref l]) t = some (.tup [.ref dd, .ref l]) := upd_same
        refine ⟨_, rfl, _, _, _, _, rfl, rfl, .of ht3, atI_nat (j := 0) rfl, _, rfl, _, _, _, _, rfl, rfl, .of ht3, atI_nat (j := 1) rfl, ?_⟩
        have hdd9 := same_new (o := .tup [.ref dd, .ref l]) ht _ _ hdd'
        refine ⟨dd, l, KB.put sh a π, ws, rfl, ⟨_, hdd9, (enp s29 s9).same mono_plan off_le⟩, hok.sh.put ha.1 ha.2, hlH.same s9, hok.ws, by omega, fun H5 s5 => ?_⟩
        have s05 := s9.trans s5
        have s25 := s29.trans s5
        have he : behind (sh, ws) (.put a π) = (match brk (KB.put sh a π) ws with | some i => (.brk i, (sh, ws)) | none => (.ok, (KB.put sh a π, ws))) := rfl
        cases eb : brk (KB.put sh a π) ws with
        | none =>
          rw [eb] at he
          refine ⟨_, rfl, 1, rfl, rfl, _, rfl, iteNS rfl ⟨by show 0 ≤ sizeLine; decide, fun z hz => ⟨_, rfl, by show 2 ≤ sizeLine; decide, fun r hr => ?_⟩⟩⟩
          have s6 := s05.trans (same_new (o := .lst []) hz)
          have s7 := s6.trans (same_new (o := .tup [.ref z, .ref t]) hr)
          have s57 := (same_new (o := .lst []) hz).trans (same_new (o := .tup [.ref z, .ref t]) hr)
          refine k _ _ _ _ s7 upd_same (s6.free hr) ?_ ?_
          · rw [he]
            exact ⟨z, rfl, onto (lv.new (s05.free hz)) (same_new hr _ _ upd_same)⟩
          · rw [he]
            exact ⟨t, dd, l, rfl, onto nt (s57 _ _ (s5 _ _ ht3)), ⟨_, onto ndd (s57 _ _ (s5 _ _ hdd9)), enp (s25.trans s57) s7⟩, hl.same (off_same s7)⟩
        | some j =>
          rw [eb] at he
          have hj : j < ws.length := by
            unfold brk at eb
            exact (List.findIdx?_eq_some_iff_getElem.mp eb).1
          refine ⟨_, rfl, 1, rfl, rfl, _, rfl, iteN (fun z => ?_) ⟨_, rfl, .inl ⟨j, rfl, small_log (by omega), by show 2 ≤ sizeLine; decide, fun z hz => ⟨_, rfl, by show 2 ≤ sizeLine; decide, fun r hr => ?_⟩⟩⟩⟩
          · have z' : V.int (j : Int) = V.int (-1) := z
            injection z' with z'
            omega
          have s6 := s05.trans (same_new (o := .lst [.str "Broken", .str (toString (j : Int))]) hz)
          have s7 := s6.trans (same_new (o := .tup [.ref z, .ref pp]) hr)
          refine k _ _ _ _ s7 upd_same (s6.free hr) ?_ ?_
          · rw [he]
            exact ⟨z, rfl, onto (lv.new (s05.free hz)) (same_new hr _ _ upd_same)⟩
          · rw [he]
            exact PageAt.same (off_same s7) ⟨pp, d, l, rfl, hpg, hd, hl⟩
end
end KB
end
section
set_option Elab.async false
set_option linter.all false
set_option maxRecDepth 100000
set_option maxHeartbeats 4000000
/-! a new wish, a new deed -/
namespace KB
open PySem PySem.Spec PyProof.Rows L2 KM
abbrev tList : List V := [.str "a", .str "main", .str "zz"]
theorem title_of {x : V} (h : x ∈ tList) : ∃ a, x = .str a ∧ a ∈ titles := by
  simp only [tList, List.mem_cons, List.not_mem_nil, or_false] at h
  rcases h with rfl | rfl | rfl
  · exact ⟨"a", rfl, by simp [titles]⟩
  · exact ⟨"main", rfl, by simp [titles]⟩
  · exact ⟨"zz", rfl, by simp [titles]⟩
theorem tList_ne {j t : Addr} {H : Hp} (hj : JugAt H j) (h : H t = some (.lst tList)) : t ≠ j := hj.ne h (by intro a b c z; injection z with z; injection z with z _; cases z)
section
variable {P : Program} {w : World} {K : PySem.W.Frag} {mg : Str → Option Value} {base : Heap}
def spNewWish : Sp := fun vs H Q _ => ∃ j t : Addr, vs = [.ref j, .ref t] ∧ JugAt H j ∧ H t = some (.lst tList) ∧ ∀ (p : Addr) (i : Wi) H', Jk j H H' → H' p = some (.tup i.vals) → i.Ok → H p = none → Q (.ref p) H'
theorem ok__law_new_wish (W : Wd K mg) : OkD P w K mg base CX0 4 "_law_new_wish" ["_law_jug_here", "_law_titles"] spNewWish := by
  have O__law_one_of := ok__law_one_of (P := P) (w := w) (base := base) W
  have O__law_some_n := ok__law_some_n (P := P) (w := w) (base := base) W
  refine (fn__law_new_wish W).ok sc__law_new_wish (fun vs H Q E h => ?_) (fun cdv A outer s H vs Q E hr h => ?_)
  · obtain ⟨j, t, rfl, _⟩ := h
    rfl
  · obtain ⟨j, t, rfl, hj, ht, k⟩ := h
    refine ⟨_, (pss_cons (ps_par (i := 2) (j := 3) rfl sc__law_new_wish.nd rfl rfl (by decide) rfl rfl (pa_cons (pcall O__law_one_of (hr.mono (by decide)) (pa_cons (pv 0) (pa_cons (pe_lst (pa_cons pe_str (pa_cons pe_str (pa_cons pe_str (pa_cons pe_str (pa_cons pe_str (pa_cons pe_str pa_nil))))))) pa_nil))) (pa_cons (pcall O__law_one_of (hr.mono (by decide)) (pa_cons (pv 0) (pa_cons (pv 1) pa_nil))) pa_nil)) (by rfl))
      (pss_cons (ps_if (pt_cmpR op_eq (pv 2) pe_str (nomark _)) (pss_one (ps_ret (pe_tup (pa_cons (pv 2) (pa_cons (pv 3) pa_nil))))) pss_nil)
      (pss_one (ps_ret (pe_tup (pa_cons (pv 2) (pa_cons (pv 3) (pa_cons (pe_ifExp (pt_cmpR op_eq (pv 2) pe_str (nomark _)) (pcall O__law_one_of (hr.mono (by decide)) (pa_cons (pv 0) (pa_cons (pv 1) pa_nil))) (pcall O__law_some_n (hr.mono (by decide)) (pa_cons (pv 0) pa_nil))) pa_nil)))))))), ?_⟩
    refine ⟨_, rfl, by show 6 ≤ sizeLine; decide, fun x hx => ?_⟩
    have jk0 := (Jk.refl hj).new (o := .lst [.str "splits", .str "splits", .str "whole", .str "whole", .str "always", .str "alike"]) hx
    refine ⟨j, x, _, rfl, jk0.jug, upd_same, hj.new hx, by show 0 < 6; decide, by show 6 ≤ 100; decide, fun word hw H1 jk1 _ => ?_⟩
    have jk01 := jk0.trans jk1
    refine ⟨_, rfl, _, rfl, j, t, _, rfl, jk1.jug, jk01.kept _ _ (tList_ne hj ht) ht, tList_ne hj ht, by show 0 < 3; decide, by show 3 ≤ 100; decide, fun ti hti H2 jk2 _ => ⟨_, _, rfl, ?_⟩⟩
    obtain ⟨a, rfl, ha⟩ := title_of hti
    have jk02 := jk01.trans jk2
    have word_cases : word = .str "splits" ∨ word = .str "whole" ∨ word = .str "always" ∨ word = .str "alike" := by
      simp only [List.mem_cons, List.not_mem_nil, or_false] at hw
      rcases hw with h | h | h | h | h | h <;> simp [h]
    rcases word_cases with rfl | rfl | rfl | rfl
    · refine ⟨_, rfl, rfl, _, rfl, iteDF (by decide +kernel) ⟨_, rfl, _, rfl, _, rfl, rfl, _, rfl, iteDF (by decide +kernel) ⟨_, rfl, j, rfl, jk02.jug, fun n H3 hn jk3 => ⟨by show 3 ≤ sizeLine; decide, fun p hp => ?_⟩⟩⟩⟩
      exact k p (.sp true a n) _ ((jk02.trans jk3).new hp) upd_same ⟨ha, hn⟩ ((jk02.trans jk3).free hj hp)
    · refine ⟨_, rfl, rfl, _, rfl, iteDF (by decide +kernel) ⟨_, rfl, _, rfl, _, rfl, rfl, _, rfl, iteDF (by decide +kernel) ⟨_, rfl, j, rfl, jk02.jug, fun n H3 hn jk3 => ⟨by show 3 ≤ sizeLine; decide, fun p hp => ?_⟩⟩⟩⟩
      exact k p (.sp false a n) _ ((jk02.trans jk3).new hp) upd_same ⟨ha, hn⟩ ((jk02.trans jk3).free hj hp)
    · refine ⟨_, rfl, rfl, _, rfl, iteD rfl ⟨_, rfl, _, rfl, by show 2 ≤ sizeLine; decide, fun p hp => ?_⟩⟩
      exact k p (.al a) _ (jk02.new hp) upd_same ha (jk02.free hj hp)
    · refine ⟨_, rfl, rfl, _, rfl, iteDF (by decide +kernel) ⟨_, rfl, _, rfl, _, rfl, rfl, _, rfl, iteD rfl ?_⟩⟩
      refine ⟨_, rfl, _, rfl, j, t, _, rfl, jk02.jug, jk02.kept _ _ (tList_ne hj ht) ht, tList_ne hj ht, by show 0 < 3; decide, by show 3 ≤ 100; decide, fun ti hti H3 jk3 _ => ⟨by show 3 ≤ sizeLine; decide, fun p hp => ?_⟩⟩
      obtain ⟨b, rfl, hb⟩ := title_of hti
      exact k p (.ak a b) _ ((jk02.trans jk3).new hp) upd_same ⟨ha, hb⟩ ((jk02.trans jk3).free hj hp)
def NR (M : List Addr) (H : Hp) : Prop := ∀ m ∈ M, ∀ v : Vec, ¬ RowAt H m v
theorem Lv.jk {M : List Addr} {H H' : Hp} {j : Addr} (h : Lv M H) (k : Jk j H H') : Lv M H' := fun m hm z => by
  by_cases c : m = j
  · obtain ⟨a, b, d, e⟩ := k.jug
    rw [c, e] at z
    cases z
  · cases e : H m with
    | none => exact h m hm e
    | some o => rw [k.kept _ _ c e] at z; cases z
theorem NR.jk {M : List Addr} {H H' : Hp} {j : Addr} (h : NR M H) (l : Lv M H) (k : Jk j H H') : NR M H' := fun m hm v z => by
  by_cases c : m = j
  · exact k.jug.ne_row z c
  · cases e : H m with
    | none => exact l m hm e
    | some o =>
      have z2 := k.kept _ _ c e
      unfold RowAt at z
      rw [z2] at z
      exact h m hm v (e.trans z)
def spNewDeed : Sp := fun vs H Q _ => ∃ (j : Addr) (pp : Addr) (pg : Pg) (M : List Addr), vs = [.ref j, .ref pp] ∧ JugAt H j ∧ j ∈ M ∧ Lv M H ∧ NR M H ∧ PageAt (off M H) pg (.ref pp) ∧ pg.2.length ≤ 50 ∧
  ∀ (q : Addr) (de : De) H', Jk j H H' → DeAt (off M H') de (.ref q) → de.Ok → Q (.ref q) H'
theorem ok__law_new_deed (W : Wd K mg) : OkD P w K mg base CX0 5 "_law_new_deed" ["_law_jug_here", "_law_page"] spNewDeed := by
  have O__law_pull := ok__law_pull (P := P) (w := w) (base := base) W
  have O__law_one_of := ok__law_one_of (P := P) (w := w) (base := base) W
  have O__law_plan := ok__law_plan (P := P) (w := w) (base := base) W
  have O__law_new_wish := ok__law_new_wish (P := P) (w := w) (base := base) W
  refine (fn__law_new_deed W).ok sc__law_new_deed (fun vs H Q E h => ?_) (fun cdv A outer s H vs Q E hr h => ?_)
  · obtain ⟨j, pp, pg, M, rfl, _⟩ := h
    rfl
  · obtain ⟨j, pp, pg, M, rfl, hj, jM, lv, nr, ⟨_, d, l, e, hpg, hd, hl⟩, hlen, k⟩ := h
    cases e
    refine ⟨_, (pss_cons (ps_par (i := 2) (j := 3) rfl sc__law_new_deed.nd rfl rfl (by decide) rfl rfl (pa_cons (pe_lst (pa_cons pe_str (pa_cons pe_str (pa_cons pe_str pa_nil)))) (pa_cons (pcall O__law_pull (hr.mono (by decide)) (pa_cons (pv 0) (pa_cons pe_int pa_nil))) pa_nil)) (by rfl))
      (pss_cons (ps_if (pt_cmpR op_lt (pv 3) pe_int (nomark _)) (pss_one (ps_ret (pe_lst (pa_cons pe_str (pa_cons (pcall O__law_new_wish (hr.mono (by decide)) (pa_cons (pv 0) (pa_cons (pv 2) pa_nil))) pa_nil))))) pss_nil)
      (pss_cons (ps_if (pt_cmpR op_eq (pv 3) pe_int (nomark _)) (pss_one (ps_ret (pe_lst (pa_cons pe_str (pa_cons (pcall O__law_pull (hr.mono (by decide)) (pa_cons (pv 0) (pa_cons (pe_op op_add (pe_callB call_len rfl (fr_len W) (by decide +kernel) (pa_cons (pe_ix ix_tup (pv 1) pe_int (fun _ _ => rfl)) pa_nil)) pe_int) pa_nil))) pa_nil))))) pss_nil)
      (pss_cons (ps_if (pt_cmpR op_eq (pv 3) pe_int (nomark _)) (pss_one (ps_ret (pe_lst (pa_cons pe_str (pa_cons (pcall O__law_one_of (hr.mono (by decide)) (pa_cons (pv 0) (pa_cons (pv 2) pa_nil))) pa_nil))))) pss_nil)
      (pss_one (ps_ret (pe_lst (pa_cons pe_str (pa_cons (pcall O__law_one_of (hr.mono (by decide)) (pa_cons (pv 0) (pa_cons (pv 2) pa_nil))) (pa_cons (pcall O__law_plan (hr.mono (by decide)) (pa_cons (pv 0) pa_nil)) pa_nil)))))))))), ?_⟩
    refine ⟨by show 3 ≤ sizeLine; decide, fun t ht => ?_⟩
    have jk0 := (Jk.refl hj).new (o := .lst tList) ht
    have ht0 : upd H t (.lst tList) t = some (.lst tList) := upd_same
    refine ⟨_, rfl, j, 8, rfl, jk0.jug, by decide, by decide, fun way H1 w0 w1 jk1 _ => ⟨_, _, rfl, ?_⟩⟩
    have jk01 := jk0.trans jk1
    have ht1 := jk1.kept _ _ (tList_ne jk0.jug ht0) ht0
    have tj := tList_ne jk01.jug ht1
    have nM : ∀ {p : Addr} {H' : Hp}, Jk j H H' → H' p = none → p ∉ M := fun jk hp => lv.new (jk.free hj hp)
    refine ⟨_, rfl, _, _, rfl, rfl, _, rfl, ite2D (fun c => ?_) (fun c => ?_)⟩
    · refine ⟨_, rfl, _, rfl, j, t, rfl, jk1.jug, ht1, fun p i H2 jk2 hp hi fp => ⟨by show 2 ≤ sizeLine; decide, fun q hq => ?_⟩⟩
      have jk02 := jk01.trans jk2
      refine k q (.wish i) _ (jk02.new hq) ⟨q, rfl, p, onto (nM jk02 hq) upd_same, onto (nM jk01 fp) (same_new hq _ _ hp)⟩ hi
    · refine ⟨_, rfl, rfl, _, rfl, ite2D (fun c2 => ?_) (fun c2 => ?_)⟩
      · obtain ⟨vs, hls, hws⟩ := hl
        have e : pg.2.length = vs.length := prd_len hws
        have up1 : ∀ {b : Addr} {o : HO}, off M H b = some o → H1 b = some o := fun z => off_le _ _ (off_jk jM jk01 _ _ z)
        refine ⟨_, rfl, _, rfl, _, _, _, _, rfl, rfl, .of (up1 hpg), atI_nat (j := 1) rfl, _, vs.length, rfl, .inl ⟨_, .of (up1 hls), rfl⟩, _, _, rfl, rfl, j, _, rfl, jk1.jug, by omega, by omega, fun r H2 r0 r1 jk2 _ => ⟨by show 2 ≤ sizeLine; decide, fun q hq => ?_⟩⟩
        have jk02 := jk01.trans jk2
        obtain ⟨n, rfl⟩ : ∃ n : Nat, r = n := ⟨r.toNat, by omega⟩
        exact k q (.lift n) _ (jk02.new hq) ⟨q, rfl, onto (nM jk02 hq) upd_same⟩ (show n ≤ 100 by omega)
      · refine ⟨_, rfl, rfl, _, rfl, ite2D (fun c3 => ?_) (fun c3 => ?_)⟩
        · refine ⟨_, rfl, _, rfl, j, t, _, rfl, jk1.jug, ht1, tj, by show 0 < 3; decide, by show 3 ≤ 100; decide, fun ti hti H2 jk2 _ => ⟨by show 2 ≤ sizeLine; decide, fun q hq => ?_⟩⟩
          obtain ⟨a, rfl, ha⟩ := title_of hti
          have jk02 := jk01.trans jk2
          exact k q (.drop a) _ (jk02.new hq) ⟨q, rfl, onto (nM jk02 hq) upd_same⟩ ha
        · refine ⟨_, rfl, _, rfl, j, t, _, rfl, jk1.jug, ht1, tj, by show 0 < 3; decide, by show 3 ≤ 100; decide, fun ti hti H2 jk2 _ => ?_⟩
          obtain ⟨a, rfl, ha⟩ := title_of hti
          have jk02 := jk01.trans jk2
          refine ⟨_, rfl, j, rfl, jk02.jug, fun p π H3 jk3 hp hπ fp => ⟨by show 3 ≤ sizeLine; decide, fun q hq => ?_⟩⟩
          have jk03 := jk02.trans jk3
          obtain ⟨r, hrow, hpl⟩ := hp
          have nrM : r ∉ M := fun z => (nr.jk lv jk03) r z π.v hrow
          refine k q (.put a π) _ (jk03.new hq) ⟨q, rfl, p, onto (nM jk03 hq) upd_same, r, onto nrM (same_new hq _ _ hrow), onto (nM jk02 fp) (same_new hq _ _ hpl)⟩ ⟨ha, hπ⟩
end
end KB
end
section
set_option Elab.async false
set_option linter.all false
set_option maxRecDepth 100000
set_option maxHeartbeats 4000000
/-! enumerate over a tuple -/
namespace PySem
open Sem (wp)
open AutoSeq1 (wpAny_loadPart')
theorem kb_enum_new {v : Value} {o : Obj} {H : Heap → Prop} (B : Begins v o H) :
    Meets (Builtin.«enumerate.__new__» ⟨[.type "enumerate", v], []⟩) (fun _ R s => H s.heap ∧
      R (.ok (.ret (.ref (s.heap.push o).objs.size))) { s with heap := (s.heap.push o).push { cls := .type "enumerate", data := .fields #[.none, .bool false, .ref s.heap.objs.size, rawInt 0, .none, .none] } }) :=
  .of_wp fun prog w A R s h => by
    obtain ⟨hp, g, d, tk, os⟩ := s
    obtain ⟨h1, h⟩ := h
    have sub := sub_enumerate
    have it : ∀ {A' : Around} {E : Value → Shared → Prop} {Q : Value → Shared → Prop}, Q (.ref hp.objs.size) ⟨hp.push o, g, d, tk, os⟩ → wpAny (model prog w) A' (pyIter v) Q E ⟨hp, g, d, tk, os⟩ :=
      fun q => B.iter prog w _ _ ⟨hp, g, d, tk, os⟩ _ h1 q
    wp_walk using it
    refine wpAny_stack_any fun st => wpAny_pure ?_
    split
    · rename_i c _ _ _ _ _
      cases (c == Value.type "enumerate")
      · wp_walk using it
        exact ⟨_, rfl, h⟩
      · wp_walk using it
        exact ⟨_, rfl, h⟩
    · wp_walk using it
      exact ⟨_, rfl, h⟩
section
variable {prog : Program} {w : World} {A : Around} {E : Value → Shared → Prop} {s : Shared}
theorem kb_enum_call {v : Value} {o : Obj} {H : Heap → Prop} {Q : Value → Shared → Prop} (B : Begins v o H) (h1 : H s.heap)
    (h : ∀ h', IsEnum h' (s.heap.objs.size + 1) s.heap.objs.size 0 .none → h'.get? s.heap.objs.size = some o → (∀ b o, s.heap.get? b = some o → h'.get? b = some o) → Q (.ref (s.heap.objs.size + 1)) { s with heap := h' }) :
    wpAny (model prog w) A (call (.type "enumerate") [v]) Q E s := by
  refine callType_new F.called_enumerate (by decide) (F.typeCall_enumerate_1 _) (F.newCall_enumerate_1 _) (fun obj => F.args_object_init_2 obj _) F.entry_enumerate_new (kb_enum_new B) ⟨h1, ?_⟩
  have size1 : (s.heap.push o).objs.size = s.heap.objs.size + 1 := Heap.size_push ..
  show _ ∧ _
  rw [size1]
  have made : IsEnum ((s.heap.push o).push { cls := .type "enumerate", data := .fields #[.none, .bool false, .ref s.heap.objs.size, rawInt 0, .none, .none] }) (s.heap.objs.size + 1) s.heap.objs.size 0 .none := by
    have z := Heap.get?_push_size (s.heap.push o) (o := { cls := .type "enumerate", data := .fields #[.none, .bool false, .ref s.heap.objs.size, rawInt 0, .none, .none] }) rfl
    rw [size1] at z
    exact z
  exact ⟨⟨_, made, rfl⟩, h _ made (Heap.get?_push_of_some _ (Heap.get?_push_size _ B.free)) fun b o x => Heap.get?_push_of_some _ (Heap.get?_push_of_some _ x)⟩
end
end PySem
namespace KB
open PySem PySem.Spec PyProof.Rows L2
/-- a tuple's iterator at its end -/
theorem drawn_out {prog : Program} {w : World} {A : Around} (hh : A.handled = none) (it t : Addr) (items : Array Value) (i : Nat) (h : items.size ≤ i) :
    Draws prog w A it [it, t] i (fun _ _ => False) (fun j h => h.IsTupleIter it t j ∧ h.IsTuple t items ∧ j = i) where
  live := fun _ _ st => let ⟨o, ho, _⟩ := st.1; ⟨o, ho⟩
  frame := fun _ _ _ st hk => ⟨st.1.at fun o e => hk it (by simp) o e, st.2.1.at fun o e => hk t (by simp) o e, st.2.2⟩
  item := fun j s Q E hi st hQ => absurd hi (by rw [st.2.2]; exact Nat.lt_irrefl _)
  done := fun s Q E st hE => wpAny_nextOf_tuple_end hh st.1 st.2.1 (Array.getElem?_eq_none h) hE
/-- enumerate of the tuple at a -/
def Iet (K : PySem.W.Frag) (a : Addr) : It :=
  ⟨fun i H => ∃ (xs : List V) (x : V), SqT K H a xs ∧ xs[i]? = some x, fun i H v H' => ∃ T x, v = .ref T ∧ H T = none ∧ H' = upd H T (.tup [.int (i : Nat), x]) ∧ ∀ xs, SqT K H a xs → xs[i]? = some x, fun i H => ∃ xs : List V, SqT K H a xs ∧ xs.length ≤ i⟩
theorem turn_enumT {P : Program} {w : World} {K : PySem.W.Frag} {elts : List Expr} {kk : Nat} {tpos : Pos} (a e it : Addr) :
    Turn P w K (.Tuple elts kk tpos) (Iet K a) [e, it] e (fun i h => (∃ old, IsEnum h e it ((i : Nat) : Int) old) ∧ h.IsTupleIter it a i ∧ e ≠ it ∧ e ≠ a ∧ a ≠ it) where
  mem := by simp
  obj := fun i h ⟨⟨old, he⟩, ⟨o, ho, _, hd⟩, _⟩ b hb => by
    rcases (show b = e ∨ b = it by simpa using hb) with z | z
    · rw [z]; exact ⟨_, he, fun v q => nomatch q⟩
    · rw [z]; exact ⟨o, ho, fun v q => by rw [hd] at q; cases q⟩
  keep := fun i h h' ⟨⟨old, he⟩, hi, n⟩ k => ⟨⟨old, k e (by simp) _ he⟩, hi.at fun o q => k it (by simp) o q, n⟩
  item := by
    intro X hP hw hK hc i pins s σ H E I hf st hg
    subst hP hw hK
    obtain ⟨⟨old, he⟩, hit, nei, nea, nai⟩ := st
    obtain ⟨xs, x, hq, hx⟩ := hg
    obtain ⟨its, rv, p, hz⟩ := I.tuple hq
    have hil : i < its.length := by
      have := rv.length
      have := (List.getElem?_eq_some_iff.mp hx).1
      omega
    have D := Draws.tuple (prog := X.prog) (w := X.w) (A := X.A.in1) (I.ok.hd hc) it a nai its.toArray
    refine wpAny_pyNext_enum_itemD D he ⟨hit, p⟩ (by simpa using hil) nei (by simp [nei, nea]) fun u h' tk hu ho hit' hT hsz hk => ?_
    have hel : e < s.heap.objs.size := Heap.lt_size he
    have hitl : it < s.heap.objs.size := by obtain ⟨_, q, _⟩ := hit; exact Heap.lt_size q
    obtain ⟨u', hu', ru⟩ := rv.get hx
    have eu : u' = u := by
      have z : its.toArray[i]? = some u := hu
      rw [List.getElem?_toArray, hu'] at z
      exact Option.some.inj z
    subst eu
    refine ⟨_, rfl, wpAny_letOwnedTupleGo_enum (s := { s with heap := h', toks := tk + 1 }) ho fun h2 he' sb => ?_⟩
    have hT2 : h2.get? s.heap.objs.size = some { cls := .type "tuple", data := .seq #[.int i tk, u'] } := (sb.2 _ (Nat.ne_of_gt hel)).trans hT
    have new : ObjOk X.prog X.w (upd H s.heap.objs.size (.tup [.int (i : Nat), x])) h2 s.heap.objs.size (.tup [.int (i : Nat), x]) :=
      ⟨by show 2 ≤ sizeLine; decide, [.int i tk, u'], .cons ⟨_, rfl⟩ (.cons ru .nil), ⟨_, hT2, rfl, _, rfl⟩⟩
    have I1 : Inv X pins σ (upd H s.heap.objs.size (.tup [.int (i : Nat), x])) { s with heap := h2, toks := tk + 1 } :=
      I.turnedNew (ch := [e, it]) (fun b ob hb q => (sb.2 b (fun z => hb (by simp [z]))).trans (hk b ob (fun z => hb (by simp [z])) (fun z => hb (by simp [z])) q)) hf (Nat.le_refl _) new
    refine ⟨.ref s.heap.objs.size, _, I1, rfl, ⟨_, x, rfl, I.hok.fresh (Nat.le_refl _), rfl, fun ys hy => by rw [I.tuple_inj hy hq]; exact hx⟩, ⟨⟨u', ?_⟩, hit'.1.at fun o q => (sb.2 it (Ne.symm nei)).trans q, nei, nea, nai⟩, fun b hb => ?_⟩
    · rw [show ((i + 1 : Nat) : Int) = (i : Int) + 1 by omega]
      exact he'
    · have hb' : b < s.heap.objs.size := by
        rcases (show b = e ∨ b = it by simpa using hb) with z | z <;> rw [z]
        · exact hel
        · exact hitl
      rw [upd_ne (Nat.ne_of_lt hb')]
      exact (hf b hb).1
  done := by
    intro X hP hw hK hc i pins s σ H E I hf st hg
    subst hP hw hK
    obtain ⟨⟨old, he⟩, hit, nei, nea, nai⟩ := st
    obtain ⟨xs, hq, hx⟩ := hg
    obtain ⟨its, rv, p, hz⟩ := I.tuple hq
    have hl := rv.length
    obtain ⟨f0, f1, f2, f3, f4, f5⟩ := hf it (by simp)
    have D := drawn_out (prog := X.prog) (w := X.w) (A := X.A.in1) (I.ok.hd hc) it a its.toArray i (by rw [List.size_toArray]; omega)
    exact wpAny_pyNext_enum_endD D he ⟨hit, p, rfl⟩ fun h' eb => ⟨rfl, I.turned (t' := s.toks) (fun b o hb q => eb b o hb q) f0 f1 f3 f4 f5⟩
  self := fun A i s Q E st h => let ⟨⟨_, he⟩, _⟩ := st; wpAny_pyIter_enum he h
def iEnT (K : PySem.W.Frag) (ta : TA) : TI := fun σ H R => ta σ H fun vs H1 => ∃ a xs, vs = [.ref a] ∧ SqT K H1 a xs ∧ R (Iet K a) H1
theorem pi_enT {X : Cx} {e : Expr} {ta : TA} {p pos tpos : Pos} {elts : List Expr} {kk : Nat} (hg : Gl X "enumerate") (hm : X.mg "enumerate" = none) (ha : PA X [e] ta) (hs : starEach [e] X.env = [(false, eval e X.env)] := by rfl) :
    PI X (.Tuple elts kk tpos) (.Call (.Name "enumerate" p) [e] [] pos) (iEnT X.K ta) := by
  refine ⟨fun pins s σ H R I h => ?_⟩
  refine Call_ (ld_blt I hg hm boot_enumerate (PyProof.Rows.callWith_type1 (thn (ha.run pos pins s σ H _ I h) fun us s1 ⟨vs, H1, I1, r1, q1⟩ => ?_) hs rfl))
  obtain ⟨a, xs, rfl, hq, q⟩ := q1
  obtain ⟨u, rfl, ru⟩ := vals1 r1
  obtain rfl : u = Value.ref a := ru
  obtain ⟨its, rv, p', hz⟩ := I1.tuple hq
  refine kb_enum_call (begins_tuple a its.toArray) p' fun h' he hit hk => wpAny_pyIter_enum he ?_
  have I2 : Inv X pins σ H1 { s1 with heap := h' } := I1.kept (t' := s1.toks) hk
  have al : a < s1.heap.objs.size := by obtain ⟨o, z, _⟩ := p'; exact Heap.lt_size z
  refine ⟨s1.heap.objs.size + 1, [s1.heap.objs.size + 1, s1.heap.objs.size], _, _, H1, rfl, I2, turn_enumT a (s1.heap.objs.size + 1) s1.heap.objs.size, ⟨⟨.none, he⟩, ⟨_, hit, rfl, rfl⟩, Nat.succ_ne_self _, Nat.ne_of_gt (Nat.lt_succ_of_lt al), Nat.ne_of_lt al⟩, fun b hb => ?_, q⟩
  have hle : s1.heap.objs.size ≤ b := by
    rcases (show b = s1.heap.objs.size + 1 ∨ b = s1.heap.objs.size by simpa using hb) with z | z <;> rw [z]
    · exact Nat.le_succ _
    · exact Nat.le_refl _
  exact I1.fpOk hle (I1.hok.fresh hle)
theorem walk_enT {K : PySem.W.Frag} {a : Addr} {xs : List V} : Walk (Iet K a) xs.length (fun H => SqT K H a xs) (YPair (fun i => some (.int (i : Nat))) (fun i => xs[i]?)) where
  goes := fun i H hi h => ⟨xs, xs[i], h, List.getElem?_eq_getElem hi⟩
  stops := fun H h => ⟨xs, h, Nat.le_refl _⟩
  yields := fun i H v H' hi h ⟨T, x, e, hT, eH, ex⟩ => ⟨T, .int (i : Nat), x, e, hT, eH, rfl, ex xs h⟩
/-! ### t == (), stores of attributes by a pair -/
theorem op_eqT0 {X : Cx} (hu : X.A.units < cLine) : OpR X (compareOp .Eq) (fun x y H Q => ∃ a b xs, x = .ref a ∧ y = .ref b ∧ SqT X.K H a xs ∧ SqT X.K H b [] ∧ Q (.bl xs.isEmpty) H) := by
  intro pins s σ H x y v u Q I rx ry h
  obtain ⟨a, b, xs, rfl, rfl, ha, hb, q⟩ := h
  obtain rfl : v = Value.ref a := rx
  obtain rfl : u = Value.ref b := ry
  obtain ⟨its, rv, p, _⟩ := I.tuple ha
  obtain ⟨its2, rv2, p2, _⟩ := I.tuple hb
  cases rv2
  refine SeqAt.eq_tupleAt (e := fun _ => true) p p2 hu (fun j _ h2 => absurd h2 (by simp)) ⟨.bl _, H, I, ?_, q⟩
  have e := isEmpty_of rv
  show Value.bool _ = Value.bool xs.isEmpty
  congr 1
  cases rv <;> simp
/-- o.f = .. as one of several targets -/
def gFld (K : PySem.W.Frag) (to : TE) (f : Str) : TG := fun y σ H Q => to σ H fun x H1 => ∃ a C dx fs, x = .ref a ∧ H1 a = some (.ins C dx fs) ∧ Cls K C ∧ NoAttr K C f ∧ fs.length < 1000 ∧ Q σ (upd H1 a (.ins C dx (putF f y fs)))
theorem pg_fld {X : Cx} {o : Expr} {f : Str} {to : TE} {pos : Pos} (ho : PE X o to) : PG X (.Attribute o f pos) (gFld X.K to f) := by
  refine ⟨fun pins s σ H v u Q I r h => ?_⟩
  rw [assign_Attribute]
  refine wpAny_bind (wpAny_holding (thn (ho.run pins s σ H _ I h) fun ov s1 ⟨x, H1, I1, r1, a, C, dx, fs, ex, ea, c, n, l, q⟩ => ?_))
  subst ex
  obtain rfl : ov = Value.ref a := r1
  exact wpAny_bind (wpAny_standAt (wpAny_bind (wpAny_holding (setattr_ok I1 ea c n l r fun s3 I3 => wpAny_release ⟨σ, _, I3, q⟩))))
end KB
end
section
set_option Elab.async false
set_option linter.all false
set_option maxRecDepth 100000
set_option maxHeartbeats 4000000
/-! o[k], o[k] = v, k not in o, len(o), bool(o) by the class's own methods -/
namespace KB
open PySem PySem.Spec PyProof.Rows L2
section
variable {X : Cx} {CX : CXT} {k : Nat} {C f : Addr} {fd : FuncData} {ps : List Str} {sp : Sp} {E : XK} {pins : List (Addr × Obj)} {σ : L2.St} {H : Hp} {s : Shared} {Q : VK}
/-- the method runs, under whatever stands on the stack -/
theorem run_env {A' : Around} {us : List Value} {vs : List V} (F : FnOk X.prog X.w X.K X.mg X.base CX k f fd ps sp) (hr : Room k A') (e0 : Env0 X.prog X.w X.K X.mg X.base A' X.stack s H) (hb : Binds X.K fd ps []) (hx : Passes CX X E)
    (I : Inv X pins σ H s) (r : Vals vs us) (h : sp vs H Q E) : wpAny (model X.prog X.w) A' (call (.ref f) us) (EP X pins σ Q) X.xe s := by
  have hl : us.length = ps.length := by rw [← r.length]; exact F.len _ _ _ _ h
  have bt : BindsTo s fd ⟨us, []⟩ (ps.zip us) := by
    have z := hb s us I.kIn (by rw [List.append_nil]; exact hl)
    rwa [List.append_nil] at z
  refine wpAny_call (codeAny_mono (F.run A' X.stack s H ⟨us, []⟩ us vs Q E hr e0 bt r h) fun r s' hq => ?_)
  cases r with
  | error e => exact hx pins σ H s e s' I hq
  | ok fl =>
    cases fl with
    | ret u => exact I.after hq
    | next => exact hq.elim
    | brk => exact hq.elim
    | cont => exact hq.elim
theorem ins_at {b dx : Addr} {fs : List (Str × V)} (I : Inv X pins σ H s) (e : H b = some (.ins C dx fs)) : ∃ od, PySem.W.InstAt s.heap b (PySem.W.instObj C dx) C (some od) := by
  obtain ⟨mA, O, _⟩ := ins_get I.hok e
  obtain ⟨od, J, _⟩ := O.look
  exact ⟨od, J⟩
/-- o[i] = v -/
def rOwnSet (C : Addr) (sp : Sp) (E : XK) : TSet := fun o i v H Q => ∃ b dx fs, o = .ref b ∧ H b = some (.ins C dx fs) ∧ sp [o, i, v] H (fun _ H' => Q H') E
theorem set_own (hq : PySem.W.noSeq X.K C = true) (hm : Meth X.K C "__setitem__" f) (F : FnOk X.prog X.w X.K X.mg X.base CX k f fd ps sp) (hr : Room k X.A) (hb : Binds X.K fd ps []) (hx : Passes CX X E) : PSet X (rOwnSet C sp E) := by
  intro pins s σ H o i v ov iv u Q I ro ri rv h
  obtain ⟨b, dx, fs, rfl, e, h⟩ := h
  obtain rfl : ov = Value.ref b := ro
  obtain ⟨od, J⟩ := ins_at I e
  obtain ⟨m, fr⟩ := I.fr
  exact PySem.W.ksp_setItem fr I.ok.mod.kin J hq hm.at_ hm.fn (thn (run_env (vs := [.ref b, i, v]) F hr I.env0 hb hx I (.cons rfl (.cons ri (.cons rv .nil))) h) fun _ s' ⟨_, H', I', _, q⟩ => ⟨H', I', q⟩)
/-- o[i] -/
def tOwnSub (C : Addr) (sp : Sp) (E : XK) (to ti : TE) : TE := fun σ H Q => to σ H fun o H1 => ti σ H1 fun i H2 => ∃ b dx fs, o = .ref b ∧ H2 b = some (.ins C dx fs) ∧ sp [o, i] H2 Q E
theorem pe_ownSub {o i : Expr} {to ti : TE} {pos : Pos} (hm : Meth X.K C "__getitem__" f) (hfn : PySem.W.fnIn X.K f = true) (F : FnOk X.prog X.w X.K X.mg X.base CX k f fd ps sp) (hr : Room (k + 1) X.A) (hb : Binds X.K fd ps []) (hx : Passes CX X E) (ho : PE X o to) (hi : PE X i ti)
    (hsl : ∀ a v, subscripted i true (.ref a) v = runValue (.builtin "lifetime.subscript" ⟨[.ref a, v], []⟩) := by intro _ _; with_unfolding_all rfl) : PE X (.Subscript o i pos) (tOwnSub C sp E to ti) := by
  refine ⟨fun pins s σ H Q I h => ?_⟩
  refine Subscript_ (binT ho hi I (R := fun x y H2 => ∃ b dx fs, x = V.ref b ∧ H2 b = some (.ins C dx fs) ∧ sp [x, y] H2 Q E) h fun v u s2 x y H2 I2 rx ry q => ?_)
  obtain ⟨b, dx, fs, rfl, e, h⟩ := q
  obtain rfl : v = Value.ref b := rx
  obtain ⟨od, J⟩ := ins_at I2 e
  obtain ⟨m, fr⟩ := I2.fr
  exact PySem.W.sub_K fr I.ok.mod.kin J hm.at_ hfn hm.fn (run_env (vs := [.ref b, y]) F hr.in1 I2.env0.in1 hb hx I2 (.cons rfl (.cons ry .nil)) h) (hsl _ _)
/-- v not in o -/
theorem op_ownNotIn (hm : Meth X.K C "__contains__" f) (F : FnOk X.prog X.w X.K X.mg X.base CX k f fd ps sp) (hr : Room k X.A) (hb : Binds X.K fd ps []) (hx : Passes CX X E) :
    OpR X (compareOp .NotIn) (fun x y H Q => ∃ b dx fs, y = .ref b ∧ H b = some (.ins C dx fs) ∧ sp [y, x] H (fun v H' => ∃ c, v = .bl c ∧ Q (.bl (!c)) H') E) := by
  intro pins s σ H x y v u Q I rx ry h
  obtain ⟨b, dx, fs, rfl, e, h⟩ := h
  obtain rfl : u = Value.ref b := ry
  obtain ⟨od, J⟩ := ins_at I e
  obtain ⟨m, fr⟩ := I.fr
  refine PySem.W.notIn_K fr I.ok.mod.kin J hm.at_ hm.fn (thn (run_env (vs := [.ref b, x]) F hr I.env0 hb hx I (.cons rfl (.cons rx .nil)) h) fun r s' ⟨w, H', I', rw', c, ew, q⟩ => ?_)
  subst ew
  obtain rfl : r = Value.bool c := rw'
  exact wpAny_truthy_bool ⟨.bl (!c), H', I', rfl, q⟩
/-- len(o) -/
theorem call_ownLen (hm : Meth X.K C "__len__" f) (F : FnOk X.prog X.w X.K X.mg X.base CX k f fd ps sp) (hr : Room (k + 1) X.A) (hb : Binds X.K fd ps []) (hx : Passes CX X E) :
    CallR X (.builtin "len") (fun xs H Q => ∃ b dx fs, xs = [.ref b] ∧ H b = some (.ins C dx fs) ∧ sp xs H (fun v H' => ∃ n : Nat, v = .int n ∧ n ≤ 1000 ∧ Q (.int n) H') E) := by
  intro pins s σ H xs us Q I r h
  obtain ⟨b, dx, fs, rfl, e, h⟩ := h
  obtain ⟨u, rfl, ru⟩ := vals1 r
  obtain rfl : u = Value.ref b := ru
  obtain ⟨od, J⟩ := ins_at I e
  obtain ⟨m, fr⟩ := I.fr
  refine PySem.W.len_K fr I.ok.mod.kin J hm.at_ hm.fn (thn (run_env (vs := [.ref b]) F hr.in1 I.env0.in1 hb hx I (.cons rfl .nil) h) fun r s' ⟨w, H', I', rw', n, ew, hn, q⟩ => ?_)
  subst ew
  obtain ⟨t, rfl⟩ := (show ∃ t, r = Value.int n t from rw')
  exact ⟨⟨by omega, by omega⟩, .int n, H', I'.tok _, ⟨_, rfl⟩, q⟩
/-! ### bool(o), by its __len__ -/
theorem truthy_len {prog : Program} {w : World} {A : Around} {E : Value → Shared → Prop} {s : Shared} {K : PySem.W.Frag} {x C f : Addr} {ox : Obj} {od : Option Obj} {Q : Bool → Shared → Prop} (X : K.In s.heap) (I : PySem.W.InstAt s.heap x ox C od)
    (hn : PySem.W.findIn K (.ref C) "__bool__" = some none) (hs : PySem.W.findIn K (.ref C) "__len__" = some (some (.ref f))) (hf : PySem.W.isFn K (.ref f) = true)
    (h : wpAny (model prog w) A.in1 (call (.ref f) [.ref x]) (PySem.W.LenBack fun v s' => ∃ n t, v = .int n t ∧ Q (n != 0) s') E s) : wpAny (model prog w) A (truthy (.ref x)) Q E s := by
  have key : wpAny (model prog w) A (runValue (.builtin "len" ⟨[.ref x], []⟩)) (fun r s' => ∃ n t, r = .int n t ∧ Q (n != 0) s') E s := by
    refine wpAny_runValue (codeAny_builtin PySem.entry_len ?_)
    rw [Around.under_plainId PySem.plain_len _]
    unfold Builtin.«len»
    refine wpAny_bind (m := oneArg "len" _) (wpAny_pure ?_)
    refine wpAny_bind (m := callSpecial? (.ref x) (Str.ofString "__len__")) (PySem.W.special_fn X I hs (beq_iff_eq.mp hf) (wpAny_mono h (fun r s' hr => ?_) fun _ _ y => y))
    cases r with
    | int n u =>
      obtain ⟨⟨h0, h1⟩, hq⟩ := hr
      refine wpAny_bind (wpAny_holding (wpAny_pure ?_))
      refine wpAny_bind (wpAny_letGo ?_)
      show wpAny _ _ (if n < 0 then _ else _) _ _ _
      rw [if_neg (by omega)]
      show wpAny _ _ (if n ≥ 2 ^ 63 then _ else _) _ _ _
      rw [if_neg (by omega)]
      exact wpAny_bind (wpAny_mkInt (wpAny_pure hq))
    | _ => exact hr.elim
  unfold truthy
  refine wpAny_bind (m := callSpecial? (.ref x) (Str.ofString "__bool__")) (wpAny_bind (wpAny_bind (I.type.here ((PySem.W.looks_findIn X hn).here (wpAny_pure ?_)))))
  refine wpAny_bind (wpAny_bind (I.type.here ((PySem.W.looks_findIn X hs).here ?_)))
  refine wpAny_bind (wpAny_mono key (fun r s' hr => ?_) fun _ _ e => e)
  obtain ⟨n, t, rfl, q⟩ := hr
  exact wpAny_pure q
end
end KB
end
section
set_option Elab.async false
set_option linter.all false
set_option maxRecDepth 100000
set_option maxHeartbeats 4000000
/-! bool(x) by truthy, within one model -/
namespace PySem
theorem kb_bool_new {prog : Program} {w : World} {A : Around} {E : Value → Shared → Prop} {s : Shared} {x : Value} {Q : Value → Shared → Prop}
    (h : wpAny (model prog w) A (truthy x) (fun b s' => Q (.bool b) s') E s) : wpAny (model prog w) A (Builtin.«bool.__new__» ⟨[.type "bool", x], []⟩) (fun fin s' => ∃ v, fin = .done (.ret v) ∧ Q v s') E s := by
  have f1 := F.conv_sub_bool
  repeat (any_goals (first | assumption | with_reducible refine wpAny_mono h (fun b s' hb => ?_) (fun _ _ e => e) | wp_step))
  exact ⟨_, rfl, hb⟩
theorem kb_bool_call {prog : Program} {w : World} {A : Around} {E : Value → Shared → Prop} {s : Shared} {x : Value} {Q : Value → Shared → Prop}
    (h : wpAny (model prog w) A.in1.in1 (truthy x) (fun b s' => Q (.bool b) s') E s) : wpAny (model prog w) A (call (.type "bool") [x]) Q E s := by
  have ft := F.called_bool
  obtain ⟨c, tl, hm⟩ := ft.mro
  have made := ft.made
  have sub := ft.sub
  refine wpAny_call (codeAny_of_tree ?_)
  show wpAny _ _ (callAny (.type "bool") _) _ _ _
  refine wpAny_pure ⟨Code.quiet_builtin _ (by decide +kernel), codeAny_builtin F.entry_type_call ?_⟩
  rw [Around.under_plain (weight_type_call_type "bool" [x] []) (units_type_call_type "bool" [x] [])]
  have n1 := ft.notType
  have n2 := ft.canCreate
  have n3 := F.typeCall_bool_1 x
  repeat (any_goals (first | assumption | wp_step))
  refine codeAny_mono (codeAny_call_builtin (R := fun r s' => match r with | .ok (.ret v) => (∃ b, v = .bool b) ∧ Q v s' | .ok _ => False | .error e => E e s') ft.plain F.entry_bool_new (wpAny_of_eq (F.newCall_bool_1 x) ?_)) fun r s₁ hr => ?_
  · refine wpAny_mono (kb_bool_new (Q := fun v s' => (∃ b, v = .bool b) ∧ Q v s') (wpAny_mono h (fun b s' hb => ⟨⟨b, rfl⟩, hb⟩) fun _ _ e => e)) (fun fin s' hf => ?_) fun _ _ e => e
    obtain ⟨v, rfl, hv⟩ := hf
    exact hv
  · cases r with
    | error e => exact hr
    | ok fl =>
      cases fl with
      | ret obj =>
        obtain ⟨⟨b, rfl⟩, hq⟩ := hr
        have li := ft.init.lookup
        have bi := ft.init.bind (.bool b)
        have ti : (s₁ : Shared).TypeIs (.bool b) "bool" := rfl
        repeat (any_goals (first | assumption | wp_step))
        refine codeAny_mono (codeAny_call_builtin (R := fun r s' => r = .ok (.ret .none) ∧ Q (.bool b) s') ft.init.plain F.entry_object_init (ft.init.check _ _ _ _ _ _ _ _ ti (F.args_object_init_2 (.bool b) x) (object_init_meets (self := .bool b) (rest := [x]) ft.init.lookup ft.made F.newNe_bool prog w A.in1 (fun r s' => r = .ok (.ret .none) ∧ Q (.bool b) s') _ ⟨ti, rfl, hq⟩))) fun r₂ s₂ h₂ => ?_
        obtain ⟨rfl, q⟩ := h₂
        repeat (any_goals (first | assumption | wp_step))
      | _ => exact hr.elim
end PySem
namespace KB
open PySem PySem.Spec PyProof.Rows L2
theorem call_ownBool {X : Cx} {CX : CXT} {k : Nat} {C f : Addr} {fd : FuncData} {ps : List Str} {sp : Sp} {E : XK} (hm : Meth X.K C "__len__" f) (hn : NoAttr X.K C "__bool__") (F : FnOk X.prog X.w X.K X.mg X.base CX k f fd ps sp) (hr : Room (k + 3) X.A)
    (hb : Binds X.K fd ps []) (hx : Passes CX X E) :
    CallR X (.type "bool") (fun xs H Q => ∃ b dx fs, xs = [.ref b] ∧ H b = some (.ins C dx fs) ∧ sp xs H (fun v H' => ∃ n : Nat, v = .int n ∧ n ≤ 1000 ∧ Q (.bl (decide (n ≠ 0))) H') E) := by
  intro pins s σ H xs us Q I r h
  obtain ⟨b, dx, fs, rfl, e, h⟩ := h
  obtain ⟨u, rfl, ru⟩ := vals1 r
  obtain rfl : u = Value.ref b := ru
  obtain ⟨od, J⟩ := ins_at I e
  refine kb_bool_call (truthy_len I.kIn J hn hm.at_ hm.fn (thn (run_env (vs := [.ref b]) F hr.in1.in1.in1 I.env0.in1.in1.in1 hb hx I (.cons rfl .nil) h) fun r s' ⟨w, H', I', rw', n, ew, hz, q⟩ => ?_))
  subst ew
  obtain ⟨t, rfl⟩ := (show ∃ t, r = Value.int n t from rw')
  refine ⟨⟨by omega, by omega⟩, n, s'.toks, rfl, .bl (decide (n ≠ 0)), H', I'.tok _, ?_, q⟩
  show Value.bool ((n : Int) != 0) = Value.bool (decide (n ≠ 0))
  congr 1
  by_cases c : n = 0
  · rw [c]; rfl
  · rw [decide_eq_true c]
    exact bne_iff_ne.mpr (by omega)
end KB
end
section
set_option Elab.async false
set_option linter.all false
set_option maxRecDepth 100000
set_option maxHeartbeats 4000000
/-! the book, its simple methods -/
namespace KB
open PySem PySem.Spec PyProof.Rows L2 KM
abbrev Bk (K : PySem.W.Frag) : Addr := He.ga K "Book"
section
variable {K : PySem.W.Frag} {mg : Str → Option Value}
theorem bk_cls (W : Wd K mg) : Cls K (Bk K) := He.cls_ok (x := bookC) (W.rest (List.mem_append_left _ (by simp)))
theorem bk_no1 (W : Wd K mg) : NoAttr K (Bk K) "numbers" := He.noat_ok (x := bookC) (W.rest (List.mem_append_left _ (by simp)))
theorem bk_no2 (W : Wd K mg) : NoAttr K (Bk K) "made" := He.noat_ok (x := bookC) (W.rest (List.mem_append_left _ (by simp)))
theorem bk_no3 (W : Wd K mg) : NoAttr K (Bk K) "past" := He.noat_ok (x := bookC) (W.rest (List.mem_append_left _ (by simp)))
theorem bk_no4 (W : Wd K mg) : NoAttr K (Bk K) "__bool__" := He.noat_ok (x := bookC) (W.rest (List.mem_append_left _ (by simp)))
theorem bk_mk (W : Wd K mg) : Mk K (Bk K) (He.ma K (Bk K) "__init__") := He.mkr_ok (x := bookC) (W.rest (List.mem_append_left _ (by simp)))
theorem bk_meth (W : Wd K mg) {m : Str} (h : m ∈ bmeths) : Meth K (Bk K) m (He.ma K (Bk K) m) := He.meth_ok (x := bookC) (W.rest (List.mem_append_right _ (List.mem_map_of_mem h)))
end
abbrev bfs (nd mt pt : Addr) : List (Str × V) := [("numbers", .ref nd), ("made", .ref mt), ("past", .ref pt)]
theorem put_n (nd mt pt x : Addr) : putF "numbers" (.ref x) (bfs nd mt pt) = bfs x mt pt := rfl
theorem put_m (nd mt pt x : Addr) : putF "made" (.ref x) (bfs nd mt pt) = bfs nd x pt := rfl
theorem put_p (nd mt pt x : Addr) : putF "past" (.ref x) (bfs nd mt pt) = bfs nd mt x := rfl
/-- all stands but the book -/
def Kb (b : Addr) (H H' : Hp) : Prop := ∀ c o, c ≠ b → H c = some o → H' c = some o
theorem Kb.refl {b : Addr} {H : Hp} : Kb b H H := fun _ _ _ e => e
theorem Kb.trans {b : Addr} {H H1 H2 : Hp} (x : Kb b H H1) (y : Kb b H1 H2) : Kb b H H2 := fun c o n e => y c o n (x c o n e)
theorem Kb.of {b : Addr} {H H' : Hp} (s : Same H H') : Kb b H H' := fun c o _ e => s c o e
theorem Kb.put {b : Addr} {H : Hp} {o : HO} : Kb b H (upd H b o) := fun c u n e => by rw [upd_ne n]; exact e
theorem off_kb {M : List Addr} {b : Addr} {H H' : Hp} (h : b ∈ M) (k : Kb b H H') : Same (off M H) (off M H') := fun c o e => by
  unfold off at *
  by_cases n : c ∈ M
  · rw [if_pos n] at e; cases e
  · rw [if_neg n] at *
    exact k c o (fun z => n (by rw [z]; exact h)) e
def PastOne (G : Hp) (pg : Pg) (v : V) : Prop := ∃ p d t, v = .ref p ∧ G p = some (.tup [.ref d, .ref t]) ∧ DAt PNum G d pg.1 ∧ WTs G t pg.2
def PastAt (G : Hp) (t : Addr) (ps : List Pg) : Prop := ∃ vs, G t = some (.tup vs) ∧ Paired (PastOne G) ps vs
theorem PastOne.same {G G' : Hp} {pg : Pg} {v : V} (s : Same G G') (h : PastOne G pg v) : PastOne G' pg v := by
  obtain ⟨p, d, t, e, e1, e2, e3⟩ := h
  exact ⟨p, d, t, e, s _ _ e1, e2.same mono_num s, e3.same s⟩
theorem PastAt.same {G G' : Hp} {t : Addr} {ps : List Pg} (s : Same G G') (h : PastAt G t ps) : PastAt G' t ps := by
  obtain ⟨vs, e, h⟩ := h
  exact ⟨vs, s _ _ e, Paired.mapP h fun _ _ => PastOne.same s⟩
/-- the book at b: its past pages, its page -/
def BookAt (K : PySem.W.Frag) (M : List Addr) (H : Hp) (b : Addr) (ps : List Pg) (pg : Pg) : Prop :=
  ∃ dx nd mt pt, H b = some (.ins (Bk K) dx (bfs nd mt pt)) ∧ DAt PNum (off M H) nd pg.1 ∧ WTs (off M H) mt pg.2 ∧ PastAt (off M H) pt ps
theorem BookAt.same {K : PySem.W.Frag} {M : List Addr} {H H' : Hp} {b : Addr} {ps : List Pg} {pg : Pg} (s : Same H H') (h : BookAt K M H b ps pg) : BookAt K M H' b ps pg := by
  obtain ⟨dx, nd, mt, pt, e, e1, e2, e3⟩ := h
  exact ⟨dx, nd, mt, pt, s _ _ e, e1.same mono_num (off_same s), e2.same (off_same s), e3.same (off_same s)⟩
theorem off_mem {M : List Addr} {H : Hp} {p : Addr} {o : HO} (h : off M H p = some o) : p ∉ M := fun z => by
  unfold off at h
  rw [if_pos z] at h
  cases h
/-- what tuple + tuple hands on -/
theorem cat_by {a b : Addr} {xs ys : List V} {H : Hp} {Q : VK} (ha : H a = some (.tup xs)) (hb : H b = some (.tup ys)) (h : ∀ p H2, Same H H2 → H2 p = some (.tup (xs ++ ys)) → (p = a ∨ p = b ∨ H p = none) → Q (.ref p) H2) :
    (xs = [] → Q (.ref b) H) ∧ (xs ≠ [] → ys = [] → Q (.ref a) H) ∧ (xs ≠ [] → ys ≠ [] → ∀ p, H p = none → Q (.ref p) (upd H p (.tup (xs ++ ys)))) := by
  refine ⟨fun e => ?_, fun _ e => ?_, fun _ _ p hp => h p _ (same_new hp) upd_same (.inr (.inr hp))⟩
  · exact h b H (Same.refl _) (by rw [hb, e]; rfl) (.inr (.inl rfl))
  · exact h a H (Same.refl _) (by rw [ha, e, List.append_nil]) (.inl rfl)
theorem op_cat2 {X : Cx} : OpR X (binaryOp .Add) (fun x y H Q => ∃ a b xs ys, x = .ref a ∧ y = .ref b ∧ H a = some (.tup xs) ∧ H b = some (.tup ys) ∧ xs.length + ys.length ≤ sizeLine ∧
    ∀ p H2, Same H H2 → H2 p = some (.tup (xs ++ ys)) → (p = a ∨ p = b ∨ H p = none) → Q (.ref p) H2) := by
  intro pins s σ H x y v u Q I rx ry h
  obtain ⟨a, b, xs, ys, ex, ey, ha, hb, hl, h⟩ := h
  exact op_catA pins s σ H x y v u Q I rx ry ⟨a, b, xs, ys, ex, ey, .of ha, .of hb, hl, cat_by ha hb h⟩
section
variable {P : Program} {w : World} {K : PySem.W.Frag} {mg : Str → Option Value} {base : Heap}
def spBInit (K : PySem.W.Frag) : Sp := fun vs H Q _ => ∃ b dx, vs = [.ref b] ∧ H b = some (.ins (Bk K) dx []) ∧ ∀ nd mt pt H', Kb b H H' → H nd = none → H mt = none → H pt = none → H' b = some (.ins (Bk K) dx (bfs nd mt pt)) → H' nd = some (.dK []) → H' mt = some (.tup []) → H' pt = some (.tup []) → Q .non H'
theorem ok_Book_init (W : Wd K mg) : OkM P w K mg base CX0 1 (He.ma K (Bk K) "__init__") ["self"] (spBInit K) := by
  refine (fn_Book_init W).ok sc_Book_init (fun vs H Q E h => ?_) (fun cdv A outer s H vs Q E hr h => ?_)
  · obtain ⟨b, dx, rfl, _⟩ := h
    rfl
  · obtain ⟨b, dx, rfl, hb, k⟩ := h
    refine ⟨_, (pss_cons (ps_fld (pv 0) pe_dnewK rfl)
      (pss_cons (ps_fld (pv 0) (pe_tup pa_nil) rfl)
      (pss_one (ps_fld (pv 0) (pe_tup pa_nil) rfl)))), ?_⟩
    refine fun nd hnd => ⟨_, rfl, b, _, dx, [], rfl, same_new hnd _ _ hb, bk_cls W, bk_no1 W, by decide, ?_⟩
    have nb : nd ≠ b := fun z => by rw [z, hb] at hnd; cases hnd
    refine ⟨by show 0 ≤ sizeLine; decide, fun mt hmt => ⟨_, rfl, b, _, dx, _, rfl, same_new hmt _ _ upd_same, bk_cls W, bk_no2 W, by show 1 < 1000; decide, ?_⟩⟩
    have mb : mt ≠ b := fun z => by rw [z, upd_same] at hmt; cases hmt
    have mn : mt ≠ nd := fun z => by rw [z, upd_ne nb, upd_same] at hmt; cases hmt
    refine ⟨by show 0 ≤ sizeLine; decide, fun pt hpt => ⟨_, rfl, b, _, dx, _, rfl, same_new hpt _ _ upd_same, bk_cls W, bk_no3 W, by show 2 < 1000; decide, ?_⟩⟩
    have pb : pt ≠ b := fun z => by rw [z, upd_same] at hpt; cases hpt
    have pm : pt ≠ mt := fun z => by rw [z, upd_ne mb, upd_same] at hpt; cases hpt
    have pn : pt ≠ nd := fun z => by rw [z, upd_ne nb, upd_ne mn.symm, upd_ne nb, upd_same] at hpt; cases hpt
    have hmt' : H mt = none := by rw [upd_ne mb, upd_ne mn] at hmt; exact hmt
    have hpt' : H pt = none := by rw [upd_ne pb, upd_ne pm, upd_ne pb, upd_ne pn] at hpt; exact hpt
    refine k nd mt pt _ ?_ hnd hmt' hpt' upd_same ?_ ?_ ?_
    · exact (((((Kb.of (same_new hnd)).trans .put).trans (.of (same_new hmt))).trans .put).trans (.of (same_new hpt))).trans .put
    · rw [upd_ne nb, upd_ne pn.symm, upd_ne nb, upd_ne mn.symm, upd_ne nb, upd_same]
    · rw [upd_ne mb, upd_ne pm.symm, upd_ne mb, upd_same]
    · rw [upd_ne pb, upd_same]
def spBecome (K : PySem.W.Frag) : Sp := fun vs H Q _ => ∃ b nd mt M ps pg pg', vs = [.ref b, .ref nd, .ref mt] ∧ b ∈ M ∧ Lv M H ∧ BookAt K M H b ps pg ∧ ps.length ≤ 100 ∧ DAt PNum (off M H) nd pg'.1 ∧ WTs (off M H) mt pg'.2 ∧
  ∀ H', Kb b H H' → BookAt K M H' b (ps ++ [pg]) pg' → Q .non H'
theorem ok_Book_become (W : Wd K mg) : OkM P w K mg base CX0 1 (He.ma K (Bk K) "become") ["self", "numbers", "made"] (spBecome K) := by
  refine (fn_Book_become W).ok sc_Book_become (fun vs H Q E h => ?_) (fun cdv A outer s H vs Q E hr h => ?_)
  · obtain ⟨b, nd, mt, _, _, _, _, rfl, _⟩ := h
    rfl
  · obtain ⟨b, nd', mt', M, ps, pg, pg', rfl, bM, lv, ⟨dx, nd, mt, pt, hb, hd, hm, hp⟩, hl, hd', hm', k⟩ := h
    refine ⟨_, (pss_cons (ps_fld (pv 0) (pe_op op_cat2 (pe_fld (pv 0) rfl) (pe_tup (pa_cons (pe_tup (pa_cons (pe_fld (pv 0) rfl) (pa_cons (pe_fld (pv 0) rfl) pa_nil))) pa_nil))) rfl)
      (pss_cons (ps_fld (pv 0) (pv 1) rfl)
      (pss_one (ps_fld (pv 0) (pv 2) rfl)))), ?_⟩
    obtain ⟨vs, hpv, hpp⟩ := id hp
    have bAt : ∀ {H'}, Same H H' → H' b = some (.ins (Bk K) dx (bfs nd mt pt)) := fun s => s _ _ hb
    refine ⟨_, rfl, b, _, dx, _, _, rfl, hb, bk_cls W, bk_no3 W, rfl, ?_⟩
    refine ⟨_, rfl, b, _, dx, _, _, rfl, hb, bk_cls W, bk_no1 W, rfl, _, rfl, b, _, dx, _, _, rfl, hb, bk_cls W, bk_no2 W, rfl, by show 2 ≤ sizeLine; decide, fun q hq => ⟨by show 1 ≤ sizeLine; decide, fun r hr => ?_⟩⟩
    have s1 := same_new (o := .tup [.ref nd, .ref mt]) hq
    have s2 := s1.trans (same_new (o := .tup [.ref q]) hr)
    have el : ps.length = vs.length := prd_len hpp
    have hpt : H pt = some (.tup vs) := off_le _ _ hpv
    refine ⟨pt, r, vs, [.ref q], rfl, rfl, s2 _ _ hpt, upd_same, sz (by show vs.length + 1 ≤ 1000; omega), fun p H2 s3 hp2 pc => ?_⟩
    have nq : q ∉ M := lv.new hq
    have nr : r ∉ M := lv.new (s1.free hr)
    have np : p ∉ M := by
      rcases pc with rfl | rfl | z
      · exact off_mem hpv
      · exact nr
      · exact lv.new (s2.free z)
    have s03 := s2.trans s3
    have hnew : PastAt (off M H2) p (ps ++ [pg]) := by
      refine ⟨_, onto np hp2, prd_append (Paired.mapP hpp fun _ _ => PastOne.same (off_same s03)) (.cons ⟨q, nd, mt, rfl, onto nq (s3 _ _ (same_new hr _ _ upd_same)), hd.same mono_num (off_same s03), hm.same (off_same s03)⟩ .nil)⟩
    have hb2 := s03 _ _ hb
    refine ⟨_, rfl, b, _, dx, _, rfl, hb2, bk_cls W, bk_no3 W, by show 3 < 1000; decide, ?_⟩
    rw [put_p]
    refine ⟨_, rfl, _, rfl, b, _, dx, _, rfl, upd_same, bk_cls W, bk_no1 W, by show 3 < 1000; decide, ?_⟩
    rw [put_n, upd_upd]
    refine ⟨_, rfl, _, rfl, b, _, dx, _, rfl, upd_same, bk_cls W, bk_no2 W, by show 3 < 1000; decide, ?_⟩
    rw [put_m, upd_upd]
    refine k _ ((Kb.of s03).trans .put) ⟨dx, nd', mt', p, upd_same, ?_⟩
    rw [off_in bM]
    exact ⟨hd'.same mono_num (off_same s03), hm'.same (off_same s03), hnew⟩
end
end KB
end
section
set_option Elab.async false
set_option linter.all false
set_option maxRecDepth 100000
set_option maxHeartbeats 4000000
/-! the book's reading methods, undo, lift -/
namespace KB
open PySem PySem.Spec PyProof.Rows L2 KM
/-! ### sorted titles -/
def perms3 : List (List Str) := [[], ["a"], ["main"], ["zz"], ["a", "main"], ["main", "a"], ["a", "zz"], ["zz", "a"], ["main", "zz"], ["zz", "main"],
  ["a", "main", "zz"], ["a", "zz", "main"], ["main", "a", "zz"], ["main", "zz", "a"], ["zz", "a", "main"], ["zz", "main", "a"]]
theorem in_perms {ys : List Str} (nd : ys.Nodup) (h : ∀ a ∈ ys, a ∈ titles) : ys ∈ perms3 := by
  have hl : ys.length ≤ 3 := len_sub nd h
  have tc : ∀ {a : Str}, a ∈ titles → a = "a" ∨ a = "main" ∨ a = "zz" := fun h => by simpa [titles] using h
  match ys, hl with
  | [], _ => exact List.mem_cons_self
  | [a], _ =>
    rcases tc (h a (by simp)) with rfl | rfl | rfl <;> decide +kernel
  | [a, b], _ =>
    have n : a ≠ b := by simpa using nd
    rcases tc (h a (by simp)) with rfl | rfl | rfl <;> rcases tc (h b (by simp)) with rfl | rfl | rfl <;> first | exact absurd rfl n | decide +kernel
  | [a, b, c], _ =>
    have n : (a ≠ b ∧ a ≠ c) ∧ b ≠ c := by simpa using nd
    rcases tc (h a (by simp)) with rfl | rfl | rfl <;> rcases tc (h b (by simp)) with rfl | rfl | rfl <;> first | exact absurd rfl n.1.1 | skip
    all_goals rcases tc (h c (by simp)) with rfl | rfl | rfl <;> first | exact absurd rfl n.1.2 | exact absurd rfl n.2 | decide +kernel
  | _ :: _ :: _ :: _ :: _, hl => simp at hl
/-- the names of a shelf, in order -/
def srt (sh : Sh) : List Str := titles.filter fun a => decide (a ∈ sh.map (·.1))
theorem srt_of {ys : List Str} {sh : Sh} (o : ShOk sh) (hp : ys.Perm (sh.map (·.1))) (hs : sortedS ys = true) : ys = srt sh := by
  have nd : ys.Nodup := hp.nodup_iff.mpr o.nd
  have ht : ∀ a ∈ ys, a ∈ titles := fun a ha => by
    obtain ⟨p, hp', rfl⟩ := List.mem_map.mp (hp.mem_iff.mp ha)
    exact (o.ok p hp').1
  have key : ∀ ys ∈ perms3, sortedS ys = true → ys = titles.filter fun a => decide (a ∈ ys) := by decide +kernel
  rw [key ys (in_perms nd ht) hs]
  unfold srt
  refine List.filter_congr fun a _ => ?_
  rw [decide_eq_decide]
  exact hp.mem_iff
/-! ### what is raised -/
def Fails (K : PySem.W.Frag) (H : Hp) (E : XK) : Due → Prop
  | .ok => True
  | .idx k => ∀ d H', Same H H' → H' d = some (.xd [("given", .int k)]) → E (.ref (He.ga K "InvalidIndex")) (some d) H'
  | .unk a => ∀ d H', Same H H' → H' d = some (.xd [("given", .str a)]) → E (.ref (He.ga K "UnknownName")) (some d) H'
  | .brk k => ∀ d H', Same H H' → H' d = some (.xd [("index", .int k)]) → E (.ref (He.ga K "Broken")) (some d) H'
  | .use k => ∀ d H', Same H H' → H' d = some (.xd [("index", .int k)]) → E (.ref (He.ga K "InUse")) (some d) H'
theorem Fails.same {K : PySem.W.Frag} {H H' : Hp} {E : XK} {u : Due} (h : Fails K H E u) (s : Same H H') : Fails K H' E u := by
  cases u with
  | ok => trivial
  | idx k => exact fun d H2 s2 => h d H2 (s.trans s2)
  | unk k => exact fun d H2 s2 => h d H2 (s.trans s2)
  | brk k => exact fun d H2 s2 => h d H2 (s.trans s2)
  | use k => exact fun d H2 s2 => h d H2 (s.trans s2)
theorem mono_var (i : Nat) (σ : L2.St) (H : Hp) (Q Q' : VK) (h : ∀ v H', Q v H' → Q' v H') (q : tVar i σ H Q) : tVar i σ H Q' := by
  obtain ⟨v, e, q⟩ := q
  exact ⟨v, e, h _ _ q⟩
theorem pass_no {X : Cx} : Passes (L2N.CX X.prog X.w) X (fun _ _ _ => False) := fun _ _ _ _ _ _ _ ⟨_, _, _, _, _, _, _, _, _, _, _, _, h⟩ => h.elim
section
variable {P : Program} {w : World} {K : PySem.W.Frag} {mg : Str → Option Value} {base : Heap}
/-- a book, and its page well made -/
def spB (K : PySem.W.Frag) (n : Nat) (sp : List V → Addr → Addr → List Pg → Pg → Hp → VK → XK → Prop) : Sp := fun vs H Q E => ∃ b r M ps pg, vs = .ref b :: r ∧ r.length = n ∧ BookAt K [] H b ps pg ∧ PgOk pg ∧ ps.length ≤ 100 ∧ sp r b M ps pg H Q E
def spBook0 (K : PySem.W.Frag) (f : Addr → Addr → Addr → Addr → List Pg → Pg → Hp → VK → Prop) : Sp := fun vs H Q _ => ∃ b dx nd mt pt ps pg, vs = [.ref b] ∧ H b = some (.ins (Bk K) dx (bfs nd mt pt)) ∧ DAt PNum H nd pg.1 ∧ WTs H mt pg.2 ∧ PastAt H pt ps ∧ ShOk pg.1 ∧ f nd mt pt b ps pg H Q
theorem BookAt.low {K : PySem.W.Frag} {M : List Addr} {H : Hp} {b : Addr} {ps : List Pg} {pg : Pg} (h : BookAt K M H b ps pg) : ∃ dx nd mt pt, H b = some (.ins (Bk K) dx (bfs nd mt pt)) ∧ DAt PNum H nd pg.1 ∧ WTs H mt pg.2 ∧ PastAt H pt ps := by
  obtain ⟨dx, nd, mt, pt, e, e1, e2, e3⟩ := h
  exact ⟨dx, nd, mt, pt, e, e1.same mono_num off_le, e2.same off_le, e3.same off_le⟩
def spWishes (K : PySem.W.Frag) : Sp := fun vs H Q _ => ∃ b M ps pg, vs = [.ref b] ∧ BookAt K M H b ps pg ∧ ∀ t, WTs H t pg.2 → Q (.ref t) H
theorem ok_Book_wishes (W : Wd K mg) : OkM P w K mg base CX0 1 (gAd K ("Book", some "wishes")) ["self"] (spWishes K) := by
  refine (fn_Book_wishes W).ok sc_Book_wishes (fun vs H Q E h => ?_) (fun cdv A outer s H vs Q E hr h => ?_)
  · obtain ⟨b, _, _, _, rfl, _⟩ := h
    rfl
  · obtain ⟨b, M, ps, pg, rfl, hB, k⟩ := h
    obtain ⟨dx, nd, mt, pt, hb, hd, hm, hp⟩ := hB.low
    refine ⟨_, (pss_one (ps_ret (pe_fld (pv 0) rfl))), ?_⟩
    exact ⟨_, rfl, b, _, dx, _, _, rfl, hb, bk_cls W, bk_no2 W, rfl, k mt hm⟩
def spChanges (K : PySem.W.Frag) : Sp := fun vs H Q _ => ∃ b M ps pg, vs = [.ref b] ∧ BookAt K M H b ps pg ∧ Q (.int ps.length) H
theorem ok_Book_changes (W : Wd K mg) : OkM P w K mg base CX0 1 (gAd K ("Book", some "changes")) ["self"] (spChanges K) := by
  refine (fn_Book_changes W).ok sc_Book_changes (fun vs H Q E h => ?_) (fun cdv A outer s H vs Q E hr h => ?_)
  · obtain ⟨b, _, _, _, rfl, _⟩ := h
    rfl
  · obtain ⟨b, M, ps, pg, rfl, hB, k⟩ := h
    obtain ⟨dx, nd, mt, pt, hb, hd, hm, vs, hp, hpp⟩ := hB.low
    have e : ps.length = vs.length := prd_len hpp
    refine ⟨_, (pss_one (ps_ret (pe_callB call_len rfl (fr_len W) (by decide +kernel) (pa_cons (pe_fld (pv 0) rfl) pa_nil)))), ?_⟩
    refine ⟨_, rfl, b, _, dx, _, _, rfl, hb, bk_cls W, bk_no3 W, rfl, _, _, rfl, .inr ⟨_, .of hp, rfl⟩, ?_⟩
    rw [← e]
    exact k
def spBLen (K : PySem.W.Frag) : Sp := fun vs H Q _ => ∃ b M ps pg, vs = [.ref b] ∧ BookAt K M H b ps pg ∧ Q (.int (pg.1.length : Nat)) H
theorem ok_Book_len (W : Wd K mg) : OkM P w K mg base CX0 1 (He.ma K (Bk K) "__len__") ["self"] (spBLen K) := by
  refine (fn_Book_len W).ok sc_Book_len (fun vs H Q E h => ?_) (fun cdv A outer s H vs Q E hr h => ?_)
  · obtain ⟨b, _, _, _, rfl, _⟩ := h
    rfl
  · obtain ⟨b, M, ps, pg, rfl, hB, k⟩ := h
    obtain ⟨dx, nd, mt, pt, hb, ⟨kvs, hd, he⟩, hm, hp⟩ := hB.low
    refine ⟨_, (pss_one (ps_ret (pe_callB call_lenD rfl (fr_len W) (by decide +kernel) (pa_cons (pe_fld (pv 0) rfl) pa_nil)))), ?_⟩
    refine ⟨_, rfl, b, _, dx, _, _, rfl, hb, bk_cls W, bk_no1 W, rfl, nd, kvs, rfl, hd, ?_⟩
    rw [← he.len]
    exact k
def spBHas (K : PySem.W.Frag) : Sp := fun vs H Q _ => ∃ b a M ps pg, vs = [.ref b, .str a] ∧ BookAt K M H b ps pg ∧ Q (.bl (look pg.1 a).isSome) H
theorem ok_Book_contains (W : Wd K mg) : OkM P w K mg base CX0 1 (He.ma K (Bk K) "__contains__") ["self", "name"] (spBHas K) := by
  refine (fn_Book_contains W).ok sc_Book_contains (fun vs H Q E h => ?_) (fun cdv A outer s H vs Q E hr h => ?_)
  · obtain ⟨b, _, _, _, _, rfl, _⟩ := h
    rfl
  · obtain ⟨b, a, M, ps, pg, rfl, hB, k⟩ := h
    have hu := hu_of hr
    obtain ⟨dx, nd, mt, pt, hb, hd, hm, hp⟩ := hB.low
    obtain ⟨o, g, eo⟩ := hd.has a
    refine ⟨_, (pss_one (ps_ret (pe_and (pe_callB call_isi rfl (fr_isinstance W) (by decide +kernel) (pa_cons (pv 1) (pa_cons (pe_bltn rfl (fr_str W) (by decide +kernel) (show RelV (.ty "str") (.type "str") from rfl)) pa_nil))) (pe_one (pe_cmp (pc_din hu (pv 1) (pe_fld (pv 0) rfl))))))), ?_⟩
    refine ⟨_, rfl, _, _, _, _, true, rfl, .ty "str", .base (.str _), kit_ty (by decide +kernel), _, rfl, iteT ?_⟩
    refine ⟨_, rfl, _, rfl, b, _, dx, _, _, rfl, hb, bk_cls W, bk_no1 W, rfl, nd, o, rfl, g, ?_⟩
    rw [eo]
    exact k
def spBNames (K : PySem.W.Frag) : Sp := fun vs H Q _ => ∃ b M ps pg, vs = [.ref b] ∧ BookAt K M H b ps pg ∧ ShOk pg.1 ∧ ∀ t H', Same H H' → H' t = some (.tup ((srt pg.1).map V.str)) → Q (.ref t) H'
theorem ok_Book_names (W : Wd K mg) : OkM P w K mg base CX0 1 (gAd K ("Book", some "names")) ["self"] (spBNames K) := by
  refine (fn_Book_names W).ok sc_Book_names (fun vs H Q E h => ?_) (fun cdv A outer s H vs Q E hr h => ?_)
  · obtain ⟨b, _, _, _, rfl, _⟩ := h
    rfl
  · obtain ⟨b, M, ps, pg, rfl, hB, hsh, k⟩ := h
    obtain ⟨dx, nd, mt, pt, hb, ⟨kvs, hd, he⟩, hm, hp⟩ := hB.low
    refine ⟨_, (pss_one (ps_ret (pe_callTy call_tuple_of rfl (fr_tuple W) (by decide +kernel) (pa_cons (pe_callB cr_sortedS rfl (fr_sorted W) (by decide +kernel) (pa_cons (pe_callTy (call_listD rfl) rfl (fr_list W) (by decide +kernel) (pa_cons (pe_fld (pv 0) rfl) pa_nil)) pa_nil)) pa_nil)))), ?_⟩
    have ek : (kvs.map fun kv => kV kv.1) = (pg.1.map (·.1)).map V.str := by
      have z := he.keys
      have e2 : (kvs.map fun kv => kV kv.1) = (kvs.map (·.1)).map kV := by rw [List.map_map]; rfl
      rw [e2, z, List.map_map, List.map_map]
      rfl
    refine ⟨_, rfl, b, _, dx, _, _, rfl, hb, bk_cls W, bk_no1 W, rfl, nd, kvs, rfl, .inl hd, fun l hl => ?_⟩
    rw [ek]
    have s1 := same_new (o := .lst ((pg.1.map (·.1)).map V.str)) hl
    refine ⟨l, pg.1.map (·.1), rfl, .of upd_same, by rw [List.length_map]; have := hsh.len; omega, fun ys p hpm hso hp' => ⟨p, ys.map V.str, rfl, .inl ⟨.of upd_same, fun t ht => ?_⟩⟩⟩
    have s2 := s1.trans (same_new (o := .lst (ys.map V.str)) hp')
    rw [srt_of hsh hpm hso] at *
    exact k t _ (s2.trans (same_new ht)) upd_same
/-! ### methods that may raise -/
def spKnown (K : PySem.W.Frag) : Sp := fun vs H Q E => ∃ b a M ps pg, vs = [.ref b, .str a] ∧ BookAt K M H b ps pg ∧ (look pg.1 a = none → Fails K H E (.unk a)) ∧ ((look pg.1 a).isSome = true → Q .non H)
theorem ok_Book_check_known (W : Wd K mg) : OkM P w K mg base (L2N.CX P w) 3 (He.ma K (Bk K) "check_known") ["self", "name"] (spKnown K) := by
  obtain ⟨_, G_cont, b_cont⟩ := (ok_Book_contains (P := P) (w := w) (base := base) W).ex
  refine (fn_Book_check_known W).okN sc_Book_check_known (fun vs H Q E h => ?_) (fun cdv A outer s H vs Q E hr h => ?_)
  · obtain ⟨b, _, _, _, _, rfl, _⟩ := h
    rfl
  · obtain ⟨b, a, M, ps, pg, rfl, hB, k1, k2⟩ := h
    refine ⟨_, (pss_one (ps_if (pt_cmpR (op_ownNotIn (bk_meth W (by simp [bmeths])) G_cont (hr.mono (by decide)) b_cont pass0) (pv 1) (pv 0) (by rfl)) (pss_one (L2N.ps_raise rfl (L2N.takes_of rfl rfl rfl rfl) (pmk_UnknownName W hr (pv 1) (mono_var 1) rfl))) pss_nil)), ?_⟩
    obtain ⟨dx, nd, mt, pt, hb, _⟩ := id hB
    refine ⟨_, rfl, _, rfl, b, dx, _, rfl, hb, b, a, M, ps, pg, rfl, hB, _, rfl, _, rfl, ?_⟩
    cases e : (look pg.1 a).isSome with
    | true => exact iteF (k2 e)
    | false =>
      have e' : look pg.1 a = none := by cases q : look pg.1 a with | none => rfl | some π => rw [q] at e; cases e
      exact iteT ⟨_, rfl, fun d H2 hd h2 s2 => k1 e' d H2 s2 h2⟩
def spBGet (K : PySem.W.Frag) : Sp := fun vs H Q _ => ∃ b a M ps pg π, vs = [.ref b, .str a] ∧ BookAt K M H b ps pg ∧ look pg.1 a = some π ∧ ∀ x, PNum H x π → Q (.ref x) H
theorem ok_Book_getitem (W : Wd K mg) : OkM P w K mg base CX0 4 (He.ma K (Bk K) "__getitem__") ["self", "name"] (spBGet K) := by
  obtain ⟨_, G_known, b_known⟩ := (ok_Book_check_known (P := P) (w := w) (base := base) W).ex
  refine (fn_Book_getitem W).ok sc_Book_getitem (fun vs H Q E h => ?_) (fun cdv A outer s H vs Q E hr h => ?_)
  · obtain ⟨b, _, _, _, _, _, rfl, _⟩ := h
    rfl
  · obtain ⟨b, a, M, ps, pg, π, rfl, hB, hπ, k⟩ := h
    have hu := hu_of hr
    obtain ⟨dx, nd, mt, pt, hb, hd, hm, hp⟩ := hB.low
    obtain ⟨x, g, hx⟩ := hd.at_ hπ
    refine ⟨_, (pss_cons (ps_expr (pe_meth (pv 0) (bk_cls W) (bk_meth W (by simp [bmeths])) G_known (hr.mono (by decide)) b_known .nil pass_no (pa_cons (pv 1) pa_nil)))
      (pss_one (ps_ret (pe_dget hu (pe_fld (pv 0) rfl) (pv 1) (fun _ _ => rfl))))), ?_⟩
    refine ⟨_, rfl, b, dx, _, rfl, hb, rfl, _, rfl, b, a, M, ps, pg, rfl, hB, fun z => (by rw [hπ] at z; cases z), fun _ => ?_⟩
    exact ⟨_, rfl, b, _, dx, _, _, rfl, hb, bk_cls W, bk_no1 W, rfl, _, rfl, nd, _, rfl, g, k x hx⟩
end
end KB
end
section
set_option Elab.async false
set_option linter.all false
set_option maxRecDepth 100000
set_option maxHeartbeats 4000000
/-! the book's undo, lift, wish -/
namespace KB
open PySem PySem.Spec PyProof.Rows L2 KM
theorem prd_snoc {α β : Type} {F : α → β → Prop} : ∀ {xs : List α} {x : α} {ys : List β}, Paired F (xs ++ [x]) ys → ∃ us u, ys = us ++ [u] ∧ Paired F xs us ∧ F x u
  | [], _, _, .cons e .nil => ⟨[], _, rfl, .nil, e⟩
  | _ :: _, _, _, .cons e t => by
    obtain ⟨us, u, rfl, h1, h2⟩ := prd_snoc t
    exact ⟨_ :: us, u, rfl, .cons e h1, h2⟩
theorem at_last (us : List V) (u : V) : atI (us ++ [u]) (-1) = some u := by
  have e : ixN (us.length + 1) (-1) = some us.length := by
    unfold ixN
    simp
    try omega
  unfold atI
  rw [List.length_append]
  show (ixN (us.length + 1) (-1)).bind _ = _
  rw [e]
  simp
theorem cut_init (us : List V) (u : V) : cutV (us ++ [u]) none (some (-1)) = us := by
  unfold cutV HT.sIx
  simp
  rw [show (-1 + ((us.length : Int) + 1)).toNat = us.length by omega]
  simp
section
variable {P : Program} {w : World} {K : PySem.W.Frag} {mg : Str → Option Value} {base : Heap}
def spUndo (K : PySem.W.Frag) : Sp := fun vs H Q E => ∃ b M ps pg, vs = [.ref b] ∧ b ∈ M ∧ Lv M H ∧ BookAt K M H b ps pg ∧ (ps = [] → ∀ H', Same H H' → E (.ref (He.ga K "NothingToUndo")) none H') ∧ (∀ qs q, ps = qs ++ [q] → ∀ H', Kb b H H' → BookAt K M H' b qs q → Q .non H')
theorem ok_Book_undo (W : Wd K mg) : OkM P w K mg base (L2N.CX P w) 1 (He.ma K (Bk K) "undo") ["self"] (spUndo K) := by
  refine (fn_Book_undo W).okN sc_Book_undo (fun vs H Q E h => ?_) (fun cdv A outer s H vs Q E hr h => ?_)
  · obtain ⟨b, _, _, _, rfl, _⟩ := h
    rfl
  · obtain ⟨b, M, ps, pg, rfl, bM, lv, hB, k1, k2⟩ := h
    obtain ⟨dx, nd, mt, pt, hb, hd, hm, vs, hp, hpp⟩ := id hB
    refine ⟨_, (pss_cons (ps_if (pt_cmpR (op_eqT0 (Nat.lt_of_succ_lt (hu_of hr))) (pe_fld (pv 0) rfl) (pe_tup pa_nil) (nomark _)) (pss_one (L2N.ps_raise rfl (L2N.takes_of rfl rfl rfl rfl) (pmk_NothingToUndo W rfl))) pss_nil)
      (pss_cons (ps_asg (pe_ix ix_tup (pe_fld (pv 0) rfl) (pe_un un_neg pe_int) (fun _ _ => rfl)) (pg_tup rfl (pgs_cons (pg_fld (pv 0)) (pgs_cons (pg_fld (pv 0)) pgs_nil))))
      (pss_one (ps_fld (pv 0) (pe_slice sl_tupA (pe_fld (pv 0) rfl) po_none (po_some (pe_un un_neg pe_int))) rfl)))), ?_⟩
    have hpt : H pt = some (.tup vs) := off_le _ _ hp
    refine ⟨_, rfl, b, _, dx, _, _, rfl, hb, bk_cls W, bk_no3 W, rfl, by show 0 ≤ sizeLine; decide, fun q hq => ⟨pt, q, vs, rfl, rfl, .of (same_new hq _ _ hpt), .of upd_same, _, rfl, ?_⟩⟩
    have s1 := same_new (o := .tup []) hq
    rcases List.eq_nil_or_concat ps with rfl | ⟨qs, pl, rfl⟩
    · cases hpp
      exact iteT (k1 rfl _ s1)
    · rw [List.concat_eq_append] at *
      obtain ⟨us, u, rfl, h1, h2⟩ := prd_snoc hpp
      obtain ⟨p0, d0, t0, rfl, e0, hd0, ht0⟩ := h2
      have ne : (us ++ [V.ref p0]).isEmpty = false := by simp
      rw [ne]
      have hb1 := s1 _ _ hb
      refine iteF ⟨_, rfl, b, _, dx, _, _, rfl, hb1, bk_cls W, bk_no3 W, rfl, 1, rfl, pt, _, _, _, rfl, rfl, .of (s1 _ _ hpt), at_last _ _, ?_⟩
      refine ⟨p0, _, rfl, .of (s1 _ _ (off_le _ _ e0)), rfl, _, _, rfl, _, rfl, b, _, dx, _, rfl, hb1, bk_cls W, bk_no1 W, by show 3 < 1000; decide, ?_⟩
      rw [put_n]
      refine ⟨_, _, rfl, _, rfl, b, _, dx, _, rfl, upd_same, bk_cls W, bk_no2 W, by show 3 < 1000; decide, ?_⟩
      rw [put_m, upd_upd]
      refine ⟨rfl, ?_⟩
      refine ⟨_, rfl, b, _, dx, _, _, rfl, upd_same, bk_cls W, bk_no3 W, rfl, 1, rfl, _, rfl, ?_⟩
      have hpt2 : upd (upd H q (.tup [])) b (.ins (Bk K) dx (bfs d0 t0 pt)) pt = some (.tup (us ++ [.ref p0])) := by
        rw [upd_ne (ne_of hpt hb (by simp))]
        exact s1 _ _ hpt
      refine ⟨pt, _, rfl, .of hpt2, fun z => ?_, fun _ t ht => ?_⟩
      · exfalso
        have z2 := z.2
        unfold HT.sIx at z2
        simp at z2
        omega
      · rw [cut_init]
        have tb : t ≠ b := fun z => by rw [z, upd_same] at ht; cases ht
        have s2 : Kb b H (upd (upd (upd H q (.tup [])) b (.ins (Bk K) dx (bfs d0 t0 pt))) t (.tup us)) := ((Kb.of s1).trans .put).trans (.of (same_new ht))
        have ht' : H t = none := by
          rw [upd_ne tb] at ht
          exact s1.free ht
        refine ⟨_, rfl, b, _, dx, _, rfl, by rw [upd_ne tb.symm]; exact upd_same, bk_cls W, bk_no3 W, by show 3 < 1000; decide, ?_⟩
        rw [put_p]
        refine k2 qs pl rfl _ (s2.trans .put) ⟨dx, d0, t0, t, upd_same, ?_⟩
        rw [off_in bM]
        have ss := off_kb bM s2
        exact ⟨hd0.same mono_num ss, ht0.same ss, us, onto (lv.new ht') upd_same, Paired.mapP h1 fun _ _ => PastOne.same ss⟩
end
end KB
end
section
set_option Elab.async false
set_option linter.all false
set_option maxRecDepth 100000
set_option maxHeartbeats 4000000
/-! the book's lift, wish -/
namespace KB
open PySem PySem.Spec PyProof.Rows L2 KM
/-- what a deed does to the book -/
def Does (K : PySem.W.Frag) (M : List Addr) (H : Hp) (b : Addr) (ps : List Pg) (pg : Pg) (de : De) (Q : VK) (E : XK) : Prop :=
  ((behind pg de).1 = .ok → ∀ H', Kb b H H' → BookAt K M H' b (ps ++ [pg]) (behind pg de).2 → Q .non H') ∧ Fails K H E (behind pg de).1
theorem Does.to {K : PySem.W.Frag} {M : List Addr} {H : Hp} {b : Addr} {ps : List Pg} {pg pg' : Pg} {de : De} {Q : VK} {E : XK} (h : Does K M H b ps pg de Q E) (e : behind pg de = (.ok, pg')) : ∀ H', Kb b H H' → BookAt K M H' b (ps ++ [pg]) pg' → Q .non H' := by
  have z := h.1
  rw [e] at z
  exact z rfl
theorem Does.err {K : PySem.W.Frag} {M : List Addr} {H : Hp} {b : Addr} {ps : List Pg} {pg pg' : Pg} {de : De} {u : Due} {Q : VK} {E : XK} (h : Does K M H b ps pg de Q E) (e : behind pg de = (u, pg')) : Fails K H E u := by
  have z := h.2
  rw [e] at z
  exact z
theorem mono_fld {K : PySem.W.Frag} {ta : TE} {f : Str} (m : ∀ σ H (Q Q' : VK), (∀ v H', Q v H' → Q' v H') → ta σ H Q → ta σ H Q') (σ : L2.St) (H : Hp) (Q Q' : VK) (h : ∀ v H', Q v H' → Q' v H') (q : tFld K ta f σ H Q) : tFld K ta f σ H Q' :=
  m σ H _ _ (fun x H1 ⟨a, C, dx, fs, v, e1, e2, c, n, l, q⟩ => ⟨a, C, dx, fs, v, e1, e2, c, n, l, h _ _ q⟩) q
section
variable {P : Program} {w : World} {K : PySem.W.Frag} {mg : Str → Option Value} {base : Heap}
/-- the promise of a deed's method -/
def spDo (K : PySem.W.Frag) (f : De → Hp → List V → Prop) : Sp := fun vs H Q E => ∃ b r M ps pg de, vs = .ref b :: r ∧ r.length = 1 ∧ f de (off M H) r ∧ b ∈ M ∧ Lv M H ∧ BookAt K M H b ps pg ∧ PgOk pg ∧ de.Ok ∧ ps.length ≤ 100 ∧ pg.2.length ≤ 50 ∧ Does K M H b ps pg de Q E
theorem cutT_lo {xs : List V} {n : Nat} (h : n < xs.length) : ¬ (HT.sIx xs.length 0 (none : Option Int) = 0 ∧ HT.sIx xs.length xs.length (some (n : Int)) = xs.length) := by
  rw [HT.sIx_nat, Nat.min_eq_left (Nat.le_of_lt h)]
  omega
theorem cutT_hi {xs : List V} {n : Nat} (h : n < xs.length) : ¬ (HT.sIx xs.length 0 (some ((n + 1 : Nat) : Int)) = 0 ∧ HT.sIx xs.length xs.length (none : Option Int) = xs.length) := by
  rw [HT.sIx_nat, Nat.min_eq_left (show n + 1 ≤ xs.length by omega)]
  omega
def isLift : De → Hp → List V → Prop := fun de _ r => ∃ n : Nat, de = .lift n ∧ r = [.int n]
theorem ok_Book_lift (W : Wd K mg) : OkM P w K mg base (L2N.CX P w) 4 (He.ma K (Bk K) "lift") ["self", "index"] (spDo K isLift) := by
  have O_is_between := ok_is_between (P := P) (w := w) (base := base) W
  obtain ⟨_, G_become, b_become⟩ := (ok_Book_become (P := P) (w := w) (base := base) W).ex
  refine (fn_Book_lift W).okN sc_Book_lift (fun vs H Q E h => ?_) (fun cdv A outer s H vs Q E hr h => ?_)
  · obtain ⟨b, r, _, _, _, _, rfl, hr, _⟩ := h
    simp [hr]
  · obtain ⟨b, _, M, ps, ⟨sh, ws⟩, _, rfl, _, ⟨n, rfl, rfl⟩, bM, lv, hB, hok, hn, hl, hwl, k⟩ := h
    obtain ⟨dx, nd, mt, pt, hb, hd, ⟨vs, hmv, hws⟩, hp⟩ := id hB
    have el : ws.length = vs.length := prd_len hws
    have hwl : ws.length ≤ 50 := hwl
    refine ⟨_, (pss_cons (ps_if (pt_not (pt_val (pcall O_is_between (hr.mono (by decide)) (pa_cons (pv 1) (pa_cons pe_int (pa_cons (pe_op op_sub (pe_callB call_len rfl (fr_len W) (by decide +kernel) (pa_cons (pe_fld (pv 0) rfl) pa_nil)) pe_int) pa_nil)))))) (pss_one (L2N.ps_raise rfl (L2N.takes_of rfl rfl rfl rfl) (pmk_InvalidIndex W (hr.mono (by decide)) (pv 1) (mono_var 1) rfl))) pss_nil)
      (pss_one (ps_expr (pe_meth (pv 0) (bk_cls W) (bk_meth W (by simp [bmeths])) G_become (hr.mono (by decide)) b_become .nil pass0 (pa_cons (pe_fld (pv 0) rfl) (pa_cons (pe_op op_cat2 (pe_slice sl_tupA (pe_fld (pv 0) rfl) po_none (po_some (pv 1))) (pe_slice sl_tupA (pe_fld (pv 0) rfl) (po_some (pe_op op_add (pv 1) pe_int)) po_none)) pa_nil)))))), ?_⟩
    have hmt : H mt = some (.tup vs) := off_le _ _ hmv
    have eb : behind (sh, ws) (.lift n) = if n < ws.length then (.ok, (sh, ws.take n ++ ws.drop (n + 1))) else (.idx n, (sh, ws)) := rfl
    refine ⟨_, rfl, _, rfl, b, _, dx, _, _, rfl, hb, bk_cls W, bk_no2 W, rfl, _, vs.length, rfl, .inr ⟨_, .of hmt, rfl⟩, _, _, rfl, rfl, _, _, _, rfl, _, rfl, ?_⟩
    by_cases c : n < ws.length
    · rw [if_pos c] at eb
      refine iteNS (show (0 : Int) ≤ (n : Int) ∧ (n : Int) ≤ (vs.length : Int) - 1 from ⟨by omega, by omega⟩) ?_
      refine ⟨_, rfl, b, dx, _, rfl, hb, rfl, _, rfl, b, _, dx, _, _, rfl, hb, bk_cls W, bk_no1 W, rfl, ?_⟩
      have c' : n < vs.length := by omega
      refine ⟨_, rfl, b, _, dx, _, _, rfl, hb, bk_cls W, bk_no2 W, rfl, _, rfl, _, rfl, mt, _, rfl, .of hmt, fun z => absurd z (cutT_lo c'), fun _ p1 h1 => ?_⟩
      have s1 := same_new (o := .tup (cutV vs none (some (n : Int)))) h1
      refine ⟨_, rfl, b, _, dx, _, _, rfl, s1 _ _ hb, bk_cls W, bk_no2 W, rfl, _, rfl, _, _, rfl, rfl, _, rfl, mt, _, rfl, .of (s1 _ _ hmt), ?_⟩
      rw [show ((n : Int) + 1) = ((n + 1 : Nat) : Int) by omega]
      refine ⟨fun z => absurd z (cutT_hi c'), fun _ p2 h2 => ?_⟩
      rw [cut_lo (Nat.le_of_lt c')] at *
      rw [cut_hi (show n + 1 ≤ vs.length by omega)]
      have s2 := s1.trans (same_new (o := .tup (vs.drop (n + 1))) h2)
      refine ⟨p1, p2, _, _, rfl, rfl, same_new h2 _ _ upd_same, upd_same, sz (by rw [List.length_take, List.length_drop]; omega), fun p H3 s3 hp3 pc => ?_⟩
      have s03 := s2.trans s3
      have np : p ∉ M := by
        rcases pc with rfl | rfl | z
        · exact lv.new h1
        · exact lv.new (s1.free h2)
        · exact lv.new (s2.free z)
      refine ⟨b, nd, p, M, ps, (sh, ws), (sh, ws.take n ++ ws.drop (n + 1)), rfl, bM, lv.same s03, hB.same s03, hl, hd.same mono_num (off_same s03), ⟨_, onto np hp3, ?_⟩, fun H4 k4 b4 => ?_⟩
      · exact prd_append (prd_take n (wis_same (off_same s03) hws)) (prd_drop (n + 1) (wis_same (off_same s03) hws))
      · exact k.to eb _ ((Kb.of s03).trans k4) b4
    · rw [if_neg c] at eb
      refine iteN (fun z => c (by have := z.2; omega)) ?_
      exact ⟨_, rfl, fun d H2 hd h2 s2 => k.err eb d H2 s2 h2⟩
end
end KB
end
section
set_option Elab.async false
set_option linter.all false
set_option maxRecDepth 100000
set_option maxHeartbeats 4000000
/-! the book's wish, __setitem__ -/
namespace KB
open PySem PySem.Spec PyProof.Rows L2 KM
theorem mono_len {K : PySem.W.Frag} {ta : TE} (m : ∀ σ H (Q Q' : VK), (∀ v H', Q v H' → Q' v H') → ta σ H Q → ta σ H Q') (σ : L2.St) (H : Hp) (Q Q' : VK) (h : ∀ v H', Q v H' → Q' v H')
    (q : tCB (fun xs H Q => ∃ x n, xs = [x] ∧ LenV K x H n ∧ Q (.int n) H) (tCons ta tNil) σ H Q) : tCB (fun xs H Q => ∃ x n, xs = [x] ∧ LenV K x H n ∧ Q (.int n) H) (tCons ta tNil) σ H Q' :=
  m σ H _ _ (fun x H1 ⟨y, n, e, l, q⟩ => ⟨y, n, e, l, h _ _ q⟩) q
section
variable {P : Program} {w : World} {K : PySem.W.Frag} {mg : Str → Option Value} {base : Heap}
def isWish : De → Hp → List V → Prop := fun de G r => ∃ (i : Wi) (p : Addr), de = .wish i ∧ r = [.ref p] ∧ G p = some (.tup i.vals)
theorem ok_Book_wish (W : Wd K mg) (F : FT K w) : OkM P w K mg base (L2N.CX P w) 12 (He.ma K (Bk K) "wish") ["self", "wish"] (spDo K isWish) := by
  have O_is_wish := ok_is_wish (P := P) (w := w) (base := base) W F
  have O_holds := ok_holds (P := P) (w := w) (base := base) W
  obtain ⟨_, G_become, b_become⟩ := (ok_Book_become (P := P) (w := w) (base := base) W).ex
  refine (fn_Book_wish W).okN sc_Book_wish (fun vs H Q E h => ?_) (fun cdv A outer s H vs Q E hr h => ?_)
  · obtain ⟨b, r, _, _, _, _, rfl, hr, _⟩ := h
    simp [hr]
  · obtain ⟨b, _, M, ps, ⟨sh, ws⟩, _, rfl, _, ⟨i, p, rfl, rfl, hpv⟩, bM, lv, hB, hok, hi, hl, hwl, k⟩ := h
    obtain ⟨dx, nd, mt, pt, hb, hd, ⟨vs, hmv, hws⟩, hp⟩ := id hB
    have hi : i.Ok := hi
    have el : ws.length = vs.length := prd_len hws
    have hwl : ws.length ≤ 50 := hwl
    refine ⟨_, (pss_cons (ps_if (pt_not (pt_val (pcall O_is_wish (hr.mono (by decide)) (pa_cons (pv 1) pa_nil)))) (pss_one ps_never) pss_nil)
      (pss_cons (ps_if (pt_not (pt_val (pcall O_holds (hr.mono (by decide)) (pa_cons (pv 1) (pa_cons (pe_fld (pv 0) rfl) pa_nil))))) (pss_one (L2N.ps_raise rfl (L2N.takes_of rfl rfl rfl rfl) (pmk_Broken W (hr.mono (by decide)) (pe_callB call_len rfl (fr_len W) (by decide +kernel) (pa_cons (pe_fld (pv 0) rfl) pa_nil)) (mono_len (mono_fld (mono_var 0))) rfl))) pss_nil)
      (pss_one (ps_expr (pe_meth (pv 0) (bk_cls W) (bk_meth W (by simp [bmeths])) G_become (hr.mono (by decide)) b_become .nil pass0 (pa_cons (pe_fld (pv 0) rfl) (pa_cons (pe_op op_cat2 (pe_fld (pv 0) rfl) (pe_tup (pa_cons (pv 1) pa_nil))) pa_nil))))))), ?_⟩
    have hmt : H mt = some (.tup vs) := off_le _ _ hmv
    have hpt : H p = some (.tup i.vals) := off_le _ _ hpv
    have eb : behind (sh, ws) (.wish i) = (match brk sh (ws ++ [i]) with | some j => (.brk j, (sh, ws)) | none => (.ok, (sh, ws ++ [i]))) := rfl
    have em := brk_more hok i
    refine ⟨_, rfl, p, i, rfl, hpt, hi, fun H1 s1 => ⟨_, rfl, iteF ?_⟩⟩
    refine ⟨_, rfl, _, rfl, b, _, dx, _, _, rfl, s1 _ _ hb, bk_cls W, bk_no1 W, rfl, p, nd, i, sh, rfl, s1 _ _ hpt, hi, (hd.same mono_num off_le).same mono_num s1, hok.sh, fun H2 s2 => ⟨_, rfl, ?_⟩⟩
    have s02 := s1.trans s2
    have hb2 := s02 _ _ hb
    cases e : ans sh i with
    | true =>
      rw [show brk sh (ws ++ [i]) = none from em.trans (if_pos e)] at eb
      refine iteF ⟨_, rfl, b, dx, _, rfl, hb2, rfl, _, rfl, b, _, dx, _, _, rfl, hb2, bk_cls W, bk_no1 W, rfl, ?_⟩
      refine ⟨_, rfl, b, _, dx, _, _, rfl, hb2, bk_cls W, bk_no2 W, rfl, _, rfl, by show 1 ≤ sizeLine; decide, fun q hq => ?_⟩
      have s3 := s02.trans (same_new (o := .tup [.ref p]) hq)
      refine ⟨mt, q, vs, [.ref p], rfl, rfl, s3 _ _ hmt, upd_same, sz (by show vs.length + 1 ≤ 1000; omega), fun t H3 s4 ht3 pc => ?_⟩
      have s03 := s3.trans s4
      have nt : t ∉ M := by
        rcases pc with rfl | rfl | z
        · exact off_mem hmv
        · exact lv.new (s02.free hq)
        · exact lv.new (s3.free z)
      refine ⟨b, nd, t, M, ps, (sh, ws), (sh, ws ++ [i]), rfl, bM, lv.same s03, hB.same s03, hl, hd.same mono_num (off_same s03), ⟨_, onto nt ht3, ?_⟩, fun H4 k4 b4 => ?_⟩
      · exact prd_append (wis_same (off_same s03) hws) (.cons ⟨p, rfl, off_same s03 _ _ hpv⟩ .nil)
      · exact k.to eb _ ((Kb.of s03).trans k4) b4
    | false =>
      rw [show brk sh (ws ++ [i]) = some ws.length from em.trans (if_neg (by rw [e]; decide))] at eb
      refine iteT ⟨_, rfl, b, _, dx, _, _, rfl, hb2, bk_cls W, bk_no2 W, rfl, _, vs.length, rfl, .inr ⟨_, .of (s02 _ _ hmt), rfl⟩, fun d H3 hd h3 s3 => ?_⟩
      rw [← el] at h3
      exact k.err eb d H3 (s02.trans s3) h3
def isPut : De → Hp → List V → Prop := fun de G r => ∃ (a : Str) (π : Pl) (x : Addr), de = .put a π ∧ r = [.str a, .ref x] ∧ PNum G x π
def spSet (K : PySem.W.Frag) : Sp := fun vs H Q E => ∃ b r M ps pg de, vs = .ref b :: r ∧ r.length = 2 ∧ isPut de (off M H) r ∧ b ∈ M ∧ Lv M H ∧ BookAt K M H b ps pg ∧ PgOk pg ∧ de.Ok ∧ ps.length ≤ 100 ∧ pg.2.length ≤ 50 ∧ Does K M H b ps pg de Q E
theorem ok_Book_setitem (W : Wd K mg) : OkM P w K mg base (L2N.CX P w) 12 (He.ma K (Bk K) "__setitem__") ["self", "name", "number"] (spSet K) := by
  have O_is_name := ok_is_name (P := P) (w := w) (base := base) W
  have O_check_number := ok_check_number (P := P) (w := w) (base := base) W
  have O_holds := ok_holds (P := P) (w := w) (base := base) W
  obtain ⟨_, G_become, b_become⟩ := (ok_Book_become (P := P) (w := w) (base := base) W).ex
  refine (fn_Book_setitem W).okN sc_Book_setitem (fun vs H Q E h => ?_) (fun cdv A outer s H vs Q E hr h => ?_)
  · obtain ⟨b, r, _, _, _, _, rfl, hr, _⟩ := h
    simp [hr]
  · obtain ⟨b, _, M, ps, ⟨sh, ws⟩, _, rfl, _, ⟨a, π, x, rfl, rfl, hxv⟩, bM, lv, hB, hok, ho, hl, hwl, k⟩ := h
    obtain ⟨dx, nd, mt, pt, hb, ⟨kvs, hdv, hen⟩, ⟨vs, hmv, hws⟩, hp⟩ := id hB
    have hu := hu_of hr
    have ho : a ∈ titles ∧ π.Ok := ho
    have el : ws.length = vs.length := prd_len hws
    have hwl : ws.length ≤ 50 := hwl
    refine ⟨_, (pss_cons (ps_if (pt_not (pt_val (pcall O_is_name (hr.mono (by decide)) (pa_cons (pv 1) pa_nil)))) (pss_one ps_never) pss_nil)
      (pss_cons (ps_expr (pcall O_check_number (hr.mono (by decide)) (pa_cons (pv 2) pa_nil)))
      (pss_cons (ps_set (i := 3) sc_Book_setitem.nd rfl (.inl rfl) (pe_callTy call_dictD rfl (fr_dict W) (by decide +kernel) (pa_cons (pe_fld (pv 0) rfl) pa_nil)))
      (pss_cons (ps_dput hu (pv 3) (pv 1) (pv 2) rfl)
      (pss_cons (ps_for (passes_of rfl) rfl (pi_enT rfl (fr_enumerate W) (pa_cons (pe_fld (pv 0) rfl) pa_nil)) (pg_tup rfl (pgs_cons (pg_name (i := 4) sc_Book_setitem.nd rfl (.inl rfl)) (pgs_cons (pg_name (i := 5) sc_Book_setitem.nd rfl (.inl rfl)) pgs_nil))) (pss_one (ps_if (pt_not (pt_val (pcall O_holds (hr.mono (by decide)) (pa_cons (pv 5) (pa_cons (pv 3) pa_nil))))) (pss_one (L2N.ps_raise rfl (L2N.takes_of rfl rfl rfl rfl) (pmk_Broken W (hr.mono (by decide)) (pv 4) (mono_var 4) rfl))) pss_nil)))
      (pss_one (ps_expr (pe_meth (pv 0) (bk_cls W) (bk_meth W (by simp [bmeths])) G_become (hr.mono (by decide)) b_become .nil pass0 (pa_cons (pv 3) (pa_cons (pe_fld (pv 0) rfl) pa_nil)))))))))), ?_⟩
    have hmt : H mt = some (.tup vs) := off_le _ _ hmv
    have hnd : H nd = some (.dK kvs) := off_le _ _ hdv
    have eb : behind (sh, ws) (.put a π) = (match brk (KB.put sh a π) ws with | some j => (.brk j, (sh, ws)) | none => (.ok, (KB.put sh a π, ws))) := rfl
    have hx : PNum H x π := mono_num _ _ _ _ off_le hxv
    refine ⟨_, rfl, a, rfl, ho.1, fun H1 s1 => ⟨_, rfl, iteF ?_⟩⟩
    refine ⟨_, rfl, x, _, _, rfl, mono_num _ _ _ _ s1 hx, numOk_of ho.2, ?_⟩
    refine ⟨_, rfl, b, _, dx, _, _, rfl, s1 _ _ hb, bk_cls W, bk_no1 W, rfl, nd, kvs, rfl, .inl (s1 _ _ hnd), fun d2 hd2 => ?_⟩
    have klen : kvs.length ≤ 3 := by rw [← hen.len]; exact hok.sh.len
    refine ⟨_, rfl, _, rfl, _, rfl, d2, _, rfl, DPut.k (k := .inr a) upd_same (small1000 (by omega)), ?_⟩
    rw [upd_upd]
    have s2 := s1.trans (same_new (o := .dK (putK kvs (.inr a) (.ref x))) hd2)
    have nd2 : d2 ∉ M := lv.new (s1.free hd2)
    have hdd : upd H1 d2 (.dK (putK kvs (.inr a) (.ref x))) d2 = some (.dK (putK kvs (.inr a) (.ref x))) := upd_same
    generalize upd H1 d2 (.dK (putK kvs (.inr a) (.ref x))) = H2 at s2 hdd
    have en2 : ∀ {H'}, Same H2 H' → DAt PNum (off M H') d2 (KB.put sh a π) := fun s' => ⟨_, onto nd2 (s' _ _ hdd), ((hen.same mono_num (off_same (s2.trans s'))).put (mono_num _ _ _ _ (off_same (s2.trans s')) hxv))⟩
    have osh : ShOk (KB.put sh a π) := hok.sh.put ho.1 ho.2
    refine ⟨_, rfl, b, _, dx, _, _, rfl, s2 _ _ hb, bk_cls W, bk_no2 W, rfl, mt, vs, rfl, .of (s2 _ _ hmt), ?_⟩
    refine for_it walk_enT (fun j σ H' => Same H2 H' ∧ (∀ i y, i < j → ws[i]? = some y → (!ans (KB.put sh a π) y) = false) ∧ ∃ v1 v2 : Option V, σ = [some (.ref b), some (.str a), some (.ref x), some (.ref d2), v1, v2])
      ⟨Same.refl _, fun i _ h => absurd h (Nat.not_lt_zero _), none, none, rfl⟩ (fun _ _ _ _ h => .of (h.1 _ _ (s2 _ _ hmt))) ?_ ?_
    · rintro j v σ H3 H3' hj ⟨s3, hbf, v1, v2, rfl⟩ ⟨T, _, y, rfl, hT, rfl, ⟨⟩, hy⟩
      obtain ⟨i, hi, p, rfl, hpv⟩ := prd_get hws hy
      have s4 := s3.trans (same_new (o := .tup [.int (j : Nat), .ref p]) hT)
      refine ⟨T, _, rfl, .of upd_same, rfl, _, _, rfl, _, _, rfl, rfl, ?_⟩
      refine ⟨_, rfl, _, rfl, p, d2, i, KB.put sh a π, rfl, s4 _ _ (s2 _ _ (off_le _ _ hpv)), hok.ws i (List.mem_of_getElem? hi), (en2 s4).same mono_num off_le, osh, fun H5 s5 => ⟨_, rfl, ?_⟩⟩
      cases e : ans (KB.put sh a π) i with
      | true =>
        refine iteF ⟨s4.trans s5, fun m y hm hy => ?_, _, _, rfl⟩
        rcases Nat.lt_succ_iff_lt_or_eq.mp hm with c | c
        · exact hbf m y c hy
        · rw [c, hi] at hy
          cases hy
          rw [e]
          rfl
      | false =>
        rw [show brk (KB.put sh a π) ws = some j from find_at hi (by rw [e]; rfl) hbf] at eb
        exact iteT ⟨_, rfl, fun d H6 hd h6 s6 => k.err eb d H6 ((s2.trans (s4.trans s5)).trans s6) h6⟩
    · rintro σ H3 ⟨s3, hbf, v1, v2, rfl⟩
      have s03 := s2.trans s3
      rw [show brk (KB.put sh a π) ws = none from find_no fun i y hi hy => hbf i y (by omega) hy] at eb
      have hb3 := s03 _ _ hb
      refine ⟨_, rfl, b, dx, _, rfl, hb3, rfl, _, rfl, _, rfl, b, _, dx, _, _, rfl, hb3, bk_cls W, bk_no2 W, rfl, ?_⟩
      refine ⟨b, d2, mt, M, ps, (sh, ws), (KB.put sh a π, ws), rfl, bM, lv.same s03, hB.same s03, hl, en2 s3, ⟨vs, off_same s03 _ _ hmv, wis_same (off_same s03) hws⟩, fun H4 k4 b4 => ?_⟩
      exact k.to eb _ ((Kb.of s03).trans k4) b4
end
end KB
end
section
set_option Elab.async false
set_option linter.all false
set_option maxRecDepth 100000
set_option maxHeartbeats 4000000
/-! the book's drop -/
namespace KB
open PySem PySem.Spec PyProof.Rows L2 KM
/-- a dict comprehension over whatever goes -/
theorem dc_it {J : It} {n : Nat} {G : Hp → Prop} {Y : Nat → Hp → V → Hp → Prop} (w : Walk J n G Y) {g : TG} {tt : TT} {tk tv : TE} {vs : List Nat} {σ : L2.St} {H1 : Hp} {D : Addr} {Qd : Hp → Prop} (Pv : Nat → Hp → Prop) (h0 : Pv 0 (upd H1 D (.dK []))) (hG : ∀ i H, i ≤ n → Pv i H → G H)
    (hs : ∀ i x H H', i < n → Pv i H → Y i H x H' → g x (wipe σ vs) H' fun σ2 H2 => wipe σ2 vs = wipe σ vs ∧ tt σ2 H2 fun b H3 =>
      if b = true then tk σ2 H3 fun y H4 => tv σ2 H4 fun z H5 => ∃ kvs k, y = kV k ∧ H5 D = some (.dK kvs) ∧ kvs.length < sizeLine ∧ Pv (i + 1) (upd H5 D (.dK (putK kvs k z))) else Pv (i + 1) H3) (hd : ∀ H, Pv n H → Qd H) :
    ∃ W : Nat → Nat → Hp → Prop, (∃ m, W 0 m (upd H1 D (.dK []))) ∧ ∀ i m H, W i m H →
      (J.stop i H ∧ Qd H) ∨ (J.go i H ∧ ∃ Nx : Hp → Prop, (∀ H', Nx H' → ∃ m', m' < m ∧ W (i + 1) m' H') ∧ ∀ x H', J.yld i H x H' → g x (wipe σ vs) H' fun σ2 H2 => wipe σ2 vs = wipe σ vs ∧ tt σ2 H2 fun b H3 =>
        if b = true then tk σ2 H3 fun y H4 => tv σ2 H4 fun z H5 => ∃ kvs k, y = kV k ∧ H5 D = some (.dK kvs) ∧ kvs.length < sizeLine ∧ Nx (upd H5 D (.dK (putK kvs k z))) else Nx H3) := by
  refine ⟨fun i m H => m = n - i ∧ i ≤ n ∧ Pv i H, ⟨n, rfl, Nat.zero_le _, h0⟩, ?_⟩
  rintro i m H ⟨rfl, hi, p⟩
  have q := hG i H hi p
  rcases Nat.lt_or_eq_of_le hi with c | c
  · exact .inr ⟨w.goes i H c q, Pv (i + 1), fun H' p' => ⟨n - (i + 1), by omega, rfl, c, p'⟩, fun x H' y => hs i x H H' c p (w.yields i H x H' c q y)⟩
  · subst c
    exact .inl ⟨w.stops H q, hd H p⟩
theorem nod_ix {α : Type} : ∀ {l : List α} {m i : Nat} {x : α}, l.Nodup → l[m]? = some x → l[i]? = some x → m = i
  | _ :: _, 0, 0, _, _, _, _ => rfl
  | y :: r, 0, i + 1, x, n, h1, h2 => by
    cases h1
    exact absurd (List.mem_of_getElem? (show r[i]? = some _ from h2)) (List.nodup_cons.mp n).1
  | y :: r, m + 1, 0, x, n, h1, h2 => by
    cases h2
    exact absurd (List.mem_of_getElem? (show r[m]? = some _ from h1)) (List.nodup_cons.mp n).1
  | y :: r, m + 1, i + 1, x, n, h1, h2 => by rw [nod_ix (List.nodup_cons.mp n).2 (show r[m]? = some x from h1) (show r[i]? = some x from h2)]
section
variable {P : Program} {w : World} {K : PySem.W.Frag} {mg : Str → Option Value} {base : Heap}
def isDrop : De → Hp → List V → Prop := fun de _ r => ∃ a : Str, de = .drop a ∧ r = [.str a]
theorem ok_Book_drop (W : Wd K mg) : OkM P w K mg base (L2N.CX P w) 4 (He.ma K (Bk K) "drop") ["self", "name"] (spDo K isDrop) := by
  have O_names_in := ok_names_in (P := P) (w := w) (base := base) W
  obtain ⟨_, G_become, b_become⟩ := (ok_Book_become (P := P) (w := w) (base := base) W).ex
  obtain ⟨_, G_known, b_known⟩ := (ok_Book_check_known (P := P) (w := w) (base := base) W).ex
  refine (fn_Book_drop W).okN sc_Book_drop (fun vs H Q E h => ?_) (fun cdv A outer s H vs Q E hr h => ?_)
  · obtain ⟨b, r, _, _, _, _, rfl, hr, _⟩ := h
    simp [hr]
  · obtain ⟨b, _, M, ps, ⟨sh, ws⟩, _, rfl, _, ⟨a, rfl, rfl⟩, bM, lv, hB, hok, ha, hl, hwl, k⟩ := h
    obtain ⟨dx, nd, mt, pt, hb, ⟨kvs, hdv, hen⟩, ⟨vs, hmv, hws⟩, hp⟩ := id hB
    have hu := hu_of hr
    have el : ws.length = vs.length := prd_len hws
    have hwl : ws.length ≤ 50 := hwl
    refine ⟨_, (pss_cons (ps_expr (pe_meth (pv 0) (bk_cls W) (bk_meth W (by simp [bmeths])) G_known (hr.mono (by decide)) b_known .nil (L2N.passes_call (L2N.takes_of rfl rfl rfl rfl) fun _ _ _ _ h => h) (pa_cons (pv 1) pa_nil)))
      (pss_cons (ps_for (passes_of rfl) rfl (pi_enT rfl (fr_enumerate W) (pa_cons (pe_fld (pv 0) rfl) pa_nil)) (pg_tup rfl (pgs_cons (pg_name (i := 2) sc_Book_drop.nd rfl (.inl rfl)) (pgs_cons (pg_name (i := 3) sc_Book_drop.nd rfl (.inl rfl)) pgs_nil))) (pss_one (ps_if (pt_cmpR op_in_seq (pv 1) (pcall O_names_in (hr.mono (by decide)) (pa_cons (pv 3) pa_nil)) (by rfl)) (pss_one (L2N.ps_raise rfl (L2N.takes_of rfl rfl rfl rfl) (pmk_InUse W (hr.mono (by decide)) (pv 2) (mono_var 2) rfl))) pss_nil)))
      (pss_one (ps_expr (pe_meth (pv 0) (bk_cls W) (bk_meth W (by simp [bmeths])) G_become (hr.mono (by decide)) b_become .nil pass0 (pa_cons (pe_lock (pe_dc (own := [("other", 4)]) (g := gName 4) rfl sc_Book_drop.nd (pi_keys (pe_fld (pv 0) rfl)) (blkOk_by (own := [("other", 4)]) (N := n_Book_drop) (sc := defScope s_Book_drop) (by decide +kernel)) (fun _ _ _ _ _ => pg_name (i := 4) sc_Book_drop.nd rfl (Or.inl rfl)) (fun _ _ _ _ _ => (pts_one (pt_cmpR op_ne (pv 4) (pv 1) (nomark _)))) (fun _ _ _ _ _ => (pv 4)) (fun _ _ _ _ _ => (pe_dget hu (show PE _ _ (tFld K (tVar 0) "numbers") from (pe_fld (pv 0) rfl)) (pv 4) (fun _ _ => rfl))))) (pa_cons (pe_fld (pv 0) rfl) pa_nil))))))), ?_⟩
    have hmt : H mt = some (.tup vs) := off_le _ _ hmv
    have hnd : H nd = some (.dK kvs) := off_le _ _ hdv
    have hnodup := hen.nodup hok.sh.nd
    have klen : kvs.length ≤ 3 := by rw [← hen.len]; exact hok.sh.len
    have eb : behind (sh, ws) (.drop a) = (if (look sh a).isSome = true then (match useIx ws a with | some i => (.use i, (sh, ws)) | none => (.ok, (drp sh a, ws))) else (.unk a, (sh, ws))) := rfl
    refine ⟨_, rfl, b, dx, _, rfl, hb, rfl, _, rfl, b, a, M, ps, (sh, ws), rfl, hB, fun e => ?_, fun e => ?_⟩
    · have e : look sh a = none := e
      rw [e] at eb
      exact k.err eb
    · have e : (look sh a).isSome = true := e
      rw [if_pos e] at eb
      refine ⟨_, rfl, b, _, dx, _, _, rfl, hb, bk_cls W, bk_no2 W, rfl, mt, vs, rfl, .of hmt, ?_⟩
      refine for_it walk_enT (fun j σ H' => Same H H' ∧ (∀ i y, i < j → ws[i]? = some y → decide (a ∈ y.names) = false) ∧ ∃ v1 v2 : Option V, σ = [some (.ref b), some (.str a), v1, v2, none])
        ⟨Same.refl _, fun i _ h => absurd h (Nat.not_lt_zero _), none, none, rfl⟩ (fun _ _ _ _ h => .of (h.1 _ _ hmt)) ?_ ?_
      · rintro j v σ H3 H3' hj ⟨s3, hbf, v1, v2, rfl⟩ ⟨T, _, y, rfl, hT, rfl, ⟨⟩, hy⟩
        obtain ⟨i, hi, p, rfl, hpv⟩ := prd_get hws hy
        have s4 := s3.trans (same_new (o := .tup [.int (j : Nat), .ref p]) hT)
        refine ⟨T, _, rfl, .of upd_same, rfl, _, _, rfl, _, _, rfl, rfl, ?_⟩
        refine ⟨_, rfl, _, rfl, p, i, rfl, s4 _ _ (off_le _ _ hpv), fun q H5 s5 hq5 => ⟨q, _, rfl, .inr (.of hq5), rfl, flat_strs _, _, rfl, ?_⟩⟩
        show if inV (.str a) (i.names.map V.str) = true then _ else _
        rw [inV_str]
        cases e2 : decide (a ∈ i.names) with
        | false =>
          refine iteF ⟨s4.trans s5, fun m y hm hy => ?_, _, _, rfl⟩
          rcases Nat.lt_succ_iff_lt_or_eq.mp hm with c | c
          · exact hbf m y c hy
          · rw [c, hi] at hy
            cases hy
            exact e2
        | true =>
          rw [show useIx ws a = some j from find_at hi e2 hbf] at eb
          exact iteT ⟨_, rfl, fun d H6 hd h6 s6 => k.err eb d H6 ((s4.trans s5).trans s6) h6⟩
      · rintro σ H3 ⟨s3, hbf, v1, v2, rfl⟩
        rw [show useIx ws a = none from find_no fun i y hi hy => hbf i y (by omega) hy] at eb
        have hb3 := s3 _ _ hb
        have hn3 := s3 _ _ hnd
        refine ⟨_, rfl, b, dx, _, rfl, hb3, rfl, nd, _, hn3, trivial, fun od => ?_⟩
        have hfz : upd H3 nd (.frz od (.dK kvs)) nd = some (.frz od (.dK kvs)) := upd_same
        have hbz : upd H3 nd (.frz od (.dK kvs)) b = some (.ins (Bk K) dx (bfs nd mt pt)) := by rw [upd_ne (ne_of hb3 hn3 (by simp))]; exact hb3
        refine ⟨_, rfl, b, _, dx, _, _, rfl, hbz, bk_cls W, bk_no1 W, rfl, nd, od, rfl, .inl ⟨kvs, hfz, fun D2 hD2 => ?_⟩⟩
        refine dc_it walk_keys (fun i H' => Same (upd H3 nd (.frz od (.dK kvs))) H' ∧ H' D2 = some (.dK ((kvs.take i).filter fun kv => decide (kv.1 ≠ .inr a))))
          ⟨same_new hD2, upd_same⟩ (fun _ _ _ h => h.1 _ _ hfz) ?_ ?_
        · rintro i x H4 H4' hi ⟨s4, h4⟩ ⟨rfl, ky, v, hkv, rfl⟩
          obtain ⟨pr, _, ek, y, ey, _⟩ := hen.get hkv
          dsimp only at ek ey
          subst ek ey
          refine ⟨rfl, _, rfl, _, rfl, rfl, _, rfl, ?_⟩
          refine ite2N (fun c => ?_) (fun c => ?_)
          · have c' : pr.1 ≠ a := fun z => c (by rw [z]; rfl)
            refine ⟨_, rfl, _, rfl, b, _, dx, _, _, rfl, s4 _ _ hbz, bk_cls W, bk_no1 W, rfl, _, rfl, nd, _, rfl, dget_frz (s4 _ _ hfz) hnodup hkv, ?_⟩
            refine ⟨_, .inr pr.1, rfl, h4, ?_, same_mut s4 hD2, ?_⟩
            · exact small1000 (Nat.le_trans (filt_len _ _ _) (by omega))
            · rw [upd_same, filt_yes hkv (by simpa using c'), putK_new]
              intro z
              obtain ⟨q, hq, eq⟩ := List.mem_map.mp z
              have hq' := (List.mem_filter.mp hq).1
              obtain ⟨m, hm, em⟩ := List.getElem_of_mem hq'
              rw [List.length_take] at hm
              rw [List.getElem_take] at em
              have h1 : (kvs.map (·.1))[m]? = some (.inr pr.1) := by rw [List.getElem?_map, List.getElem?_eq_getElem (by omega), em]; exact congrArg some eq
              have h2 : (kvs.map (·.1))[i]? = some (.inr pr.1) := by rw [List.getElem?_map, hkv]; rfl
              have := nod_ix hnodup h1 h2
              omega
          · have c' : pr.1 = a := by
              have z : V.str pr.1 = V.str a := c
              injection z
            refine ⟨s4, ?_⟩
            rw [filt_no hkv (by simp [c'])]
            exact h4
        · rintro H4 ⟨s4, h4⟩
          rw [List.take_length] at h4
          have hf4 := s4 _ _ hfz
          have s04 := s3.trans (unlock hn3 s4)
          have hD : upd H4 nd (.dK kvs) D2 = some (.dK (dropK kvs (.inr a))) := by rw [upd_ne (ne_of h4 hf4 (by simp))]; exact h4
          have nD : D2 ∉ M := by
            refine lv.new (s3.free ?_)
            cases q : H3 D2 with
            | none => rfl
            | some o =>
              by_cases c : D2 = nd
              · rw [c, hfz] at hD2; cases hD2
              · rw [upd_ne c, q] at hD2; cases hD2
          refine ⟨hf4, ?_⟩
          generalize upd H4 nd (.dK kvs) = H5 at s04 hD
          refine ⟨_, rfl, b, _, dx, _, _, rfl, s04 _ _ hb, bk_cls W, bk_no2 W, rfl, ?_⟩
          refine ⟨b, D2, mt, M, ps, (sh, ws), (drp sh a, ws), rfl, bM, lv.same s04, hB.same s04, hl, ⟨_, onto nD hD, (hen.drp a).same mono_num (off_same s04)⟩, ⟨vs, off_same s04 _ _ hmv, wis_same (off_same s04) hws⟩, fun H6 k6 b6 => ?_⟩
          exact k.to eb _ ((Kb.of s04).trans k6) b6
end
end KB
end
section
set_option Elab.async false
set_option linter.all false
set_option maxRecDepth 100000
set_option maxHeartbeats 4000000
/-! a deed is done -/
namespace KB
open PySem PySem.Spec PyProof.Rows L2 KM
theorem bk_seq {K : PySem.W.Frag} {mg : Str → Option Value} (W : Wd K mg) : PySem.W.noSeq K (Bk K) = true := by
  have h := W.exAll.2.1
  unfold bookB at h
  exact (He.ba h).1
def NT (M : List Addr) (H : Hp) : Prop := ∀ m ∈ M, ∀ xs, H m ≠ some (.tup xs)
theorem NT.out {M : List Addr} {H H1 : Hp} {x : Addr} {xs : List V} (n : NT M H) (l : Lv M H) (s : Same H H1) (h : H1 x = some (.tup xs)) : x ∉ M := fun z => by
  cases e : H x with
  | none => exact l x z e
  | some o =>
    have e2 := s _ _ e
    rw [h] at e2
    cases e2
    exact n x z xs e
theorem Does.same {K : PySem.W.Frag} {M : List Addr} {H H1 : Hp} {b : Addr} {ps : List Pg} {pg : Pg} {de : De} {Q : VK} {E : XK} (h : Does K M H b ps pg de Q E) (s : Same H H1) : Does K M H1 b ps pg de Q E :=
  ⟨fun e H' k bk => h.1 e H' ((Kb.of s).trans k) bk, h.2.same s⟩
section
variable {P : Program} {w : World} {K : PySem.W.Frag} {mg : Str → Option Value} {base : Heap}
def spDone (K : PySem.W.Frag) : Sp := fun vs H Q E => ∃ b q M ps pg de, vs = [.ref b, .ref q] ∧ DeAt (off M H) de (.ref q) ∧ b ∈ M ∧ Lv M H ∧ NT M H ∧ BookAt K M H b ps pg ∧ PgOk pg ∧ de.Ok ∧ ps.length ≤ 100 ∧ pg.2.length ≤ 50 ∧ Does K M H b ps pg de Q E
theorem ok__law_done (W : Wd K mg) (F : FT K w) : OkD P w K mg base (L2N.CX P w) 13 "_law_done" ["_law_book_here", "_law_deed"] (spDone K) := by
  have O__law_pair := ok__law_pair (P := P) (w := w) (base := base) W
  obtain ⟨_, G_set, b_set⟩ := (ok_Book_setitem (P := P) (w := w) (base := base) W).ex
  obtain ⟨_, G_drop, b_drop⟩ := (ok_Book_drop (P := P) (w := w) (base := base) W).ex
  obtain ⟨_, G_wish, b_wish⟩ := (ok_Book_wish (P := P) (w := w) (base := base) W F).ex
  obtain ⟨_, G_lift, b_lift⟩ := (ok_Book_lift (P := P) (w := w) (base := base) W).ex
  refine (fn__law_done W).okN sc__law_done (fun vs H Q E h => ?_) (fun cdv A outer s H vs Q E hr h => ?_)
  · obtain ⟨b, q, _, _, _, _, rfl, _⟩ := h
    rfl
  · obtain ⟨b, q, M, ps, pg, de, rfl, ⟨_, e, hq⟩, bM, lv, nt, hB, hok, hde, hl, hwl, k⟩ := h
    cases e
    obtain ⟨dx, nd, mt, pt, hb, _⟩ := id hB
    refine ⟨_, (pss_cons (ps_if (pt_cmpR op_eq (pe_ix ix_list (pv 1) pe_int (fun _ _ => rfl)) pe_str (nomark _)) (pss_cons (ps_asg (pcall O__law_pair (hr.mono (by decide)) (pa_cons (pe_ix ix_tup (pe_ix ix_list (pv 1) pe_int (fun _ _ => rfl)) pe_int (fun _ _ => rfl)) (pa_cons (pe_ix ix_tup (pe_ix ix_list (pv 1) pe_int (fun _ _ => rfl)) pe_int (fun _ _ => rfl)) pa_nil))) (pg_sub (pv 0) (pe_ix ix_list (pv 1) pe_int (fun _ _ => rfl)) (set_own (bk_seq W) (bk_meth W (by simp [bmeths])) G_set (hr.mono (by decide)) b_set (L2N.passes_call (L2N.takes_of rfl rfl rfl rfl) fun _ _ _ _ h => h))))
      (pss_one (ps_ret pe_non))) pss_nil)
      (pss_cons (ps_if (pt_cmpR op_eq (pe_ix ix_list (pv 1) pe_int (fun _ _ => rfl)) pe_str (nomark _)) (pss_one (ps_ret (pe_meth (pv 0) (bk_cls W) (bk_meth W (by simp [bmeths])) G_drop (hr.mono (by decide)) b_drop .nil (L2N.passes_call (L2N.takes_of rfl rfl rfl rfl) fun _ _ _ _ h => h) (pa_cons (pe_ix ix_list (pv 1) pe_int (fun _ _ => rfl)) pa_nil)))) pss_nil)
      (pss_one (ps_ret (pe_ifExp (pt_cmpR op_eq (pe_ix ix_list (pv 1) pe_int (fun _ _ => rfl)) pe_str (nomark _)) (pe_meth (pv 0) (bk_cls W) (bk_meth W (by simp [bmeths])) G_wish (hr.mono (by decide)) b_wish .nil (L2N.passes_call (L2N.takes_of rfl rfl rfl rfl) fun _ _ _ _ h => h) (pa_cons (pe_ix ix_list (pv 1) pe_int (fun _ _ => rfl)) pa_nil)) (pe_meth (pv 0) (bk_cls W) (bk_meth W (by simp [bmeths])) G_lift (hr.mono (by decide)) b_lift .nil (L2N.passes_call (L2N.takes_of rfl rfl rfl rfl) fun _ _ _ _ h => h) (pa_cons (pe_ix ix_list (pv 1) pe_int (fun _ _ => rfl)) pa_nil))))))), ?_⟩
    cases de with
    | lift n =>
      have hqs : SqL K H q [.str "lift", .int n] := .of (off_le _ _ hq)
      refine ⟨_, rfl, _, _, _, _, rfl, rfl, hqs, rfl, rfl, _, rfl, iteDF (by decide +kernel) ?_⟩
      refine ⟨_, rfl, _, _, _, _, rfl, rfl, hqs, rfl, rfl, _, rfl, iteDF (by decide +kernel) ?_⟩
      refine ⟨_, rfl, _, _, _, _, rfl, rfl, hqs, rfl, rfl, _, rfl, iteDF (by decide +kernel) ?_⟩
      exact ⟨_, rfl, b, dx, _, rfl, hb, rfl, _, rfl, _, _, _, _, rfl, rfl, hqs, atI_nat (j := 1) rfl, b, _, M, ps, pg, _, rfl, rfl, ⟨n, rfl, rfl⟩, bM, lv, hB, hok, hde, hl, hwl, k⟩
    | drop a =>
      have hqs : SqL K H q [.str "drop", .str a] := .of (off_le _ _ hq)
      refine ⟨_, rfl, _, _, _, _, rfl, rfl, hqs, rfl, rfl, _, rfl, iteDF (by decide +kernel) ?_⟩
      refine ⟨_, rfl, _, _, _, _, rfl, rfl, hqs, rfl, rfl, _, rfl, iteD rfl ?_⟩
      exact ⟨_, rfl, b, dx, _, rfl, hb, rfl, _, rfl, _, _, _, _, rfl, rfl, hqs, atI_nat (j := 1) rfl, b, _, M, ps, pg, _, rfl, rfl, ⟨a, rfl, rfl⟩, bM, lv, hB, hok, hde, hl, hwl, k⟩
    | wish i =>
      obtain ⟨p, hq, hp⟩ := hq
      have hqs : SqL K H q [.str "wish", .ref p] := .of (off_le _ _ hq)
      refine ⟨_, rfl, _, _, _, _, rfl, rfl, hqs, rfl, rfl, _, rfl, iteDF (by decide +kernel) ?_⟩
      refine ⟨_, rfl, _, _, _, _, rfl, rfl, hqs, rfl, rfl, _, rfl, iteDF (by decide +kernel) ?_⟩
      refine ⟨_, rfl, _, _, _, _, rfl, rfl, hqs, rfl, rfl, _, rfl, iteD rfl ?_⟩
      exact ⟨_, rfl, b, dx, _, rfl, hb, rfl, _, rfl, _, _, _, _, rfl, rfl, hqs, atI_nat (j := 1) rfl, b, _, M, ps, pg, _, rfl, rfl, ⟨i, p, rfl, rfl, hp⟩, bM, lv, hB, hok, hde, hl, hwl, k⟩
    | put a π =>
      obtain ⟨p, hq, r, hrow, hp⟩ := hq
      have hqs : SqL K H q [.str "put", .str a, .ref p] := .of (off_le _ _ hq)
      have hps : SqT K H p [.int π.s, .ref r] := .of (off_le _ _ hp)
      have hde : a ∈ titles ∧ π.Ok := hde
      refine ⟨_, rfl, _, _, _, _, rfl, rfl, hqs, rfl, rfl, _, rfl, iteD rfl ?_⟩
      refine ⟨_, rfl, _, _, _, _, rfl, rfl, hqs, atI_nat (j := 2) rfl, _, _, _, _, rfl, rfl, hps, atI_nat (j := 0) rfl, _, rfl, _, _, _, _, rfl, rfl, hqs, atI_nat (j := 2) rfl, _, _, _, _, rfl, rfl, hps, atI_nat (j := 1) rfl, ?_⟩
      refine ⟨r, π, rfl, off_le _ _ hrow, hde.2.v, fun x H1 s1 hx => ?_⟩
      have nx : x ∉ M := nt.out lv s1 hx
      have k1 := k.same s1
      refine ⟨_, rfl, _, rfl, _, _, _, _, rfl, rfl, .of (s1 _ _ (off_le _ _ hq)), atI_nat (j := 1) rfl, b, dx, _, rfl, s1 _ _ hb, b, _, M, ps, pg, _, rfl, rfl, ⟨a, π, x, rfl, rfl, onto nx hx⟩, bM, lv.same s1, hB.same s1, hok, hde, hl, hwl, fun e H' k2 b2 => ?_, k1.2⟩
      exact k1.1 e H' k2 b2
end
end KB
end
section
set_option Elab.async false
set_option linter.all false
set_option maxRecDepth 100000
set_option maxHeartbeats 4000000
/-! while an exception is handled: a pair taken apart -/
namespace KB
open PySem PySem.Spec PyProof.Rows HotX
section
variable {prog : Program} {w : World} {A : Around} {E : Value → Shared → Prop} {s : Shared}
theorem hot_end {it t x1 : Addr} {i : Nat} {items : Array Value} {Q : Option Value → Shared → Prop} (hot : HotAt A x1 s.heap) (ne : x1 ≠ it) (hit : IsTupIter s.heap it t i) (ht : IsTup s.heap t items) (hx : items[i]? = none)
    (hQ : ∀ h', Heap.ExtBut it s.heap h' → Q none { s with heap := h' }) : wpAny (model prog w) A (pyNext (.ref it)) Q E s := by
  obtain ⟨hh, o1, vs1, h1, d1, c1⟩ := hot
  obtain ⟨o, ho, hc, hd⟩ := id hit
  obtain ⟨ol, hol, _, nl, hdl⟩ := ht
  unfold pyNext
  refine wpAny_bind (wpAny_attempt (wpAny_callSpecial?_slot (name := Str.ofString "__next__") hit.typeIs slot_tupleiter_next (wpAny_call_entry slot_tupleiter_next hit.typeIs entry_tupleiter_next ?_ (args_tupleiter_next _))))
  show wpAny _ _ (field (.ref it) 0 >>= _) _ _ _
  refine wpAny_bind (wpAny_field ho hd (x := .ref t) rfl ?_)
  show wpAny _ _ (if (Value.ref t == Value.none) = true then _ else _) _ _ _
  rw [if_neg (show ¬ ((Value.ref t == Value.none) = true) from by simp)]
  show wpAny _ _ (field (.ref it) 1 >>= _) _ _ _
  refine wpAny_bind (wpAny_field ho hd (x := .int i 0) rfl ?_)
  show wpAny _ _ (seqItems? (.ref t) >>= _) _ _ _
  refine wpAny_bind (wpAny_seqItems hol hdl ?_)
  simp only [Int.toNat_natCast, hx]
  refine wpAny_bind (wpAny_rule (wpAny_bind (wpAny_setField ho hd (by simp) ?_)))
  show wpAny _ _ (newExc (.type "StopIteration") [] >>= _) _ _ _
  refine wpAny_bind ?_
  simp only [newExc, newTuple]
  refine wpAny_bind (wpAny_newObj_type ?_ (by size_fits))
  refine wpAny_bind (m := firstArgMember _ _) (wpAny_of_eq (a := Value.none) (by first | rfl | (simp only [firstArgMember]; rfl)) ?_)
  refine wpAny_newObj_type ?_ (by size_fits)
  have h2 : (s.heap.update it (Obj.mapFields (·.setIfInBounds 0 .none))).get? x1 = some o1 := (Heap.get?_update_ne _ _ _ _ ne).trans h1
  refine raiseNew_hot (A := A.in1) ⟨hh, o1, vs1, Heap.get?_push_of_some _ (Heap.get?_push_of_some _ h2), d1, c1⟩ (Nat.ne_of_lt (Heap.lt_size (Heap.get?_push_of_some _ h2))) (Heap.get?_push_size _ rfl) rfl (by first | (simp; done) | (simp; omega)) ?_
  refine wpAny_bind (wpAny_isInstance (T := "StopIteration") (b := true) ⟨_, Heap.get?_update_self _ (Heap.get?_push_size _ rfl) rfl, rfl⟩ isSubtype_stop ?_)
  refine wpAny_pure (hQ _ fun b u nb e => ?_)
  have e2 : (s.heap.update it (Obj.mapFields (·.setIfInBounds 0 .none))).get? b = some u := (Heap.get?_update_ne _ _ _ _ nb).trans e
  rw [Heap.get?_update_other _ _ (Nat.ne_of_gt (Heap.lt_size (Heap.get?_push_of_some _ e2)))]
  exact Heap.get?_push_of_some _ (Heap.get?_push_of_some _ e2)
/-- a tuple, taken apart -/
theorem hot_unpack {t x1 : Addr} {items : Array Value} {Q : List Value → Shared → Prop} (hot : HotAt A x1 s.heap) (ht : IsTup s.heap t items)
    (hQ : ∀ h', Heap.ExtBut s.heap.objs.size s.heap h' → Q items.toList { s with heap := h' }) : wpAny (model prog w) A (unpackItems (.ref t) items.size none) Q E s := by
  have old : t ≠ s.heap.objs.size := by obtain ⟨o, ho, _⟩ := ht; exact Nat.ne_of_lt (Heap.lt_size ho)
  unfold unpackItems
  refine wpAny_bind ?_
  unfold notIterableAtAll
  refine wpAny_bind (wpAny_specialOf ht.typeIs slot_tuple_iter.lookup (wpAny_pure ?_))
  simp only [Bool.false_eq_true, if_false]
  refine wpAny_bind (wpAny_holding (iter_tuple ht ?_))
  refine wpAny_bind (wpAny_holding (draw_tuple old items.size 0 _ _ ⟨_, Heap.get?_push_size _ rfl, rfl, rfl⟩ (ht.push _) (by omega) fun h1 hit1 hs1 => ?_))
  have all : List.take items.size (List.drop 0 items.toList) = items.toList := by
    rw [List.drop_zero]
    exact List.take_of_length_le (by simp)
  rw [all, if_neg (by simp)]
  have ht1 : IsTup h1 t items := (ht.push _).extBut hs1.extBut old
  obtain ⟨hh, o1, vs1, e1, d1, c1⟩ := hot
  have nx : x1 ≠ s.heap.objs.size := Nat.ne_of_lt (Heap.lt_size e1)
  have e2 : h1.get? x1 = some o1 := hs1.extBut _ _ nx (Heap.get?_push_of_some _ e1)
  refine wpAny_bind (wpAny_holding (hot_end (s := { s with heap := h1 }) ⟨hh, o1, vs1, e2, d1, c1⟩ nx hit1 ht1 (by simp) fun h2 he2 => ?_))
  simp only [Option.isSome_none, Bool.false_eq_true, if_false]
  exact wpAny_pure (hQ h2 fun b o hb e => he2 b o hb (hs1.extBut b o hb (Heap.get?_push_of_some _ e)))
end
end KB
namespace KB
open PySem PySem.Spec PyProof.Rows L2 L2H
/-- a, b = x, y there -/
theorem ps_parH {X : Cx} {i j : Nat} {x y : Str} {a b : Expr} {ta : TA} {px py pt pos : Pos} {kt k2 pt2} (hc : HotC X) (hN : X.N.Nodup) (hi : X.N[i]? = some x) (hj : X.N[j]? = some y) (hij : i ≠ j)
    (hx : X.env.scope.names.lookup x = some .local) (hy : X.env.scope.names.lookup y = some .local) (ha : PA X [a, b] ta) (hw : swappedStores [.Tuple [.Name x px, .Name y py] kt pt] (.Tuple [a, b] k2 pt2) X.env = pure (some [x, y]))
    (hs : swapsWithSole [.Tuple [.Name x px, .Name y py] kt pt] (.Tuple [a, b] k2 pt2) pos.line X.env = pure false := by rfl) : PS X (.Assign [.Tuple [.Name x px, .Name y py] kt pt] (.Tuple [a, b] k2 pt2) pos) (tPar i j ta) := by
  refine ⟨fun pins s σ H D I h => ?_⟩
  rw [exec_Assign_arm]
  refine wpAny_bind (wpAny_standAt ?_)
  rw [hs]
  refine wpAny_bind (wpAny_pure ?_)
  rw [if_neg (by decide)]
  refine wpAny_bind (Tuple_ (thn (ha.run _ pins s σ H _ I h) fun us s1 ⟨vs, H1, I1, r1, v, w, e1, q1⟩ => ?_))
  subst e1
  obtain ⟨u1, u2, rfl, rv, rw2⟩ := vals2 r1
  refine wpAny_newObj_type ?_ (by show 2 ≤ sizeLine; decide)
  have I2 : Inv X pins σ H1 { s1 with heap := s1.heap.push { cls := .type "tuple", data := .seq [u1, u2].toArray } } := I1.kept (t' := s1.toks) fun b o e => Heap.get?_push_of_some _ e
  rw [hw]
  refine wpAny_bind (wpAny_pure ?_)
  show wpAny (model X.prog X.w) X.A (do rule "assign.swapped-stores"; let l ← unpackItems (.ref s1.heap.objs.size) 2 none; assignInOrder [fun v => bindName X.env y v, fun v => bindName X.env x v] l.reverse; pure Flow.next) _ _ _
  obtain ⟨x1, hot⟩ := hc.at I2
  refine wpAny_bind (wpAny_rule (wpAny_bind (hot_unpack (items := #[u1, u2]) hot (IsTup.new s1.heap _) fun h2 hx2 => ?_)))
  have I3 := I2.kept (h' := h2) (t' := s1.toks) fun b o e => hx2 b o (Nat.ne_of_lt (Heap.lt_size e)) e
  show wpAny _ _ (assignInOrder [fun v => bindName X.env y v, fun v => bindName X.env x v] [u2, u1] >>= fun _ => pure Flow.next) _ _ _
  refine wpAny_bind (assignInOrder_cons (wpAny_bindName (store_ok I3 hN hj (.inl hy) rw2 (fun s2 I4 => ?_) (.inr hy))))
  refine assignInOrder_cons (wpAny_bindName (store_ok I4 hN hi (.inl hx) rv (fun s3 I5 => assignInOrder_nil (wpAny_pure ?_)) (.inr hx)))
  rw [List.set_comm _ _ (Ne.symm hij)] at I5
  exact ⟨_, H1, I5, q1⟩
end KB
end
section
set_option Elab.async false
set_option linter.all false
set_option maxRecDepth 100000
set_option maxHeartbeats 4000000
/-! a caught error: isinstance of it, its field -/
namespace PySem.W
open PySem PySem.Spec PySem.Calls PyProof.Rows
section
variable {prog : Program} {w : World} {A : Around} {E : Value → Shared → Prop} {s : Shared} {K : Frag} {x D : Addr} {ox : Obj} {od : Option Obj}
theorem kb_class {Q : Option Value → Shared → Prop} (c : L2.ExcC K D) (X : K.In s.heap) (I : InstAt s.heap x ox D od) (h : Q (some (.ref D)) { s with toks := s.toks + 1 }) : wpAny (model prog w) A (getAttr? (.ref x) "__class__") Q E s := by
  have some_cls : (clsIn K D).isSome = true := by obtain ⟨cd, hc, _⟩ := any_some c.hd; rw [hc]; rfl
  have hf : findObj K D od "__class__" = some (.bind (.builtin "getset_descriptor.__get__") (.builtin "object.__class__")) := by
    cases od with
    | none => exact findObj_dataN some_cls c.ha c.hn c.ht
    | some o => exact findObj_data some_cls c.ha c.hn c.ht
  obtain ⟨hp, g, d, t, os⟩ := s
  have ty := I.type (M := model prog w)
  have ga := looks_findIn (M := model prog w) X c.hg
  have gt := looks_findIn (M := model prog w) X c.hk
  have fo := looks_find (M := model prog w) X I hf
  have base : Looks (model prog w) hp (isInstance (.ref x) (.type "BaseException")) true := ty.andThen (looks_subIn X c.hs)
  have ne : (Value.builtin "BaseException.__getattribute__" == Value.builtin "object.__getattribute__") = false := by decide +kernel
  have no : (onTheHeap (Value.ref D) && Value.builtin "BaseException.__getattribute__" == Value.builtin "object.__getattribute__") = false := by rw [ne]; rfl
  unfold getAttr? getAttrBy? getAttrBy
  refine wpAny_bind (wpAny_mkText (wpAny_bind (wpAny_attempt (wpAny_holding (wpAny_bind (ty.at (wpAny_bind (ga.at ?_))))))))
  show wpAny _ _ (if (onTheHeap (Value.ref D) && Value.builtin "BaseException.__getattribute__" == Value.builtin "object.__getattribute__") = true then _ else _) _ _ _
  rw [no, if_neg (by decide)]
  unfold getAttrByItsOwn hookBefore
  refine wpAny_bind ?_
  rw [if_pos (show onTheHeap (Value.ref D) = true from rfl)]
  refine gt.at (wpAny_bind (wpAny_attempt (wpAny_holding ?_)))
  unfold callGetattribute
  rw [show (false && onTheHeap (Value.builtin "BaseException.__getattribute__")) = false from rfl, if_neg (by decide)]
  unfold boundAndCalled
  rw [PySem.F.excAttr_ValueError.ga.bind (.ref x)]
  refine wpAny_bind (wpAny_pure ?_)
  show wpAny _ _ (call (.builtin "BaseException.__getattribute__") [.ref x, .str "__class__" t]) _ _ _
  refine wpAny_call (codeAny_call_builtin PySem.F.excAttr_ValueError.ga.plain PySem.F.entry_bexc_ga ?_)
  refine @check_slot (model prog w) _ _ ⟨hp, g, d, t + 1, os⟩ "BaseException.__getattribute__" "BaseException" "__getattribute__" (.ref x) [.str "__class__" t] [] _ (by decide +kernel) (by decide +kernel) base (PySem.F.args_bexc_ga (.ref x) (.str "__class__" t)) ?_
  unfold Builtin.«object.__getattribute__»
  refine wpAny_bind (wpAny_of_eq (a := ((Value.ref x : Value), [Value.str "__class__" t])) (by first | rfl | (simp only [slotArgs]; rfl)) ?_)
  refine wpAny_bind (wpAny_pure (wpAny_bind (ty.at (wpAny_bind (fo.at ?_)))))
  show wpAny _ _ (holding [Value.builtin "object.__class__"] (call (.builtin "getset_descriptor.__get__") [.builtin "object.__class__", .ref x, .ref D]) >>= ret) _ _ _
  refine wpAny_bind (wpAny_holding (wpAny_call (class_get (s := ⟨hp, g, d, t + 1, os⟩) (ox := ox) (od := od) X I c.hm ?_)))
  refine wpAny_pure ?_
  show wpAny _ _ (handedOut (.ref D)) _ _ _
  rw [handedOut_of (v := .ref D) rfl]
  first
    | exact wpAny_pure (wpAny_pure h)
    | exact wpAny_pure h
    | exact wpAny_pure (wpAny_bind (wpAny_pure (wpAny_pure h)))
theorem kb_kitx (c : L2.ExcC K D) : KitX K (.ref x) (.ref D) (fun h => InstAt h x ox D od) where
  ty := fun _ _ _ I => I.type
  it := fun _ _ X _ => by
    obtain ⟨cd, hc, _⟩ := any_some c.hd
    unfold clsIn at hc
    split at hc
    · rename_i c' d' cd' sl' ho
      intro A' Q' E' s' k q
      unfold isType loadHead
      exact wpAny_bind (wpAny_loadPart (k _ _ (X _ _ ho)) (wpAny_pure q))
    · cases hc
  ne := fun h tp dd its n sl X htp => by
    obtain ⟨cd, hc, _⟩ := any_some c.hd
    refine Bool.eq_false_iff.mpr fun q => ?_
    have e : D = tp := Value.ref.inj (beq_iff_eq.mp q)
    subst e
    unfold clsIn at hc
    split at hc
    · rename_i c' d' cd' sl' ho
      cases (X _ _ ho).symm.trans htp
    · cases hc
  ca := fun X I k => kb_class c X I k
end
end PySem.W
namespace KB
open PySem PySem.Spec PyProof.Rows L2 L2H
/-- the dict of an error that is caught -/
def Dct (H : Hp) : Option Addr → Prop
  | none => True
  | some dd => ∃ fs, H dd = some (.xd fs)
section
variable {X : Cx} {a D : Addr} {oe : Obj} {d : Option Addr}
theorem err_at {pins : List (Addr × Obj)} {σ : L2.St} {H : Hp} {s : Shared} (I : Inv X pins σ H s) (hp : (a, oe) ∈ X.pn) (hz : Zc (.ref D) d oe) (hf : ∃ vs, oe.data = .fields vs) (hd : Dct H d) : ∃ od, PySem.W.InstAt s.heap a oe D od := by
  obtain ⟨hget, _⟩ := I.pin (a, oe) (List.mem_append_left _ hp)
  obtain ⟨vs, hv⟩ := hf
  have nc : PySem.W.notCls oe = true := by unfold PySem.W.notCls; rw [hv] <;> rfl
  cases d with
  | none => exact ⟨none, hget, hz.1, nc, by rw [hz.2]; trivial⟩
  | some dd =>
    obtain ⟨fs, e⟩ := hd
    obtain ⟨mA, hns, hr⟩ := (show ObjOk X.prog X.w H s.heap dd (.xd fs) from I.hok dd _ e)
    obtain ⟨od, ho, hl⟩ := lookIn_ns hns
    exact ⟨some od, hget, hz.1, nc, by rw [hz.2]; exact ho⟩
/-- isinstance(e, C), e the error that is handled -/
def rIsP (K : PySem.W.Frag) (D a : Addr) (d : Option Addr) : List V → Hp → VK → Prop := fun xs H Q => Dct H d ∧ ∃ (c : V) (cv : Value) (b : Bool), xs = [.ref a, c] ∧ (∀ u, RelV c u → u = cv) ∧ PySem.W.kitOne K (.ref D) cv = some b ∧ Q (.bl b) H
theorem call_isP (C : ExcC X.K D) (hp : (a, oe) ∈ X.pn) (hz : Zc (.ref D) d oe) (hf : ∃ vs, oe.data = .fields vs) : CallR X (.builtin "isinstance") (rIsP X.K D a d) := by
  intro pins s σ H xs us Q I r h
  obtain ⟨hd, c, cv, b, rfl, hcv, e, q⟩ := h
  obtain ⟨u1, u2, rfl, r1, r2⟩ := vals2 r
  obtain rfl : u1 = Value.ref a := r1
  obtain rfl := hcv _ r2
  obtain ⟨od, J⟩ := err_at I hp hz hf hd
  exact PySem.W.kia_one (PySem.W.kb_kitx C) I.kIn J e (fun z => nomatch z) fun tk => ⟨.bl b, H, I.kept (t' := tk) fun _ _ z => z, rfl, q⟩
/-- e.f -/
def tXp (a : Addr) (d : Option Addr) (f : Str) (te : TE) : TE := fun σ H Q => te σ H fun x H1 => x = .ref a ∧ ∃ (dd : Addr) (fs : List (Str × V)) (v : V), d = some dd ∧ H1 dd = some (.xd fs) ∧ fs.lookup f = some v ∧ Q v H1
theorem pe_xp {e : Expr} {te : TE} {pos : Pos} {n : Str} (T : XfC X.K D) (hno : PySem.W.findIn X.K (.ref D) n = some none) (hp : (a, oe) ∈ X.pn) (hz : Zc (.ref D) d oe) (hf : ∃ vs, oe.data = .fields vs) (he : PE X e te)
    (hb : attributeBase e n X.env (eval e X.env) = eval e X.env := by rfl) : PE X (.Attribute e n pos) (tXp a d n te) := by
  refine ⟨fun pins s σ H Q I h => ?_⟩
  refine attr_of hb (thn (he.run pins s σ H _ I h) fun u s1 ⟨x, H1, I1, rx, ex, dd, fs, v, ed, ea, l, q⟩ => ?_)
  subst ex ed
  obtain rfl : u = Value.ref a := rx
  obtain ⟨hget, _⟩ := I1.pin (a, oe) (List.mem_append_left _ hp)
  obtain ⟨vs, hv⟩ := hf
  obtain ⟨mA, hns, hr⟩ := (show ObjOk X.prog X.w H1 s1.heap dd (.xd fs) from I1.hok dd _ ea)
  obtain ⟨od, ho, hl⟩ := lookIn_ns hns
  obtain ⟨u, hu, ru⟩ := RelO.some_of (v := v) (o := mA n) (by rw [← l]; exact hr n)
  have J : PySem.W.InstAt s1.heap a oe D (some od) := ⟨hget, hz.1, by unfold PySem.W.notCls; rw [hv] <;> rfl, by rw [hz.2]; exact ho⟩
  exact PySem.HandSPX.exc_get I1.kIn J T.ga T.gg T.exC (PySem.W.findObj_own T.hdC hno rfl (by rw [hl, hu])) (handed_of ru) ⟨v, H1, I1.tok _, ru, q⟩
end
end KB
end
section
set_option Elab.async false
set_option linter.all false
set_option maxRecDepth 100000
set_option maxHeartbeats 4000000
/-! a def called while an error is handled: _law_slip -/
namespace KB
open PySem PySem.Spec PyProof.Rows L2 L2H
theorem mt_countB {X : Cx} : MtR X "list.count" (fun x xs H Q => ∃ (p : Addr) (bs : List Bool) (k : Bool), x = .ref p ∧ xs = [.bl k] ∧ SqL X.K H p (bs.map V.bl) ∧ Q (.int (countIn (.bool k) (bs.map PyData.bool))) H) := by
  intro pins s σ H x xs v us Q I rx rxs h
  obtain ⟨p, bs, k, rfl, rfl, hs, q⟩ := h
  obtain rfl : v = Value.ref p := rx
  obtain ⟨u, rfl, ru⟩ := rxs.one
  obtain rfl : u = Value.bool k := ru
  obtain ⟨its, rv, hl, _⟩ := I.list hs
  obtain ⟨as, ra⟩ := Dp.readsAll I _ _ _ (dp_bools bs) rv
  refine count_list_bools (k := k) hl.isList ra ?_ ⟨.int _, H, I.tok _, ⟨_, rfl⟩, q⟩
  rw [List.all_map]
  exact List.all_eq_true.mpr fun b _ => rfl
/-- a def that is called with the error that is handled -/
structure FnP (P : Program) (w : World) (K : PySem.W.Frag) (mg : Str → Option Value) (base : Heap) (k : Nat) (f : Addr) (fd : FuncData) (ps : List Str) (sp : Addr → Value → Option Addr → Sp) : Prop where
  len : ∀ a cls d vs H Q E, sp a cls d vs H Q E → vs.length = ps.length
  run : ∀ (A : Around) (outer : List Env) (s : Shared) (H : Hp) (args : Args) (us : List Value) (vs : List V) (Q : VK) (E : XK) (a : Addr) (oe : Obj) (cls : Value) (d : Option Addr), RoomH k A → Hot1 A (a, oe) → L2N.Zn cls d oe → PinOk outer H s (a, oe) → Env0 P w K mg base A outer s H →
    BindsTo s fd args (ps.zip us) → Vals vs us → sp a cls d vs H Q E → codeAny (model P w) A (.call (.ref f) args) (CR CX0 outer P w H s Q E) s
theorem FnF.hot {P : Program} {w : World} {K : PySem.W.Frag} {mg : Str → Option Value} {base : Heap} {x : Str} {st : Stmt} {ps N : List Str} {k : Nat} {sp : Addr → Value → Option Addr → Sp} (F : FnF K mg x st ps) (S : FnScope N ps (defScope st))
    (len : ∀ a cls d vs H Q E, sp a cls d vs H Q E → vs.length = ps.length)
    (hbody : ∀ (cdv : Value) (A : Around) (outer : List Env) (s : Shared) (H : Hp) (vs : List V) (Q : VK) (E : XK) (a : Addr) (oe : Obj) (cls : Value) (d : Option Addr), Hot1 A (a, oe) → L2N.Zn cls d oe → RoomH k (A.deeper (envOfC x (defScope st) s.heap.objs.size (He.ga K x) cdv)) → sp a cls d vs H Q E →
      ∃ t, PSs (cxH CX0 P w K mg base N x (defScope st) (He.ga K x) cdv A outer s H E (a, oe)) (defBody st) t ∧ t { nx := fun _ H' => Q .non H', rt := Q } (L2.start N vs) H) :
    ∃ fd, FnP P w K mg base (k + 1) (He.ga K x) fd ps sp ∧ Binds K fd ps [] ∧ PySem.W.keepIn K (.ref (He.ga K x)) = true := by
  obtain ⟨fd, G, b⟩ := F.ex
  obtain ⟨⟨oc, od, kV, doc, pm, an, cdv, ct, osl, rfl, lk, hcd⟩, kp⟩ := G
  refine ⟨_, ⟨len, fun A outer s H args us vs Q E a oe cls d hr hot hz hpin e0 hb r hsp => ?_⟩, b, kp⟩
  have hl := len _ _ _ _ _ _ _ hsp
  have KX : K.In s.heap := e0.mod.kin.keeps fun b o e => (e0.bs b o e).1
  have kinds : ∀ y ∈ ps.zip us, (defScope st).names.lookup y.1 = some .local ∨ ((defScope st).names.lookup y.1 = some .cell ∧ ((cellsFrom (s.heap.objs.size + 1) (defScope st).names []).lookup y.1).isSome = true) := fun ⟨n, v⟩ hy =>
    (S.par n (List.of_mem_zip hy).1).elim .inl fun q => .inr ⟨q, PySem.W.cellsFrom_some _ _ _ (.inl q)⟩
  refine codeAny_call_function hr.depth (KX _ _ lk) rfl S.co S.gen rfl (PySem.W.codeRec_of KX hcd) (hb _ _ _ _ (wpAny_newFunctionEnv_cells S.kind kinds fun env he s1 x => ?_))
  subst he
  refine ⟨(e0.mod.nolimit.keeps fun b o e => (e0.bs b o e).1).keeps x.toInCall.keep, codeAny_func ?_⟩
  obtain ⟨t, ht, hq⟩ := hbody cdv A outer s H vs Q E a oe cls d hot hz (hr.deeper _) hsp
  refine wpAny_mono (ht.run [] s1 (L2.start N vs) H _ (inv_startH S hpin e0 hl r x) hq) (fun fl s' hs => ?_) fun e s' hs => hs
  cases fl with
  | ret u =>
    obtain ⟨v, σ', H', J, rv, q⟩ := hs
    exact ⟨v, H', J.os, J.bare, J.base, J.hok, rv, q⟩
  | next =>
    obtain ⟨σ', H', J, q⟩ := hs
    exact ⟨V.non, H', J.os, J.bare, J.base, J.hok, rfl, q⟩
  | brk =>
    obtain ⟨_, _, _, q⟩ := hs
    exact q.elim
  | cont =>
    obtain ⟨_, _, _, q⟩ := hs
    exact q.elim
/-- the call, in the except suite -/
theorem pe_callP {X : Cx} {k : Nat} {f a : Addr} {oe : Obj} {cls : Value} {d : Option Addr} {fd : FuncData} {ps : List Str} {sp : Addr → Value → Option Addr → Sp} {x : Str} {q pos : Pos} {e : Expr} {es : List Expr} {t : TA} (F : FnP X.prog X.w X.K X.mg X.base k f fd ps sp) (hr : RoomH k X.A)
    (hot : Hot1 X.A (a, oe)) (hz : L2N.Zn cls d oe) (hp : (a, oe) ∈ X.pn) (hg : Gl X x) (hm : X.mg x = some (.ref f)) (hk : PySem.W.keepIn X.K (.ref f) = true) (hb : Binds X.K fd ps []) (ha : PA X (e :: es) t) (hdb : (x == ("__debug__" : Str)) = false := by decide)
    (he : starEach (e :: es) X.env = (false, eval e X.env) :: starEach es X.env := by rfl) (hpl : (backTo pos (starEach es X.env)).any (·.1) = false := by rfl) :
    PE X (.Call (.Name x q) (e :: es) [] pos) (tCall (sp a cls d) [] (fun _ _ _ => False) t) := by
  refine ⟨fun pins s σ H Q I h => ?_⟩
  refine wpAny_Call_Name_kw (ld_glob I hg hm ?_ hdb)
  refine PySem.W.callWith_K (h₀ := X.base) I.ok.mod.kin hk (thn (ha.run pos pins s σ H _ I h) fun us s1 ⟨vs, H1, I1, r, q1⟩ => ⟨I1.kIn, ?_⟩) he hpl
  show wpAny _ _ (call (.ref f) us) _ _ _
  have q1 : sp a cls d (vs ++ []) H1 Q fun _ _ _ => False := q1
  rw [List.append_nil] at q1
  have hl : us.length = ps.length := by rw [← r.length]; exact F.len _ _ _ _ _ _ _ q1
  have bt := hb s1 us I1.kIn (by rw [List.append_nil]; exact hl)
  rw [List.append_nil] at bt
  have pin := I1.pin (a, oe) (List.mem_append_left _ hp)
  have hpin : PinOk X.stack H1 s1 (a, oe) := ⟨pin.1, pin.2.1, fun hm => (List.mem_cons.mp (I1.stkSub a hm)).elim pin.2.2.1 pin.2.2.2.1, pin.2.2.2.2⟩
  refine wpAny_call (codeAny_mono (F.run X.A X.stack s1 H1 ⟨us, []⟩ us vs Q _ a oe cls d hr hot hz hpin I1.env0 bt r q1) fun r s' hq => ?_)
  cases r with
  | error e => exact hq.elim
  | ok fl =>
    cases fl with
    | ret u => exact I1.after hq
    | next => exact hq.elim
    | brk => exact hq.elim
    | cont => exact hq.elim
end KB
end
section
set_option Elab.async false
set_option linter.all false
set_option maxRecDepth 100000
set_option maxHeartbeats 4000000
/-! what is told of a caught error -/
namespace KB
open PySem PySem.Spec PyProof.Rows L2 L2H KM
section
variable {K : PySem.W.Frag} {mg : Str → Option Value}
theorem ErAll.excC (W : Wd K mg) {e : Er} (a : ErAll K e) : ExcC K (He.ga K e.nm) := by
  have z := a.b
  unfold erB at z
  obtain ⟨_, z⟩ := He.ba z
  obtain ⟨_, z⟩ := He.ba z
  obtain ⟨h3, z⟩ := He.ba z
  obtain ⟨_, z⟩ := He.ba z
  obtain ⟨h5, z⟩ := He.ba z
  obtain ⟨_, z⟩ := He.ba z
  obtain ⟨_, z⟩ := He.ba z
  obtain ⟨h8, z⟩ := He.ba z
  obtain ⟨h9, z⟩ := He.ba z
  obtain ⟨_, z⟩ := He.ba z
  obtain ⟨_, z⟩ := He.ba z
  obtain ⟨h12, h13⟩ := He.ba z
  have m := W.exAll.2.2.1
  unfold miscB at m
  obtain ⟨m1, m⟩ := He.ba m
  obtain ⟨m2, _⟩ := He.ba m
  exact ⟨He.eqO_ok h8, He.eqO_ok h9, of_decide_eq_true h3, h5, He.eqO_ok h12, of_decide_eq_true m1, of_decide_eq_true m2, of_decide_eq_true h13⟩
theorem ErAll.xfc (W : Wd K mg) {e : Er} (a : ErAll K e) : XfC K (He.ga K e.nm) :=
  let c := a.excC W
  ⟨c.hg, c.hk, c.hs, c.hd⟩
theorem optEq_ok {a b : Option Bool} (h : optEq a b = true) : a = b := of_decide_eq_true h
structure Kit (K : PySem.W.Frag) (e : Er) : Prop where
  c1 : PySem.W.exmOne K (.ref (He.ga K e.nm)) (.ref (He.ga K "WrongValue")) = some (fam e).1
  c2 : PySem.W.exmOne K (.ref (He.ga K e.nm)) (.ref (He.ga K "WrongName")) = some (fam e).2.1
  c3 : PySem.W.exmOne K (.ref (He.ga K e.nm)) (.ref (He.ga K "NoAnswer")) = some (fam e).2.2
  k1 : PySem.W.kitOne K (.ref (He.ga K e.nm)) (.ref (He.ga K "WrongValue")) = some (fam e).1
  k2 : PySem.W.kitOne K (.ref (He.ga K e.nm)) (.ref (He.ga K "WrongName")) = some (fam e).2.1
  k3 : PySem.W.kitOne K (.ref (He.ga K e.nm)) (.ref (He.ga K "NoAnswer")) = some (fam e).2.2
  b1 : PySem.W.kitOne K (.ref (He.ga K e.nm)) (sv "ValueError") = some (fam e).1
  b2 : PySem.W.kitOne K (.ref (He.ga K e.nm)) (sv "LookupError") = some (fam e).2.1
  b3 : PySem.W.kitOne K (.ref (He.ga K e.nm)) (sv "ArithmeticError") = some (fam e).2.2
  each : ∀ f ∈ ers, PySem.W.kitOne K (.ref (He.ga K e.nm)) (.ref (He.ga K f.nm)) = some (decide (e.nm = f.nm))
theorem ErAll.kit {e : Er} (a : ErAll K e) : Kit K e := by
  have z := a.m
  unfold erM at z
  obtain ⟨h1, z⟩ := He.ba z
  obtain ⟨h2, z⟩ := He.ba z
  obtain ⟨h3, z⟩ := He.ba z
  obtain ⟨h4, z⟩ := He.ba z
  obtain ⟨h5, z⟩ := He.ba z
  obtain ⟨h6, z⟩ := He.ba z
  obtain ⟨h7, z⟩ := He.ba z
  obtain ⟨h8, z⟩ := He.ba z
  obtain ⟨h9, z⟩ := He.ba z
  exact ⟨optEq_ok h1, optEq_ok h2, optEq_ok h3, optEq_ok h4, optEq_ok h5, optEq_ok h6, optEq_ok h7, optEq_ok h8, optEq_ok h9, fun f hf => optEq_ok (List.all_eq_true.mp z f hf)⟩
/-- a caught error, what is told of it -/
inductive Slip (K : PySem.W.Frag) (H : Hp) : Value → Option Addr → List Str → Prop
  | idx (dd : Addr) (n : Nat) (h : H dd = some (.xd [("given", .int n)])) (hn : n ≤ 200) : Slip K H (.ref (He.ga K erIdx.nm)) (some dd) ["InvalidIndex", nText n]
  | unk (dd : Addr) (a : Str) (h : H dd = some (.xd [("given", .str a)])) (hn : a ∈ titles) : Slip K H (.ref (He.ga K erUnk.nm)) (some dd) ["UnknownName", reprText a]
  | brk (dd : Addr) (n : Nat) (h : H dd = some (.xd [("index", .int n)])) (hn : n ≤ 200) : Slip K H (.ref (He.ga K erBro.nm)) (some dd) ["Broken", nText n]
  | use (dd : Addr) (n : Nat) (h : H dd = some (.xd [("index", .int n)])) (hn : n ≤ 200) : Slip K H (.ref (He.ga K erUse.nm)) (some dd) ["InUse", nText n]
  | not : Slip K H (.ref (He.ga K erNot.nm)) none ["NothingToUndo"]
theorem iteBT {b : Bool} {A B : Prop} (h : b = true) (q : A) : if b = true then A else B := by rw [if_pos h]; exact q
theorem log_small {n : Nat} (h : n ≤ 200) : (n : Int).natAbs.log2 < 1920 := by
  rw [Int.natAbs_natCast]
  exact Nat.lt_of_le_of_lt (Nat.log2_le_self n) (by omega)
variable {P : Program} {w : World} {base : Heap}
def spSlip (K : PySem.W.Frag) (a : Addr) (cls : Value) (d : Option Addr) : Sp := fun vs H Q _ => ∃ ts, vs = [.ref a] ∧ Slip K H cls d ts ∧ ∀ p H', Same H H' → H p = none → H' p = some (.lst (ts.map V.str)) → Q (.ref p) H'
theorem ok__law_slip (W : Wd K mg) : ∃ fd, FnP P w K mg base 1 (He.ga K "_law_slip") fd ["_law_e"] (spSlip K) ∧ Binds K fd ["_law_e"] [] ∧ PySem.W.keepIn K (.ref (He.ga K "_law_slip")) = true := by
  refine (fn__law_slip W).hot sc__law_slip (fun a cls d vs H Q E h => ?_) (fun cdv A outer s H vs Q E a oe cls d hot hz hr h => ?_)
  · obtain ⟨ts, rfl, _⟩ := h
    rfl
  · obtain ⟨ts, rfl, hs, k⟩ := h
    have hU : (A.deeper (envOfC "_law_slip" (defScope s__law_slip) s.heap.objs.size (He.ga K "_law_slip") cdv)).units + 64 < cLine := by
      have := hr.un
      omega
    have hotc : HotC (cxH CX0 P w K mg base n__law_slip "_law_slip" (defScope s__law_slip) (He.ga K "_law_slip") cdv A outer s H E (a, oe)) := ⟨(a, oe), hot, List.mem_cons_self⟩
    have hf : ∃ vs, oe.data = .fields vs := by
      obtain ⟨_, vs, e, _⟩ := hot
      exact ⟨vs, e⟩
    cases hs with
    | idx dd n hx hn =>
      have a : ErAll K erIdx := W.er (by unfold ers; simp)
      have kt := a.kit
      have hd : ∀ {H' : Hp}, Same H H' → H' dd = some (.xd [("given", .int n)]) := fun s => s _ _ hx
      have dct : ∀ {H' : Hp}, Same H H' → Dct H' (some dd) := fun s => ⟨_, s _ _ hx⟩
      refine ⟨_, (pss_cons (ps_set (i := 1) sc__law_slip.nd rfl (.inl rfl) (pe_lst (pa_cons (pe_callB (call_isP (D := He.ga K erIdx.nm) (a.excC W) List.mem_cons_self hz.zc hf) rfl (fr_isinstance W) (by decide +kernel) (pa_cons (pv 0) (pa_cons (pe_glob rfl (gl_WrongValue W) (show RelV (.ref (He.ga K "WrongValue")) (.ref (He.ga K "WrongValue")) from rfl)) pa_nil))) (pa_cons (pe_callB (call_isP (D := He.ga K erIdx.nm) (a.excC W) List.mem_cons_self hz.zc hf) rfl (fr_isinstance W) (by decide +kernel) (pa_cons (pv 0) (pa_cons (pe_glob rfl (gl_WrongName W) (show RelV (.ref (He.ga K "WrongName")) (.ref (He.ga K "WrongName")) from rfl)) pa_nil))) (pa_cons (pe_callB (call_isP (D := He.ga K erIdx.nm) (a.excC W) List.mem_cons_self hz.zc hf) rfl (fr_isinstance W) (by decide +kernel) (pa_cons (pv 0) (pa_cons (pe_glob rfl (gl_NoAnswer W) (show RelV (.ref (He.ga K "NoAnswer")) (.ref (He.ga K "NoAnswer")) from rfl)) pa_nil))) pa_nil)))))
      (pss_cons (ps_parH (i := 2) (j := 3) hotc sc__law_slip.nd rfl rfl (by decide) rfl rfl (pa_cons (pe_lst (pa_cons (pe_callB (call_isP (D := He.ga K erIdx.nm) (a.excC W) List.mem_cons_self hz.zc hf) rfl (fr_isinstance W) (by decide +kernel) (pa_cons (pv 0) (pa_cons (pe_bltn rfl (fr_ValueError W) (by decide +kernel) (show RelV (.ty "ValueError") (.type "ValueError") from rfl)) pa_nil))) (pa_cons (pe_callB (call_isP (D := He.ga K erIdx.nm) (a.excC W) List.mem_cons_self hz.zc hf) rfl (fr_isinstance W) (by decide +kernel) (pa_cons (pv 0) (pa_cons (pe_bltn rfl (fr_LookupError W) (by decide +kernel) (show RelV (.ty "LookupError") (.type "LookupError") from rfl)) pa_nil))) (pa_cons (pe_callB (call_isP (D := He.ga K erIdx.nm) (a.excC W) List.mem_cons_self hz.zc hf) rfl (fr_isinstance W) (by decide +kernel) (pa_cons (pv 0) (pa_cons (pe_bltn rfl (fr_ArithmeticError W) (by decide +kernel) (show RelV (.ty "ArithmeticError") (.type "ArithmeticError") from rfl)) pa_nil))) pa_nil)))) (pa_cons (pe_lst pa_nil) pa_nil)) (by rfl))
      (pss_cons (ps_if (pt_val (pe_callB (call_isP (D := He.ga K erIdx.nm) (a.excC W) List.mem_cons_self hz.zc hf) rfl (fr_isinstance W) (by decide +kernel) (pa_cons (pv 0) (pa_cons (pe_glob rfl (gl_Broken W) (show RelV (.ref (He.ga K "Broken")) (.ref (He.ga K "Broken")) from rfl)) pa_nil)))) (pss_one (ps_expr (pe_bm PySem.F.plainAttrs_list PySem.F.slot_list_append PySem.F.type_list_append mt_append (pv 3) (pa_cons (pe_lst (pa_cons pe_str (pa_cons (pe_callB call_reprX rfl (fr_repr W) (by decide +kernel) (pa_cons (pe_xp (D := He.ga K erIdx.nm) (a.xfc W) a.no.2 List.mem_cons_self hz.zc hf (pv 0)) pa_nil)) pa_nil))) pa_nil)))) pss_nil)
      (pss_cons (ps_if (pt_val (pe_callB (call_isP (D := He.ga K erIdx.nm) (a.excC W) List.mem_cons_self hz.zc hf) rfl (fr_isinstance W) (by decide +kernel) (pa_cons (pv 0) (pa_cons (pe_glob rfl (gl_InUse W) (show RelV (.ref (He.ga K "InUse")) (.ref (He.ga K "InUse")) from rfl)) pa_nil)))) (pss_one (ps_expr (pe_bm PySem.F.plainAttrs_list PySem.F.slot_list_append PySem.F.type_list_append mt_append (pv 3) (pa_cons (pe_lst (pa_cons pe_str (pa_cons (pe_callB call_reprX rfl (fr_repr W) (by decide +kernel) (pa_cons (pe_xp (D := He.ga K erIdx.nm) (a.xfc W) a.no.2 List.mem_cons_self hz.zc hf (pv 0)) pa_nil)) pa_nil))) pa_nil)))) pss_nil)
      (pss_cons (ps_if (pt_val (pe_callB (call_isP (D := He.ga K erIdx.nm) (a.excC W) List.mem_cons_self hz.zc hf) rfl (fr_isinstance W) (by decide +kernel) (pa_cons (pv 0) (pa_cons (pe_glob rfl (gl_InvalidIndex W) (show RelV (.ref (He.ga K "InvalidIndex")) (.ref (He.ga K "InvalidIndex")) from rfl)) pa_nil)))) (pss_one (ps_expr (pe_bm PySem.F.plainAttrs_list PySem.F.slot_list_append PySem.F.type_list_append mt_append (pv 3) (pa_cons (pe_lst (pa_cons pe_str (pa_cons (pe_callB call_reprX rfl (fr_repr W) (by decide +kernel) (pa_cons (pe_xp (D := He.ga K erIdx.nm) (a.xfc W) a.no.1 List.mem_cons_self hz.zc hf (pv 0)) pa_nil)) pa_nil))) pa_nil)))) pss_nil)
      (pss_cons (ps_if (pt_val (pe_callB (call_isP (D := He.ga K erIdx.nm) (a.excC W) List.mem_cons_self hz.zc hf) rfl (fr_isinstance W) (by decide +kernel) (pa_cons (pv 0) (pa_cons (pe_glob rfl (gl_NothingToUndo W) (show RelV (.ref (He.ga K "NothingToUndo")) (.ref (He.ga K "NothingToUndo")) from rfl)) pa_nil)))) (pss_one (ps_expr (pe_bm PySem.F.plainAttrs_list PySem.F.slot_list_append PySem.F.type_list_append mt_append (pv 3) (pa_cons (pe_lst (pa_cons pe_str pa_nil)) pa_nil)))) pss_nil)
      (pss_cons (ps_if (pt_val (pe_callB (call_isP (D := He.ga K erIdx.nm) (a.excC W) List.mem_cons_self hz.zc hf) rfl (fr_isinstance W) (by decide +kernel) (pa_cons (pv 0) (pa_cons (pe_glob rfl (gl_UnknownName W) (show RelV (.ref (He.ga K "UnknownName")) (.ref (He.ga K "UnknownName")) from rfl)) pa_nil)))) (pss_one (ps_expr (pe_bm PySem.F.plainAttrs_list PySem.F.slot_list_append PySem.F.type_list_append mt_append (pv 3) (pa_cons (pe_lst (pa_cons pe_str (pa_cons (pe_callB call_reprX rfl (fr_repr W) (by decide +kernel) (pa_cons (pe_xp (D := He.ga K erIdx.nm) (a.xfc W) a.no.1 List.mem_cons_self hz.zc hf (pv 0)) pa_nil)) pa_nil))) pa_nil)))) pss_nil)
      (pss_one (ps_ret (pe_ifExp (PW.pt (pw_and (pt_cmpR op_eq (pe_callB call_len rfl (fr_len W) (by decide +kernel) (pa_cons (pv 3) pa_nil)) pe_int (nomark _)) (pw_and (pt_cmpR (op_eqD hU) (pv 1) (pv 2) (nomark _)) (pw_and1 (pt_cmpR op_eq (pe_bm PySem.F.plainAttrs_list PySem.F.slot_list_count PySem.F.type_list_count mt_countB (pv 1) (pa_cons pe_bl pa_nil)) pe_int (nomark _)))))) (pe_ix ix_list (pv 3) pe_int (fun _ _ => rfl)) (pe_lst (pa_cons pe_str pa_nil)))))))))))), ?_⟩
      refine ⟨_, rfl, dct (Same.refl _), _, _, _, rfl, fun u h => h, kt.k1, _, rfl, dct (Same.refl _), _, _, _, rfl, fun u h => h, kt.k2, _, rfl, dct (Same.refl _), _, _, _, rfl, fun u h => h, kt.k3, by show 3 ≤ sizeLine; decide, fun p1 h1 => ?_⟩
      have s1 := same_new (o := .lst [.bl (fam erIdx).1, .bl (fam erIdx).2.1, .bl (fam erIdx).2.2]) h1
      refine ⟨_, rfl, dct s1, _, _, _, rfl, fun u h => h, kt.b1, _, rfl, dct s1, _, _, _, rfl, fun u h => h, kt.b2, _, rfl, dct s1, _, _, _, rfl, fun u h => h, kt.b3, by show 3 ≤ sizeLine; decide, fun p2 h2 => ⟨by show 0 ≤ sizeLine; decide, fun p3 h3 => ⟨_, _, rfl, ?_⟩⟩⟩
      have s2 := s1.trans (same_new (o := .lst [.bl (fam erIdx).1, .bl (fam erIdx).2.1, .bl (fam erIdx).2.2]) h2)
      have s3 := s2.trans (same_new (o := .lst []) h3)
      have l1 := same_new (o := .lst []) h3 _ _ (same_new (o := .lst [.bl (fam erIdx).1, .bl (fam erIdx).2.1, .bl (fam erIdx).2.2]) h2 _ _ upd_same)
      have l2 := same_new (o := .lst []) h3 _ _ (upd_same (H := upd H p1 (.lst [.bl (fam erIdx).1, .bl (fam erIdx).2.1, .bl (fam erIdx).2.2])) (a := p2) (o := .lst [.bl (fam erIdx).1, .bl (fam erIdx).2.1, .bl (fam erIdx).2.2]))
      have l3 : upd (upd (upd H p1 (.lst [.bl (fam erIdx).1, .bl (fam erIdx).2.1, .bl (fam erIdx).2.2])) p2 (.lst [.bl (fam erIdx).1, .bl (fam erIdx).2.1, .bl (fam erIdx).2.2])) p3 (.lst []) p3 = some (.lst []) := upd_same
      have f3 : H p3 = none := s2.free h3
      generalize upd (upd (upd H p1 (.lst [.bl (fam erIdx).1, .bl (fam erIdx).2.1, .bl (fam erIdx).2.2])) p2 (.lst [.bl (fam erIdx).1, .bl (fam erIdx).2.1, .bl (fam erIdx).2.2])) p3 (.lst []) = H3 at s3 l1 l2 l3
      refine ⟨_, rfl, dct s3, _, _, _, rfl, fun u h => h, kt.each erBro (by unfold ers; simp), _, rfl, iteDF (by decide +kernel) ?_⟩
      refine ⟨_, rfl, dct s3, _, _, _, rfl, fun u h => h, kt.each erUse (by unfold ers; simp), _, rfl, iteDF (by decide +kernel) ?_⟩
      refine ⟨_, rfl, dct s3, _, _, _, rfl, fun u h => h, kt.each erIdx (by unfold ers; simp), _, rfl, iteD rfl ⟨_, rfl, .inl ⟨rfl, _, .of l3⟩, _, rfl, rfl, dd, _, _, rfl, hd s3, rfl, .inl ⟨n, rfl, log_small hn, by show 2 ≤ sizeLine; decide, fun p4 h4 => ⟨p3, _, _, rfl, rfl, same_new h4 _ _ l3, (by show 0 < sizeLine; decide), ?_⟩⟩⟩⟩
      have nl : p3 ≠ p4 := fun z => by rw [z, h4] at l3; cases l3
      have f4 : H p4 = none := s3.free h4
      have n1 : p1 ≠ p3 := fun z => by rw [z, l3] at l1; cases l1
      have n2 : p2 ≠ p3 := fun z => by rw [z, l3] at l2; cases l2
      have s4 : Same H (upd (upd H3 p4 (.lst [.str "InvalidIndex", .str (toString (n : Int))])) p3 (.lst ([] ++ [.ref p4]))) := same_mut (s3.trans (same_new h4)) f3
      have m1 : upd (upd H3 p4 (.lst [.str "InvalidIndex", .str (toString (n : Int))])) p3 (.lst ([] ++ [.ref p4])) p1 = _ := (upd_ne n1).trans (same_new h4 _ _ l1)
      have m2 : upd (upd H3 p4 (.lst [.str "InvalidIndex", .str (toString (n : Int))])) p3 (.lst ([] ++ [.ref p4])) p2 = _ := (upd_ne n2).trans (same_new h4 _ _ l2)
      have m3 : upd (upd H3 p4 (.lst [.str "InvalidIndex", .str (toString (n : Int))])) p3 (.lst ([] ++ [.ref p4])) p3 = some (.lst [.ref p4]) := upd_same
      have m4 : upd (upd H3 p4 (.lst [.str "InvalidIndex", .str (toString (n : Int))])) p3 (.lst ([] ++ [.ref p4])) p4 = some (.lst [.str "InvalidIndex", .str (toString (n : Int))]) := (upd_ne nl.symm).trans upd_same
      generalize upd (upd H3 p4 (.lst [.str "InvalidIndex", .str (toString (n : Int))])) p3 (.lst ([] ++ [.ref p4])) = H4 at s4 m1 m2 m3 m4
      refine ⟨_, rfl, dct s4, _, _, _, rfl, fun u h => h, kt.each erNot (by unfold ers; simp), _, rfl, iteDF (by decide +kernel) ?_⟩
      refine ⟨_, rfl, dct s4, _, _, _, rfl, fun u h => h, kt.each erUnk (by unfold ers; simp), _, rfl, iteDF (by decide +kernel) ?_⟩
      refine ⟨_, rfl, _, 1, rfl, .inl ⟨_, .of m3, rfl⟩, rfl, _, rfl, iteD rfl ?_⟩
      refine ⟨_, rfl, _, rfl, _, _, .lst (.of m1) (dp_bools [(fam erIdx).1, (fam erIdx).2.1, (fam erIdx).2.2]), .lst (.of m2) (dp_bools [(fam erIdx).1, (fam erIdx).2.1, (fam erIdx).2.2]), (fits_list (fits_bools _)).shaped (by decide), (fits_list (fits_bools _)).shaped (by decide), _, rfl, ?_⟩
      refine iteBT (by decide +kernel) ⟨_, rfl, .inl ⟨rfl, _, .of m1⟩, p1, [(fam erIdx).1, (fam erIdx).2.1, (fam erIdx).2.2], true, rfl, rfl, .of m1, rfl, _, rfl, iteBT (by decide +kernel) ?_⟩
      exact ⟨_, rfl, _, _, _, _, rfl, rfl, .of m3, atI_nat (j := 0) rfl, k p4 H4 s4 f4 m4⟩
    | unk dd nm hx hn =>
      have a : ErAll K erUnk := W.er (by unfold ers; simp)
      have kt := a.kit
      have hd : ∀ {H' : Hp}, Same H H' → H' dd = some (.xd [("given", .str nm)]) := fun s => s _ _ hx
      have dct : ∀ {H' : Hp}, Same H H' → Dct H' (some dd) := fun s => ⟨_, s _ _ hx⟩
      refine ⟨_, (pss_cons (ps_set (i := 1) sc__law_slip.nd rfl (.inl rfl) (pe_lst (pa_cons (pe_callB (call_isP (D := He.ga K erUnk.nm) (a.excC W) List.mem_cons_self hz.zc hf) rfl (fr_isinstance W) (by decide +kernel) (pa_cons (pv 0) (pa_cons (pe_glob rfl (gl_WrongValue W) (show RelV (.ref (He.ga K "WrongValue")) (.ref (He.ga K "WrongValue")) from rfl)) pa_nil))) (pa_cons (pe_callB (call_isP (D := He.ga K erUnk.nm) (a.excC W) List.mem_cons_self hz.zc hf) rfl (fr_isinstance W) (by decide +kernel) (pa_cons (pv 0) (pa_cons (pe_glob rfl (gl_WrongName W) (show RelV (.ref (He.ga K "WrongName")) (.ref (He.ga K "WrongName")) from rfl)) pa_nil))) (pa_cons (pe_callB (call_isP (D := He.ga K erUnk.nm) (a.excC W) List.mem_cons_self hz.zc hf) rfl (fr_isinstance W) (by decide +kernel) (pa_cons (pv 0) (pa_cons (pe_glob rfl (gl_NoAnswer W) (show RelV (.ref (He.ga K "NoAnswer")) (.ref (He.ga K "NoAnswer")) from rfl)) pa_nil))) pa_nil)))))
      (pss_cons (ps_parH (i := 2) (j := 3) hotc sc__law_slip.nd rfl rfl (by decide) rfl rfl (pa_cons (pe_lst (pa_cons (pe_callB (call_isP (D := He.ga K erUnk.nm) (a.excC W) List.mem_cons_self hz.zc hf) rfl (fr_isinstance W) (by decide +kernel) (pa_cons (pv 0) (pa_cons (pe_bltn rfl (fr_ValueError W) (by decide +kernel) (show RelV (.ty "ValueError") (.type "ValueError") from rfl)) pa_nil))) (pa_cons (pe_callB (call_isP (D := He.ga K erUnk.nm) (a.excC W) List.mem_cons_self hz.zc hf) rfl (fr_isinstance W) (by decide +kernel) (pa_cons (pv 0) (pa_cons (pe_bltn rfl (fr_LookupError W) (by decide +kernel) (show RelV (.ty "LookupError") (.type "LookupError") from rfl)) pa_nil))) (pa_cons (pe_callB (call_isP (D := He.ga K erUnk.nm) (a.excC W) List.mem_cons_self hz.zc hf) rfl (fr_isinstance W) (by decide +kernel) (pa_cons (pv 0) (pa_cons (pe_bltn rfl (fr_ArithmeticError W) (by decide +kernel) (show RelV (.ty "ArithmeticError") (.type "ArithmeticError") from rfl)) pa_nil))) pa_nil)))) (pa_cons (pe_lst pa_nil) pa_nil)) (by rfl))
      (pss_cons (ps_if (pt_val (pe_callB (call_isP (D := He.ga K erUnk.nm) (a.excC W) List.mem_cons_self hz.zc hf) rfl (fr_isinstance W) (by decide +kernel) (pa_cons (pv 0) (pa_cons (pe_glob rfl (gl_Broken W) (show RelV (.ref (He.ga K "Broken")) (.ref (He.ga K "Broken")) from rfl)) pa_nil)))) (pss_one (ps_expr (pe_bm PySem.F.plainAttrs_list PySem.F.slot_list_append PySem.F.type_list_append mt_append (pv 3) (pa_cons (pe_lst (pa_cons pe_str (pa_cons (pe_callB call_reprX rfl (fr_repr W) (by decide +kernel) (pa_cons (pe_xp (D := He.ga K erUnk.nm) (a.xfc W) a.no.2 List.mem_cons_self hz.zc hf (pv 0)) pa_nil)) pa_nil))) pa_nil)))) pss_nil)
      (pss_cons (ps_if (pt_val (pe_callB (call_isP (D := He.ga K erUnk.nm) (a.excC W) List.mem_cons_self hz.zc hf) rfl (fr_isinstance W) (by decide +kernel) (pa_cons (pv 0) (pa_cons (pe_glob rfl (gl_InUse W) (show RelV (.ref (He.ga K "InUse")) (.ref (He.ga K "InUse")) from rfl)) pa_nil)))) (pss_one (ps_expr (pe_bm PySem.F.plainAttrs_list PySem.F.slot_list_append PySem.F.type_list_append mt_append (pv 3) (pa_cons (pe_lst (pa_cons pe_str (pa_cons (pe_callB call_reprX rfl (fr_repr W) (by decide +kernel) (pa_cons (pe_xp (D := He.ga K erUnk.nm) (a.xfc W) a.no.2 List.mem_cons_self hz.zc hf (pv 0)) pa_nil)) pa_nil))) pa_nil)))) pss_nil)
      (pss_cons (ps_if (pt_val (pe_callB (call_isP (D := He.ga K erUnk.nm) (a.excC W) List.mem_cons_self hz.zc hf) rfl (fr_isinstance W) (by decide +kernel) (pa_cons (pv 0) (pa_cons (pe_glob rfl (gl_InvalidIndex W) (show RelV (.ref (He.ga K "InvalidIndex")) (.ref (He.ga K "InvalidIndex")) from rfl)) pa_nil)))) (pss_one (ps_expr (pe_bm PySem.F.plainAttrs_list PySem.F.slot_list_append PySem.F.type_list_append mt_append (pv 3) (pa_cons (pe_lst (pa_cons pe_str (pa_cons (pe_callB call_reprX rfl (fr_repr W) (by decide +kernel) (pa_cons (pe_xp (D := He.ga K erUnk.nm) (a.xfc W) a.no.1 List.mem_cons_self hz.zc hf (pv 0)) pa_nil)) pa_nil))) pa_nil)))) pss_nil)
      (pss_cons (ps_if (pt_val (pe_callB (call_isP (D := He.ga K erUnk.nm) (a.excC W) List.mem_cons_self hz.zc hf) rfl (fr_isinstance W) (by decide +kernel) (pa_cons (pv 0) (pa_cons (pe_glob rfl (gl_NothingToUndo W) (show RelV (.ref (He.ga K "NothingToUndo")) (.ref (He.ga K "NothingToUndo")) from rfl)) pa_nil)))) (pss_one (ps_expr (pe_bm PySem.F.plainAttrs_list PySem.F.slot_list_append PySem.F.type_list_append mt_append (pv 3) (pa_cons (pe_lst (pa_cons pe_str pa_nil)) pa_nil)))) pss_nil)
      (pss_cons (ps_if (pt_val (pe_callB (call_isP (D := He.ga K erUnk.nm) (a.excC W) List.mem_cons_self hz.zc hf) rfl (fr_isinstance W) (by decide +kernel) (pa_cons (pv 0) (pa_cons (pe_glob rfl (gl_UnknownName W) (show RelV (.ref (He.ga K "UnknownName")) (.ref (He.ga K "UnknownName")) from rfl)) pa_nil)))) (pss_one (ps_expr (pe_bm PySem.F.plainAttrs_list PySem.F.slot_list_append PySem.F.type_list_append mt_append (pv 3) (pa_cons (pe_lst (pa_cons pe_str (pa_cons (pe_callB call_reprX rfl (fr_repr W) (by decide +kernel) (pa_cons (pe_xp (D := He.ga K erUnk.nm) (a.xfc W) a.no.1 List.mem_cons_self hz.zc hf (pv 0)) pa_nil)) pa_nil))) pa_nil)))) pss_nil)
      (pss_one (ps_ret (pe_ifExp (PW.pt (pw_and (pt_cmpR op_eq (pe_callB call_len rfl (fr_len W) (by decide +kernel) (pa_cons (pv 3) pa_nil)) pe_int (nomark _)) (pw_and (pt_cmpR (op_eqD hU) (pv 1) (pv 2) (nomark _)) (pw_and1 (pt_cmpR op_eq (pe_bm PySem.F.plainAttrs_list PySem.F.slot_list_count PySem.F.type_list_count mt_countB (pv 1) (pa_cons pe_bl pa_nil)) pe_int (nomark _)))))) (pe_ix ix_list (pv 3) pe_int (fun _ _ => rfl)) (pe_lst (pa_cons pe_str pa_nil)))))))))))), ?_⟩
      refine ⟨_, rfl, dct (Same.refl _), _, _, _, rfl, fun u h => h, kt.k1, _, rfl, dct (Same.refl _), _, _, _, rfl, fun u h => h, kt.k2, _, rfl, dct (Same.refl _), _, _, _, rfl, fun u h => h, kt.k3, by show 3 ≤ sizeLine; decide, fun p1 h1 => ?_⟩
      have s1 := same_new (o := .lst [.bl (fam erUnk).1, .bl (fam erUnk).2.1, .bl (fam erUnk).2.2]) h1
      refine ⟨_, rfl, dct s1, _, _, _, rfl, fun u h => h, kt.b1, _, rfl, dct s1, _, _, _, rfl, fun u h => h, kt.b2, _, rfl, dct s1, _, _, _, rfl, fun u h => h, kt.b3, by show 3 ≤ sizeLine; decide, fun p2 h2 => ⟨by show 0 ≤ sizeLine; decide, fun p3 h3 => ⟨_, _, rfl, ?_⟩⟩⟩
      have s2 := s1.trans (same_new (o := .lst [.bl (fam erUnk).1, .bl (fam erUnk).2.1, .bl (fam erUnk).2.2]) h2)
      have s3 := s2.trans (same_new (o := .lst []) h3)
      have l1 := same_new (o := .lst []) h3 _ _ (same_new (o := .lst [.bl (fam erUnk).1, .bl (fam erUnk).2.1, .bl (fam erUnk).2.2]) h2 _ _ upd_same)
      have l2 := same_new (o := .lst []) h3 _ _ (upd_same (H := upd H p1 (.lst [.bl (fam erUnk).1, .bl (fam erUnk).2.1, .bl (fam erUnk).2.2])) (a := p2) (o := .lst [.bl (fam erUnk).1, .bl (fam erUnk).2.1, .bl (fam erUnk).2.2]))
      have l3 : upd (upd (upd H p1 (.lst [.bl (fam erUnk).1, .bl (fam erUnk).2.1, .bl (fam erUnk).2.2])) p2 (.lst [.bl (fam erUnk).1, .bl (fam erUnk).2.1, .bl (fam erUnk).2.2])) p3 (.lst []) p3 = some (.lst []) := upd_same
      have f3 : H p3 = none := s2.free h3
      generalize upd (upd (upd H p1 (.lst [.bl (fam erUnk).1, .bl (fam erUnk).2.1, .bl (fam erUnk).2.2])) p2 (.lst [.bl (fam erUnk).1, .bl (fam erUnk).2.1, .bl (fam erUnk).2.2])) p3 (.lst []) = H3 at s3 l1 l2 l3
      refine ⟨_, rfl, dct s3, _, _, _, rfl, fun u h => h, kt.each erBro (by unfold ers; simp), _, rfl, iteDF (by decide +kernel) ?_⟩
      refine ⟨_, rfl, dct s3, _, _, _, rfl, fun u h => h, kt.each erUse (by unfold ers; simp), _, rfl, iteDF (by decide +kernel) ?_⟩
      refine ⟨_, rfl, dct s3, _, _, _, rfl, fun u h => h, kt.each erIdx (by unfold ers; simp), _, rfl, iteDF (by decide +kernel) ?_⟩
      refine ⟨_, rfl, dct s3, _, _, _, rfl, fun u h => h, kt.each erNot (by unfold ers; simp), _, rfl, iteDF (by decide +kernel) ?_⟩
      refine ⟨_, rfl, dct s3, _, _, _, rfl, fun u h => h, kt.each erUnk (by unfold ers; simp), _, rfl, iteD rfl ⟨_, rfl, .inl ⟨rfl, _, .of l3⟩, _, rfl, rfl, dd, _, _, rfl, hd s3, rfl, .inr ⟨nm, rfl, title_repr hn, by show 2 ≤ sizeLine; decide, fun p4 h4 => ⟨p3, _, _, rfl, rfl, same_new h4 _ _ l3, (by show 0 < sizeLine; decide), ?_⟩⟩⟩⟩
      have nl : p3 ≠ p4 := fun z => by rw [z, h4] at l3; cases l3
      have f4 : H p4 = none := s3.free h4
      have n1 : p1 ≠ p3 := fun z => by rw [z, l3] at l1; cases l1
      have n2 : p2 ≠ p3 := fun z => by rw [z, l3] at l2; cases l2
      have s4 : Same H (upd (upd H3 p4 (.lst [.str "UnknownName", .str (reprText nm)])) p3 (.lst ([] ++ [.ref p4]))) := same_mut (s3.trans (same_new h4)) f3
      have m1 : upd (upd H3 p4 (.lst [.str "UnknownName", .str (reprText nm)])) p3 (.lst ([] ++ [.ref p4])) p1 = _ := (upd_ne n1).trans (same_new h4 _ _ l1)
      have m2 : upd (upd H3 p4 (.lst [.str "UnknownName", .str (reprText nm)])) p3 (.lst ([] ++ [.ref p4])) p2 = _ := (upd_ne n2).trans (same_new h4 _ _ l2)
      have m3 : upd (upd H3 p4 (.lst [.str "UnknownName", .str (reprText nm)])) p3 (.lst ([] ++ [.ref p4])) p3 = some (.lst [.ref p4]) := upd_same
      have m4 : upd (upd H3 p4 (.lst [.str "UnknownName", .str (reprText nm)])) p3 (.lst ([] ++ [.ref p4])) p4 = some (.lst [.str "UnknownName", .str (reprText nm)]) := (upd_ne nl.symm).trans upd_same
      generalize upd (upd H3 p4 (.lst [.str "UnknownName", .str (reprText nm)])) p3 (.lst ([] ++ [.ref p4])) = H4 at s4 m1 m2 m3 m4
      refine ⟨_, rfl, _, 1, rfl, .inl ⟨_, .of m3, rfl⟩, rfl, _, rfl, iteD rfl ?_⟩
      refine ⟨_, rfl, _, rfl, _, _, .lst (.of m1) (dp_bools [(fam erUnk).1, (fam erUnk).2.1, (fam erUnk).2.2]), .lst (.of m2) (dp_bools [(fam erUnk).1, (fam erUnk).2.1, (fam erUnk).2.2]), (fits_list (fits_bools _)).shaped (by decide), (fits_list (fits_bools _)).shaped (by decide), _, rfl, ?_⟩
      refine iteBT (by decide +kernel) ⟨_, rfl, .inl ⟨rfl, _, .of m1⟩, p1, [(fam erUnk).1, (fam erUnk).2.1, (fam erUnk).2.2], true, rfl, rfl, .of m1, rfl, _, rfl, iteBT (by decide +kernel) ?_⟩
      exact ⟨_, rfl, _, _, _, _, rfl, rfl, .of m3, atI_nat (j := 0) rfl, k p4 H4 s4 f4 m4⟩
    | brk dd n hx hn =>
      have a : ErAll K erBro := W.er (by unfold ers; simp)
      have kt := a.kit
      have hd : ∀ {H' : Hp}, Same H H' → H' dd = some (.xd [("index", .int n)]) := fun s => s _ _ hx
      have dct : ∀ {H' : Hp}, Same H H' → Dct H' (some dd) := fun s => ⟨_, s _ _ hx⟩
      refine ⟨_, (pss_cons (ps_set (i := 1) sc__law_slip.nd rfl (.inl rfl) (pe_lst (pa_cons (pe_callB (call_isP (D := He.ga K erBro.nm) (a.excC W) List.mem_cons_self hz.zc hf) rfl (fr_isinstance W) (by decide +kernel) (pa_cons (pv 0) (pa_cons (pe_glob rfl (gl_WrongValue W) (show RelV (.ref (He.ga K "WrongValue")) (.ref (He.ga K "WrongValue")) from rfl)) pa_nil))) (pa_cons (pe_callB (call_isP (D := He.ga K erBro.nm) (a.excC W) List.mem_cons_self hz.zc hf) rfl (fr_isinstance W) (by decide +kernel) (pa_cons (pv 0) (pa_cons (pe_glob rfl (gl_WrongName W) (show RelV (.ref (He.ga K "WrongName")) (.ref (He.ga K "WrongName")) from rfl)) pa_nil))) (pa_cons (pe_callB (call_isP (D := He.ga K erBro.nm) (a.excC W) List.mem_cons_self hz.zc hf) rfl (fr_isinstance W) (by decide +kernel) (pa_cons (pv 0) (pa_cons (pe_glob rfl (gl_NoAnswer W) (show RelV (.ref (He.ga K "NoAnswer")) (.ref (He.ga K "NoAnswer")) from rfl)) pa_nil))) pa_nil)))))
      (pss_cons (ps_parH (i := 2) (j := 3) hotc sc__law_slip.nd rfl rfl (by decide) rfl rfl (pa_cons (pe_lst (pa_cons (pe_callB (call_isP (D := He.ga K erBro.nm) (a.excC W) List.mem_cons_self hz.zc hf) rfl (fr_isinstance W) (by decide +kernel) (pa_cons (pv 0) (pa_cons (pe_bltn rfl (fr_ValueError W) (by decide +kernel) (show RelV (.ty "ValueError") (.type "ValueError") from rfl)) pa_nil))) (pa_cons (pe_callB (call_isP (D := He.ga K erBro.nm) (a.excC W) List.mem_cons_self hz.zc hf) rfl (fr_isinstance W) (by decide +kernel) (pa_cons (pv 0) (pa_cons (pe_bltn rfl (fr_LookupError W) (by decide +kernel) (show RelV (.ty "LookupError") (.type "LookupError") from rfl)) pa_nil))) (pa_cons (pe_callB (call_isP (D := He.ga K erBro.nm) (a.excC W) List.mem_cons_self hz.zc hf) rfl (fr_isinstance W) (by decide +kernel) (pa_cons (pv 0) (pa_cons (pe_bltn rfl (fr_ArithmeticError W) (by decide +kernel) (show RelV (.ty "ArithmeticError") (.type "ArithmeticError") from rfl)) pa_nil))) pa_nil)))) (pa_cons (pe_lst pa_nil) pa_nil)) (by rfl))
      (pss_cons (ps_if (pt_val (pe_callB (call_isP (D := He.ga K erBro.nm) (a.excC W) List.mem_cons_self hz.zc hf) rfl (fr_isinstance W) (by decide +kernel) (pa_cons (pv 0) (pa_cons (pe_glob rfl (gl_Broken W) (show RelV (.ref (He.ga K "Broken")) (.ref (He.ga K "Broken")) from rfl)) pa_nil)))) (pss_one (ps_expr (pe_bm PySem.F.plainAttrs_list PySem.F.slot_list_append PySem.F.type_list_append mt_append (pv 3) (pa_cons (pe_lst (pa_cons pe_str (pa_cons (pe_callB call_reprX rfl (fr_repr W) (by decide +kernel) (pa_cons (pe_xp (D := He.ga K erBro.nm) (a.xfc W) a.no.2 List.mem_cons_self hz.zc hf (pv 0)) pa_nil)) pa_nil))) pa_nil)))) pss_nil)
      (pss_cons (ps_if (pt_val (pe_callB (call_isP (D := He.ga K erBro.nm) (a.excC W) List.mem_cons_self hz.zc hf) rfl (fr_isinstance W) (by decide +kernel) (pa_cons (pv 0) (pa_cons (pe_glob rfl (gl_InUse W) (show RelV (.ref (He.ga K "InUse")) (.ref (He.ga K "InUse")) from rfl)) pa_nil)))) (pss_one (ps_expr (pe_bm PySem.F.plainAttrs_list PySem.F.slot_list_append PySem.F.type_list_append mt_append (pv 3) (pa_cons (pe_lst (pa_cons pe_str (pa_cons (pe_callB call_reprX rfl (fr_repr W) (by decide +kernel) (pa_cons (pe_xp (D := He.ga K erBro.nm) (a.xfc W) a.no.2 List.mem_cons_self hz.zc hf (pv 0)) pa_nil)) pa_nil))) pa_nil)))) pss_nil)
      (pss_cons (ps_if (pt_val (pe_callB (call_isP (D := He.ga K erBro.nm) (a.excC W) List.mem_cons_self hz.zc hf) rfl (fr_isinstance W) (by decide +kernel) (pa_cons (pv 0) (pa_cons (pe_glob rfl (gl_InvalidIndex W) (show RelV (.ref (He.ga K "InvalidIndex")) (.ref (He.ga K "InvalidIndex")) from rfl)) pa_nil)))) (pss_one (ps_expr (pe_bm PySem.F.plainAttrs_list PySem.F.slot_list_append PySem.F.type_list_append mt_append (pv 3) (pa_cons (pe_lst (pa_cons pe_str (pa_cons (pe_callB call_reprX rfl (fr_repr W) (by decide +kernel) (pa_cons (pe_xp (D := He.ga K erBro.nm) (a.xfc W) a.no.1 List.mem_cons_self hz.zc hf (pv 0)) pa_nil)) pa_nil))) pa_nil)))) pss_nil)
      (pss_cons (ps_if (pt_val (pe_callB (call_isP (D := He.ga K erBro.nm) (a.excC W) List.mem_cons_self hz.zc hf) rfl (fr_isinstance W) (by decide +kernel) (pa_cons (pv 0) (pa_cons (pe_glob rfl (gl_NothingToUndo W) (show RelV (.ref (He.ga K "NothingToUndo")) (.ref (He.ga K "NothingToUndo")) from rfl)) pa_nil)))) (pss_one (ps_expr (pe_bm PySem.F.plainAttrs_list PySem.F.slot_list_append PySem.F.type_list_append mt_append (pv 3) (pa_cons (pe_lst (pa_cons pe_str pa_nil)) pa_nil)))) pss_nil)
      (pss_cons (ps_if (pt_val (pe_callB (call_isP (D := He.ga K erBro.nm) (a.excC W) List.mem_cons_self hz.zc hf) rfl (fr_isinstance W) (by decide +kernel) (pa_cons (pv 0) (pa_cons (pe_glob rfl (gl_UnknownName W) (show RelV (.ref (He.ga K "UnknownName")) (.ref (He.ga K "UnknownName")) from rfl)) pa_nil)))) (pss_one (ps_expr (pe_bm PySem.F.plainAttrs_list PySem.F.slot_list_append PySem.F.type_list_append mt_append (pv 3) (pa_cons (pe_lst (pa_cons pe_str (pa_cons (pe_callB call_reprX rfl (fr_repr W) (by decide +kernel) (pa_cons (pe_xp (D := He.ga K erBro.nm) (a.xfc W) a.no.1 List.mem_cons_self hz.zc hf (pv 0)) pa_nil)) pa_nil))) pa_nil)))) pss_nil)
      (pss_one (ps_ret (pe_ifExp (PW.pt (pw_and (pt_cmpR op_eq (pe_callB call_len rfl (fr_len W) (by decide +kernel) (pa_cons (pv 3) pa_nil)) pe_int (nomark _)) (pw_and (pt_cmpR (op_eqD hU) (pv 1) (pv 2) (nomark _)) (pw_and1 (pt_cmpR op_eq (pe_bm PySem.F.plainAttrs_list PySem.F.slot_list_count PySem.F.type_list_count mt_countB (pv 1) (pa_cons pe_bl pa_nil)) pe_int (nomark _)))))) (pe_ix ix_list (pv 3) pe_int (fun _ _ => rfl)) (pe_lst (pa_cons pe_str pa_nil)))))))))))), ?_⟩
      refine ⟨_, rfl, dct (Same.refl _), _, _, _, rfl, fun u h => h, kt.k1, _, rfl, dct (Same.refl _), _, _, _, rfl, fun u h => h, kt.k2, _, rfl, dct (Same.refl _), _, _, _, rfl, fun u h => h, kt.k3, by show 3 ≤ sizeLine; decide, fun p1 h1 => ?_⟩
      have s1 := same_new (o := .lst [.bl (fam erBro).1, .bl (fam erBro).2.1, .bl (fam erBro).2.2]) h1
      refine ⟨_, rfl, dct s1, _, _, _, rfl, fun u h => h, kt.b1, _, rfl, dct s1, _, _, _, rfl, fun u h => h, kt.b2, _, rfl, dct s1, _, _, _, rfl, fun u h => h, kt.b3, by show 3 ≤ sizeLine; decide, fun p2 h2 => ⟨by show 0 ≤ sizeLine; decide, fun p3 h3 => ⟨_, _, rfl, ?_⟩⟩⟩
      have s2 := s1.trans (same_new (o := .lst [.bl (fam erBro).1, .bl (fam erBro).2.1, .bl (fam erBro).2.2]) h2)
      have s3 := s2.trans (same_new (o := .lst []) h3)
      have l1 := same_new (o := .lst []) h3 _ _ (same_new (o := .lst [.bl (fam erBro).1, .bl (fam erBro).2.1, .bl (fam erBro).2.2]) h2 _ _ upd_same)
      have l2 := same_new (o := .lst []) h3 _ _ (upd_same (H := upd H p1 (.lst [.bl (fam erBro).1, .bl (fam erBro).2.1, .bl (fam erBro).2.2])) (a := p2) (o := .lst [.bl (fam erBro).1, .bl (fam erBro).2.1, .bl (fam erBro).2.2]))
      have l3 : upd (upd (upd H p1 (.lst [.bl (fam erBro).1, .bl (fam erBro).2.1, .bl (fam erBro).2.2])) p2 (.lst [.bl (fam erBro).1, .bl (fam erBro).2.1, .bl (fam erBro).2.2])) p3 (.lst []) p3 = some (.lst []) := upd_same
      have f3 : H p3 = none := s2.free h3
      generalize upd (upd (upd H p1 (.lst [.bl (fam erBro).1, .bl (fam erBro).2.1, .bl (fam erBro).2.2])) p2 (.lst [.bl (fam erBro).1, .bl (fam erBro).2.1, .bl (fam erBro).2.2])) p3 (.lst []) = H3 at s3 l1 l2 l3
      refine ⟨_, rfl, dct s3, _, _, _, rfl, fun u h => h, kt.each erBro (by unfold ers; simp), _, rfl, iteD rfl ⟨_, rfl, .inl ⟨rfl, _, .of l3⟩, _, rfl, rfl, dd, _, _, rfl, hd s3, rfl, .inl ⟨n, rfl, log_small hn, by show 2 ≤ sizeLine; decide, fun p4 h4 => ⟨p3, _, _, rfl, rfl, same_new h4 _ _ l3, (by show 0 < sizeLine; decide), ?_⟩⟩⟩⟩
      have nl : p3 ≠ p4 := fun z => by rw [z, h4] at l3; cases l3
      have f4 : H p4 = none := s3.free h4
      have n1 : p1 ≠ p3 := fun z => by rw [z, l3] at l1; cases l1
      have n2 : p2 ≠ p3 := fun z => by rw [z, l3] at l2; cases l2
      have s4 : Same H (upd (upd H3 p4 (.lst [.str "Broken", .str (toString (n : Int))])) p3 (.lst ([] ++ [.ref p4]))) := same_mut (s3.trans (same_new h4)) f3
      have m1 : upd (upd H3 p4 (.lst [.str "Broken", .str (toString (n : Int))])) p3 (.lst ([] ++ [.ref p4])) p1 = _ := (upd_ne n1).trans (same_new h4 _ _ l1)
      have m2 : upd (upd H3 p4 (.lst [.str "Broken", .str (toString (n : Int))])) p3 (.lst ([] ++ [.ref p4])) p2 = _ := (upd_ne n2).trans (same_new h4 _ _ l2)
      have m3 : upd (upd H3 p4 (.lst [.str "Broken", .str (toString (n : Int))])) p3 (.lst ([] ++ [.ref p4])) p3 = some (.lst [.ref p4]) := upd_same
      have m4 : upd (upd H3 p4 (.lst [.str "Broken", .str (toString (n : Int))])) p3 (.lst ([] ++ [.ref p4])) p4 = some (.lst [.str "Broken", .str (toString (n : Int))]) := (upd_ne nl.symm).trans upd_same
      generalize upd (upd H3 p4 (.lst [.str "Broken", .str (toString (n : Int))])) p3 (.lst ([] ++ [.ref p4])) = H4 at s4 m1 m2 m3 m4
      refine ⟨_, rfl, dct s4, _, _, _, rfl, fun u h => h, kt.each erUse (by unfold ers; simp), _, rfl, iteDF (by decide +kernel) ?_⟩
      refine ⟨_, rfl, dct s4, _, _, _, rfl, fun u h => h, kt.each erIdx (by unfold ers; simp), _, rfl, iteDF (by decide +kernel) ?_⟩
      refine ⟨_, rfl, dct s4, _, _, _, rfl, fun u h => h, kt.each erNot (by unfold ers; simp), _, rfl, iteDF (by decide +kernel) ?_⟩
      refine ⟨_, rfl, dct s4, _, _, _, rfl, fun u h => h, kt.each erUnk (by unfold ers; simp), _, rfl, iteDF (by decide +kernel) ?_⟩
      refine ⟨_, rfl, _, 1, rfl, .inl ⟨_, .of m3, rfl⟩, rfl, _, rfl, iteD rfl ?_⟩
      refine ⟨_, rfl, _, rfl, _, _, .lst (.of m1) (dp_bools [(fam erBro).1, (fam erBro).2.1, (fam erBro).2.2]), .lst (.of m2) (dp_bools [(fam erBro).1, (fam erBro).2.1, (fam erBro).2.2]), (fits_list (fits_bools _)).shaped (by decide), (fits_list (fits_bools _)).shaped (by decide), _, rfl, ?_⟩
      refine iteBT (by decide +kernel) ⟨_, rfl, .inl ⟨rfl, _, .of m1⟩, p1, [(fam erBro).1, (fam erBro).2.1, (fam erBro).2.2], true, rfl, rfl, .of m1, rfl, _, rfl, iteBT (by decide +kernel) ?_⟩
      exact ⟨_, rfl, _, _, _, _, rfl, rfl, .of m3, atI_nat (j := 0) rfl, k p4 H4 s4 f4 m4⟩
    | use dd n hx hn =>
      have a : ErAll K erUse := W.er (by unfold ers; simp)
      have kt := a.kit
      have hd : ∀ {H' : Hp}, Same H H' → H' dd = some (.xd [("index", .int n)]) := fun s => s _ _ hx
      have dct : ∀ {H' : Hp}, Same H H' → Dct H' (some dd) := fun s => ⟨_, s _ _ hx⟩
      refine ⟨_, (pss_cons (ps_set (i := 1) sc__law_slip.nd rfl (.inl rfl) (pe_lst (pa_cons (pe_callB (call_isP (D := He.ga K erUse.nm) (a.excC W) List.mem_cons_self hz.zc hf) rfl (fr_isinstance W) (by decide +kernel) (pa_cons (pv 0) (pa_cons (pe_glob rfl (gl_WrongValue W) (show RelV (.ref (He.ga K "WrongValue")) (.ref (He.ga K "WrongValue")) from rfl)) pa_nil))) (pa_cons (pe_callB (call_isP (D := He.ga K erUse.nm) (a.excC W) List.mem_cons_self hz.zc hf) rfl (fr_isinstance W) (by decide +kernel) (pa_cons (pv 0) (pa_cons (pe_glob rfl (gl_WrongName W) (show RelV (.ref (He.ga K "WrongName")) (.ref (He.ga K "WrongName")) from rfl)) pa_nil))) (pa_cons (pe_callB (call_isP (D := He.ga K erUse.nm) (a.excC W) List.mem_cons_self hz.zc hf) rfl (fr_isinstance W) (by decide +kernel) (pa_cons (pv 0) (pa_cons (pe_glob rfl (gl_NoAnswer W) (show RelV (.ref (He.ga K "NoAnswer")) (.ref (He.ga K "NoAnswer")) from rfl)) pa_nil))) pa_nil)))))
      (pss_cons (ps_parH (i := 2) (j := 3) hotc sc__law_slip.nd rfl rfl (by decide) rfl rfl (pa_cons (pe_lst (pa_cons (pe_callB (call_isP (D := He.ga K erUse.nm) (a.excC W) List.mem_cons_self hz.zc hf) rfl (fr_isinstance W) (by decide +kernel) (pa_cons (pv 0) (pa_cons (pe_bltn rfl (fr_ValueError W) (by decide +kernel) (show RelV (.ty "ValueError") (.type "ValueError") from rfl)) pa_nil))) (pa_cons (pe_callB (call_isP (D := He.ga K erUse.nm) (a.excC W) List.mem_cons_self hz.zc hf) rfl (fr_isinstance W) (by decide +kernel) (pa_cons (pv 0) (pa_cons (pe_bltn rfl (fr_LookupError W) (by decide +kernel) (show RelV (.ty "LookupError") (.type "LookupError") from rfl)) pa_nil))) (pa_cons (pe_callB (call_isP (D := He.ga K erUse.nm) (a.excC W) List.mem_cons_self hz.zc hf) rfl (fr_isinstance W) (by decide +kernel) (pa_cons (pv 0) (pa_cons (pe_bltn rfl (fr_ArithmeticError W) (by decide +kernel) (show RelV (.ty "ArithmeticError") (.type "ArithmeticError") from rfl)) pa_nil))) pa_nil)))) (pa_cons (pe_lst pa_nil) pa_nil)) (by rfl))
      (pss_cons (ps_if (pt_val (pe_callB (call_isP (D := He.ga K erUse.nm) (a.excC W) List.mem_cons_self hz.zc hf) rfl (fr_isinstance W) (by decide +kernel) (pa_cons (pv 0) (pa_cons (pe_glob rfl (gl_Broken W) (show RelV (.ref (He.ga K "Broken")) (.ref (He.ga K "Broken")) from rfl)) pa_nil)))) (pss_one (ps_expr (pe_bm PySem.F.plainAttrs_list PySem.F.slot_list_append PySem.F.type_list_append mt_append (pv 3) (pa_cons (pe_lst (pa_cons pe_str (pa_cons (pe_callB call_reprX rfl (fr_repr W) (by decide +kernel) (pa_cons (pe_xp (D := He.ga K erUse.nm) (a.xfc W) a.no.2 List.mem_cons_self hz.zc hf (pv 0)) pa_nil)) pa_nil))) pa_nil)))) pss_nil)
      (pss_cons (ps_if (pt_val (pe_callB (call_isP (D := He.ga K erUse.nm) (a.excC W) List.mem_cons_self hz.zc hf) rfl (fr_isinstance W) (by decide +kernel) (pa_cons (pv 0) (pa_cons (pe_glob rfl (gl_InUse W) (show RelV (.ref (He.ga K "InUse")) (.ref (He.ga K "InUse")) from rfl)) pa_nil)))) (pss_one (ps_expr (pe_bm PySem.F.plainAttrs_list PySem.F.slot_list_append PySem.F.type_list_append mt_append (pv 3) (pa_cons (pe_lst (pa_cons pe_str (pa_cons (pe_callB call_reprX rfl (fr_repr W) (by decide +kernel) (pa_cons (pe_xp (D := He.ga K erUse.nm) (a.xfc W) a.no.2 List.mem_cons_self hz.zc hf (pv 0)) pa_nil)) pa_nil))) pa_nil)))) pss_nil)
      (pss_cons (ps_if (pt_val (pe_callB (call_isP (D := He.ga K erUse.nm) (a.excC W) List.mem_cons_self hz.zc hf) rfl (fr_isinstance W) (by decide +kernel) (pa_cons (pv 0) (pa_cons (pe_glob rfl (gl_InvalidIndex W) (show RelV (.ref (He.ga K "InvalidIndex")) (.ref (He.ga K "InvalidIndex")) from rfl)) pa_nil)))) (pss_one (ps_expr (pe_bm PySem.F.plainAttrs_list PySem.F.slot_list_append PySem.F.type_list_append mt_append (pv 3) (pa_cons (pe_lst (pa_cons pe_str (pa_cons (pe_callB call_reprX rfl (fr_repr W) (by decide +kernel) (pa_cons (pe_xp (D := He.ga K erUse.nm) (a.xfc W) a.no.1 List.mem_cons_self hz.zc hf (pv 0)) pa_nil)) pa_nil))) pa_nil)))) pss_nil)
      (pss_cons (ps_if (pt_val (pe_callB (call_isP (D := He.ga K erUse.nm) (a.excC W) List.mem_cons_self hz.zc hf) rfl (fr_isinstance W) (by decide +kernel) (pa_cons (pv 0) (pa_cons (pe_glob rfl (gl_NothingToUndo W) (show RelV (.ref (He.ga K "NothingToUndo")) (.ref (He.ga K "NothingToUndo")) from rfl)) pa_nil)))) (pss_one (ps_expr (pe_bm PySem.F.plainAttrs_list PySem.F.slot_list_append PySem.F.type_list_append mt_append (pv 3) (pa_cons (pe_lst (pa_cons pe_str pa_nil)) pa_nil)))) pss_nil)
      (pss_cons (ps_if (pt_val (pe_callB (call_isP (D := He.ga K erUse.nm) (a.excC W) List.mem_cons_self hz.zc hf) rfl (fr_isinstance W) (by decide +kernel) (pa_cons (pv 0) (pa_cons (pe_glob rfl (gl_UnknownName W) (show RelV (.ref (He.ga K "UnknownName")) (.ref (He.ga K "UnknownName")) from rfl)) pa_nil)))) (pss_one (ps_expr (pe_bm PySem.F.plainAttrs_list PySem.F.slot_list_append PySem.F.type_list_append mt_append (pv 3) (pa_cons (pe_lst (pa_cons pe_str (pa_cons (pe_callB call_reprX rfl (fr_repr W) (by decide +kernel) (pa_cons (pe_xp (D := He.ga K erUse.nm) (a.xfc W) a.no.1 List.mem_cons_self hz.zc hf (pv 0)) pa_nil)) pa_nil))) pa_nil)))) pss_nil)
      (pss_one (ps_ret (pe_ifExp (PW.pt (pw_and (pt_cmpR op_eq (pe_callB call_len rfl (fr_len W) (by decide +kernel) (pa_cons (pv 3) pa_nil)) pe_int (nomark _)) (pw_and (pt_cmpR (op_eqD hU) (pv 1) (pv 2) (nomark _)) (pw_and1 (pt_cmpR op_eq (pe_bm PySem.F.plainAttrs_list PySem.F.slot_list_count PySem.F.type_list_count mt_countB (pv 1) (pa_cons pe_bl pa_nil)) pe_int (nomark _)))))) (pe_ix ix_list (pv 3) pe_int (fun _ _ => rfl)) (pe_lst (pa_cons pe_str pa_nil)))))))))))), ?_⟩
      refine ⟨_, rfl, dct (Same.refl _), _, _, _, rfl, fun u h => h, kt.k1, _, rfl, dct (Same.refl _), _, _, _, rfl, fun u h => h, kt.k2, _, rfl, dct (Same.refl _), _, _, _, rfl, fun u h => h, kt.k3, by show 3 ≤ sizeLine; decide, fun p1 h1 => ?_⟩
      have s1 := same_new (o := .lst [.bl (fam erUse).1, .bl (fam erUse).2.1, .bl (fam erUse).2.2]) h1
      refine ⟨_, rfl, dct s1, _, _, _, rfl, fun u h => h, kt.b1, _, rfl, dct s1, _, _, _, rfl, fun u h => h, kt.b2, _, rfl, dct s1, _, _, _, rfl, fun u h => h, kt.b3, by show 3 ≤ sizeLine; decide, fun p2 h2 => ⟨by show 0 ≤ sizeLine; decide, fun p3 h3 => ⟨_, _, rfl, ?_⟩⟩⟩
      have s2 := s1.trans (same_new (o := .lst [.bl (fam erUse).1, .bl (fam erUse).2.1, .bl (fam erUse).2.2]) h2)
      have s3 := s2.trans (same_new (o := .lst []) h3)
      have l1 := same_new (o := .lst []) h3 _ _ (same_new (o := .lst [.bl (fam erUse).1, .bl (fam erUse).2.1, .bl (fam erUse).2.2]) h2 _ _ upd_same)
      have l2 := same_new (o := .lst []) h3 _ _ (upd_same (H := upd H p1 (.lst [.bl (fam erUse).1, .bl (fam erUse).2.1, .bl (fam erUse).2.2])) (a := p2) (o := .lst [.bl (fam erUse).1, .bl (fam erUse).2.1, .bl (fam erUse).2.2]))
      have l3 : upd (upd (upd H p1 (.lst [.bl (fam erUse).1, .bl (fam erUse).2.1, .bl (fam erUse).2.2])) p2 (.lst [.bl (fam erUse).1, .bl (fam erUse).2.1, .bl (fam erUse).2.2])) p3 (.lst []) p3 = some (.lst []) := upd_same
      have f3 : H p3 = none := s2.free h3
      generalize upd (upd (upd H p1 (.lst [.bl (fam erUse).1, .bl (fam erUse).2.1, .bl (fam erUse).2.2])) p2 (.lst [.bl (fam erUse).1, .bl (fam erUse).2.1, .bl (fam erUse).2.2])) p3 (.lst []) = H3 at s3 l1 l2 l3
      refine ⟨_, rfl, dct s3, _, _, _, rfl, fun u h => h, kt.each erBro (by unfold ers; simp), _, rfl, iteDF (by decide +kernel) ?_⟩
      refine ⟨_, rfl, dct s3, _, _, _, rfl, fun u h => h, kt.each erUse (by unfold ers; simp), _, rfl, iteD rfl ⟨_, rfl, .inl ⟨rfl, _, .of l3⟩, _, rfl, rfl, dd, _, _, rfl, hd s3, rfl, .inl ⟨n, rfl, log_small hn, by show 2 ≤ sizeLine; decide, fun p4 h4 => ⟨p3, _, _, rfl, rfl, same_new h4 _ _ l3, (by show 0 < sizeLine; decide), ?_⟩⟩⟩⟩
      have nl : p3 ≠ p4 := fun z => by rw [z, h4] at l3; cases l3
      have f4 : H p4 = none := s3.free h4
      have n1 : p1 ≠ p3 := fun z => by rw [z, l3] at l1; cases l1
      have n2 : p2 ≠ p3 := fun z => by rw [z, l3] at l2; cases l2
      have s4 : Same H (upd (upd H3 p4 (.lst [.str "InUse", .str (toString (n : Int))])) p3 (.lst ([] ++ [.ref p4]))) := same_mut (s3.trans (same_new h4)) f3
      have m1 : upd (upd H3 p4 (.lst [.str "InUse", .str (toString (n : Int))])) p3 (.lst ([] ++ [.ref p4])) p1 = _ := (upd_ne n1).trans (same_new h4 _ _ l1)
      have m2 : upd (upd H3 p4 (.lst [.str "InUse", .str (toString (n : Int))])) p3 (.lst ([] ++ [.ref p4])) p2 = _ := (upd_ne n2).trans (same_new h4 _ _ l2)
      have m3 : upd (upd H3 p4 (.lst [.str "InUse", .str (toString (n : Int))])) p3 (.lst ([] ++ [.ref p4])) p3 = some (.lst [.ref p4]) := upd_same
      have m4 : upd (upd H3 p4 (.lst [.str "InUse", .str (toString (n : Int))])) p3 (.lst ([] ++ [.ref p4])) p4 = some (.lst [.str "InUse", .str (toString (n : Int))]) := (upd_ne nl.symm).trans upd_same
      generalize upd (upd H3 p4 (.lst [.str "InUse", .str (toString (n : Int))])) p3 (.lst ([] ++ [.ref p4])) = H4 at s4 m1 m2 m3 m4
      refine ⟨_, rfl, dct s4, _, _, _, rfl, fun u h => h, kt.each erIdx (by unfold ers; simp), _, rfl, iteDF (by decide +kernel) ?_⟩
      refine ⟨_, rfl, dct s4, _, _, _, rfl, fun u h => h, kt.each erNot (by unfold ers; simp), _, rfl, iteDF (by decide +kernel) ?_⟩
      refine ⟨_, rfl, dct s4, _, _, _, rfl, fun u h => h, kt.each erUnk (by unfold ers; simp), _, rfl, iteDF (by decide +kernel) ?_⟩
      refine ⟨_, rfl, _, 1, rfl, .inl ⟨_, .of m3, rfl⟩, rfl, _, rfl, iteD rfl ?_⟩
      refine ⟨_, rfl, _, rfl, _, _, .lst (.of m1) (dp_bools [(fam erUse).1, (fam erUse).2.1, (fam erUse).2.2]), .lst (.of m2) (dp_bools [(fam erUse).1, (fam erUse).2.1, (fam erUse).2.2]), (fits_list (fits_bools _)).shaped (by decide), (fits_list (fits_bools _)).shaped (by decide), _, rfl, ?_⟩
      refine iteBT (by decide +kernel) ⟨_, rfl, .inl ⟨rfl, _, .of m1⟩, p1, [(fam erUse).1, (fam erUse).2.1, (fam erUse).2.2], true, rfl, rfl, .of m1, rfl, _, rfl, iteBT (by decide +kernel) ?_⟩
      exact ⟨_, rfl, _, _, _, _, rfl, rfl, .of m3, atI_nat (j := 0) rfl, k p4 H4 s4 f4 m4⟩
    | not  =>
      have a : ErAll K erNot := W.er (by unfold ers; simp)
      have kt := a.kit
      have dct : ∀ {H' : Hp}, Same H H' → Dct H' none := fun _ => trivial
      refine ⟨_, (pss_cons (ps_set (i := 1) sc__law_slip.nd rfl (.inl rfl) (pe_lst (pa_cons (pe_callB (call_isP (D := He.ga K erNot.nm) (a.excC W) List.mem_cons_self hz.zc hf) rfl (fr_isinstance W) (by decide +kernel) (pa_cons (pv 0) (pa_cons (pe_glob rfl (gl_WrongValue W) (show RelV (.ref (He.ga K "WrongValue")) (.ref (He.ga K "WrongValue")) from rfl)) pa_nil))) (pa_cons (pe_callB (call_isP (D := He.ga K erNot.nm) (a.excC W) List.mem_cons_self hz.zc hf) rfl (fr_isinstance W) (by decide +kernel) (pa_cons (pv 0) (pa_cons (pe_glob rfl (gl_WrongName W) (show RelV (.ref (He.ga K "WrongName")) (.ref (He.ga K "WrongName")) from rfl)) pa_nil))) (pa_cons (pe_callB (call_isP (D := He.ga K erNot.nm) (a.excC W) List.mem_cons_self hz.zc hf) rfl (fr_isinstance W) (by decide +kernel) (pa_cons (pv 0) (pa_cons (pe_glob rfl (gl_NoAnswer W) (show RelV (.ref (He.ga K "NoAnswer")) (.ref (He.ga K "NoAnswer")) from rfl)) pa_nil))) pa_nil)))))
      (pss_cons (ps_parH (i := 2) (j := 3) hotc sc__law_slip.nd rfl rfl (by decide) rfl rfl (pa_cons (pe_lst (pa_cons (pe_callB (call_isP (D := He.ga K erNot.nm) (a.excC W) List.mem_cons_self hz.zc hf) rfl (fr_isinstance W) (by decide +kernel) (pa_cons (pv 0) (pa_cons (pe_bltn rfl (fr_ValueError W) (by decide +kernel) (show RelV (.ty "ValueError") (.type "ValueError") from rfl)) pa_nil))) (pa_cons (pe_callB (call_isP (D := He.ga K erNot.nm) (a.excC W) List.mem_cons_self hz.zc hf) rfl (fr_isinstance W) (by decide +kernel) (pa_cons (pv 0) (pa_cons (pe_bltn rfl (fr_LookupError W) (by decide +kernel) (show RelV (.ty "LookupError") (.type "LookupError") from rfl)) pa_nil))) (pa_cons (pe_callB (call_isP (D := He.ga K erNot.nm) (a.excC W) List.mem_cons_self hz.zc hf) rfl (fr_isinstance W) (by decide +kernel) (pa_cons (pv 0) (pa_cons (pe_bltn rfl (fr_ArithmeticError W) (by decide +kernel) (show RelV (.ty "ArithmeticError") (.type "ArithmeticError") from rfl)) pa_nil))) pa_nil)))) (pa_cons (pe_lst pa_nil) pa_nil)) (by rfl))
      (pss_cons (ps_if (pt_val (pe_callB (call_isP (D := He.ga K erNot.nm) (a.excC W) List.mem_cons_self hz.zc hf) rfl (fr_isinstance W) (by decide +kernel) (pa_cons (pv 0) (pa_cons (pe_glob rfl (gl_Broken W) (show RelV (.ref (He.ga K "Broken")) (.ref (He.ga K "Broken")) from rfl)) pa_nil)))) (pss_one (ps_expr (pe_bm PySem.F.plainAttrs_list PySem.F.slot_list_append PySem.F.type_list_append mt_append (pv 3) (pa_cons (pe_lst (pa_cons pe_str (pa_cons (pe_callB call_reprX rfl (fr_repr W) (by decide +kernel) (pa_cons (pe_xp (D := He.ga K erNot.nm) (a.xfc W) a.no.2 List.mem_cons_self hz.zc hf (pv 0)) pa_nil)) pa_nil))) pa_nil)))) pss_nil)
      (pss_cons (ps_if (pt_val (pe_callB (call_isP (D := He.ga K erNot.nm) (a.excC W) List.mem_cons_self hz.zc hf) rfl (fr_isinstance W) (by decide +kernel) (pa_cons (pv 0) (pa_cons (pe_glob rfl (gl_InUse W) (show RelV (.ref (He.ga K "InUse")) (.ref (He.ga K "InUse")) from rfl)) pa_nil)))) (pss_one (ps_expr (pe_bm PySem.F.plainAttrs_list PySem.F.slot_list_append PySem.F.type_list_append mt_append (pv 3) (pa_cons (pe_lst (pa_cons pe_str (pa_cons (pe_callB call_reprX rfl (fr_repr W) (by decide +kernel) (pa_cons (pe_xp (D := He.ga K erNot.nm) (a.xfc W) a.no.2 List.mem_cons_self hz.zc hf (pv 0)) pa_nil)) pa_nil))) pa_nil)))) pss_nil)
      (pss_cons (ps_if (pt_val (pe_callB (call_isP (D := He.ga K erNot.nm) (a.excC W) List.mem_cons_self hz.zc hf) rfl (fr_isinstance W) (by decide +kernel) (pa_cons (pv 0) (pa_cons (pe_glob rfl (gl_InvalidIndex W) (show RelV (.ref (He.ga K "InvalidIndex")) (.ref (He.ga K "InvalidIndex")) from rfl)) pa_nil)))) (pss_one (ps_expr (pe_bm PySem.F.plainAttrs_list PySem.F.slot_list_append PySem.F.type_list_append mt_append (pv 3) (pa_cons (pe_lst (pa_cons pe_str (pa_cons (pe_callB call_reprX rfl (fr_repr W) (by decide +kernel) (pa_cons (pe_xp (D := He.ga K erNot.nm) (a.xfc W) a.no.1 List.mem_cons_self hz.zc hf (pv 0)) pa_nil)) pa_nil))) pa_nil)))) pss_nil)
      (pss_cons (ps_if (pt_val (pe_callB (call_isP (D := He.ga K erNot.nm) (a.excC W) List.mem_cons_self hz.zc hf) rfl (fr_isinstance W) (by decide +kernel) (pa_cons (pv 0) (pa_cons (pe_glob rfl (gl_NothingToUndo W) (show RelV (.ref (He.ga K "NothingToUndo")) (.ref (He.ga K "NothingToUndo")) from rfl)) pa_nil)))) (pss_one (ps_expr (pe_bm PySem.F.plainAttrs_list PySem.F.slot_list_append PySem.F.type_list_append mt_append (pv 3) (pa_cons (pe_lst (pa_cons pe_str pa_nil)) pa_nil)))) pss_nil)
      (pss_cons (ps_if (pt_val (pe_callB (call_isP (D := He.ga K erNot.nm) (a.excC W) List.mem_cons_self hz.zc hf) rfl (fr_isinstance W) (by decide +kernel) (pa_cons (pv 0) (pa_cons (pe_glob rfl (gl_UnknownName W) (show RelV (.ref (He.ga K "UnknownName")) (.ref (He.ga K "UnknownName")) from rfl)) pa_nil)))) (pss_one (ps_expr (pe_bm PySem.F.plainAttrs_list PySem.F.slot_list_append PySem.F.type_list_append mt_append (pv 3) (pa_cons (pe_lst (pa_cons pe_str (pa_cons (pe_callB call_reprX rfl (fr_repr W) (by decide +kernel) (pa_cons (pe_xp (D := He.ga K erNot.nm) (a.xfc W) a.no.1 List.mem_cons_self hz.zc hf (pv 0)) pa_nil)) pa_nil))) pa_nil)))) pss_nil)
      (pss_one (ps_ret (pe_ifExp (PW.pt (pw_and (pt_cmpR op_eq (pe_callB call_len rfl (fr_len W) (by decide +kernel) (pa_cons (pv 3) pa_nil)) pe_int (nomark _)) (pw_and (pt_cmpR (op_eqD hU) (pv 1) (pv 2) (nomark _)) (pw_and1 (pt_cmpR op_eq (pe_bm PySem.F.plainAttrs_list PySem.F.slot_list_count PySem.F.type_list_count mt_countB (pv 1) (pa_cons pe_bl pa_nil)) pe_int (nomark _)))))) (pe_ix ix_list (pv 3) pe_int (fun _ _ => rfl)) (pe_lst (pa_cons pe_str pa_nil)))))))))))), ?_⟩
      refine ⟨_, rfl, dct (Same.refl _), _, _, _, rfl, fun u h => h, kt.k1, _, rfl, dct (Same.refl _), _, _, _, rfl, fun u h => h, kt.k2, _, rfl, dct (Same.refl _), _, _, _, rfl, fun u h => h, kt.k3, by show 3 ≤ sizeLine; decide, fun p1 h1 => ?_⟩
      have s1 := same_new (o := .lst [.bl (fam erNot).1, .bl (fam erNot).2.1, .bl (fam erNot).2.2]) h1
      refine ⟨_, rfl, dct s1, _, _, _, rfl, fun u h => h, kt.b1, _, rfl, dct s1, _, _, _, rfl, fun u h => h, kt.b2, _, rfl, dct s1, _, _, _, rfl, fun u h => h, kt.b3, by show 3 ≤ sizeLine; decide, fun p2 h2 => ⟨by show 0 ≤ sizeLine; decide, fun p3 h3 => ⟨_, _, rfl, ?_⟩⟩⟩
      have s2 := s1.trans (same_new (o := .lst [.bl (fam erNot).1, .bl (fam erNot).2.1, .bl (fam erNot).2.2]) h2)
      have s3 := s2.trans (same_new (o := .lst []) h3)
      have l1 := same_new (o := .lst []) h3 _ _ (same_new (o := .lst [.bl (fam erNot).1, .bl (fam erNot).2.1, .bl (fam erNot).2.2]) h2 _ _ upd_same)
      have l2 := same_new (o := .lst []) h3 _ _ (upd_same (H := upd H p1 (.lst [.bl (fam erNot).1, .bl (fam erNot).2.1, .bl (fam erNot).2.2])) (a := p2) (o := .lst [.bl (fam erNot).1, .bl (fam erNot).2.1, .bl (fam erNot).2.2]))
      have l3 : upd (upd (upd H p1 (.lst [.bl (fam erNot).1, .bl (fam erNot).2.1, .bl (fam erNot).2.2])) p2 (.lst [.bl (fam erNot).1, .bl (fam erNot).2.1, .bl (fam erNot).2.2])) p3 (.lst []) p3 = some (.lst []) := upd_same
      have f3 : H p3 = none := s2.free h3
      generalize upd (upd (upd H p1 (.lst [.bl (fam erNot).1, .bl (fam erNot).2.1, .bl (fam erNot).2.2])) p2 (.lst [.bl (fam erNot).1, .bl (fam erNot).2.1, .bl (fam erNot).2.2])) p3 (.lst []) = H3 at s3 l1 l2 l3
      refine ⟨_, rfl, dct s3, _, _, _, rfl, fun u h => h, kt.each erBro (by unfold ers; simp), _, rfl, iteDF (by decide +kernel) ?_⟩
      refine ⟨_, rfl, dct s3, _, _, _, rfl, fun u h => h, kt.each erUse (by unfold ers; simp), _, rfl, iteDF (by decide +kernel) ?_⟩
      refine ⟨_, rfl, dct s3, _, _, _, rfl, fun u h => h, kt.each erIdx (by unfold ers; simp), _, rfl, iteDF (by decide +kernel) ?_⟩
      refine ⟨_, rfl, dct s3, _, _, _, rfl, fun u h => h, kt.each erNot (by unfold ers; simp), _, rfl, iteD rfl ⟨_, rfl, .inl ⟨rfl, _, .of l3⟩, by show 1 ≤ sizeLine; decide, fun p4 h4 => ⟨p3, _, _, rfl, rfl, same_new h4 _ _ l3, (by show 0 < sizeLine; decide), ?_⟩⟩⟩
      have nl : p3 ≠ p4 := fun z => by rw [z, h4] at l3; cases l3
      have f4 : H p4 = none := s3.free h4
      have n1 : p1 ≠ p3 := fun z => by rw [z, l3] at l1; cases l1
      have n2 : p2 ≠ p3 := fun z => by rw [z, l3] at l2; cases l2
      have s4 : Same H (upd (upd H3 p4 (.lst [.str "NothingToUndo"])) p3 (.lst ([] ++ [.ref p4]))) := same_mut (s3.trans (same_new h4)) f3
      have m1 : upd (upd H3 p4 (.lst [.str "NothingToUndo"])) p3 (.lst ([] ++ [.ref p4])) p1 = _ := (upd_ne n1).trans (same_new h4 _ _ l1)
      have m2 : upd (upd H3 p4 (.lst [.str "NothingToUndo"])) p3 (.lst ([] ++ [.ref p4])) p2 = _ := (upd_ne n2).trans (same_new h4 _ _ l2)
      have m3 : upd (upd H3 p4 (.lst [.str "NothingToUndo"])) p3 (.lst ([] ++ [.ref p4])) p3 = some (.lst [.ref p4]) := upd_same
      have m4 : upd (upd H3 p4 (.lst [.str "NothingToUndo"])) p3 (.lst ([] ++ [.ref p4])) p4 = some (.lst [.str "NothingToUndo"]) := (upd_ne nl.symm).trans upd_same
      generalize upd (upd H3 p4 (.lst [.str "NothingToUndo"])) p3 (.lst ([] ++ [.ref p4])) = H4 at s4 m1 m2 m3 m4
      refine ⟨_, rfl, dct s4, _, _, _, rfl, fun u h => h, kt.each erUnk (by unfold ers; simp), _, rfl, iteDF (by decide +kernel) ?_⟩
      refine ⟨_, rfl, _, 1, rfl, .inl ⟨_, .of m3, rfl⟩, rfl, _, rfl, iteD rfl ?_⟩
      refine ⟨_, rfl, _, rfl, _, _, .lst (.of m1) (dp_bools [(fam erNot).1, (fam erNot).2.1, (fam erNot).2.2]), .lst (.of m2) (dp_bools [(fam erNot).1, (fam erNot).2.1, (fam erNot).2.2]), (fits_list (fits_bools _)).shaped (by decide), (fits_list (fits_bools _)).shaped (by decide), _, rfl, ?_⟩
      refine iteBT (by decide +kernel) ⟨_, rfl, .inl ⟨rfl, _, .of m1⟩, p1, [(fam erNot).1, (fam erNot).2.1, (fam erNot).2.2], true, rfl, rfl, .of m1, rfl, _, rfl, iteBT (by decide +kernel) ?_⟩
      exact ⟨_, rfl, _, _, _, _, rfl, rfl, .of m3, atI_nat (j := 0) rfl, k p4 H4 s4 f4 m4⟩
end
end KB
end
section
set_option Elab.async false
set_option linter.all false
set_option maxRecDepth 100000
set_option maxHeartbeats 4000000
/-! try: body / except (A, B, C) as n: suite -/
namespace KB
open PySem PySem.Spec PyProof.Rows L2
theorem FlyingZ.more {B h h' : Heap} {l : List Env} {a : Addr} {Z : Obj → Prop} (x : HandSPX.FlyingZ B l a Z h) (k : ∀ b o, h.get? b = some o → h'.get? b = some o) : HandSPX.FlyingZ B l a Z h' := by
  obtain ⟨x1, x2, x3, oe, vs, T, oT, ts, e1, z, e2, e3, e4, e5, e6, e7, e8⟩ := x
  exact ⟨fun b o e => k _ _ (x1 b o e), x2, Heap.FunFrames.of_keeps (fun b o e _ => ⟨o, k _ _ e, rfl⟩) x3, oe, vs, T, oT, ts, k _ _ e1, z, e2, e3, e4, e5, k _ _ e6, e7, e8⟩
/-- what the clause wishes of the body's exception -/
def wTup (K : PySem.W.Frag) (cs : List Value) (i : Nat) (ts : Addr → Value → Option Addr → TS) (D : Ends) : WX := fun cls d σ H =>
  PySem.W.exmAny K cls cs = some true ∧ (∀ a, H a = none → ts a cls d { nx := fun σ' H' => D.nx (σ'.set i none) H', rt := D.rt, bk := fun σ' H' => D.bk (σ'.set i none) H', ct := fun σ' H' => D.ct (σ'.set i none) H' } (σ.set i (some (.ref a))) H)
theorem ps_tryT {X : Cx} {x1 x2 x3 n : Str} {c1 c2 c3 : Addr} {i : Nat} {body suite : List Stmt} {b₀ : Stmt} {n1 n2 n3 tp pos pos' : Pos} {kk : Nat} {tb : WX → TS} {ts : Addr → Value → Option Addr → TS}
    (hs : X.stack = X.env :: X.outer) (hf : X.env.frame = some X.env.locals) (hN : X.N.Nodup) (hi : X.N[i]? = some n) (hln : X.env.kindOf n = some .local)
    (g1 : Gl X x1) (m1 : X.mg x1 = some (.ref c1)) (g2 : Gl X x2) (m2 : X.mg x2 = some (.ref c2)) (g3 : Gl X x3) (m3 : X.mg x3 = some (.ref c3))
    (d1 : (x1 == ("__debug__" : Str)) = false) (d2 : (x2 == ("__debug__" : Str)) = false) (d3 : (x3 == ("__debug__" : Str)) = false)
    (hb : ∀ (W : WX) (pn : List (Addr × Obj)) (xe : Value → Shared → Prop), L2N.Takes (X.tr pn xe) W → PassesOwn (model X.prog X.w) X.A X.env xe → PSs (X.tr pn xe) body (tb W))
    (hsu : ∀ (a : Addr) (oe : Obj) (cls : Value) (d : Option Addr) (pn : List (Addr × Obj)), L2N.Zn cls d oe → (∃ vs, oe.data = .fields vs) → PSs (X.suite a ((a, oe) :: pn)) (b₀ :: suite) (ts a cls d)) :
    PS X (.Try body [.ExceptHandler (some (.Tuple [.Name x1 n1, .Name x2 n2, .Name x3 n3] kk tp)) (some n) (b₀ :: suite) pos'] [] [] pos) (fun D σ H => tb (wTup X.K [.ref c1, .ref c2, .ref c3] i ts D) D σ H) := by
  refine ⟨fun pins s σ H D I h => ?_⟩
  have ok := I.ok
  have frames : X.A.frames = some (X.env :: X.outer) := by rw [ok.frames, hs]
  refine wpAny_Try_except ?_
  refine wpAny_mono ((hb (wTup X.K [.ref c1, .ref c2, .ref c3] i ts D) (X.pn ++ pins) (fun e s₁ => wpAny (model X.prog X.w) X.A (noteFrame e X.env) (fun _ s₂ => wpAny (model X.prog X.w) X.A (setFlight e none) (fun _ s₃ =>
    wpAny (model X.prog X.w) X.A (handleBy e X.env [.ExceptHandler (some (.Tuple [.Name x1 n1, .Name x2 n2, .Name x3 n3] kk tp)) (some n) (b₀ :: suite) pos']) (SP X pins D) X.xe s₃) X.xe s₂) X.xe s₁) (fun u s' xx => ?_) PassesOwn.looking).run [] s σ H D (I.toTry _) h) (fun f s1 hsp => ?_) (fun e s1 he => he)
  · obtain ⟨a, B, sI, pins', σ', H', cls, d, rfl, J', nb, up, sky, na, os, ag, hb1, hyes⟩ := xx
    have J : Inv X pins σ' H' sI := J'.ofTry ok
    show wpAny (model X.prog X.w) X.A (noteFrame (.ref a) X.env) _ _ _
    refine L2N.Sky.land L2N.Zn.steady frames hf (by rw [← hs]; exact sky) fun h3 fl3 up3 => ?_
    have J3 : Inv X pins σ' H' { s' with heap := h3 } := J.landed nb fl3.1 (up.trans up3) os ag
    obtain ⟨oe3, vs3, he3, hz3, hd3⟩ := fl3.there
    have nfr : a ∉ frs (X.env :: X.outer) := fun hm => by
      obtain ⟨_, o', e', hnf⟩ := fl3.2.2.1.mem hm
      rw [he3] at e'
      cases e'
      exact hnf _ hd3
    have nL : a ≠ X.env.locals := fun z => nfr (List.mem_filterMap.mpr ⟨X.env, List.mem_cons_self, by rw [hf, z]⟩)
    have nF : a ∉ X.fs := fun hm => by
      obtain ⟨e, he, q⟩ := List.mem_filterMap.mp hm
      exact nfr (List.mem_filterMap.mpr ⟨e, List.mem_cons_of_mem _ he, q⟩)
    have S3 := J3.suite he3 hd3 na nL nF
    refine wpAny_handleBy_cons (codeAny_handlers_test ?_) (by intro q; cases q)
    -- the tuple of the classes
    refine Tuple_ (spliced_more (ld_glob (X := X.suite a ((a, oe3) :: (X.pn ++ pins))) S3 g1 m1 (spliced_more (ld_glob (X := X.suite a ((a, oe3) :: (X.pn ++ pins))) S3 g2 m2 (spliced_more (ld_glob (X := X.suite a ((a, oe3) :: (X.pn ++ pins))) S3 g3 m3 (spliced_none ?_) d3)) d2)) d1))
    refine wpAny_newObj_type ?_ (by show 3 ≤ sizeLine; decide)
    have kp : ∀ b o, h3.get? b = some o → (h3.push { cls := .type "tuple", data := .seq [Value.ref c1, .ref c2, .ref c3].toArray }).get? b = some o := fun b o e => Heap.get?_push_of_some _ e
    have J4 : Inv X pins σ' H' { s' with heap := h3.push { cls := .type "tuple", data := .seq [Value.ref c1, .ref c2, .ref c3].toArray } } := J3.kept (t' := s'.toks) kp
    have fl4 := FlyingZ.more fl3 kp
    have up4 : sI.heap.UpToSlots (h3.push { cls := .type "tuple", data := .seq [Value.ref c1, .ref c2, .ref c3].toArray }) := (up.trans up3).trans (.of_keeps kp)
    have LT : PySem.W.Looks (model X.prog X.w) (h3.push { cls := .type "tuple", data := .seq [Value.ref c1, .ref c2, .ref c3].toArray }) (typeOf (.ref a)) cls := fun A Q E s k q => wpAny_typeOf_ref (k _ _ (kp _ _ he3)) (by rw [hz3.1]; exact q)
    have LM := PySem.W.exm_tup3 (M := model X.prog X.w) (tp := h3.objs.size) J4.kIn LT (Heap.get?_push_size _ rfl) hb1
    generalize h3.push { cls := .type "tuple", data := .seq [Value.ref c1, .ref c2, .ref c3].toArray } = h4 at J4 fl4 up4 LT LM kp
    refine LM.here ?_
    refine codeAny_handlers_suite_as ?_
    refine HandSPX.lands_againZ fl4 fun h5 fl5 up5 => ?_
    have J5 : Inv X pins σ' H' { s' with heap := h5 } := J.landed nb fl5.1 (up4.trans up5) os ag
    obtain ⟨oe5, vs5, he5, hz5, hd5⟩ := fl5.there
    have S5 := J5.suite he5 hd5 na nL nF
    refine store_ok (X := X.suite a ((a, oe5) :: (X.pn ++ pins))) (v := .ref a) S5 hN hi (.inl hln) rfl (fun s6 S6 => ?_) (.inr hln)
    refine wpAny_mono ((hsu a oe5 cls d (X.pn ++ pins) hz5 ⟨_, hd5⟩).run [] s6 _ H' _ S6 (hyes a na)) (fun f s7 hsp => ?_) (fun _ _ z => z.elim)
    have fin : ∀ {σ7 : L2.St} {H7 : Hp} {Q : Shared → Prop}, Inv (X.suite a ((a, oe5) :: (X.pn ++ pins))) [] σ7 H7 s7 → (∀ s8, Inv X pins (σ7.set i none) H7 s8 → Q s8) →
        wpAny (model X.prog X.w) X.A (do bindName X.env n .none; unbindBehindTheSuite X.env n pos') (fun _ s8 => Q s8) X.xe s7 := fun {σ7 H7 Q} S7 hq => gone_ok (S7.unsuite ok) hN hi hln hq
    cases f with
    | next =>
      obtain ⟨σ7, H7, S7, q7⟩ := hsp
      exact fin S7 fun s8 J8 => ⟨_, _, J8, q7⟩
    | brk =>
      obtain ⟨σ7, H7, S7, q7⟩ := hsp
      exact fin S7 fun s8 J8 => ⟨_, _, J8, q7⟩
    | cont =>
      obtain ⟨σ7, H7, S7, q7⟩ := hsp
      exact fin S7 fun s8 J8 => ⟨_, _, J8, q7⟩
    | ret u =>
      obtain ⟨v7, σ7, H7, S7, r7, q7⟩ := hsp
      exact fin S7 fun s8 J8 => ⟨_, _, _, J8, r7, q7⟩
  · cases f with
    | next =>
      obtain ⟨σ8, H8, J8, q8⟩ := hsp
      exact wpAny_execs_nil ⟨σ8, H8, J8.ofTry ok, q8⟩
    | brk =>
      obtain ⟨σ8, H8, J8, q8⟩ := hsp
      exact ⟨σ8, H8, J8.ofTry ok, q8⟩
    | cont =>
      obtain ⟨σ8, H8, J8, q8⟩ := hsp
      exact ⟨σ8, H8, J8.ofTry ok, q8⟩
    | ret u =>
      obtain ⟨v, σ8, H8, J8, r8, q8⟩ := hsp
      exact ⟨v, σ8, H8, J8.ofTry ok, r8, q8⟩
end KB
end
section
set_option Elab.async false
set_option linter.all false
set_option maxRecDepth 100000
set_option maxHeartbeats 4000000
/-! a lambda handed to a def that catches; its error's context is None -/
namespace KB
open PySem PySem.Spec PyProof.Rows L2 LamX
/-- the lambda's body's context -/
def lamN (X : Cx) (A : Around) (outer : List Env) (s : Shared) (H : Hp) (E : XK) (scope : Scope) (f c' : Addr) : Cx :=
  { lamCx X A outer s H E scope f c' with xe := fun e s' => wpAny (model X.prog X.w) (A.deeper (lamEnv X scope s.heap.objs.size f c')) (leaving (lamEnv X scope s.heap.objs.size f c') e) (fun _ s'' => L2N.CX X.prog X.w outer H s E e s'') (fun e' s'' => L2N.CX X.prog X.w outer H s E e' s'') s' }
section
variable {X : Cx} {pins : List (Addr × Obj)} {σ : L2.St} {H : Hp} {s : Shared}
/-- x(), within the try of the def that got the lambda -/
theorem pe_actN {CXg : CXT} {Eg : XK} {Ng : List Str} {qg : Str} {sg : Scope} {g f c' : Addr} {cdg pm ctv : Value} {params : Arguments} {body : Expr} {scope : Scope} {k i : Nat} {a : Str} {pn : List (Addr × Obj)} {xe : Value → Shared → Prop} {W : WX} {E : XK} {tb : TE} {p1 p2 : Pos}
    (I : Inv X pins σ H s) (L : LamS X.env.scope scope) (hf : s.heap.get? f = some (PySem.W.kla_obj "<lambda>" (X.env.qual ++ "<lambda>") params body scope (cloFrom X.env.cells scope.names []) pm c' ctv)) (hfn : H f = none) (hfr : f ∉ frs X.stack)
    (hbind : bindArgs (PySem.W.kla_fn "<lambda>" (X.env.qual ++ "<lambda>") params body scope (cloFrom X.env.cells scope.names []) pm (.ref c') ctv) ⟨[], []⟩ = pure [])
    (tk : L2N.Takes ((cxOf CXg X.prog X.w X.K X.mg X.base Ng qg sg g cdg X.A X.stack s H Eg).tr pn xe) W) (hW : ∀ cls d σ' H', σ'.length = Ng.length → E cls d H' → W cls d σ' H') (hr : Room (k + 1) (X.A.deeper (envOfC qg sg s.heap.objs.size g cdg)))
    (hbody : ∀ (A : Around) (outer : List Env) (s : Shared) (H : Hp), Room k (A.deeper (lamEnv X scope s.heap.objs.size f c')) → PE (lamN X A outer s H E scope f c') body tb) (hN : Ng[i]? = some a) (hv : Vis sg a) (hd : (a == ("__debug__" : Str)) = false := by decide) (hcd : (a == ("__classdict__" : Str)) = false := by decide) :
    PE ((cxOf CXg X.prog X.w X.K X.mg X.base Ng qg sg g cdg X.A X.stack s H Eg).tr pn xe) (.Call (.Name a p1) [] [] p2) (fun σZ HZ Q => σZ[i]? = some (some (.ref f)) ∧ HZ c' = some (CodeO c' (X.env.qual ++ "<lambda>")) ∧ tb σ HZ Q) := by
  refine ⟨fun pinsZ sZ σZ HZ Q IZ ⟨hs, hc, ht⟩ => ?_⟩
  refine wpAny_Call_Name_kw (thn ((pe_var (pos := p1) (i := i) hN hv hd hcd).run pinsZ sZ σZ HZ (fun v H1 => v = .ref f ∧ H1 = HZ) IZ ⟨.ref f, hs, rfl, rfl⟩) fun u s1 ⟨v, H1, I1, r1, ev, eH⟩ => ?_)
  subst ev
  rw [eH] at I1
  obtain rfl : u = Value.ref f := r1
  have at1 : s1.heap.get? f = some (PySem.W.kla_obj "<lambda>" (X.env.qual ++ "<lambda>") params body scope (cloFrom X.env.cells scope.names []) pm c' ctv) := I1.base.keep f _ hf hfn hfr (fun z => nomatch (show f ∈ ([] : List Addr) from z))
  refine PySem.W.callWith_F0 ⟨_, _, _, _, at1⟩ ?_
  obtain ⟨⟨oc, vs, t, hoc, hdc, hvc⟩, _, _⟩ := I1.hok c' _ hc
  have run : codeAny (model X.prog X.w) (X.A.deeper (envOfC qg sg s.heap.objs.size g cdg)) (.call (.ref f) ⟨[], []⟩) (CR (L2N.CX X.prog X.w) (envOfC qg sg s.heap.objs.size g cdg :: X.stack) X.prog X.w HZ s1 Q E) s1 := by
    refine PySem.W.kla_callFunE hr.depth at1 rfl L.co L.gen rfl ⟨c', oc, vs, t, rfl, hoc, hdc, hvc⟩ ?_
    rw [hbind]
    refine wpAny_pure (wpAny_newFunctionEnv (fun y hy => (L.own y hy).2) (fun y hy => absurd hy (by simp)) (fun h1 hns hsb => ⟨I1.nolimit.fresh _ hsb, ?_⟩) L.kind)
    show codeAny _ _ (.expr body (lamEnv X scope s1.heap.objs.size f c')) _ _
    have J := lam_start2 (E := E) (f := f) (c' := c') (tk := s1.toks + ([] : List (Str × Value)).length) I L I1.env0 hr.hd I1.base hns fun b o e => hsb.extBut b o (Nat.ne_of_lt (Heap.lt_size e)) (Heap.get?_push_of_some _ e)
    refine PySem.W.kla_codeExpr (wpAny_mono ((hbody _ _ s1 HZ (hr.deeper _)).run [] _ σ HZ Q (J.wish _) ht) (fun v s' hq => ?_) fun e s' hq => hq)
    obtain ⟨w', H', J', rv, q⟩ := hq
    exact ⟨w', H', J'.os, J'.bare, J'.base, J'.hok, rv, q⟩
  refine wpAny_call (codeAny_mono run fun r s' hq => ?_)
  cases r with
  | error e => exact tk e s' (L2N.XE.of_call I1 (fun cls d H' h => hW cls d σZ H' I1.len h) hq)
  | ok fl =>
    cases fl with
    | ret u => exact I1.after hq
    | next => exact hq.elim
    | brk => exact hq.elim
    | cont => exact hq.elim
end
/-- the def g that catches: TT of the lambda's reading -/
def GivesN (X : Cx) (Ng : List Str) (x : Str) (sg : Scope) (g : Addr) (cdg : Value) (bg : List Stmt) (a : Str) (q : Str) (k : Nat) (TT : (XK → Hp → VK → Prop) → Hp → VK → Prop) : Prop :=
  ∀ (f c' : Addr) (s : Shared) (H : Hp) (Q : VK) (tl : XK → Hp → VK → Prop), Room (k + 1) (X.A.deeper (envOfC x sg s.heap.objs.size g cdg)) →
    (∀ (W : WX) (pn : List (Addr × Obj)) (xe : Value → Shared → Prop) (E : XK) (p1 p2 : Pos), L2N.Takes ((cxOf CX0 X.prog X.w X.K X.mg X.base Ng x sg g cdg X.A X.stack s H (fun _ _ _ => False)).tr pn xe) W → (∀ cls d σ' H', σ'.length = Ng.length → E cls d H' → W cls d σ' H') →
      PE ((cxOf CX0 X.prog X.w X.K X.mg X.base Ng x sg g cdg X.A X.stack s H (fun _ _ _ => False)).tr pn xe) (.Call (.Name a p1) [] [] p2) (fun σZ HZ Q => σZ[0]? = some (some (.ref f)) ∧ HZ c' = some (CodeO c' q) ∧ tl E HZ Q)) →
    H c' = some (CodeO c' q) → TT tl H Q →
    ∃ t, PSs (cxOf CX0 X.prog X.w X.K X.mg X.base Ng x sg g cdg X.A X.stack s H (fun _ _ _ => False)).nox bg t ∧ t { nx := fun _ H' => Q .non H', rt := Q } (L2.start Ng [.ref f]) H
section
variable {X : Cx}
/-- x(lambda: body) -/
theorem pe_lamN {T : List (Addr × Str)} {TT : (XK → Hp → VK → Prop) → Hp → VK → Prop} {x a : Str} {g c P : Addr} {k : Nat} {pg : Arguments} {bg : List Stmt} {sg : Scope} {dV kV doc pm cdv ct oc : Value} {an od : Option Addr} {osl : Array (Option Value)} {Ng : List Str} {params : Arguments} {body : Expr} {scope : Scope} {t : XK → TE} {p lpos pos : Pos}
    (hg : Gl X x) (hm : X.mg x = some (.ref g)) (hk : PySem.W.keepIn X.K (.ref g) = true) (lk : X.K.lookup g = some ⟨oc, od, .func (PySem.W.fnOf x x pg bg sg dV kV doc pm an cdv ct), osl⟩) (hcg : PySem.W.codeIn X.K cdv x = true)
    (hb : L2.Binds X.K (PySem.W.fnOf x x pg bg sg dV kV doc pm an cdv ct) [a] []) (Sg : FnScope Ng [a] sg) (hNg : Ng[0]? = some a) (hva : Vis sg a) (hG : GivesN X Ng x sg g cdv bg a (X.env.qual ++ "<lambda>") k TT)
    (TB : TabB X.base X.mg c P) (hcode : X.env.code = .ref c) (hmT : (P, X.env.qual ++ "<lambda>") ∈ T) (hu : ∀ p ∈ T, p.1 = P → p.2 = X.env.qual ++ "<lambda>") (hr : Room (k + 2) X.A) (L : LamS X.env.scope scope) (hdef : defaultsOf params X.env = ([], []))
    (hbind : ∀ (q : Str) (cl : List (Str × Addr)) (pm cv ctv : Value), bindArgs (PySem.W.kla_fn "<lambda>" q params body scope cl pm cv ctv) ⟨[], []⟩ = pure [])
    (hbody : ∀ (A : Around) (outer : List Env) (s : Shared) (H : Hp) (E : XK) (f c' : Addr), Room k (A.deeper (lamEnv X scope s.heap.objs.size f c')) → PE (lamN X A outer s H E scope f c') body (t E))
    (hdb : (x == ("__debug__" : Str)) = false := by decide) (hd : (a == ("__debug__" : Str)) = false := by decide) (hcd : (a == ("__classdict__" : Str)) = false := by decide) : PE X (.Call (.Name x p) [.Lambda params body scope lpos] [] pos) (tLam T TT t) := by
  refine ⟨fun pins s σ H Q I ⟨hT, h⟩ => ?_⟩
  refine wpAny_Call_Name_kw (ld_glob I hg hm (PySem.W.callWith_K (h₀ := X.base) I.ok.mod.kin hk ?_ (by rfl) (by rfl)) hdb)
  show wpAny _ _ (spliced ((false, eval (.Lambda params body scope lpos) X.env) :: backTo pos (starEach [] X.env))) _ _ _
  refine Calls.spliced_cons (lam_make2 I TB hcode hmT hu hT hdef (L.has I.ok) fun f c' pm' ctv H1 s' I1 eN T1 hf hfn hfr hco => Calls.spliced_nil ⟨I1.kIn, ?_⟩)
  have run : codeAny (model X.prog X.w) X.A (.call (.ref g) ⟨[.ref f], []⟩) (CR CX0 X.stack X.prog X.w H1 s' Q fun _ _ _ => False) s' := by
    refine run_ofS (N := Ng) (ps := [a]) (us := [.ref f]) (vs := [.ref f]) lk hcg Sg hr I1.env0 (hb s' [.ref f] I1.kIn rfl) (.cons rfl .nil) rfl fun hr' => ?_
    obtain ⟨t', ht', hq'⟩ := hG f c' s' H1 Q (fun E H' Q' => t E σ H' Q') hr' (fun W pn xe E p1 p2 tk hW => pe_actN (i := 0) I1 L hf hfn hfr (hbind _ _ _ _ _) tk hW hr' (fun A outer s H hr2 => hbody A outer s H E f c' hr2) hNg hva hd hcd) hco (h H1 eN T1)
    exact ⟨t', ht'.nox, hq'⟩
  refine wpAny_call (codeAny_mono run fun r s2 hq => ?_)
  cases r with
  | error e => exact hq.elim
  | ok fl =>
    cases fl with
    | ret u => exact I1.after hq
    | next => exact hq.elim
    | brk => exact hq.elim
    | cont => exact hq.elim
end
end KB
end
section
set_option Elab.async false
set_option linter.all false
set_option maxRecDepth 100000
set_option maxHeartbeats 4000000
/-! _law_heard -/
namespace KB
open PySem PySem.Spec PyProof.Rows L2 L2H LamX KM
theorem call_reprN {X : Cx} : CallR X (.builtin "repr") (fun xs H Q => xs = [.non] ∧ Q (.str "None") H) := by
  intro pins s σ H xs us Q I r h
  obtain ⟨rfl, q⟩ := h
  obtain ⟨u, rfl, ru⟩ := vals1 r
  obtain rfl : u = Value.none := ru
  exact PySem.P.repr_of_none ⟨.str _, H, I.tok _, ⟨_, rfl⟩, q⟩
abbrev cats (K : PySem.W.Frag) : List Value := [.ref (He.ga K "WrongValue"), .ref (He.ga K "WrongName"), .ref (He.ga K "NoAnswer")]
theorem cat_any {K : PySem.W.Frag} {e : Er} (k : Kit K e) : PySem.W.exmAny K (.ref (He.ga K e.nm)) (cats K) = some ((fam e).1 || ((fam e).2.1 || ((fam e).2.2 || false))) := by
  unfold cats PySem.W.exmAny
  rw [k.c1]
  unfold PySem.W.exmAny
  rw [k.c2]
  unfold PySem.W.exmAny
  rw [k.c3]
  unfold PySem.W.exmAny
  rfl
theorem Slip.caught {K : PySem.W.Frag} {mg : Str → Option Value} (W : Wd K mg) {H : Hp} {cls : Value} {d : Option Addr} {ts : List Str} (s : Slip K H cls d ts) : PySem.W.exmAny K cls (cats K) = some true := by
  cases s with
  | idx => exact (cat_any (W.er (e := erIdx) (by unfold ers; simp)).kit).trans (congrArg some (by decide +kernel))
  | unk => exact (cat_any (W.er (e := erUnk) (by unfold ers; simp)).kit).trans (congrArg some (by decide +kernel))
  | brk => exact (cat_any (W.er (e := erBro) (by unfold ers; simp)).kit).trans (congrArg some (by decide +kernel))
  | use => exact (cat_any (W.er (e := erUse) (by unfold ers; simp)).kit).trans (congrArg some (by decide +kernel))
  | not => exact (cat_any (W.er (e := erNot) (by unfold ers; simp)).kit).trans (congrArg some (by decide +kernel))
theorem pe_imp {X : Cx} {e : Expr} {t : TE} (h : PE X e t) : PE X e (fun σ H Q => ∃ Q1 : VK, (∀ v H', Q1 v H' → Q v H') ∧ t σ H Q1) := by
  refine ⟨fun pins s σ H Q I ⟨Q1, m, x⟩ => wpAny_mono (h.run pins s σ H Q1 I x) (fun u s' ⟨v, H', I', r, q⟩ => ⟨v, H', I', r, m _ _ q⟩) fun _ _ q => q⟩
/-- what is made of the lambda's reading -/
def THeard (K : PySem.W.Frag) : (XK → Hp → VK → Prop) → Hp → VK → Prop := fun tl H Q =>
  tl (fun cls d H' => ∃ ts, Slip K H' cls d ts ∧ ∀ p H2, Same H' H2 → H' p = none → H2 p = some (.lst (ts.map V.str)) → Q (.ref p) H2) H
    (fun v H' => v = .non ∧ ∀ p H2, Same H' H2 → H' p = none → H2 p = some (.lst [.str "told", .str "None"]) → Q (.ref p) H2)
theorem heard_gives {X : Cx} (W : Wd X.K X.mg) {cdv : Value} {q : Str} {k : Nat} (hk : 1 ≤ k) : GivesN X n__law_heard "_law_heard" (defScope s__law_heard) (He.ga X.K "_law_heard") cdv (defBody s__law_heard) "_law_call_here" q k (THeard X.K) := by
  intro f c' s H Q tl hr act hc h
  obtain ⟨fd, F, b, kp⟩ := ok__law_slip (P := X.prog) (w := X.w) (base := X.base) W
  refine ⟨_, pss_cons (ps_tryT (c1 := He.ga X.K "WrongValue") (c2 := He.ga X.K "WrongName") (c3 := He.ga X.K "NoAnswer") (i := 2)
    (tb := fun W D σ H => ∃ Ech : XK, (∀ cls d σ' H', σ'.length = 3 → Ech cls d H' → W cls d σ' H') ∧ σ[0]? = some (some (.ref f)) ∧ ∃ Q1 : VK, (∀ v H', Q1 v H' → D.nx (σ.set 1 (some v)) H') ∧ H c' = some (CodeO c' q) ∧ tl Ech H Q1)
    (ts := fun a cls d => tRet (tCall (spSlip X.K a cls d) [] (fun _ _ _ => False) (tCons (tVar 2) tNil)))
    rfl rfl sc__law_heard.nd rfl rfl rfl (W.glo (by decide +kernel)) rfl (W.glo (by decide +kernel)) rfl (W.glo (by decide +kernel)) (by decide) (by decide) (by decide) (fun W pn xe tk _ => ?_) (fun a oe cls d pn hz hf => ?_)) (pss_one (ps_ret (pe_lst (pa_cons pe_str (pa_cons (pe_callB call_reprN rfl (fr_repr W) (by decide +kernel) (pa_cons (pv 1) pa_nil)) pa_nil))))), ?_⟩
  · refine ⟨fun pins s' σ H' D I h' => ?_⟩
    obtain ⟨Ech, hW, h1, Q1, h0, h2, h3⟩ := h'
    exact (pss_one (ps_set (i := 1) sc__law_heard.nd rfl (.inl rfl) (pe_imp (act W pn xe Ech _ _ tk hW)))).run pins s' σ H' D I ⟨Q1, h0, h1, h2, h3⟩
  · refine pss_one (ps_ret (pe_callP F ?_ ?_ hz List.mem_cons_self rfl (W.glo (by decide +kernel)) kp b (pa_cons (pv 2) pa_nil)))
    · have hr1 := roomH_of (hr.mono (show 1 ≤ k + 1 by omega))
      exact ⟨hr1.dp, hr1.un⟩
    · obtain ⟨vs, hv⟩ := hf
      exact ⟨rfl, vs, hv, hz.2.2 vs hv⟩
  · refine ⟨fun cls d H' => ∃ ts, Slip X.K H' cls d ts ∧ ∀ p H2, Same H' H2 → H' p = none → H2 p = some (.lst (ts.map V.str)) → Q (.ref p) H2, ?_, rfl, _, ?_, hc, h⟩
    · rintro cls d σ' H' hl ⟨ts, sl, k⟩
      exact ⟨sl.caught W, fun a ha => ⟨_, by rw [List.getElem?_set_self (by omega)], ts, rfl, sl, k⟩⟩
    · rintro v H' ⟨rfl, k⟩
      exact ⟨_, rfl, rfl, by show 2 ≤ sizeLine; decide, fun p hp => k p _ (same_new hp) hp upd_same⟩
end KB
end
section
set_option Elab.async false
set_option linter.all false
set_option maxRecDepth 100000
set_option maxHeartbeats 4000000
/-! defs that run where no guard stands: repr of lists -/
namespace KB
open PySem PySem.Spec PyProof.Rows L2
structure FnG (P : Program) (w : World) (K : PySem.W.Frag) (mg : Str → Option Value) (base : Heap) (k : Nat) (f : Addr) (fd : FuncData) (ps : List Str) (sp : Sp) : Prop where
  len : ∀ vs H Q E, sp vs H Q E → vs.length = ps.length
  run : ∀ (A : Around) (outer : List Env) (s : Shared) (H : Hp) (args : Args) (us : List Value) (vs : List V) (Q : VK) (E : XK), A.guards = some [] → Room k A → Env0 P w K mg base A outer s H →
    BindsTo s fd args (ps.zip us) → Vals vs us → sp vs H Q E → codeAny (model P w) A (.call (.ref f) args) (CR CX0 outer P w H s Q E) s
structure OkG (P : Program) (w : World) (K : PySem.W.Frag) (mg : Str → Option Value) (base : Heap) (k : Nat) (x : Str) (ps : List Str) (sp : Sp) : Prop where
  ex : ∃ fd, FnG P w K mg base k (He.ga K x) fd ps sp ∧ Binds K fd ps []
  gl : mg x = some (.ref (He.ga K x))
  kp : PySem.W.keepIn K (.ref (He.ga K x)) = true
theorem FnF.okG {P : Program} {w : World} {K : PySem.W.Frag} {mg : Str → Option Value} {base : Heap} {x : Str} {st : Stmt} {ps N : List Str} {k : Nat} {sp : Sp} (F : FnF K mg x st ps) (S : FnScope N ps (defScope st))
    (len : ∀ vs H Q E, sp vs H Q E → vs.length = ps.length)
    (hbody : ∀ (cdv : Value) (A : Around) (outer : List Env) (s : Shared) (H : Hp) (vs : List V) (Q : VK) (E : XK), A.guards = some [] → (∃ (oc : Value) (od : Option Addr) (kV doc pm : Value) (an : Option Addr) (ct : Value) (osl : Array (Option Value)), K.lookup (He.ga K x) = some ⟨oc, od, .func (PySem.W.fnOf x x (defArgs st) (defBody st) (defScope st) .none kV doc pm an cdv ct), osl⟩ ∧ PySem.W.codeIn K cdv x = true) → Room k (A.deeper (envOfC x (defScope st) s.heap.objs.size (He.ga K x) cdv)) → sp vs H Q E →
      ∃ t, PSs (cxOf CX0 P w K mg base N x (defScope st) (He.ga K x) cdv A outer s H E).nox (defBody st) t ∧ t { nx := fun _ H' => Q .non H', rt := Q } (L2.start N vs) H) :
    OkG P w K mg base (k + 1) x ps sp := by
  obtain ⟨fd, G, b⟩ := F.ex
  obtain ⟨⟨oc, od, kV, doc, pm, an, cdv, ct, osl, rfl, lk, hcd⟩, kp⟩ := G
  refine ⟨⟨_, ⟨len, fun A outer s H args us vs Q E hg hr e0 hb r hsp => ?_⟩, b⟩, F.gl, kp⟩
  have hl := len _ _ _ _ hsp
  have KX : K.In s.heap := e0.mod.kin.keeps fun b o e => (e0.bs b o e).1
  have kinds : ∀ y ∈ ps.zip us, (defScope st).names.lookup y.1 = some .local ∨ ((defScope st).names.lookup y.1 = some .cell ∧ ((cellsFrom (s.heap.objs.size + 1) (defScope st).names []).lookup y.1).isSome = true) := fun ⟨n, v⟩ hy =>
    (S.par n (List.of_mem_zip hy).1).elim .inl fun q => .inr ⟨q, PySem.W.cellsFrom_some _ _ _ (.inl q)⟩
  refine codeAny_call_function hr.depth (KX _ _ lk) rfl S.co S.gen rfl (PySem.W.codeRec_of KX hcd) (hb _ _ _ _ (wpAny_newFunctionEnv_cells S.kind kinds fun env he s1 x => ?_))
  subst he
  refine ⟨(e0.mod.nolimit.keeps fun b o e => (e0.bs b o e).1).keeps x.toInCall.keep, codeAny_func ?_⟩
  obtain ⟨t, ht, hq⟩ := hbody cdv A outer s H vs Q E hg ⟨_, _, _, _, _, _, _, _, lk, hcd⟩ (hr.deeper _) hsp
  refine wpAny_mono (ht.nox.run [] s1 (L2.start N vs) H _ (inv_start S hr.hd e0 hl r x) hq) (fun fl s' hs => ?_) fun e s' hs => hs
  cases fl with
  | ret u =>
    obtain ⟨v, σ', H', J, rv, q⟩ := hs
    exact ⟨v, H', J.os, J.bare, J.base, J.hok, rv, q⟩
  | next =>
    obtain ⟨σ', H', J, q⟩ := hs
    exact ⟨V.non, H', J.os, J.bare, J.base, J.hok, rfl, q⟩
  | brk =>
    obtain ⟨_, _, _, q⟩ := hs
    exact q.elim
  | cont =>
    obtain ⟨_, _, _, q⟩ := hs
    exact q.elim
/-- its call -/
theorem pe_callG {X : Cx} {k : Nat} {f : Addr} {fd : FuncData} {ps : List Str} {sp : Sp} {x : Str} {q pos : Pos} {e : Expr} {es : List Expr} {t : TA} (F : FnG X.prog X.w X.K X.mg X.base k f fd ps sp) (hG : X.A.guards = some []) (hr : Room k X.A)
    (hg : Gl X x) (hm : X.mg x = some (.ref f)) (hk : PySem.W.keepIn X.K (.ref f) = true) (hb : Binds X.K fd ps []) (ha : PA X (e :: es) t) (hdb : (x == ("__debug__" : Str)) = false := by decide)
    (he : starEach (e :: es) X.env = (false, eval e X.env) :: starEach es X.env := by rfl) (hpl : (backTo pos (starEach es X.env)).any (·.1) = false := by rfl) :
    PE X (.Call (.Name x q) (e :: es) [] pos) (tCall sp [] (fun _ _ _ => False) t) := by
  refine ⟨fun pins s σ H Q I h => ?_⟩
  refine wpAny_Call_Name_kw (ld_glob I hg hm ?_ hdb)
  refine PySem.W.callWith_K (h₀ := X.base) I.ok.mod.kin hk (thn (ha.run pos pins s σ H _ I h) fun us s1 ⟨vs, H1, I1, r, q1⟩ => ⟨I1.kIn, ?_⟩) he hpl
  show wpAny _ _ (call (.ref f) us) _ _ _
  have q1 : sp (vs ++ []) H1 Q fun _ _ _ => False := q1
  rw [List.append_nil] at q1
  have hl : us.length = ps.length := by rw [← r.length]; exact F.len _ _ _ _ q1
  have bt := hb s1 us I1.kIn (by rw [List.append_nil]; exact hl)
  rw [List.append_nil] at bt
  refine wpAny_call (codeAny_mono (F.run X.A X.stack s1 H1 ⟨us, []⟩ us vs Q _ hG hr I1.env0 bt r q1) fun r s' hq => ?_)
  cases r with
  | error e => exact hq.elim
  | ok fl =>
    cases fl with
    | ret u => exact I1.after hq
    | next => exact hq.elim
    | brk => exact hq.elim
    | cont => exact hq.elim
/-- repr(a list or a tuple of data) -/
theorem call_reprD {X : Cx} (hG : X.A.guards = some []) (hu : X.A.units + 64 < cLine) : CallR X (.builtin "repr") (fun xs H Q => ∃ (a : Addr) (d : PyData), xs = [.ref a] ∧ Dp X.K H (.ref a) d ∧ d.showable = true ∧ d.hasDict = false ∧ d.depth ≤ 60 ∧ d.shown.length ≤ sizeLine ∧ Q (.str d.shown) H) := by
  intro pins s σ H xs us Q I r h
  obtain ⟨a, d, rfl, hd, h1, h2, h3, h4, q⟩ := h
  obtain ⟨u, rfl, ru⟩ := vals1 r
  obtain ⟨as, rd⟩ := Dp.reads I d (.ref a) u hd ru
  obtain rfl : u = Value.ref a := ru
  exact repr_of_reads' rd h1 (PyData.noDict_hsm h2) hG (by omega) (fun b o e => e) (fun h' u tk hk => ⟨.str d.shown, H, (I.kept (t' := tk) hk), ⟨_, rfl⟩, q⟩) h4
end KB
end
section
set_option Elab.async false
set_option linter.all false
set_option maxRecDepth 100000
set_option maxHeartbeats 4000000
/-! what is told of a book, as data -/
namespace KB
open PySem PySem.Spec PyProof.Rows L2 KM
def Wi.dat : Wi → PyData
  | .sp true a n => .tuple [.str "splits", .str a, .int n]
  | .sp false a n => .tuple [.str "whole", .str a, .int n]
  | .al a => .tuple [.str "always", .str a]
  | .ak a b => .tuple [.str "alike", .str a, .str b]
def toldD (sh : Sh) (ws : List Wi) (m : Nat) : PyData := .list [.tuple ((srt sh).map PyData.str), .tuple (ws.map Wi.dat), .int m, .int (sh.length : Nat), .bool (decide (sh.length ≠ 0))]
theorem wi_dp {K : PySem.W.Frag} {G : Hp} {i : Wi} {v : V} (h : WiAt G i v) : Dp K G v i.dat := by
  obtain ⟨p, rfl, e⟩ := h
  cases i with
  | sp b a n => cases b <;> exact .tup (.of e) (.cons (.str _) (.cons (.str _) (.cons (.int _) .nil)))
  | al a => exact .tup (.of e) (.cons (.str _) (.cons (.str _) .nil))
  | ak a b => exact .tup (.of e) (.cons (.str _) (.cons (.str _) (.cons (.str _) .nil)))
theorem wis_dp {K : PySem.W.Frag} {G : Hp} : ∀ {ws : List Wi} {vs : List V}, Paired (WiAt G) ws vs → DpAll K G vs (ws.map Wi.dat)
  | _, _, .nil => .nil
  | _, _, .cons h t => .cons (wi_dp h) (wis_dp t)
theorem strs_dp {K : PySem.W.Frag} {G : Hp} : ∀ l : List Str, DpAll K G (l.map V.str) (l.map PyData.str)
  | [] => .nil
  | a :: r => .cons (.str a) (strs_dp r)
theorem told_dp {K : PySem.W.Frag} {G : Hp} {sh : Sh} {ws : List Wi} {m : Nat} {l t1 t2 : Addr} {vs : List V} (h1 : G t1 = some (.tup ((srt sh).map V.str))) (h2 : G t2 = some (.tup vs)) (h3 : Paired (WiAt G) ws vs)
    (h : G l = some (.lst [.ref t1, .ref t2, .int m, .int (sh.length : Nat), .bl (decide (sh.length ≠ 0))])) : Dp K G (.ref l) (toldD sh ws m) :=
  .lst (.of h) (.cons (.tup (.of h1) (strs_dp _)) (.cons (.tup (.of h2) (wis_dp h3)) (.cons (.int _) (.cons (.int _) (.cons (.bl _) .nil)))))
/-! ### it can be shown -/
theorem log_nok {n : Nat} (h : n ≤ 1000000000000000000000000000000) : decide ((n : Int).natAbs.log2 < 1920) = true := by
  rw [Int.natAbs_natCast]
  refine decide_eq_true ?_
  by_cases c : n = 0
  · rw [c]; decide
  · exact (Nat.log2_lt c).mpr (Nat.lt_of_le_of_lt h (Nat.lt_of_lt_of_le (show 1000000000000000000000000000000 < 2 ^ 100 by decide) (Nat.pow_le_pow_right (by decide) (by decide))))
theorem all_of {α : Type} {f : PyData → Bool} {fA : List PyData → Bool} (h0 : fA [] = true) (h1 : ∀ x xs, fA (x :: xs) = (f x && fA xs)) (g : α → PyData) : ∀ l : List α, (∀ a ∈ l, f (g a) = true) → fA (l.map g) = true
  | [], _ => h0
  | a :: r, h => by
    rw [List.map_cons, h1, h a List.mem_cons_self, all_of h0 h1 g r fun b hb => h b (List.mem_cons_of_mem _ hb)]
    rfl
theorem showA : PyData.showableAll [] = true ∧ ∀ x xs, PyData.showableAll (x :: xs) = (PyData.showable x && PyData.showableAll xs) := ⟨by simp only [PyData.showableAll], fun x xs => by simp only [PyData.showableAll]⟩
theorem shortA (B : Nat) : PyData.leavesShortAll B [] = true ∧ ∀ x xs, PyData.leavesShortAll B (x :: xs) = (PyData.leavesShort B x && PyData.leavesShortAll B xs) := ⟨by simp only [PyData.leavesShortAll], fun x xs => by simp only [PyData.leavesShortAll]⟩
theorem dictA : (!PyData.hasDictAll []) = true ∧ ∀ x xs, (!PyData.hasDictAll (x :: xs)) = ((!PyData.hasDict x) && !PyData.hasDictAll xs) := ⟨by simp only [PyData.hasDictAll]; rfl, fun x xs => by simp only [PyData.hasDictAll, Bool.not_or]⟩
theorem depth_le : ∀ l : List PyData, (∀ d ∈ l, d.depth ≤ 1) → PyData.depthAll l ≤ 1
  | [], _ => by simp only [PyData.depthAll]; omega
  | d :: r, h => by
    have h1 := h d List.mem_cons_self
    have h2 := depth_le r fun b hb => h b (List.mem_cons_of_mem _ hb)
    simp only [PyData.depthAll]
    omega
theorem weight_le : ∀ l : List PyData, (∀ d ∈ l, d.weight ≤ 1000) → PyData.weightAll l ≤ 1001 * l.length
  | [], _ => by simp only [PyData.weightAll]; omega
  | d :: r, h => by
    have h1 := h d List.mem_cons_self
    have h2 := weight_le r fun b hb => h b (List.mem_cons_of_mem _ hb)
    simp only [PyData.weightAll, List.length_cons]
    omega
theorem w_title {a : Str} (h : a ∈ titles) : (PyData.str a).weight ≤ 4 ∧ (PyData.str a).leavesShort 40 = true := by
  rcases (show a = "a" ∨ a = "main" ∨ a = "zz" by simpa [titles] using h) with rfl | rfl | rfl <;> decide +kernel
theorem w_int {n : Nat} (h : n ≤ 1000000000000000000000000000000) : (PyData.int n).weight ≤ 200 ∧ (PyData.int n).leavesShort 40 = true ∧ (PyData.int n).showable = true := by
  have l : (n : Int).natAbs.log2 ≤ 100 := by
    rw [Int.natAbs_natCast]
    by_cases c : n = 0
    · rw [c]; decide
    · exact Nat.le_of_lt ((Nat.log2_lt c).mpr (Nat.lt_of_le_of_lt h (by decide)))
  refine ⟨?_, ?_, ?_⟩
  · simp only [PyData.weight]
    split <;> omega
  · simp only [PyData.leavesShort, decide_eq_true_eq]
    have e := int_text_length_le10 (a := (n : Int)) (k := 31) (by decide) (by rw [Int.natAbs_natCast]; exact Nat.lt_of_le_of_lt h (by decide))
    show (Str.ofString (toString (n : Int))).length ≤ 40
    rw [PySem.ofString_length]
    omega
  · simp only [PyData.showable]
    exact log_nok h
theorem w_wi {i : Wi} (h : i.Ok) : i.dat.weight ≤ 1000 ∧ i.dat.leavesShort 40 = true ∧ i.dat.showable = true ∧ i.dat.hasDict = false ∧ i.dat.depth ≤ 1 := by
  have k1 : (PyData.str "splits").weight = 6 ∧ (PyData.str "splits").leavesShort 40 = true := by decide +kernel
  have k2 : (PyData.str "whole").weight = 5 ∧ (PyData.str "whole").leavesShort 40 = true := by decide +kernel
  have k3 : (PyData.str "always").weight = 6 ∧ (PyData.str "always").leavesShort 40 = true := by decide +kernel
  have k4 : (PyData.str "alike").weight = 5 ∧ (PyData.str "alike").leavesShort 40 = true := by decide +kernel
  have d0 : ∀ (a b : PyData), a.depth = 0 → b.depth = 0 → (PyData.tuple [a, b]).depth ≤ 1 := fun a b ha hb => by simp only [PyData.depth, PyData.depthAll, ha, hb]; omega
  have d1 : ∀ (a b c : PyData), a.depth = 0 → b.depth = 0 → c.depth = 0 → (PyData.tuple [a, b, c]).depth ≤ 1 := fun a b c ha hb hc => by simp only [PyData.depth, PyData.depthAll, ha, hb, hc]; omega
  have zs : ∀ a : Str, (PyData.str a).depth = 0 := fun a => by simp only [PyData.depth]
  have zi : ∀ a : Int, (PyData.int a).depth = 0 := fun a => by simp only [PyData.depth]
  have ss : ∀ a : Str, (PyData.str a).showable = true := fun a => by simp only [PyData.showable]
  have hs : ∀ a : Str, (PyData.str a).hasDict = false := fun a => by simp only [PyData.hasDict]
  have hi : ∀ a : Int, (PyData.int a).hasDict = false := fun a => by simp only [PyData.hasDict]
  have w3 : ∀ a b c : PyData, (PyData.tuple [a, b, c]).weight = a.weight + 1 + (b.weight + 1 + (c.weight + 1 + 0)) := fun a b c => by simp only [PyData.weight, PyData.weightAll]
  have w2 : ∀ a b : PyData, (PyData.tuple [a, b]).weight = a.weight + 1 + (b.weight + 1 + 0) := fun a b => by simp only [PyData.weight, PyData.weightAll]
  have l3 : ∀ a b c : PyData, (PyData.tuple [a, b, c]).leavesShort 40 = (a.leavesShort 40 && (b.leavesShort 40 && (c.leavesShort 40 && true))) := fun a b c => by simp only [PyData.leavesShort, PyData.leavesShortAll]
  have l2 : ∀ a b : PyData, (PyData.tuple [a, b]).leavesShort 40 = (a.leavesShort 40 && (b.leavesShort 40 && true)) := fun a b => by simp only [PyData.leavesShort, PyData.leavesShortAll]
  have s3 : ∀ a b c : PyData, (PyData.tuple [a, b, c]).showable = (a.showable && (b.showable && (c.showable && true))) := fun a b c => by simp only [PyData.showable, PyData.showableAll]
  have s2 : ∀ a b : PyData, (PyData.tuple [a, b]).showable = (a.showable && (b.showable && true)) := fun a b => by simp only [PyData.showable, PyData.showableAll]
  have h3 : ∀ a b c : PyData, (PyData.tuple [a, b, c]).hasDict = (a.hasDict || (b.hasDict || (c.hasDict || false))) := fun a b c => by simp only [PyData.hasDict, PyData.hasDictAll]
  have h2 : ∀ a b : PyData, (PyData.tuple [a, b]).hasDict = (a.hasDict || (b.hasDict || false)) := fun a b => by simp only [PyData.hasDict, PyData.hasDictAll]
  cases i with
  | sp p a n =>
    obtain ⟨ha, hn⟩ := h
    obtain ⟨wa, la⟩ := w_title ha
    obtain ⟨wn, ln, sn⟩ := w_int hn.2
    cases p
    · refine ⟨?_, ?_, ?_, ?_, d1 _ _ _ (zs _) (zs _) (zi _)⟩
      · unfold Wi.dat; rw [w3]; omega
      · unfold Wi.dat; rw [l3, k2.2, la, ln]; rfl
      · unfold Wi.dat; rw [s3, ss, ss, sn]; rfl
      · unfold Wi.dat; rw [h3, hs, hs, hi]; rfl
    · refine ⟨?_, ?_, ?_, ?_, d1 _ _ _ (zs _) (zs _) (zi _)⟩
      · unfold Wi.dat; rw [w3]; omega
      · unfold Wi.dat; rw [l3, k1.2, la, ln]; rfl
      · unfold Wi.dat; rw [s3, ss, ss, sn]; rfl
      · unfold Wi.dat; rw [h3, hs, hs, hi]; rfl
  | al a =>
    obtain ⟨wa, la⟩ := w_title h
    refine ⟨?_, ?_, ?_, ?_, d0 _ _ (zs _) (zs _)⟩
    · unfold Wi.dat; rw [w2]; omega
    · unfold Wi.dat; rw [l2, k3.2, la]; rfl
    · unfold Wi.dat; rw [s2, ss, ss]; rfl
    · unfold Wi.dat; rw [h2, hs, hs]; rfl
  | ak a b =>
    obtain ⟨wa, la⟩ := w_title h.1
    obtain ⟨wb, lb⟩ := w_title h.2
    refine ⟨?_, ?_, ?_, ?_, d1 _ _ _ (zs _) (zs _) (zs _)⟩
    · unfold Wi.dat; rw [w3]; omega
    · unfold Wi.dat; rw [l3, k4.2, la, lb]; rfl
    · unfold Wi.dat; rw [s3, ss, ss, ss]; rfl
    · unfold Wi.dat; rw [h3, hs, hs, hs]; rfl
theorem srt_in {sh : Sh} : ∀ a ∈ srt sh, a ∈ titles := fun a h => (List.mem_filter.mp h).1
theorem srt_len {sh : Sh} : (srt sh).length ≤ 3 := List.length_filter_le _ _
theorem told_ok {sh : Sh} {ws : List Wi} {m : Nat} (hs : ShOk sh) (hw : ∀ i ∈ ws, i.Ok) (hl : ws.length ≤ 50) (hm : m ≤ 100) :
    (toldD sh ws m).showable = true ∧ (toldD sh ws m).hasDict = false ∧ (toldD sh ws m).depth ≤ 60 ∧ (toldD sh ws m).shown.length ≤ sizeLine := by
  have i1 := w_int (n := m) (by omega)
  have i2 := w_int (n := sh.length) (by have := hs.len; omega)
  refine ⟨?_, ?_, ?_, ?_⟩
  · unfold toldD
    simp only [PyData.showable, PyData.showableAll, Bool.and_true]
    rw [all_of showA.1 showA.2 PyData.str (srt sh) fun a _ => by simp only [PyData.showable], all_of showA.1 showA.2 Wi.dat ws fun i hi => (w_wi (hw i hi)).2.2.1]
    rw [log_nok (show m ≤ _ by omega), log_nok (show sh.length ≤ _ by have := hs.len; omega)]
    rfl
  · have e : (!(toldD sh ws m).hasDict) = true := by
      unfold toldD
      simp only [PyData.hasDict, PyData.hasDictAll, Bool.or_false, Bool.not_or]
      rw [all_of (f := fun d => !d.hasDict) (fA := fun l => !PyData.hasDictAll l) dictA.1 dictA.2 PyData.str (srt sh) fun a _ => by simp only [PyData.hasDict]; rfl,
        all_of (f := fun d => !d.hasDict) (fA := fun l => !PyData.hasDictAll l) dictA.1 dictA.2 Wi.dat ws fun i hi => by show (!i.dat.hasDict) = true; rw [(w_wi (hw i hi)).2.2.2.1]; rfl]
      rfl
    cases q : (toldD sh ws m).hasDict with
    | false => rfl
    | true => rw [q] at e; cases e
  · unfold toldD
    have d1 := depth_le ((srt sh).map PyData.str) fun d hd => by
      obtain ⟨a, _, rfl⟩ := List.mem_map.mp hd
      simp only [PyData.depth]
      omega
    have d2 := depth_le (ws.map Wi.dat) fun d hd => by
      obtain ⟨i, hi, rfl⟩ := List.mem_map.mp hd
      exact (w_wi (hw i hi)).2.2.2.2
    simp only [PyData.depth, PyData.depthAll]
    omega
  · have e1 : (toldD sh ws m).leavesShort 40 = true := by
      unfold toldD
      have l1 := i1.2.1
      have l2 := i2.2.1
      simp only [PyData.leavesShort, PyData.leavesShortAll, Bool.and_true] at l1 l2 ⊢
      rw [all_of (shortA 40).1 (shortA 40).2 PyData.str (srt sh) fun a ha => (w_title (srt_in a ha)).2, all_of (shortA 40).1 (shortA 40).2 Wi.dat ws fun i hi => (w_wi (hw i hi)).2.1, l1, l2]
      rfl
    have e2 : (toldD sh ws m).weight ≤ 100000 := by
      unfold toldD
      have w1 := weight_le ((srt sh).map PyData.str) fun d hd => by
        obtain ⟨a, ha, rfl⟩ := List.mem_map.mp hd
        have := (w_title (srt_in a ha)).1
        omega
      have w2 := weight_le (ws.map Wi.dat) fun d hd => by
        obtain ⟨i, hi, rfl⟩ := List.mem_map.mp hd
        exact (w_wi (hw i hi)).1
      have e3 := srt_len (sh := sh)
      rw [List.length_map] at w1 w2
      have j1 := i1.1
      have j2 := i2.1
      have e4 : (PyData.list [.tuple ((srt sh).map PyData.str), .tuple (ws.map Wi.dat), .int m, .int (sh.length : Nat), .bool (decide (sh.length ≠ 0))]).weight = (PyData.weightAll ((srt sh).map PyData.str)) + 1 + (PyData.weightAll (ws.map Wi.dat) + 1 + ((PyData.int m).weight + 1 + ((PyData.int (sh.length : Nat)).weight + 1 + (0 + 1 + 0)))) := by
        simp only [PyData.weight, PyData.weightAll]
      rw [e4]
      omega
    have h := PyData.shown_le 40 (by decide) _ e1
    rw [sizeLine_eq]
    omega
end KB
end
section
set_option Elab.async false
set_option linter.all false
set_option maxRecDepth 100000
set_option maxHeartbeats 4000000
/-! _law_book_is -/
namespace KB
open PySem PySem.Spec PyProof.Rows L2 KM
theorem iteBF {b : Bool} {A B : Prop} (h : b = false) (q : B) : if b = true then A else B := by rw [if_neg (by rw [h]; decide)]; exact q
theorem eqv_two (i j : Int) : PyData.eqv (.tuple [.int i, .int j]) (.tuple [.int i, .int j]) = true := by
  simp [PyData.eqv, PyData.eqvAll]
/-- d != {} -/
theorem op_neE {X : Cx} (hu : X.A.units < cLine) : OpR X (compareOp .NotEq) (fun x y H Q => ∃ a b ks, x = .ref a ∧ y = .ref b ∧ H a = some (.dK ks) ∧ H b = some (.dK []) ∧ Q (.bl (decide (ks.length ≠ 0))) H) := by
  intro pins s σ H x y v u Q I rx ry h
  obtain ⟨a, b, ks, rfl, rfl, ea, eb, q⟩ := h
  obtain rfl : v = Value.ref a := rx
  obtain rfl : u = Value.ref b := ry
  obtain ⟨_, ya, va, ra, da⟩ := (show ObjOk X.prog X.w H s.heap a (.dK ks) from I.hok a _ ea)
  obtain ⟨_, yb, vb, rb, db⟩ := (show ObjOk X.prog X.w H s.heap b (.dK []) from I.hok b _ eb)
  have la : ks.length = va.length := ra.length
  have lb : 0 = vb.length := rb.length
  refine PySem.W.keq_ne (knd := mixKind X.prog X.w) (r := true) ya yb da db hu (fun hl => ?_) (fin_bl I q ?_)
  · have e : ks = [] := List.length_eq_zero_iff.mp (by omega)
    subst e
    exact hits_all rb ra fun _ hp => nomatch hp
  · rw [la, ← lb]
    cases va <;> rfl
section
variable {K : PySem.W.Frag} {mg : Str → Option Value}
theorem bk_prop (W : Wd K mg) {f : Str} (h : f ∈ bprops) : PropOf K (Bk K) f (He.ma K (Bk K) f) (gAd K ("Book", some f)) := by
  have hb := W.exAll.2.1
  unfold bookB at hb
  have h3 := List.all_eq_true.mp (He.ba (He.ba hb).2).2 f h
  obtain ⟨h4, h5⟩ := He.ba h3
  obtain ⟨h6, h7⟩ := He.ba h5
  obtain ⟨h8, h9⟩ := He.ba h7
  have h9' : (match PySem.W.recIn K (He.ma K (Bk K) f) "property" with | some (.ref _ :: _) => true | _ => false) = true := h9
  refine ⟨He.eqO_ok h4, He.eqO_ok h6, of_decide_eq_true h8, ?_⟩
  show ∃ rest, PySem.W.recIn K (He.ma K (Bk K) f) "property" = some (.ref (gAd K ("Book", some f)) :: rest)
  have eg : gAd K ("Book", some f) = match PySem.W.recIn K (He.ma K (Bk K) f) "property" with | some (.ref g :: _) => g | _ => 0 := rfl
  rw [eg]
  split at h9'
  · next g r e => exact ⟨r, by rw [e]⟩
  · cases h9'
theorem FnM.fnin {x qual : Str} {st : Stmt} {f : Addr} {ps : List Str} (F : FnM K x qual st f ps) : PySem.W.fnIn K f = true := by
  obtain ⟨_, ⟨⟨oc, od, kV, doc, pm, an, cdv, ct, osl, rfl, lk, _⟩, _⟩, _⟩ := F.ex
  unfold PySem.W.fnIn
  rw [lk]
theorem num_plan {G : Hp} {x : Addr} {π ρ : Pl} (h1 : PNum G x π) (h2 : PlanAt G x ρ) : False := by
  obtain ⟨r, _, e⟩ := h2
  have e1 : G x = _ := h1
  rw [e1] at e
  injection e with e
  injection e with e
  injection e with _ e
  injection e with e _
  cases e
theorem nd_ne {G : Hp} {d a : Addr} {sh sh' : Sh} (h : DAt PlanAt G d sh) (n : sh ≠ []) (h' : DAt PNum G a sh') : a ≠ d := by
  rintro rfl
  obtain ⟨kvs, e, en⟩ := h
  obtain ⟨kvs', e', en'⟩ := h'
  rw [e] at e'
  cases e'
  cases en with
  | nil => exact n rfl
  | cons h1 _ =>
    cases en' with
    | cons h2 _ =>
      obtain ⟨_, x, ex, hx⟩ := h1
      obtain ⟨_, y, ey, hy⟩ := h2
      rw [ex] at ey
      cases ey
      exact num_plan hy hx
theorem num_kb {G G' : Hp} {d x : Addr} {π : Pl} {kvs : List (Key × V)} (h : PNum G x π) (e : G d = some (.dK kvs)) (k : Kb d G G') : PNum G' x π := by
  have h' : G x = _ := h
  exact k x _ (fun z => by rw [z, e] at h'; cases h') h
theorem dat_kb {G G' : Hp} {d a : Addr} {sh : Sh} {kvs : List (Key × V)} (h : DAt PNum G a sh) (n : a ≠ d) (e : G d = some (.dK kvs)) (k : Kb d G G') : DAt PNum G' a sh := by
  obtain ⟨vs, ea, en⟩ := h
  exact ⟨vs, k _ _ n ea, Paired.mapP en fun _ _ ⟨h1, x, ex, hx⟩ => ⟨h1, x, ex, num_kb hx e k⟩⟩
theorem wts_kb {G G' : Hp} {d t : Addr} {ws : List Wi} {kvs : List (Key × V)} (h : WTs G t ws) (e : G d = some (.dK kvs)) (k : Kb d G G') : WTs G' t ws := by
  obtain ⟨vs, et, en⟩ := h
  refine ⟨vs, k _ _ (fun z => by rw [z, e] at et; cases et) et, Paired.mapP en fun _ _ ⟨p, ep, hp⟩ => ⟨p, ep, k _ _ (fun z => by rw [z, e] at hp; cases hp) hp⟩⟩
/-- the book while a page's dict is locked -/
theorem BookAt.locked {M : List Addr} {H : Hp} {b d : Addr} {ps : List Pg} {pg : Pg} {sh : Sh} {kvs : List (Key × V)} {od : Obj} (h : BookAt K M H b ps pg) (hd : DAt PlanAt (off M H) d sh) (n : sh ≠ []) (e : H d = some (.dK kvs)) (hM : d ∉ M) :
    BookAt K M (upd H d (.frz od (.dK kvs))) b ps pg := by
  obtain ⟨dx, nd, mt, pt, e0, e1, e2, vs, e3, e4⟩ := h
  have eo : off M H d = some (.dK kvs) := by rw [off_at hM]; exact e
  have k : Kb d (off M H) (off M (upd H d (.frz od (.dK kvs)))) := fun c o hc ho => by
    unfold off at *
    by_cases z : c ∈ M
    · rw [if_pos z] at ho; cases ho
    · rw [if_neg z] at *
      rw [upd_ne hc]
      exact ho
  refine ⟨dx, nd, mt, pt, ?_, dat_kb e1 (nd_ne hd n e1) eo k, wts_kb e2 eo k, vs, k _ _ (fun z => by rw [z, eo] at e3; cases e3) e3, Paired.mapP e4 ?_⟩
  · rw [upd_ne fun z => by rw [z, e] at e0; cases e0]
    exact e0
  · rintro pg' v ⟨p, d', t, ev, h1, h2, h3⟩
    exact ⟨p, d', t, ev, k _ _ (fun z => by rw [z, eo] at h1; cases h1) h1, dat_kb h2 (nd_ne hd n h2) eo k, wts_kb h3 eo k⟩
end
section
variable {P : Program} {w : World} {K : PySem.W.Frag} {mg : Str → Option Value} {base : Heap}
def spIs (K : PySem.W.Frag) : Sp := fun vs H Q _ => ∃ b v m M ps pg, vs = [.ref b, v, .int (m : Nat)] ∧ BookAt K M H b ps pg ∧ PgOk pg ∧ ps.length = m ∧ m ≤ 100 ∧ pg.2.length ≤ 50 ∧ PageAt (off M H) pg v ∧ ∀ H', Same H H' → Q (.bl true) H'
theorem ok__law_book_is (W : Wd K mg) : OkG P w K mg base 8 "_law_book_is" ["_law_book_here", "_law_page", "_law_many"] (spIs K) := by
  have O__law_pair := ok__law_pair (P := P) (w := w) (base := base) W
  obtain ⟨_, G_names, b_names⟩ := (ok_Book_names (P := P) (w := w) (base := base) W).ex
  obtain ⟨_, G_wishes, b_wishes⟩ := (ok_Book_wishes (P := P) (w := w) (base := base) W).ex
  obtain ⟨_, G_changes, b_changes⟩ := (ok_Book_changes (P := P) (w := w) (base := base) W).ex
  obtain ⟨_, G_len, b_len⟩ := (ok_Book_len (P := P) (w := w) (base := base) W).ex
  obtain ⟨_, G_get, b_get⟩ := (ok_Book_getitem (P := P) (w := w) (base := base) W).ex
  refine (fn__law_book_is W).okG sc__law_book_is (fun vs H Q E h => ?_) (fun cdv A outer s H vs Q E hG hcd hr h => ?_)
  · obtain ⟨b, v, m, _, _, _, rfl, _⟩ := h
    rfl
  · obtain ⟨b, v, m, M, ps, ⟨sh, ws⟩, rfl, hB, hok, hm, hm1, hwl, hP, k⟩ := h
    have hu := hu_of hr
    refine ⟨_, (pss_cons (ps_asg (pv 1) (pg_tup rfl (pgs_cons (pg_name (i := 3) sc__law_book_is.nd rfl (.inr rfl)) (pgs_cons (pg_name (i := 4) sc__law_book_is.nd rfl (.inl rfl)) pgs_nil))))
      (pss_cons (ps_set (i := 5) sc__law_book_is.nd rfl (.inl rfl) (pe_lst (pa_cons (pe_prop (pv 0) (bk_cls W) (bk_prop W (by simp [bprops])) G_names (hr.mono (by decide)) b_names .nil pass0 rfl) (pa_cons (pe_prop (pv 0) (bk_cls W) (bk_prop W (by simp [bprops])) G_wishes (hr.mono (by decide)) b_wishes .nil pass0 rfl) (pa_cons (pe_prop (pv 0) (bk_cls W) (bk_prop W (by simp [bprops])) G_changes (hr.mono (by decide)) b_changes .nil pass0 rfl) (pa_cons (pe_callB (call_ownLen (bk_meth W (by simp [bmeths])) G_len (hr.mono (by decide)) b_len pass0) rfl (fr_len W) (by decide +kernel) (pa_cons (pv 0) pa_nil)) (pa_cons (pe_callTy (call_ownBool (bk_meth W (by simp [bmeths])) (bk_no4 W) G_len (hr.mono (by decide)) b_len pass0) rfl (fr_bool W) (by decide +kernel) (pa_cons (pv 0) pa_nil)) pa_nil)))))))
      (pss_cons (ps_if (pt_cmpR op_ne (pe_callB (call_reprD hG hr.units) rfl (fr_repr W) (by decide +kernel) (pa_cons (pv 5) pa_nil)) (pe_callB (call_reprD hG hr.units) rfl (fr_repr W) (by decide +kernel) (pa_cons (pe_lst (pa_cons (pe_callTy call_tuple_of rfl (fr_tuple W) (by decide +kernel) (pa_cons (pe_callB (call_sortedD rfl) rfl (fr_sorted W) (by decide +kernel) (pa_cons (pv 3) pa_nil)) pa_nil)) (pa_cons (pe_callTy call_tuple_of rfl (fr_tuple W) (by decide +kernel) (pa_cons (pv 4) pa_nil)) (pa_cons (pv 2) (pa_cons (pe_callB call_lenD rfl (fr_len W) (by decide +kernel) (pa_cons (pv 3) pa_nil)) (pa_cons (pe_cmpR (op_neE (Nat.lt_of_le_of_lt (Nat.le_add_right _ 64) hr.units)) (pv 3) pe_dnewK (nomark _)) pa_nil)))))) pa_nil)) (nomark _)) (pss_one (ps_ret pe_bl)) pss_nil)
      (pss_one (ps_ret (pe_cmpR (op_eqD hr.units) (pe_lock (pe_lc (own := [("_law_title", 6)]) (g := gName 6) rfl sc__law_book_is.nd (pi_keys (pv 3)) (blkOk_by (own := [("_law_title", 6)]) (N := n__law_book_is) (sc := defScope s__law_book_is) (by decide +kernel)) (fun _ _ _ _ _ => pg_name (i := 6) sc__law_book_is.nd rfl (Or.inl rfl)) (fun _ _ _ _ _ => (pts_one (pt_cmpR (r := rNeD K) (op_neD hr.units) (pe_ownSub (bk_meth W (by simp [bmeths])) (fn_Book_getitem W).fnin G_get (hr.mono (by decide)) b_get pass0 (pv 0) (pv 6)) (pcall O__law_pair (hr.mono (by decide)) (pa_cons (pe_ix (r := rIxT K) ix_tup (pe_dget hu (pv 3) (pv 6) (fun _ _ => rfl)) pe_int (fun _ _ => rfl)) (pa_cons (pe_ix (r := rIxT K) ix_tup (pe_dget hu (pv 3) (pv 6) (fun _ _ => rfl)) pe_int (fun _ _ => rfl)) pa_nil))) (nomark _)))) (fun _ _ _ _ _ => (pv 6)))) (pe_lst pa_nil) (nomark _))))))), ?_⟩
    obtain ⟨pp, d, l, rfl, hpg, hd, hl⟩ := hP
    obtain ⟨dx, nd, mt, pt, hb, _⟩ := id hB
    obtain ⟨vs, hlv, hws⟩ := id hl
    have hlen : sh.length ≤ 3 := hok.sh.len
    have hwl : ws.length ≤ 50 := hwl
    obtain ⟨z1, z2, z3, z4⟩ := told_ok (m := m) hok.sh hok.ws hwl hm1
    refine ⟨_, rfl, pp, _, rfl, .of (off_le _ _ hpg), rfl, _, _, rfl, _, _, rfl, rfl, ?_⟩
    refine ⟨_, rfl, b, dx, _, rfl, hb, b, M, ps, _, rfl, hB, hok.sh, fun t1 H1 s1 h1 => ?_⟩
    refine ⟨_, rfl, b, dx, _, rfl, s1 _ _ hb, b, M, ps, _, rfl, hB.same s1, fun t2 h2 => ?_⟩
    refine ⟨_, rfl, b, dx, _, rfl, s1 _ _ hb, b, M, ps, _, rfl, hB.same s1, ?_⟩
    rw [hm]
    refine ⟨_, rfl, b, dx, _, rfl, s1 _ _ hb, ⟨b, M, ps, _, rfl, hB.same s1, sh.length, rfl, by omega, ?_⟩⟩
    refine ⟨_, rfl, b, dx, _, rfl, s1 _ _ hb, ⟨b, M, ps, _, rfl, hB.same s1, sh.length, rfl, by omega, ?_⟩⟩
    refine ⟨by show 5 ≤ sizeLine; decide, fun l1 hl1 => ?_⟩
    have s2 := s1.trans (same_new (o := .lst [.ref t1, .ref t2, .int m, .int (sh.length : Nat), .bl (decide (sh.length ≠ 0))]) hl1)
    have hl1' : upd H1 l1 (.lst [.ref t1, .ref t2, .int m, .int (sh.length : Nat), .bl (decide (sh.length ≠ 0))]) l1 = some (.lst [.ref t1, .ref t2, .int m, .int (sh.length : Nat), .bl (decide (sh.length ≠ 0))]) := upd_same
    have h1' := same_new (o := .lst [.ref t1, .ref t2, .int m, .int (sh.length : Nat), .bl (decide (sh.length ≠ 0))]) hl1 _ _ h1
    have h2' := h2.same (same_new (o := .lst [.ref t1, .ref t2, .int m, .int (sh.length : Nat), .bl (decide (sh.length ≠ 0))]) hl1)
    generalize upd H1 l1 (.lst [.ref t1, .ref t2, .int m, .int (sh.length : Nat), .bl (decide (sh.length ≠ 0))]) = H2 at s2 hl1' h1' h2'
    clear h1 h2
    obtain ⟨us, h2a, h2b⟩ := h2'
    refine ⟨_, rfl, l1, toldD sh ws m, rfl, told_dp h1' h2a h2b hl1', z1, z2, z3, z4, ?_⟩
    obtain ⟨kvs, hdk, hen⟩ := hd.same mono_plan (off_same (M := M) s2)
    have hdk2 : H2 d = some (.dK kvs) := off_le _ _ hdk
    refine ⟨_, rfl, d, kvs, sh.map (·.1), rfl, .inl hdk2, by rw [hen.keys, List.map_map]; rfl, by rw [List.length_map]; omega, fun ys p hpm hso hp => ?_⟩
    rw [srt_of hok.sh hpm hso]
    refine ⟨p, _, rfl, .inl ⟨.of upd_same, fun t3 h3 => ?_⟩⟩
    have s3 := (same_new (o := .lst ((srt sh).map V.str)) hp).trans (same_new (o := .tup ((srt sh).map V.str)) h3)
    have g3 : upd (upd H2 p (.lst ((srt sh).map V.str))) t3 (.tup ((srt sh).map V.str)) t3 = some (.tup ((srt sh).map V.str)) := upd_same
    generalize upd (upd H2 p (.lst ((srt sh).map V.str))) t3 (.tup ((srt sh).map V.str)) = H3 at s3 g3
    have s03 := s2.trans s3
    refine ⟨_, rfl, l, vs, rfl, .inl ⟨.of (s03 _ _ (off_le _ _ hlv)), fun t4 h4 => ?_⟩⟩
    have s4 := s3.trans (same_new (o := .tup vs) h4)
    have g4 := same_new (o := .tup vs) h4 _ _ g3
    have g5 : upd H3 t4 (.tup vs) t4 = some (.tup vs) := upd_same
    generalize upd H3 t4 (.tup vs) = H4 at s4 g4 g5
    have s04 := s2.trans s4
    refine ⟨_, rfl, _, rfl, d, kvs, rfl, s4 _ _ hdk2, ?_⟩
    rw [← hen.len]
    refine ⟨_, rfl, fun x hx => ?_⟩
    have s5 := s4.trans (same_new (o := .dK []) hx)
    have g6 := same_new (o := .dK []) hx _ _ g4
    have g7 := same_new (o := .dK []) hx _ _ g5
    refine ⟨d, x, kvs, rfl, rfl, s5 _ _ hdk2, upd_same, ?_⟩
    generalize upd H4 x (.dK []) = H5 at s5 g6 g7
    rw [← hen.len]
    refine ⟨by show 5 ≤ sizeLine; decide, fun l2 hl2 => ?_⟩
    have s6 := s5.trans (same_new (o := .lst [.ref t3, .ref t4, .int m, .int (sh.length : Nat), .bl (decide (sh.length ≠ 0))]) hl2)
    have g8 := same_new (o := .lst [.ref t3, .ref t4, .int m, .int (sh.length : Nat), .bl (decide (sh.length ≠ 0))]) hl2 _ _ g6
    have g9 := same_new (o := .lst [.ref t3, .ref t4, .int m, .int (sh.length : Nat), .bl (decide (sh.length ≠ 0))]) hl2 _ _ g7
    have g10 : upd H5 l2 (.lst [.ref t3, .ref t4, .int m, .int (sh.length : Nat), .bl (decide (sh.length ≠ 0))]) l2 = some (.lst [.ref t3, .ref t4, .int m, .int (sh.length : Nat), .bl (decide (sh.length ≠ 0))]) := upd_same
    generalize upd H5 l2 (.lst [.ref t3, .ref t4, .int m, .int (sh.length : Nat), .bl (decide (sh.length ≠ 0))]) = H6 at s6 g8 g9 g10
    have s06 := s2.trans s6
    have hws6 : Paired (WiAt H6) ws vs := wis_same (off_le (M := M)) (wis_same (off_same s06) hws)
    refine ⟨l2, toldD sh ws m, rfl, told_dp g8 g9 hws6 g10, z1, z2, z3, z4, rfl, _, rfl, iteBF (by rw [decide_eq_true rfl]; rfl) ?_⟩
    have hdk6 : H6 d = some (.dK kvs) := s6 _ _ hdk2
    have dM : d ∉ M := off_mem hdk
    have hB6 := hB.same s06
    have hd6 : DAt PlanAt (off M H6) d sh := hd.same mono_plan (off_same s06)
    have hnd := hen.nodup hok.sh.nd
    clear s1 s2 s3 s03 s4 s04 s5 g3 g4 g5 g6 g7 g8 g9 g10
    refine ⟨d, _, hdk6, trivial, fun od => ?_⟩
    have hfz : upd H6 d (.frz od (.dK kvs)) d = some (.frz od (.dK kvs)) := upd_same
    refine ⟨_, rfl, d, od, rfl, .inl ⟨kvs, hfz, fun D2 hD2 => ?_⟩⟩
    refine lc_it walk_keys (fun i H' => Same (upd H6 d (.frz od (.dK kvs))) H' ∧ H' D2 = some (.lst [])) ⟨same_new hD2, upd_same⟩ (fun _ _ _ h => h.1 _ _ hfz) ?_ ?_
    · rintro i x3 H7 H7' hi ⟨s7, h7⟩ ⟨rfl, ky, v3, hkv, rfl⟩
      obtain ⟨pr, hpr, ek, y, ey, hy⟩ := hen.get hkv
      dsimp only at ek ey
      subst ek ey
      have hm3 : pr ∈ sh := List.mem_of_getElem? hpr
      have hlk := look_some hok.sh.nd hm3
      have oπ := (look_ok hok.sh hlk).2
      have hB7 := (hB6.locked (od := od) hd6 (List.ne_nil_of_mem hm3) hdk6 dM).same s7
      obtain ⟨dx7, nd7, mt7, pt7, hb7, _⟩ := id hB7
      have hf7 := s7 _ _ hfz
      refine ⟨rfl, _, rfl, _, rfl, b, dx7, _, rfl, hb7, b, pr.1, M, ps, (sh, ws), pr.2, rfl, hB7, hlk, fun x4 hx4 => ?_⟩
      obtain ⟨r, hr0, hy0⟩ := hy
      have yM := off_mem hy0
      have rM := off_mem hr0
      have nyd : y ≠ d := fun z => by rw [z, hdk] at hy0; cases hy0
      have nrd : r ≠ d := fun z => by
        have hr0' : off M H2 r = _ := hr0
        rw [z, hdk] at hr0'
        cases hr0'
      have hy7 : H7' y = some (.tup [.int pr.2.s, .ref r]) := s7 _ _ (by rw [upd_ne nyd]; exact s6 _ _ (off_le _ _ hy0))
      have hr7 : H7' r = some (.lst ((rowL pr.2.v).map V.int)) := s7 _ _ (by rw [upd_ne nrd]; exact s6 _ _ (off_le _ _ hr0))
      refine ⟨_, rfl, _, rfl, d, _, rfl, dget_frz hf7 hnd hkv, _, _, _, _, rfl, rfl, .of hy7, rfl, ?_⟩
      refine ⟨_, rfl, _, rfl, d, _, rfl, dget_frz hf7 hnd hkv, _, _, _, _, rfl, rfl, .of hy7, rfl, ?_⟩
      refine ⟨r, pr.2, rfl, hr7, oπ.v, fun p8 H8 s8 h8 => ?_⟩
      refine ⟨.tuple [.int pr.2.t, .int pr.2.v.bot], .tuple [.int pr.2.t, .int pr.2.v.bot], .tup (.of (s8 _ _ hx4)) (.cons (.int _) (.cons (.int _) .nil)), .tup (.of h8) (.cons (.int _) (.cons (.int _) .nil)), rfl, rfl, _, rfl, ?_⟩
      exact iteBF (by rw [eqv_two]; rfl) ⟨s7.trans s8, s8 _ _ h7⟩
    · rintro H7 ⟨s7, h7⟩
      have hf7 := s7 _ _ hfz
      have s8 : Same H6 (upd H7 d (.dK kvs)) := unlock hdk6 s7
      refine ⟨hf7, by show 0 ≤ sizeLine; decide, fun y hy => ⟨.list [], .list [], .lst (.of (same_new hy _ _ (show upd H7 d (.dK kvs) D2 = _ by rw [upd_ne (ne_of h7 hf7 (by simp))]; exact h7))) .nil, .lst (.of upd_same) .nil, rfl, rfl, ?_⟩⟩
      exact k _ (s06.trans (s8.trans (same_new hy)))
end
end KB
end
section
set_option Elab.async false
set_option linter.all false
set_option maxRecDepth 100000
set_option maxHeartbeats 4000000
/-! _law_again -/
namespace KB
open PySem PySem.Spec PyProof.Rows L2 KM
theorem fits_title {a : Str} (h : a ∈ titles) : Fits 0 (.str a) := by
  rcases (show a = "a" ∨ a = "main" ∨ a = "zz" by simpa [titles] using h) with rfl | rfl | rfl <;> exact ⟨by decide +kernel, Nat.le_refl _⟩
theorem fits_wi {i : Wi} (h : i.Ok) : Fits 1 i.dat := by
  have k1 : Fits 0 (.str "splits") := ⟨by decide +kernel, Nat.le_refl _⟩
  have k2 : Fits 0 (.str "whole") := ⟨by decide +kernel, Nat.le_refl _⟩
  have k3 : Fits 0 (.str "always") := ⟨by decide +kernel, Nat.le_refl _⟩
  have k4 : Fits 0 (.str "alike") := ⟨by decide +kernel, Nat.le_refl _⟩
  have f3 : ∀ {a b c : PyData}, Fits 0 a → Fits 0 b → Fits 0 c → Fits 1 (.tuple [a, b, c]) := fun ha hb hc => fits_tuple fun d hd => by
    simp only [List.mem_cons, List.not_mem_nil, or_false] at hd
    rcases hd with rfl | rfl | rfl <;> assumption
  have f2 : ∀ {a b : PyData}, Fits 0 a → Fits 0 b → Fits 1 (.tuple [a, b]) := fun ha hb => fits_tuple fun d hd => by
    simp only [List.mem_cons, List.not_mem_nil, or_false] at hd
    rcases hd with rfl | rfl <;> assumption
  cases i with
  | sp p a n => cases p <;> first | exact f3 k1 (fits_title h.1) (fits_int _) | exact f3 k2 (fits_title h.1) (fits_int _)
  | al a => exact f2 k3 (fits_title h)
  | ak a b => exact f3 k4 (fits_title h.1) (fits_title h.2)
theorem fits_wis {ws : List Wi} (h : ∀ i ∈ ws, i.Ok) : Fits 2 (.list (ws.map Wi.dat)) := fits_list fun d hd => by
  obtain ⟨i, hi, rfl⟩ := List.mem_map.mp hd
  exact fits_wi (h i hi)
theorem dget_off {M : List Addr} {H : Hp} {d : Addr} {y : V} {o : Option V} (h : DGet (off M H) d y o) : DGet H d y o := by
  rcases h with ⟨kvs, k, h1, h2⟩ | ⟨kvs, k, b, h1, h2, h3, h4⟩
  · refine .inl ⟨kvs, k, ?_, h2⟩
    rcases h1 with h1 | ⟨z, h1⟩
    · exact .inl (off_le _ _ h1)
    · exact .inr ⟨z, off_le _ _ h1⟩
  · refine .inr ⟨kvs, k, b, ?_, h2, off_le _ _ h3, h4⟩
    rcases h1 with h1 | ⟨z, h1⟩
    · exact .inl (off_le _ _ h1)
    · exact .inr ⟨z, off_le _ _ h1⟩
section
variable {P : Program} {w : World} {K : PySem.W.Frag} {mg : Str → Option Value} {base : Heap}
def spAgain : Sp := fun vs H Q _ => ∃ (j pp : Addr) (pg : Pg) (M : List Addr), vs = [.ref j, .ref pp] ∧ JugAt H j ∧ j ∈ M ∧ Lv M H ∧ PageAt (off M H) pg (.ref pp) ∧ PgOk pg ∧ pg.2.length ≤ 50 ∧
  (∀ (q : Addr) H', Jk j H H' → q ∉ M → H' q = some (.lst []) → Q (.ref q) H') ∧ ∀ (q : Addr) (de : De) H', Jk j H H' → DeAt (off M H') de (.ref q) → de.Ok → Q (.ref q) H'
theorem ok__law_again (W : Wd K mg) : OkD P w K mg base CX0 5 "_law_again" ["_law_jug_here", "_law_page"] spAgain := by
  have O__law_pull := ok__law_pull (P := P) (w := w) (base := base) W
  have O__law_one_of := ok__law_one_of (P := P) (w := w) (base := base) W
  refine (fn__law_again W).ok sc__law_again (fun vs H Q E h => ?_) (fun cdv A outer s H vs Q E hr h => ?_)
  · obtain ⟨j, pp, pg, M, rfl, _⟩ := h
    rfl
  · obtain ⟨j, pp, ⟨sh, ws⟩, M, rfl, hj, jM, lv, ⟨_, d, l, e, hpg, hd, hl⟩, hok, hlen, k0, k⟩ := h
    cases e
    have hu := hu_of hr
    have hlen : ws.length ≤ 50 := hlen
    refine ⟨_, (pss_cons (ps_asg (pv 1) (pg_tup rfl (pgs_cons (pg_name (i := 2) sc__law_again.nd rfl (.inl rfl)) (pgs_cons (pg_name (i := 3) sc__law_again.nd rfl (.inl rfl)) pgs_nil))))
      (pss_cons (ps_if (PW.pt (pw_and (pt_cmpR (op_neE (Nat.lt_of_le_of_lt (Nat.le_add_right _ 64) hr.units)) (pv 2) pe_dnewK (nomark _)) (pw_and1 (pt_cmpR op_eq (pcall O__law_pull (hr.mono (by decide)) (pa_cons (pv 0) (pa_cons pe_int pa_nil))) pe_int (nomark _))))) (pss_cons (ps_set (i := 4) sc__law_again.nd rfl (.inl rfl) (pcall O__law_one_of (hr.mono (by decide)) (pa_cons (pv 0) (pa_cons (pe_callB (call_sortedD rfl) rfl (fr_sorted W) (by decide +kernel) (pa_cons (pv 2) pa_nil)) pa_nil))))
      (pss_one (ps_ret (pe_lst (pa_cons pe_str (pa_cons (pv 4) (pa_cons (pe_dget hu (pv 2) (pv 4) (fun _ _ => rfl)) pa_nil))))))) pss_nil)
      (pss_one (ps_ret (pe_ifExp (pt_cmpR (op_neD hr.units) (pv 3) (pe_lst pa_nil) (nomark _)) (pe_lst (pa_cons pe_str (pa_cons (pcall O__law_one_of (hr.mono (by decide)) (pa_cons (pv 0) (pa_cons (pv 3) pa_nil))) pa_nil))) (pe_lst pa_nil)))))), ?_⟩
    refine ⟨_, rfl, pp, _, rfl, .of (off_le _ _ hpg), rfl, _, _, rfl, _, _, rfl, rfl, ?_⟩
    obtain ⟨kvs, hdk, hen⟩ := id hd
    obtain ⟨vs, hlv, hws⟩ := id hl
    have el : ws.length = vs.length := prd_len hws
    have hdk0 : H d = some (.dK kvs) := off_le _ _ hdk
    have hl3 : sh.length ≤ 3 := hok.sh.len
    have nM : ∀ {p : Addr} {H' : Hp}, Jk j H H' → H' p = none → p ∉ M := fun jk hp => lv.new (jk.free hj hp)
    have wend : ∀ H1 : Hp, Jk j H H1 → tRet (tIf (tTest (tOp (rNeD K) (tVar 3) (tLst tNil))) (tLst (tCons (tC (V.str "wish")) (tCons (tCall spOneOf [] E0 (tCons (tVar 0) (tCons (tVar 3) tNil))) tNil))) (tLst tNil))
        { nx := fun _ H' => Q .non H', rt := Q } [some (.ref j), some (.ref pp), some (.ref d), some (.ref l), none] H1 := fun H1 jk => by
      have hl1 := off_jk jM jk _ _ hlv
      have hws1 := wis_same (off_le (M := M)) (wis_same (off_jk jM jk) hws)
      have hl0 : H1 l = some (.lst vs) := off_le _ _ hl1
      refine ⟨_, rfl, by show 0 ≤ sizeLine; decide, fun x hx => ⟨.list (ws.map Wi.dat), .list [], .lst (.of (same_new hx _ _ hl0)) (wis_dp (wis_same (same_new hx) hws1)), .lst (.of upd_same) .nil, (fits_wis hok.ws).shaped (by decide), rfl, _, rfl, ?_⟩⟩
      have jk1 := jk.new (o := .lst []) hx
      rw [eqv_nil]
      cases ws with
      | nil => exact iteBF rfl ⟨by show 0 ≤ sizeLine; decide, fun y hy => k0 y _ (jk1.new hy) (nM jk1 hy) upd_same⟩
      | cons w0 ws =>
        refine iteBT rfl ⟨_, rfl, _, rfl, j, l, vs, rfl, jk1.jug, same_new hx _ _ hl0, fun z => off_mem hlv (by rw [z]; exact jM), by rw [← el]; show 0 < ws.length + 1; omega, by omega, fun v hv H2 jk2 _ => ⟨by show 2 ≤ sizeLine; decide, fun q hq => ?_⟩⟩
        obtain ⟨i, hi⟩ := List.getElem?_of_mem hv
        obtain ⟨wi, hwi, pv, rfl, hpv⟩ := prd_get hws hi
        have jk02 := jk1.trans jk2
        have jk03 := jk02.new (o := .lst [.str "wish", .ref pv]) hq
        exact k q (.wish wi) _ jk03 ⟨q, rfl, pv, onto (nM jk02 hq) upd_same, off_jk jM jk03 _ _ hpv⟩ (hok.ws _ (List.mem_of_getElem? hwi))
    refine ⟨_, rfl, fun x hx => ⟨d, x, kvs, rfl, rfl, same_new hx _ _ hdk0, upd_same, _, rfl, ?_⟩⟩
    have jk1 := (Jk.refl hj).new (o := .dK []) hx
    rw [← hen.len]
    cases ec : decide (sh.length ≠ 0) with
    | false => exact iteF (wend _ jk1)
    | true =>
      have ne : sh.length ≠ 0 := of_decide_eq_true ec
      refine iteT ⟨_, rfl, j, 2, rfl, jk1.jug, by decide, by decide, fun r H2 r0 r1 jk2 _ => ⟨rfl, _, rfl, ?_⟩⟩
      have jk12 := jk1.trans jk2
      refine ite2D (fun c => ?_) (fun c => wend _ jk12)
      have hd2 : DAt PlanAt (off M H2) d sh := hd.same mono_plan (off_jk jM jk12)
      obtain ⟨kvs2, hdk2, hen2⟩ := id hd2
      have hdk3 : H2 d = some (.dK kvs2) := off_le _ _ hdk2
      refine ⟨_, rfl, _, rfl, d, kvs2, sh.map (·.1), rfl, .inl hdk3, by rw [hen2.keys, List.map_map]; rfl, by rw [List.length_map]; omega, fun ys p hpm hso hp => ?_⟩
      have jk3 := jk12.new (o := .lst (ys.map V.str)) hp
      have ey : ys.length = sh.length := by rw [hpm.length_eq, List.length_map]
      refine ⟨j, p, ys.map V.str, rfl, jk3.jug, upd_same, fun z => nM jk12 hp (by rw [z]; exact jM), by rw [List.length_map]; omega, by rw [List.length_map]; omega, fun v hv H4 jk4 _ => ?_⟩
      obtain ⟨a, ha, rfl⟩ := List.mem_map.mp hv
      obtain ⟨pr, hpr, rfl⟩ := List.mem_map.mp (hpm.mem_iff.mp ha)
      have jk34 := jk3.trans jk4
      have hlk := look_some hok.sh.nd hpr
      have hd4 : DAt PlanAt (off M H4) d sh := hd.same mono_plan (off_jk jM jk34)
      obtain ⟨x5, g, hx5⟩ := hd4.at_ hlk
      obtain ⟨tk, ok⟩ := look_ok hok.sh hlk
      refine ⟨_, rfl, _, rfl, _, rfl, d, _, rfl, dget_off g, by show 3 ≤ sizeLine; decide, fun q hq => ?_⟩
      · have jk5 := jk34.new (o := .lst [.str "put", .str pr.1, .ref x5]) hq
        exact k q (.put pr.1 pr.2) _ jk5 ⟨q, rfl, x5, onto (nM jk34 hq) upd_same, mono_plan _ _ _ _ (off_new hq) hx5⟩ ⟨tk, ok⟩
end
end KB
end
section
set_option Elab.async false
set_option linter.all false
set_option maxRecDepth 100000
set_option maxHeartbeats 4000000
/-! the pages of a run; what a lambda's table leaves -/
namespace KB
open PySem PySem.Spec PyProof.Rows L2 KM LamX
def pgAt (des : List De) : Pg := des.foldl (fun pg de => (behind pg de).2) ([], [])
def pages (n : Nat) (des : List De) : List Pg := (List.range n).map fun i => pgAt (des.take i)
structure Good (des : List De) : Prop where
  ok : ∀ de ∈ des, de.Ok
  go : ∀ (i : Nat) (de : De), des[i]? = some de → (behind (pgAt (des.take i)) de).1 = .ok
theorem pgAt_snoc (des : List De) (de : De) : pgAt (des ++ [de]) = (behind (pgAt des) de).2 := by
  unfold pgAt
  rw [List.foldl_append]
  rfl
theorem take_snoc {des : List De} {i : Nat} {de : De} (h : des[i]? = some de) : des.take (i + 1) = des.take i ++ [de] := by
  rw [List.take_succ, h]
  rfl
theorem pgAt_next {des : List De} {i : Nat} {de : De} (h : des[i]? = some de) : pgAt (des.take (i + 1)) = (behind (pgAt (des.take i)) de).2 := by rw [take_snoc h, pgAt_snoc]
theorem pages_snoc (n : Nat) (des : List De) : pages (n + 1) des = pages n des ++ [pgAt (des.take n)] := by
  unfold pages
  rw [List.range_succ, List.map_append]
  rfl
theorem pages_len (n : Nat) (des : List De) : (pages n des).length = n := by
  unfold pages
  rw [List.length_map, List.length_range]
theorem pages_more {n : Nat} {des : List De} {de : De} (h : n ≤ des.length + 1) : pages n (des ++ [de]) = pages n des := by
  unfold pages
  refine List.map_congr_left fun i hi => ?_
  rw [List.mem_range] at hi
  rw [List.take_append_of_le_length (by omega)]
theorem pages_get {n i : Nat} {des : List De} (h : i < n) : (pages n des)[i]? = some (pgAt (des.take i)) := by
  unfold pages
  rw [List.getElem?_map, List.getElem?_range h]
  rfl
theorem pgAt_ok : ∀ {i : Nat} {des : List De}, (∀ de ∈ des, de.Ok) → PgOk (pgAt (des.take i)) ∧ (pgAt (des.take i)).2.length ≤ i
  | 0, _, _ => ⟨PgOk.nil, Nat.le_refl _⟩
  | i + 1, des, h => by
    obtain ⟨h1, h2⟩ := pgAt_ok (i := i) h
    cases e : des[i]? with
    | none =>
      have e2 : des.take (i + 1) = des.take i := by rw [List.take_succ, e]; simp
      rw [e2]
      exact ⟨h1, by omega⟩
    | some de =>
      rw [pgAt_next e]
      exact ⟨behind_ok h1 (h de (List.mem_of_getElem? e)), Nat.le_trans behind_len (by omega)⟩
theorem Good.nil : Good [] := Good.mk (fun _ h => nomatch h) (fun i de h => by cases h)
theorem Good.snoc {des : List De} {de : De} (g : Good des) (h : de.Ok) (b : (behind (pgAt des) de).1 = .ok) : Good (des ++ [de]) := by
  refine ⟨fun x hx => ?_, fun i x hx => ?_⟩
  · rcases List.mem_append.mp hx with hx | hx
    · exact g.ok x hx
    · rw [List.mem_singleton.mp hx]; exact h
  · rcases Nat.lt_or_ge i des.length with c | c
    · rw [List.getElem?_append_left c] at hx
      rw [List.take_append_of_le_length (Nat.le_of_lt c)]
      exact g.go i x hx
    · rw [List.getElem?_append_right c] at hx
      have e : i = des.length := by
        rcases Nat.lt_or_ge i (des.length + 1) with c2 | c2
        · omega
        · rw [List.getElem?_eq_none (by simp; omega)] at hx
          cases hx
      subst e
      rw [Nat.sub_self] at hx
      cases hx
      rw [List.take_append_of_le_length (Nat.le_refl _), List.take_length]
      exact b
/-! ### all but the tables stays -/
section
variable {M : List Addr} {H H' G G' : Hp}
theorem ext_off (e : ExtN H H') : ExtN (off M H) (off M H') := fun b o h n => by
  unfold off at *
  by_cases c : b ∈ M
  · rw [if_pos c] at h; cases h
  · rw [if_neg c] at *
    exact e b o h n
theorem PlanAt.ext {x : Addr} {π : Pl} (e : ExtN G G') (h : PlanAt G x π) : PlanAt G' x π := by
  obtain ⟨r, h1, h2⟩ := h
  exact ⟨r, e _ _ h1 fun _ z => (by cases z), e _ _ h2 fun _ z => (by cases z)⟩
theorem PNum.ext {x : Addr} {π : Pl} (e : ExtN G G') (h : PNum G x π) : PNum G' x π := e _ _ h fun _ z => (by cases z)
theorem dat_ext {R : Rl} (mo : ∀ x π, R G x π → R G' x π) (e : ExtN G G') {d : Addr} {sh : Sh} (h : DAt R G d sh) : DAt R G' d sh := by
  obtain ⟨kvs, h1, h2⟩ := h
  exact ⟨kvs, e _ _ h1 fun _ z => (by cases z), Paired.mapP h2 fun _ _ ⟨a, x, b, c⟩ => ⟨a, x, b, mo _ _ c⟩⟩
theorem wis_ext {ws : List Wi} {vs : List V} (e : ExtN G G') (h : Paired (WiAt G) ws vs) : Paired (WiAt G') ws vs := Paired.mapP h fun _ _ ⟨p, a, b⟩ => ⟨p, a, e _ _ b fun _ z => (by cases z)⟩
theorem PageAt.ext {pg : Pg} {v : V} (e : ExtN G G') (h : PageAt G pg v) : PageAt G' pg v := by
  obtain ⟨p, d, l, h1, h2, h3, vs, h4, h5⟩ := h
  exact ⟨p, d, l, h1, e _ _ h2 fun _ z => (by cases z), dat_ext (fun _ _ => PlanAt.ext e) e h3, vs, e _ _ h4 fun _ z => (by cases z), wis_ext e h5⟩
theorem DeAt.ext {de : De} {v : V} (e : ExtN G G') (h : DeAt G de v) : DeAt G' de v := by
  obtain ⟨q, h1, h2⟩ := h
  refine ⟨q, h1, ?_⟩
  cases de with
  | lift n => exact e _ _ h2 fun _ z => (by cases z)
  | drop a => exact e _ _ h2 fun _ z => (by cases z)
  | wish i => exact ⟨_, e _ _ h2.choose_spec.1 fun _ z => (by cases z), e _ _ h2.choose_spec.2 fun _ z => (by cases z)⟩
  | put a π => exact ⟨_, e _ _ h2.choose_spec.1 fun _ z => (by cases z), PlanAt.ext e h2.choose_spec.2⟩
theorem BookAt.ext {K : PySem.W.Frag} {b : Addr} {ps : List Pg} {pg : Pg} (e : ExtN H H') (h : BookAt K M H b ps pg) : BookAt K M H' b ps pg := by
  obtain ⟨dx, nd, mt, pt, h0, h1, ⟨ms, h2, h3⟩, vs, h4, h5⟩ := h
  have eo := ext_off (M := M) e
  refine ⟨dx, nd, mt, pt, e _ _ h0 fun _ z => (by cases z), dat_ext (fun _ _ => PNum.ext eo) eo h1, ⟨ms, eo _ _ h2 fun _ z => (by cases z), wis_ext eo h3⟩, vs, eo _ _ h4 fun _ z => (by cases z), Paired.mapP h5 ?_⟩
  rintro pg' v ⟨p, d, t, k1, k2, k3, us, k4, k5⟩
  exact ⟨p, d, t, k1, eo _ _ k2 fun _ z => (by cases z), dat_ext (fun _ _ => PNum.ext eo) eo k3, us, eo _ _ k4 fun _ z => (by cases z), wis_ext eo k5⟩
theorem BookAt.jk {K : PySem.W.Frag} {b j : Addr} {ps : List Pg} {pg : Pg} (jM : j ∈ M) (n : b ≠ j) (k : Jk j H H') (h : BookAt K M H b ps pg) : BookAt K M H' b ps pg := by
  obtain ⟨dx, nd, mt, pt, h0, h1, h2, h3⟩ := h
  have s := off_jk (M := M) jM k
  exact ⟨dx, nd, mt, pt, k.kept _ _ n h0, h1.same mono_num s, h2.same s, h3.same s⟩
end
end KB
end
section
set_option Elab.async false
set_option linter.all false
set_option maxRecDepth 100000
set_option maxHeartbeats 4000000
/-! the state of _law_right -/
namespace KB
open PySem PySem.Spec PyProof.Rows L2 KM LamX
theorem tabs_but {T : List (Addr × Str)} {H H' : Hp} {x : Addr} {o : HO} (t : Tabs T H) (k : Kb x H H') (e : H x = some o) (n1 : ∀ ps, o ≠ .tbl ps) (n2 : ∀ c q, o ≠ CodeO c q) : Tabs T H' := fun p hp => by
  obtain ⟨ps, h1, h2, h3⟩ := t p hp
  refine ⟨ps, k _ _ (fun z => n1 ps (by rw [z, e] at h1; injection h1)) h1, h2, fun pos cv hc => ?_⟩
  obtain ⟨c, e1, e2⟩ := h3 pos cv hc
  exact ⟨c, e1, k _ _ (fun z => by subst z; exact n2 _ p.2 (Option.some.inj (e.symm.trans e2))) e2⟩
abbrev M5 (j pl dl b Tb : Addr) : List Addr := [j, pl, dl, b, Tb]
structure St5 (K : PySem.W.Frag) (j pl dl b Tb : Addr) (q : Str) (H : Hp) (des : List De) : Prop where
  ne : (M5 j pl dl b Tb).Nodup
  jug : JugAt H j
  pgs : ∃ pvs, H pl = some (.lst pvs) ∧ Paired (PageAt (off (M5 j pl dl b Tb) H)) (pages (des.length + 1) des) pvs
  dds : ∃ dvs, H dl = some (.lst dvs) ∧ Paired (DeAt (off (M5 j pl dl b Tb) H)) des dvs
  tab : Tabs [(Tb, q)] H
  ins : ∃ dx fs, H b = some (.ins (Bk K) dx fs)
section
variable {K : PySem.W.Frag} {j pl dl b Tb : Addr} {q : Str} {H H' : Hp} {des : List De}
theorem St5.ne5 (x : St5 K j pl dl b Tb q H des) : (j ≠ pl ∧ j ≠ dl ∧ j ≠ b ∧ j ≠ Tb) ∧ (pl ≠ dl ∧ pl ≠ b ∧ pl ≠ Tb) ∧ (dl ≠ b ∧ dl ≠ Tb) ∧ b ≠ Tb := by
  have h := x.ne
  simpa [M5] using h
theorem St5.tb (x : St5 K j pl dl b Tb q H des) : ∃ ps, H Tb = some (.tbl ps) := by
  obtain ⟨ps, h, _⟩ := x.tab (Tb, q) List.mem_cons_self
  exact ⟨ps, h⟩
theorem St5.cases (x : St5 K j pl dl b Tb q H des) {m : Addr} (h : m ∈ M5 j pl dl b Tb) : (m = j ∧ JugAt H m) ∨ (m = pl ∧ ∃ v r, H m = some (.lst (.ref v :: r))) ∨ (m = dl ∧ (H m = some (.lst []) ∨ ∃ v r, H m = some (.lst (.ref v :: r)))) ∨ (m = b ∧ ∃ dx fs, H m = some (.ins (Bk K) dx fs)) ∨ (m = Tb ∧ ∃ ps, H m = some (.tbl ps)) := by
  simp only [M5, List.mem_cons, List.not_mem_nil, or_false] at h
  rcases h with rfl | rfl | rfl | rfl | rfl
  · exact .inl ⟨rfl, x.jug⟩
  · obtain ⟨pvs, h1, h2⟩ := x.pgs
    cases pvs with
    | nil => have := prd_len h2; rw [pages_len] at this; cases this
    | cons v r =>
      cases h2' : pages (des.length + 1) des with
      | nil => rw [h2'] at h2; cases h2
      | cons p ps =>
        rw [h2'] at h2
        cases h2 with
        | cons a t =>
          obtain ⟨y, _, _, rfl, _⟩ := a
          exact .inr (.inl ⟨rfl, y, r, h1⟩)
  · obtain ⟨dvs, h1, h2⟩ := x.dds
    cases h2 with
    | nil => exact .inr (.inr (.inl ⟨rfl, .inl h1⟩))
    | cons a t =>
      obtain ⟨y, rfl, _⟩ := a
      exact .inr (.inr (.inl ⟨rfl, .inr ⟨y, _, h1⟩⟩))
  · exact .inr (.inr (.inr (.inl ⟨rfl, x.ins⟩)))
  · exact .inr (.inr (.inr (.inr ⟨rfl, x.tb⟩)))
theorem St5.lv (x : St5 K j pl dl b Tb q H des) : Lv (M5 j pl dl b Tb) H := fun m hm z => by
  rcases x.cases hm with ⟨_, a, c, d, e⟩ | ⟨_, v, r, e⟩ | ⟨_, e | ⟨v, r, e⟩⟩ | ⟨_, dx, fs, e⟩ | ⟨_, ps, e⟩ <;> (rw [z] at e; cases e)
theorem St5.nr (x : St5 K j pl dl b Tb q H des) : NR (M5 j pl dl b Tb) H := fun m hm v z => by
  rcases x.cases hm with ⟨_, a⟩ | ⟨_, v, r, e⟩ | ⟨_, e | ⟨v, r, e⟩⟩ | ⟨_, dx, fs, e⟩ | ⟨_, ps, e⟩
  · exact a.ne_row z rfl
  all_goals
    unfold RowAt at z
    rw [e] at z
    first
      | cases z
      | (injection z with z; injection z with z; unfold rowL at z; injection z with z; cases z)
theorem St5.nt (x : St5 K j pl dl b Tb q H des) : NT (M5 j pl dl b Tb) H := fun m hm xs z => by
  rcases x.cases hm with ⟨_, a, c, d, e⟩ | ⟨_, v, r, e⟩ | ⟨_, e | ⟨v, r, e⟩⟩ | ⟨_, dx, fs, e⟩ | ⟨_, ps, e⟩ <;> (rw [z] at e; cases e)
theorem St5.same (x : St5 K j pl dl b Tb q H des) (s : Same H H') : St5 K j pl dl b Tb q H' des := by
  obtain ⟨pvs, p1, p2⟩ := x.pgs
  obtain ⟨dvs, d1, d2⟩ := x.dds
  obtain ⟨a, c, d, e⟩ := x.jug
  obtain ⟨dx, fs, i⟩ := x.ins
  exact ⟨x.ne, ⟨a, c, d, s _ _ e⟩, ⟨pvs, s _ _ p1, Paired.mapP p2 fun _ _ => PageAt.same (off_same s)⟩, ⟨dvs, s _ _ d1, Paired.mapP d2 fun _ _ => DeAt.same (off_same s)⟩, fun p hp => (x.tab p hp).ext s, dx, fs, s _ _ i⟩
theorem St5.jk (x : St5 K j pl dl b Tb q H des) (k : Jk j H H') : St5 K j pl dl b Tb q H' des := by
  obtain ⟨pvs, p1, p2⟩ := x.pgs
  obtain ⟨dvs, d1, d2⟩ := x.dds
  obtain ⟨dx, fs, i⟩ := x.ins
  obtain ⟨⟨n1, n2, n3, n4⟩, _⟩ := x.ne5
  have s := off_jk (M := M5 j pl dl b Tb) List.mem_cons_self k
  obtain ⟨a, c, d, e⟩ := x.jug
  exact ⟨x.ne, k.jug, ⟨pvs, k.kept _ _ n1.symm p1, Paired.mapP p2 fun _ _ => PageAt.same s⟩, ⟨dvs, k.kept _ _ n2.symm d1, Paired.mapP d2 fun _ _ => DeAt.same s⟩, tabs_but x.tab (x := j) k.kept e (fun _ z => by cases z) (fun _ _ z => by cases z), dx, fs, k.kept _ _ n3.symm i⟩
theorem St5.kb (x : St5 K j pl dl b Tb q H des) (k : Kb b H H') (hi : ∃ dx fs, H' b = some (.ins (Bk K) dx fs)) : St5 K j pl dl b Tb q H' des := by
  obtain ⟨pvs, p1, p2⟩ := x.pgs
  obtain ⟨dvs, d1, d2⟩ := x.dds
  obtain ⟨dx, fs, i⟩ := x.ins
  obtain ⟨⟨n1, n2, n3, n4⟩, ⟨n5, n6, n7⟩, ⟨n8, n9⟩, n10⟩ := x.ne5
  have s := off_kb (M := M5 j pl dl b Tb) (b := b) (by simp [M5]) k
  obtain ⟨a, c, d, e⟩ := x.jug
  exact ⟨x.ne, ⟨a, c, d, k _ _ n3 e⟩, ⟨pvs, k _ _ n6 p1, Paired.mapP p2 fun _ _ => PageAt.same s⟩, ⟨dvs, k _ _ n8 d1, Paired.mapP d2 fun _ _ => DeAt.same s⟩, tabs_but x.tab k i (fun _ z => by cases z) (fun _ _ z => by cases z), hi⟩
theorem St5.ext (x : St5 K j pl dl b Tb q H des) (k : ExtN H H') (t : Tabs [(Tb, q)] H') : St5 K j pl dl b Tb q H' des := by
  obtain ⟨pvs, p1, p2⟩ := x.pgs
  obtain ⟨dvs, d1, d2⟩ := x.dds
  obtain ⟨dx, fs, i⟩ := x.ins
  have s := ext_off (M := M5 j pl dl b Tb) k
  obtain ⟨a, c, d, e⟩ := x.jug
  exact ⟨x.ne, ⟨a, c, d, k _ _ e fun _ z => by cases z⟩, ⟨pvs, k _ _ p1 (fun _ z => by cases z), Paired.mapP p2 fun _ _ => PageAt.ext s⟩, ⟨dvs, k _ _ d1 (fun _ z => by cases z), Paired.mapP d2 fun _ _ => DeAt.ext s⟩, t, dx, fs, k _ _ i fun _ z => by cases z⟩
/-- a page and a deed more -/
theorem St5.more {pvs dvs : List V} {v u : V} {de : De} (x : St5 K j pl dl b Tb q H des) (hp : H pl = some (.lst pvs)) (hd : H dl = some (.lst dvs)) (hv : PageAt (off (M5 j pl dl b Tb) H) (behind (pgAt des) de).2 v) (hu : DeAt (off (M5 j pl dl b Tb) H) de u) :
    St5 K j pl dl b Tb q (upd (upd H pl (.lst (pvs ++ [v]))) dl (.lst (dvs ++ [u]))) (des ++ [de]) := by
  obtain ⟨pvs', p1, p2⟩ := x.pgs
  obtain ⟨dvs', d1, d2⟩ := x.dds
  rw [hp] at p1
  rw [hd] at d1
  cases p1
  cases d1
  obtain ⟨dx, fs, i⟩ := x.ins
  obtain ⟨⟨n1, n2, n3, n4⟩, ⟨n5, n6, n7⟩, ⟨n8, n9⟩, n10⟩ := x.ne5
  obtain ⟨a, c, d, e⟩ := x.jug
  have eo : off (M5 j pl dl b Tb) (upd (upd H pl (.lst (pvs ++ [v]))) dl (.lst (dvs ++ [u]))) = off (M5 j pl dl b Tb) H := by rw [off_in (by simp [M5]), off_in (by simp [M5])]
  refine ⟨x.ne, ⟨a, c, d, ?_⟩, ⟨pvs ++ [v], ?_, ?_⟩, ⟨dvs ++ [u], upd_same, ?_⟩, ?_, dx, fs, ?_⟩
  · rw [upd_ne n2, upd_ne n1]; exact e
  · rw [upd_ne n5, upd_same]
  · rw [eo, List.length_append]
    show Paired _ (pages (des.length + 1 + 1) (des ++ [de])) _
    rw [pages_snoc, pages_more (Nat.le_refl _)]
    refine prd_append p2 (.cons ?_ .nil)
    rw [show (des ++ [de]).take (des.length + 1) = des ++ [de] from List.take_of_length_le (by simp), pgAt_snoc]
    exact hv
  · rw [eo]
    exact prd_append d2 (.cons hu .nil)
  · refine tabs_but (x := dl) (tabs_but (x := pl) x.tab Kb.put hp (fun _ z => by cases z) (fun _ _ z => by cases z)) Kb.put (show _ = some (HO.lst dvs) from ?_) (fun _ z => by cases z) (fun _ _ z => by cases z)
    rw [upd_ne n5.symm]
    exact hd
  · rw [upd_ne n8.symm, upd_ne n6.symm]; exact i
end
end KB
end
section
set_option Elab.async false
set_option linter.all false
set_option maxRecDepth 100000
set_option maxHeartbeats 4000000
/-! the book and the pages of a run, together -/
namespace KB
open PySem PySem.Spec PyProof.Rows L2 KM LamX
/-- all stands but the jug, the tables -/
def Rj (j : Addr) (H H' : Hp) : Prop := ∀ c o, c ≠ j → H c = some o → (∀ ps, o ≠ .tbl ps) → H' c = some o
section
variable {K : PySem.W.Frag} {j pl dl b Tb : Addr} {q : Str} {H0 H H1 H2 : Hp} {des : List De} {m : Nat}
theorem Rj.same (r : Rj j H H1) (s : Same H1 H2) : Rj j H H2 := fun c o n e t => s _ _ (r c o n e t)
theorem Rj.jk (r : Rj j H H1) (s : Jk j H1 H2) : Rj j H H2 := fun c o n e t => s.kept _ _ n (r c o n e t)
theorem Rj.kb {b : Addr} (r : Rj j H H1) (hb : H b = none) (s : Kb b H1 H2) : Rj j H H2 := fun c o n e t => s _ _ (fun z => by rw [z, hb] at e; cases e) (r c o n e t)
theorem Rj.ext (r : Rj j H H1) (s : ExtN H1 H2) : Rj j H H2 := fun c o n e t => s _ _ (r c o n e t) t
/-- the book stands at page m of the run -/
structure Live (K : PySem.W.Frag) (H0 : Hp) (j pl dl b Tb : Addr) (q : Str) (H : Hp) (des : List De) (m : Nat) : Prop where
  st : St5 K j pl dl b Tb q H des
  bk : BookAt K (M5 j pl dl b Tb) H b (pages m des) (pgAt (des.take m))
  rj : Rj j H0 H
  good : Good des
  nb : H0 b = none
  np : H0 pl = none
  nd : H0 dl = none
theorem Live.same (x : Live K H0 j pl dl b Tb q H des m) (s : Same H H1) : Live K H0 j pl dl b Tb q H1 des m := ⟨x.st.same s, x.bk.same s, x.rj.same s, x.good, x.nb, x.np, x.nd⟩
theorem Live.jk (x : Live K H0 j pl dl b Tb q H des m) (k : Jk j H H1) : Live K H0 j pl dl b Tb q H1 des m :=
  ⟨x.st.jk k, x.bk.jk List.mem_cons_self x.st.ne5.1.2.2.1.symm k, x.rj.jk k, x.good, x.nb, x.np, x.nd⟩
theorem Live.ext (x : Live K H0 j pl dl b Tb q H des m) (k : ExtN H H1) (t : Tabs [(Tb, q)] H1) : Live K H0 j pl dl b Tb q H1 des m := ⟨x.st.ext k t, x.bk.ext k, x.rj.ext k, x.good, x.nb, x.np, x.nd⟩
/-- the book goes to page m' -/
theorem Live.kb {m' : Nat} (x : Live K H0 j pl dl b Tb q H des m) (k : Kb b H H1) (h : BookAt K (M5 j pl dl b Tb) H1 b (pages m' des) (pgAt (des.take m'))) : Live K H0 j pl dl b Tb q H1 des m' := by
  obtain ⟨dx, nd, mt, pt, e, _⟩ := id h
  exact ⟨x.st.kb k ⟨dx, _, e⟩, h, x.rj.kb x.nb k, x.good, x.nb, x.np, x.nd⟩
theorem Live.ok (x : Live K H0 j pl dl b Tb q H des m) (i : Nat) : PgOk (pgAt (des.take i)) ∧ (pgAt (des.take i)).2.length ≤ i := pgAt_ok x.good.ok
/-- page i of the list of pages -/
theorem Live.page (x : Live K H0 j pl dl b Tb q H des m) {i : Nat} (h : i ≤ des.length) : ∃ pvs v, H pl = some (.lst pvs) ∧ pvs.length = des.length + 1 ∧ pvs[i]? = some v ∧ PageAt (off (M5 j pl dl b Tb) H) (pgAt (des.take i)) v := by
  obtain ⟨pvs, h1, h2⟩ := x.st.pgs
  obtain ⟨v, hv, hp⟩ := prd_get' h2 (pages_get (n := des.length + 1) (i := i) (by omega))
  exact ⟨pvs, v, h1, by rw [← prd_len h2, pages_len], hv, hp⟩
theorem Live.deed (x : Live K H0 j pl dl b Tb q H des m) : ∃ dvs, H dl = some (.lst dvs) ∧ dvs.length = des.length ∧ ∀ (i : Nat) (de : De), des[i]? = some de → ∃ v, dvs[i]? = some v ∧ DeAt (off (M5 j pl dl b Tb) H) de v := by
  obtain ⟨dvs, h1, h2⟩ := x.st.dds
  exact ⟨dvs, h1, (prd_len h2).symm, fun i de h => prd_get' h2 h⟩
/-- one deed more: both lists grow behind a done deed -/
theorem Live.more {pvs dvs : List V} {v u : V} {de : De} (st : St5 K j pl dl b Tb q H des) (rj : Rj j H0 H) (good : Good des) (nb : H0 b = none) (np : H0 pl = none) (nd : H0 dl = none) (hp : H pl = some (.lst pvs)) (hd : H dl = some (.lst dvs))
    (hv : PageAt (off (M5 j pl dl b Tb) H) (behind (pgAt des) de).2 v) (hu : DeAt (off (M5 j pl dl b Tb) H) de u)
    (ho : de.Ok) (hg : (behind (pgAt des) de).1 = .ok) (hb : BookAt K (M5 j pl dl b Tb) H b (pages des.length des ++ [pgAt des]) (behind (pgAt des) de).2) :
    Live K H0 j pl dl b Tb q (upd (upd H pl (.lst (pvs ++ [v]))) dl (.lst (dvs ++ [u]))) (des ++ [de]) (des ++ [de]).length := by
  obtain ⟨⟨n1, n2, n3, n4⟩, ⟨n5, n6, n7⟩, ⟨n8, n9⟩, n10⟩ := st.ne5
  have eo : off (M5 j pl dl b Tb) (upd (upd H pl (.lst (pvs ++ [v]))) dl (.lst (dvs ++ [u]))) = off (M5 j pl dl b Tb) H := by rw [off_in (by simp [M5]), off_in (by simp [M5])]
  refine ⟨st.more hp hd hv hu, ?_, fun c o n e t => ?_, good.snoc ho hg, nb, np, nd⟩
  · obtain ⟨dx, nd', mt, pt, e0, e1, e2, e3⟩ := hb
    have ep : pages (des ++ [de]).length (des ++ [de]) = pages des.length des ++ [pgAt des] := by
      rw [pages_more (by simp), List.length_append]
      show pages (des.length + 1) des = _
      rw [pages_snoc, List.take_length]
    rw [ep, List.take_length, pgAt_snoc]
    refine ⟨dx, nd', mt, pt, ?_, ?_, ?_, ?_⟩
    · rw [upd_ne n8.symm, upd_ne n6.symm]; exact e0
    · rw [eo]; exact e1
    · rw [eo]; exact e2
    · rw [eo]; exact e3
  · have m1 : c ≠ dl := ne_of_none e nd
    have m2 : c ≠ pl := ne_of_none e np
    rw [upd_ne m1, upd_ne m2]
    exact rj c o n e t
end
end KB
end
section
set_option Elab.async false
set_option linter.all false
set_option maxRecDepth 100000
set_option maxHeartbeats 4000000
/-! what a due tells is small -/
namespace KB
open PySem PySem.Spec PyProof.Rows L2 KM LamX
def Due.Small : Due → Prop
  | .ok => True
  | .idx k => k ≤ 200
  | .unk a => a ∈ titles
  | .brk k => k ≤ 200
  | .use k => k ≤ 200
theorem find_le {α : Type} {f : α → Bool} {l : List α} {i : Nat} (h : l.findIdx? f = some i) : i < l.length := by
  rw [List.findIdx?_eq_some_iff_getElem] at h
  exact h.1
theorem due_small {pg : Pg} {de : De} (ho : de.Ok) (hl : pg.2.length ≤ 50) : (behind pg de).1.Small := by
  cases de with
  | lift k =>
    unfold behind
    dsimp only
    split
    · trivial
    · show k ≤ 200
      have : k ≤ 100 := ho
      omega
  | drop a =>
    unfold behind
    dsimp only
    split
    · split
      · next i h =>
        have := find_le h
        show i ≤ 200
        omega
      · trivial
    · exact ho
  | wish i =>
    unfold behind
    dsimp only
    split
    · next k h =>
      have := find_le h
      rw [List.length_append] at this
      show k ≤ 200
      simp at this
      omega
    · trivial
  | put a π =>
    unfold behind
    dsimp only
    split
    · next k h =>
      have := find_le h
      show k ≤ 200
      omega
    · trivial
theorem fails_of {K : PySem.W.Frag} {H : Hp} {E : XK} {u : Due} {R : List Str → Hp → Prop} (hs : u.Small) (hR : u ≠ .ok → ∀ H', Same H H' → R u.parts H') (hE : ∀ cls d H' ts, Slip K H' cls d ts → R ts H' → E cls d H') : Fails K H E u := by
  cases u with
  | ok => trivial
  | idx k => exact fun d H' s h => hE _ _ _ _ (.idx d k h hs) (hR (by simp) H' s)
  | unk a => exact fun d H' s h => hE _ _ _ _ (.unk d a h hs) (hR (by simp) H' s)
  | brk k => exact fun d H' s h => hE _ _ _ _ (.brk d k h hs) (hR (by simp) H' s)
  | use k => exact fun d H' s h => hE _ _ _ _ (.use d k h hs) (hR (by simp) H' s)
end KB
end
section
set_option Elab.async false
set_option linter.all false
set_option maxRecDepth 100000
set_option maxHeartbeats 4000000
/-! _law_right -/
namespace KB
open PySem PySem.Spec PyProof.Rows L2 KM LamX
theorem pe_heard {X : Cx} (W : Wd X.K X.mg) {k : Nat} (hk : 1 ≤ k) {c P : Addr} {params : Arguments} {body : Expr} {scope : Scope} {t : XK → TE} {p lpos pos : Pos} (hg : Gl X "_law_heard") (TB : LamX.TabB X.base X.mg c P) (hcode : X.env.code = .ref c) (hr : Room (k + 2) X.A) (L : LamS X.env.scope scope)
    (hdef : defaultsOf params X.env = ([], [])) (hbind : ∀ (q : Str) (cl : List (Str × Addr)) (pm cv ctv : Value), bindArgs (PySem.W.kla_fn "<lambda>" q params body scope cl pm cv ctv) ⟨[], []⟩ = pure [])
    (hbody : ∀ (A : Around) (outer : List Env) (s : Shared) (H : Hp) (E : XK) (f c' : Addr), Room k (A.deeper (lamEnv X scope s.heap.objs.size f c')) → PE (lamN X A outer s H E scope f c') body (t E)) :
    PE X (.Call (.Name "_law_heard" p) [.Lambda params body scope lpos] [] pos) (tLam [(P, X.env.qual ++ "<lambda>")] (THeard X.K) t) := by
  obtain ⟨fd, ⟨⟨oc, od, kV, doc, pm, an, cdv, ct, osl, rfl, lk, hcd⟩, kp⟩, b⟩ := (fn__law_heard W).ex
  refine pe_lamN hg (W.glo (by decide +kernel)) kp lk hcd b sc__law_heard rfl (.inl rfl) (heard_gives W hk) TB hcode List.mem_cons_self (fun p hp _ => ?_) hr L hdef hbind hbody
  rw [List.mem_singleton.mp hp]
theorem atI_back {α : Type} {xs : List α} {k : Nat} {v : α} (h : k < xs.length) (e : xs[xs.length - 1 - k]? = some v) : atI xs (-1 - (k : Int)) = some v := by
  have e2 : ixN xs.length (-1 - (k : Int)) = some (xs.length - 1 - k) := by
    unfold ixN
    rw [if_neg (by omega), if_pos (by omega)]
    congr 1
    omega
  unfold atI
  rw [e2]
  exact e
/-- a call that may raise, within the lambda -/
theorem pcallL {X : Cx} {k : Nat} {x : Str} {ps : List Str} {sp : Sp} {p pos : Pos} {e : Expr} {es : List Expr} {t : TA} {W : WX} {E : XK} (O : OkD X.prog X.w X.K X.mg X.base (L2N.CX X.prog X.w) k x ps sp) (hr : Room k X.A) (tk : L2N.Takes X W) (hW : ∀ cls d σ H, E cls d H → W cls d σ H) (ha : PA X (e :: es) t) (hg : Gl X x := by rfl)
    (hdb : (x == ("__debug__" : Str)) = false := by decide) (he : starEach (e :: es) X.env = (false, eval e X.env) :: starEach es X.env := by rfl) (hpl : (backTo pos (starEach es X.env)).any (·.1) = false := by rfl) :
    PE X (.Call (.Name x p) (e :: es) [] pos) (tCall sp [] E t) := by
  obtain ⟨fd, G, b⟩ := O.ex
  exact pe_call G hr hg O.gl O.kp b .nil (L2N.passes_call tk hW) ha hdb he hpl
theorem pcall0 {X : Cx} {k : Nat} {x : Str} {ps : List Str} {sp : Sp} {p pos : Pos} {e : Expr} {es : List Expr} {t : TA} (O : OkD X.prog X.w X.K X.mg X.base (L2N.CX X.prog X.w) k x ps sp) (hr : Room k X.A) (ha : PA X (e :: es) t) (hg : Gl X x := by rfl)
    (hdb : (x == ("__debug__" : Str)) = false := by decide) (he : starEach (e :: es) X.env = (false, eval e X.env) :: starEach es X.env := by rfl) (hpl : (backTo pos (starEach es X.env)).any (·.1) = false := by rfl) :
    PE X (.Call (.Name x p) (e :: es) [] pos) (tCall sp [] E0 t) := by
  obtain ⟨fd, G, b⟩ := O.ex
  exact pe_call G hr hg O.gl O.kp b .nil pass_no ha hdb he hpl
theorem pcallG {X : Cx} {k : Nat} {x : Str} {ps : List Str} {sp : Sp} {p pos : Pos} {e : Expr} {es : List Expr} {t : TA} (O : OkG X.prog X.w X.K X.mg X.base k x ps sp) (hG : X.A.guards = some []) (hr : Room k X.A) (ha : PA X (e :: es) t) (hg : Gl X x := by rfl)
    (hdb : (x == ("__debug__" : Str)) = false := by decide) (he : starEach (e :: es) X.env = (false, eval e X.env) :: starEach es X.env := by rfl) (hpl : (backTo pos (starEach es X.env)).any (·.1) = false := by rfl) :
    PE X (.Call (.Name x p) (e :: es) [] pos) (tCall sp [] E0 t) := by
  obtain ⟨fd, G, b⟩ := O.ex
  exact pe_callG G hG hr hg O.gl O.kp b ha hdb he hpl
theorem pages_last {m : Nat} {des : List De} {qs : List Pg} {q : Pg} (h : pages (m + 1) des = qs ++ [q]) : qs = pages m des ∧ q = pgAt (des.take m) := by
  rw [pages_snoc] at h
  obtain ⟨h1, h2⟩ := List.append_inj' h rfl
  exact ⟨h1.symm, (List.cons.inj h2).1.symm⟩
section
variable {P : Program} {w : World} {K : PySem.W.Frag} {mg : Str → Option Value} {base : Heap}
abbrev lamQ : Str := (envOfC "_law_right" (defScope s__law_right) 0 0 .none).qual ++ "<lambda>"
def spRight (Tb : Addr) : Sp := fun vs H Q _ => ∃ j : Addr, vs = [.ref j] ∧ JugAt H j ∧ Tabs [(Tb, lamQ)] H ∧ ∀ H', Rj j H H' → Tabs [(Tb, lamQ)] H' → Q (.bl true) H'
theorem de_dp {K : PySem.W.Frag} {G : Hp} {de : De} {v : V} (h : DeAt G de v) (ho : de.Ok) : ∃ ds : List PyData, ds.isEmpty = false ∧ Dp K G v (.list ds) ∧ SeqAt.shaped (.list ds) = true := by
  obtain ⟨q, rfl, h⟩ := h
  have two : ∀ {a b : PyData}, Fits 2 a → Fits 2 b → SeqAt.shaped (.list [a, b]) = true := fun ha hb => (fits_list (n := 2) fun d hd => by
    simp only [List.mem_cons, List.not_mem_nil, or_false] at hd
    rcases hd with rfl | rfl <;> assumption).shaped (by decide)
  have k1 : Fits 0 (.str "lift") := ⟨by decide +kernel, Nat.le_refl _⟩
  have k2 : Fits 0 (.str "drop") := ⟨by decide +kernel, Nat.le_refl _⟩
  have k3 : Fits 0 (.str "wish") := ⟨by decide +kernel, Nat.le_refl _⟩
  have k4 : Fits 0 (.str "put") := ⟨by decide +kernel, Nat.le_refl _⟩
  cases de with
  | lift n => exact ⟨[.str "lift", .int n], rfl, .lst (.of h) (.cons (.str _) (.cons (.int _) .nil)), two (k1.up (by decide)) ((fits_int _).up (by decide))⟩
  | drop a => exact ⟨[.str "drop", .str a], rfl, .lst (.of h) (.cons (.str _) (.cons (.str _) .nil)), two (k2.up (by decide)) ((fits_title ho).up (by decide))⟩
  | wish i =>
    obtain ⟨p, h1, h2⟩ := h
    exact ⟨[.str "wish", i.dat], rfl, .lst (.of h1) (.cons (.str _) (.cons (wi_dp ⟨p, rfl, h2⟩) .nil)), two (k3.up (by decide)) ((fits_wi ho).up (by decide))⟩
  | put a π =>
    obtain ⟨p, h1, r, h2, h3⟩ := h
    refine ⟨[.str "put", .str a, .tuple [.int π.s, .list ((rowL π.v).map PyData.int)]], rfl, .lst (.of h1) (.cons (.str _) (.cons (.str _) (.cons (.tup (.of h3) (.cons (.int _) (.cons (.lst (.of h2) (dp_ints _)) .nil))) .nil))), ?_⟩
    have f1 : Fits 1 (.list ((rowL π.v).map PyData.int)) := fits_list (fits_ints _)
    have f2 : Fits 2 (.tuple [.int π.s, .list ((rowL π.v).map PyData.int)]) := fits_tuple fun d hd => by
      simp only [List.mem_cons, List.not_mem_nil, or_false] at hd
      rcases hd with rfl | rfl
      · exact (fits_int _).up (by decide)
      · exact f1
    refine (fits_list (n := 2) fun d hd => ?_).shaped (by decide)
    simp only [List.mem_cons, List.not_mem_nil, or_false] at hd
    rcases hd with rfl | rfl | rfl
    · exact k4.up (by decide)
    · exact (fits_title ho.1).up (by decide)
    · exact f2
theorem str_two {a b : Str} (ha : Fits 0 (.str a)) (hb : Fits 0 (.str b)) : SeqAt.shaped (.list [.str a, .str b]) = true ∧ PyData.eqv (.list [.str a, .str b]) (.list [.str a, .str b]) = true :=
  ⟨(fits_list (n := 0) fun d hd => by
    simp only [List.mem_cons, List.not_mem_nil, or_false] at hd
    rcases hd with rfl | rfl <;> assumption).shaped (by decide), by simp [PyData.eqv, PyData.eqvAll]⟩
theorem fits_n {k : Nat} (h : k ≤ 200) : Fits 0 (.str (nText k)) := by
  have key : ∀ k : Fin 201, PyData.canLay0 (.str (nText k.1)) = true := by decide +kernel
  exact ⟨key ⟨k, by omega⟩, Nat.le_refl _⟩
theorem fits_r {a : Str} (h : a ∈ titles) : Fits 0 (.str (reprText a)) := by
  rcases (show a = "a" ∨ a = "main" ∨ a = "zz" by simpa [titles] using h) with rfl | rfl | rfl <;> exact ⟨by decide +kernel, Nat.le_refl _⟩
theorem parts_fit {u : Due} (h : u.Small) : SeqAt.shaped (.list (u.parts.map PyData.str)) = true ∧ PyData.eqv (.list (u.parts.map PyData.str)) (.list (u.parts.map PyData.str)) = true := by
  cases u with
  | ok => exact ⟨rfl, rfl⟩
  | idx k => exact str_two ⟨by decide +kernel, Nat.le_refl _⟩ (fits_n h)
  | unk a => exact str_two ⟨by decide +kernel, Nat.le_refl _⟩ (fits_r h)
  | brk k => exact str_two ⟨by decide +kernel, Nat.le_refl _⟩ (fits_n h)
  | use k => exact str_two ⟨by decide +kernel, Nat.le_refl _⟩ (fits_n h)
/-- the turn behind the choice of the deed -/
def tRest (K : PySem.W.Frag) (Tb : Addr) (q : Str) : TS :=
  tSeq (tAsg (tCall spBehind [] E0 (tCons (tOp (rIxL K) (tVar 2) (tUn (rU fun i => V.int (-i)) (tC (V.int 1)))) (tCons (tVar 5) tNil))) (gTup K 2 (gCons (gName 7) (gCons (gName 8) gNil))))
    (tSeq (tIfS (tTest (tOp (rNeD K) (tLam [(Tb, q)] (THeard K) fun E => tCall (spDone K) [] E (tCons (tVar 1) (tCons (tVar 5) tNil)))
        (tIf (tTest (tOp (rNeD K) (tVar 7) (tLst tNil))) (tVar 7) (tLst (tCons (tC (V.str "told")) (tCons (tC (V.str "None")) tNil)))))) (tRet (tC (V.bl false))) tNext)
      (tIfS (tTest (tOp (rEqD K) (tVar 7) (tLst tNil))) (tSeq (tDrop (tBM K "list" rAppend (tVar 2) (tCons (tVar 8) tNil))) (tDrop (tBM K "list" rAppend (tVar 3) (tCons (tVar 5) tNil)))) tNext))
theorem rest_ok {j pl dl b Tb qd : Addr} {q : Str} {H0 H1 : Hp} {des : List De} {de : De} {v4 v6 v7 v8 v9 v10 : Option V} {D : Ends} (lv : Live K H0 j pl dl b Tb q H1 des des.length) (hl : des.length ≤ 16) (hde : DeAt (off (M5 j pl dl b Tb) H1) de (.ref qd)) (ho : de.Ok)
    (hD : ∀ H' des' (v7 v8 : Option V), Live K H0 j pl dl b Tb q H' des' des'.length → des'.length ≤ des.length + 1 → D.nx [some (.ref j), some (.ref b), some (.ref pl), some (.ref dl), v4, some (.ref qd), v6, v7, v8, v9, v10] H') :
    tRest K Tb q D [some (.ref j), some (.ref b), some (.ref pl), some (.ref dl), v4, some (.ref qd), v6, v7, v8, v9, v10] H1 := by
  obtain ⟨pvs, pv, hpl, elp, hpv, hpa⟩ := lv.page (i := des.length) (Nat.le_refl _)
  rw [List.take_length] at hpa
  obtain ⟨pk, pw⟩ := lv.ok des.length
  rw [List.take_length] at pk pw
  obtain ⟨pp, _, _, rfl, _⟩ := id hpa
  have la : atI pvs (-1) = some (.ref pp) := atI_back (k := 0) (by omega) (by rw [elp]; exact hpv)
  refine ⟨_, rfl, 1, rfl, _, _, _, _, rfl, rfl, .of hpl, la, _, rfl, pgAt des, de, pp, qd, M5 j pl dl b Tb, rfl, hpa, hde, pk, ho, by omega, lv.st.lv, fun r u v H2 s2 hr hr0 hdue hpage => ?_⟩
  refine ⟨r, _, rfl, .of hr, rfl, _, _, rfl, _, _, rfl, rfl, ?_⟩
  have lv2 := lv.same s2
  have hde2 := hde.same (off_same (M := M5 j pl dl b Tb) s2)
  refine ⟨lv2.st.tab, fun H3 ex t3 => ?_⟩
  have lv3 := lv2.ext ex t3
  have eo3 := ext_off (M := M5 j pl dl b Tb) ex
  have hde3 := DeAt.ext eo3 hde2
  have hpage3 := PageAt.ext eo3 hpage
  have hdue3 : DueAt (off (M5 j pl dl b Tb) H3) (behind (pgAt des) de).1 u := by
    obtain ⟨y, e1, e2⟩ := hdue
    exact ⟨y, e1, eo3 _ _ e2 fun _ z => by cases z⟩
  have bk3 := lv3.bk
  rw [List.take_length] at bk3
  refine ⟨_, rfl, _, rfl, b, qd, M5 j pl dl b Tb, _, pgAt des, de, rfl, hde3, by simp [M5], lv3.st.lv, lv3.st.nt, bk3, pk, ho, by rw [pages_len]; omega, by omega, fun eok H4 kb4 bk4 => ⟨rfl, fun p H5 s5 np hp5 => ?_⟩, ?_⟩
  · obtain ⟨y, rfl, hy⟩ := hdue3
    rw [eok] at hy
    have hy4 := off_kb (M := M5 j pl dl b Tb) (by simp [M5]) kb4 _ _ hy
    have hy5 : H5 y = some (.lst []) := s5 _ _ (off_le _ _ hy4)
    refine ⟨_, rfl, by show 0 ≤ sizeLine; decide, fun x hx => ⟨.list [], .list [], .lst (.of (same_new hx _ _ hy5)) .nil, .lst (.of upd_same) .nil, rfl, rfl, _, rfl, iteBF rfl ⟨by show 2 ≤ sizeLine; decide, fun x2 hx2 => ?_⟩⟩⟩
    have s7 := (same_new (o := .lst []) hx).trans (same_new (o := .lst [.str "told", .str "None"]) hx2)
    refine ⟨.list [.str "told", .str "None"], .list [.str "told", .str "None"], .lst (.of (s7 _ _ hp5)) (.cons (.str _) (.cons (.str _) .nil)), .lst (.of upd_same) (.cons (.str _) (.cons (.str _) .nil)), by decide +kernel, by decide +kernel, _, rfl, iteBF (by decide +kernel) ?_⟩
    have g_p : upd (upd H5 x (.lst [])) x2 (.lst [.str "told", .str "None"]) y = some (.lst []) := s7 _ _ hy5
    have s57 := s5.trans s7
    generalize upd (upd H5 x (.lst [])) x2 (.lst [.str "told", .str "None"]) = H7 at *
    have s47 : Same H4 H7 := s57
    obtain ⟨dxb, ndb, mtb, ptb, eb, _⟩ := id bk4
    have st7 := (lv3.st.kb kb4 ⟨dxb, _, eb⟩).same s47
    have rj7 := (lv3.rj.kb lv3.nb kb4).same s47
    have hpage7 := (hpage3.same (off_kb (M := M5 j pl dl b Tb) (by simp [M5]) kb4)).same (off_same (M := M5 j pl dl b Tb) s47)
    have hde7 := (hde3.same (off_kb (M := M5 j pl dl b Tb) (by simp [M5]) kb4)).same (off_same (M := M5 j pl dl b Tb) s47)
    refine ⟨_, rfl, by show 0 ≤ sizeLine; decide, fun x3 hx3 => ⟨.list [], .list [], .lst (.of (same_new hx3 _ _ g_p)) .nil, .lst (.of upd_same) .nil, rfl, rfl, _, rfl, iteBT rfl ?_⟩⟩
    have s8 := same_new (o := .lst []) hx3
    have st8 := st7.same s8
    obtain ⟨pvs8, e_p8, _⟩ := id st8.pgs
    obtain ⟨dvs8, e_d8, p_d8⟩ := id st8.dds
    obtain ⟨pvs9, e_p9, p_p9⟩ := id st8.pgs
    rw [e_p8] at e_p9
    cases e_p9
    have l1 : pvs8.length = des.length + 1 := by rw [← prd_len p_p9, pages_len]
    have l2 : dvs8.length = des.length := (prd_len p_d8).symm
    refine ⟨_, rfl, .inl ⟨rfl, _, .of e_p8⟩, _, rfl, pl, _, _, rfl, rfl, e_p8, sz (by omega), ?_⟩
    have e_d9 : upd (upd H7 x3 (.lst [])) pl (.lst (pvs8 ++ [v])) dl = some (.lst dvs8) := by rw [upd_ne st8.ne5.2.1.1.symm]; exact e_d8
    refine ⟨_, rfl, .inl ⟨rfl, _, .of e_d9⟩, _, rfl, dl, _, _, rfl, rfl, e_d9, sz (by omega), ?_⟩
    exact hD _ (des ++ [de]) _ _ (Live.more st8 (rj7.same s8) lv.good lv.nb lv.np lv.nd e_p8 e_d8 (hpage7.same (off_same s8)) (hde7.same (off_same s8)) ho eok ((bk4.same s47).same s8)) (by simp)
  · have hds := due_small (pg := pgAt des) ho (by omega)
    refine fails_of (R := fun ts H' => ∀ p H2, Same H' H2 → H' p = none → H2 p = some (.lst (ts.map V.str)) → _) hds (fun ne H4 s4 p H5 s5 np hp5 => ?_) (fun cls d H' ts sl r => ⟨ts, sl, r⟩)
    obtain ⟨y, rfl, hy⟩ := hdue3
    have s35 : Same H3 H5 := s4.trans s5
    have hy5 := s35 _ _ (off_le _ _ hy)
    have fp := parts_fit hds
    have nep : (behind (pgAt des) de).1.parts ≠ [] := by
      cases e : (behind (pgAt des) de).1 with
      | ok => exact absurd e ne
      | _ => simp [Due.parts]
    have ee : ((behind (pgAt des) de).1.parts.map PyData.str).isEmpty = false := by
      cases e : (behind (pgAt des) de).1.parts with
      | nil => exact absurd e nep
      | cons _ _ => rfl
    refine ⟨_, rfl, by show 0 ≤ sizeLine; decide, fun x hx => ⟨.list ((behind (pgAt des) de).1.parts.map PyData.str), .list [], .lst (.of (same_new hx _ _ hy5)) (strs_dp _), .lst (.of upd_same) .nil, fp.1, rfl, _, rfl, iteBT (by rw [eqv_nil, ee]; rfl) ⟨_, rfl, ?_⟩⟩⟩
    have s36 := s35.trans (same_new (o := .lst []) hx)
    refine ⟨.list ((behind (pgAt des) de).1.parts.map PyData.str), .list ((behind (pgAt des) de).1.parts.map PyData.str), .lst (.of (same_new hx _ _ hp5)) (strs_dp _), .lst (.of (same_new hx _ _ hy5)) (strs_dp _), fp.1, fp.1, _, rfl, iteBF (by rw [fp.2]; rfl) ?_⟩
    refine ⟨_, rfl, by show 0 ≤ sizeLine; decide, fun x3 hx3 => ⟨.list ((behind (pgAt des) de).1.parts.map PyData.str), .list [], .lst (.of (same_new hx3 _ _ (same_new hx _ _ hy5))) (strs_dp _), .lst (.of upd_same) .nil, fp.1, rfl, _, rfl, iteBF (by rw [eqv_nil, ee]) ?_⟩⟩
    exact hD _ des _ _ (lv3.same (s36.trans (same_new hx3))) (by omega)
theorem ok__law_right (W : Wd K mg) (F : FT K w) (TB : LamX.TabB base mg (He.cT K ("_law_right", none)).1 (He.cT K ("_law_right", none)).2) : OkG P w K mg base 17 "_law_right" ["_law_jug_here"] (spRight (He.cT K ("_law_right", none)).2) := by
  have O__law_pull := ok__law_pull (P := P) (w := w) (base := base) W
  have O__law_new_deed := ok__law_new_deed (P := P) (w := w) (base := base) W
  have O__law_again := ok__law_again (P := P) (w := w) (base := base) W
  have O__law_behind := ok__law_behind (P := P) (w := w) (base := base) W
  have O__law_book_is := ok__law_book_is (P := P) (w := w) (base := base) W
  have O__law_done := ok__law_done (P := P) (w := w) (base := base) W F
  obtain ⟨_, G_init, b_init⟩ := (ok_Book_init (P := P) (w := w) (base := base) W).ex
  obtain ⟨_, G_undo, b_undo⟩ := (ok_Book_undo (P := P) (w := w) (base := base) W).ex
  refine (fn__law_right W).okG sc__law_right (fun vs H Q E h => ?_) (fun cdv A outer s H vs Q E hG hcd hr h => ?_)
  · obtain ⟨j, rfl, _⟩ := h
    rfl
  · obtain ⟨oc, od, kV, doc, pm, an, ct, osl, lk, hcd⟩ := hcd
    obtain ⟨c, rfl⟩ := He.codeIn_ref hcd
    have ec : He.codeOf K ("_law_right", none) = c := He.codeOf_eq (p := ("_law_right", none)) lk rfl
    have TB' : LamX.TabB base mg c (He.cT K ("_law_right", none)).2 := by rw [← ec]; exact TB
    obtain ⟨j, rfl, hj, ht, k⟩ := h
    have hu := hu_of hr
    refine ⟨_, (pss_cons (ps_asg (pe_tup (pa_cons (pe_make0 (bk_mk W) G_init (hr.mono (by decide)) rfl (W.glo (by decide +kernel)) b_init .nil pass0) (pa_cons (pe_lst (pa_cons (pe_tup (pa_cons pe_dnewK (pa_cons (pe_lst pa_nil) pa_nil))) pa_nil)) (pa_cons (pe_lst pa_nil) pa_nil)))) (pg_tup rfl (pgs_cons (pg_name (i := 1) sc__law_right.nd rfl (.inr rfl)) (pgs_cons (pg_name (i := 2) sc__law_right.nd rfl (.inl rfl)) (pgs_cons (pg_name (i := 3) sc__law_right.nd rfl (.inl rfl)) pgs_nil)))))
      (pss_cons (ps_for PassesOwn.never rfl (pi_range1 rfl (fr_range W) (pa_cons (pcall O__law_pull (hr.mono (by decide)) (pa_cons (pv 0) (pa_cons pe_int pa_nil))) pa_nil)) (pg_name (i := 4) sc__law_right.nd rfl (.inl rfl)) (pss_cons (ps_set (i := 5) sc__law_right.nd rfl (.inr rfl) (pcall O__law_new_deed (hr.mono (by decide)) (pa_cons (pv 0) (pa_cons (pe_ix ix_list (pv 2) (pe_un un_neg pe_int) (fun _ _ => rfl)) pa_nil))))
      (pss_cons (ps_if (pt_cmpR op_eq (pcall O__law_pull (hr.mono (by decide)) (pa_cons (pv 0) (pa_cons pe_int pa_nil))) pe_int (nomark _)) (pss_cons (ps_set (i := 6) sc__law_right.nd rfl (.inl rfl) (pcall O__law_again (hr.mono (by decide)) (pa_cons (pv 0) (pa_cons (pe_ix ix_list (pv 2) (pe_un un_neg pe_int) (fun _ _ => rfl)) pa_nil))))
      (pss_one (ps_set (i := 5) sc__law_right.nd rfl (.inr rfl) (pe_ifExp (pt_cmpR (op_neD hr.units) (pv 6) (pe_lst pa_nil) (nomark _)) (pv 6) (pv 5))))) pss_nil)
      (pss_cons (ps_asg (pcall O__law_behind (hr.mono (by decide)) (pa_cons (pe_ix ix_list (pv 2) (pe_un un_neg pe_int) (fun _ _ => rfl)) (pa_cons (pv 5) pa_nil))) (pg_tup rfl (pgs_cons (pg_name (i := 7) sc__law_right.nd rfl (.inl rfl)) (pgs_cons (pg_name (i := 8) sc__law_right.nd rfl (.inl rfl)) pgs_nil))))
      (pss_cons (ps_if (pt_cmpR (op_neD hr.units) (pe_heard W (k := 13) (by decide) rfl TB' rfl (hr.mono (by decide)) (show LamS (defScope s__law_right) _ from lamS_by (by decide +kernel)) rfl (fun _ _ _ _ _ => rfl) (fun A outer s H E f c' hr => pcallL O__law_done (hr.mono (by decide)) (L2N.takes_of rfl rfl rfl rfl) (fun _ _ _ _ h => h) (pa_cons (pv 1) (pa_cons (pv 5) pa_nil)))) (pe_ifExp (pt_cmpR (op_neD hr.units) (pv 7) (pe_lst pa_nil) (nomark _)) (pv 7) (pe_lst (pa_cons pe_str (pa_cons pe_str pa_nil)))) (nomark _)) (pss_one (ps_ret pe_bl)) pss_nil)
      (pss_one (ps_if (pt_cmpR (op_eqD hr.units) (pv 7) (pe_lst pa_nil) (nomark _)) (pss_cons (ps_expr (pe_bm PySem.F.plainAttrs_list PySem.F.slot_list_append PySem.F.type_list_append mt_append (pv 2) (pa_cons (pv 8) pa_nil)))
      (pss_one (ps_expr (pe_bm PySem.F.plainAttrs_list PySem.F.slot_list_append PySem.F.type_list_append mt_append (pv 3) (pa_cons (pv 5) pa_nil))))) pss_nil)))))))
      (pss_cons (ps_for PassesOwn.never rfl (pi_range1 rfl (fr_range W) (pa_cons pe_int pa_nil)) (pg_name (i := 9) sc__law_right.nd rfl (.inl rfl)) (pss_cons (ps_for PassesOwn.never rfl (pi_range1 rfl (fr_range W) (pa_cons (pe_callB call_len rfl (fr_len W) (by decide +kernel) (pa_cons (pv 3) pa_nil)) pa_nil)) (pg_name (i := 10) sc__law_right.nd rfl (.inl rfl)) (pss_one (ps_if (PW.pt (pw_or (pt_not (pt_val (pcallG O__law_book_is hG (hr.mono (by decide)) (pa_cons (pv 1) (pa_cons (pe_ix ix_list (pv 2) (pe_op op_sub (pe_un un_neg pe_int) (pv 10)) (fun _ _ => rfl)) (pa_cons (pe_op op_sub (pe_callB call_len rfl (fr_len W) (by decide +kernel) (pa_cons (pv 3) pa_nil)) (pv 10)) pa_nil)))))) (pw_or1 (pt_cmpR op_notN (pe_meth0 (pv 1) (bk_cls W) (bk_meth W (by simp [bmeths])) G_undo (hr.mono (by decide)) b_undo .nil pass_no) pe_non (nomark _))))) (pss_one (ps_ret pe_bl)) pss_nil)))
      (pss_cons (ps_for PassesOwn.never rfl (pi_range1 rfl (fr_range W) (pa_cons pe_int pa_nil)) (pg_name (i := 4) sc__law_right.nd rfl (.inl rfl)) (pss_one (ps_if (PW.pt (pw_or (pt_cmpR (op_neD hr.units) (pe_heard W (k := 13) (by decide) rfl TB' rfl (hr.mono (by decide)) (show LamS (defScope s__law_right) _ from lamS_by (by decide +kernel)) rfl (fun _ _ _ _ _ => rfl) (fun A outer s H E f c' hr => pe_meth0 (pv 1) (bk_cls W) (bk_meth W (by simp [bmeths])) G_undo (hr.mono (by decide)) b_undo .nil (L2N.passes_call (L2N.takes_of rfl rfl rfl rfl) fun _ _ _ _ h => h))) (pe_lst (pa_cons pe_str pa_nil)) (nomark _)) (pw_or1 (pt_not (pt_val (pcallG O__law_book_is hG (hr.mono (by decide)) (pa_cons (pv 1) (pa_cons (pe_ix ix_list (pv 2) pe_int (fun _ _ => rfl)) (pa_cons pe_int pa_nil))))))))) (pss_one (ps_ret pe_bl)) pss_nil)))
      (pss_one (ps_for PassesOwn.never rfl (pi_list (pv 3)) (pg_name (i := 5) sc__law_right.nd rfl (.inr rfl)) (pss_one (ps_if (pt_cmpR op_notN (pcall0 O__law_done (hr.mono (by decide)) (pa_cons (pv 1) (pa_cons (pv 5) pa_nil))) pe_non (nomark _)) (pss_one (ps_ret pe_bl)) pss_nil)))))))
      (pss_one (ps_ret (pcallG O__law_book_is hG (hr.mono (by decide)) (pa_cons (pv 1) (pa_cons (pe_ix ix_list (pv 2) (pe_un un_neg pe_int) (fun _ _ => rfl)) (pa_cons (pe_callB call_len rfl (fr_len W) (by decide +kernel) (pa_cons (pv 3) pa_nil)) pa_nil))))))))), ?_⟩
    have jn : ∀ {p : Addr}, H p = none → p ≠ j := fun hp => hj.new hp
    refine fun b dx hb hdx nbd => ⟨b, dx, rfl, upd_same, fun nd mt pt H1 k1 n1 n2 n3 b1 b2 b3 b4 => ⟨rfl, fun x hx => ⟨by show 0 ≤ sizeLine; decide, fun y hy => ⟨by show 2 ≤ sizeLine; decide, fun z hz => ⟨by show 1 ≤ sizeLine; decide, fun pl hpl => ⟨by show 0 ≤ sizeLine; decide, fun dl hdl => ⟨by show 3 ≤ sizeLine; decide, fun t0 ht0 => ?_⟩⟩⟩⟩⟩⟩⟩
    have s0 : Same H (upd (upd H dx (.own b)) b (.ins (Bk K) dx [])) := (same_new hdx).trans (same_new ((upd_ne nbd.symm).trans hb))
    have k01 : Kb b H H1 := (Kb.of s0).trans k1
    have s1 : Same H1 (upd H1 x (.dK [])) := same_new hx
    have s2 := s1.trans (same_new (o := .lst []) hy)
    have s3 := s2.trans (same_new (o := .tup [.ref x, .ref y]) hz)
    have s4 := s3.trans (same_new (o := .lst [.ref z]) hpl)
    have s5 := s4.trans (same_new (o := .lst []) hdl)
    have s6 := s5.trans (same_new (o := .tup [.ref b, .ref pl, .ref dl]) ht0)
    refine ⟨t0, _, rfl, .of upd_same, rfl, _, _, rfl, _, _, rfl, _, _, rfl, rfl, ?_⟩
    have e_x := (s2.trans ((same_new (o := .tup [.ref x, .ref y]) hz).trans ((same_new (o := .lst [.ref z]) hpl).trans ((same_new (o := .lst []) hdl).trans (same_new (o := .tup [.ref b, .ref pl, .ref dl]) ht0)))))
    have g_x := ((same_new (o := .lst []) hy).trans ((same_new (o := .tup [.ref x, .ref y]) hz).trans ((same_new (o := .lst [.ref z]) hpl).trans ((same_new (o := .lst []) hdl).trans (same_new (o := .tup [.ref b, .ref pl, .ref dl]) ht0))))) x _ (upd_same (H := H1) (a := x) (o := .dK []))
    have g_y := ((same_new (o := .tup [.ref x, .ref y]) hz).trans ((same_new (o := .lst [.ref z]) hpl).trans ((same_new (o := .lst []) hdl).trans (same_new (o := .tup [.ref b, .ref pl, .ref dl]) ht0)))) y _ upd_same
    have g_z := ((same_new (o := .lst [.ref z]) hpl).trans ((same_new (o := .lst []) hdl).trans (same_new (o := .tup [.ref b, .ref pl, .ref dl]) ht0))) z _ upd_same
    have g_pl := ((same_new (o := .lst []) hdl).trans (same_new (o := .tup [.ref b, .ref pl, .ref dl]) ht0)) pl _ upd_same
    have g_dl := (same_new (o := .tup [.ref b, .ref pl, .ref dl]) ht0) dl _ upd_same
    have n_ydl : y ≠ dl := ne_of_none (((same_new (o := .tup [.ref x, .ref y]) hz).trans (same_new (o := .lst [.ref z]) hpl)) y _ upd_same) hdl
    have n_pl : H1 pl = none := s3.free hpl
    have n_dl : H1 dl = none := s4.free hdl
    generalize upd (upd (upd (upd (upd (upd H1 x (.dK [])) y (.lst [])) z (.tup [.ref x, .ref y])) pl (.lst [.ref z])) dl (.lst [])) t0 (.tup [.ref b, .ref pl, .ref dl]) = H6 at *
    have s06 : Same H H6 := fun c o e => s6 _ _ (k01 c o (fun q => by rw [q, hb] at e; cases e) e)
    have g_b := s6 _ _ b1
    have g_nd := s6 _ _ b2
    have g_mt := s6 _ _ b3
    have g_pt := s6 _ _ b4
    have H_pl : H pl = none := by
      cases e : H pl with
      | none => rfl
      | some o => exact absurd (k01 pl o (fun q => by rw [q, hb] at e; cases e) e) (by rw [n_pl]; simp)
    have H_dl : H dl = none := by
      cases e : H dl with
      | none => rfl
      | some o => exact absurd (k01 dl o (fun q => by rw [q, hb] at e; cases e) e) (by rw [n_dl]; simp)
    obtain ⟨ja, jb, jc, ej⟩ := hj
    have g_j := s06 _ _ ej
    have t6 : Tabs [((He.cT K ("_law_right", none)).2, lamQ)] H6 := fun p hp => (ht p hp).ext s06
    obtain ⟨tps, g_T, _⟩ := t6 _ List.mem_cons_self
    generalize hTb : (He.cT K ("_law_right", none)).2 = Tb at *
    have st : St5 K j pl dl b Tb lamQ H6 [] := by
      have nd5 : (M5 j pl dl b Tb).Nodup := by
        have a1 := ne_of g_j g_pl (by simp)
        have a2 := ne_of g_j g_dl (by simp)
        have a3 := ne_of g_j g_b (by simp)
        have a4 := ne_of g_j g_T (by simp)
        have a5 := ne_of g_pl g_dl (by simp)
        have a6 := ne_of g_pl g_b (by simp)
        have a7 := ne_of g_pl g_T (by simp)
        have a8 := ne_of g_dl g_b (by simp)
        have a9 := ne_of g_dl g_T (by simp)
        have a10 := ne_of g_b g_T (by simp)
        simp [M5, a1, a2, a3, a4, a5, a6, a7, a8, a9, a10]
      have f1 : ∀ {c : Addr} {o : HO}, H6 c = some o → (∀ xs, o ≠ .lst xs) → (∀ C d fs, o ≠ .ins C d fs) → (∀ ps, o ≠ .tbl ps) → c ∉ M5 j pl dl b Tb := fun {c o} h q1 q2 q3 hm => by
        simp only [M5, List.mem_cons, List.not_mem_nil, or_false] at hm
        rcases hm with rfl | rfl | rfl | rfl | rfl
        · rw [h] at g_j; exact q1 _ (Option.some.inj g_j)
        · rw [h] at g_pl; exact q1 _ (Option.some.inj g_pl)
        · rw [h] at g_dl; exact q1 _ (Option.some.inj g_dl)
        · rw [h] at g_b; exact q2 _ _ _ (Option.some.inj g_b)
        · rw [h] at g_T; exact q3 _ (Option.some.inj g_T)
      have y5 : y ∉ M5 j pl dl b Tb := fun hm => by
        simp only [M5, List.mem_cons, List.not_mem_nil, or_false] at hm
        rcases hm with rfl | rfl | rfl | rfl | rfl
        · rw [g_y] at g_j; cases g_j
        · rw [g_y] at g_pl; cases g_pl
        · exact n_ydl rfl
        · rw [g_y] at g_b; cases g_b
        · rw [g_y] at g_T; cases g_T
      refine ⟨nd5, ⟨ja, jb, jc, g_j⟩, ⟨_, g_pl, .cons ⟨z, x, y, rfl, onto (f1 g_z (by simp) (by simp) (by simp)) g_z, ⟨[], onto (f1 g_x (by simp) (by simp) (by simp)) g_x, .nil⟩, [], onto y5 g_y, .nil⟩ .nil⟩, ⟨_, g_dl, .nil⟩, t6, dx, _, g_b⟩
    have bk0 : BookAt K (M5 j pl dl b Tb) H6 b (pages 0 []) (pgAt (([] : List De).take 0)) := by
      have f2 : ∀ {c : Addr} {o : HO}, H6 c = some o → (∀ xs, o ≠ .lst xs) → (∀ C d fs, o ≠ .ins C d fs) → (∀ ps, o ≠ .tbl ps) → c ∉ M5 j pl dl b Tb := fun {c o} h q1 q2 q3 hm => by
        simp only [M5, List.mem_cons, List.not_mem_nil, or_false] at hm
        rcases hm with rfl | rfl | rfl | rfl | rfl
        · rw [h] at g_j; exact q1 _ (Option.some.inj g_j)
        · rw [h] at g_pl; exact q1 _ (Option.some.inj g_pl)
        · rw [h] at g_dl; exact q1 _ (Option.some.inj g_dl)
        · rw [h] at g_b; exact q2 _ _ _ (Option.some.inj g_b)
        · rw [h] at g_T; exact q3 _ (Option.some.inj g_T)
      exact ⟨dx, nd, mt, pt, g_b, ⟨[], onto (f2 g_nd (by simp) (by simp) (by simp)) g_nd, .nil⟩, ⟨[], onto (f2 g_mt (by simp) (by simp) (by simp)) g_mt, .nil⟩, [], onto (f2 g_pt (by simp) (by simp) (by simp)) g_pt, .nil⟩
    have r6 : Rj j H H6 := fun c o _ e _ => s06 _ _ e
    have hbn : H b = none := hb
    clear g_x g_y g_z g_nd g_mt g_pt s1 s2 s3 s4 s5 s6 e_x k01 s0 b1 b2 b3 b4 k1 g_T g_b g_pl g_dl
    clear hx hy hz hpl hdl ht0 n1 n2 n3 n_ydl n_pl n_dl
    refine ⟨_, rfl, j, 17, rfl, st.jug, by decide, by decide, fun r H7 r0 r1 jk7 _ => ?_⟩
    obtain ⟨nn, rfl⟩ : ∃ n : Nat, r = n := ⟨r.toNat, by omega⟩
    have hnn : nn ≤ 16 := by omega
    have lv0 : Live K H j pl dl b Tb lamQ H7 [] 0 := Live.jk ⟨st, bk0, r6, Good.nil, hbn, H_pl, H_dl⟩ jk7
    clear st bk0 r6
    refine ⟨_, rfl, by omega, by omega, ?_⟩
    refine for_range (lo := 0) (n := ((nn : Int)).toNat) (fun i σ H' => ∃ des, Live K H j pl dl b Tb lamQ H' des des.length ∧ des.length ≤ i ∧ ∃ v4 v5 v6 v7 v8 v9 v10 : Option V, σ = [some (.ref j), some (.ref b), some (.ref pl), some (.ref dl), v4, v5, v6, v7, v8, v9, v10])
      ⟨[], lv0, Nat.le_refl _, none, none, none, none, none, none, none, rfl⟩ ?_ ?_
    · rintro i σ H8 hi ⟨des, lv, hdl, v4, v5, v6, v7, v8, v9, v10, rfl⟩
      have hdl16 : des.length ≤ 16 := by omega
      obtain ⟨pvs, pv, hpl, elp, hpv, hpa⟩ := lv.page (i := des.length) (Nat.le_refl _)
      rw [List.take_length] at hpa
      obtain ⟨pk, pw⟩ := lv.ok des.length
      rw [List.take_length] at pk pw
      obtain ⟨pp, _, _, rfl, _⟩ := id hpa
      have la : atI pvs (-1) = some (.ref pp) := atI_back (k := 0) (by omega) (by rw [elp]; exact hpv)
      refine ⟨_, rfl, _, rfl, 1, rfl, _, _, _, _, rfl, rfl, .of hpl, la, j, pp, pgAt des, M5 j pl dl b Tb, rfl, lv.st.jug, List.mem_cons_self, lv.st.lv, lv.st.nr, hpa, by omega, fun q de H9 jk9 hde hdo => ?_⟩
      have lv9 := lv.jk jk9
      refine ⟨_, rfl, j, 5, rfl, lv9.st.jug, by decide, by decide, fun r2 H10 _ _ jk10 _ => ⟨rfl, _, rfl, ?_⟩⟩
      have lv10 := lv9.jk jk10
      have hde10 : DeAt (off (M5 j pl dl b Tb) H10) de (.ref q) := hde.same (off_jk List.mem_cons_self jk10)
      refine ite2D (fun c => ?_) (fun c => ?_)
      · obtain ⟨pvs2, pv2, hpl2, elp2, hpv2, hpa2⟩ := lv10.page (i := des.length) (Nat.le_refl _)
        rw [List.take_length] at hpa2
        obtain ⟨pp2, _, _, rfl, _⟩ := id hpa2
        have la2 : atI pvs2 (-1) = some (.ref pp2) := atI_back (k := 0) (by omega) (by rw [elp2]; exact hpv2)
        refine ⟨_, rfl, _, rfl, 1, rfl, _, _, _, _, rfl, rfl, .of hpl2, la2, j, pp2, pgAt des, M5 j pl dl b Tb, rfl, lv10.st.jug, List.mem_cons_self, lv10.st.lv, hpa2, pk, by omega, fun p0 H11 jk11 np0 h0 => ?_, fun qm dem H11 jk11 hdem hom => ?_⟩
        · refine ⟨_, rfl, by show 0 ≤ sizeLine; decide, fun x hx => ⟨.list [], .list [], .lst (.of (same_new hx _ _ h0)) .nil, .lst (.of upd_same) .nil, rfl, rfl, _, rfl, ?_⟩⟩
          have lv11 := (lv10.jk jk11).same (same_new (o := .lst []) hx)
          have hde11 := (hde10.same (off_jk List.mem_cons_self jk11)).same (off_same (same_new (o := .lst []) hx))
          exact iteBF rfl ⟨_, rfl, rest_ok lv11 hdl16 hde11 hdo fun H' des' w7 w8 lv' hl' => ⟨des', lv', by omega, _, _, _, _, _, _, _, rfl⟩⟩
        · have lv11 := lv10.jk jk11
          obtain ⟨ds, e0, dp, shp⟩ := de_dp (K := K) (hdem.same off_le) hom
          refine ⟨_, rfl, by show 0 ≤ sizeLine; decide, fun x hx => ?_⟩
          obtain ⟨ds, e0, dp, shp⟩ := de_dp (K := K) (hdem.same (off_le.trans (same_new (o := .lst []) hx))) hom
          refine ⟨.list ds, .list [], dp, .lst (.of upd_same) .nil, shp, rfl, _, rfl, ?_⟩
          rw [eqv_nil, e0]
          exact iteBT rfl ⟨_, rfl, rest_ok (lv11.same (same_new hx)) hdl16 (hdem.same (off_same (same_new hx))) hom fun H' des' w7 w8 lv' hl' => ⟨des', lv', by omega, _, _, _, _, _, _, _, rfl⟩⟩
      · exact rest_ok lv10 hdl16 hde10 hdo fun H' des' w7 w8 lv' hl' => ⟨des', lv', by omega, _, _, _, _, _, _, _, rfl⟩
    · rintro σ H8 ⟨des, lv, hdl, v4, v5, v6, v7, v8, v9, v10, rfl⟩
      have hdl16 : des.length ≤ 16 := by omega
      clear hdl
      refine ⟨_, rfl, by decide, by decide, for_range (lo := 0) (n := (2 : Int).toNat) (fun i σ H' => Live K H j pl dl b Tb lamQ H' des des.length ∧ ∃ v4 v5 v6 v7 v8 v9 v10 : Option V, σ = [some (.ref j), some (.ref b), some (.ref pl), some (.ref dl), v4, v5, v6, v7, v8, v9, v10])
        ⟨lv, v4, v5, v6, v7, v8, v9, v10, rfl⟩ ?_ ?_⟩
      · rintro i1 σ H9 hi1 ⟨lv1, w4, w5, w6, w7, w8, w9, w10, rfl⟩
        obtain ⟨dvs, e_dl, el_dl, _⟩ := lv1.deed
        refine ⟨_, rfl, _, des.length, rfl, .inl ⟨_, .of e_dl, el_dl.symm⟩, _, rfl, by omega, by omega, ?_⟩
        clear k
        refine for_range (lo := 0) (n := ((des.length : Nat) : Int).toNat) (fun m σ H' => Live K H j pl dl b Tb lamQ H' des (des.length - m) ∧ ∃ v4 v5 v6 v7 v8 v9 v10 : Option V, σ = [some (.ref j), some (.ref b), some (.ref pl), some (.ref dl), v4, v5, v6, v7, v8, v9, v10])
          ⟨lv1, _, _, _, _, _, _, _, rfl⟩ ?_ ?_
        · rintro m σ H10 hm ⟨lv2, x4, x5, x6, x7, x8, x9, x10, rfl⟩
          have hm' : m < des.length := by simpa using hm
          obtain ⟨mm, emm⟩ : ∃ mm, des.length - m = mm + 1 := ⟨des.length - m - 1, by omega⟩
          rw [emm] at lv2
          obtain ⟨dvs2, e_dl2, el_dl2, _⟩ := lv2.deed
          obtain ⟨pvs, pv, hpl, elp, hpv, hpa⟩ := lv2.page (i := mm + 1) (by omega)
          obtain ⟨pk, pw⟩ := lv2.ok (mm + 1)
          obtain ⟨pp, _, _, rfl, _⟩ := id hpa
          have la : atI pvs (-1 - (m : Int)) = some (.ref pp) := atI_back (k := m) (by omega) (by rw [elp, show des.length + 1 - 1 - m = mm + 1 by omega]; exact hpv)
          refine ⟨_, rfl, _, rfl, 1, rfl, _, rfl, _, _, rfl, rfl, _, _, _, _, rfl, rfl, .of hpl, (show atI pvs (-1 - (0 + (m : Int))) = some (.ref pp) by rw [Int.zero_add]; exact la), ?_⟩
          refine ⟨_, rfl, _, des.length, rfl, .inl ⟨_, .of e_dl2, el_dl2.symm⟩, _, rfl, _, _, rfl, rfl, ?_⟩
          refine ⟨b, .ref pp, mm + 1, M5 j pl dl b Tb, _, _, congrArg (fun z => [V.ref b, V.ref pp, V.int z]) (by omega), lv2.bk, pk, pages_len _ _, by omega, by omega, hpa, fun H11 s11 => ⟨_, rfl, iteBF rfl ?_⟩⟩
          have lv3 := lv2.same s11
          obtain ⟨dx3, nd3, mt3, pt3, hb3, _⟩ := id lv3.bk
          refine ⟨_, rfl, b, dx3, _, rfl, hb3, rfl, b, M5 j pl dl b Tb, _, _, rfl, by simp [M5], lv3.st.lv, lv3.bk, fun e => ?_, fun qs q e H12 k12 b12 => ?_⟩
          · have z := congrArg List.length e
            rw [pages_len] at z
            cases z
          · obtain ⟨rfl, rfl⟩ := pages_last e
            refine ⟨rfl, _, rfl, iteBF (by simp) ⟨?_, _, _, _, _, _, _, _, rfl⟩⟩
            rw [show des.length - (m + 1) = mm by omega]
            exact lv3.kb k12 b12
        · rintro σ H10 ⟨lv2, x4, x5, x6, x7, x8, x9, x10, rfl⟩
          have lv3 : Live K H j pl dl b Tb lamQ H10 des 0 := by
            rw [show des.length - ((des.length : Nat) : Int).toNat = 0 by simp] at lv2
            exact lv2
          clear lv2
          refine ⟨_, rfl, by decide, by decide, for_range (lo := 0) (n := (2 : Int).toNat) (fun i σ H' => Live K H j pl dl b Tb lamQ H' des 0 ∧ ∃ v4 v5 v6 v7 v8 v9 v10 : Option V, σ = [some (.ref j), some (.ref b), some (.ref pl), some (.ref dl), v4, v5, v6, v7, v8, v9, v10])
            ⟨lv3, _, _, _, _, _, _, _, rfl⟩ ?_ ?_⟩
          · rintro i2 σ H11 hi2 ⟨lv4, y4, y5, y6, y7, y8, y9, y10, rfl⟩
            refine ⟨lv4.st.tab, fun H12 ex12 t12 => ?_⟩
            have lv5 := lv4.ext ex12 t12
            obtain ⟨dx5, nd5, mt5, pt5, hb5, _⟩ := id lv5.bk
            refine ⟨_, rfl, b, dx5, _, rfl, hb5, rfl, b, M5 j pl dl b Tb, _, _, rfl, by simp [M5], lv5.st.lv, lv5.bk, fun _ H13 s13 => ⟨_, .not, fun p H14 s14 np hp => ?_⟩, fun qs q e => ?_⟩
            · refine ⟨by show 1 ≤ sizeLine; decide, fun x hx => ⟨.list [.str "NothingToUndo"], .list [.str "NothingToUndo"], .lst (.of (same_new hx _ _ hp)) (.cons (.str _) .nil), .lst (.of upd_same) (.cons (.str _) .nil), by decide +kernel, by decide +kernel, _, rfl, iteBF (by decide +kernel) ?_⟩⟩
              have lv6 := lv5.same ((s13.trans s14).trans (same_new (o := .lst [.str "NothingToUndo"]) hx))
              obtain ⟨pvs, pv, hpl, elp, hpv, hpa⟩ := lv6.page (i := 0) (Nat.zero_le _)
              obtain ⟨pk, pw⟩ := lv6.ok 0
              obtain ⟨pp, _, _, rfl, _⟩ := id hpa
              refine ⟨_, rfl, _, rfl, _, _, _, _, rfl, rfl, .of hpl, atI_nat (j := 0) hpv, ?_⟩
              exact ⟨b, .ref pp, 0, M5 j pl dl b Tb, _, _, rfl, lv6.bk, pk, pages_len _ _, by omega, by omega, hpa, fun H15 s15 => ⟨_, rfl, iteBF rfl ⟨lv6.same s15, _, _, _, _, _, _, _, rfl⟩⟩⟩
            · have z := congrArg List.length e
              rw [pages_len] at z
              simp at z
          · rintro σ H11 ⟨lv4, y4, y5, y6, y7, y8, y9, y10, rfl⟩
            obtain ⟨dvs4, e_dl4, el_dl4, _⟩ := lv4.deed
            refine ⟨_, rfl, dl, rfl, ⟨_, .of e_dl4⟩, for_list (K := K) (a := dl) (xs := dvs4) (fun i σ H' => Live K H j pl dl b Tb lamQ H' des i ∧ H' dl = some (.lst dvs4) ∧ ∃ v4 v5 v6 v7 v8 v9 v10 : Option V, σ = [some (.ref j), some (.ref b), some (.ref pl), some (.ref dl), v4, v5, v6, v7, v8, v9, v10])
              ⟨lv4, e_dl4, _, _, _, _, _, _, _, rfl⟩ (fun i σ H' _ h => .of h.2.1) ?_ ?_⟩
            · rintro i v σ H12 hv ⟨lv5, e_dl5, z4, z5, z6, z7, z8, z9, z10, rfl⟩
              obtain ⟨dvs5, e5, p5⟩ := id lv5.st.dds
              rw [e_dl5] at e5
              cases e5
              obtain ⟨de, hde, hda⟩ := prd_get p5 hv
              have hi : i < des.length := (List.getElem?_eq_some_iff.mp hde).1
              obtain ⟨q, rfl, _⟩ := id hda
              obtain ⟨pk, pw⟩ := lv5.ok i
              refine ⟨_, rfl, _, rfl, b, q, M5 j pl dl b Tb, _, pgAt (des.take i), de, rfl, hda, by simp [M5], lv5.st.lv, lv5.st.nt, lv5.bk, pk, lv5.good.ok de (List.mem_of_getElem? hde), by rw [pages_len]; omega, by omega, fun eok H13 k13 b13 => ?_, by rw [lv5.good.go i de hde]; trivial⟩
              refine ⟨rfl, _, rfl, iteBF (by simp) ⟨lv5.kb k13 (by rw [pages_snoc, pgAt_next hde]; exact b13), k13 _ _ lv5.st.ne5.2.2.1.1 e_dl5, _, _, _, _, _, _, _, rfl⟩⟩
            · rintro σ H12 ⟨lv5, e_dl5, z4, z5, z6, z7, z8, z9, z10, rfl⟩
              rw [el_dl4] at lv5
              exact ⟨lv5, _, _, _, _, _, _, _, rfl⟩
      · rintro σ H9 ⟨lv1, w4, w5, w6, w7, w8, w9, w10, rfl⟩
        obtain ⟨dvs, e_dl, el_dl, _⟩ := lv1.deed
        obtain ⟨pvs, pv, hpl, elp, hpv, hpa⟩ := lv1.page (i := des.length) (Nat.le_refl _)
        obtain ⟨pk, pw⟩ := lv1.ok des.length
        obtain ⟨pp, _, _, rfl, _⟩ := id hpa
        have la : atI pvs (-1) = some (.ref pp) := atI_back (k := 0) (by omega) (by rw [elp]; exact hpv)
        refine ⟨_, rfl, _, rfl, 1, rfl, _, _, _, _, rfl, rfl, .of hpl, la, _, rfl, _, des.length, rfl, .inl ⟨_, .of e_dl, el_dl.symm⟩, ?_⟩
        exact ⟨b, .ref pp, des.length, M5 j pl dl b Tb, _, _, rfl, lv1.bk, pk, pages_len _ _, by omega, by omega, hpa, fun H' s => k H' (lv1.rj.same s) fun p hp => (lv1.st.tab p hp).ext s⟩
end
end KB
end
section
set_option Elab.async false
set_option linter.all false
set_option maxRecDepth 100000
set_option maxHeartbeats 4000000
/-! law -/
namespace KB
open PySem PySem.Spec PyProof.Rows L2 KM LamX
theorem rj_sq {K : PySem.W.Frag} {H H1 H' : Hp} {j a : Addr} {xs : List V} (s : Same H H1) (r : Rj j H1 H') (n : H j = none) (h : SqL K H a xs) : SqL K H' a xs := by
  have ne : ∀ {o : HO}, H a = some o → a ≠ j := fun e z => by
    rw [z, n] at e
    cases e
  rcases h with (h | ⟨o, h⟩) | h
  · exact .inl (.inl (r _ _ (ne h) (s _ _ h) fun _ z => nomatch z))
  · exact .inl (.inr ⟨o, r _ _ (ne h) (s _ _ h) fun _ z => nomatch z⟩)
  · exact .inr h
section
variable {P : Program} {w : World} {K : PySem.W.Frag} {mg : Str → Option Value} {base : Heap}
def spLaw (K : PySem.W.Frag) (Tb : Addr) : Sp := fun vs H Q _ => ∃ (a : Addr) (ns : List Int), vs = [.ref a] ∧ SqL K H a (ns.map V.int) ∧ ns.length ≤ 63 ∧ Tabs [(Tb, lamQ)] H ∧ ∀ H', Q (.bl true) H'
theorem ok_law (W : Wd K mg) (F : FT K w) (TB : LamX.TabB base mg (He.cT K ("_law_right", none)).1 (He.cT K ("_law_right", none)).2) : OkG P w K mg base 18 "law" ["_law_cells"] (spLaw K (He.cT K ("_law_right", none)).2) := by
  have O__law_jug := ok__law_jug (P := P) (w := w) (base := base) W
  have O__law_right := ok__law_right (P := P) (w := w) (base := base) W F TB
  generalize (He.cT K ("_law_right", none)).2 = Tb at *
  refine (fn_law W).okG sc_law (fun vs H Q E h => ?_) (fun cdv A outer s H vs Q E hG hcd hr h => ?_)
  · obtain ⟨a, ns, rfl, _⟩ := h
    rfl
  · obtain ⟨a, ns, rfl, hsq, hl, ht, k⟩ := h
    have hu := hu_of hr
    refine ⟨_, (pss_cons (ps_for PassesOwn.never rfl (pi_range1 rfl (fr_range W) (pa_cons (pe_callB (call_max2 rfl) rfl (fr_max W) (by decide +kernel) (pa_cons pe_int (pa_cons (pe_callB (call_min2 rfl) rfl (fr_min W) (by decide +kernel) (pa_cons (pe_callB call_len rfl (fr_len W) (by decide +kernel) (pa_cons (pv 0) pa_nil)) (pa_cons pe_int pa_nil))) pa_nil))) pa_nil)) (pg_name (i := 1) sc_law.nd rfl (.inl rfl)) (pss_one (ps_if (pt_not (pt_val (pcallG O__law_right hG (hr.mono (by decide)) (pa_cons (pcall O__law_jug (hr.mono (by decide)) (pa_cons (pv 0) (pa_cons (pv 1) pa_nil))) pa_nil)))) (pss_one (ps_ret pe_bl)) pss_nil)))
      (pss_one (ps_ret pe_bl))), ?_⟩
    refine ⟨_, rfl, _, ns.length, rfl, .inl ⟨_, hsq, by rw [List.length_map]⟩, _, _, rfl, _, _, rfl, ?_⟩
    have bd : ∀ r : Int, r = (if (5 : Int) < (ns.length : Nat) then (5 : Int) else (ns.length : Nat)) → 0 ≤ r ∧ r ≤ 5 := fun r e => by
      rw [e]
      split <;> omega
    generalize hr5 : (if (5 : Int) < (ns.length : Nat) then (5 : Int) else (ns.length : Nat)) = r5
    obtain ⟨b0, b5⟩ := bd r5 hr5.symm
    have bm : ∀ r : Int, r = (if r5 > 1 then r5 else 1) → 1 ≤ r ∧ r ≤ 5 := fun r e => by
      rw [e]
      split <;> omega
    generalize hr6 : (if r5 > 1 then r5 else 1) = r6
    obtain ⟨c0, c5⟩ := bm r6 hr6.symm
    refine ⟨r6, rfl, by omega, by omega, for_range (lo := 0) (n := r6.toNat) (fun i σ H' => SqL K H' a (ns.map V.int) ∧ Tabs [(Tb, lamQ)] H' ∧ ∃ v1 : Option V, σ = [some (.ref a), v1]) ⟨hsq, ht, none, rfl⟩ ?_ ?_⟩
    · rintro i σ H1 hi ⟨hq1, ht1, v1, rfl⟩
      refine ⟨_, rfl, _, rfl, a, ns, i, congrArg (fun z => [V.ref a, V.int z]) (Int.zero_add _), hq1, hl, by omega, fun j H2 s2 nj hj => ?_⟩
      refine ⟨j, rfl, hj, fun p hp => (ht1 p hp).ext s2, fun H3 r3 t3 => ⟨_, rfl, iteBF rfl ⟨rj_sq s2 r3 nj hq1, t3, _, rfl⟩⟩⟩
    · rintro σ H1 ⟨_, _, v1, rfl⟩
      exact k H1
end
end KB
end
section
set_option Elab.async false
set_option linter.all false
set_option maxRecDepth 100000
set_option maxHeartbeats 4000000
/-! the end of a law whose call keeps a promise only where no guard stands; one table -/
namespace KB
open PySem PySem.Spec PyProof.Rows L2 LamX
/-- what is tracked ahead of the call: the table, the script (if it is no piece of the top) -/
def trkG (K : PySem.W.Frag) (T a : Addr) (o : Obj) (xs : List V) : Hp := fun b => if b = T then some (.tbl #[]) else if b = a ∧ K.lookup a = none then some (.frz o (.lst xs)) else none
section
variable {K : PySem.W.Frag} {T a b : Addr} {o : Obj} {xs : List V}
theorem trkG_T : trkG K T a o xs T = some (.tbl #[]) := if_pos rfl
theorem trkG_a (n : a ≠ T) (k : K.lookup a = none) : trkG K T a o xs a = some (.frz o (.lst xs)) := (if_neg n).trans (if_pos ⟨rfl, k⟩)
theorem trkG_k (n : b ≠ T) (k : K.lookup b ≠ none) : trkG K T a o xs b = none := (if_neg n).trans (if_neg fun ⟨e, z⟩ => k (by rw [e]; exact z))
theorem trkG_far (n : b ≠ T) (m : b ≠ a) : trkG K T a o xs b = none := (if_neg n).trans (if_neg fun ⟨e, _⟩ => m e)
theorem trkG_of {u : HO} (h : trkG K T a o xs b = some u) : (b = T ∧ u = .tbl #[]) ∨ (b = a ∧ K.lookup a = none ∧ u = .frz o (.lst xs)) := by
  unfold trkG at h
  by_cases c : b = T
  · rw [if_pos c] at h
    exact .inl ⟨c, (Option.some.inj h).symm⟩
  · rw [if_neg c] at h
    by_cases d : b = a ∧ K.lookup a = none
    · rw [if_pos d] at h
      exact .inr ⟨d.1, d.2, (Option.some.inj h).symm⟩
    · rw [if_neg d] at h
      cases h
end
theorem call_goes {P : Program} {w : World} {K : PySem.W.Frag} {mg mb : Str → Option Value} {k : Nat} {fa a c T : Addr} {x : Str} {sp : Sp} {s : Shared} {us : List Value} {ns : List Int}
    (KX : K.In s.heap) (gN : s.heap.Ns mainGlobals mg) (bN : s.heap.Ns builtinsNs mb) (bB : ∀ y : Str, y ≠ "__name__" → mb y = bootBuiltins y) (lm : s.heap.NoLimit) (gn : s.gens = #[])
    (eT : s.heap.get? T = some { cls := .none, data := .fields #[] }) (kT : K.lookup T = none) (cT : PySem.W.CodeHd s.heap c T)
    (bmn : ∃ (m : Addr) (o : Obj), mg "__builtins__" = some (.ref m) ∧ m ≠ builtinsNs ∧ s.heap.get? m = some o ∧ o.cls = .type "module" ∧ o.dict = some builtinsNs ∧ o.data = .plain)
    (ea : s.heap.get? a = some { cls := .type "list", data := .seq us.toArray }) (intsA : IntsAre us ns) (hl : ns.length ≤ sizeLine) (hr : Room k callerA)
    (F : ∀ base : Heap, K.In base → base.Ns mainGlobals mg → TabB base mg c T → ∃ fd, FnG P w K mg base k fa fd [x] sp ∧ Binds K fd [x] [])
    (hsp : ∀ H : Hp, H T = some (.tbl #[]) → SqL K H a (ns.map V.int) → sp [.ref a] H (fun v _ => v = .bl true) fun _ _ _ => False) :
    codeAny (model P w) callerA (.call (.ref fa) ⟨[.ref a], []⟩) (fun r t => r = .ok (.ret (.bool true)) ∧ OldK s.heap t.heap ∧ t.os = s.os ∧ AllBare t.gens) s := by
  have rv := vals_ints intsA
  have lu : us.toArray.size ≤ sizeLine := by rw [List.size_toArray, intsA.length]; exact hl
  have aT : a ≠ T := fun z => by
    rw [z, eT] at ea
    cases ea
  obtain ⟨H, eH⟩ : ∃ H, H = trkG K T a { cls := .type "list", data := .seq us.toArray } (ns.map V.int) := ⟨_, rfl⟩
  have hT : H T = some (.tbl #[]) := by rw [eH]; exact trkG_T
  have sq : SqL K H a (ns.map V.int) := by
    cases q : K.lookup a with
    | none => exact .inl (.inr ⟨_, by rw [eH]; exact trkG_a aT q⟩)
    | some o =>
      have e := KX a o q
      rw [ea] at e
      cases e
      exact .inr ⟨_, us.toArray, _, q, rfl, rfl, rfl, lu, by simpa using rv⟩
  have ok : HOk P w H s.heap := fun b u z => by
    rw [eH] at z
    rcases trkG_of z with ⟨rfl, rfl⟩ | ⟨rfl, _, rfl⟩
    · exact eT
    · exact ⟨ea, by rw [List.length_map]; exact hl, us, _, rv, ea⟩
  have far : ∀ {b : Addr} {o : Obj}, s.heap.get? b = some o → (∀ vs n, o.data ≠ .seq vs n) → o.data ≠ .fields #[] → (hidT s.heap H).get? b = some o := fun {b o} e h1 h2 => hidT_get e (by
    rw [eH]
    refine trkG_far (fun z => ?_) fun z => ?_
    · rw [z, eT] at e
      cases e
      exact h2 rfl
    · rw [z, ea] at e
      cases e
      exact h1 _ _ rfl)
  have dic : ∀ {b : Addr} {m : Str → Option Value}, s.heap.Ns b m → (hidT s.heap H).Ns b m := fun {b m} h => by
    obtain ⟨o, es, ep, e, d, r⟩ := h
    exact ⟨o, es, ep, far e (fun vs n z => by rw [d] at z; cases z) (fun z => by rw [d] at z; cases z), d, r⟩
  have kin : K.In (hidT s.heap H) := fun b o e => hidT_get (KX b o e) (by
    rw [eH]
    exact trkG_k (fun z => by rw [z, kT] at e; cases e) (by rw [e]; simp))
  have tab : TabB (hidT s.heap H) mg c T := by
    refine ⟨?_, ?_, fun z => ?_⟩
    · obtain ⟨o, fs, f1, f2, f3, f4, f5, f6, f7, e, d, d3, d4, rest⟩ := cT
      refine ⟨o, fs, f1, f2, f3, f4, f5, f6, f7, far e (fun vs n z => by rw [d3] at z; cases z) (fun z => ?_), d, d3, d4, rest⟩
      rw [d3] at z
      cases z
      simp at d4
    · obtain ⟨m, o, m1, m2, m3, m4, m5, m6⟩ := bmn
      refine ⟨m, o, m1, m2, fun z => ?_, fun z => ?_, far m3 (fun vs n z => by rw [m6] at z; cases z) (fun z => by rw [m6] at z; cases z), m4, m5, m6⟩
      · obtain ⟨g, es, ep, e, d, _⟩ := gN
        rw [z, e] at m3
        cases m3
        rw [d] at m6
        cases m6
      · rw [z, eT] at m3
        cases m3
        cases m6
    · obtain ⟨g, es, ep, e, d, _⟩ := gN
      rw [z, eT] at e
      cases e
      cases d
  obtain ⟨fd, G, bd⟩ := F _ kin (dic gN) tab
  have bt : BindsTo s fd ⟨[.ref a], []⟩ ([x].zip [.ref a]) := bd s [.ref a] KX rfl
  have env : Env0 P w K mg (hidT s.heap H) callerA [] s H :=
    ⟨rfl, ⟨kin, dic gN, ⟨mb, dic bN, bB⟩, by obtain ⟨m, l1, l2⟩ := lm; exact ⟨m, dic l1, l2⟩⟩, fun _ _ e => of_hidT e, Nat.le_of_eq (hidT_size _ _), trivial, fun _ z => (nomatch z), ok, .of_eq gn⟩
  refine codeAny_mono (G.run callerA [] s H _ _ [.ref a] _ _ rfl hr env bt (.cons rfl .nil) (hsp H hT sq)) fun r t h => ?_
  match r, h with
  | .error _, h => exact h.elim
  | .ok .next, h => exact False.elim h
  | .ok .brk, h => exact False.elim h
  | .ok .cont, h => exact False.elim h
  | .ok (.ret u), ⟨v, H', os, bare, un, ok', ru, q⟩ =>
    obtain rfl : v = .bl true := q
    obtain rfl : u = Value.bool true := ru
    have stay : ∀ b o, b ≠ T → s.heap.get? b = some o → t.heap.get? b = some o := fun b o n e => by
      cases z : H b with
      | none => exact un.keep b o e z (fun y => nomatch y) (fun y => nomatch y)
      | some u =>
        have z0 := z
        rw [eH] at z
        rcases trkG_of z with ⟨y, _⟩ | ⟨rfl, _, rfl⟩
        · exact absurd y n
        · obtain ⟨e2, _⟩ := ok' b _ (un.frzs b _ _ z0)
          rw [ea] at e
          cases e
          exact e2
    obtain ⟨more, y⟩ := un.tbls T #[] hT
    have gr : t.heap.get? T = some { cls := .none, data := .fields (#[] ++ more) } := ok' T _ y
    refine ⟨rfl, ⟨fun b o e => ?_, fun b o e => ?_⟩, os, bare⟩
    · by_cases n : b = T
      · subst n
        rw [eT] at e
        cases e
        exact .inr (.inl ⟨(cT.tab eT).isCodeTable, rfl, #[], more, rfl, gr⟩)
      · exact .inl (stay b o n e)
    · by_cases n : b = T
      · subst n
        exact ⟨_, gr⟩
      · exact ⟨o, stay b o n e⟩
end KB
end
set_option Elab.async false
set_option linter.all false
set_option maxRecDepth 100000
set_option maxHeartbeats 4000000
/-! the statement -/
namespace KB
open PySem PySem.Spec PyProof.Rows L2 LamX
theorem room_caller : Room 18 callerA := ⟨rfl, by decide +kernel, by decide +kernel⟩
theorem walk : PySem.W.WalkO qv loose (PySem.W.XL qv []) hookP.says R.toRowW (HandSHeadRun.topDef R.prog 79) [] (fun f vs => PySem.call f vs) := by
  refine Att.attach_callB (l := PySem.Challenge.rw_purepowers_k62_whole_books_taken_back) (n := 63) rfl rfl fun w t0 t1 mg mb fa o pm cd doc a us ns G Y ho hd hcd hm hobj hints hlen hbits hg => ?_
  obtain ⟨K, KX, c⟩ := Y
  have W : Wd K mg := wd_of c KX G.T.g
  have ef : fa = He.ga K "law" := by
    have e : mg "law" = some (.ref (He.ga K "law")) := W.glo (by decide +kernel)
    have h2 : mg "law" = some (.ref fa) := hm
    rw [e] at h2
    cases h2
    rfl
  subst ef
  have pT : (("_law_right", none) : He.Defn) ∈ tf := by unfold tf; exact List.mem_cons_self
  have FF : FT K w := c.1.t.tab (t := (fun K => He.ga K "FORMS", ["splits", "whole", "always", "alike"])) 0 rfl
  refine call_goes (k := 18) (x := "_law_cells") (sp := spLaw K (He.cT K ("_law_right", none)).2) KX G.T.g G.T.b G.T.builtins G.T.nolimit hg (c.1.empty _ pT) (c.1.out _ pT) (PySem.W.codeHd_of_K KX (c.1.hd _ pT)) G.T.bmain hobj hints (Nat.le_trans hlen (by decide)) room_caller (fun base kb nb tb => ?_) (fun H hT sq => ?_)
  · exact (ok_law (P := _) (w := w) (base := base) (wd_of c kb nb) FF tb).ex
  · exact ⟨a, ns, rfl, sq, hlen, fun p hp => by rw [List.mem_singleton.mp hp]; exact .nil hT, fun _ => rfl⟩
end KB
open PySem PySem.W PySem.Calls PyProof.Rows
theorem PySem.Challenge.cw_purepowers_k62_whole_books_taken_back_holds : PySem.Challenge.rw_purepowers_k62_whole_books_taken_back.Holds := by
  w_on; o_law
  refine HandSHeadRun.head_any (r := KB.R) (q := KB.qv) (H := KB.hookP) (ob := KB.ob) (M := 6000) (loose := KB.loose) (kwd := []) KB.ob_eq (by kernel_rfl) (fun s => by kernel_rfl) KB.run (by rfl) (by rfl) (by rfl) (by rfl) (by first | assumption | decide +kernel) (by decide +kernel) ⟨rfl, rfl, rfl, rfl, rfl, by decide +kernel⟩ ?hw KB.walk
  case hw => w_witness2
