import PyProof.Rows.All
import Wide.All
import OpenK.AllK
import Wide.FinOn
import KE.KStateDown
import Lean
import HandS.ForMost
import HandS.ForExc
import HandS.More
import HandS.Defaults
import HandS.Wide
import HandS.IsInst
import HandS.Property
import HandS.Lambda
import HandS.FStr
import HandS.Zip
import HandS.TupAny
import HandS.TryMany
import HandS.RaiseMore
import HandS.TupSets
import HandS.SortOrd
import HandS.Star
import HandS.Conv
import HandS.Flow
import HandS.Style
import HandS.HeadNt
import HandS.EndTab
import HandS.HeadWalk
import HandS.HeadHook4
import HandS.Head2
import HandS.HeadEnd
import HandS.ExcInit
import KE.KExcInit
import HandS.ExcBuiltin
import HandS.Small
import HandS.Codes
import HandS.Walk
import KE.GoesMore
import KE.SortData
import PySem.Challenge.RW_purepowers_k79_whole_consoles_led
set_option Elab.async false
set_option linter.all false
set_option maxRecDepth 100000
set_option maxHeartbeats 1000000
-- text PA
namespace PP
open PySem PySem.Spec PyProof.Rows L2
/-! the text by places -/
def top (i : Nat) : Stmt := PySem.Challenge.pw_purepowers_k79_whole_consoles_led.main.body.getD i (.Pass ⟨0, 0, 0, 0⟩)
abbrev s_InvalidNumber_init : Stmt := inClass (top 4) 0
abbrev N_InvalidNumber_init : List Str := ["self", "given"]
theorem sc_InvalidNumber_init : FnScope N_InvalidNumber_init ["self", "given"] (defScope s_InvalidNumber_init) := ⟨rfl, rfl, rfl, by decide +kernel, rfl, by decide +kernel, by decide +kernel⟩
def d_InvalidNumber_init : He5.DefA := ⟨fun K => He.ma K (He.ga K "InvalidNumber") "__init__", "__init__", "InvalidNumber.__init__", defArgs s_InvalidNumber_init, defBody s_InvalidNumber_init, defScope s_InvalidNumber_init, [], []⟩
abbrev s_InvalidDegree_init : Stmt := inClass (top 5) 0
abbrev N_InvalidDegree_init : List Str := ["self", "given"]
theorem sc_InvalidDegree_init : FnScope N_InvalidDegree_init ["self", "given"] (defScope s_InvalidDegree_init) := ⟨rfl, rfl, rfl, by decide +kernel, rfl, by decide +kernel, by decide +kernel⟩
def d_InvalidDegree_init : He5.DefA := ⟨fun K => He.ma K (He.ga K "InvalidDegree") "__init__", "__init__", "InvalidDegree.__init__", defArgs s_InvalidDegree_init, defBody s_InvalidDegree_init, defScope s_InvalidDegree_init, [], []⟩
abbrev s_InvalidIndex_init : Stmt := inClass (top 6) 0
abbrev N_InvalidIndex_init : List Str := ["self", "given"]
theorem sc_InvalidIndex_init : FnScope N_InvalidIndex_init ["self", "given"] (defScope s_InvalidIndex_init) := ⟨rfl, rfl, rfl, by decide +kernel, rfl, by decide +kernel, by decide +kernel⟩
def d_InvalidIndex_init : He5.DefA := ⟨fun K => He.ma K (He.ga K "InvalidIndex") "__init__", "__init__", "InvalidIndex.__init__", defArgs s_InvalidIndex_init, defBody s_InvalidIndex_init, defScope s_InvalidIndex_init, [], []⟩
abbrev s_TooGreat_init : Stmt := inClass (top 11) 0
abbrev N_TooGreat_init : List Str := ["self", "given"]
theorem sc_TooGreat_init : FnScope N_TooGreat_init ["self", "given"] (defScope s_TooGreat_init) := ⟨rfl, rfl, rfl, by decide +kernel, rfl, by decide +kernel, by decide +kernel⟩
def d_TooGreat_init : He5.DefA := ⟨fun K => He.ma K (He.ga K "TooGreat") "__init__", "__init__", "TooGreat.__init__", defArgs s_TooGreat_init, defBody s_TooGreat_init, defScope s_TooGreat_init, [], []⟩
abbrev s_is_integer : Stmt := top 15
abbrev N_is_integer : List Str := ["value"]
theorem sc_is_integer : FnScope N_is_integer ["value"] (defScope s_is_integer) := ⟨rfl, rfl, rfl, by decide +kernel, rfl, by decide +kernel, by decide +kernel⟩
def d_is_integer : He5.DefA := ⟨fun K => He.ga K "is_integer", "is_integer", "is_integer", defArgs s_is_integer, defBody s_is_integer, defScope s_is_integer, [], []⟩
abbrev s_is_between : Stmt := top 16
abbrev N_is_between : List Str := ["value", "low", "high"]
theorem sc_is_between : FnScope N_is_between ["value", "low", "high"] (defScope s_is_between) := ⟨rfl, rfl, rfl, by decide +kernel, rfl, by decide +kernel, by decide +kernel⟩
def d_is_between : He5.DefA := ⟨fun K => He.ga K "is_between", "is_between", "is_between", defArgs s_is_between, defBody s_is_between, defScope s_is_between, [], []⟩
abbrev s_number_in : Stmt := top 17
abbrev N_number_in : List Str := ["text", "sign"]
theorem sc_number_in : FnScope N_number_in ["text"] (defScope s_number_in) := ⟨rfl, rfl, rfl, by decide +kernel, rfl, by decide +kernel, by decide +kernel⟩
def d_number_in : He5.DefA := ⟨fun K => He.ga K "number_in_kinds", "number_in", "number_in", defArgs s_number_in, defBody s_number_in, defScope s_number_in, [], []⟩
abbrev s_integer_in : Stmt := top 19
abbrev N_integer_in : List Str := ["word", "found"]
theorem sc_integer_in : FnScope N_integer_in ["word"] (defScope s_integer_in) := ⟨rfl, rfl, rfl, by decide +kernel, rfl, by decide +kernel, by decide +kernel⟩
def d_integer_in : He5.DefA := ⟨fun K => He.ga K "integer_in", "integer_in", "integer_in", defArgs s_integer_in, defBody s_integer_in, defScope s_integer_in, [], []⟩
abbrev s_power_of : Stmt := top 20
abbrev N_power_of : List Str := ["base", "many", "found", "turn"]
theorem sc_power_of : FnScope N_power_of ["base", "many"] (defScope s_power_of) := ⟨rfl, rfl, rfl, by decide +kernel, rfl, by decide +kernel, by decide +kernel⟩
def d_power_of : He5.DefA := ⟨fun K => He.ga K "power_of", "power_of", "power_of", defArgs s_power_of, defBody s_power_of, defScope s_power_of, [], []⟩
abbrev s_common_divisor : Stmt := top 21
abbrev N_common_divisor : List Str := ["one", "other"]
theorem sc_common_divisor : FnScope N_common_divisor ["one", "other"] (defScope s_common_divisor) := ⟨rfl, rfl, rfl, by decide +kernel, rfl, by decide +kernel, by decide +kernel⟩
def d_common_divisor : He5.DefA := ⟨fun K => He.ga K "common_divisor", "common_divisor", "common_divisor", defArgs s_common_divisor, defBody s_common_divisor, defScope s_common_divisor, [], []⟩
abbrev s_floor_root : Stmt := top 22
abbrev N_floor_root : List Str := ["value", "power", "low", "high", "middle"]
theorem sc_floor_root : FnScope N_floor_root ["value", "power"] (defScope s_floor_root) := ⟨rfl, rfl, rfl, by decide +kernel, rfl, by decide +kernel, by decide +kernel⟩
def d_floor_root : He5.DefA := ⟨fun K => He.ga K "floor_root", "floor_root", "floor_root", defArgs s_floor_root, defBody s_floor_root, defScope s_floor_root, [], []⟩
abbrev s_is_power : Stmt := top 23
abbrev N_is_power : List Str := ["value", "power"]
theorem sc_is_power : FnScope N_is_power ["value", "power"] (defScope s_is_power) := ⟨rfl, rfl, rfl, by decide +kernel, rfl, by decide +kernel, by decide +kernel⟩
def d_is_power : He5.DefA := ⟨fun K => He.ga K "is_power", "is_power", "is_power", defArgs s_is_power, defBody s_is_power, defScope s_is_power, [], []⟩
abbrev s_prime_divisors : Stmt := top 24
abbrev N_prime_divisors : List Str := ["value", "found", "left", "step"]
theorem sc_prime_divisors : FnScope N_prime_divisors ["value"] (defScope s_prime_divisors) := ⟨rfl, rfl, rfl, by decide +kernel, rfl, by decide +kernel, by decide +kernel⟩
def d_prime_divisors : He5.DefA := ⟨fun K => He.ga K "prime_divisors", "prime_divisors", "prime_divisors", defArgs s_prime_divisors, defBody s_prime_divisors, defScope s_prime_divisors, [], []⟩
abbrev s_is_number : Stmt := top 32
abbrev N_is_number : List Str := ["value"]
theorem sc_is_number : FnScope N_is_number ["value"] (defScope s_is_number) := ⟨rfl, rfl, rfl, by decide +kernel, rfl, by decide +kernel, by decide +kernel⟩
def d_is_number : He5.DefA := ⟨fun K => He.ga K "is_number", "is_number", "is_number", defArgs s_is_number, defBody s_is_number, defScope s_is_number, [], []⟩
abbrev s_check_number : Stmt := top 33
abbrev N_check_number : List Str := ["value"]
theorem sc_check_number : FnScope N_check_number ["value"] (defScope s_check_number) := ⟨rfl, rfl, rfl, by decide +kernel, rfl, by decide +kernel, by decide +kernel⟩
def d_check_number : He5.DefA := ⟨fun K => He.ga K "check_number", "check_number", "check_number", defArgs s_check_number, defBody s_check_number, defScope s_check_number, [], []⟩
abbrev s_check_degree : Stmt := top 34
abbrev N_check_degree : List Str := ["value", "most", "least"]
theorem sc_check_degree : FnScope N_check_degree ["value", "most", "least"] (defScope s_check_degree) := ⟨rfl, rfl, rfl, by decide +kernel, rfl, by decide +kernel, by decide +kernel⟩
def d_check_degree : He5.DefA := ⟨fun K => He.ga K "check_degree", "check_degree", "check_degree", defArgs s_check_degree, defBody s_check_degree, defScope s_check_degree, [.int (10 ^ 30), .int 1], []⟩
abbrev s_lowest : Stmt := top 35
abbrev N_lowest : List Str := ["top", "bottom", "common"]
theorem sc_lowest : FnScope N_lowest ["top", "bottom"] (defScope s_lowest) := ⟨rfl, rfl, rfl, by decide +kernel, rfl, by decide +kernel, by decide +kernel⟩
def d_lowest : He5.DefA := ⟨fun K => He.ga K "lowest", "lowest", "lowest", defArgs s_lowest, defBody s_lowest, defScope s_lowest, [], []⟩
abbrev s_text_of : Stmt := top 36
abbrev N_text_of : List Str := ["number"]
theorem sc_text_of : FnScope N_text_of ["number"] (defScope s_text_of) := ⟨rfl, rfl, rfl, by decide +kernel, rfl, by decide +kernel, by decide +kernel⟩
def d_text_of : He5.DefA := ⟨fun K => He.ga K "text_of", "text_of", "text_of", defArgs s_text_of, defBody s_text_of, defScope s_text_of, [], []⟩
abbrev s_number_in2 : Stmt := top 37
abbrev N_number_in2 : List Str := ["text", "parts", "found", "part"]
theorem sc_number_in2 : FnScope N_number_in2 ["text"] (defScope s_number_in2) := ⟨rfl, rfl, rfl, by decide +kernel, rfl, by decide +kernel, by decide +kernel⟩
def d_number_in2 : He5.DefA := ⟨fun K => He.ga K "number_in_numbers", "number_in", "number_in", defArgs s_number_in2, defBody s_number_in2, defScope s_number_in2, [], []⟩
abbrev s_raised : Stmt := top 39
abbrev N_raised : List Str := ["number", "power"]
theorem sc_raised : FnScope N_raised ["number", "power"] (defScope s_raised) := ⟨rfl, rfl, rfl, by decide +kernel, rfl, by decide +kernel, by decide +kernel⟩
def d_raised : He5.DefA := ⟨fun K => He.ga K "raised", "raised", "raised", defArgs s_raised, defBody s_raised, defScope s_raised, [], []⟩
abbrev s_whole_root : Stmt := top 40
abbrev N_whole_root : List Str := ["value", "power", "low", "high", "middle"]
theorem sc_whole_root : FnScope N_whole_root ["value", "power"] (defScope s_whole_root) := ⟨rfl, rfl, rfl, by decide +kernel, rfl, by decide +kernel, by decide +kernel⟩
def d_whole_root : He5.DefA := ⟨fun K => He.ga K "whole_root", "whole_root", "whole_root", defArgs s_whole_root, defBody s_whole_root, defScope s_whole_root, [], []⟩
abbrev s_base_and_exponent : Stmt := top 41
abbrev N_base_and_exponent : List Str := ["top", "bottom", "power", "bound"]
theorem sc_base_and_exponent : FnScope N_base_and_exponent ["top", "bottom"] (defScope s_base_and_exponent) := ⟨rfl, rfl, rfl, by decide +kernel, rfl, by decide +kernel, by decide +kernel⟩
def d_base_and_exponent : He5.DefA := ⟨fun K => He.ga K "base_and_exponent", "base_and_exponent", "base_and_exponent", defArgs s_base_and_exponent, defBody s_base_and_exponent, defScope s_base_and_exponent, [], []⟩
abbrev s_base_for : Stmt := top 42
abbrev N_base_for : List Str := ["number"]
theorem sc_base_for : FnScope N_base_for ["number"] (defScope s_base_for) := ⟨rfl, rfl, rfl, by decide +kernel, rfl, by decide +kernel, by decide +kernel⟩
def d_base_for : He5.DefA := ⟨fun K => He.ga K "base_for", "base_for", "base_for", defArgs s_base_for, defBody s_base_for, defScope s_base_for, [], []⟩
abbrev s_root_for : Stmt := top 43
abbrev N_root_for : List Str := ["number", "n", "base", "power", "found"]
theorem sc_root_for : FnScope N_root_for ["number", "n"] (defScope s_root_for) := ⟨rfl, rfl, rfl, by decide +kernel, rfl, by decide +kernel, by decide +kernel⟩
def d_root_for : He5.DefA := ⟨fun K => He.ga K "root_for", "root_for", "root_for", defArgs s_root_for, defBody s_root_for, defScope s_root_for, [], []⟩
abbrev s_four_for : Stmt := top 44
abbrev N_four_for : List Str := ["number"]
theorem sc_four_for : FnScope N_four_for ["number"] (defScope s_four_for) := ⟨rfl, rfl, rfl, by decide +kernel, rfl, by decide +kernel, by decide +kernel⟩
def d_four_for : He5.DefA := ⟨fun K => He.ga K "four_for", "four_for", "four_for", defArgs s_four_for, defBody s_four_for, defScope s_four_for, [], []⟩
abbrev s_odd_part : Stmt := top 48
abbrev N_odd_part : List Str := ["value"]
theorem sc_odd_part : FnScope N_odd_part ["value"] (defScope s_odd_part) := ⟨rfl, rfl, rfl, by decide +kernel, rfl, by decide +kernel, by decide +kernel⟩
def d_odd_part : He5.DefA := ⟨fun K => He.ga K "odd_part", "odd_part", "odd_part", defArgs s_odd_part, defBody s_odd_part, defScope s_odd_part, [], []⟩
abbrev s_shared : Stmt := top 49
abbrev N_shared : List Str := ["number", "n"]
theorem sc_shared : FnScope N_shared ["number", "n"] (defScope s_shared) := ⟨rfl, rfl, rfl, by decide +kernel, rfl, by decide +kernel, by decide +kernel⟩
def d_shared : He5.DefA := ⟨fun K => He.ga K "shared", "shared", "shared", defArgs s_shared, defBody s_shared, defScope s_shared, [], []⟩
abbrev s_is_split_by_four : Stmt := top 50
abbrev N_is_split_by_four : List Str := ["number", "n"]
theorem sc_is_split_by_four : FnScope N_is_split_by_four ["number", "n"] (defScope s_is_split_by_four) := ⟨rfl, rfl, rfl, by decide +kernel, rfl, by decide +kernel, by decide +kernel⟩
def d_is_split_by_four : He5.DefA := ⟨fun K => He.ga K "is_split_by_four", "is_split_by_four", "is_split_by_four", defArgs s_is_split_by_four, defBody s_is_split_by_four, defScope s_is_split_by_four, [], []⟩
abbrev s_does_split : Stmt := top 51
abbrev N_does_split : List Str := ["number", "n"]
theorem sc_does_split : FnScope N_does_split ["number", "n"] (defScope s_does_split) := ⟨rfl, rfl, rfl, by decide +kernel, rfl, by decide +kernel, by decide +kernel⟩
def d_does_split : He5.DefA := ⟨fun K => He.ga K "does_split", "does_split", "does_split", defArgs s_does_split, defBody s_does_split, defScope s_does_split, [], []⟩
abbrev s_is_always : Stmt := top 53
abbrev N_is_always : List Str := ["number", "power"]
theorem sc_is_always : FnScope N_is_always ["number"] (defScope s_is_always) := ⟨rfl, rfl, rfl, by decide +kernel, rfl, by decide +kernel, by decide +kernel⟩
def d_is_always : He5.DefA := ⟨fun K => He.ga K "is_always", "is_always", "is_always", defArgs s_is_always, defBody s_is_always, defScope s_is_always, [], []⟩
abbrev s_splits : Stmt := top 60
abbrev N_splits : List Str := ["number", "n"]
theorem sc_splits : FnScope N_splits ["number", "n"] (defScope s_splits) := ⟨rfl, rfl, rfl, by decide +kernel, rfl, by decide +kernel, by decide +kernel⟩
def d_splits : He5.DefA := ⟨fun K => He.ga K "splits", "splits", "splits", defArgs s_splits, defBody s_splits, defScope s_splits, [], []⟩
abbrev s_is_always_whole : Stmt := top 62
abbrev N_is_always_whole : List Str := ["number"]
theorem sc_is_always_whole : FnScope N_is_always_whole ["number"] (defScope s_is_always_whole) := ⟨rfl, rfl, rfl, by decide +kernel, rfl, by decide +kernel, by decide +kernel⟩
def d_is_always_whole : He5.DefA := ⟨fun K => He.ga K "is_always_whole", "is_always_whole", "is_always_whole", defArgs s_is_always_whole, defBody s_is_always_whole, defScope s_is_always_whole, [], []⟩
abbrev s_is_one : Stmt := top 65
abbrev N_is_one : List Str := ["number"]
theorem sc_is_one : FnScope N_is_one ["number"] (defScope s_is_one) := ⟨rfl, rfl, rfl, by decide +kernel, rfl, by decide +kernel, by decide +kernel⟩
def d_is_one : He5.DefA := ⟨fun K => He.ga K "is_one", "is_one", "is_one", defArgs s_is_one, defBody s_is_one, defScope s_is_one, [], []⟩
abbrev s_steps_for : Stmt := top 66
abbrev N_steps_for : List Str := ["number", "primes", "prime"]
theorem sc_steps_for : FnScope N_steps_for ["number"] (defScope s_steps_for) := ⟨rfl, rfl, rfl, by decide +kernel, rfl, by decide +kernel, by decide +kernel⟩
def d_steps_for : He5.DefA := ⟨fun K => He.ga K "steps_for", "steps_for", "steps_for", defArgs s_steps_for, defBody s_steps_for, defScope s_steps_for, [], []⟩
abbrev s_powers_up_to : Stmt := top 67
abbrev N_powers_up_to : List Str := ["many", "found", "power"]
theorem sc_powers_up_to : FnScope N_powers_up_to ["many"] (defScope s_powers_up_to) := ⟨rfl, rfl, rfl, by decide +kernel, rfl, by decide +kernel, by decide +kernel⟩
def d_powers_up_to : He5.DefA := ⟨fun K => He.ga K "powers_up_to", "powers_up_to", "powers_up_to", defArgs s_powers_up_to, defBody s_powers_up_to, defScope s_powers_up_to, [], []⟩
abbrev s_next_for : Stmt := top 68
abbrev N_next_for : List Str := ["number", "n", "step"]
theorem sc_next_for : FnScope N_next_for ["number", "n"] (defScope s_next_for) := ⟨rfl, rfl, rfl, by decide +kernel, rfl, by decide +kernel, by decide +kernel⟩
def d_next_for : He5.DefA := ⟨fun K => He.ga K "next_for", "next_for", "next_for", defArgs s_next_for, defBody s_next_for, defScope s_next_for, [], []⟩
abbrev s_next_split : Stmt := top 69
abbrev N_next_split : List Str := ["number", "n"]
theorem sc_next_split : FnScope N_next_split ["number", "n"] (defScope s_next_split) := ⟨rfl, rfl, rfl, by decide +kernel, rfl, by decide +kernel, by decide +kernel⟩
def d_next_split : He5.DefA := ⟨fun K => He.ga K "next_split", "next_split", "next_split", defArgs s_next_split, defBody s_next_split, defScope s_next_split, [], []⟩
abbrev s_is_taken : Stmt := top 72
abbrev N_is_taken : List Str := ["number", "power"]
theorem sc_is_taken : FnScope N_is_taken ["number", "power"] (defScope s_is_taken) := ⟨rfl, rfl, rfl, by decide +kernel, rfl, by decide +kernel, by decide +kernel⟩
def d_is_taken : He5.DefA := ⟨fun K => He.ga K "is_taken", "is_taken", "is_taken", defArgs s_is_taken, defBody s_is_taken, defScope s_is_taken, [], []⟩
abbrev s_least_form : Stmt := top 73
abbrev N_least_form : List Str := ["number", "n", "prime"]
theorem sc_least_form : FnScope N_least_form ["number", "n"] (defScope s_least_form) := ⟨rfl, rfl, rfl, by decide +kernel, rfl, by decide +kernel, by decide +kernel⟩
def d_least_form : He5.DefA := ⟨fun K => He.ga K "least_form", "least_form", "least_form", defArgs s_least_form, defBody s_least_form, defScope s_least_form, [], []⟩
abbrev s_taken : Stmt := top 74
abbrev N_taken : List Str := ["number", "power"]
theorem sc_taken : FnScope N_taken ["number", "power"] (defScope s_taken) := ⟨rfl, rfl, rfl, by decide +kernel, rfl, by decide +kernel, by decide +kernel⟩
def d_taken : He5.DefA := ⟨fun K => He.ga K "taken", "taken", "taken", defArgs s_taken, defBody s_taken, defScope s_taken, [], []⟩
abbrev s_Root_init : Stmt := inClass (top 75) 0
abbrev N_Root_init : List Str := ["self", "number", "n"]
theorem sc_Root_init : FnScope N_Root_init ["self", "number", "n"] (defScope s_Root_init) := ⟨rfl, rfl, rfl, by decide +kernel, rfl, by decide +kernel, by decide +kernel⟩
def d_Root_init : He5.DefA := ⟨fun K => He.ma K (He.ga K "Root") "__init__", "__init__", "Root.__init__", defArgs s_Root_init, defBody s_Root_init, defScope s_Root_init, [], []⟩
abbrev s_Root_number : Stmt := inClass (top 75) 2
abbrev N_Root_number : List Str := ["self"]
theorem sc_Root_number : FnScope N_Root_number ["self"] (defScope s_Root_number) := ⟨rfl, rfl, rfl, by decide +kernel, rfl, by decide +kernel, by decide +kernel⟩
def d_Root_number : He5.DefA := ⟨fun K => He5.wf K (He.ga K "Root") "property" "number", "number", "Root.number", defArgs s_Root_number, defBody s_Root_number, defScope s_Root_number, [], []⟩
abbrev s_Root_degree : Stmt := inClass (top 75) 3
abbrev N_Root_degree : List Str := ["self"]
theorem sc_Root_degree : FnScope N_Root_degree ["self"] (defScope s_Root_degree) := ⟨rfl, rfl, rfl, by decide +kernel, rfl, by decide +kernel, by decide +kernel⟩
def d_Root_degree : He5.DefA := ⟨fun K => He5.wf K (He.ga K "Root") "property" "degree", "degree", "Root.degree", defArgs s_Root_degree, defBody s_Root_degree, defScope s_Root_degree, [], []⟩
abbrev s_Root_raised : Stmt := inClass (top 75) 6
abbrev N_Root_raised : List Str := ["self", "many", "common", "found"]
theorem sc_Root_raised : FnScope N_Root_raised ["self", "many"] (defScope s_Root_raised) := ⟨rfl, rfl, rfl, by decide +kernel, rfl, by decide +kernel, by decide +kernel⟩
def d_Root_raised : He5.DefA := ⟨fun K => He.ma K (He.ga K "Root") "raised", "raised", "Root.raised", defArgs s_Root_raised, defBody s_Root_raised, defScope s_Root_raised, [], []⟩
abbrev s_Root_str : Stmt := inClass (top 75) 10
abbrev N_Root_str : List Str := ["self"]
theorem sc_Root_str : FnScope N_Root_str ["self"] (defScope s_Root_str) := ⟨rfl, rfl, rfl, by decide +kernel, rfl, by decide +kernel, by decide +kernel⟩
def d_Root_str : He5.DefA := ⟨fun K => He.ma K (He.ga K "Root") "__str__", "__str__", "Root.__str__", defArgs s_Root_str, defBody s_Root_str, defScope s_Root_str, [], []⟩
abbrev s_bounded_root : Stmt := top 78
abbrev N_bounded_root : List Str := ["number", "degree"]
theorem sc_bounded_root : FnScope N_bounded_root ["number", "degree"] (defScope s_bounded_root) := ⟨rfl, rfl, rfl, by decide +kernel, rfl, by decide +kernel, by decide +kernel⟩
def d_bounded_root : He5.DefA := ⟨fun K => He.ga K "bounded_root", "bounded_root", "bounded_root", defArgs s_bounded_root, defBody s_bounded_root, defScope s_bounded_root, [], []⟩
abbrev s_refined : Stmt := top 79
abbrev N_refined : List Str := ["values", "found", "left", "value", "shared", "common", "other"]
theorem sc_refined : FnScope N_refined ["values"] (defScope s_refined) := ⟨rfl, rfl, rfl, by decide +kernel, rfl, by decide +kernel, by decide +kernel⟩
def d_refined : He5.DefA := ⟨fun K => He.ga K "refined", "refined", "refined", defArgs s_refined, defBody s_refined, defScope s_refined, [], []⟩
abbrev s_unpowered : Stmt := top 80
abbrev N_unpowered : List Str := ["value", "power"]
theorem sc_unpowered : FnScope N_unpowered ["value"] (defScope s_unpowered) := ⟨rfl, rfl, rfl, by decide +kernel, rfl, by decide +kernel, by decide +kernel⟩
def d_unpowered : He5.DefA := ⟨fun K => He.ga K "unpowered", "unpowered", "unpowered", defArgs s_unpowered, defBody s_unpowered, defScope s_unpowered, [], []⟩
abbrev s_common_bases : Stmt := top 81
abbrev N_common_bases : List Str := ["roots", "values", "root", "value"]
theorem sc_common_bases : FnScope N_common_bases ["roots"] (defScope s_common_bases) := ⟨rfl, rfl, rfl, by decide +kernel, rfl, by decide +kernel, by decide +kernel⟩
def d_common_bases : He5.DefA := ⟨fun K => He.ga K "common_bases", "common_bases", "common_bases", defArgs s_common_bases, defBody s_common_bases, defScope s_common_bases, [], []⟩
abbrev s_times_in : Stmt := top 82
abbrev N_times_in : List Str := ["value", "base", "found"]
theorem sc_times_in : FnScope N_times_in ["value", "base"] (defScope s_times_in) := ⟨rfl, rfl, rfl, by decide +kernel, rfl, by decide +kernel, by decide +kernel⟩
def d_times_in : He5.DefA := ⟨fun K => He.ga K "times_in", "times_in", "times_in", defArgs s_times_in, defBody s_times_in, defScope s_times_in, [], []⟩
abbrev s_powers_in : Stmt := top 83
abbrev N_powers_in : List Str := ["number", "bases", "base"]
theorem sc_powers_in : FnScope N_powers_in ["number", "bases"] (defScope s_powers_in) := ⟨rfl, rfl, rfl, by decide +kernel, rfl, by decide +kernel, by decide +kernel⟩
def d_powers_in : He5.DefA := ⟨fun K => He.ga K "powers_in", "powers_in", "powers_in", defArgs s_powers_in, defBody s_powers_in, defScope s_powers_in, [], []⟩
abbrev s_check_roots : Stmt := top 87
abbrev N_check_roots : List Str := ["value", "index", "root"]
theorem sc_check_roots : FnScope N_check_roots ["value"] (defScope s_check_roots) := ⟨rfl, rfl, rfl, by decide +kernel, rfl, by decide +kernel, by decide +kernel⟩
def d_check_roots : He5.DefA := ⟨fun K => He.ga K "check_roots", "check_roots", "check_roots", defArgs s_check_roots, defBody s_check_roots, defScope s_check_roots, [], []⟩
abbrev s_common_degree : Stmt := top 88
abbrev N_common_degree : List Str := ["roots", "found", "root"]
theorem sc_common_degree : FnScope N_common_degree ["roots"] (defScope s_common_degree) := ⟨rfl, rfl, rfl, by decide +kernel, rfl, by decide +kernel, by decide +kernel⟩
def d_common_degree : He5.DefA := ⟨fun K => He.ga K "common_degree", "common_degree", "common_degree", defArgs s_common_degree, defBody s_common_degree, defScope s_common_degree, [], []⟩
abbrev s_Places_init : Stmt := inClass (top 89) 0
abbrev N_Places_init : List Str := ["self", "roots"]
theorem sc_Places_init : FnScope N_Places_init ["self", "roots"] (defScope s_Places_init) := ⟨rfl, rfl, rfl, by decide +kernel, rfl, by decide +kernel, by decide +kernel⟩
def d_Places_init : He5.DefA := ⟨fun K => He.ma K (He.ga K "Places") "__init__", "__init__", "Places.__init__", defArgs s_Places_init, defBody s_Places_init, defScope s_Places_init, [], []⟩
abbrev s_Places_row : Stmt := inClass (top 89) 1
abbrev N_Places_row : List Str := ["self", "root", "power"]
theorem sc_Places_row : FnScope N_Places_row ["self", "root"] (defScope s_Places_row) := ⟨rfl, rfl, rfl, by decide +kernel, rfl, by decide +kernel, by decide +kernel⟩
def d_Places_row : He5.DefA := ⟨fun K => He.ma K (He.ga K "Places") "row", "row", "Places.row", defArgs s_Places_row, defBody s_Places_row, defScope s_Places_row, [], []⟩
abbrev s_Places_field : Stmt := inClass (top 89) 2
abbrev N_Places_field : List Str := ["self", "roots", "found", "root", "place", "spot"]
theorem sc_Places_field : FnScope N_Places_field ["self", "roots"] (defScope s_Places_field) := ⟨rfl, rfl, rfl, by decide +kernel, rfl, by decide +kernel, by decide +kernel⟩
def d_Places_field : He5.DefA := ⟨fun K => He.ma K (He.ga K "Places") "field", "field", "Places.field", defArgs s_Places_field, defBody s_Places_field, defScope s_Places_field, [], []⟩
abbrev s_Places_span : Stmt := inClass (top 89) 3
abbrev N_Places_span : List Str := ["self"]
theorem sc_Places_span : FnScope N_Places_span ["self"] (defScope s_Places_span) := ⟨rfl, rfl, rfl, by decide +kernel, rfl, by decide +kernel, by decide +kernel⟩
def d_Places_span : He5.DefA := ⟨fun K => He.ma K (He.ga K "Places") "span", "span", "Places.span", defArgs s_Places_span, defBody s_Places_span, defScope s_Places_span, [], []⟩
abbrev s_Places_with_row : Stmt := inClass (top 89) 4
abbrev N_Places_with_row : List Str := ["self", "rows", "row", "found", "place", "own", "many", "one", "other"]
theorem sc_Places_with_row : FnScope N_Places_with_row ["self", "rows", "row"] (defScope s_Places_with_row) := ⟨rfl, rfl, rfl, by decide +kernel, rfl, by decide +kernel, by decide +kernel⟩
def d_Places_with_row : He5.DefA := ⟨fun K => He.ma K (He.ga K "Places") "with_row", "with_row", "Places.with_row", defArgs s_Places_with_row, defBody s_Places_with_row, defScope s_Places_with_row, [], []⟩
abbrev s_Places_size : Stmt := inClass (top 89) 6
abbrev N_Places_size : List Str := ["self", "rows", "found", "place", "own"]
theorem sc_Places_size : FnScope N_Places_size ["self", "rows"] (defScope s_Places_size) := ⟨rfl, rfl, rfl, by decide +kernel, rfl, by decide +kernel, by decide +kernel⟩
def d_Places_size : He5.DefA := ⟨fun K => He.ma K (He.ga K "Places") "size", "size", "Places.size", defArgs s_Places_size, defBody s_Places_size, defScope s_Places_size, [], []⟩
abbrev s_degree_for : Stmt := top 90
abbrev N_degree_for : List Str := ["roots", "places"]
theorem sc_degree_for : FnScope N_degree_for ["roots"] (defScope s_degree_for) := ⟨rfl, rfl, rfl, by decide +kernel, rfl, by decide +kernel, by decide +kernel⟩
def d_degree_for : He5.DefA := ⟨fun K => He.ga K "degree_for", "degree_for", "degree_for", defArgs s_degree_for, defBody s_degree_for, defScope s_degree_for, [], []⟩
abbrev s_degree_of : Stmt := top 91
abbrev N_degree_of : List Str := ["roots"]
theorem sc_degree_of : FnScope N_degree_of ["roots"] (defScope s_degree_of) := ⟨rfl, rfl, rfl, by decide +kernel, rfl, by decide +kernel, by decide +kernel⟩
def d_degree_of : He5.DefA := ⟨fun K => He.ga K "degree_of", "degree_of", "degree_of", defArgs s_degree_of, defBody s_degree_of, defScope s_degree_of, [], []⟩
abbrev s_Desk_init : Stmt := inClass (top 93) 0
abbrev N_Desk_init : List Str := ["self"]
theorem sc_Desk_init : FnScope N_Desk_init ["self"] (defScope s_Desk_init) := ⟨rfl, rfl, rfl, by decide +kernel, rfl, by decide +kernel, by decide +kernel⟩
def d_Desk_init : He5.DefA := ⟨fun K => He.ma K (He.ga K "Desk") "__init__", "__init__", "Desk.__init__", defArgs s_Desk_init, defBody s_Desk_init, defScope s_Desk_init, [], []⟩
abbrev s_Desk_roots : Stmt := inClass (top 93) 1
abbrev N_Desk_roots : List Str := ["self"]
theorem sc_Desk_roots : FnScope N_Desk_roots ["self"] (defScope s_Desk_roots) := ⟨rfl, rfl, rfl, by decide +kernel, rfl, by decide +kernel, by decide +kernel⟩
def d_Desk_roots : He5.DefA := ⟨fun K => He5.wf K (He.ga K "Desk") "property" "roots", "roots", "Desk.roots", defArgs s_Desk_roots, defBody s_Desk_roots, defScope s_Desk_roots, [], []⟩
abbrev s_Desk_degree : Stmt := inClass (top 93) 2
abbrev N_Desk_degree : List Str := ["self"]
theorem sc_Desk_degree : FnScope N_Desk_degree ["self"] (defScope s_Desk_degree) := ⟨rfl, rfl, rfl, by decide +kernel, rfl, by decide +kernel, by decide +kernel⟩
def d_Desk_degree : He5.DefA := ⟨fun K => He5.wf K (He.ga K "Desk") "property" "degree", "degree", "Desk.degree", defArgs s_Desk_degree, defBody s_Desk_degree, defScope s_Desk_degree, [], []⟩
abbrev s_Desk_become : Stmt := inClass (top 93) 4
abbrev N_Desk_become : List Str := ["self", "roots", "degree"]
theorem sc_Desk_become : FnScope N_Desk_become ["self", "roots"] (defScope s_Desk_become) := ⟨rfl, rfl, rfl, by decide +kernel, rfl, by decide +kernel, by decide +kernel⟩
def d_Desk_become : He5.DefA := ⟨fun K => He.ma K (He.ga K "Desk") "become", "become", "Desk.become", defArgs s_Desk_become, defBody s_Desk_become, defScope s_Desk_become, [], []⟩
abbrev s_Desk_check_index : Stmt := inClass (top 93) 5
abbrev N_Desk_check_index : List Str := ["self", "index"]
theorem sc_Desk_check_index : FnScope N_Desk_check_index ["self", "index"] (defScope s_Desk_check_index) := ⟨rfl, rfl, rfl, by decide +kernel, rfl, by decide +kernel, by decide +kernel⟩
def d_Desk_check_index : He5.DefA := ⟨fun K => He.ma K (He.ga K "Desk") "check_index", "check_index", "Desk.check_index", defArgs s_Desk_check_index, defBody s_Desk_check_index, defScope s_Desk_check_index, [], []⟩
abbrev s_Desk_put : Stmt := inClass (top 93) 6
abbrev N_Desk_put : List Str := ["self", "root", "roots"]
theorem sc_Desk_put : FnScope N_Desk_put ["self", "root"] (defScope s_Desk_put) := ⟨rfl, rfl, rfl, by decide +kernel, rfl, by decide +kernel, by decide +kernel⟩
def d_Desk_put : He5.DefA := ⟨fun K => He.ma K (He.ga K "Desk") "put", "put", "Desk.put", defArgs s_Desk_put, defBody s_Desk_put, defScope s_Desk_put, [], []⟩
abbrev s_Desk_drop : Stmt := inClass (top 93) 7
abbrev N_Desk_drop : List Str := ["self", "index", "roots"]
theorem sc_Desk_drop : FnScope N_Desk_drop ["self", "index"] (defScope s_Desk_drop) := ⟨rfl, rfl, rfl, by decide +kernel, rfl, by decide +kernel, by decide +kernel⟩
def d_Desk_drop : He5.DefA := ⟨fun K => He.ma K (He.ga K "Desk") "drop", "drop", "Desk.drop", defArgs s_Desk_drop, defBody s_Desk_drop, defScope s_Desk_drop, [], []⟩
abbrev s_Desk_turn : Stmt := inClass (top 93) 8
abbrev N_Desk_turn : List Str := ["self", "index", "many", "roots"]
theorem sc_Desk_turn : FnScope N_Desk_turn ["self", "index", "many"] (defScope s_Desk_turn) := ⟨rfl, rfl, rfl, by decide +kernel, rfl, by decide +kernel, by decide +kernel⟩
def d_Desk_turn : He5.DefA := ⟨fun K => He.ma K (He.ga K "Desk") "turn", "turn", "Desk.turn", defArgs s_Desk_turn, defBody s_Desk_turn, defScope s_Desk_turn, [], []⟩
abbrev s_Desk_undo : Stmt := inClass (top 93) 9
abbrev N_Desk_undo : List Str := ["self"]
theorem sc_Desk_undo : FnScope N_Desk_undo ["self"] (defScope s_Desk_undo) := ⟨rfl, rfl, rfl, by decide +kernel, rfl, by decide +kernel, by decide +kernel⟩
def d_Desk_undo : He5.DefA := ⟨fun K => He.ma K (He.ga K "Desk") "undo", "undo", "Desk.undo", defArgs s_Desk_undo, defBody s_Desk_undo, defScope s_Desk_undo, [], []⟩
abbrev s_Console_init : Stmt := inClass (top 96) 0
abbrev N_Console_init : List Str := ["self"]
theorem sc_Console_init : FnScope N_Console_init ["self"] (defScope s_Console_init) := ⟨rfl, rfl, rfl, by decide +kernel, rfl, by decide +kernel, by decide +kernel⟩
def d_Console_init : He5.DefA := ⟨fun K => He.ma K (He.ga K "Console") "__init__", "__init__", "Console.__init__", defArgs s_Console_init, defBody s_Console_init, defScope s_Console_init, [], []⟩
abbrev s_Console_put : Stmt := inClass (top 96) 1
abbrev N_Console_put : List Str := ["self", "n"]
theorem sc_Console_put : FnScope N_Console_put ["self", "n"] (defScope s_Console_put) := ⟨rfl, rfl, rfl, by decide +kernel, rfl, by decide +kernel, by decide +kernel⟩
def d_Console_put : He5.DefA := ⟨fun K => He.ma K (He.ga K "Console") "put", "put", "Console.put", defArgs s_Console_put, defBody s_Console_put, defScope s_Console_put, [], []⟩
abbrev s_Console_done : Stmt := inClass (top 96) 2
abbrev N_Console_done : List Str := ["self", "act"]
theorem sc_Console_done : FnScope N_Console_done ["self", "act"] (defScope s_Console_done) := ⟨rfl, rfl, rfl, by decide +kernel, rfl, by decide +kernel, by decide +kernel⟩
def d_Console_done : He5.DefA := ⟨fun K => He.ma K (He.ga K "Console") "done", "done", "Console.done", defArgs s_Console_done, defBody s_Console_done, defScope s_Console_done, [], []⟩
abbrev s_Console_plain : Stmt := inClass (top 96) 3
abbrev N_Console_plain : List Str := ["self", "line", "root"]
theorem sc_Console_plain : FnScope N_Console_plain ["self", "line"] (defScope s_Console_plain) := ⟨rfl, rfl, rfl, by decide +kernel, rfl, by decide +kernel, by decide +kernel⟩
def d_Console_plain : He5.DefA := ⟨fun K => He.ma K (He.ga K "Console") "plain", "plain", "Console.plain", defArgs s_Console_plain, defBody s_Console_plain, defScope s_Console_plain, [], []⟩
abbrev s_Console_about : Stmt := inClass (top 96) 6
abbrev N_Console_about : List Str := ["self", "word", "n", "found"]
theorem sc_Console_about : FnScope N_Console_about ["self", "word", "n"] (defScope s_Console_about) := ⟨rfl, rfl, rfl, by decide +kernel, rfl, by decide +kernel, by decide +kernel⟩
def d_Console_about : He5.DefA := ⟨fun K => He.ma K (He.ga K "Console") "about", "about", "Console.about", defArgs s_Console_about, defBody s_Console_about, defScope s_Console_about, [], []⟩
abbrev s_Console_asked : Stmt := inClass (top 96) 7
abbrev N_Console_asked : List Str := ["self", "word", "n"]
theorem sc_Console_asked : FnScope N_Console_asked ["self", "word", "n"] (defScope s_Console_asked) := ⟨rfl, rfl, rfl, by decide +kernel, rfl, by decide +kernel, by decide +kernel⟩
def d_Console_asked : He5.DefA := ⟨fun K => He.ma K (He.ga K "Console") "asked", "asked", "Console.asked", defArgs s_Console_asked, defBody s_Console_asked, defScope s_Console_asked, [], []⟩
abbrev s_Console_take : Stmt := inClass (top 96) 8
abbrev N_Console_take : List Str := ["self", "word", "found"]
theorem sc_Console_take : FnScope N_Console_take ["self", "word"] (defScope s_Console_take) := ⟨rfl, rfl, rfl, by decide +kernel, rfl, by decide +kernel, by decide +kernel⟩
def d_Console_take : He5.DefA := ⟨fun K => He.ma K (He.ga K "Console") "take", "take", "Console.take", defArgs s_Console_take, defBody s_Console_take, defScope s_Console_take, [], []⟩
abbrev s_Console_answer : Stmt := inClass (top 96) 9
abbrev N_Console_answer : List Str := ["self", "line", "words", "numbers", "word"]
theorem sc_Console_answer : FnScope N_Console_answer ["self", "line"] (defScope s_Console_answer) := ⟨rfl, rfl, rfl, by decide +kernel, rfl, by decide +kernel, by decide +kernel⟩
def d_Console_answer : He5.DefA := ⟨fun K => He.ma K (He.ga K "Console") "answer", "answer", "Console.answer", defArgs s_Console_answer, defBody s_Console_answer, defScope s_Console_answer, [], []⟩
abbrev s_Console_say : Stmt := inClass (top 96) 10
abbrev N_Console_say : List Str := ["self", "line", "found"]
theorem sc_Console_say : FnScope N_Console_say ["self", "line"] (defScope s_Console_say) := ⟨rfl, rfl, rfl, by decide +kernel, rfl, by decide +kernel, by decide +kernel⟩
def d_Console_say : He5.DefA := ⟨fun K => He.ma K (He.ga K "Console") "say", "say", "Console.say", defArgs s_Console_say, defBody s_Console_say, defScope s_Console_say, [], []⟩
abbrev s_law_jug : Stmt := top 98
abbrev N_law_jug : List Str := ["_law_cells", "_law_k", "_law_cell", "_law_mixed", "_law_each", "_law_digits"]
theorem sc_law_jug : FnScope N_law_jug ["_law_cells", "_law_k"] (defScope s_law_jug) := ⟨rfl, rfl, rfl, by decide +kernel, rfl, by decide +kernel, by decide +kernel⟩
def d_law_jug : He5.DefA := ⟨fun K => He.ga K "_law_jug", "_law_jug", "_law_jug", defArgs s_law_jug, defBody s_law_jug, defScope s_law_jug, [], []⟩
abbrev s_law_pull : Stmt := top 99
abbrev N_law_pull : List Str := ["_law_jug_here", "_law_top", "_law_figure", "_law_base"]
theorem sc_law_pull : FnScope N_law_pull ["_law_jug_here", "_law_top"] (defScope s_law_pull) := ⟨rfl, rfl, rfl, by decide +kernel, rfl, by decide +kernel, by decide +kernel⟩
def d_law_pull : He5.DefA := ⟨fun K => He.ga K "_law_pull", "_law_pull", "_law_pull", defArgs s_law_pull, defBody s_law_pull, defScope s_law_pull, [], []⟩
abbrev s_law_one_of : Stmt := top 100
abbrev N_law_one_of : List Str := ["_law_jug_here", "_law_some"]
theorem sc_law_one_of : FnScope N_law_one_of ["_law_jug_here", "_law_some"] (defScope s_law_one_of) := ⟨rfl, rfl, rfl, by decide +kernel, rfl, by decide +kernel, by decide +kernel⟩
def d_law_one_of : He5.DefA := ⟨fun K => He.ga K "_law_one_of", "_law_one_of", "_law_one_of", defArgs s_law_one_of, defBody s_law_one_of, defScope s_law_one_of, [], []⟩
abbrev s_law_common : Stmt := top 101
abbrev N_law_common : List Str := ["_law_one", "_law_two", "_law_turn"]
theorem sc_law_common : FnScope N_law_common ["_law_one", "_law_two"] (defScope s_law_common) := ⟨rfl, rfl, rfl, by decide +kernel, rfl, by decide +kernel, by decide +kernel⟩
def d_law_common : He5.DefA := ⟨fun K => He.ga K "_law_common", "_law_common", "_law_common", defArgs s_law_common, defBody s_law_common, defScope s_law_common, [], []⟩
abbrev s_law_power : Stmt := top 102
abbrev N_law_power : List Str := ["_law_row", "_law_found", "_law_each"]
theorem sc_law_power : FnScope N_law_power ["_law_row"] (defScope s_law_power) := ⟨rfl, rfl, rfl, by decide +kernel, rfl, by decide +kernel, by decide +kernel⟩
def d_law_power : He5.DefA := ⟨fun K => He.ga K "_law_power", "_law_power", "_law_power", defArgs s_law_power, defBody s_law_power, defScope s_law_power, [], []⟩
abbrev s_law_pair : Stmt := top 103
abbrev N_law_pair : List Str := ["_law_sign", "_law_row", "_law_top", "_law_bottom", "_law_each", "_law_amount", "_law_turn"]
theorem sc_law_pair : FnScope N_law_pair ["_law_sign", "_law_row"] (defScope s_law_pair) := ⟨rfl, rfl, rfl, by decide +kernel, rfl, by decide +kernel, by decide +kernel⟩
def d_law_pair : He5.DefA := ⟨fun K => He.ga K "_law_pair", "_law_pair", "_law_pair", defArgs s_law_pair, defBody s_law_pair, defScope s_law_pair, [], []⟩
abbrev s_law_text : Stmt := top 104
abbrev N_law_text : List Str := ["_law_pair_here"]
theorem sc_law_text : FnScope N_law_text ["_law_pair_here"] (defScope s_law_text) := ⟨rfl, rfl, rfl, by decide +kernel, rfl, by decide +kernel, by decide +kernel⟩
def d_law_text : He5.DefA := ⟨fun K => He.ga K "_law_text", "_law_text", "_law_text", defArgs s_law_text, defBody s_law_text, defScope s_law_text, [], []⟩
abbrev s_law_small : Stmt := top 105
abbrev N_law_small : List Str := ["_law_jug_here", "_law_low", "_law_high", "_law_found", "_law_k"]
theorem sc_law_small : FnScope N_law_small ["_law_jug_here", "_law_low", "_law_high"] (defScope s_law_small) := ⟨rfl, rfl, rfl, by decide +kernel, rfl, by decide +kernel, by decide +kernel⟩
def d_law_small : He5.DefA := ⟨fun K => He.ga K "_law_small", "_law_small", "_law_small", defArgs s_law_small, defBody s_law_small, defScope s_law_small, [], []⟩
abbrev s_law_plan : Stmt := top 106
abbrev N_law_plan : List Str := ["_law_jug_here", "_law_way", "_law_sign", "_law_amount", "_law_found", "_law_each"]
theorem sc_law_plan : FnScope N_law_plan ["_law_jug_here"] (defScope s_law_plan) := ⟨rfl, rfl, rfl, by decide +kernel, rfl, by decide +kernel, by decide +kernel⟩
def d_law_plan : He5.DefA := ⟨fun K => He.ga K "_law_plan", "_law_plan", "_law_plan", defArgs s_law_plan, defBody s_law_plan, defScope s_law_plan, [], []⟩
abbrev s_law_is_four : Stmt := top 107
abbrev N_law_is_four : List Str := ["_law_plan_here", "_law_row", "_law_each"]
theorem sc_law_is_four : FnScope N_law_is_four ["_law_plan_here"] (defScope s_law_is_four) := ⟨rfl, rfl, rfl, by decide +kernel, rfl, by decide +kernel, by decide +kernel⟩
def d_law_is_four : He5.DefA := ⟨fun K => He.ga K "_law_is_four", "_law_is_four", "_law_is_four", defArgs s_law_is_four, defBody s_law_is_four, defScope s_law_is_four, [], []⟩
abbrev s_law_splits : Stmt := top 108
abbrev N_law_splits : List Str := ["_law_plan_here", "_law_upto", "_law_left", "_law_turn"]
theorem sc_law_splits : FnScope N_law_splits ["_law_plan_here", "_law_upto"] (defScope s_law_splits) := ⟨rfl, rfl, rfl, by decide +kernel, rfl, by decide +kernel, by decide +kernel⟩
def d_law_splits : He5.DefA := ⟨fun K => He.ga K "_law_splits", "_law_splits", "_law_splits", defArgs s_law_splits, defBody s_law_splits, defScope s_law_splits, [], []⟩
abbrev s_law_is_always : Stmt := top 109
abbrev N_law_is_always : List Str := ["_law_plan_here", "_law_amount"]
theorem sc_law_is_always : FnScope N_law_is_always ["_law_plan_here"] (defScope s_law_is_always) := ⟨rfl, rfl, rfl, by decide +kernel, rfl, by decide +kernel, by decide +kernel⟩
def d_law_is_always : He5.DefA := ⟨fun K => He.ga K "_law_is_always", "_law_is_always", "_law_is_always", defArgs s_law_is_always, defBody s_law_is_always, defScope s_law_is_always, [], []⟩
abbrev s_law_some_n : Stmt := top 110
abbrev N_law_some_n : List Str := ["_law_jug_here", "_law_some"]
theorem sc_law_some_n : FnScope N_law_some_n ["_law_jug_here"] (defScope s_law_some_n) := ⟨rfl, rfl, rfl, by decide +kernel, rfl, by decide +kernel, by decide +kernel⟩
def d_law_some_n : He5.DefA := ⟨fun K => He.ga K "_law_some_n", "_law_some_n", "_law_some_n", defArgs s_law_some_n, defBody s_law_some_n, defScope s_law_some_n, [], []⟩
abbrev s_law_least : Stmt := top 111
abbrev N_law_least : List Str := ["_law_row", "_law_upto", "_law_amount", "_law_each"]
theorem sc_law_least : FnScope N_law_least ["_law_row", "_law_upto"] (defScope s_law_least) := ⟨rfl, rfl, rfl, by decide +kernel, rfl, by decide +kernel, by decide +kernel⟩
def d_law_least : He5.DefA := ⟨fun K => He.ga K "_law_least", "_law_least", "_law_least", defArgs s_law_least, defBody s_law_least, defScope s_law_least, [], []⟩
abbrev s_law_root_text : Stmt := top 112
abbrev N_law_root_text : List Str := ["_law_root_plan"]
theorem sc_law_root_text : FnScope N_law_root_text ["_law_root_plan"] (defScope s_law_root_text) := ⟨rfl, rfl, rfl, by decide +kernel, rfl, by decide +kernel, by decide +kernel⟩
def d_law_root_text : He5.DefA := ⟨fun K => He.ga K "_law_root_text", "_law_root_text", "_law_root_text", defArgs s_law_root_text, defBody s_law_root_text, defScope s_law_root_text, [], []⟩
abbrev s_law_group : Stmt := top 113
abbrev N_law_group : List Str := ["_law_some", "_law_whole_here", "_law_row", "_law_upto", "_law_found", "_law_each", "_law_step", "_law_here", "_law_layer", "_law_turn", "_law_one", "_law_two"]
theorem sc_law_group : FnScope N_law_group ["_law_some"] (defScope s_law_group) := ⟨rfl, rfl, rfl, by decide +kernel, rfl, by decide +kernel, by decide +kernel⟩
def d_law_group : He5.DefA := ⟨fun K => He.ga K "_law_group", "_law_group", "_law_group", defArgs s_law_group, defBody s_law_group, defScope s_law_group, [], []⟩
abbrev s_law_degree : Stmt := top 114
abbrev N_law_degree : List Str := ["_law_some"]
theorem sc_law_degree : FnScope N_law_degree ["_law_some"] (defScope s_law_degree) := ⟨rfl, rfl, rfl, by decide +kernel, rfl, by decide +kernel, by decide +kernel⟩
def d_law_degree : He5.DefA := ⟨fun K => He.ga K "_law_degree", "_law_degree", "_law_degree", defArgs s_law_degree, defBody s_law_degree, defScope s_law_degree, [], []⟩
abbrev s_law_behind : Stmt := top 115
abbrev N_law_behind : List Str := ["_law_row", "_law_deed", "_law_at", "_law_later", "_law_most_here", "_law_each"]
theorem sc_law_behind : FnScope N_law_behind ["_law_row", "_law_deed"] (defScope s_law_behind) := ⟨rfl, rfl, rfl, by decide +kernel, rfl, by decide +kernel, by decide +kernel⟩
def d_law_behind : He5.DefA := ⟨fun K => He.ga K "_law_behind", "_law_behind", "_law_behind", defArgs s_law_behind, defBody s_law_behind, defScope s_law_behind, [], []⟩
abbrev s_law_ended : Stmt := top 116
abbrev N_law_ended : List Str := ["_law_due"]
theorem sc_law_ended : FnScope N_law_ended ["_law_due"] (defScope s_law_ended) := ⟨rfl, rfl, rfl, by decide +kernel, rfl, by decide +kernel, by decide +kernel⟩
def d_law_ended : He5.DefA := ⟨fun K => He.ga K "_law_ended", "_law_ended", "_law_ended", defArgs s_law_ended, defBody s_law_ended, defScope s_law_ended, [], []⟩
abbrev s_law_next : Stmt := top 117
abbrev N_law_next : List Str := ["_law_plan_here", "_law_n", "_law_step"]
theorem sc_law_next : FnScope N_law_next ["_law_plan_here", "_law_n"] (defScope s_law_next) := ⟨rfl, rfl, rfl, by decide +kernel, rfl, by decide +kernel, by decide +kernel⟩
def d_law_next : He5.DefA := ⟨fun K => He.ga K "_law_next", "_law_next", "_law_next", defArgs s_law_next, defBody s_law_next, defScope s_law_next, [], []⟩
abbrev s_law_state : Stmt := top 118
abbrev N_law_state : List Str := ["_law_plan_here", "_law_some", "_law_said", "_law_words", "_law_n", "_law_each"]
theorem sc_law_state : FnScope N_law_state ["_law_plan_here", "_law_some", "_law_said"] (defScope s_law_state) := ⟨rfl, rfl, rfl, by decide +kernel, rfl, by decide +kernel, by decide +kernel⟩
def d_law_state : He5.DefA := ⟨fun K => He.ga K "_law_state", "_law_state", "_law_state", defArgs s_law_state, defBody s_law_state, defScope s_law_state, [], []⟩
abbrev s_law_line : Stmt := top 119
abbrev N_law_line : List Str := ["_law_jug_here", "_law_some", "_law_way", "_law_at", "_law_n", "_law_times", "_law_said"]
theorem sc_law_line : FnScope N_law_line ["_law_jug_here", "_law_some"] (defScope s_law_line) := ⟨rfl, rfl, rfl, by decide +kernel, rfl, by decide +kernel, by decide +kernel⟩
def d_law_line : He5.DefA := ⟨fun K => He.ga K "_law_line", "_law_line", "_law_line", defArgs s_law_line, defBody s_law_line, defScope s_law_line, [], []⟩
abbrev s_law_put_due : Stmt := top 120
abbrev N_law_put_due : List Str := ["_law_plan_here", "_law_some", "_law_n"]
theorem sc_law_put_due : FnScope N_law_put_due ["_law_plan_here", "_law_some", "_law_n"] (defScope s_law_put_due) := ⟨rfl, rfl, rfl, by decide +kernel, rfl, by decide +kernel, by decide +kernel⟩
def d_law_put_due : He5.DefA := ⟨fun K => He.ga K "_law_put_due", "_law_put_due", "_law_put_due", defArgs s_law_put_due, defBody s_law_put_due, defScope s_law_put_due, [], []⟩
abbrev s_law_stepped : Stmt := top 121
abbrev N_law_stepped : List Str := ["_law_plan_here", "_law_pages", "_law_deed", "_law_due", "_law_later"]
theorem sc_law_stepped : FnScope N_law_stepped ["_law_plan_here", "_law_pages", "_law_deed"] (defScope s_law_stepped) := ⟨rfl, rfl, rfl, by decide +kernel, rfl, by decide +kernel, by decide +kernel⟩
def d_law_stepped : He5.DefA := ⟨fun K => He.ga K "_law_stepped", "_law_stepped", "_law_stepped", defArgs s_law_stepped, defBody s_law_stepped, defScope s_law_stepped, [], []⟩
abbrev s_law_right : Stmt := top 122
abbrev N_law_right : List Str := ["_law_jug_here", "_law_talk", "_law_plan_here", "_law_pages", "_law_turn", "_law_said", "_law_due", "_law_deed", "_law_told"]
theorem sc_law_right : FnScope N_law_right ["_law_jug_here"] (defScope s_law_right) := ⟨rfl, rfl, rfl, by decide +kernel, rfl, by decide +kernel, by decide +kernel⟩
def d_law_right : He5.DefA := ⟨fun K => He.ga K "_law_right", "_law_right", "_law_right", defArgs s_law_right, defBody s_law_right, defScope s_law_right, [], []⟩
abbrev s_law : Stmt := top 123
abbrev N_law : List Str := ["_law_cells", "_law_k"]
theorem sc_law : FnScope N_law ["_law_cells"] (defScope s_law) := ⟨rfl, rfl, rfl, by decide +kernel, rfl, by decide +kernel, by decide +kernel⟩
def d_law : He5.DefA := ⟨fun K => He.ga K "law", "law", "law", defArgs s_law, defBody s_law, defScope s_law, [], []⟩
def fn0 : List He5.DefA := [d_InvalidNumber_init, d_InvalidDegree_init, d_InvalidIndex_init, d_TooGreat_init, d_is_integer, d_is_between, d_number_in, d_integer_in, d_power_of, d_common_divisor, d_floor_root, d_is_power, d_prime_divisors, d_is_number, d_check_number, d_check_degree, d_lowest, d_text_of, d_number_in2, d_raised, d_whole_root, d_base_and_exponent, d_base_for, d_root_for, d_four_for]
def fn1 : List He5.DefA := [d_odd_part, d_shared, d_is_split_by_four, d_does_split, d_is_always, d_splits, d_is_always_whole, d_is_one, d_steps_for, d_powers_up_to, d_next_for, d_next_split, d_is_taken, d_least_form, d_taken, d_Root_init, d_Root_number, d_Root_degree, d_Root_raised, d_Root_str, d_bounded_root, d_refined, d_unpowered, d_common_bases, d_times_in]
def fn2 : List He5.DefA := [d_powers_in, d_check_roots, d_common_degree, d_Places_init, d_Places_row, d_Places_field, d_Places_span, d_Places_with_row, d_Places_size, d_degree_for, d_degree_of, d_Desk_init, d_Desk_roots, d_Desk_degree, d_Desk_become, d_Desk_check_index, d_Desk_put, d_Desk_drop, d_Desk_turn, d_Desk_undo, d_Console_init, d_Console_put, d_Console_done, d_Console_plain, d_Console_about]
def fn3 : List He5.DefA := [d_Console_asked, d_Console_take, d_Console_answer, d_Console_say, d_law_jug, d_law_pull, d_law_one_of, d_law_common, d_law_power, d_law_pair, d_law_text, d_law_small, d_law_plan, d_law_is_four, d_law_splits, d_law_is_always, d_law_some_n, d_law_least, d_law_root_text, d_law_group, d_law_degree, d_law_behind, d_law_ended, d_law_next, d_law_state]
def fn4 : List He5.DefA := [d_law_line, d_law_put_due, d_law_stepped, d_law_right, d_law]
def fn : List He5.DefA := fn0 ++ fn1 ++ fn2 ++ fn3 ++ fn4
-- 105 defs

end PP
-- text PB
namespace PP
open PySem PySem.Spec PyProof.Rows L2
/-! what a def is worth to its callers -/
structure CalX (P : Program) (w : World) (K : PySem.W.Frag) (mg : Str → Option Value) (base : Heap) (CX : CXT) (k : Nat) (x : Str) (sp : Sp) (dvs : List V) : Prop where
  ex : ∃ (f : Addr) (fd : FuncData) (ps : List Str) (ds : List Value), FnOk P w K mg base CX k f fd ps sp ∧ mg x = some (.ref f) ∧ PySem.W.keepIn K (.ref f) = true ∧ Binds K fd ps ds ∧ Vals dvs ds
structure MetX (P : Program) (w : World) (K : PySem.W.Frag) (mg : Str → Option Value) (base : Heap) (CX : CXT) (k : Nat) (C : Addr) (m : Str) (sp : Sp) : Prop where
  ex : ∃ (f : Addr) (fd : FuncData) (ps : List Str), Cls K C ∧ Meth K C m f ∧ FnOk P w K mg base CX k f fd ps sp ∧ Binds K fd ps []
structure MakX (P : Program) (w : World) (K : PySem.W.Frag) (mg : Str → Option Value) (base : Heap) (CX : CXT) (k : Nat) (x : Str) (C : Addr) (sp : Sp) : Prop where
  ex : ∃ (f : Addr) (fd : FuncData) (ps : List Str), Mk K C f ∧ FnOk P w K mg base CX k f fd ps sp ∧ mg x = some (.ref C) ∧ Binds K fd ps []
structure PrpX (P : Program) (w : World) (K : PySem.W.Frag) (mg : Str → Option Value) (base : Heap) (CX : CXT) (k : Nat) (C : Addr) (m : Str) (sp : Sp) : Prop where
  ex : ∃ (p g : Addr) (fd : FuncData) (ps : List Str), Cls K C ∧ PropOf K C m p g ∧ FnOk P w K mg base CX k g fd ps sp ∧ Binds K fd ps []
section
variable {X : Cx} {CX : CXT} {k j : Nat} {C : Addr} {x m : Str} {sp : Sp} {dvs : List V} {E : XK} {p pos apos : Pos} {e o : Expr} {es : List Expr} {ta : TE} {t : TA}
/-- f(e, ..) -/
theorem pe_cx (c : CalX X.prog X.w X.K X.mg X.base CX k x sp dvs) (hr : Room j X.A) (hx : Passes CX X E) (ha : PA X (e :: es) t) (hk : k ≤ j := by decide) (hg : Gl X x := by rfl)
    (hdb : (x == ("__debug__" : Str)) = false := by decide) (he : starEach (e :: es) X.env = (false, eval e X.env) :: starEach es X.env := by rfl) (hpl : (backTo pos (starEach es X.env)).any (·.1) = false := by rfl) :
    PE X (.Call (.Name x p) (e :: es) [] pos) (tCall sp dvs E t) := by
  obtain ⟨f, fd, ps, ds, F, hm, kp, b, d⟩ := c.ex
  exact pe_call F (hr.mono hk) hg hm kp b d hx ha hdb he hpl
/-- C(e, ..) -/
theorem pe_mkx (c : MakX X.prog X.w X.K X.mg X.base CX k x C sp) (hr : Room j X.A) (hx : Passes CX X E) (ha : PA X (e :: es) t) (hk : k + 1 ≤ j := by decide) (hg : Gl X x := by rfl)
    (hdb : (x == ("__debug__" : Str)) = false := by decide) (he : starEach (e :: es) X.env = (false, eval e X.env) :: starEach es X.env := by rfl) (hpl : (backTo pos (starEach es X.env)).any (·.1) = false := by rfl) :
    PE X (.Call (.Name x p) (e :: es) [] pos) (tMake C sp [] E t) := by
  obtain ⟨f, fd, ps, M, F, hm, b⟩ := c.ex
  exact pe_make M F (hr.mono hk) hg hm b .nil hx ha hdb he hpl
theorem pe_mkx0 (c : MakX X.prog X.w X.K X.mg X.base CX k x C sp) (hr : Room j X.A) (hx : Passes CX X E) (hk : k + 1 ≤ j := by decide) (hg : Gl X x := by rfl) (hdb : (x == ("__debug__" : Str)) = false := by decide) :
    PE X (.Call (.Name x p) [] [] pos) (tMake C sp [] E tNil) := by
  obtain ⟨f, fd, ps, M, F, hm, b⟩ := c.ex
  exact pe_make0 M F (hr.mono hk) hg hm b .nil hx hdb
/-- o.m(e, ..) -/
theorem pe_mx {pl : Sem Bool} (c : MetX X.prog X.w X.K X.mg X.base CX k C m sp) (hr : Room j X.A) (hx : Passes CX X E) (he : PE X o ta) (ha : PA X (e :: es) t) (hk : k ≤ j := by decide)
    (hst : starEach (e :: es) X.env = (false, eval e X.env) :: starEach es X.env := by rfl) (hpl : (backTo pos (starEach es X.env)).any (·.1) = false := by rfl)
    (ht : eval (.Call (.Attribute o m apos) (e :: es) [] pos) X.env = (do
      let ov ← eval o X.env
      standAt apos.atName
      let (f, first) ← holding [ov] (getMethod ov m pl)
      callWith pos f first (backTo pos (starEach (e :: es) X.env)) (backToKw pos (keywordEach [] X.env))) := by rfl) :
    PE X (.Call (.Attribute o m apos) (e :: es) [] pos) (tMeth C m sp [] E ta t) := by
  obtain ⟨f, fd, ps, hc, hm, F, b⟩ := c.ex
  exact pe_meth (pl := pl) he hc hm F (hr.mono hk) b .nil hx ha hst hpl ht
theorem pe_mx0 {pl : Sem Bool} (c : MetX X.prog X.w X.K X.mg X.base CX k C m sp) (hr : Room j X.A) (hx : Passes CX X E) (he : PE X o ta) (hk : k ≤ j := by decide)
    (ht : eval (.Call (.Attribute o m apos) [] [] pos) X.env = (do
      let ov ← eval o X.env
      standAt apos.atName
      let (f, first) ← holding [ov] (getMethod ov m pl)
      callWith pos f first (backTo pos (starEach [] X.env)) (backToKw pos (keywordEach [] X.env))) := by rfl) :
    PE X (.Call (.Attribute o m apos) [] [] pos) (tMeth C m sp [] E ta tNil) := by
  obtain ⟨f, fd, ps, hc, hm, F, b⟩ := c.ex
  exact pe_meth0 (pl := pl) he hc hm F (hr.mono hk) b .nil hx ht
/-- o.p, a property -/
theorem pe_px (c : PrpX X.prog X.w X.K X.mg X.base CX k C m sp) (hr : Room j X.A) (hx : Passes CX X.nox E) (he : PE X e ta) (hk : k + 1 ≤ j := by decide) (hab : attributeBase e m X.env (eval e X.env) = eval e X.env := by rfl) : PE X (.Attribute e m pos) (tProp C sp [] E ta) := by
  obtain ⟨p, g, fd, ps, hc, hp, F, b⟩ := c.ex
  exact pe_prop he hc hp F (hr.mono hk) b .nil hx hab
end
/-! promises by the number of values -/
abbrev sp1 (f : V → Hp → VK → XK → Prop) : Sp := fun vs H Q E => ∃ a, vs = [a] ∧ f a H Q E
abbrev sp2 (f : V → V → Hp → VK → XK → Prop) : Sp := fun vs H Q E => ∃ a b, vs = [a, b] ∧ f a b H Q E
abbrev sp3 (f : V → V → V → Hp → VK → XK → Prop) : Sp := fun vs H Q E => ∃ a b c, vs = [a, b, c] ∧ f a b c H Q E
theorem len1 {f : V → Hp → VK → XK → Prop} {ps : List Str} (h : ps.length = 1 := by rfl) : ∀ vs H Q E, sp1 f vs H Q E → vs.length = ps.length := by
  rintro _ H Q E ⟨a, rfl, _⟩
  exact h.symm
theorem len2 {f : V → V → Hp → VK → XK → Prop} {ps : List Str} (h : ps.length = 2 := by rfl) : ∀ vs H Q E, sp2 f vs H Q E → vs.length = ps.length := by
  rintro _ H Q E ⟨a, b, rfl, _⟩
  exact h.symm
theorem len3 {f : V → V → V → Hp → VK → XK → Prop} {ps : List Str} (h : ps.length = 3 := by rfl) : ∀ vs H Q E, sp3 f vs H Q E → vs.length = ps.length := by
  rintro _ H Q E ⟨a, b, c, rfl, _⟩
  exact h.symm
/-! from a def of the text to its worth -/
abbrev BindTo (st : Stmt) (name qual : Str) (ps : List Str) : Prop := ∀ (kV doc pm : Value) (an : Option Addr) (cdv ct : Value) (us : List Value), us.length = ps.length →
  bindArgs (PySem.W.fnOf name qual (defArgs st) (defBody st) (defScope st) .none kV doc pm an cdv ct) ⟨us, []⟩ = pure (ps.zip us)
abbrev FnP (K : PySem.W.Frag) (name qual : Str) (st : Stmt) (f : Addr) : Prop := ∃ fd, FunD K name qual (defArgs st) (defBody st) (defScope st) [] [] f fd
section
variable {P : Program} {w : World} {K : PySem.W.Frag} {mg : Str → Option Value} {base : Heap} {CX : CXT} {k : Nat} {x name qual m : Str} {st : Stmt} {f C : Addr} {N ps : List Str} {sp : Sp}
abbrev BodyX (P : Program) (w : World) (K : PySem.W.Frag) (mg : Str → Option Value) (base : Heap) (CX : CXT) (k : Nat) (qual : Str) (st : Stmt) (f : Addr) (N : List Str) (sp : Sp) : Prop :=
  ∀ (cdv : Value) (A : Around) (outer : List Env) (s : Shared) (H : Hp) (vs : List V) (Q : VK) (E : XK), Room k (A.deeper (envOfC qual (defScope st) s.heap.objs.size f cdv)) → sp vs H Q E →
      ∃ t, PSs (cxOf CX P w K mg base N qual (defScope st) f cdv A outer s H E) (defBody st) t ∧ t { nx := fun _ H' => Q .non H', rt := Q } (start N vs) H
abbrev BodyN (P : Program) (w : World) (K : PySem.W.Frag) (mg : Str → Option Value) (base : Heap) (k : Nat) (qual : Str) (st : Stmt) (f : Addr) (N : List Str) (sp : Sp) : Prop :=
  ∀ (cdv : Value) (A : Around) (outer : List Env) (s : Shared) (H : Hp) (vs : List V) (Q : VK) (E : XK), Room k (A.deeper (envOfC qual (defScope st) s.heap.objs.size f cdv)) → sp vs H Q E →
      ∃ t, PSs (cxOf CX0 P w K mg base N qual (defScope st) f cdv A outer s H E).nox (defBody st) t ∧ t { nx := fun _ H' => Q .non H', rt := Q } (start N vs) H
theorem bodyX_of (h : BodyN P w K mg base k qual st f N sp) : BodyX P w K mg base CX0 k qual st f N sp := fun cdv A outer s H vs Q E hr hs => by
  obtain ⟨t, h1, h2⟩ := h cdv A outer s H vs Q E hr hs
  exact ⟨t, h1.nox, h2⟩
theorem cal_of (F : FnP K name qual st f) (g : mg x = some (.ref f)) (b : BindTo st name qual ps) (S : FnScope N ps (defScope st)) (len : ∀ vs H Q E, sp vs H Q E → vs.length = ps.length) (h : BodyX P w K mg base CX k qual st f N sp) :
    CalX P w K mg base CX (k + 1) x sp [] := by
  obtain ⟨fd, F⟩ := F
  exact ⟨f, fd, ps, [], F.ok S len h, g, F.kp, F.bindsN b, .nil⟩
theorem cal0_of (F : FnP K name qual st f) (g : mg x = some (.ref f)) (b : BindTo st name qual ps) (S : FnScope N ps (defScope st)) (len : ∀ vs H Q E, sp vs H Q E → vs.length = ps.length) (h : BodyN P w K mg base k qual st f N sp) :
    CalX P w K mg base CX0 (k + 1) x sp [] := cal_of F g b S len (bodyX_of h)
theorem met_of (F : FnP K name qual st f) (c : Cls K C) (hm : Meth K C m f) (b : BindTo st name qual ps) (S : FnScope N ps (defScope st)) (len : ∀ vs H Q E, sp vs H Q E → vs.length = ps.length) (h : BodyX P w K mg base CX k qual st f N sp) :
    MetX P w K mg base CX (k + 1) C m sp := by
  obtain ⟨fd, F⟩ := F
  exact ⟨f, fd, ps, c, hm, F.ok S len h, F.bindsN b⟩
theorem mak_of (F : FnP K name qual st f) (M : Mk K C f) (g : mg x = some (.ref C)) (b : BindTo st name qual ps) (S : FnScope N ps (defScope st)) (len : ∀ vs H Q E, sp vs H Q E → vs.length = ps.length) (h : BodyX P w K mg base CX k qual st f N sp) :
    MakX P w K mg base CX (k + 1) x C sp := by
  obtain ⟨fd, F⟩ := F
  exact ⟨f, fd, ps, M, F.ok S len h, g, F.bindsN b⟩
theorem prp_of {p : Addr} (F : FnP K name qual st f) (c : Cls K C) (hp : PropOf K C m p f) (b : BindTo st name qual ps) (S : FnScope N ps (defScope st)) (len : ∀ vs H Q E, sp vs H Q E → vs.length = ps.length) (h : BodyX P w K mg base CX k qual st f N sp) :
    PrpX P w K mg base CX (k + 1) C m sp := by
  obtain ⟨fd, F⟩ := F
  exact ⟨p, f, fd, ps, c, hp, F.ok S len h, F.bindsN b⟩
end
/-! binding of one, two, three written parameters -/
theorem sI0 : seqItems? Value.none = pure none := rfl
theorem look1 {a : Str} {v : Value} {r : List (Str × Value)} : List.lookup a ((a, v) :: r) = some v := by simp [List.lookup]
theorem look0 {a b : Str} {v : Value} {r : List (Str × Value)} (h : (b == a) = false) : List.lookup b ((a, v) :: r) = List.lookup b r := by simp [List.lookup, h]
abbrev argsOf (l : List Arg) : Arguments := { posonlyargs := [], args := l, vararg := none, kwonlyargs := [], kw_defaults := [], kwarg := none, defaults := [] }
section
variable {st : Stmt} {name qual a b c : Str} {p q r : Pos}
theorem bind1 (h : defArgs st = argsOf [⟨a, none, p⟩]) : BindTo st name qual [a] := by
  intro kV doc pm an cdv ct us hl
  rw [h]
  match us, hl with
  | [u], _ =>
    unfold bindArgs PySem.W.fnOf
    simp [sI0, look1]
theorem bind2 (h : defArgs st = argsOf [⟨a, none, p⟩, ⟨b, none, q⟩]) (hab : (b == a) = false := by decide) : BindTo st name qual [a, b] := by
  intro kV doc pm an cdv ct us hl
  rw [h]
  match us, hl with
  | [u, v], _ =>
    unfold bindArgs PySem.W.fnOf
    simp [sI0, look1, look0 hab]
theorem bind3 (h : defArgs st = argsOf [⟨a, none, p⟩, ⟨b, none, q⟩, ⟨c, none, r⟩]) (hab : (b == a) = false := by decide) (hac : (c == a) = false := by decide) (hbc : (c == b) = false := by decide) : BindTo st name qual [a, b, c] := by
  intro kV doc pm an cdv ct us hl
  rw [h]
  match us, hl with
  | [u, v, w], _ =>
    unfold bindArgs PySem.W.fnOf
    simp [sI0, look1, look0 hab, look0 hac, look0 hbc]
end
/-! readings, one step each: the goal's head tells which -/
section
variable {K : PySem.W.Frag} {σ : L2.St} {H : Hp} {Q : VK} {v x y : V} {i j : Nat} {ta tb tc te : TE} {t u : TT} {t1 t2 : TS} {a b : Int} {nx bk ct : L2.St → Hp → Prop} {rt : VK}
theorem g_var (h : σ[i]? = some (some v)) (q : Q v H) : tVar i σ H Q := ⟨v, h, q⟩
theorem g_c (q : Q v H) : tC v σ H Q := q
theorem g_op {r : R2} (q : ta σ H fun x H1 => tb σ H1 fun y H2 => r x y H2 Q) : tOp r ta tb σ H Q := q
theorem g_un {r : V → Hp → VK → Prop} (q : ta σ H fun x H1 => r x H1 Q) : tUn r ta σ H Q := q
theorem g_chain {r r' : R2} (q : ta σ H fun x H1 => tb σ H1 fun y H2 => r x y H2 fun z H3 => ∃ k, z = .bl k ∧ (if k = true then tc σ H3 fun w' H4 => r' y w' H4 Q else Q (.bl false) H3)) : tChain r r' ta tb tc σ H Q := q
theorem g_I0 {g : Int → Int → V} (q : Q (g a b) H) : rI0 g (.int a) (.int b) H Q := ⟨a, b, rfl, rfl, q⟩
theorem g_I {C : Int → Int → Prop} {g : Int → Int → V} (c : C a b) (q : Q (g a b) H) : rI C g (.int a) (.int b) H Q := ⟨a, b, rfl, rfl, c, q⟩
theorem g_U {g : Int → V} (q : Q (g a) H) : rU g (.int a) H Q := ⟨a, rfl, q⟩
theorem g_eq (s : scal x y = true) (q : Q (.bl (decide (x = y))) H) : rEq x y H Q := ⟨s, q⟩
theorem g_ne (s : scal x y = true) (q : Q (.bl (!decide (x = y))) H) : rNe x y H Q := ⟨s, q⟩
theorem vint_eq : decide (V.int a = V.int b) = decide (a = b) := by
  by_cases h : a = b
  · rw [decide_eq_true h, decide_eq_true (by rw [h])]
  · rw [decide_eq_false h, decide_eq_false fun z => h (V.int.inj z)]
theorem vstr_eq {a b : Str} : decide (V.str a = V.str b) = decide (a = b) := by
  by_cases h : a = b
  · rw [decide_eq_true h, decide_eq_true (by rw [h])]
  · rw [decide_eq_false h, decide_eq_false fun z => h (V.str.inj z)]
theorem g_eqI (q : Q (.bl (decide (a = b))) H) : rEq (.int a) (.int b) H Q := ⟨rfl, by rw [vint_eq]; exact q⟩
theorem g_neI (q : Q (.bl (!decide (a = b))) H) : rNe (.int a) (.int b) H Q := ⟨rfl, by rw [vint_eq]; exact q⟩
theorem g_eqS {a b : Str} (q : Q (.bl (decide (a = b))) H) : rEq (.str a) (.str b) H Q := ⟨rfl, by rw [vstr_eq]; exact q⟩
theorem g_neS {a b : Str} (q : Q (.bl (!decide (a = b))) H) : rNe (.str a) (.str b) H Q := ⟨rfl, by rw [vstr_eq]; exact q⟩
theorem g_test {R : Bool → Hp → Prop} {t : TE} (q : t σ H fun x H' => ∃ k, x = .bl k ∧ R k H') : tTest t σ H R := q
theorem g_B {R : Bool → Hp → Prop} {t : TE} (q : t σ H fun x H' => ∃ k, x = .bl k ∧ R k H') : tB t σ H R := q
theorem g_and {R : Bool → Hp → Prop} (q : t σ H fun c H1 => if c = true then u σ H1 R else R false H1) : tAnd t u σ H R := q
theorem g_or {R : Bool → Hp → Prop} (q : t σ H fun c H1 => if c = true then R true H1 else u σ H1 R) : tOr t u σ H R := q
theorem g_not {R : Bool → Hp → Prop} (q : t σ H fun c H1 => R (!c) H1) : tNot t σ H R := q
theorem g_if (q : t σ H fun c H1 => if c = true then ta σ H1 Q else tb σ H1 Q) : tIf t ta tb σ H Q := q
theorem g_andV (q : ta σ H fun x H1 => ∃ c, x = .bl c ∧ if c = true then tb σ H1 Q else Q (.bl false) H1) : tAndV ta tb σ H Q := q
theorem g_orV (q : ta σ H fun x H1 => ∃ c, x = .bl c ∧ if c = true then Q (.bl true) H1 else tb σ H1 Q) : tOrV ta tb σ H Q := q
theorem g_notV (q : ta σ H fun x H1 => ∃ c, x = .bl c ∧ Q (.bl (!c)) H1) : tNotV ta σ H Q := q
theorem g_bl {k : Bool} {R : Bool → Prop} (q : R k) : ∃ c, V.bl k = V.bl c ∧ R c := ⟨k, rfl, q⟩
theorem g_nil {R : List V → Hp → Prop} (q : R [] H) : tNil σ H R := q
theorem g_cons {t : TA} {R : List V → Hp → Prop} (q : ta σ H fun x H1 => t σ H1 fun xs H2 => R (x :: xs) H2) : tCons ta t σ H R := q
theorem g_seq (q : t1 ⟨fun σ H => t2 ⟨nx, rt, bk, ct⟩ σ H, rt, bk, ct⟩ σ H) : tSeq t1 t2 ⟨nx, rt, bk, ct⟩ σ H := q
theorem g_next (q : nx σ H) : tNext ⟨nx, rt, bk, ct⟩ σ H := q
theorem g_asg {g : TG} (q : te σ H fun x H1 => g x σ H1 nx) : tAsg te g ⟨nx, rt, bk, ct⟩ σ H := q
theorem g_name {R : L2.St → Hp → Prop} (q : R (σ.set i (some v)) H) : gName i v σ H R := q
theorem g_par {t : TA} (q : t σ H fun vs H1 => ∃ v w, vs = [v, w] ∧ nx ((σ.set i (some v)).set j (some w)) H1) : tPar i j t ⟨nx, rt, bk, ct⟩ σ H := q
theorem g_two {R : V → V → Prop} (q : R x y) : ∃ v w, [x, y] = [v, w] ∧ R v w := ⟨x, y, rfl, q⟩
theorem g_par3 {l : Nat} {t : TA} (q : t σ H fun vs H1 => ∃ u v w, vs = [u, v, w] ∧ nx (((σ.set i (some u)).set j (some v)).set l (some w)) H1) : tPar3 i j l t ⟨nx, rt, bk, ct⟩ σ H := q
theorem g_three {z : V} {R : V → V → V → Prop} (q : R x y z) : ∃ u v w, [x, y, z] = [u, v, w] ∧ R u v w := ⟨x, y, z, rfl, q⟩
theorem g_ret (q : te σ H rt) : tRet te ⟨nx, rt, bk, ct⟩ σ H := q
theorem g_retN (q : rt .non H) : tRetN ⟨nx, rt, bk, ct⟩ σ H := q
theorem g_drop (q : te σ H fun _ H1 => nx σ H1) : tDrop te ⟨nx, rt, bk, ct⟩ σ H := q
theorem g_ifS (q : t σ H fun b H1 => if b = true then t1 ⟨nx, rt, bk, ct⟩ σ H1 else t2 ⟨nx, rt, bk, ct⟩ σ H1) : tIfS t t1 t2 ⟨nx, rt, bk, ct⟩ σ H := q
theorem g_call {sp : Sp} {dvs : List V} {E : XK} {t : TA} (q : t σ H fun vs H1 => sp (vs ++ dvs) H1 Q E) : tCall sp dvs E t σ H Q := q
theorem g_cb {r : List V → Hp → VK → Prop} {t : TA} (q : t σ H fun vs H1 => r vs H1 Q) : tCB r t σ H Q := q
theorem g_aug {ti : TIp} (h : σ[i]? = some (some v)) (q : te σ H fun y H1 => ti v y H1 fun z H2 => nx (σ.set i (some z)) H2) : tAug i te ti ⟨nx, rt, bk, ct⟩ σ H := ⟨v, h, q⟩
theorem g_ipI {f : Int → Int → Int} (q : Q (.int (f a b)) H) : ipI f (.int a) (.int b) H Q := ⟨a, b, rfl, rfl, q⟩
theorem g_tup {t : TA} (q : t σ H fun xs H1 => xs.length ≤ sizeLine ∧ ∀ p, H1 p = none → Q (.ref p) (upd H1 p (.tup xs))) : tTup t σ H Q := q
theorem g_lst {t : TA} (q : t σ H fun xs H1 => xs.length ≤ sizeLine ∧ ∀ p, H1 p = none → Q (.ref p) (upd H1 p (.lst xs))) : tLst t σ H Q := q
theorem g_ixT {p : Addr} {xs : List V} (h : SqT K H p xs) (e : atI xs a = some v) (q : Q v H) : rIxT K (.ref p) (.int a) H Q := ⟨p, xs, a, v, rfl, rfl, h, e, q⟩
theorem g_ixL {p : Addr} {xs : List V} (h : SqL K H p xs) (e : atI xs a = some v) (q : Q v H) : rIxL K (.ref p) (.int a) H Q := ⟨p, xs, a, v, rfl, rfl, h, e, q⟩
/-- a while by a word W with its measure -/
theorem g_while (W : Nat → L2.St → Hp → Prop) (m : Nat) (h0 : W m σ H) (hs : ∀ m σ H, W m σ H → t σ H fun b H1 =>
    if b = true then ∃ N : L2.St → Hp → Prop, (∀ σ' H', N σ' H' → ∃ m', m' < m ∧ W m' σ' H') ∧ t1 ⟨N, rt, nx, N⟩ σ H1 else nx σ H1) : tWhile t t1 ⟨nx, rt, bk, ct⟩ σ H := ⟨W, ⟨m, h0⟩, hs⟩
theorem g_turn {m : Nat} {W : Nat → L2.St → Hp → Prop} (q : t1 ⟨fun σ' H' => ∃ m', m' < m ∧ W m' σ' H', rt, nx, fun σ' H' => ∃ m', m' < m ∧ W m' σ' H'⟩ σ H) :
    ∃ N : L2.St → Hp → Prop, (∀ σ' H', N σ' H' → ∃ m', m' < m ∧ W m' σ' H') ∧ t1 ⟨N, rt, nx, N⟩ σ H := ⟨_, fun _ _ z => z, q⟩
end
/-! tests -/
section
variable {p : Prop} [Decidable p] {A B : Prop}
theorem ifd (h1 : p → A) (h2 : ¬ p → B) : if decide p = true then A else B := by
  by_cases h : p
  · rw [decide_eq_true h]
    exact iteT (h1 h)
  · rw [decide_eq_false h]
    exact iteF (h2 h)
theorem ifn (h1 : ¬ p → A) (h2 : p → B) : if (!decide p) = true then A else B := by
  by_cases h : p
  · rw [decide_eq_true h]
    exact iteF (h2 h)
  · rw [decide_eq_false h]
    exact iteT (h1 h)
theorem ifT (h : p) (a : A) : if decide p = true then A else B := ifd (fun _ => a) (fun z => absurd h z)
theorem ifF (h : ¬ p) (b : B) : if decide p = true then A else B := ifd (fun z => absurd z h) (fun _ => b)
theorem ifnT (h : ¬ p) (a : A) : if (!decide p) = true then A else B := ifn (fun _ => a) (fun z => absurd z h)
theorem ifnF (h : p) (b : B) : if (!decide p) = true then A else B := ifn (fun z => absurd h z) (fun _ => b)
theorem ifb {c : Bool} (h1 : c = true → A) (h2 : c = false → B) : if c = true then A else B := by
  cases c with
  | true => exact iteT (h1 rfl)
  | false => exact iteF (h2 rfl)
end
theorem tX {P : Program} {w : World} {K : PySem.W.Frag} {mg : Str → Option Value} {base : Heap} {N : List Str} {qual : Str} {sc : Scope} {f : Addr} {cd : Value} {A : Around} {outer : List Env} {s : Shared} {H : Hp} {E : XK} :
    Takes (cxOf (L2.CX P w) P w K mg base N qual sc f cd A outer s H E) (fun cls d _ H => E cls d H) := takes_of rfl rfl rfl rfl
theorem pX {P : Program} {w : World} {K : PySem.W.Frag} {mg : Str → Option Value} {base : Heap} {N : List Str} {qual : Str} {sc : Scope} {f : Addr} {cd : Value} {A : Around} {outer : List Env} {s : Shared} {H : Hp} {E : XK} :
    Passes (L2.CX P w) (cxOf (L2.CX P w) P w K mg base N qual sc f cd A outer s H E) E := passes_call tX fun _ _ _ _ h => h
section
variable {p q : Prop} [Decidable p] [Decidable q] {X Y A : Prop}
theorem if_and (hA : (if decide q = true then X else Y) → A) (h : if decide (p ∧ q) = true then X else Y) : if decide p = true then A else (if false = true then X else Y) := by
  by_cases hp : p
  · rw [decide_eq_true hp]
    refine iteT (hA ?_)
    have e : decide (p ∧ q) = decide q := by simp [hp]
    rw [e] at h
    exact h
  · rw [decide_eq_false hp]
    refine iteF (iteF ?_)
    have e : decide (p ∧ q) = false := by simp [hp]
    rw [e, if_neg Bool.false_ne_true] at h
    exact h
theorem if_or (hA : (if decide q = true then X else Y) → A) (h : if decide (p ∨ q) = true then X else Y) : if decide p = true then (if true = true then X else Y) else A := by
  by_cases hp : p
  · rw [decide_eq_true hp]
    refine iteT (iteT ?_)
    have e : decide (p ∨ q) = true := by simp [hp]
    rw [e, if_pos rfl] at h
    exact h
  · rw [decide_eq_false hp]
    refine iteF (hA ?_)
    have e : decide (p ∨ q) = decide q := by simp [hp]
    rw [e] at h
    exact h
end
end PP
-- text PE
namespace PP
open PySem PySem.Spec PyProof.Rows PySem.W PySem.Calls PySem.HandSPX L2 Builtin Builtin.ObjectAttr
/-! an own exception over ValueError or ArithmeticError whose __init__ keeps what is given: turned from the worked proof of an own error (42), for any base, any class name and any number of own classes between -/
def OwnT (T l : List Value) : Prop := ∃ cs : List Addr, l = cs.map Value.ref ++ T
def ownTB (T : List Value) : List Value → Bool
  | [] => decide (T = [])
  | v :: r => decide (v :: r = T) || (match v with | .ref _ => ownTB T r | _ => false)
theorem ownTB_ok {T : List Value} : ∀ {l : List Value}, ownTB T l = true → OwnT T l
  | [], h => ⟨[], (of_decide_eq_true h).symm⟩
  | v :: r, h => by
    unfold ownTB at h
    rw [Bool.or_eq_true] at h
    rcases h with h | h
    · exact ⟨[], of_decide_eq_true h⟩
    · cases v with
      | ref c =>
        obtain ⟨cs, e⟩ := ownTB_ok (l := r) h
        exact ⟨c :: cs, by rw [e]; rfl⟩
      | _ => cases h
structure Tail (T : List Value) : Prop where
  passes : ∀ self : Value, refuseLoop self "__setattr__" T = pure ()
  obj : T.contains (.type "object") = true
  ne : T.isEmpty = false
theorem tail_VE : Tail [.type "ValueError", .type "Exception", .type "BaseException", .type "object"] := ⟨F.store_ValueError.passes, by decide +kernel, rfl⟩
theorem tail_AE : Tail [.type "ArithmeticError", .type "Exception", .type "BaseException", .type "object"] := ⟨F.store_ArithmeticError.passes, by decide +kernel, rfl⟩
theorem OwnT.has {T l : List Value} (h : OwnT T l) (x : String) : l.contains (.type x) = T.contains (.type x) := by
  obtain ⟨cs, rfl⟩ := h
  induction cs with
  | nil => rfl
  | cons c r ih =>
    rw [List.map_cons, List.cons_append, List.contains_cons, ih]
    rfl
theorem OwnT.pass {T l : List Value} (h : OwnT T l) (t : Tail T) (self : Value) : refuseLoop self "__setattr__" l = pure () := by
  obtain ⟨cs, rfl⟩ := h
  induction cs with
  | nil => exact t.passes self
  | cons c r ih =>
    rw [List.map_cons, List.cons_append, refuseLoop_ref]
    exact ih
theorem OwnT.cons {T l : List Value} (h : OwnT T l) (c : Addr) : OwnT T (.ref c :: l) := by
  obtain ⟨cs, rfl⟩ := h
  exact ⟨c :: cs, rfl⟩
theorem OwnT.full {T l : List Value} (h : OwnT T l) (t : Tail T) : l.isEmpty = false := by
  obtain ⟨cs, rfl⟩ := h
  cases cs with
  | nil => exact t.ne
  | cons c r => rfl
section
variable {prog : Program} {w : World} {A : Around} {E : Value → Shared → Prop} {R : Result → Shared → Prop} {hp : Heap} {g : Array GenState} {d : Drawn} {t : Nat} {os : OsState}
theorem osaT {K : Frag} {T : List Value} {name : Str} {tk : Tok} {v : Value} {x C : Addr} {fv : Array Value} {cd : ClassData} (tl : Tail T)
    (X : K.In hp) (hx : hp.get? x = some { cls := .ref C, data := .fields fv }) (hcd : clsIn K C = some cd) (hm : OwnT T cd.mro) (hh : cd.hasDict = true) (ha : findIn K (.ref C) name = some none)
    (hq : ∀ h' tk' dx, (∀ b o, b ≠ x → hp.get? b = some o → h'.get? b = some o) → hp.objs.size ≤ dx → dx ≠ x → h'.get? x = some { cls := .ref C, dict := some dx, data := .fields fv } →
      h'.Ns1 dx (fun y => if y = name then some v else none) → R (.ok (.ret .none)) ⟨h', g, d, tk', os⟩) :
    codeAny (model prog w) A (.call (.builtin "object.__setattr__") ⟨[.ref x, .str name tk, v], []⟩) R ⟨hp, g, d, t, os⟩ := by
  have I : InstAt hp x { cls := .ref C, data := .fields fv } C none := ⟨hx, rfl, rfl, trivial⟩
  have SO := F.store_object
  have full := hm.full tl
  have hasO : cd.mro.contains (.type "object") = true := (hm.has "object").trans tl.obj
  have apart : x ≠ hp.objs.size := Nat.ne_of_lt (Heap.lt_size hx)
  have sub : Looks (model prog w) hp (isInstance (.ref x) (.type "object")) true := I.type.andThen (looks_mroIn X (by unfold mroIn; rw [hcd, Option.bind_some, if_neg (by rw [full]; decide), hasO]))
  refine codeAny_call_builtin SO.slot.plain SO.entry (@check_slot (model prog w) _ _ ⟨hp, g, d, t, os⟩ "object.__setattr__" "object" "__setattr__" (.ref x) [.str name tk, v] [] _ SO.kind SO.split sub (SO.args (.ref x) (.str name tk) v) ?_)
  have l1 : Looks (model prog w) hp (mroOf (.ref C)) cd.mro := (looks_clsIn X hcd).andThen .now
  have l2 : Looks (model prog w) hp (storeTaker? none) none := .now
  have l3 : Looks (model prog w) hp (classData C) cd := looks_clsIn X hcd
  rw [osa_eq, refuse_eq]
  refine wpAny_bind (wpAny_bind (I.type.at (wpAny_bind (l1.at ?_))))
  rw [hm.pass tl]
  refine wpAny_pure (wpAny_bind (I.type.at (wpAny_bind ((looks_findIn X ha).at (wpAny_bind (l2.at ?_))))))
  show wpAny _ _ (storeInOwnDict (.ref x) (.ref C) (.str name tk) name v false) _ _ _
  obtain ⟨c1, c2, c3, c4, c5, c6, c7, c8, c9, c10, c11⟩ := cd
  dsimp only at hh
  subst hh
  unfold storeInOwnDict ownDictForStores
  repeat (first | with_reducible refine store_in_new ?_ ?_ | with_reducible refine wpAny_loadPart_at hx ?_ | with_reducible refine l3.at ?_ | wp_step)
  · exact ⟨_, #[], _, (Heap.get?_update_ne _ _ _ _ apart.symm).trans (Heap.get?_push_at rfl rfl), rfl, fun e he => absurd he (by simp), fun _ => rfl⟩
  · intro h' tk' hn' hs
    have hx1 : (hp.push { cls := .type "dict", data := .dict #[] }).get? x = some { cls := .ref C, data := .fields fv } := Heap.get?_push_of_some _ hx
    refine hq h' tk' hp.objs.size (fun b o hb ho => ?_) (Nat.le_refl _) apart.symm ?_ hn'
    · exact (hs.2 b (Nat.ne_of_lt (Heap.lt_size ho))).trans ((Heap.get?_update_ne _ _ _ _ hb).trans (Heap.get?_push_of_some _ ho))
    · exact (hs.2 x apart).trans (Heap.get?_update_self _ hx1 rfl)
end
def gvA (p1 p2 : Pos) : Arguments := argsOf [⟨"self", none, p1⟩, ⟨"given", none, p2⟩]
def gvB (q1 q2 q3 q4 : Pos) : List Stmt := [.Assign [.Attribute (.Name "self" q1) "given" q2] (.Name "given" q3) q4]
def gvS : Scope := { kind := .function, names := [(PySem.Str.ofString "self", .local), (PySem.Str.ofString "given", .local)], isGenerator := false, isCoroutine := false, more := [] }
/-- what the top leaves of such a class x, at C, and of its __init__, at fI -/
structure Gv (K : Frag) (mg : Str → Option Value) (x : Str) (C fI : Addr) : Prop where
  gC : mg x = some (.ref C)
  cls : ∃ B newId initId bmB nm q N bs bm sn sub ab col dd k0 k1 k2 k3 k5, ExcBaseFacts B newId initId bmB ∧ Tail bmB ∧ K.lookup C = some (excClassObj nm q C N bs bm true sn sub ab col dd k0 k1 k2 k3 k5 newId) ∧ OwnT bmB bm
  sa : findIn K (.ref C) "__setattr__" = some (some (.builtin "object.__setattr__"))
  noN : findIn K (.ref C) "given" = some none
  iC : findIn K (.ref C) "__init__" = some (some (.ref fI))
  tC : typeIn K (.ref fI) = some (.type "function")
  kC : keepIn K (.ref C) = true
  exC : subIn K (.ref C) (.type "BaseException") = some true
  tyC : typeIn K (.ref C) = some (.type "type")
  fn : ∃ (qual : Str) (oc : Value) (od : Option Addr) (kV doc pm : Value) (an : Option Addr) (cdv ct : Value) (osl : Array (Option Value)) (p1 p2 q1 q2 q3 q4 : Pos),
    K.lookup fI = some ⟨oc, od, .func (fnOf "__init__" qual (gvA p1 p2) (gvB q1 q2 q3 q4) gvS .none kV doc pm an cdv ct), osl⟩ ∧ codeIn K cdv qual = true
theorem size1 (v : Value) : [v].length ≤ sizeLine := by
  rw [sizeLine_eq]
  exact (by decide : 1 ≤ 16777216)
theorem ldL {M : Model} {s : Shared} {name : Str} {scope : Scope} {L a : Addr} {cd : Value} {m : Str → Option Value} {x : Str} {pos : Pos} {v : Value} {Q : Value → Shared → Prop} {A : Around} {E : Value → Shared → Prop} (hn : s.heap.Ns L m) (hv : m x = some v) (h : Q v s)
    (hk : scope.kind = .function := by rfl) (hl : (envOfC name scope L a cd).kindOf x = some .local := by rfl) (hd : (x == ("__debug__" : Str)) = false := by decide) :
    wpAny M A (eval (.Name x pos) (envOfC name scope L a cd)) Q E s := wpAny_Name (wpAny_loadName_local hk hl hn hv h) hd
/-- the fresh exception at x, behind its __init__ -/
structure GvInit (h h' : Heap) (x C dx t1 : Addr) (v : Value) : Prop where
  keep : ∀ b o, b ≠ x → h.get? b = some o → h'.get? b = some o
  obj : h'.get? x = some { cls := .ref C, dict := some dx, data := .fields #[.ref t1, .none, .none, .none, .bool false, .none] }
  dbig : h.objs.size ≤ dx
  dne : dx ≠ x
  ns : h'.Ns1 dx (fun y => if y = "given" then some v else none)
/-- the made one -/
structure GvMade (h h' : Heap) (e C d : Addr) (v : Value) : Prop where
  keep : ∀ b o, h.get? b = some o → h'.get? b = some o
  new : h.objs.size ≤ e
  obj : ∃ oe vs, h'.get? e = some oe ∧ oe.cls = .ref C ∧ oe.dict = some d ∧ oe.data = .fields vs ∧ vs[1]? = some .none
  dbig : h.objs.size ≤ d
  dne : d ≠ e
  ns : h'.Ns1 d (fun y => if y = "given" then some v else none)
section
variable {prog : Program} {w : World} {A : Around} {E : Value → Shared → Prop} {R : Result → Shared → Prop} {s : Shared} {K : Frag} {mg : Str → Option Value} {nx : Str} {C fI : Addr}
theorem gv_bind {qual : Str} {bd : List Stmt} {sc : Scope} {kV doc pm : Value} {an : Option Addr} {cdv ct u v : Value} {p1 p2 : Pos} :
    bindArgs (fnOf "__init__" qual (gvA p1 p2) bd sc .none kV doc pm an cdv ct) ⟨[u, v], []⟩ = pure [(("self" : Str), u), (("given" : Str), v)] := by
  unfold bindArgs fnOf gvA
  simp [sI0, look1, look0 (a := "self") (b := "given") (by decide)]
theorem gv_init (T : Gv K mg nx C fI) {x t0 : Addr} {v : Value} (X : K.In s.heap) (hlim : s.heap.NoLimit) (hx : s.heap.get? x = some (excO C t0)) (hroom : A.depth < recursionLimit)
    (hq : ∀ h' tk dx, GvInit s.heap h' x C dx t0 v → R (.ok (.ret .none)) { s with heap := h', toks := tk }) :
    codeAny (model prog w) A (.call (.ref fI) ⟨[.ref x, v], []⟩) R s := by
  obtain ⟨qual, oc, od, kV, doc, pm, an, cdv, ct, osl, p1, p2, q1, q2, q3, q4, ho, hcd⟩ := T.fn
  obtain ⟨B, newId, initId, bmB, nm, q, N, bs, bm, sn, sub, ab, col, dd, k0, k1, k2, k3, k5, Fb, tl, hC, hbm⟩ := T.cls
  have hcl : clsIn K C = some { name := nm, bases := bs, mro := .ref C :: bm, ns := N, qualname := q, hasDict := true, slotNames := sn, subclasses := sub, abstract := ab, collection := col, hasDel := false } := by unfold clsIn; rw [hC] <;> rfl
  refine Att.call_fn (binds := [("self", .ref x), ("given", v)]) X hlim ho hcd hroom (BindsTo.of_eq gv_bind) (by first | rfl | decide | with_unfolding_all rfl) (fun s1 IC => ?_) rfl rfl rfl
  obtain ⟨h1, tk1, rfl⟩ := IC.toInCall.same
  have k : ∀ b o, s.heap.get? b = some o → h1.get? b = some o := IC.toInCall.keep
  have hn := IC.toInCall.ns
  have hx1 := k _ _ hx
  show wpAny _ _ (execs _ _) _ _ _
  refine wpAny_execs_cons (plainObj_wpAny_Assign_Attribute ?_)
  refine ldL (v := v) hn (by first | rfl | with_unfolding_all rfl | kernel_rfl) (ldL (v := .ref x) hn (by first | rfl | with_unfolding_all rfl | kernel_rfl) ?_)
  refine set_plain (X.keeps k) (ox := excO C t0) (od := none) ⟨hx1, rfl, rfl, trivial⟩ T.sa ?_
  refine osaT tl (X.keeps k) hx1 hcl (hbm.cons C) rfl T.noN (fun h3 tk3 dx k3 dn dne hx3 hn3 => ?_)
  show wpAny _ _ (execs _ _) _ _ _
  have z : s.heap.objs.size < h1.objs.size := hn.lt
  exact wpAny_execs_nil (hq h3 tk3 dx ⟨fun b o hb e => k3 b o hb (k b o e), hx3, Nat.le_of_lt (Nat.lt_of_lt_of_le z dn), dne, hn3⟩)
theorem gv_made (T : Gv K mg nx C fI) {v : Value} (X : K.In s.heap) (hlim : s.heap.NoLimit) (hroom : A.depth + 1 < recursionLimit)
    (hq : ∀ h' tk e d, GvMade s.heap h' e C d v → R (.ok (.ret (.ref e))) { s with heap := h', toks := tk }) :
    codeAny (model prog w) A (.call (.ref C) ⟨[v], []⟩) R s := by
  obtain ⟨B, newId, initId, bmB, nm, q, N, bs, bm, sn, sub, ab, col, dd, k0, k1, k2, k3, k5, Fb, tl, hC, hbm⟩ := T.cls
  obtain ⟨hp, g, dr, tk, os⟩ := s
  have k : ∀ b o, hp.get? b = some o → ((hp.push (kdv_tup [v])).push (excO C hp.objs.size)).get? b = some o := fun b o e => Heap.get?_push_of_some _ (Heap.get?_push_of_some _ e)
  have hget : ((hp.push (kdv_tup [v])).push (excO C hp.objs.size)).get? (hp.objs.size + 1) = some (excO C hp.objs.size) := by heap_get
  refine call_own Fb (fun X => hbm.has X) (X _ _ hC) (looks_findIn X T.iC) (fun self => bind_fn X self T.tC) (size1 v) ?_
  refine gv_init (s := ⟨(hp.push (kdv_tup [v])).push (excO C hp.objs.size), g, dr, tk, os⟩) T (X.keeps k) (hlim.keeps k) hget ?_ fun h' tk' dx ⟨k', hx, dn, dne, hns⟩ => ?_
  · show A.depth + 1 < recursionLimit
    exact hroom
  · have old : ∀ b o, hp.get? b = some o → h'.get? b = some o := fun b o e => k' b o (Nat.ne_of_lt (Nat.lt_succ_of_lt (Heap.lt_size e))) (k b o e)
    have z : hp.objs.size + 1 + 1 ≤ dx := by
      first
        | (simpa only [Heap.size_push] using dn)
        | exact dn
        | (have q := dn; rw [Heap.size_push, Heap.size_push] at q; exact q)
    exact ⟨rfl, hq h' tk' (hp.objs.size + 1) dx ⟨old, Nat.le_succ _, ⟨_, _, hx, rfl, rfl, rfl, rfl⟩, Nat.le_trans (Nat.le_trans (Nat.le_succ _) (Nat.le_succ _)) z, dne, hns⟩⟩
end
theorem relO_gv {v : V} {v' : Value} (r : RelV v v') (f : Str) : RelO (List.lookup f [(("given" : Str), v)]) (if f = "given" then some v' else none) := by
  by_cases hw : f = "given"
  · subst hw
    rw [if_pos rfl]
    have q : List.lookup ("given" : Str) [(("given" : Str), v)] = some v := by simp [List.lookup]
    rw [q]
    exact r
  · rw [if_neg hw]
    have qw : (f == ("given" : Str)) = false := by simpa using hw
    have q2 : List.lookup f [(("given" : Str), v)] = none := by simp [List.lookup, qw]
    rw [q2]
    trivial
section
variable {X : Cx} {C fI : Addr} {x : Str}
/-- x(e): the error is new, and so is its dict -/
def tMkGv (C : Addr) (ta : TA) : L2.St → Hp → XK → Prop := fun σ H Q => ta σ H fun vs H1 => ∃ v, vs = [v] ∧ ∀ d H', Same H1 H' → Q (.ref C) d H'
theorem pmk_gv {a : Expr} {ta : TA} {p pos : Pos} {k : Nat} (T : Gv X.K X.mg x C fI) (hr : Room k X.A) (ha : PA X [a] ta) (hg : Gl X x := by rfl) (hdb : (x == ("__debug__" : Str)) = false := by decide)
    (he : starEach (a :: []) X.env = (false, eval a X.env) :: starEach [] X.env := by rfl) (hpl : (backTo pos (starEach [] X.env)).any (·.1) = false := by rfl) :
    PMk X (.Call (.Name x p) [a] [] pos) (tMkGv C ta) := by
  intro pins s σ H Q I h
  refine wpAny_Call_Name_kw (ld_glob I hg T.gC ?_ hdb)
  refine PySem.W.callWith_K (h₀ := X.base) I.ok.mod.kin T.kC (thn (ha.run pos pins s σ H _ I h) fun us s1 hh => ?_) he hpl
  obtain ⟨vs, H1, I1, r1, v, ev, q1⟩ := hh
  subst ev
  refine ⟨I1.kIn, ?_⟩
  cases r1 with
  | cons rv rn =>
    rename_i v' us'
    cases rn
    show wpAny _ _ (call (.ref C) [v']) _ _ _
    have hlim := I1.nolimit
    obtain ⟨hp, g, dr, tk, os⟩ := s1
    refine wpAny_call (gv_made T I1.kIn hlim (by have := hr.dp; omega) fun h' tk' e d M => ?_)
    show MkP X pins σ Q (.ref e) ⟨h', g, dr, tk', os⟩
    obtain ⟨oe, fv, hoe, hc, hd, hdat, h1⟩ := M.obj
    have hns := M.ns
    obtain ⟨G', g1, g2⟩ := restrict h' fun b => decide (b ≠ e)
    have gk : ∀ b, b ≠ e → G'.get? b = h'.get? b := fun b hb => g1 b (decide_eq_true hb)
    have ge : G'.get? e = none := g2 e (by simp)
    have old : ∀ b o, hp.get? b = some o → G'.get? b = some o := fun b o q => (gk b (Nat.ne_of_lt (Nat.lt_of_lt_of_le (Heap.lt_size q) M.new))).trans (M.keep b o q)
    have ob : ObjOk X.prog X.w (upd H1 d (.xd [(("given" : Str), v)])) G' d (.xd [(("given" : Str), v)]) :=
      ⟨_, hns.at (fun o q => (gk d M.dne).trans q), fun f => relO_gv rv f⟩
    have nd : H1 d = none := I1.hok.fresh M.dbig
    have J : Inv X pins σ (upd H1 d (.xd [(("given" : Str), v)])) ⟨G', g, dr, tk', os⟩ := I1.laid (t' := tk') old M.dbig ob
    refine ⟨e, oe, fv, ⟨G', g, dr, tk', os⟩, _, .ref C, some d, rfl, J, fun b o q => ?_, ge, hoe, ⟨hc, hd⟩, hdat, h1, ?_, rfl, I1.bare, raises_own T.exC T.tyC, q1 (some d) _ fun b o z => by rw [upd_ne (ne_of_none z nd)]; exact z⟩
    · by_cases hb : b = e
      · have q' : G'.get? b = some o := q
        rw [hb, ge] at q'; cases q'
      · exact (gk b hb).symm.trans q
    · rw [upd_ne (Ne.symm M.dne)]
      exact I1.hok.fresh M.new
/-- raise x(e) -/
def tRaiseGv (C : Addr) (W : WX) (ta : TA) : TS := fun _ σ H => tMkGv C ta σ H fun cls d H' => W cls d σ H'
theorem ps_raiseGv {a : Expr} {ta : TA} {W : WX} {p pos pos2 : Pos} {k : Nat} (hc : X.calm = true) (T : Gv X.K X.mg x C fI) (hr : Room k X.A) (tk : Takes X W) (ha : PA X [a] ta) (hg : Gl X x := by rfl) (hdb : (x == ("__debug__" : Str)) = false := by decide)
    (he : starEach (a :: []) X.env = (false, eval a X.env) :: starEach [] X.env := by rfl) (hpl : (backTo pos (starEach [] X.env)).any (·.1) = false := by rfl) :
    PS X (.Raise (some (.Call (.Name x p) [a] [] pos)) none pos2) (tRaiseGv C W ta) := ps_raise hc tk (pmk_gv T hr ha hg hdb he hpl)
theorem g_raiseGv {E : XK} {ta : TA} {D : Ends} {σ : L2.St} {H : Hp} (q : ta σ H fun vs H1 => ∃ v, vs = [v] ∧ ∀ d H', Same H1 H' → E (.ref C) d H') : tRaiseGv C (fun cls d _ H => E cls d H) ta D σ H := q
end
end PP
-- text PC
namespace PP
open PySem PySem.Spec PyProof.Rows L2
def fa0 : List He.Fa := [.glo "is_integer", .glo "is_between", .glo "number_in_kinds", .glo "integer_in", .glo "power_of", .glo "common_divisor", .glo "floor_root", .glo "is_power", .glo "prime_divisors", .glo "is_number", .glo "check_number", .glo "check_degree", .glo "lowest", .glo "text_of", .glo "number_in_numbers", .glo "raised", .glo "whole_root", .glo "base_and_exponent", .glo "base_for", .glo "root_for", .glo "four_for", .glo "odd_part", .glo "shared", .glo "is_split_by_four", .glo "does_split"]
def fa1 : List He.Fa := [.glo "is_always", .glo "splits", .glo "is_always_whole", .glo "is_one", .glo "steps_for", .glo "powers_up_to", .glo "next_for", .glo "next_split", .glo "is_taken", .glo "least_form", .glo "taken", .glo "bounded_root", .glo "refined", .glo "unpowered", .glo "common_bases", .glo "times_in", .glo "powers_in", .glo "check_roots", .glo "common_degree", .glo "degree_for", .glo "degree_of", .glo "_law_jug", .glo "_law_pull", .glo "_law_one_of", .glo "_law_common"]
def fa2 : List He.Fa := [.glo "_law_power", .glo "_law_pair", .glo "_law_text", .glo "_law_small", .glo "_law_plan", .glo "_law_is_four", .glo "_law_splits", .glo "_law_is_always", .glo "_law_some_n", .glo "_law_least", .glo "_law_root_text", .glo "_law_group", .glo "_law_degree", .glo "_law_behind", .glo "_law_ended", .glo "_law_next", .glo "_law_state", .glo "_law_line", .glo "_law_put_due", .glo "_law_stepped", .glo "_law_right", .glo "law", .glo "Root", .glo "Places", .glo "Desk"]
def fa3 : List He.Fa := [.glo "Console", .glo "InvalidNumber", .glo "InvalidDegree", .glo "InvalidIndex", .glo "TooGreat", .glo "NothingToUndo", .free "len", .free "isinstance", .free "int", .free "bool", .free "str", .free "tuple", .free "all", .free "abs", .free "max", .free "min", .free "range", .free "list", .free "enumerate", .free "zip", .free "sorted", .free "set", .free "repr", .int "MOST_SIZE" (10 ^ 30), .int "MOST_DEGREE" (60)]
def fa4 : List He.Fa := [.int "MOST_ROOTS" (5), .int "MOST_RAISED" (20), .str "DIGITS" "0123456789", .cls "Root", .mkr "Root", .cls "Places", .mkr "Places", .cls "Desk", .mkr "Desk", .cls "Console", .mkr "Console", .noat "Root" "form", .noat "Places" "bases", .noat "Places" "whole", .noat "Desk" "state", .noat "Desk" "past", .noat "Console" "taken", .noat "Console" "desk", .meth "Root" "raised", .meth "Root" "__str__", .meth "Places" "row", .meth "Places" "field", .meth "Places" "span", .meth "Places" "with_row", .meth "Places" "size"]
def fa5 : List He.Fa := [.meth "Desk" "become", .meth "Desk" "check_index", .meth "Desk" "put", .meth "Desk" "drop", .meth "Desk" "turn", .meth "Desk" "undo", .meth "Console" "put", .meth "Console" "done", .meth "Console" "plain", .meth "Console" "about", .meth "Console" "asked", .meth "Console" "take", .meth "Console" "answer", .meth "Console" "say", .exm "InvalidNumber" "InvalidNumber" true, .exm "InvalidNumber" "InvalidDegree" false, .exm "InvalidNumber" "InvalidIndex" false, .exm "InvalidNumber" "TooGreat" false, .exm "InvalidNumber" "NothingToUndo" false, .exm "InvalidDegree" "InvalidNumber" false, .exm "InvalidDegree" "InvalidDegree" true, .exm "InvalidDegree" "InvalidIndex" false, .exm "InvalidDegree" "TooGreat" false, .exm "InvalidDegree" "NothingToUndo" false, .exm "InvalidIndex" "InvalidNumber" false]
def fa6 : List He.Fa := [.exm "InvalidIndex" "InvalidDegree" false, .exm "InvalidIndex" "InvalidIndex" true, .exm "InvalidIndex" "TooGreat" false, .exm "InvalidIndex" "NothingToUndo" false, .exm "TooGreat" "InvalidNumber" false, .exm "TooGreat" "InvalidDegree" false, .exm "TooGreat" "InvalidIndex" false, .exm "TooGreat" "TooGreat" true, .exm "TooGreat" "NothingToUndo" false, .exm "NothingToUndo" "InvalidNumber" false, .exm "NothingToUndo" "InvalidDegree" false, .exm "NothingToUndo" "InvalidIndex" false, .exm "NothingToUndo" "TooGreat" false, .exm "NothingToUndo" "NothingToUndo" true]
def fa : List He.Fa := fa0 ++ fa1 ++ fa2 ++ fa3 ++ fa4 ++ fa5 ++ fa6
abbrev gaK (K : PySem.W.Frag) (x : Str) : Addr := He.ga K x
/-- what the top leaves -/
structure Tx (K : PySem.W.Frag) (mg : Str → Option Value) : Prop where
  at_ : ∃ h : Heap, K.In h ∧ h.Ns mainGlobals mg
  says : He5.SaysA fa fn K
  gv_InvalidNumber : Gv K mg "InvalidNumber" (gaK K "InvalidNumber") (He.ma K (gaK K "InvalidNumber") "__init__")
  gv_InvalidDegree : Gv K mg "InvalidDegree" (gaK K "InvalidDegree") (He.ma K (gaK K "InvalidDegree") "__init__")
  gv_InvalidIndex : Gv K mg "InvalidIndex" (gaK K "InvalidIndex") (He.ma K (gaK K "InvalidIndex") "__init__")
  gv_TooGreat : Gv K mg "TooGreat" (gaK K "TooGreat") (He.ma K (gaK K "TooGreat") "__init__")
  no_in : PySem.W.excIn K (gaK K "NothingToUndo") [.type "ArithmeticError", .type "Exception", .type "BaseException", .type "object"] "ArithmeticError.__new__" = true
  no_kp : PySem.W.keepIn K (.ref (gaK K "NothingToUndo")) = true
  no_sub : PySem.W.subIn K (.ref (gaK K "NothingToUndo")) (.type "BaseException") = some true
  no_ty : PySem.W.typeIn K (.ref (gaK K "NothingToUndo")) = some (.type "type")
  cd : ∃ fd, FunD K "check_degree" "check_degree" (defArgs s_check_degree) (defBody s_check_degree) (defScope s_check_degree) [.int (10 ^ 30), .int 1] [] (gaK K "check_degree") fd
  pr_Root_number : PropOf K (gaK K "Root") "number" (He.ma K (gaK K "Root") "number") (He5.wf K (gaK K "Root") "property" "number")
  pr_Root_degree : PropOf K (gaK K "Root") "degree" (He.ma K (gaK K "Root") "degree") (He5.wf K (gaK K "Root") "property" "degree")
  pr_Desk_roots : PropOf K (gaK K "Desk") "roots" (He.ma K (gaK K "Desk") "roots") (He5.wf K (gaK K "Desk") "property" "roots")
  pr_Desk_degree : PropOf K (gaK K "Desk") "degree" (He.ma K (gaK K "Desk") "degree") (He5.wf K (gaK K "Desk") "property" "degree")
  ic_Root : C8.InsC K (gaK K "Root")

theorem g_is_integer {K : PySem.W.Frag} {mg : Str → Option Value} (T : Tx K mg) : mg "is_integer" = some (.ref (He.ga K "is_integer")) := let ⟨_, X, G⟩ := T.at_; He.glo_ok X G (T.says.fact 0 (f := .glo "is_integer") rfl)
theorem g_is_between {K : PySem.W.Frag} {mg : Str → Option Value} (T : Tx K mg) : mg "is_between" = some (.ref (He.ga K "is_between")) := let ⟨_, X, G⟩ := T.at_; He.glo_ok X G (T.says.fact 1 (f := .glo "is_between") rfl)
theorem g_number_in {K : PySem.W.Frag} {mg : Str → Option Value} (T : Tx K mg) : mg "number_in_kinds" = some (.ref (He.ga K "number_in_kinds")) := let ⟨_, X, G⟩ := T.at_; He.glo_ok X G (T.says.fact 2 (f := .glo "number_in_kinds") rfl)
theorem g_integer_in {K : PySem.W.Frag} {mg : Str → Option Value} (T : Tx K mg) : mg "integer_in" = some (.ref (He.ga K "integer_in")) := let ⟨_, X, G⟩ := T.at_; He.glo_ok X G (T.says.fact 3 (f := .glo "integer_in") rfl)
theorem g_power_of {K : PySem.W.Frag} {mg : Str → Option Value} (T : Tx K mg) : mg "power_of" = some (.ref (He.ga K "power_of")) := let ⟨_, X, G⟩ := T.at_; He.glo_ok X G (T.says.fact 4 (f := .glo "power_of") rfl)
theorem g_common_divisor {K : PySem.W.Frag} {mg : Str → Option Value} (T : Tx K mg) : mg "common_divisor" = some (.ref (He.ga K "common_divisor")) := let ⟨_, X, G⟩ := T.at_; He.glo_ok X G (T.says.fact 5 (f := .glo "common_divisor") rfl)
theorem g_floor_root {K : PySem.W.Frag} {mg : Str → Option Value} (T : Tx K mg) : mg "floor_root" = some (.ref (He.ga K "floor_root")) := let ⟨_, X, G⟩ := T.at_; He.glo_ok X G (T.says.fact 6 (f := .glo "floor_root") rfl)
theorem g_is_power {K : PySem.W.Frag} {mg : Str → Option Value} (T : Tx K mg) : mg "is_power" = some (.ref (He.ga K "is_power")) := let ⟨_, X, G⟩ := T.at_; He.glo_ok X G (T.says.fact 7 (f := .glo "is_power") rfl)
theorem g_prime_divisors {K : PySem.W.Frag} {mg : Str → Option Value} (T : Tx K mg) : mg "prime_divisors" = some (.ref (He.ga K "prime_divisors")) := let ⟨_, X, G⟩ := T.at_; He.glo_ok X G (T.says.fact 8 (f := .glo "prime_divisors") rfl)
theorem g_is_number {K : PySem.W.Frag} {mg : Str → Option Value} (T : Tx K mg) : mg "is_number" = some (.ref (He.ga K "is_number")) := let ⟨_, X, G⟩ := T.at_; He.glo_ok X G (T.says.fact 9 (f := .glo "is_number") rfl)
theorem g_check_number {K : PySem.W.Frag} {mg : Str → Option Value} (T : Tx K mg) : mg "check_number" = some (.ref (He.ga K "check_number")) := let ⟨_, X, G⟩ := T.at_; He.glo_ok X G (T.says.fact 10 (f := .glo "check_number") rfl)
theorem g_check_degree {K : PySem.W.Frag} {mg : Str → Option Value} (T : Tx K mg) : mg "check_degree" = some (.ref (He.ga K "check_degree")) := let ⟨_, X, G⟩ := T.at_; He.glo_ok X G (T.says.fact 11 (f := .glo "check_degree") rfl)
theorem g_lowest {K : PySem.W.Frag} {mg : Str → Option Value} (T : Tx K mg) : mg "lowest" = some (.ref (He.ga K "lowest")) := let ⟨_, X, G⟩ := T.at_; He.glo_ok X G (T.says.fact 12 (f := .glo "lowest") rfl)
theorem g_text_of {K : PySem.W.Frag} {mg : Str → Option Value} (T : Tx K mg) : mg "text_of" = some (.ref (He.ga K "text_of")) := let ⟨_, X, G⟩ := T.at_; He.glo_ok X G (T.says.fact 13 (f := .glo "text_of") rfl)
theorem g_number_in2 {K : PySem.W.Frag} {mg : Str → Option Value} (T : Tx K mg) : mg "number_in_numbers" = some (.ref (He.ga K "number_in_numbers")) := let ⟨_, X, G⟩ := T.at_; He.glo_ok X G (T.says.fact 14 (f := .glo "number_in_numbers") rfl)
theorem g_raised {K : PySem.W.Frag} {mg : Str → Option Value} (T : Tx K mg) : mg "raised" = some (.ref (He.ga K "raised")) := let ⟨_, X, G⟩ := T.at_; He.glo_ok X G (T.says.fact 15 (f := .glo "raised") rfl)
theorem g_whole_root {K : PySem.W.Frag} {mg : Str → Option Value} (T : Tx K mg) : mg "whole_root" = some (.ref (He.ga K "whole_root")) := let ⟨_, X, G⟩ := T.at_; He.glo_ok X G (T.says.fact 16 (f := .glo "whole_root") rfl)
theorem g_base_and_exponent {K : PySem.W.Frag} {mg : Str → Option Value} (T : Tx K mg) : mg "base_and_exponent" = some (.ref (He.ga K "base_and_exponent")) := let ⟨_, X, G⟩ := T.at_; He.glo_ok X G (T.says.fact 17 (f := .glo "base_and_exponent") rfl)
theorem g_base_for {K : PySem.W.Frag} {mg : Str → Option Value} (T : Tx K mg) : mg "base_for" = some (.ref (He.ga K "base_for")) := let ⟨_, X, G⟩ := T.at_; He.glo_ok X G (T.says.fact 18 (f := .glo "base_for") rfl)
theorem g_root_for {K : PySem.W.Frag} {mg : Str → Option Value} (T : Tx K mg) : mg "root_for" = some (.ref (He.ga K "root_for")) := let ⟨_, X, G⟩ := T.at_; He.glo_ok X G (T.says.fact 19 (f := .glo "root_for") rfl)
theorem g_four_for {K : PySem.W.Frag} {mg : Str → Option Value} (T : Tx K mg) : mg "four_for" = some (.ref (He.ga K "four_for")) := let ⟨_, X, G⟩ := T.at_; He.glo_ok X G (T.says.fact 20 (f := .glo "four_for") rfl)
theorem g_odd_part {K : PySem.W.Frag} {mg : Str → Option Value} (T : Tx K mg) : mg "odd_part" = some (.ref (He.ga K "odd_part")) := let ⟨_, X, G⟩ := T.at_; He.glo_ok X G (T.says.fact 21 (f := .glo "odd_part") rfl)
theorem g_shared {K : PySem.W.Frag} {mg : Str → Option Value} (T : Tx K mg) : mg "shared" = some (.ref (He.ga K "shared")) := let ⟨_, X, G⟩ := T.at_; He.glo_ok X G (T.says.fact 22 (f := .glo "shared") rfl)
theorem g_is_split_by_four {K : PySem.W.Frag} {mg : Str → Option Value} (T : Tx K mg) : mg "is_split_by_four" = some (.ref (He.ga K "is_split_by_four")) := let ⟨_, X, G⟩ := T.at_; He.glo_ok X G (T.says.fact 23 (f := .glo "is_split_by_four") rfl)
theorem g_does_split {K : PySem.W.Frag} {mg : Str → Option Value} (T : Tx K mg) : mg "does_split" = some (.ref (He.ga K "does_split")) := let ⟨_, X, G⟩ := T.at_; He.glo_ok X G (T.says.fact 24 (f := .glo "does_split") rfl)
theorem g_is_always {K : PySem.W.Frag} {mg : Str → Option Value} (T : Tx K mg) : mg "is_always" = some (.ref (He.ga K "is_always")) := let ⟨_, X, G⟩ := T.at_; He.glo_ok X G (T.says.fact 25 (f := .glo "is_always") rfl)
theorem g_splits {K : PySem.W.Frag} {mg : Str → Option Value} (T : Tx K mg) : mg "splits" = some (.ref (He.ga K "splits")) := let ⟨_, X, G⟩ := T.at_; He.glo_ok X G (T.says.fact 26 (f := .glo "splits") rfl)
theorem g_is_always_whole {K : PySem.W.Frag} {mg : Str → Option Value} (T : Tx K mg) : mg "is_always_whole" = some (.ref (He.ga K "is_always_whole")) := let ⟨_, X, G⟩ := T.at_; He.glo_ok X G (T.says.fact 27 (f := .glo "is_always_whole") rfl)
theorem g_is_one {K : PySem.W.Frag} {mg : Str → Option Value} (T : Tx K mg) : mg "is_one" = some (.ref (He.ga K "is_one")) := let ⟨_, X, G⟩ := T.at_; He.glo_ok X G (T.says.fact 28 (f := .glo "is_one") rfl)
theorem g_steps_for {K : PySem.W.Frag} {mg : Str → Option Value} (T : Tx K mg) : mg "steps_for" = some (.ref (He.ga K "steps_for")) := let ⟨_, X, G⟩ := T.at_; He.glo_ok X G (T.says.fact 29 (f := .glo "steps_for") rfl)
theorem g_powers_up_to {K : PySem.W.Frag} {mg : Str → Option Value} (T : Tx K mg) : mg "powers_up_to" = some (.ref (He.ga K "powers_up_to")) := let ⟨_, X, G⟩ := T.at_; He.glo_ok X G (T.says.fact 30 (f := .glo "powers_up_to") rfl)
theorem g_next_for {K : PySem.W.Frag} {mg : Str → Option Value} (T : Tx K mg) : mg "next_for" = some (.ref (He.ga K "next_for")) := let ⟨_, X, G⟩ := T.at_; He.glo_ok X G (T.says.fact 31 (f := .glo "next_for") rfl)
theorem g_next_split {K : PySem.W.Frag} {mg : Str → Option Value} (T : Tx K mg) : mg "next_split" = some (.ref (He.ga K "next_split")) := let ⟨_, X, G⟩ := T.at_; He.glo_ok X G (T.says.fact 32 (f := .glo "next_split") rfl)
theorem g_is_taken {K : PySem.W.Frag} {mg : Str → Option Value} (T : Tx K mg) : mg "is_taken" = some (.ref (He.ga K "is_taken")) := let ⟨_, X, G⟩ := T.at_; He.glo_ok X G (T.says.fact 33 (f := .glo "is_taken") rfl)
theorem g_least_form {K : PySem.W.Frag} {mg : Str → Option Value} (T : Tx K mg) : mg "least_form" = some (.ref (He.ga K "least_form")) := let ⟨_, X, G⟩ := T.at_; He.glo_ok X G (T.says.fact 34 (f := .glo "least_form") rfl)
theorem g_taken {K : PySem.W.Frag} {mg : Str → Option Value} (T : Tx K mg) : mg "taken" = some (.ref (He.ga K "taken")) := let ⟨_, X, G⟩ := T.at_; He.glo_ok X G (T.says.fact 35 (f := .glo "taken") rfl)
theorem g_bounded_root {K : PySem.W.Frag} {mg : Str → Option Value} (T : Tx K mg) : mg "bounded_root" = some (.ref (He.ga K "bounded_root")) := let ⟨_, X, G⟩ := T.at_; He.glo_ok X G (T.says.fact 36 (f := .glo "bounded_root") rfl)
theorem g_refined {K : PySem.W.Frag} {mg : Str → Option Value} (T : Tx K mg) : mg "refined" = some (.ref (He.ga K "refined")) := let ⟨_, X, G⟩ := T.at_; He.glo_ok X G (T.says.fact 37 (f := .glo "refined") rfl)
theorem g_unpowered {K : PySem.W.Frag} {mg : Str → Option Value} (T : Tx K mg) : mg "unpowered" = some (.ref (He.ga K "unpowered")) := let ⟨_, X, G⟩ := T.at_; He.glo_ok X G (T.says.fact 38 (f := .glo "unpowered") rfl)
theorem g_common_bases {K : PySem.W.Frag} {mg : Str → Option Value} (T : Tx K mg) : mg "common_bases" = some (.ref (He.ga K "common_bases")) := let ⟨_, X, G⟩ := T.at_; He.glo_ok X G (T.says.fact 39 (f := .glo "common_bases") rfl)
theorem g_times_in {K : PySem.W.Frag} {mg : Str → Option Value} (T : Tx K mg) : mg "times_in" = some (.ref (He.ga K "times_in")) := let ⟨_, X, G⟩ := T.at_; He.glo_ok X G (T.says.fact 40 (f := .glo "times_in") rfl)
theorem g_powers_in {K : PySem.W.Frag} {mg : Str → Option Value} (T : Tx K mg) : mg "powers_in" = some (.ref (He.ga K "powers_in")) := let ⟨_, X, G⟩ := T.at_; He.glo_ok X G (T.says.fact 41 (f := .glo "powers_in") rfl)
theorem g_check_roots {K : PySem.W.Frag} {mg : Str → Option Value} (T : Tx K mg) : mg "check_roots" = some (.ref (He.ga K "check_roots")) := let ⟨_, X, G⟩ := T.at_; He.glo_ok X G (T.says.fact 42 (f := .glo "check_roots") rfl)
theorem g_common_degree {K : PySem.W.Frag} {mg : Str → Option Value} (T : Tx K mg) : mg "common_degree" = some (.ref (He.ga K "common_degree")) := let ⟨_, X, G⟩ := T.at_; He.glo_ok X G (T.says.fact 43 (f := .glo "common_degree") rfl)
theorem g_degree_for {K : PySem.W.Frag} {mg : Str → Option Value} (T : Tx K mg) : mg "degree_for" = some (.ref (He.ga K "degree_for")) := let ⟨_, X, G⟩ := T.at_; He.glo_ok X G (T.says.fact 44 (f := .glo "degree_for") rfl)
theorem g_degree_of {K : PySem.W.Frag} {mg : Str → Option Value} (T : Tx K mg) : mg "degree_of" = some (.ref (He.ga K "degree_of")) := let ⟨_, X, G⟩ := T.at_; He.glo_ok X G (T.says.fact 45 (f := .glo "degree_of") rfl)
theorem g_law_jug {K : PySem.W.Frag} {mg : Str → Option Value} (T : Tx K mg) : mg "_law_jug" = some (.ref (He.ga K "_law_jug")) := let ⟨_, X, G⟩ := T.at_; He.glo_ok X G (T.says.fact 46 (f := .glo "_law_jug") rfl)
theorem g_law_pull {K : PySem.W.Frag} {mg : Str → Option Value} (T : Tx K mg) : mg "_law_pull" = some (.ref (He.ga K "_law_pull")) := let ⟨_, X, G⟩ := T.at_; He.glo_ok X G (T.says.fact 47 (f := .glo "_law_pull") rfl)
theorem g_law_one_of {K : PySem.W.Frag} {mg : Str → Option Value} (T : Tx K mg) : mg "_law_one_of" = some (.ref (He.ga K "_law_one_of")) := let ⟨_, X, G⟩ := T.at_; He.glo_ok X G (T.says.fact 48 (f := .glo "_law_one_of") rfl)
theorem g_law_common {K : PySem.W.Frag} {mg : Str → Option Value} (T : Tx K mg) : mg "_law_common" = some (.ref (He.ga K "_law_common")) := let ⟨_, X, G⟩ := T.at_; He.glo_ok X G (T.says.fact 49 (f := .glo "_law_common") rfl)
theorem g_law_power {K : PySem.W.Frag} {mg : Str → Option Value} (T : Tx K mg) : mg "_law_power" = some (.ref (He.ga K "_law_power")) := let ⟨_, X, G⟩ := T.at_; He.glo_ok X G (T.says.fact 50 (f := .glo "_law_power") rfl)
theorem g_law_pair {K : PySem.W.Frag} {mg : Str → Option Value} (T : Tx K mg) : mg "_law_pair" = some (.ref (He.ga K "_law_pair")) := let ⟨_, X, G⟩ := T.at_; He.glo_ok X G (T.says.fact 51 (f := .glo "_law_pair") rfl)
theorem g_law_text {K : PySem.W.Frag} {mg : Str → Option Value} (T : Tx K mg) : mg "_law_text" = some (.ref (He.ga K "_law_text")) := let ⟨_, X, G⟩ := T.at_; He.glo_ok X G (T.says.fact 52 (f := .glo "_law_text") rfl)
theorem g_law_small {K : PySem.W.Frag} {mg : Str → Option Value} (T : Tx K mg) : mg "_law_small" = some (.ref (He.ga K "_law_small")) := let ⟨_, X, G⟩ := T.at_; He.glo_ok X G (T.says.fact 53 (f := .glo "_law_small") rfl)
theorem g_law_plan {K : PySem.W.Frag} {mg : Str → Option Value} (T : Tx K mg) : mg "_law_plan" = some (.ref (He.ga K "_law_plan")) := let ⟨_, X, G⟩ := T.at_; He.glo_ok X G (T.says.fact 54 (f := .glo "_law_plan") rfl)
theorem g_law_is_four {K : PySem.W.Frag} {mg : Str → Option Value} (T : Tx K mg) : mg "_law_is_four" = some (.ref (He.ga K "_law_is_four")) := let ⟨_, X, G⟩ := T.at_; He.glo_ok X G (T.says.fact 55 (f := .glo "_law_is_four") rfl)
theorem g_law_splits {K : PySem.W.Frag} {mg : Str → Option Value} (T : Tx K mg) : mg "_law_splits" = some (.ref (He.ga K "_law_splits")) := let ⟨_, X, G⟩ := T.at_; He.glo_ok X G (T.says.fact 56 (f := .glo "_law_splits") rfl)
theorem g_law_is_always {K : PySem.W.Frag} {mg : Str → Option Value} (T : Tx K mg) : mg "_law_is_always" = some (.ref (He.ga K "_law_is_always")) := let ⟨_, X, G⟩ := T.at_; He.glo_ok X G (T.says.fact 57 (f := .glo "_law_is_always") rfl)
theorem g_law_some_n {K : PySem.W.Frag} {mg : Str → Option Value} (T : Tx K mg) : mg "_law_some_n" = some (.ref (He.ga K "_law_some_n")) := let ⟨_, X, G⟩ := T.at_; He.glo_ok X G (T.says.fact 58 (f := .glo "_law_some_n") rfl)
theorem g_law_least {K : PySem.W.Frag} {mg : Str → Option Value} (T : Tx K mg) : mg "_law_least" = some (.ref (He.ga K "_law_least")) := let ⟨_, X, G⟩ := T.at_; He.glo_ok X G (T.says.fact 59 (f := .glo "_law_least") rfl)
theorem g_law_root_text {K : PySem.W.Frag} {mg : Str → Option Value} (T : Tx K mg) : mg "_law_root_text" = some (.ref (He.ga K "_law_root_text")) := let ⟨_, X, G⟩ := T.at_; He.glo_ok X G (T.says.fact 60 (f := .glo "_law_root_text") rfl)
theorem g_law_group {K : PySem.W.Frag} {mg : Str → Option Value} (T : Tx K mg) : mg "_law_group" = some (.ref (He.ga K "_law_group")) := let ⟨_, X, G⟩ := T.at_; He.glo_ok X G (T.says.fact 61 (f := .glo "_law_group") rfl)
theorem g_law_degree {K : PySem.W.Frag} {mg : Str → Option Value} (T : Tx K mg) : mg "_law_degree" = some (.ref (He.ga K "_law_degree")) := let ⟨_, X, G⟩ := T.at_; He.glo_ok X G (T.says.fact 62 (f := .glo "_law_degree") rfl)
theorem g_law_behind {K : PySem.W.Frag} {mg : Str → Option Value} (T : Tx K mg) : mg "_law_behind" = some (.ref (He.ga K "_law_behind")) := let ⟨_, X, G⟩ := T.at_; He.glo_ok X G (T.says.fact 63 (f := .glo "_law_behind") rfl)
theorem g_law_ended {K : PySem.W.Frag} {mg : Str → Option Value} (T : Tx K mg) : mg "_law_ended" = some (.ref (He.ga K "_law_ended")) := let ⟨_, X, G⟩ := T.at_; He.glo_ok X G (T.says.fact 64 (f := .glo "_law_ended") rfl)
theorem g_law_next {K : PySem.W.Frag} {mg : Str → Option Value} (T : Tx K mg) : mg "_law_next" = some (.ref (He.ga K "_law_next")) := let ⟨_, X, G⟩ := T.at_; He.glo_ok X G (T.says.fact 65 (f := .glo "_law_next") rfl)
theorem g_law_state {K : PySem.W.Frag} {mg : Str → Option Value} (T : Tx K mg) : mg "_law_state" = some (.ref (He.ga K "_law_state")) := let ⟨_, X, G⟩ := T.at_; He.glo_ok X G (T.says.fact 66 (f := .glo "_law_state") rfl)
theorem g_law_line {K : PySem.W.Frag} {mg : Str → Option Value} (T : Tx K mg) : mg "_law_line" = some (.ref (He.ga K "_law_line")) := let ⟨_, X, G⟩ := T.at_; He.glo_ok X G (T.says.fact 67 (f := .glo "_law_line") rfl)
theorem g_law_put_due {K : PySem.W.Frag} {mg : Str → Option Value} (T : Tx K mg) : mg "_law_put_due" = some (.ref (He.ga K "_law_put_due")) := let ⟨_, X, G⟩ := T.at_; He.glo_ok X G (T.says.fact 68 (f := .glo "_law_put_due") rfl)
theorem g_law_stepped {K : PySem.W.Frag} {mg : Str → Option Value} (T : Tx K mg) : mg "_law_stepped" = some (.ref (He.ga K "_law_stepped")) := let ⟨_, X, G⟩ := T.at_; He.glo_ok X G (T.says.fact 69 (f := .glo "_law_stepped") rfl)
theorem g_law_right {K : PySem.W.Frag} {mg : Str → Option Value} (T : Tx K mg) : mg "_law_right" = some (.ref (He.ga K "_law_right")) := let ⟨_, X, G⟩ := T.at_; He.glo_ok X G (T.says.fact 70 (f := .glo "_law_right") rfl)
theorem g_law {K : PySem.W.Frag} {mg : Str → Option Value} (T : Tx K mg) : mg "law" = some (.ref (He.ga K "law")) := let ⟨_, X, G⟩ := T.at_; He.glo_ok X G (T.says.fact 71 (f := .glo "law") rfl)
theorem gC_Root {K : PySem.W.Frag} {mg : Str → Option Value} (T : Tx K mg) : mg "Root" = some (.ref (He.ga K "Root")) := let ⟨_, X, G⟩ := T.at_; He.glo_ok X G (T.says.fact 72 (f := .glo "Root") rfl)
theorem gC_Places {K : PySem.W.Frag} {mg : Str → Option Value} (T : Tx K mg) : mg "Places" = some (.ref (He.ga K "Places")) := let ⟨_, X, G⟩ := T.at_; He.glo_ok X G (T.says.fact 73 (f := .glo "Places") rfl)
theorem gC_Desk {K : PySem.W.Frag} {mg : Str → Option Value} (T : Tx K mg) : mg "Desk" = some (.ref (He.ga K "Desk")) := let ⟨_, X, G⟩ := T.at_; He.glo_ok X G (T.says.fact 74 (f := .glo "Desk") rfl)
theorem gC_Console {K : PySem.W.Frag} {mg : Str → Option Value} (T : Tx K mg) : mg "Console" = some (.ref (He.ga K "Console")) := let ⟨_, X, G⟩ := T.at_; He.glo_ok X G (T.says.fact 75 (f := .glo "Console") rfl)
theorem gC_InvalidNumber {K : PySem.W.Frag} {mg : Str → Option Value} (T : Tx K mg) : mg "InvalidNumber" = some (.ref (He.ga K "InvalidNumber")) := let ⟨_, X, G⟩ := T.at_; He.glo_ok X G (T.says.fact 76 (f := .glo "InvalidNumber") rfl)
theorem gC_InvalidDegree {K : PySem.W.Frag} {mg : Str → Option Value} (T : Tx K mg) : mg "InvalidDegree" = some (.ref (He.ga K "InvalidDegree")) := let ⟨_, X, G⟩ := T.at_; He.glo_ok X G (T.says.fact 77 (f := .glo "InvalidDegree") rfl)
theorem gC_InvalidIndex {K : PySem.W.Frag} {mg : Str → Option Value} (T : Tx K mg) : mg "InvalidIndex" = some (.ref (He.ga K "InvalidIndex")) := let ⟨_, X, G⟩ := T.at_; He.glo_ok X G (T.says.fact 78 (f := .glo "InvalidIndex") rfl)
theorem gC_TooGreat {K : PySem.W.Frag} {mg : Str → Option Value} (T : Tx K mg) : mg "TooGreat" = some (.ref (He.ga K "TooGreat")) := let ⟨_, X, G⟩ := T.at_; He.glo_ok X G (T.says.fact 79 (f := .glo "TooGreat") rfl)
theorem gC_NothingToUndo {K : PySem.W.Frag} {mg : Str → Option Value} (T : Tx K mg) : mg "NothingToUndo" = some (.ref (He.ga K "NothingToUndo")) := let ⟨_, X, G⟩ := T.at_; He.glo_ok X G (T.says.fact 80 (f := .glo "NothingToUndo") rfl)
theorem b_len {K : PySem.W.Frag} {mg : Str → Option Value} (T : Tx K mg) : mg "len" = none := let ⟨_, X, G⟩ := T.at_; He.free_ok X G (T.says.fact 81 (f := .free "len") rfl)
theorem b_isinstance {K : PySem.W.Frag} {mg : Str → Option Value} (T : Tx K mg) : mg "isinstance" = none := let ⟨_, X, G⟩ := T.at_; He.free_ok X G (T.says.fact 82 (f := .free "isinstance") rfl)
theorem b_int {K : PySem.W.Frag} {mg : Str → Option Value} (T : Tx K mg) : mg "int" = none := let ⟨_, X, G⟩ := T.at_; He.free_ok X G (T.says.fact 83 (f := .free "int") rfl)
theorem b_bool {K : PySem.W.Frag} {mg : Str → Option Value} (T : Tx K mg) : mg "bool" = none := let ⟨_, X, G⟩ := T.at_; He.free_ok X G (T.says.fact 84 (f := .free "bool") rfl)
theorem b_str {K : PySem.W.Frag} {mg : Str → Option Value} (T : Tx K mg) : mg "str" = none := let ⟨_, X, G⟩ := T.at_; He.free_ok X G (T.says.fact 85 (f := .free "str") rfl)
theorem b_tuple {K : PySem.W.Frag} {mg : Str → Option Value} (T : Tx K mg) : mg "tuple" = none := let ⟨_, X, G⟩ := T.at_; He.free_ok X G (T.says.fact 86 (f := .free "tuple") rfl)
theorem b_all {K : PySem.W.Frag} {mg : Str → Option Value} (T : Tx K mg) : mg "all" = none := let ⟨_, X, G⟩ := T.at_; He.free_ok X G (T.says.fact 87 (f := .free "all") rfl)
theorem b_abs {K : PySem.W.Frag} {mg : Str → Option Value} (T : Tx K mg) : mg "abs" = none := let ⟨_, X, G⟩ := T.at_; He.free_ok X G (T.says.fact 88 (f := .free "abs") rfl)
theorem b_max {K : PySem.W.Frag} {mg : Str → Option Value} (T : Tx K mg) : mg "max" = none := let ⟨_, X, G⟩ := T.at_; He.free_ok X G (T.says.fact 89 (f := .free "max") rfl)
theorem b_min {K : PySem.W.Frag} {mg : Str → Option Value} (T : Tx K mg) : mg "min" = none := let ⟨_, X, G⟩ := T.at_; He.free_ok X G (T.says.fact 90 (f := .free "min") rfl)
theorem b_range {K : PySem.W.Frag} {mg : Str → Option Value} (T : Tx K mg) : mg "range" = none := let ⟨_, X, G⟩ := T.at_; He.free_ok X G (T.says.fact 91 (f := .free "range") rfl)
theorem b_list {K : PySem.W.Frag} {mg : Str → Option Value} (T : Tx K mg) : mg "list" = none := let ⟨_, X, G⟩ := T.at_; He.free_ok X G (T.says.fact 92 (f := .free "list") rfl)
theorem b_enumerate {K : PySem.W.Frag} {mg : Str → Option Value} (T : Tx K mg) : mg "enumerate" = none := let ⟨_, X, G⟩ := T.at_; He.free_ok X G (T.says.fact 93 (f := .free "enumerate") rfl)
theorem b_zip {K : PySem.W.Frag} {mg : Str → Option Value} (T : Tx K mg) : mg "zip" = none := let ⟨_, X, G⟩ := T.at_; He.free_ok X G (T.says.fact 94 (f := .free "zip") rfl)
theorem b_sorted {K : PySem.W.Frag} {mg : Str → Option Value} (T : Tx K mg) : mg "sorted" = none := let ⟨_, X, G⟩ := T.at_; He.free_ok X G (T.says.fact 95 (f := .free "sorted") rfl)
theorem b_set {K : PySem.W.Frag} {mg : Str → Option Value} (T : Tx K mg) : mg "set" = none := let ⟨_, X, G⟩ := T.at_; He.free_ok X G (T.says.fact 96 (f := .free "set") rfl)
theorem b_repr {K : PySem.W.Frag} {mg : Str → Option Value} (T : Tx K mg) : mg "repr" = none := let ⟨_, X, G⟩ := T.at_; He.free_ok X G (T.says.fact 97 (f := .free "repr") rfl)
theorem k_MOST_SIZE {K : PySem.W.Frag} {mg : Str → Option Value} (T : Tx K mg) : ∃ t, mg "MOST_SIZE" = some (.int (10 ^ 30) t) := let ⟨_, X, G⟩ := T.at_; He.int_ok X G (T.says.fact 98 (f := .int "MOST_SIZE" (10 ^ 30)) rfl)
theorem k_MOST_DEGREE {K : PySem.W.Frag} {mg : Str → Option Value} (T : Tx K mg) : ∃ t, mg "MOST_DEGREE" = some (.int (60) t) := let ⟨_, X, G⟩ := T.at_; He.int_ok X G (T.says.fact 99 (f := .int "MOST_DEGREE" (60)) rfl)
theorem k_MOST_ROOTS {K : PySem.W.Frag} {mg : Str → Option Value} (T : Tx K mg) : ∃ t, mg "MOST_ROOTS" = some (.int (5) t) := let ⟨_, X, G⟩ := T.at_; He.int_ok X G (T.says.fact 100 (f := .int "MOST_ROOTS" (5)) rfl)
theorem k_MOST_RAISED {K : PySem.W.Frag} {mg : Str → Option Value} (T : Tx K mg) : ∃ t, mg "MOST_RAISED" = some (.int (20) t) := let ⟨_, X, G⟩ := T.at_; He.int_ok X G (T.says.fact 101 (f := .int "MOST_RAISED" (20)) rfl)
theorem k_DIGITS {K : PySem.W.Frag} {mg : Str → Option Value} (T : Tx K mg) : ∃ t, mg "DIGITS" = some (.str "0123456789" t) := let ⟨_, X, G⟩ := T.at_; He.str_ok X G (T.says.fact 102 (f := .str "DIGITS" "0123456789") rfl)
theorem cl_Root {K : PySem.W.Frag} {mg : Str → Option Value} (T : Tx K mg) : Cls K (He.ga K "Root") := He.cls_ok (T.says.fact 103 (f := .cls "Root") rfl)
theorem mk_Root {K : PySem.W.Frag} {mg : Str → Option Value} (T : Tx K mg) : Mk K (He.ga K "Root") (He.ma K (He.ga K "Root") "__init__") := He.mkr_ok (T.says.fact 104 (f := .mkr "Root") rfl)
theorem cl_Places {K : PySem.W.Frag} {mg : Str → Option Value} (T : Tx K mg) : Cls K (He.ga K "Places") := He.cls_ok (T.says.fact 105 (f := .cls "Places") rfl)
theorem mk_Places {K : PySem.W.Frag} {mg : Str → Option Value} (T : Tx K mg) : Mk K (He.ga K "Places") (He.ma K (He.ga K "Places") "__init__") := He.mkr_ok (T.says.fact 106 (f := .mkr "Places") rfl)
theorem cl_Desk {K : PySem.W.Frag} {mg : Str → Option Value} (T : Tx K mg) : Cls K (He.ga K "Desk") := He.cls_ok (T.says.fact 107 (f := .cls "Desk") rfl)
theorem mk_Desk {K : PySem.W.Frag} {mg : Str → Option Value} (T : Tx K mg) : Mk K (He.ga K "Desk") (He.ma K (He.ga K "Desk") "__init__") := He.mkr_ok (T.says.fact 108 (f := .mkr "Desk") rfl)
theorem cl_Console {K : PySem.W.Frag} {mg : Str → Option Value} (T : Tx K mg) : Cls K (He.ga K "Console") := He.cls_ok (T.says.fact 109 (f := .cls "Console") rfl)
theorem mk_Console {K : PySem.W.Frag} {mg : Str → Option Value} (T : Tx K mg) : Mk K (He.ga K "Console") (He.ma K (He.ga K "Console") "__init__") := He.mkr_ok (T.says.fact 110 (f := .mkr "Console") rfl)
theorem na_Root_form {K : PySem.W.Frag} {mg : Str → Option Value} (T : Tx K mg) : NoAttr K (He.ga K "Root") "form" := He.noat_ok (T.says.fact 111 (f := .noat "Root" "form") rfl)
theorem na_Places_bases {K : PySem.W.Frag} {mg : Str → Option Value} (T : Tx K mg) : NoAttr K (He.ga K "Places") "bases" := He.noat_ok (T.says.fact 112 (f := .noat "Places" "bases") rfl)
theorem na_Places_whole {K : PySem.W.Frag} {mg : Str → Option Value} (T : Tx K mg) : NoAttr K (He.ga K "Places") "whole" := He.noat_ok (T.says.fact 113 (f := .noat "Places" "whole") rfl)
theorem na_Desk_state {K : PySem.W.Frag} {mg : Str → Option Value} (T : Tx K mg) : NoAttr K (He.ga K "Desk") "state" := He.noat_ok (T.says.fact 114 (f := .noat "Desk" "state") rfl)
theorem na_Desk_past {K : PySem.W.Frag} {mg : Str → Option Value} (T : Tx K mg) : NoAttr K (He.ga K "Desk") "past" := He.noat_ok (T.says.fact 115 (f := .noat "Desk" "past") rfl)
theorem na_Console_taken {K : PySem.W.Frag} {mg : Str → Option Value} (T : Tx K mg) : NoAttr K (He.ga K "Console") "taken" := He.noat_ok (T.says.fact 116 (f := .noat "Console" "taken") rfl)
theorem na_Console_desk {K : PySem.W.Frag} {mg : Str → Option Value} (T : Tx K mg) : NoAttr K (He.ga K "Console") "desk" := He.noat_ok (T.says.fact 117 (f := .noat "Console" "desk") rfl)
theorem me_Root_raised {K : PySem.W.Frag} {mg : Str → Option Value} (T : Tx K mg) : Meth K (He.ga K "Root") "raised" (He.ma K (He.ga K "Root") "raised") := He.meth_ok (T.says.fact 118 (f := .meth "Root" "raised") rfl)
theorem me_Root___str__ {K : PySem.W.Frag} {mg : Str → Option Value} (T : Tx K mg) : Meth K (He.ga K "Root") "__str__" (He.ma K (He.ga K "Root") "__str__") := He.meth_ok (T.says.fact 119 (f := .meth "Root" "__str__") rfl)
theorem me_Places_row {K : PySem.W.Frag} {mg : Str → Option Value} (T : Tx K mg) : Meth K (He.ga K "Places") "row" (He.ma K (He.ga K "Places") "row") := He.meth_ok (T.says.fact 120 (f := .meth "Places" "row") rfl)
theorem me_Places_field {K : PySem.W.Frag} {mg : Str → Option Value} (T : Tx K mg) : Meth K (He.ga K "Places") "field" (He.ma K (He.ga K "Places") "field") := He.meth_ok (T.says.fact 121 (f := .meth "Places" "field") rfl)
theorem me_Places_span {K : PySem.W.Frag} {mg : Str → Option Value} (T : Tx K mg) : Meth K (He.ga K "Places") "span" (He.ma K (He.ga K "Places") "span") := He.meth_ok (T.says.fact 122 (f := .meth "Places" "span") rfl)
theorem me_Places_with_row {K : PySem.W.Frag} {mg : Str → Option Value} (T : Tx K mg) : Meth K (He.ga K "Places") "with_row" (He.ma K (He.ga K "Places") "with_row") := He.meth_ok (T.says.fact 123 (f := .meth "Places" "with_row") rfl)
theorem me_Places_size {K : PySem.W.Frag} {mg : Str → Option Value} (T : Tx K mg) : Meth K (He.ga K "Places") "size" (He.ma K (He.ga K "Places") "size") := He.meth_ok (T.says.fact 124 (f := .meth "Places" "size") rfl)
theorem me_Desk_become {K : PySem.W.Frag} {mg : Str → Option Value} (T : Tx K mg) : Meth K (He.ga K "Desk") "become" (He.ma K (He.ga K "Desk") "become") := He.meth_ok (T.says.fact 125 (f := .meth "Desk" "become") rfl)
theorem me_Desk_check_index {K : PySem.W.Frag} {mg : Str → Option Value} (T : Tx K mg) : Meth K (He.ga K "Desk") "check_index" (He.ma K (He.ga K "Desk") "check_index") := He.meth_ok (T.says.fact 126 (f := .meth "Desk" "check_index") rfl)
theorem me_Desk_put {K : PySem.W.Frag} {mg : Str → Option Value} (T : Tx K mg) : Meth K (He.ga K "Desk") "put" (He.ma K (He.ga K "Desk") "put") := He.meth_ok (T.says.fact 127 (f := .meth "Desk" "put") rfl)
theorem me_Desk_drop {K : PySem.W.Frag} {mg : Str → Option Value} (T : Tx K mg) : Meth K (He.ga K "Desk") "drop" (He.ma K (He.ga K "Desk") "drop") := He.meth_ok (T.says.fact 128 (f := .meth "Desk" "drop") rfl)
theorem me_Desk_turn {K : PySem.W.Frag} {mg : Str → Option Value} (T : Tx K mg) : Meth K (He.ga K "Desk") "turn" (He.ma K (He.ga K "Desk") "turn") := He.meth_ok (T.says.fact 129 (f := .meth "Desk" "turn") rfl)
theorem me_Desk_undo {K : PySem.W.Frag} {mg : Str → Option Value} (T : Tx K mg) : Meth K (He.ga K "Desk") "undo" (He.ma K (He.ga K "Desk") "undo") := He.meth_ok (T.says.fact 130 (f := .meth "Desk" "undo") rfl)
theorem me_Console_put {K : PySem.W.Frag} {mg : Str → Option Value} (T : Tx K mg) : Meth K (He.ga K "Console") "put" (He.ma K (He.ga K "Console") "put") := He.meth_ok (T.says.fact 131 (f := .meth "Console" "put") rfl)
theorem me_Console_done {K : PySem.W.Frag} {mg : Str → Option Value} (T : Tx K mg) : Meth K (He.ga K "Console") "done" (He.ma K (He.ga K "Console") "done") := He.meth_ok (T.says.fact 132 (f := .meth "Console" "done") rfl)
theorem me_Console_plain {K : PySem.W.Frag} {mg : Str → Option Value} (T : Tx K mg) : Meth K (He.ga K "Console") "plain" (He.ma K (He.ga K "Console") "plain") := He.meth_ok (T.says.fact 133 (f := .meth "Console" "plain") rfl)
theorem me_Console_about {K : PySem.W.Frag} {mg : Str → Option Value} (T : Tx K mg) : Meth K (He.ga K "Console") "about" (He.ma K (He.ga K "Console") "about") := He.meth_ok (T.says.fact 134 (f := .meth "Console" "about") rfl)
theorem me_Console_asked {K : PySem.W.Frag} {mg : Str → Option Value} (T : Tx K mg) : Meth K (He.ga K "Console") "asked" (He.ma K (He.ga K "Console") "asked") := He.meth_ok (T.says.fact 135 (f := .meth "Console" "asked") rfl)
theorem me_Console_take {K : PySem.W.Frag} {mg : Str → Option Value} (T : Tx K mg) : Meth K (He.ga K "Console") "take" (He.ma K (He.ga K "Console") "take") := He.meth_ok (T.says.fact 136 (f := .meth "Console" "take") rfl)
theorem me_Console_answer {K : PySem.W.Frag} {mg : Str → Option Value} (T : Tx K mg) : Meth K (He.ga K "Console") "answer" (He.ma K (He.ga K "Console") "answer") := He.meth_ok (T.says.fact 137 (f := .meth "Console" "answer") rfl)
theorem me_Console_say {K : PySem.W.Frag} {mg : Str → Option Value} (T : Tx K mg) : Meth K (He.ga K "Console") "say" (He.ma K (He.ga K "Console") "say") := He.meth_ok (T.says.fact 138 (f := .meth "Console" "say") rfl)
theorem xm_InvalidNumber_InvalidNumber {K : PySem.W.Frag} {mg : Str → Option Value} (T : Tx K mg) : PySem.W.exmOne K (.ref (He.ga K "InvalidNumber")) (.ref (He.ga K "InvalidNumber")) = some true := He.exm_ok (T.says.fact 139 (f := .exm "InvalidNumber" "InvalidNumber" true) rfl)
theorem xm_InvalidNumber_InvalidDegree {K : PySem.W.Frag} {mg : Str → Option Value} (T : Tx K mg) : PySem.W.exmOne K (.ref (He.ga K "InvalidNumber")) (.ref (He.ga K "InvalidDegree")) = some false := He.exm_ok (T.says.fact 140 (f := .exm "InvalidNumber" "InvalidDegree" false) rfl)
theorem xm_InvalidNumber_InvalidIndex {K : PySem.W.Frag} {mg : Str → Option Value} (T : Tx K mg) : PySem.W.exmOne K (.ref (He.ga K "InvalidNumber")) (.ref (He.ga K "InvalidIndex")) = some false := He.exm_ok (T.says.fact 141 (f := .exm "InvalidNumber" "InvalidIndex" false) rfl)
theorem xm_InvalidNumber_TooGreat {K : PySem.W.Frag} {mg : Str → Option Value} (T : Tx K mg) : PySem.W.exmOne K (.ref (He.ga K "InvalidNumber")) (.ref (He.ga K "TooGreat")) = some false := He.exm_ok (T.says.fact 142 (f := .exm "InvalidNumber" "TooGreat" false) rfl)
theorem xm_InvalidNumber_NothingToUndo {K : PySem.W.Frag} {mg : Str → Option Value} (T : Tx K mg) : PySem.W.exmOne K (.ref (He.ga K "InvalidNumber")) (.ref (He.ga K "NothingToUndo")) = some false := He.exm_ok (T.says.fact 143 (f := .exm "InvalidNumber" "NothingToUndo" false) rfl)
theorem xm_InvalidDegree_InvalidNumber {K : PySem.W.Frag} {mg : Str → Option Value} (T : Tx K mg) : PySem.W.exmOne K (.ref (He.ga K "InvalidDegree")) (.ref (He.ga K "InvalidNumber")) = some false := He.exm_ok (T.says.fact 144 (f := .exm "InvalidDegree" "InvalidNumber" false) rfl)
theorem xm_InvalidDegree_InvalidDegree {K : PySem.W.Frag} {mg : Str → Option Value} (T : Tx K mg) : PySem.W.exmOne K (.ref (He.ga K "InvalidDegree")) (.ref (He.ga K "InvalidDegree")) = some true := He.exm_ok (T.says.fact 145 (f := .exm "InvalidDegree" "InvalidDegree" true) rfl)
theorem xm_InvalidDegree_InvalidIndex {K : PySem.W.Frag} {mg : Str → Option Value} (T : Tx K mg) : PySem.W.exmOne K (.ref (He.ga K "InvalidDegree")) (.ref (He.ga K "InvalidIndex")) = some false := He.exm_ok (T.says.fact 146 (f := .exm "InvalidDegree" "InvalidIndex" false) rfl)
theorem xm_InvalidDegree_TooGreat {K : PySem.W.Frag} {mg : Str → Option Value} (T : Tx K mg) : PySem.W.exmOne K (.ref (He.ga K "InvalidDegree")) (.ref (He.ga K "TooGreat")) = some false := He.exm_ok (T.says.fact 147 (f := .exm "InvalidDegree" "TooGreat" false) rfl)
theorem xm_InvalidDegree_NothingToUndo {K : PySem.W.Frag} {mg : Str → Option Value} (T : Tx K mg) : PySem.W.exmOne K (.ref (He.ga K "InvalidDegree")) (.ref (He.ga K "NothingToUndo")) = some false := He.exm_ok (T.says.fact 148 (f := .exm "InvalidDegree" "NothingToUndo" false) rfl)
theorem xm_InvalidIndex_InvalidNumber {K : PySem.W.Frag} {mg : Str → Option Value} (T : Tx K mg) : PySem.W.exmOne K (.ref (He.ga K "InvalidIndex")) (.ref (He.ga K "InvalidNumber")) = some false := He.exm_ok (T.says.fact 149 (f := .exm "InvalidIndex" "InvalidNumber" false) rfl)
theorem xm_InvalidIndex_InvalidDegree {K : PySem.W.Frag} {mg : Str → Option Value} (T : Tx K mg) : PySem.W.exmOne K (.ref (He.ga K "InvalidIndex")) (.ref (He.ga K "InvalidDegree")) = some false := He.exm_ok (T.says.fact 150 (f := .exm "InvalidIndex" "InvalidDegree" false) rfl)
theorem xm_InvalidIndex_InvalidIndex {K : PySem.W.Frag} {mg : Str → Option Value} (T : Tx K mg) : PySem.W.exmOne K (.ref (He.ga K "InvalidIndex")) (.ref (He.ga K "InvalidIndex")) = some true := He.exm_ok (T.says.fact 151 (f := .exm "InvalidIndex" "InvalidIndex" true) rfl)
theorem xm_InvalidIndex_TooGreat {K : PySem.W.Frag} {mg : Str → Option Value} (T : Tx K mg) : PySem.W.exmOne K (.ref (He.ga K "InvalidIndex")) (.ref (He.ga K "TooGreat")) = some false := He.exm_ok (T.says.fact 152 (f := .exm "InvalidIndex" "TooGreat" false) rfl)
theorem xm_InvalidIndex_NothingToUndo {K : PySem.W.Frag} {mg : Str → Option Value} (T : Tx K mg) : PySem.W.exmOne K (.ref (He.ga K "InvalidIndex")) (.ref (He.ga K "NothingToUndo")) = some false := He.exm_ok (T.says.fact 153 (f := .exm "InvalidIndex" "NothingToUndo" false) rfl)
theorem xm_TooGreat_InvalidNumber {K : PySem.W.Frag} {mg : Str → Option Value} (T : Tx K mg) : PySem.W.exmOne K (.ref (He.ga K "TooGreat")) (.ref (He.ga K "InvalidNumber")) = some false := He.exm_ok (T.says.fact 154 (f := .exm "TooGreat" "InvalidNumber" false) rfl)
theorem xm_TooGreat_InvalidDegree {K : PySem.W.Frag} {mg : Str → Option Value} (T : Tx K mg) : PySem.W.exmOne K (.ref (He.ga K "TooGreat")) (.ref (He.ga K "InvalidDegree")) = some false := He.exm_ok (T.says.fact 155 (f := .exm "TooGreat" "InvalidDegree" false) rfl)
theorem xm_TooGreat_InvalidIndex {K : PySem.W.Frag} {mg : Str → Option Value} (T : Tx K mg) : PySem.W.exmOne K (.ref (He.ga K "TooGreat")) (.ref (He.ga K "InvalidIndex")) = some false := He.exm_ok (T.says.fact 156 (f := .exm "TooGreat" "InvalidIndex" false) rfl)
theorem xm_TooGreat_TooGreat {K : PySem.W.Frag} {mg : Str → Option Value} (T : Tx K mg) : PySem.W.exmOne K (.ref (He.ga K "TooGreat")) (.ref (He.ga K "TooGreat")) = some true := He.exm_ok (T.says.fact 157 (f := .exm "TooGreat" "TooGreat" true) rfl)
theorem xm_TooGreat_NothingToUndo {K : PySem.W.Frag} {mg : Str → Option Value} (T : Tx K mg) : PySem.W.exmOne K (.ref (He.ga K "TooGreat")) (.ref (He.ga K "NothingToUndo")) = some false := He.exm_ok (T.says.fact 158 (f := .exm "TooGreat" "NothingToUndo" false) rfl)
theorem xm_NothingToUndo_InvalidNumber {K : PySem.W.Frag} {mg : Str → Option Value} (T : Tx K mg) : PySem.W.exmOne K (.ref (He.ga K "NothingToUndo")) (.ref (He.ga K "InvalidNumber")) = some false := He.exm_ok (T.says.fact 159 (f := .exm "NothingToUndo" "InvalidNumber" false) rfl)
theorem xm_NothingToUndo_InvalidDegree {K : PySem.W.Frag} {mg : Str → Option Value} (T : Tx K mg) : PySem.W.exmOne K (.ref (He.ga K "NothingToUndo")) (.ref (He.ga K "InvalidDegree")) = some false := He.exm_ok (T.says.fact 160 (f := .exm "NothingToUndo" "InvalidDegree" false) rfl)
theorem xm_NothingToUndo_InvalidIndex {K : PySem.W.Frag} {mg : Str → Option Value} (T : Tx K mg) : PySem.W.exmOne K (.ref (He.ga K "NothingToUndo")) (.ref (He.ga K "InvalidIndex")) = some false := He.exm_ok (T.says.fact 161 (f := .exm "NothingToUndo" "InvalidIndex" false) rfl)
theorem xm_NothingToUndo_TooGreat {K : PySem.W.Frag} {mg : Str → Option Value} (T : Tx K mg) : PySem.W.exmOne K (.ref (He.ga K "NothingToUndo")) (.ref (He.ga K "TooGreat")) = some false := He.exm_ok (T.says.fact 162 (f := .exm "NothingToUndo" "TooGreat" false) rfl)
theorem xm_NothingToUndo_NothingToUndo {K : PySem.W.Frag} {mg : Str → Option Value} (T : Tx K mg) : PySem.W.exmOne K (.ref (He.ga K "NothingToUndo")) (.ref (He.ga K "NothingToUndo")) = some true := He.exm_ok (T.says.fact 163 (f := .exm "NothingToUndo" "NothingToUndo" true) rfl)
theorem F_InvalidNumber_init {K : PySem.W.Frag} {mg : Str → Option Value} (T : Tx K mg) : FnP K "__init__" "InvalidNumber.__init__" s_InvalidNumber_init (He.ma K (He.ga K "InvalidNumber") "__init__") := T.says.def_ 0 (d := d_InvalidNumber_init) rfl
theorem bd_InvalidNumber_init : BindTo s_InvalidNumber_init "__init__" "InvalidNumber.__init__" ["self", "given"] := bind2 rfl
theorem F_InvalidDegree_init {K : PySem.W.Frag} {mg : Str → Option Value} (T : Tx K mg) : FnP K "__init__" "InvalidDegree.__init__" s_InvalidDegree_init (He.ma K (He.ga K "InvalidDegree") "__init__") := T.says.def_ 1 (d := d_InvalidDegree_init) rfl
theorem bd_InvalidDegree_init : BindTo s_InvalidDegree_init "__init__" "InvalidDegree.__init__" ["self", "given"] := bind2 rfl
theorem F_InvalidIndex_init {K : PySem.W.Frag} {mg : Str → Option Value} (T : Tx K mg) : FnP K "__init__" "InvalidIndex.__init__" s_InvalidIndex_init (He.ma K (He.ga K "InvalidIndex") "__init__") := T.says.def_ 2 (d := d_InvalidIndex_init) rfl
theorem bd_InvalidIndex_init : BindTo s_InvalidIndex_init "__init__" "InvalidIndex.__init__" ["self", "given"] := bind2 rfl
theorem F_TooGreat_init {K : PySem.W.Frag} {mg : Str → Option Value} (T : Tx K mg) : FnP K "__init__" "TooGreat.__init__" s_TooGreat_init (He.ma K (He.ga K "TooGreat") "__init__") := T.says.def_ 3 (d := d_TooGreat_init) rfl
theorem bd_TooGreat_init : BindTo s_TooGreat_init "__init__" "TooGreat.__init__" ["self", "given"] := bind2 rfl
theorem F_is_integer {K : PySem.W.Frag} {mg : Str → Option Value} (T : Tx K mg) : FnP K "is_integer" "is_integer" s_is_integer (He.ga K "is_integer") := T.says.def_ 4 (d := d_is_integer) rfl
theorem bd_is_integer : BindTo s_is_integer "is_integer" "is_integer" ["value"] := bind1 rfl
theorem F_is_between {K : PySem.W.Frag} {mg : Str → Option Value} (T : Tx K mg) : FnP K "is_between" "is_between" s_is_between (He.ga K "is_between") := T.says.def_ 5 (d := d_is_between) rfl
theorem bd_is_between : BindTo s_is_between "is_between" "is_between" ["value", "low", "high"] := bind3 rfl
theorem F_number_in {K : PySem.W.Frag} {mg : Str → Option Value} (T : Tx K mg) : FnP K "number_in" "number_in" s_number_in (He.ga K "number_in_kinds") := T.says.def_ 6 (d := d_number_in) rfl
theorem bd_number_in : BindTo s_number_in "number_in" "number_in" ["text"] := bind1 rfl
theorem F_integer_in {K : PySem.W.Frag} {mg : Str → Option Value} (T : Tx K mg) : FnP K "integer_in" "integer_in" s_integer_in (He.ga K "integer_in") := T.says.def_ 7 (d := d_integer_in) rfl
theorem bd_integer_in : BindTo s_integer_in "integer_in" "integer_in" ["word"] := bind1 rfl
theorem F_power_of {K : PySem.W.Frag} {mg : Str → Option Value} (T : Tx K mg) : FnP K "power_of" "power_of" s_power_of (He.ga K "power_of") := T.says.def_ 8 (d := d_power_of) rfl
theorem bd_power_of : BindTo s_power_of "power_of" "power_of" ["base", "many"] := bind2 rfl
theorem F_common_divisor {K : PySem.W.Frag} {mg : Str → Option Value} (T : Tx K mg) : FnP K "common_divisor" "common_divisor" s_common_divisor (He.ga K "common_divisor") := T.says.def_ 9 (d := d_common_divisor) rfl
theorem bd_common_divisor : BindTo s_common_divisor "common_divisor" "common_divisor" ["one", "other"] := bind2 rfl
theorem F_floor_root {K : PySem.W.Frag} {mg : Str → Option Value} (T : Tx K mg) : FnP K "floor_root" "floor_root" s_floor_root (He.ga K "floor_root") := T.says.def_ 10 (d := d_floor_root) rfl
theorem bd_floor_root : BindTo s_floor_root "floor_root" "floor_root" ["value", "power"] := bind2 rfl
theorem F_is_power {K : PySem.W.Frag} {mg : Str → Option Value} (T : Tx K mg) : FnP K "is_power" "is_power" s_is_power (He.ga K "is_power") := T.says.def_ 11 (d := d_is_power) rfl
theorem bd_is_power : BindTo s_is_power "is_power" "is_power" ["value", "power"] := bind2 rfl
theorem F_prime_divisors {K : PySem.W.Frag} {mg : Str → Option Value} (T : Tx K mg) : FnP K "prime_divisors" "prime_divisors" s_prime_divisors (He.ga K "prime_divisors") := T.says.def_ 12 (d := d_prime_divisors) rfl
theorem bd_prime_divisors : BindTo s_prime_divisors "prime_divisors" "prime_divisors" ["value"] := bind1 rfl
theorem F_is_number {K : PySem.W.Frag} {mg : Str → Option Value} (T : Tx K mg) : FnP K "is_number" "is_number" s_is_number (He.ga K "is_number") := T.says.def_ 13 (d := d_is_number) rfl
theorem bd_is_number : BindTo s_is_number "is_number" "is_number" ["value"] := bind1 rfl
theorem F_check_number {K : PySem.W.Frag} {mg : Str → Option Value} (T : Tx K mg) : FnP K "check_number" "check_number" s_check_number (He.ga K "check_number") := T.says.def_ 14 (d := d_check_number) rfl
theorem bd_check_number : BindTo s_check_number "check_number" "check_number" ["value"] := bind1 rfl
theorem F_lowest {K : PySem.W.Frag} {mg : Str → Option Value} (T : Tx K mg) : FnP K "lowest" "lowest" s_lowest (He.ga K "lowest") := T.says.def_ 16 (d := d_lowest) rfl
theorem bd_lowest : BindTo s_lowest "lowest" "lowest" ["top", "bottom"] := bind2 rfl
theorem F_text_of {K : PySem.W.Frag} {mg : Str → Option Value} (T : Tx K mg) : FnP K "text_of" "text_of" s_text_of (He.ga K "text_of") := T.says.def_ 17 (d := d_text_of) rfl
theorem bd_text_of : BindTo s_text_of "text_of" "text_of" ["number"] := bind1 rfl
theorem F_number_in2 {K : PySem.W.Frag} {mg : Str → Option Value} (T : Tx K mg) : FnP K "number_in" "number_in" s_number_in2 (He.ga K "number_in_numbers") := T.says.def_ 18 (d := d_number_in2) rfl
theorem bd_number_in2 : BindTo s_number_in2 "number_in" "number_in" ["text"] := bind1 rfl
theorem F_raised {K : PySem.W.Frag} {mg : Str → Option Value} (T : Tx K mg) : FnP K "raised" "raised" s_raised (He.ga K "raised") := T.says.def_ 19 (d := d_raised) rfl
theorem bd_raised : BindTo s_raised "raised" "raised" ["number", "power"] := bind2 rfl
theorem F_whole_root {K : PySem.W.Frag} {mg : Str → Option Value} (T : Tx K mg) : FnP K "whole_root" "whole_root" s_whole_root (He.ga K "whole_root") := T.says.def_ 20 (d := d_whole_root) rfl
theorem bd_whole_root : BindTo s_whole_root "whole_root" "whole_root" ["value", "power"] := bind2 rfl
theorem F_base_and_exponent {K : PySem.W.Frag} {mg : Str → Option Value} (T : Tx K mg) : FnP K "base_and_exponent" "base_and_exponent" s_base_and_exponent (He.ga K "base_and_exponent") := T.says.def_ 21 (d := d_base_and_exponent) rfl
theorem bd_base_and_exponent : BindTo s_base_and_exponent "base_and_exponent" "base_and_exponent" ["top", "bottom"] := bind2 rfl
theorem F_base_for {K : PySem.W.Frag} {mg : Str → Option Value} (T : Tx K mg) : FnP K "base_for" "base_for" s_base_for (He.ga K "base_for") := T.says.def_ 22 (d := d_base_for) rfl
theorem bd_base_for : BindTo s_base_for "base_for" "base_for" ["number"] := bind1 rfl
theorem F_root_for {K : PySem.W.Frag} {mg : Str → Option Value} (T : Tx K mg) : FnP K "root_for" "root_for" s_root_for (He.ga K "root_for") := T.says.def_ 23 (d := d_root_for) rfl
theorem bd_root_for : BindTo s_root_for "root_for" "root_for" ["number", "n"] := bind2 rfl
theorem F_four_for {K : PySem.W.Frag} {mg : Str → Option Value} (T : Tx K mg) : FnP K "four_for" "four_for" s_four_for (He.ga K "four_for") := T.says.def_ 24 (d := d_four_for) rfl
theorem bd_four_for : BindTo s_four_for "four_for" "four_for" ["number"] := bind1 rfl
theorem F_odd_part {K : PySem.W.Frag} {mg : Str → Option Value} (T : Tx K mg) : FnP K "odd_part" "odd_part" s_odd_part (He.ga K "odd_part") := T.says.def_ 25 (d := d_odd_part) rfl
theorem bd_odd_part : BindTo s_odd_part "odd_part" "odd_part" ["value"] := bind1 rfl
theorem F_shared {K : PySem.W.Frag} {mg : Str → Option Value} (T : Tx K mg) : FnP K "shared" "shared" s_shared (He.ga K "shared") := T.says.def_ 26 (d := d_shared) rfl
theorem bd_shared : BindTo s_shared "shared" "shared" ["number", "n"] := bind2 rfl
theorem F_is_split_by_four {K : PySem.W.Frag} {mg : Str → Option Value} (T : Tx K mg) : FnP K "is_split_by_four" "is_split_by_four" s_is_split_by_four (He.ga K "is_split_by_four") := T.says.def_ 27 (d := d_is_split_by_four) rfl
theorem bd_is_split_by_four : BindTo s_is_split_by_four "is_split_by_four" "is_split_by_four" ["number", "n"] := bind2 rfl
theorem F_does_split {K : PySem.W.Frag} {mg : Str → Option Value} (T : Tx K mg) : FnP K "does_split" "does_split" s_does_split (He.ga K "does_split") := T.says.def_ 28 (d := d_does_split) rfl
theorem bd_does_split : BindTo s_does_split "does_split" "does_split" ["number", "n"] := bind2 rfl
theorem F_is_always {K : PySem.W.Frag} {mg : Str → Option Value} (T : Tx K mg) : FnP K "is_always" "is_always" s_is_always (He.ga K "is_always") := T.says.def_ 29 (d := d_is_always) rfl
theorem bd_is_always : BindTo s_is_always "is_always" "is_always" ["number"] := bind1 rfl
theorem F_splits {K : PySem.W.Frag} {mg : Str → Option Value} (T : Tx K mg) : FnP K "splits" "splits" s_splits (He.ga K "splits") := T.says.def_ 30 (d := d_splits) rfl
theorem bd_splits : BindTo s_splits "splits" "splits" ["number", "n"] := bind2 rfl
theorem F_is_always_whole {K : PySem.W.Frag} {mg : Str → Option Value} (T : Tx K mg) : FnP K "is_always_whole" "is_always_whole" s_is_always_whole (He.ga K "is_always_whole") := T.says.def_ 31 (d := d_is_always_whole) rfl
theorem bd_is_always_whole : BindTo s_is_always_whole "is_always_whole" "is_always_whole" ["number"] := bind1 rfl
theorem F_is_one {K : PySem.W.Frag} {mg : Str → Option Value} (T : Tx K mg) : FnP K "is_one" "is_one" s_is_one (He.ga K "is_one") := T.says.def_ 32 (d := d_is_one) rfl
theorem bd_is_one : BindTo s_is_one "is_one" "is_one" ["number"] := bind1 rfl
theorem F_steps_for {K : PySem.W.Frag} {mg : Str → Option Value} (T : Tx K mg) : FnP K "steps_for" "steps_for" s_steps_for (He.ga K "steps_for") := T.says.def_ 33 (d := d_steps_for) rfl
theorem bd_steps_for : BindTo s_steps_for "steps_for" "steps_for" ["number"] := bind1 rfl
theorem F_powers_up_to {K : PySem.W.Frag} {mg : Str → Option Value} (T : Tx K mg) : FnP K "powers_up_to" "powers_up_to" s_powers_up_to (He.ga K "powers_up_to") := T.says.def_ 34 (d := d_powers_up_to) rfl
theorem bd_powers_up_to : BindTo s_powers_up_to "powers_up_to" "powers_up_to" ["many"] := bind1 rfl
theorem F_next_for {K : PySem.W.Frag} {mg : Str → Option Value} (T : Tx K mg) : FnP K "next_for" "next_for" s_next_for (He.ga K "next_for") := T.says.def_ 35 (d := d_next_for) rfl
theorem bd_next_for : BindTo s_next_for "next_for" "next_for" ["number", "n"] := bind2 rfl
theorem F_next_split {K : PySem.W.Frag} {mg : Str → Option Value} (T : Tx K mg) : FnP K "next_split" "next_split" s_next_split (He.ga K "next_split") := T.says.def_ 36 (d := d_next_split) rfl
theorem bd_next_split : BindTo s_next_split "next_split" "next_split" ["number", "n"] := bind2 rfl
theorem F_is_taken {K : PySem.W.Frag} {mg : Str → Option Value} (T : Tx K mg) : FnP K "is_taken" "is_taken" s_is_taken (He.ga K "is_taken") := T.says.def_ 37 (d := d_is_taken) rfl
theorem bd_is_taken : BindTo s_is_taken "is_taken" "is_taken" ["number", "power"] := bind2 rfl
theorem F_least_form {K : PySem.W.Frag} {mg : Str → Option Value} (T : Tx K mg) : FnP K "least_form" "least_form" s_least_form (He.ga K "least_form") := T.says.def_ 38 (d := d_least_form) rfl
theorem bd_least_form : BindTo s_least_form "least_form" "least_form" ["number", "n"] := bind2 rfl
theorem F_taken {K : PySem.W.Frag} {mg : Str → Option Value} (T : Tx K mg) : FnP K "taken" "taken" s_taken (He.ga K "taken") := T.says.def_ 39 (d := d_taken) rfl
theorem bd_taken : BindTo s_taken "taken" "taken" ["number", "power"] := bind2 rfl
theorem F_Root_init {K : PySem.W.Frag} {mg : Str → Option Value} (T : Tx K mg) : FnP K "__init__" "Root.__init__" s_Root_init (He.ma K (He.ga K "Root") "__init__") := T.says.def_ 40 (d := d_Root_init) rfl
theorem bd_Root_init : BindTo s_Root_init "__init__" "Root.__init__" ["self", "number", "n"] := bind3 rfl
theorem F_Root_number {K : PySem.W.Frag} {mg : Str → Option Value} (T : Tx K mg) : FnP K "number" "Root.number" s_Root_number (He5.wf K (He.ga K "Root") "property" "number") := T.says.def_ 41 (d := d_Root_number) rfl
theorem bd_Root_number : BindTo s_Root_number "number" "Root.number" ["self"] := bind1 rfl
theorem F_Root_degree {K : PySem.W.Frag} {mg : Str → Option Value} (T : Tx K mg) : FnP K "degree" "Root.degree" s_Root_degree (He5.wf K (He.ga K "Root") "property" "degree") := T.says.def_ 42 (d := d_Root_degree) rfl
theorem bd_Root_degree : BindTo s_Root_degree "degree" "Root.degree" ["self"] := bind1 rfl
theorem F_Root_raised {K : PySem.W.Frag} {mg : Str → Option Value} (T : Tx K mg) : FnP K "raised" "Root.raised" s_Root_raised (He.ma K (He.ga K "Root") "raised") := T.says.def_ 43 (d := d_Root_raised) rfl
theorem bd_Root_raised : BindTo s_Root_raised "raised" "Root.raised" ["self", "many"] := bind2 rfl
theorem F_Root_str {K : PySem.W.Frag} {mg : Str → Option Value} (T : Tx K mg) : FnP K "__str__" "Root.__str__" s_Root_str (He.ma K (He.ga K "Root") "__str__") := T.says.def_ 44 (d := d_Root_str) rfl
theorem bd_Root_str : BindTo s_Root_str "__str__" "Root.__str__" ["self"] := bind1 rfl
theorem F_bounded_root {K : PySem.W.Frag} {mg : Str → Option Value} (T : Tx K mg) : FnP K "bounded_root" "bounded_root" s_bounded_root (He.ga K "bounded_root") := T.says.def_ 45 (d := d_bounded_root) rfl
theorem bd_bounded_root : BindTo s_bounded_root "bounded_root" "bounded_root" ["number", "degree"] := bind2 rfl
theorem F_refined {K : PySem.W.Frag} {mg : Str → Option Value} (T : Tx K mg) : FnP K "refined" "refined" s_refined (He.ga K "refined") := T.says.def_ 46 (d := d_refined) rfl
theorem bd_refined : BindTo s_refined "refined" "refined" ["values"] := bind1 rfl
theorem F_unpowered {K : PySem.W.Frag} {mg : Str → Option Value} (T : Tx K mg) : FnP K "unpowered" "unpowered" s_unpowered (He.ga K "unpowered") := T.says.def_ 47 (d := d_unpowered) rfl
theorem bd_unpowered : BindTo s_unpowered "unpowered" "unpowered" ["value"] := bind1 rfl
theorem F_common_bases {K : PySem.W.Frag} {mg : Str → Option Value} (T : Tx K mg) : FnP K "common_bases" "common_bases" s_common_bases (He.ga K "common_bases") := T.says.def_ 48 (d := d_common_bases) rfl
theorem bd_common_bases : BindTo s_common_bases "common_bases" "common_bases" ["roots"] := bind1 rfl
theorem F_times_in {K : PySem.W.Frag} {mg : Str → Option Value} (T : Tx K mg) : FnP K "times_in" "times_in" s_times_in (He.ga K "times_in") := T.says.def_ 49 (d := d_times_in) rfl
theorem bd_times_in : BindTo s_times_in "times_in" "times_in" ["value", "base"] := bind2 rfl
theorem F_powers_in {K : PySem.W.Frag} {mg : Str → Option Value} (T : Tx K mg) : FnP K "powers_in" "powers_in" s_powers_in (He.ga K "powers_in") := T.says.def_ 50 (d := d_powers_in) rfl
theorem bd_powers_in : BindTo s_powers_in "powers_in" "powers_in" ["number", "bases"] := bind2 rfl
theorem F_check_roots {K : PySem.W.Frag} {mg : Str → Option Value} (T : Tx K mg) : FnP K "check_roots" "check_roots" s_check_roots (He.ga K "check_roots") := T.says.def_ 51 (d := d_check_roots) rfl
theorem bd_check_roots : BindTo s_check_roots "check_roots" "check_roots" ["value"] := bind1 rfl
theorem F_common_degree {K : PySem.W.Frag} {mg : Str → Option Value} (T : Tx K mg) : FnP K "common_degree" "common_degree" s_common_degree (He.ga K "common_degree") := T.says.def_ 52 (d := d_common_degree) rfl
theorem bd_common_degree : BindTo s_common_degree "common_degree" "common_degree" ["roots"] := bind1 rfl
theorem F_Places_init {K : PySem.W.Frag} {mg : Str → Option Value} (T : Tx K mg) : FnP K "__init__" "Places.__init__" s_Places_init (He.ma K (He.ga K "Places") "__init__") := T.says.def_ 53 (d := d_Places_init) rfl
theorem bd_Places_init : BindTo s_Places_init "__init__" "Places.__init__" ["self", "roots"] := bind2 rfl
theorem F_Places_row {K : PySem.W.Frag} {mg : Str → Option Value} (T : Tx K mg) : FnP K "row" "Places.row" s_Places_row (He.ma K (He.ga K "Places") "row") := T.says.def_ 54 (d := d_Places_row) rfl
theorem bd_Places_row : BindTo s_Places_row "row" "Places.row" ["self", "root"] := bind2 rfl
theorem F_Places_field {K : PySem.W.Frag} {mg : Str → Option Value} (T : Tx K mg) : FnP K "field" "Places.field" s_Places_field (He.ma K (He.ga K "Places") "field") := T.says.def_ 55 (d := d_Places_field) rfl
theorem bd_Places_field : BindTo s_Places_field "field" "Places.field" ["self", "roots"] := bind2 rfl
theorem F_Places_span {K : PySem.W.Frag} {mg : Str → Option Value} (T : Tx K mg) : FnP K "span" "Places.span" s_Places_span (He.ma K (He.ga K "Places") "span") := T.says.def_ 56 (d := d_Places_span) rfl
theorem bd_Places_span : BindTo s_Places_span "span" "Places.span" ["self"] := bind1 rfl
theorem F_Places_with_row {K : PySem.W.Frag} {mg : Str → Option Value} (T : Tx K mg) : FnP K "with_row" "Places.with_row" s_Places_with_row (He.ma K (He.ga K "Places") "with_row") := T.says.def_ 57 (d := d_Places_with_row) rfl
theorem bd_Places_with_row : BindTo s_Places_with_row "with_row" "Places.with_row" ["self", "rows", "row"] := bind3 rfl
theorem F_Places_size {K : PySem.W.Frag} {mg : Str → Option Value} (T : Tx K mg) : FnP K "size" "Places.size" s_Places_size (He.ma K (He.ga K "Places") "size") := T.says.def_ 58 (d := d_Places_size) rfl
theorem bd_Places_size : BindTo s_Places_size "size" "Places.size" ["self", "rows"] := bind2 rfl
theorem F_degree_for {K : PySem.W.Frag} {mg : Str → Option Value} (T : Tx K mg) : FnP K "degree_for" "degree_for" s_degree_for (He.ga K "degree_for") := T.says.def_ 59 (d := d_degree_for) rfl
theorem bd_degree_for : BindTo s_degree_for "degree_for" "degree_for" ["roots"] := bind1 rfl
theorem F_degree_of {K : PySem.W.Frag} {mg : Str → Option Value} (T : Tx K mg) : FnP K "degree_of" "degree_of" s_degree_of (He.ga K "degree_of") := T.says.def_ 60 (d := d_degree_of) rfl
theorem bd_degree_of : BindTo s_degree_of "degree_of" "degree_of" ["roots"] := bind1 rfl
theorem F_Desk_init {K : PySem.W.Frag} {mg : Str → Option Value} (T : Tx K mg) : FnP K "__init__" "Desk.__init__" s_Desk_init (He.ma K (He.ga K "Desk") "__init__") := T.says.def_ 61 (d := d_Desk_init) rfl
theorem bd_Desk_init : BindTo s_Desk_init "__init__" "Desk.__init__" ["self"] := bind1 rfl
theorem F_Desk_roots {K : PySem.W.Frag} {mg : Str → Option Value} (T : Tx K mg) : FnP K "roots" "Desk.roots" s_Desk_roots (He5.wf K (He.ga K "Desk") "property" "roots") := T.says.def_ 62 (d := d_Desk_roots) rfl
theorem bd_Desk_roots : BindTo s_Desk_roots "roots" "Desk.roots" ["self"] := bind1 rfl
theorem F_Desk_degree {K : PySem.W.Frag} {mg : Str → Option Value} (T : Tx K mg) : FnP K "degree" "Desk.degree" s_Desk_degree (He5.wf K (He.ga K "Desk") "property" "degree") := T.says.def_ 63 (d := d_Desk_degree) rfl
theorem bd_Desk_degree : BindTo s_Desk_degree "degree" "Desk.degree" ["self"] := bind1 rfl
theorem F_Desk_become {K : PySem.W.Frag} {mg : Str → Option Value} (T : Tx K mg) : FnP K "become" "Desk.become" s_Desk_become (He.ma K (He.ga K "Desk") "become") := T.says.def_ 64 (d := d_Desk_become) rfl
theorem bd_Desk_become : BindTo s_Desk_become "become" "Desk.become" ["self", "roots"] := bind2 rfl
theorem F_Desk_check_index {K : PySem.W.Frag} {mg : Str → Option Value} (T : Tx K mg) : FnP K "check_index" "Desk.check_index" s_Desk_check_index (He.ma K (He.ga K "Desk") "check_index") := T.says.def_ 65 (d := d_Desk_check_index) rfl
theorem bd_Desk_check_index : BindTo s_Desk_check_index "check_index" "Desk.check_index" ["self", "index"] := bind2 rfl
theorem F_Desk_put {K : PySem.W.Frag} {mg : Str → Option Value} (T : Tx K mg) : FnP K "put" "Desk.put" s_Desk_put (He.ma K (He.ga K "Desk") "put") := T.says.def_ 66 (d := d_Desk_put) rfl
theorem bd_Desk_put : BindTo s_Desk_put "put" "Desk.put" ["self", "root"] := bind2 rfl
theorem F_Desk_drop {K : PySem.W.Frag} {mg : Str → Option Value} (T : Tx K mg) : FnP K "drop" "Desk.drop" s_Desk_drop (He.ma K (He.ga K "Desk") "drop") := T.says.def_ 67 (d := d_Desk_drop) rfl
theorem bd_Desk_drop : BindTo s_Desk_drop "drop" "Desk.drop" ["self", "index"] := bind2 rfl
theorem F_Desk_turn {K : PySem.W.Frag} {mg : Str → Option Value} (T : Tx K mg) : FnP K "turn" "Desk.turn" s_Desk_turn (He.ma K (He.ga K "Desk") "turn") := T.says.def_ 68 (d := d_Desk_turn) rfl
theorem bd_Desk_turn : BindTo s_Desk_turn "turn" "Desk.turn" ["self", "index", "many"] := bind3 rfl
theorem F_Desk_undo {K : PySem.W.Frag} {mg : Str → Option Value} (T : Tx K mg) : FnP K "undo" "Desk.undo" s_Desk_undo (He.ma K (He.ga K "Desk") "undo") := T.says.def_ 69 (d := d_Desk_undo) rfl
theorem bd_Desk_undo : BindTo s_Desk_undo "undo" "Desk.undo" ["self"] := bind1 rfl
theorem F_Console_init {K : PySem.W.Frag} {mg : Str → Option Value} (T : Tx K mg) : FnP K "__init__" "Console.__init__" s_Console_init (He.ma K (He.ga K "Console") "__init__") := T.says.def_ 70 (d := d_Console_init) rfl
theorem bd_Console_init : BindTo s_Console_init "__init__" "Console.__init__" ["self"] := bind1 rfl
theorem F_Console_put {K : PySem.W.Frag} {mg : Str → Option Value} (T : Tx K mg) : FnP K "put" "Console.put" s_Console_put (He.ma K (He.ga K "Console") "put") := T.says.def_ 71 (d := d_Console_put) rfl
theorem bd_Console_put : BindTo s_Console_put "put" "Console.put" ["self", "n"] := bind2 rfl
theorem F_Console_done {K : PySem.W.Frag} {mg : Str → Option Value} (T : Tx K mg) : FnP K "done" "Console.done" s_Console_done (He.ma K (He.ga K "Console") "done") := T.says.def_ 72 (d := d_Console_done) rfl
theorem bd_Console_done : BindTo s_Console_done "done" "Console.done" ["self", "act"] := bind2 rfl
theorem F_Console_plain {K : PySem.W.Frag} {mg : Str → Option Value} (T : Tx K mg) : FnP K "plain" "Console.plain" s_Console_plain (He.ma K (He.ga K "Console") "plain") := T.says.def_ 73 (d := d_Console_plain) rfl
theorem bd_Console_plain : BindTo s_Console_plain "plain" "Console.plain" ["self", "line"] := bind2 rfl
theorem F_Console_about {K : PySem.W.Frag} {mg : Str → Option Value} (T : Tx K mg) : FnP K "about" "Console.about" s_Console_about (He.ma K (He.ga K "Console") "about") := T.says.def_ 74 (d := d_Console_about) rfl
theorem bd_Console_about : BindTo s_Console_about "about" "Console.about" ["self", "word", "n"] := bind3 rfl
theorem F_Console_asked {K : PySem.W.Frag} {mg : Str → Option Value} (T : Tx K mg) : FnP K "asked" "Console.asked" s_Console_asked (He.ma K (He.ga K "Console") "asked") := T.says.def_ 75 (d := d_Console_asked) rfl
theorem bd_Console_asked : BindTo s_Console_asked "asked" "Console.asked" ["self", "word", "n"] := bind3 rfl
theorem F_Console_take {K : PySem.W.Frag} {mg : Str → Option Value} (T : Tx K mg) : FnP K "take" "Console.take" s_Console_take (He.ma K (He.ga K "Console") "take") := T.says.def_ 76 (d := d_Console_take) rfl
theorem bd_Console_take : BindTo s_Console_take "take" "Console.take" ["self", "word"] := bind2 rfl
theorem F_Console_answer {K : PySem.W.Frag} {mg : Str → Option Value} (T : Tx K mg) : FnP K "answer" "Console.answer" s_Console_answer (He.ma K (He.ga K "Console") "answer") := T.says.def_ 77 (d := d_Console_answer) rfl
theorem bd_Console_answer : BindTo s_Console_answer "answer" "Console.answer" ["self", "line"] := bind2 rfl
theorem F_Console_say {K : PySem.W.Frag} {mg : Str → Option Value} (T : Tx K mg) : FnP K "say" "Console.say" s_Console_say (He.ma K (He.ga K "Console") "say") := T.says.def_ 78 (d := d_Console_say) rfl
theorem bd_Console_say : BindTo s_Console_say "say" "Console.say" ["self", "line"] := bind2 rfl
theorem F_law_jug {K : PySem.W.Frag} {mg : Str → Option Value} (T : Tx K mg) : FnP K "_law_jug" "_law_jug" s_law_jug (He.ga K "_law_jug") := T.says.def_ 79 (d := d_law_jug) rfl
theorem bd_law_jug : BindTo s_law_jug "_law_jug" "_law_jug" ["_law_cells", "_law_k"] := bind2 rfl
theorem F_law_pull {K : PySem.W.Frag} {mg : Str → Option Value} (T : Tx K mg) : FnP K "_law_pull" "_law_pull" s_law_pull (He.ga K "_law_pull") := T.says.def_ 80 (d := d_law_pull) rfl
theorem bd_law_pull : BindTo s_law_pull "_law_pull" "_law_pull" ["_law_jug_here", "_law_top"] := bind2 rfl
theorem F_law_one_of {K : PySem.W.Frag} {mg : Str → Option Value} (T : Tx K mg) : FnP K "_law_one_of" "_law_one_of" s_law_one_of (He.ga K "_law_one_of") := T.says.def_ 81 (d := d_law_one_of) rfl
theorem bd_law_one_of : BindTo s_law_one_of "_law_one_of" "_law_one_of" ["_law_jug_here", "_law_some"] := bind2 rfl
theorem F_law_common {K : PySem.W.Frag} {mg : Str → Option Value} (T : Tx K mg) : FnP K "_law_common" "_law_common" s_law_common (He.ga K "_law_common") := T.says.def_ 82 (d := d_law_common) rfl
theorem bd_law_common : BindTo s_law_common "_law_common" "_law_common" ["_law_one", "_law_two"] := bind2 rfl
theorem F_law_power {K : PySem.W.Frag} {mg : Str → Option Value} (T : Tx K mg) : FnP K "_law_power" "_law_power" s_law_power (He.ga K "_law_power") := T.says.def_ 83 (d := d_law_power) rfl
theorem bd_law_power : BindTo s_law_power "_law_power" "_law_power" ["_law_row"] := bind1 rfl
theorem F_law_pair {K : PySem.W.Frag} {mg : Str → Option Value} (T : Tx K mg) : FnP K "_law_pair" "_law_pair" s_law_pair (He.ga K "_law_pair") := T.says.def_ 84 (d := d_law_pair) rfl
theorem bd_law_pair : BindTo s_law_pair "_law_pair" "_law_pair" ["_law_sign", "_law_row"] := bind2 rfl
theorem F_law_text {K : PySem.W.Frag} {mg : Str → Option Value} (T : Tx K mg) : FnP K "_law_text" "_law_text" s_law_text (He.ga K "_law_text") := T.says.def_ 85 (d := d_law_text) rfl
theorem bd_law_text : BindTo s_law_text "_law_text" "_law_text" ["_law_pair_here"] := bind1 rfl
theorem F_law_small {K : PySem.W.Frag} {mg : Str → Option Value} (T : Tx K mg) : FnP K "_law_small" "_law_small" s_law_small (He.ga K "_law_small") := T.says.def_ 86 (d := d_law_small) rfl
theorem bd_law_small : BindTo s_law_small "_law_small" "_law_small" ["_law_jug_here", "_law_low", "_law_high"] := bind3 rfl
theorem F_law_plan {K : PySem.W.Frag} {mg : Str → Option Value} (T : Tx K mg) : FnP K "_law_plan" "_law_plan" s_law_plan (He.ga K "_law_plan") := T.says.def_ 87 (d := d_law_plan) rfl
theorem bd_law_plan : BindTo s_law_plan "_law_plan" "_law_plan" ["_law_jug_here"] := bind1 rfl
theorem F_law_is_four {K : PySem.W.Frag} {mg : Str → Option Value} (T : Tx K mg) : FnP K "_law_is_four" "_law_is_four" s_law_is_four (He.ga K "_law_is_four") := T.says.def_ 88 (d := d_law_is_four) rfl
theorem bd_law_is_four : BindTo s_law_is_four "_law_is_four" "_law_is_four" ["_law_plan_here"] := bind1 rfl
theorem F_law_splits {K : PySem.W.Frag} {mg : Str → Option Value} (T : Tx K mg) : FnP K "_law_splits" "_law_splits" s_law_splits (He.ga K "_law_splits") := T.says.def_ 89 (d := d_law_splits) rfl
theorem bd_law_splits : BindTo s_law_splits "_law_splits" "_law_splits" ["_law_plan_here", "_law_upto"] := bind2 rfl
theorem F_law_is_always {K : PySem.W.Frag} {mg : Str → Option Value} (T : Tx K mg) : FnP K "_law_is_always" "_law_is_always" s_law_is_always (He.ga K "_law_is_always") := T.says.def_ 90 (d := d_law_is_always) rfl
theorem bd_law_is_always : BindTo s_law_is_always "_law_is_always" "_law_is_always" ["_law_plan_here"] := bind1 rfl
theorem F_law_some_n {K : PySem.W.Frag} {mg : Str → Option Value} (T : Tx K mg) : FnP K "_law_some_n" "_law_some_n" s_law_some_n (He.ga K "_law_some_n") := T.says.def_ 91 (d := d_law_some_n) rfl
theorem bd_law_some_n : BindTo s_law_some_n "_law_some_n" "_law_some_n" ["_law_jug_here"] := bind1 rfl
theorem F_law_least {K : PySem.W.Frag} {mg : Str → Option Value} (T : Tx K mg) : FnP K "_law_least" "_law_least" s_law_least (He.ga K "_law_least") := T.says.def_ 92 (d := d_law_least) rfl
theorem bd_law_least : BindTo s_law_least "_law_least" "_law_least" ["_law_row", "_law_upto"] := bind2 rfl
theorem F_law_root_text {K : PySem.W.Frag} {mg : Str → Option Value} (T : Tx K mg) : FnP K "_law_root_text" "_law_root_text" s_law_root_text (He.ga K "_law_root_text") := T.says.def_ 93 (d := d_law_root_text) rfl
theorem bd_law_root_text : BindTo s_law_root_text "_law_root_text" "_law_root_text" ["_law_root_plan"] := bind1 rfl
theorem F_law_group {K : PySem.W.Frag} {mg : Str → Option Value} (T : Tx K mg) : FnP K "_law_group" "_law_group" s_law_group (He.ga K "_law_group") := T.says.def_ 94 (d := d_law_group) rfl
theorem bd_law_group : BindTo s_law_group "_law_group" "_law_group" ["_law_some"] := bind1 rfl
theorem F_law_degree {K : PySem.W.Frag} {mg : Str → Option Value} (T : Tx K mg) : FnP K "_law_degree" "_law_degree" s_law_degree (He.ga K "_law_degree") := T.says.def_ 95 (d := d_law_degree) rfl
theorem bd_law_degree : BindTo s_law_degree "_law_degree" "_law_degree" ["_law_some"] := bind1 rfl
theorem F_law_behind {K : PySem.W.Frag} {mg : Str → Option Value} (T : Tx K mg) : FnP K "_law_behind" "_law_behind" s_law_behind (He.ga K "_law_behind") := T.says.def_ 96 (d := d_law_behind) rfl
theorem bd_law_behind : BindTo s_law_behind "_law_behind" "_law_behind" ["_law_row", "_law_deed"] := bind2 rfl
theorem F_law_ended {K : PySem.W.Frag} {mg : Str → Option Value} (T : Tx K mg) : FnP K "_law_ended" "_law_ended" s_law_ended (He.ga K "_law_ended") := T.says.def_ 97 (d := d_law_ended) rfl
theorem bd_law_ended : BindTo s_law_ended "_law_ended" "_law_ended" ["_law_due"] := bind1 rfl
theorem F_law_next {K : PySem.W.Frag} {mg : Str → Option Value} (T : Tx K mg) : FnP K "_law_next" "_law_next" s_law_next (He.ga K "_law_next") := T.says.def_ 98 (d := d_law_next) rfl
theorem bd_law_next : BindTo s_law_next "_law_next" "_law_next" ["_law_plan_here", "_law_n"] := bind2 rfl
theorem F_law_state {K : PySem.W.Frag} {mg : Str → Option Value} (T : Tx K mg) : FnP K "_law_state" "_law_state" s_law_state (He.ga K "_law_state") := T.says.def_ 99 (d := d_law_state) rfl
theorem bd_law_state : BindTo s_law_state "_law_state" "_law_state" ["_law_plan_here", "_law_some", "_law_said"] := bind3 rfl
theorem F_law_line {K : PySem.W.Frag} {mg : Str → Option Value} (T : Tx K mg) : FnP K "_law_line" "_law_line" s_law_line (He.ga K "_law_line") := T.says.def_ 100 (d := d_law_line) rfl
theorem bd_law_line : BindTo s_law_line "_law_line" "_law_line" ["_law_jug_here", "_law_some"] := bind2 rfl
theorem F_law_put_due {K : PySem.W.Frag} {mg : Str → Option Value} (T : Tx K mg) : FnP K "_law_put_due" "_law_put_due" s_law_put_due (He.ga K "_law_put_due") := T.says.def_ 101 (d := d_law_put_due) rfl
theorem bd_law_put_due : BindTo s_law_put_due "_law_put_due" "_law_put_due" ["_law_plan_here", "_law_some", "_law_n"] := bind3 rfl
theorem F_law_stepped {K : PySem.W.Frag} {mg : Str → Option Value} (T : Tx K mg) : FnP K "_law_stepped" "_law_stepped" s_law_stepped (He.ga K "_law_stepped") := T.says.def_ 102 (d := d_law_stepped) rfl
theorem bd_law_stepped : BindTo s_law_stepped "_law_stepped" "_law_stepped" ["_law_plan_here", "_law_pages", "_law_deed"] := bind3 rfl
theorem F_law_right {K : PySem.W.Frag} {mg : Str → Option Value} (T : Tx K mg) : FnP K "_law_right" "_law_right" s_law_right (He.ga K "_law_right") := T.says.def_ 103 (d := d_law_right) rfl
theorem bd_law_right : BindTo s_law_right "_law_right" "_law_right" ["_law_jug_here"] := bind1 rfl
theorem F_law {K : PySem.W.Frag} {mg : Str → Option Value} (T : Tx K mg) : FnP K "law" "law" s_law (He.ga K "law") := T.says.def_ 104 (d := d_law) rfl
theorem bd_law : BindTo s_law "law" "law" ["_law_cells"] := bind1 rfl

end PP
-- text HA
namespace PP
open PySem PySem.Spec PyProof.Rows L2
/-! what the head looks at -/
section
variable (g : Addr → Option Obj)
def kNs (a : Addr) : List Addr := match g a with
  | some ⟨_, _, .cls cd, _⟩ => [cd.ns]
  | _ => []
def kVals (a : Addr) : List Addr := match g a with
  | some ⟨_, _, .dict es _, _⟩ => es.toList.flatMap fun e => He.refV e.val
  | _ => []
def kFn (a : Addr) : List Addr := match g a with
  | some ⟨_, _, .func fd, _⟩ => He.refV fd.code ++ He.refV fd.defaults
  | _ => []
def kGet (a : Addr) : List Addr := match g a with
  | some ⟨.type _, _, .fields vs, _⟩ => (match vs.toList with
    | v :: _ => He.refV v
    | [] => [])
  | _ => []
def as1 : List Addr := kVals g mainGlobals
def as2 : List Addr := (as1 g).flatMap (kNs g)
def as3 : List Addr := (as2 g).flatMap (kVals g)
def as4 : List Addr := (as3 g).flatMap (kGet g)
def as5 : List Addr := as1 g ++ (as3 g ++ as4 g)
def asP : List Addr := mainGlobals :: cStatics :: (as2 g ++ (as5 g ++ (as5 g).flatMap (kFn g)))
def frP : PySem.W.Frag := He.frG g (asP g)
end
/-! further facts -/
def veT : List Value := [.type "ValueError", .type "Exception", .type "BaseException", .type "object"]
def aeT : List Value := [.type "ArithmeticError", .type "Exception", .type "BaseException", .type "object"]
def gvC (K : PySem.W.Frag) (C : Addr) (T : List Value) (newId : String) : Bool := match K.lookup C with
  | some ⟨.type c, _, .cls cd, sl⟩ => (match cd.mro, sl.toList with
    | .ref C' :: bm, [_, _, _, _, some (.builtin n), _] => decide (c = "type") && (decide (C' = C) && (decide (n = newId) && (!cd.hasDel && (cd.hasDict && ownTB T bm))))
    | _, _ => false)
  | _ => false
def gvTB (x : Str) (T : List Value) (newId : String) (K : PySem.W.Frag) : Bool :=
  gvC K (gaK K x) T newId && (He.eqO (PySem.W.findIn K (.ref (gaK K x)) "__setattr__") (some (some (.builtin "object.__setattr__"))) && (He.eqO (PySem.W.findIn K (.ref (gaK K x)) "given") (some none) &&
  ((He.Fa.meth x "__init__").ok K && (PySem.W.keepIn K (.ref (gaK K x)) && (decide (PySem.W.subIn K (.ref (gaK K x)) (.type "BaseException") = some true) && decide (PySem.W.typeIn K (.ref (gaK K x)) = some (.type "type")))))))
def noB (K : PySem.W.Frag) : Bool := PySem.W.excIn K (gaK K "NothingToUndo") [.type "ArithmeticError", .type "Exception", .type "BaseException", .type "object"] "ArithmeticError.__new__" && (PySem.W.keepIn K (.ref (gaK K "NothingToUndo")) &&
  (decide (PySem.W.subIn K (.ref (gaK K "NothingToUndo")) (.type "BaseException") = some true) && decide (PySem.W.typeIn K (.ref (gaK K "NothingToUndo")) = some (.type "type"))))
def prB (x m : Str) (K : PySem.W.Frag) : Bool := He.eqO (PySem.W.findIn K (.ref (gaK K x)) m) (some (some (.ref (He.ma K (gaK K x) m)))) && (He.eqO (PySem.W.specialIn K (.ref (He.ma K (gaK K x) m)) "__get__") (some (some (.builtin "property.__get__"))) &&
  (decide (PySem.W.takesIn K (.ref (He.ma K (gaK K x) m)) = some true) && (match PySem.W.recIn K (He.ma K (gaK K x) m) "property" with
    | some (.ref _ :: _) => true
    | _ => false)))
def icB (x : Str) (K : PySem.W.Frag) : Bool := (He.Fa.cls x).ok K && (He.eqO (PySem.W.findIn K (.ref (gaK K x)) "__class__") (some (some (.builtin "object.__class__"))) && (He.eqO (PySem.W.specialIn K (.builtin "object.__class__") "__get__") (some (some (.builtin "getset_descriptor.__get__"))) &&
  (decide (PySem.W.takesIn K (.builtin "object.__class__") = some true) && (decide (PySem.W.mroIn K (gaK K x) (.type "object") = some true) && decide (PySem.W.kitOne K (.ref (gaK K x)) (.ref (gaK K x)) = some true)))))
def digB (K : PySem.W.Frag) : Bool := He.eqO (PySem.W.nsIn K cStatics "sys.int_max_str_digits") (some none)
def askB (K : PySem.W.Frag) : Bool := (He.Fa.glo "ASKING").ok K && He.tupB K "ASKING" [.str "splits", .str "why", .str "next", .str "parts"]
def exs : List (PySem.W.Frag → Bool) := [gvTB "InvalidNumber" veT "ValueError.__new__", gvTB "InvalidDegree" veT "ValueError.__new__", gvTB "InvalidIndex" veT "ValueError.__new__", gvTB "TooGreat" aeT "ArithmeticError.__new__", noB,
  prB "Root" "number", prB "Root" "degree", prB "Desk" "roots", prB "Desk" "degree", icB "Root", digB, askB]
/-! the two tables -/
def cAt (K : PySem.W.Frag) (f : Addr) : Addr := match K.lookup f with
  | some ⟨_, _, .func fd, _⟩ => (match fd.code with
    | .ref c => c
    | _ => 0)
  | _ => 0
def tAt (K : PySem.W.Frag) (f : Addr) : Addr := He.tabOf K (cAt K f)
def lamF (K : PySem.W.Frag) : List Addr := [He.ma K (gaK K "Console") "plain", He.ma K (gaK K "Console") "answer"]
def tabB1 (g : Addr → Option Obj) (K : PySem.W.Frag) (f : Addr) : Bool := PySem.W.codeHdIn K (cAt K f) (tAt K f) && ((K.lookup (tAt K f)).isNone && (match g (tAt K f) with
  | some o => He.emptyTab o
  | none => false))
def tabsB (g : Addr → Option Obj) (K : PySem.W.Frag) : Bool := ((lamF K).all fun f => tabB1 g K f) && !(Nat.beq (tAt K (He.ma K (gaK K "Console") "plain")) (tAt K (He.ma K (gaK K "Console") "answer")))
/-! the Hook -/
def pA (a : List He.Fa) (b : List He5.DefA) (g : Addr → Option Obj) : He.AlD := He5.obsA a b (frP g)
def exO (g : Addr → Option Obj) : Bool := (exs.all fun f => f (frP g)) && tabsB g (frP g)
abbrev AlP : Type := (He.AlD × He.AlD × He.AlD) × (He.AlD × He.AlD) × Bool
def faA : List He.Fa := fa0 ++ fa1 ++ fa2 ++ fa3
def faB : List He.Fa := fa4 ++ fa5
def fnC : List He5.DefA := fn1 ++ fn2
def fnD : List He5.DefA := fn3 ++ fn4
def obP (g : Addr → Option Obj) : AlP := ((pA faA [] g, pA faB [] g, pA fa6 fn0 g), (pA [] fnC g, pA [] fnD g), exO g)
def vA (b : List He5.DefA) : He.AlD := He5.valA b
def vaP : AlP := ((vA [], vA [], vA fn0), (vA fnC, vA fnD), true)
structure Left (K : PySem.W.Frag) (h : Heap) : Prop where
  says : He5.SaysA fa fn K
  ex : (exs.all fun f => f K) = true
  tabs : tabsB h.get? K = true
theorem tabB1_keep {g g' : Addr → Option Obj} {K : PySem.W.Frag} (k : ∀ b o, g b = some o → g' b = some o) {f : Addr} (h : tabB1 g K f = true) : tabB1 g' K f = true := by
  unfold tabB1 at h ⊢
  simp only [Bool.and_eq_true] at h ⊢
  refine ⟨h.1, h.2.1, ?_⟩
  have h2 := h.2.2
  cases e : g (tAt K f) with
  | none =>
    rw [e] at h2
    cases h2
  | some o =>
    rw [e] at h2
    rw [k _ _ e]
    exact h2
theorem tabsB_keep {g g' : Addr → Option Obj} {K : PySem.W.Frag} (k : ∀ b o, g b = some o → g' b = some o) (h : tabsB g K = true) : tabsB g' K = true := by
  unfold tabsB at h ⊢
  rw [Bool.and_eq_true] at h ⊢
  exact ⟨List.all_eq_true.mpr fun f hf => tabB1_keep k (List.all_eq_true.mp h.1 f hf), h.2⟩
theorem says_app {a b : List He.Fa} {c d : List He5.DefA} {K : PySem.W.Frag} (h1 : He5.SaysA a c K) (h2 : He5.SaysA b d K) : He5.SaysA (a ++ b) (c ++ d) K := by
  unfold He5.SaysA He5.obsA He5.valA at h1 h2 ⊢
  obtain ⟨h3, h4⟩ := Prod.mk.inj h1
  obtain ⟨h5, h6⟩ := Prod.mk.inj h2
  obtain ⟨h7, h8⟩ := He.ba h3
  obtain ⟨h9, h10⟩ := He.ba h5
  refine Prod.ext ?_ ?_
  · show ((a ++ b).all _ && (c ++ d).all _) = true
    rw [List.all_append, List.all_append, h7, h8, h9, h10] <;> rfl
  · show (c ++ d).map _ = (c ++ d).map _
    rw [List.map_append, List.map_append, h4, h6]
theorem obP_eq {g : Addr → Option Obj} (e : obP g = vaP) : He5.SaysA fa fn (frP g) ∧ ((exs.all fun f => f (frP g)) && tabsB g (frP g)) = true := by
  unfold obP vaP at e
  obtain ⟨e1, e2⟩ := Prod.mk.inj e
  obtain ⟨e3, e4⟩ := Prod.mk.inj e2
  obtain ⟨a1, a2⟩ := Prod.mk.inj e1
  obtain ⟨a3, a4⟩ := Prod.mk.inj a2
  obtain ⟨c1, c2⟩ := Prod.mk.inj e3
  refine ⟨?_, e4⟩
  have z := says_app (says_app (says_app (says_app a1 a3) a4) c1) c2
  have ef : fa = faA ++ faB ++ fa6 ++ [] ++ [] := by
    unfold fa faA faB
    simp only [List.append_assoc, List.append_nil]
  have en : fn = [] ++ [] ++ fn0 ++ fnC ++ fnD := by
    unfold fn fnC fnD
    simp only [List.append_assoc, List.nil_append]
  rw [ef, en]
  exact z
def hkP : PySem.W.Hook where
  α := AlP
  obs := fun s => obP s.heap.get?
  val := fun _ => vaP
  says := fun _ h => ∃ K : PySem.W.Frag, K.In h ∧ Left K h
  of := fun _ s e => by
    obtain ⟨e1, e2⟩ := obP_eq e
    obtain ⟨e3, e4⟩ := He.ba e2
    exact ⟨_, He.frG_in, ⟨e1, e3, e4⟩⟩
  keeps := fun _ _ _ ⟨K, hK, c⟩ k => ⟨K, PySem.W.Frag.In.keeps hK k, ⟨c.says, c.ex, tabsB_keep k c.tabs⟩⟩
def obT (s : PySem.W.SharedT) : AlP := obP (HandSHeadRun.getT s)
theorem obT_eq (s : PySem.W.SharedT) : obT s = hkP.obs s.abs := by
  have e : HandSHeadRun.getT s = s.abs.heap.get? := funext (HandSHeadRun.getT_eq s)
  unfold obT
  rw [e] <;> rfl
end PP
-- text HB
namespace PP
open PySem PySem.Spec PyProof.Rows L2
section
variable {K : PySem.W.Frag} {h : Heap} {mg : Str → Option Value}
theorem gvC_ok {C : Addr} {T : List Value} {newId : String} (e : gvC K C T newId = true) : ∃ nm q N bs bm sn sub ab col dd k0 k1 k2 k3 k5, K.lookup C = some (excClassObj nm q C N bs bm true sn sub ab col dd k0 k1 k2 k3 k5 newId) ∧ OwnT T bm := by
  unfold gvC at e
  split at e
  · rename_i c dd cd sl ho
    split at e
    · rename_i C' bm k0 k1 k2 k3 n k5 hm hs
      simp only [Bool.and_eq_true, decide_eq_true_eq, Bool.not_eq_true'] at e
      obtain ⟨rfl, rfl, rfl, hdel, hdict, ht⟩ := e
      obtain ⟨nm, bs, mro, ns, qn, hd, sn, sub, ab, col, del⟩ := cd
      dsimp only at hm hdel hdict
      subst hm hdel hdict
      have hsl : sl = #[k0, k1, k2, k3, some (.builtin n), k5] := by
        obtain ⟨l⟩ := sl
        simp only at hs
        rw [hs]
      subst hsl
      exact ⟨nm, qn, ns, bs, bm, sn, sub, ab, col, dd, k0, k1, k2, k3, k5, ho, ownTB_ok ht⟩
    · cases e
  · cases e
theorem gv_in {x q : Str} {B newId initId : String} {T : List Value} {st : Stmt} (FB : ExcBaseFacts B newId initId T) (tl : Tail T) (e : gvTB x T newId K = true) (g : mg x = some (.ref (gaK K x))) (F : FnP K "__init__" q st (He.ma K (gaK K x) "__init__"))
    {p1 p2 q1 q2 q3 q4 : Pos} (hA : defArgs st = gvA p1 p2) (hB : defBody st = gvB q1 q2 q3 q4) (hS : defScope st = gvS) : Gv K mg x (gaK K x) (He.ma K (gaK K x) "__init__") := by
  obtain ⟨e1, e⟩ := He.ba e
  obtain ⟨e2, e⟩ := He.ba e
  obtain ⟨e3, e⟩ := He.ba e
  obtain ⟨e4, e⟩ := He.ba e
  obtain ⟨e5, e⟩ := He.ba e
  obtain ⟨e6, e7⟩ := He.ba e
  obtain ⟨nm, qn, ns, bs, bm, sn, sub, ab, col, dd, k0, k1, k2, k3, k5, ho, ht⟩ := gvC_ok e1
  obtain ⟨fd, F⟩ := F
  obtain ⟨oc, od, dV, kV, doc, pm, an, cdv, ct, osl, rfl, lk, hcd, hd, hk⟩ := F.ex
  have m := He.meth_ok e4
  refine ⟨g, ⟨B, newId, initId, T, nm, qn, ns, bs, bm, sn, sub, ab, col, dd, k0, k1, k2, k3, k5, FB, tl, ho, ht⟩, He.eqO_ok e2, He.eqO_ok e3, ?_, ?_, e5, of_decide_eq_true e6, of_decide_eq_true e7, ?_⟩
  · exact He.eqO_ok (He.ba e4).1
  · exact beq_iff_eq.mp (He.ba (He.ba e4).2).1
  · rcases hd with ⟨_, rfl⟩ | ⟨z, _⟩
    · rw [hA, hB, hS] at lk
      exact ⟨q, oc, od, kV, doc, pm, an, cdv, ct, osl, p1, p2, q1, q2, q3, q4, lk, hcd⟩
    · exact absurd rfl z
theorem Left.one (L : Left K h) (i : Nat) {f : PySem.W.Frag → Bool} (e : exs[i]? = some f := by rfl) : f K = true := List.all_eq_true.mp L.ex f (List.mem_of_getElem? e)
theorem prp_in {x m : Str} (e : prB x m K = true) : PropOf K (gaK K x) m (He.ma K (gaK K x) m) (He5.wf K (gaK K x) "property" m) := by
  obtain ⟨e1, e⟩ := He.ba e
  obtain ⟨e2, e⟩ := He.ba e
  obtain ⟨e3, e4⟩ := He.ba e
  refine ⟨He.eqO_ok e1, He.eqO_ok e2, of_decide_eq_true e3, ?_⟩
  unfold He5.wf
  split at e4
  · rename_i f r q
    exact ⟨r, by rw [q]⟩
  · cases e4
theorem ic_in {x : Str} (e : icB x K = true) : C8.InsC K (gaK K x) := by
  obtain ⟨e1, e⟩ := He.ba e
  obtain ⟨e2, e⟩ := He.ba e
  obtain ⟨e3, e⟩ := He.ba e
  obtain ⟨e4, e⟩ := He.ba e
  obtain ⟨e5, e6⟩ := He.ba e
  exact ⟨He.cls_ok e1, He.eqO_ok e2, He.eqO_ok e3, of_decide_eq_true e4, of_decide_eq_true e5, of_decide_eq_true e6⟩
theorem Tx.of (X : K.In h) (G : h.Ns mainGlobals mg) (L : Left K h) : Tx K mg where
  at_ := ⟨h, X, G⟩
  says := L.says
  gv_InvalidNumber := gv_in (q := "InvalidNumber.__init__") (st := s_InvalidNumber_init) PySem.F.excBase_ValueError tail_VE (L.one 0) (He.glo_ok X G (L.says.fact 76 (f := .glo "InvalidNumber") rfl)) (L.says.def_ 0 (d := d_InvalidNumber_init) rfl) rfl rfl rfl
  gv_InvalidDegree := gv_in (q := "InvalidDegree.__init__") (st := s_InvalidDegree_init) PySem.F.excBase_ValueError tail_VE (L.one 1) (He.glo_ok X G (L.says.fact 77 (f := .glo "InvalidDegree") rfl)) (L.says.def_ 1 (d := d_InvalidDegree_init) rfl) rfl rfl rfl
  gv_InvalidIndex := gv_in (q := "InvalidIndex.__init__") (st := s_InvalidIndex_init) PySem.F.excBase_ValueError tail_VE (L.one 2) (He.glo_ok X G (L.says.fact 78 (f := .glo "InvalidIndex") rfl)) (L.says.def_ 2 (d := d_InvalidIndex_init) rfl) rfl rfl rfl
  gv_TooGreat := gv_in (q := "TooGreat.__init__") (st := s_TooGreat_init) PySem.F.excBase_ArithmeticError tail_AE (L.one 3) (He.glo_ok X G (L.says.fact 79 (f := .glo "TooGreat") rfl)) (L.says.def_ 3 (d := d_TooGreat_init) rfl) rfl rfl rfl
  no_in := (He.ba (L.one 4)).1
  no_kp := (He.ba (He.ba (L.one 4)).2).1
  no_sub := of_decide_eq_true (He.ba (He.ba (He.ba (L.one 4)).2).2).1
  no_ty := of_decide_eq_true (He.ba (He.ba (He.ba (L.one 4)).2).2).2
  cd := L.says.def_ 15 (d := d_check_degree) rfl
  pr_Root_number := prp_in (L.one 5)
  pr_Root_degree := prp_in (L.one 6)
  pr_Desk_roots := prp_in (L.one 7)
  pr_Desk_degree := prp_in (L.one 8)
  ic_Root := ic_in (L.one 9)
theorem Left.dig (L : Left K h) : PySem.W.nsIn K cStatics "sys.int_max_str_digits" = some none := He.eqO_ok (L.one 10)
theorem Left.ask (L : Left K h) (X : K.In h) (G : h.Ns mainGlobals mg) : ∃ a, mg "ASKING" = some (.ref a) ∧ ∀ H, SqT K H a [.str "splits", .str "why", .str "next", .str "parts"] := by
  obtain ⟨e1, e2⟩ := He.ba (L.one 11)
  exact ⟨_, He.glo_ok X G e1, fun H => He.tupB_ok e2 H⟩
/-! the two tables -/
theorem Left.tab (L : Left K h) {f : Addr} (hf : f ∈ lamF K) : PySem.W.codeHdIn K (cAt K f) (tAt K f) = true ∧ K.lookup (tAt K f) = none ∧ h.get? (tAt K f) = some { cls := .none, data := .fields #[] } := by
  have e := (He.ba L.tabs).1
  have e2 := List.all_eq_true.mp e f hf
  unfold tabB1 at e2
  obtain ⟨e3, e4⟩ := He.ba e2
  obtain ⟨e5, e6⟩ := He.ba e4
  refine ⟨e3, Option.isNone_iff_eq_none.mp e5, ?_⟩
  cases q : h.get? (tAt K f) with
  | none =>
    rw [q] at e6
    cases e6
  | some o =>
    rw [q] at e6
    rw [He.emptyTab_eq e6]
theorem Left.ne (L : Left K h) : tAt K (He.ma K (gaK K "Console") "plain") ≠ tAt K (He.ma K (gaK K "Console") "answer") := fun z => by
  have e := (He.ba L.tabs).2
  rw [z, show Nat.beq (tAt K (He.ma K (gaK K "Console") "answer")) (tAt K (He.ma K (gaK K "Console") "answer")) = true from Nat.beq_refl _] at e
  cases e
end
end PP
-- text HR
namespace PP
open PySem PySem.Spec PyProof.Rows L2
def nm0 : List PySem.Str := ["_wall", "WrongValue", "InvalidText", "InvalidNumber", "InvalidDegree", "InvalidIndex", "InvalidLine", "NotARoot", "InvalidRoots", "NoAnswer", "TooGreat", "NothingToUndo", "DIGITS", "is_integer", "is_between", "number_in", "number_in_kinds", "integer_in", "power_of", "common_divisor", "floor_root", "is_power", "prime_divisors", "MOST_SIZE", "MOST_LOOKED", "MOST_DEGREE", "MOST_ROOTS", "MOST_SHOWN", "MOST_RAISED", "is_number"]
def nm1 : List PySem.Str := ["check_number", "check_degree", "lowest", "text_of", "number_in_numbers", "raised", "whole_root", "base_and_exponent", "base_for", "root_for", "four_for", "read_number", "times_integer", "odd_part", "shared", "is_split_by_four", "does_split", "reason", "is_always", "totient", "is_free", "halvers", "degrees_for", "degree_list", "check_equation", "splits", "why", "is_always_whole", "parts", "is_one"]
def nm2 : List PySem.Str := ["steps_for", "powers_up_to", "next_for", "next_split", "least_times", "is_taken", "least_form", "taken", "Root", "check_root", "root_with", "bounded_root", "refined", "unpowered", "common_bases", "times_in", "powers_in", "product_of", "product_root", "check_roots", "common_degree", "Places", "degree_for", "degree_of", "Desk", "ASKING", "Console", "_law_jug", "_law_pull", "_law_one_of"]
def nm3 : List PySem.Str := ["_law_common", "_law_power", "_law_pair", "_law_text", "_law_small", "_law_plan", "_law_is_four", "_law_splits", "_law_is_always", "_law_some_n", "_law_least", "_law_root_text", "_law_group", "_law_degree", "_law_behind", "_law_ended", "_law_next", "_law_state", "_law_line", "_law_put_due", "_law_stepped", "_law_right"]
def names : List PySem.Str := nm0 ++ nm1 ++ nm2 ++ nm3
abbrev R : PySem.W.OpenRow := PySem.W.OpenLaw.row PySem.Challenge.rw_purepowers_k79_whole_consoles_led
open PySem.W PySem.Calls
noncomputable abbrev E (w : World) (os : OsState) : Option SharedT := HandSHeadRun.endF (HandSHeadRun.stepQ (HandSHeadRun.denQ HandSHeadRun.tabQ) R.prog w) 10000 R.prog w os
section
variable (w : World) (os : OsState)
theorem r_looks : (E w os).map (fun s => HandSHeadRun.looksF R.prog (boot_heap w.params) s.abs) = some true := by kernel_rfl
theorem r_seen : (E w os).map (fun s => HandSHeadRun.seenQ (view R.prog [123]) names (importedModules R.prog.main.body) (fun s => xlAt (view R.prog [123]) [] s && recOk R.toRowW.records s) s.abs) = some (openGood (view R.prog [123]) names) := by kernel_rfl
theorem r_fA : (E w os).map (fun s => pA faA [] (HandSHeadRun.getT s)) = some (vA []) := by kernel_rfl
theorem r_fB : (E w os).map (fun s => pA faB [] (HandSHeadRun.getT s)) = some (vA []) := by kernel_rfl
theorem r_f6 : (E w os).map (fun s => pA fa6 fn0 (HandSHeadRun.getT s)) = some (vA fn0) := by kernel_rfl
theorem r_nC : (E w os).map (fun s => pA [] fnC (HandSHeadRun.getT s)) = some (vA fnC) := by kernel_rfl
theorem r_nD : (E w os).map (fun s => pA [] fnD (HandSHeadRun.getT s)) = some (vA fnD) := by kernel_rfl
theorem r_ex : (E w os).map (fun s => exO (HandSHeadRun.getT s)) = some true := by kernel_rfl
end
theorem joinR {α β γ : Type} {E : Option α} {f : α → β} {g : α → γ} {a : β} {b : γ} (h1 : E.map f = some a) (h2 : E.map g = some b) : E.map (fun s => (f s, g s)) = some (a, b) := by
  cases E with
  | none => cases h1
  | some s =>
    have e1 : f s = a := Option.some.inj h1
    have e2 : g s = b := Option.some.inj h2
    show some (f s, g s) = some (a, b)
    rw [e1, e2]
theorem run (w : World) : HandSHeadRun.RunEq R (view R.prog [123]) hkP obT 10000 names w := fun os =>
  joinR (r_looks w os) (joinR (r_seen w os) (joinR (joinR (r_fA w os) (joinR (r_fB w os) (r_f6 w os))) (joinR (joinR (r_nC w os) (r_nD w os)) (r_ex w os))))
end PP
-- text HY
section
open PySem PySem.W PySem.Calls PyProof.Rows
/-- the law holds if its promise does at the head's heap -/
theorem PP.holds_pre (F : ∀ (w : World) (mg : PySem.Str → Option Value) (fa : Addr) (h : Heap), PP.hkP.says w h → h.Ns mainGlobals mg → mg "law" = some (.ref fa) → ∃ K : Frag, K.In h ∧ LamX.LawAtS PySem.Challenge.rw_purepowers_k79_whole_consoles_led w K L2.CX0 18 63 "_law_cells" mg fa h) :
    PySem.Challenge.rw_purepowers_k79_whole_consoles_led.Holds := by
  w_on; o_law
  refine HandSHeadRun.head_any (r := OpenLaw.row PySem.Challenge.rw_purepowers_k79_whole_consoles_led) (q := view PP.R.prog [123]) (H := PP.hkP) (ob := PP.obT) (M := 10000) (loose := PP.names) (d := HandSHeadRun.topDef PP.R.prog 123) (kwd := []) PP.obT_eq
    (by kernel_rfl) (fun s => by kernel_rfl) PP.run (by kernel_rfl) (by kernel_rfl) (by kernel_rfl) (by rfl) (by first | assumption | decide +kernel) (by decide +kernel) ⟨rfl, rfl, rfl, rfl, rfl, by decide +kernel⟩ ?hw ?hc
  case hw => w_witness2
  case hc =>
    refine LamX.walk_ofTsE (l := PySem.Challenge.rw_purepowers_k79_whole_consoles_led) (n := 63) (k := 18) (x := "_law_cells") (CX := fun _ => L2.CX0) rfl (by decide) (by kernel_rfl) ⟨rfl, by decide, by decide⟩ ?F (fun _ _ _ _ _ z => z)
    intro w mg fa h Y G hmg0
    refine F w mg fa h Y G ?_
    have e : (HandSHeadRun.topDef PP.R.prog 123).name = ("law" : PySem.Str) := by kernel_rfl
    rw [← e]
    exact hmg0
end
-- text PR
namespace PP
open PySem PySem.Spec PyProof.Rows L2
/-! rules of our own -/
section
variable {X : Cx} {pos pt pt2 : Pos}
/-- a, b, .. = x, y, ..: the tuple is made, taken apart and not tracked -/
def tUnp (n : Nat) (ta : TA) (tg : TGs) : TS := fun D σ H => ta σ H fun vs H1 => vs.length = n ∧ tg vs σ H1 D.nx
theorem ps_unp {ts es : List Expr} {ta : TA} {tg : TGs} {n kt k2 : Nat} (hc : X.calm = true) (ha : PA X es ta) (hg : PGs X ts tg)
    (hn : (assignEach ts X.env).length = n := by rfl) (hz : n ≤ sizeLine := by decide) (hst : (assignEach ts X.env).findIdx? (·.1) = none := by rfl)
    (hs : swapsWithSole [.Tuple ts kt pt] (.Tuple es k2 pt2) pos.line X.env = pure false := by rfl) (hw : swappedStores [.Tuple ts kt pt] (.Tuple es k2 pt2) X.env = pure none := by rfl)
    (h1 : (assignEach [.Tuple ts kt pt] X.env).map (·.2) = [assign (.Tuple ts kt pt) X.env] := by rfl) :
    PS X (.Assign [.Tuple ts kt pt] (.Tuple es k2 pt2) pos) (tUnp n ta tg) := by
  refine ⟨fun pins s σ H D I h => ?_⟩
  refine wpAny_Assign_stores (Tuple_ (thn (ha.run _ pins s σ H _ I h) fun us s1 hh => ?_)) hs hw
  obtain ⟨vs, H1, I1, r1, hl, q1⟩ := hh
  have hu : us.length = n := r1.length.symm.trans hl
  refine wpAny_newObj_type ?_ (by show us.length ≤ sizeLine; omega)
  have I2 : Inv X pins σ H1 { s1 with heap := s1.heap.push { cls := .type "tuple", data := .seq us.toArray } } := I1.kept (t' := s1.toks) fun b o e => Heap.get?_push_of_some _ e
  rw [h1]
  refine assign_Tuple_tuple (items := us.toArray) (I.ok.hd hc) (IsTup.new s1.heap _) (by simp [hn, hu]) hst fun h' hx => ?_
  have I3 := I2.kept (h' := h') (t' := s1.toks) fun b o e => hx b o (Nat.ne_of_lt (Heap.lt_size e)) e
  exact thn (hg.run pins _ σ H1 vs _ D.nx I3 (by simpa using r1) q1) fun _ s2 q => q
theorem g_unp {n : Nat} {ta : TA} {tg : TGs} {σ : L2.St} {H : Hp} {nx bk ct : L2.St → Hp → Prop} {rt : VK} (q : ta σ H fun vs H1 => vs.length = n ∧ tg vs σ H1 nx) : tUnp n ta tg ⟨nx, rt, bk, ct⟩ σ H := q
theorem g_gcons {t : TG} {u : TGs} {v : V} {r : List V} {σ : L2.St} {H : Hp} {R : L2.St → Hp → Prop} (q : t v σ H fun σ' H' => u r σ' H' R) : gCons t u (v :: r) σ H R := ⟨v, r, rfl, q⟩
theorem g_gnil {σ : L2.St} {H : Hp} {R : L2.St → Hp → Prop} (q : R σ H) : gNil [] σ H R := ⟨rfl, q⟩
theorem g_lenok {vs : List V} {n : Nat} {p : Prop} (h : vs.length = n) (q : p) : vs.length = n ∧ p := ⟨h, q⟩
theorem g_gtup {K : PySem.W.Frag} {n : Nat} {t : TGs} {a : Addr} {xs : List V} {σ : L2.St} {H : Hp} {R : L2.St → Hp → Prop} (h : SqT K H a xs) (l : xs.length = n) (q : t xs σ H R) : gTup K n t (.ref a) σ H R := ⟨a, xs, rfl, h, l, q⟩
end
/-- x(), an own exception without __init__ -/
theorem pmk_own0 {X : Cx} {C : Addr} {bmB : List Value} {B newId initId : String} {x : Str} {p pos : Pos} (F : ExcBaseFacts B newId initId bmB) (q : PySem.W.excIn X.K C bmB newId = true) (gC : X.mg x = some (.ref C)) (kC : PySem.W.keepIn X.K (.ref C) = true) (r : Raises X (.ref C)) (hg : Gl X x := by rfl)
    (hdb : (x == ("__debug__" : Str)) = false := by decide) : PMk X (.Call (.Name x p) [] [] pos) (fun _ H Q => Q (.ref C) none H) := by
  intro pins s σ H Q I h
  refine wpAny_Call_Name_kw (ld_glob I hg gC ?_ hdb)
  refine PySem.W.callWith_K0 I.kIn kC ?_
  obtain ⟨bm, N, nm, qn, bs, hdct, sn, sub, ab, col, dd, k0, k1, k2, k3, k5, mN, hC, hN, hni, T⟩ := exc_obj I.kIn q
  refine wpAny_call_exc_subT F T hC hN hni (fun h' e hm => ?_) (by show 0 ≤ sizeLine; exact Nat.zero_le _)
  exact mk_of I hm r h (I.hok.gone hm.new)
theorem pe_gk {X : Cx} {x : Str} {v : V} {pos : Pos} (hg : Gl X x) (h : ∃ u, X.mg x = some u ∧ RelV v u) (hd : (x == ("__debug__" : Str)) = false := by decide) : PE X (.Name x pos) (tC v) := by
  obtain ⟨u, e, r⟩ := h
  exact pe_glob hg e r hd
/-! heaps that grow -/
theorem same_new {H : Hp} {p : Addr} {o : HO} (h : H p = none) : Same H (upd H p o) := fun a u e => by
  rw [upd_ne (ne_of_none e h)]
  exact e
theorem mkT {xs : List V} {A : Prop} (h : A) (hl : Nat.ble xs.length 100 = true := by rfl) : xs.length ≤ sizeLine ∧ A := ⟨Nat.le_trans (Nat.le_of_ble_eq_true hl) (by decide), h⟩
theorem same_mut {H H' : Hp} {p : Addr} {o : HO} (k : Same H H') (h : H p = none) : Same H (upd H' p o) := fun a u e => by
  rw [upd_ne (ne_of_none e h)]
  exact k a u e
theorem filterMap_take {α : Type} {l : List (Option α)} {i : Nat} {k : Option α} (h : l[i]? = some k) : (l.take (i + 1)).filterMap id = (l.take i).filterMap id ++ k.toList := by
  rw [List.take_add_one, h, List.filterMap_append]
  cases k <;> rfl
/-- what a comprehension's loop is asked, over any walk J -/
abbrev LcGo (J : It) (g : TG) (tt : TT) (te : TE) (vs : List Nat) (σ : L2.St) (D : Addr) (H1 : Hp) (Qd : Hp → Prop) : Prop :=
  ∃ W : Nat → Nat → Hp → Prop, (∃ m, W 0 m (upd H1 D (.lst []))) ∧ ∀ i m H, W i m H →
    (J.stop i H ∧ Qd H) ∨ (J.go i H ∧ ∃ Nx : Hp → Prop, (∀ H', Nx H' → ∃ m', m' < m ∧ W (i + 1) m' H') ∧ ∀ x H', J.yld i H x H' → g x (wipe σ vs) H' fun σ2 H2 => wipe σ2 vs = wipe σ vs ∧ tt σ2 H2 fun b H3 =>
      if b = true then te σ2 H3 fun y H4 => ∃ acc, H4 D = some (.lst acc) ∧ acc.length < sizeLine ∧ Nx (upd H4 D (.lst (acc ++ [y]))) else Nx H3)
/-- .. where each turn keeps what was, and gives one known value or none -/
theorem lc_go {J : It} {g : TG} {tt : TT} {te : TE} {vs : List Nat} {σ : L2.St} {D : Addr} {H1 : Hp} {Qd : Hp → Prop} (ks : List (Option V)) (hD : H1 D = none) (hz : ks.length ≤ 100000)
    (hgo : ∀ i H, Same H1 H → i < ks.length → J.go i H) (hstop : ∀ H, Same H1 H → J.stop ks.length H) (hy : ∀ i H x H', Same H1 H → J.yld i H x H' → Same H H')
    (hs : ∀ (i : Nat) (k : Option V) (H : Hp) (x : V) (H' : Hp), ks[i]? = some k → Same H1 H → J.yld i H x H' → ∀ R : Option V → Hp → Prop, (∀ H'', Same H' H'' → R k H'') →
      g x (wipe σ vs) H' fun σ2 H2 => wipe σ2 vs = wipe σ vs ∧ tt σ2 H2 fun b H3 => if b = true then te σ2 H3 fun y H4 => R (some y) H4 else R none H3)
    (hd : ∀ H, Same H1 H → H D = some (.lst (ks.filterMap id)) → Qd H) : LcGo J g tt te vs σ D H1 Qd := by
  refine ⟨fun i m H => m = ks.length - i ∧ i ≤ ks.length ∧ Same H1 H ∧ H D = some (.lst ((ks.take i).filterMap id)), ⟨ks.length, by simp, Nat.zero_le _, same_mut (Same.refl H1) hD, upd_same⟩, ?_⟩
  rintro i m H ⟨rfl, hi, k0, hl⟩
  by_cases hlt : i < ks.length
  · refine .inr ⟨hgo i H k0 hlt, fun H' => Same H1 H' ∧ H' D = some (.lst ((ks.take (i + 1)).filterMap id)), fun H' p => ⟨ks.length - (i + 1), by omega, rfl, hlt, p.1, p.2⟩, fun x H' y => ?_⟩
    have hk : ks[i]? = some ks[i] := List.getElem?_eq_getElem hlt
    have k1 := hy i H x H' k0 y
    refine hs i _ H x H' hk k0 y (fun o H4 => match o with
      | some v => ∃ acc, H4 D = some (.lst acc) ∧ acc.length < sizeLine ∧ (Same H1 (upd H4 D (.lst (acc ++ [v]))) ∧ (upd H4 D (.lst (acc ++ [v]))) D = some (.lst ((ks.take (i + 1)).filterMap id)))
      | none => Same H1 H4 ∧ H4 D = some (.lst ((ks.take (i + 1)).filterMap id))) fun H'' k2 => ?_
    have kk := Same.trans k0 (Same.trans k1 k2)
    have hD2 := k2 _ _ (k1 _ _ hl)
    rw [filterMap_take hk]
    cases ks[i] with
    | none => exact ⟨kk, by simpa using hD2⟩
    | some v =>
      refine ⟨_, hD2, ?_, same_mut kk hD, upd_same⟩
      have a := List.length_filterMap_le (f := id) (ks.take i)
      have b := List.length_take_le i ks
      have c : 100000 < sizeLine := by decide
      omega
  · have e : i = ks.length := by omega
    subst e
    rw [List.take_length] at hl
    exact .inl ⟨hstop H k0, hd H k0 hl⟩
/-- over a list that stands still -/
theorem lc_goL {K : PySem.W.Frag} {a : Addr} {xs : List V} {g : TG} {tt : TT} {te : TE} {vs : List Nat} {σ : L2.St} {D : Addr} {H1 : Hp} {Qd : Hp → Prop} (ks : List (Option V)) (hq : SqL K H1 a xs) (hl : xs.length = ks.length) (hD : H1 D = none) (hz : ks.length ≤ 100000)
    (hs : ∀ (i : Nat) (x : V) (k : Option V) (H : Hp), xs[i]? = some x → ks[i]? = some k → Same H1 H → ∀ R : Option V → Hp → Prop, (∀ H'', Same H H'' → R k H'') →
      g x (wipe σ vs) H fun σ2 H2 => wipe σ2 vs = wipe σ vs ∧ tt σ2 H2 fun b H3 => if b = true then te σ2 H3 fun y H4 => R (some y) H4 else R none H3)
    (hd : ∀ H, Same H1 H → H D = some (.lst (ks.filterMap id)) → Qd H) : LcGo (Itl K a) g tt te vs σ D H1 Qd := by
  refine lc_go ks hD hz (fun i H k hi => ?_) (fun H k => ⟨xs, Same.seq k hq, by omega⟩) (fun i H x H' k y => ?_) (fun i k H x H' hk kk y R hR => ?_) hd
  · exact ⟨xs, xs[i]'(by omega), Same.seq k hq, List.getElem?_eq_getElem (by omega)⟩
  · rw [y.1]
    exact Same.refl H
  · obtain ⟨e, y⟩ := y
    subst e
    exact hs i x k H' (y xs (Same.seq kk hq)) hk kk R hR
/-- over range(lo, lo + n) -/
theorem lc_goR {lo : Int} {n : Nat} {g : TG} {tt : TT} {te : TE} {vs : List Nat} {σ : L2.St} {D : Addr} {H1 : Hp} {Qd : Hp → Prop} (ks : List (Option V)) (hl : ks.length = n) (hD : H1 D = none) (hz : ks.length ≤ 100000)
    (hs : ∀ (i : Nat) (k : Option V) (H : Hp), ks[i]? = some k → Same H1 H → ∀ R : Option V → Hp → Prop, (∀ H'', Same H H'' → R k H'') →
      g (.int (lo + i)) (wipe σ vs) H fun σ2 H2 => wipe σ2 vs = wipe σ vs ∧ tt σ2 H2 fun b H3 => if b = true then te σ2 H3 fun y H4 => R (some y) H4 else R none H3)
    (hd : ∀ H, Same H1 H → H D = some (.lst (ks.filterMap id)) → Qd H) : LcGo (Itr lo n) g tt te vs σ D H1 Qd := by
  refine lc_go ks hD hz (fun i H k hi => by rw [hl] at hi; exact hi) (fun H k => by rw [hl]; exact Nat.le_refl n) (fun i H x H' k y => ?_) (fun i k H x H' hk kk y R hR => ?_) hd
  · rw [y.1]
    exact Same.refl H
  · obtain ⟨e, y⟩ := y
    subst e y
    exact hs i k H' hk kk R hR
section
variable {K : PySem.W.Frag} {wi : TI} {g : TG} {tt : TT} {te : TE} {tb : TS} {ta : TA} {vs : List Nat} {σ : L2.St} {H : Hp} {Q : VK} {R : It → Hp → Prop} {nx bk ct : L2.St → Hp → Prop} {rt : VK}
theorem g_yes {R : Bool → Hp → Prop} (q : R true H) : tYes σ H R := q
theorem g_iftt {A B : Prop} (q : A) : if true = true then A else B := q
theorem g_ifff {A B : Prop} (q : B) : if false = true then A else B := q
theorem g_lc (q : wi σ H fun J H1 => ∀ D, H1 D = none → LcGo J g tt te vs σ D H1 (fun H => Q (.ref D) H)) : tLc wi g tt te vs σ H Q := q
theorem g_iL (q : te σ H fun x H1 => ∃ a, x = .ref a ∧ (∃ xs, SqL K H1 a xs) ∧ R (Itl K a) H1) : iList K te σ H R := q
theorem g_iT (q : te σ H fun x H1 => ∃ a, x = .ref a ∧ (∃ xs, SqT K H1 a xs) ∧ R (Itt K a) H1) : iTup K te σ H R := q
theorem g_iS (q : te σ H fun v H1 => ∃ x, v = .str x ∧ R (Its x) H1) : iStr te σ H R := q
theorem g_iR1 (q : ta σ H fun vs H1 => ∃ j : Int, vs = [.int j] ∧ -(2 ^ 62) ≤ j ∧ j < 2 ^ 62 ∧ R (Itr 0 j.toNat) H1) : iRng1 ta σ H R := q
theorem g_iR2 (q : ta σ H fun vs H1 => ∃ i j : Int, vs = [.int i, .int j] ∧ (-(2 ^ 62) ≤ i ∧ i < 2 ^ 62 ∧ -(2 ^ 62) ≤ j ∧ j < 2 ^ 62) ∧ R (Itr i (j - i).toNat) H1) : iRng2 ta σ H R := q
theorem g_for (q : wi σ H fun J H1 => ∃ W : Nat → Nat → L2.St → Hp → Prop, (∃ m, W 0 m σ H1) ∧ ∀ i m σ H, W i m σ H →
  (J.stop i H ∧ nx σ H) ∨ (J.go i H ∧ ∃ N : L2.St → Hp → Prop, (∀ σ' H', N σ' H' → ∃ m', m' < m ∧ W (i + 1) m' σ' H') ∧ ∀ x H', J.yld i H x H' → g x σ H' fun σ2 H2 => tb ⟨N, rt, nx, N⟩ σ2 H2)) : tFor wi g tb ⟨nx, rt, bk, ct⟩ σ H := q
end
section
variable {K : PySem.W.Frag} {a b : Addr} {xs ys : List V} {lo : Int} {n : Nat} {g : TG} {tb : TS} {σ : L2.St} {H : Hp} {nx bk ct : L2.St → Hp → Prop} {rt : VK}
abbrev ForGo (J : It) (g : TG) (tb : TS) (nx : L2.St → Hp → Prop) (rt : VK) (σ : L2.St) (H : Hp) : Prop := ∃ W : Nat → Nat → L2.St → Hp → Prop, (∃ m, W 0 m σ H) ∧ ∀ i m σ H, W i m σ H →
  (J.stop i H ∧ nx σ H) ∨ (J.go i H ∧ ∃ N : L2.St → Hp → Prop, (∀ σ' H', N σ' H' → ∃ m', m' < m ∧ W (i + 1) m' σ' H') ∧ ∀ x H', J.yld i H x H' → g x σ H' fun σ2 H2 => tb ⟨N, rt, nx, N⟩ σ2 H2)
theorem forR (Pv : Nat → L2.St → Hp → Prop) (h0 : Pv 0 σ H) (hs : ∀ i σ H, i < n → Pv i σ H → g (.int (lo + i)) σ H fun σ2 H2 => tb ⟨Pv (i + 1), rt, nx, Pv (i + 1)⟩ σ2 H2) (hd : ∀ σ H, Pv n σ H → nx σ H) : ForGo (Itr lo n) g tb nx rt σ H :=
  for_range (D := ⟨nx, rt, nx, nx⟩) Pv h0 hs hd
theorem forL (Pv : Nat → L2.St → Hp → Prop) (h0 : Pv 0 σ H) (hl : ∀ i σ H, i ≤ xs.length → Pv i σ H → SqL K H a xs) (hs : ∀ i x σ H, xs[i]? = some x → Pv i σ H → g x σ H fun σ2 H2 => tb ⟨Pv (i + 1), rt, nx, Pv (i + 1)⟩ σ2 H2) (hd : ∀ σ H, Pv xs.length σ H → nx σ H) : ForGo (Itl K a) g tb nx rt σ H :=
  for_list (D := ⟨nx, rt, nx, nx⟩) Pv h0 hl hs hd
theorem forT (Pv : Nat → L2.St → Hp → Prop) (h0 : Pv 0 σ H) (hl : ∀ i σ H, i ≤ xs.length → Pv i σ H → SqT K H a xs) (hs : ∀ i x σ H, xs[i]? = some x → Pv i σ H → g x σ H fun σ2 H2 => tb ⟨Pv (i + 1), rt, nx, Pv (i + 1)⟩ σ2 H2) (hd : ∀ σ H, Pv xs.length σ H → nx σ H) : ForGo (Itt K a) g tb nx rt σ H :=
  for_tup (D := ⟨nx, rt, nx, nx⟩) Pv h0 hl hs hd
end
theorem map_some_id {α : Type} (l : List α) : (l.map some).filterMap id = l := by
  induction l with
  | nil => rfl
  | cons a r ih => rw [List.map_cons, List.filterMap_cons]; simp [ih]
/-! max of a pair of ints -/
theorem max_pair {prog : Program} {w : World} {A : Around} {E : Value → Shared → Prop} {s : Shared} {l : Addr} {a b : Int} {t u : Tok} {Q : Value → Shared → Prop} (hh : A.handled = none) (hl : s.heap.IsTuple l (PySem.intItems #[(a, t), (b, u)]))
    (h : ∀ h' tk, (∀ c o, s.heap.get? c = some o → h'.get? c = some o) → Q (if b > a then .int b u else .int a t) { s with heap := h', toks := tk }) :
    wpAny (model prog w) A (call (.builtin "max") [.ref l]) Q E s := by
  have hlt : l < s.heap.objs.size := by obtain ⟨_, e, _⟩ := hl; exact Heap.lt_size e
  refine PySem.call_max_walk (PySem.wpAny_pyIter_tuple hl ?_)
  refine ⟨_, [_, l], [_], _, _, _, _, rfl, PySem.Walks.tuple (A := A.in1) hh _ l (Nat.ne_of_lt hlt) (PySem.intItems #[(a, t), (b, u)]),
    ⟨⟨_, Heap.get?_push_size _ rfl, rfl, rfl⟩, hl.push _⟩, fun c hc => ?_, by simp [PySem.intItems], PySem.CmpOf.ints_gt (PySem.numAt #[(a, t), (b, u)]) (fun _ _ => PySem.intItems_at), fun v h' tk hP hk => ?_⟩
  · show c < (s.heap.push _).objs.size
    rw [Heap.size_push]
    rcases List.mem_cons.mp hc with rfl | hc
    · exact Nat.lt_succ_self _
    · rcases List.mem_cons.mp hc with rfl | hc
      · exact Nat.lt_succ_of_lt hlt
      · cases hc
  · have hold : ∀ c o, s.heap.get? c = some o → h'.get? c = some o := fun c o e => by
      refine hk c o (fun hm => ?_) (Heap.get?_push_of_some _ e)
      rcases List.mem_cons.mp hm with e1 | hm
      · exact absurd (e1 ▸ Heap.lt_size e) (Nat.lt_irrefl _)
      · cases hm
    have := h h' tk hold
    have hv : v = if b > a then Value.int b u else Value.int a t := by
      have hP' : (PySem.intItems #[(a, t), (b, u)])[PySem.argBest (fun i j => decide (PySem.numAt #[(a, t), (b, u)] i > PySem.numAt #[(a, t), (b, u)] j)) 1]? = some v := by
        have hsz2 : (PySem.intItems #[(a, t), (b, u)]).size - 1 = 1 := by simp [PySem.intItems]
        rw [← hsz2]; exact hP
      by_cases hba : b > a
      · have e : PySem.argBest (fun i j => decide (PySem.numAt #[(a, t), (b, u)] i > PySem.numAt #[(a, t), (b, u)] j)) 1 = 1 := by simp [PySem.argBest, PySem.numAt, hba]
        rw [e] at hP'
        simpa [PySem.intItems, hba] using hP'.symm
      · have e : PySem.argBest (fun i j => decide (PySem.numAt #[(a, t), (b, u)] i > PySem.numAt #[(a, t), (b, u)] j)) 1 = 0 := by simp [PySem.argBest, PySem.numAt, hba]
        rw [e] at hP'
        simpa [PySem.intItems, hba] using hP'.symm
    rw [hv]
    exact this
def rMaxP (K : PySem.W.Frag) : List V → Hp → VK → Prop := fun vs H Q => ∃ (p : Addr) (a b : Int), vs = [.ref p] ∧ SqT K H p [.int a, .int b] ∧ Q (.int (if b > a then b else a)) H
theorem call_maxP {X : Cx} (hc : X.calm = true) : CallR X (.builtin "max") (rMaxP X.K) := by
  intro pins s σ H vs us Q I r h
  obtain ⟨p, a, b, rfl, hs, q⟩ := h
  obtain ⟨its, rv, hl, _⟩ := I.tuple hs
  rw [Vals.ref1 r]
  obtain ⟨u1, u2, rfl, ⟨t1, rfl⟩, ⟨t2, rfl⟩⟩ := vals2 rv
  have hl' : s.heap.IsTuple p (PySem.intItems #[(a, t1), (b, t2)]) := by
    have e : PySem.intItems #[(a, t1), (b, t2)] = [Value.int a t1, Value.int b t2].toArray := by simp [PySem.intItems]
    rw [e]
    exact hl
  refine max_pair (I.ok.hd hc) hl' fun h' tk k => ⟨.int _, H, I.kept k, ?_, q⟩
  by_cases hba : b > a
  · rw [if_pos hba, if_pos hba]
    exact ⟨_, rfl⟩
  · rw [if_neg hba, if_neg hba]
    exact ⟨_, rfl⟩
/-! str(x) of an instance with an own __str__ -/
def rStrO (C : Addr) (sp : Sp) (E : XK) : List V → Hp → VK → Prop := fun vs H Q => ∃ a dx fs, vs = [.ref a] ∧ H a = some (.ins C dx fs) ∧ sp [.ref a] H (fun v H' => ∃ t, v = .str t ∧ Q v H') E
theorem call_strO {X : Cx} {k : Nat} {C : Addr} {sp : Sp} {E : XK} (c : MetX X.prog X.w X.K X.mg X.base CX0 k C "__str__" sp) (hr : Room (k + 2) X.A) : CallR X (.type "str") (rStrO C sp E) := by
  obtain ⟨f, fd, ps, hc, hm, F, b⟩ := c.ex
  intro pins s σ H vs us Q I r h
  obtain ⟨a, dx, fs, rfl, ea, q⟩ := h
  rw [Vals.ref1 r]
  obtain ⟨mA, O, _⟩ := ins_get I.hok ea
  obtain ⟨od, J, _⟩ := O.look
  have r1 : Room k X.A.in1.in1 := hr.in1.in1
  have hl : ([Value.ref a] ++ ([] : List Value)).length = ps.length := by
    have := F.len _ _ _ _ q
    simpa using this
  refine PySem.W.kso_call r1.units0 I.kIn J hm.at_ hm.fn (wpAny_call (codeAny_mono (F.run _ X.stack s H ⟨[Value.ref a], []⟩ ([Value.ref a] ++ []) [.ref a] _ E r1 I.env0.in1.in1 (b s [Value.ref a] I.kIn hl) (Paired.cons rfl Paired.nil) q) fun r s' hq => ?_))
  cases r with
  | error e => exact False.elim hq
  | ok fl =>
    cases fl with
    | ret u =>
      obtain ⟨v, H', I2, rv, t, rfl, q2⟩ := I.after hq
      obtain ⟨tk, rfl⟩ := rv
      exact ⟨.str t, H', I2, ⟨tk, rfl⟩, q2⟩
    | next => exact False.elim hq
    | brk => exact False.elim hq
    | cont => exact False.elim hq
/-! t[::-1] of a pair -/
section
variable {prog : Program} {w : World} {A : Around} {E : Value → Shared → Prop} {s : Shared}
theorem sliceApplied_rev {sl : Addr} {vl vu vs : Value} {Q : Int × Int × Nat → Shared → Prop} (hs : s.heap.IsSliceOf sl vl vu vs) (pl : PySem.IsPart vl none) (pu : PySem.IsPart vu none) (ps : PySem.IsPart vs (some (-1)))
    (h : Q (1, -1, 2) s) : wpAny (model prog w) A (Builtin.Slice.sliceApplied (.ref sl) (pure ((2 : Nat) : Int))) Q E s := by
  obtain ⟨os, hos, hcs, hds⟩ := id hs
  unfold Builtin.Slice.sliceApplied Builtin.Slice.sliceFields
  refine wpAny_bind (wpAny_bind (wpAny_field hos hds (x := vl) rfl (wpAny_bind (wpAny_field hos hds (x := vu) rfl (wpAny_bind (wpAny_field hos hds (x := vs) rfl (wpAny_pure ?_)))))))
  refine wpAny_bind (HT.slicePart_ ps ?_)
  show wpAny _ _ (if ((-1 : Int) == 0) = true then _ else _) _ _ s
  rw [if_neg (by decide)]
  refine wpAny_bind (HT.slicePart_ pl (wpAny_bind (HT.slicePart_ pu (wpAny_bind (wpAny_pure ?_)))))
  show wpAny _ _ (match Builtin.Slice.sliceAdjust none none (-1) ((2 : Nat) : Int) with | (lo, hi) => pure (lo, (-1 : Int), Builtin.Slice.slicePlaces lo hi (-1))) _ _ s
  exact wpAny_pure h
theorem getItem_tuple_rev {t sl : Addr} {x y vl vu vs : Value} {Q : Value → Shared → Prop} (ht : IsTup s.heap t #[x, y]) (hs : s.heap.IsSliceOf sl vl vu vs) (pl : PySem.IsPart vl none) (pu : PySem.IsPart vu none) (ps : PySem.IsPart vs (some (-1)))
    (h : Q (.ref s.heap.objs.size) { s with heap := s.heap.push { cls := .type "tuple", data := .seq #[y, x] } }) : wpAny (model prog w) A (getItem (.ref t) (.ref sl)) Q E s := by
  have htake : sizeOk (.seq #[y, x]) := by
    show 2 ≤ sizeLine
    decide
  obtain ⟨os, hos, hcs, hds⟩ := id hs
  have hTs : s.TypeIs (.ref sl) "slice" := ⟨os, hos, hcs⟩
  unfold getItem
  try with_reducible refine wpAny_holding ?_
  first | refine wpAny_bind (wpAny_pure ?_) | skip
  refine wpAny_bind (wpAny_sequenceKey ht.typeIs (by decide) ?_)
  refine wpAny_bind (wpAny_callSpecial?_slot (name := Str.ofString "__getitem__") ht.typeIs PyProof.Rows.slot_tuple_getitem
    (wpAny_call_entry PyProof.Rows.slot_tuple_getitem ht.typeIs entry_tuple_getitem ?_ (args_tuple_getitem _ _)))
  show wpAny _ _ (Builtin.Tuple.tupleItemsOf (.ref t) >>= _) _ _ s
  refine wpAny_bind (PyProof.Rows.tupleItemsOf_ ht ?_)
  refine wpAny_bind (wpAny_typeOf hTs ?_)
  rw [if_pos (by decide)]
  refine wpAny_bind (sliceApplied_rev hs pl pu ps ?_)
  show wpAny _ _ (if ((1 : Int) == 0 && (-1 : Int) == 1 && (2 : Nat) == 2) = true then _ else _) _ _ s
  rw [if_neg (by decide)]
  first
    | exact wpAny_bind (m := Builtin.Tuple.tupleExact _) (wpAny_newObj_type (wpAny_pure ⟨_, rfl, wpAny_pure h⟩) htake)
    | exact wpAny_bind (m := Builtin.Tuple.tupleExact _) (wpAny_newObj_type (wpAny_bind (wpAny_pure (wpAny_pure ⟨_, rfl, wpAny_pure h⟩))) htake)
    | exact wpAny_bind (wpAny_bind (m := Builtin.Tuple.tupleExact _) (wpAny_newObj_type (wpAny_pure (wpAny_pure ⟨_, rfl, wpAny_pure h⟩)) htake))
    | exact wpAny_bind (wpAny_bind (m := Builtin.Tuple.tupleExact _) (wpAny_newObj_type (wpAny_pure ⟨_, rfl, wpAny_pure h⟩) htake))
end
def tRevT (K : PySem.W.Frag) (te : TE) : TE := fun σ H Q => te σ H fun x H1 => ∃ a u v, x = .ref a ∧ SqT K H1 a [u, v] ∧ ∀ p, H1 p = none → Q (.ref p) (upd H1 p (.tup [v, u]))
theorem pe_revT {X : Cx} {e : Expr} {te : TE} {k : Nat} {p1 p2 p3 pos : Pos} (he : PE X e te) : PE X (.Subscript e (.Slice none none (some (.UnaryOp .USub (.Constant (.int 1) k p1) p2)) p3) pos) (tRevT X.K te) := by
  refine ⟨fun pins s σ H Q I h => ?_⟩
  refine Subscript_ (thn (he.run pins s σ H _ I h) fun v s1 ⟨x, H1, I1, r1, q1⟩ => ?_)
  obtain ⟨a, x, y, ex, hx, q⟩ := q1
  subst ex
  cases r1
  have hst : PO X (some (.UnaryOp .USub (.Constant (.int 1) k p1) p2)) (tPart (tUn (rU fun i => .int (-i)) (tC (.int 1)))) := po_some (pe_un un_neg pe_int)
  refine wpAny_Slice (thn (po_none.run pins s1 σ H1 (fun o H2 => o = none ∧ H2 = H1) I1 ⟨rfl, rfl⟩) fun vl s2 ⟨l, H2, I2, pl, el, e2⟩ => ?_)
  subst el e2
  refine thn (po_none.run pins s2 σ H2 (fun o H3 => o = none ∧ H3 = H2) I2 ⟨rfl, rfl⟩) fun vu s3 ⟨u, H3, I3, pu, eu, e3⟩ => ?_
  subst eu e3
  refine thn (hst.run pins s3 σ H3 (fun o H4 => o = some (-1) ∧ H4 = H3) I3 ⟨1, rfl, -1, rfl, rfl, rfl⟩) fun vs s4 ⟨o, H4, I4, ps, eo, e4⟩ => ?_
  subst eo e4
  have I5 : Inv X pins σ H4 { s4 with heap := s4.heap.push { cls := .type "slice", data := .fields #[vl, vu, vs] } } := I4.kept (t' := s4.toks) fun b ob q => Heap.get?_push_of_some _ q
  obtain ⟨its, r, ht, hz⟩ := I5.tuple hx
  obtain ⟨u1, u2, rfl, r1, r2⟩ := vals2 r
  show wpAny (model X.prog X.w) X.A (subscriptTail e (.Slice none none (some (.UnaryOp .USub (.Constant (.int 1) k p1) p2)) p3) (.ref a) (.ref s4.heap.objs.size)) (EP X pins σ Q) X.xe { s4 with heap := s4.heap.push { cls := .type "slice", data := .fields #[vl, vu, vs] } }
  refine tail_any (ops := [.ref a, .ref s4.heap.objs.size]) ht.typeIs PyProof.Rows.slot_tuple_getitem.lookup ?_ (by with_unfolding_all rfl)
  refine getItem_tuple_rev ht (Heap.IsSliceOf.new _ vl vu vs) pl pu ps ?_
  refine ⟨.ref _, _, I5.laid (t' := s4.toks) (o := .tup [y, x]) (fun b ob q => Heap.get?_push_of_some _ q) (Nat.le_refl _) ?_, rfl, q _ (I5.hok.fresh (Nat.le_refl _))⟩
  exact ⟨by show 2 ≤ sizeLine; decide, _, .cons r2 (.cons r1 .nil), IsTup.new _ _⟩
/-! readings of texts, fields, calls of methods -/
section
variable {K : PySem.W.Frag} {σ : L2.St} {H : Hp} {Q : VK} {R : Str → Hp → Prop} {t te ta tv : TE} {ts : List TE} {acc : Str} {tl : TA} {C : Addr} {m f : Str} {sp : Sp} {dvs : List V} {E : XK} {nx bk ct : L2.St → Hp → Prop} {rt : VK}
theorem g_js (q : t σ H fun x H1 => ∃ y : Str, x = .str y ∧ (acc ++ y).length ≤ sizeLine ∧ tJs ts (acc ++ y) σ H1 R) : tJs (t :: ts) acc σ H R := q
theorem g_js0 (q : R acc H) : tJs [] acc σ H R := q
theorem g_fmt (q : te σ H fun x H1 => (∃ y : Str, x = .str y ∧ y.length ≤ sizeLine ∧ Q (.str y) H1) ∨ ∃ i : Int, x = .int i ∧ i.natAbs.log2 < 1920 ∧ Q (.str (toString i)) H1) : tFmt te σ H Q := q
theorem g_fld (q : ta σ H fun x H1 => ∃ a C dx fs v, x = .ref a ∧ H1 a = some (.ins C dx fs) ∧ Cls K C ∧ NoAttr K C f ∧ fs.lookup f = some v ∧ Q v H1) : tFld K ta f σ H Q := q
theorem g_sfld (q : tv σ H fun y H1 => ta σ H1 fun x H2 => ∃ a C dx fs, x = .ref a ∧ H2 a = some (.ins C dx fs) ∧ Cls K C ∧ NoAttr K C f ∧ fs.length < 1000 ∧ nx σ (upd H2 a (.ins C dx (putF f y fs)))) : sFld K ta tv f ⟨nx, rt, bk, ct⟩ σ H := q
theorem g_meth (q : ta σ H fun x H1 => ∃ a dx fs, x = .ref a ∧ H1 a = some (.ins C dx fs) ∧ fs.lookup m = none ∧ tl σ H1 fun vs H2 => sp (x :: (vs ++ dvs)) H2 Q E) : tMeth C m sp dvs E ta tl σ H Q := q
theorem g_make (q : tl σ H fun vs H1 => ∀ x dx, H1 x = none → H1 dx = none → dx ≠ x → sp (.ref x :: (vs ++ dvs)) (upd (upd H1 dx (.own x)) x (.ins C dx [])) (fun v H2 => v = .non ∧ Q (.ref x) H2) E) : tMake C sp dvs E tl σ H Q := q
theorem g_prop (q : ta σ H fun x H1 => ∃ a dx fs, x = .ref a ∧ H1 a = some (.ins C dx fs) ∧ sp (.ref a :: dvs) H1 Q E) : tProp C sp dvs E ta σ H Q := q
theorem g_revT (q : te σ H fun x H1 => ∃ a u v, x = .ref a ∧ SqT K H1 a [u, v] ∧ ∀ p, H1 p = none → Q (.ref p) (upd H1 p (.tup [v, u]))) : tRevT K te σ H Q := q
end
/-! x, *y = a list -/
theorem un_laidN {fs ex : List Addr} {H : Hp} {h h' : Heap} {a : Addr} {o : HO} (k : ∀ b u, h.get? b = some u → h'.get? b = some u) (hp : h.get? a = none) (hn : H a = none) : Un fs ex H (upd H a o) h h' where
  keep := fun b u q _ _ _ => k b u q
  slot := fun b u q _ _ _ => ⟨u.slots, k b u q⟩
  free := fun b u q n _ => by rw [upd_ne (fun z => by rw [z, hp] at q; cases q)]; exact n
  there := fun b u q _ => ⟨u, k b u q⟩
  tups := fun b xs q => by rw [upd_ne (ne_of_none q hn)]; exact q
  frzs := fun b u xs q => by rw [upd_ne (ne_of_none q hn)]; exact q
  tbls := fun b ps q => ⟨#[], by rw [upd_ne (ne_of_none q hn), q]; simp⟩
theorem hok_laidN {P : Program} {w : World} {H : Hp} {h h' : Heap} {a : Addr} {o : HO} (x : HOk P w H h) (k : ∀ b u, h.get? b = some u → h'.get? b = some u) (hn : H a = none) (new : ObjOk P w (upd H a o) h' a o) : HOk P w (upd H a o) h' := fun b u e => by
  by_cases hb : b = a
  · subst hb
    rw [upd_same] at e
    cases e
    exact new
  · rw [upd_ne hb] at e
    exact (x b u e).stay (fun c v _ q => k c v q) (fun c q => by rw [upd_ne (ne_of_none q hn)]; exact q) fun c xs q => by rw [upd_ne (ne_of_none q hn)]; exact q
theorem laidN {X : Cx} {pins : List (Addr × Obj)} {σ : L2.St} {H : Hp} {s : Shared} {h' : Heap} {a : Addr} {o : HO} {t' : Nat} (I : Inv X pins σ H s) (k : ∀ b u, s.heap.get? b = some u → h'.get? b = some u) (hp : s.heap.get? a = none) (new : ObjOk X.prog X.w (upd H a o) h' a o) :
    Inv X pins σ (upd H a o) { s with heap := h', toks := t' } := I.un (un_laidN k hp (I.hok.gone hp)) (hok_laidN I.hok k (I.hok.gone hp) new)
theorem star_list {prog : Program} {w : World} {A : Around} {E : Value → Shared → Prop} {s : Shared} {l : Addr} {x : Value} {r : List Value} {Q : List Value → Shared → Prop} (hl : s.heap.IsList l (x :: r).toArray) (hh : A.handled = none) (hz : r.length ≤ 16000)
    (h : ∀ (D : Addr) (h' : Heap) (tk : Nat), (∀ b o, s.heap.get? b = some o → h'.get? b = some o) → s.heap.get? D = none → (∃ n, h'.get? D = some { cls := .type "list", dict := none, data := .seq r.toArray n, slots := #[] }) → Q [x, .ref D] { s with heap := h', toks := tk }) :
    wpAny (model prog w) A (unpackItems (.ref l) 2 (some 1)) Q E s := by
  have hlt : l ≠ s.heap.objs.size := by obtain ⟨o, ho, _⟩ := hl; exact Nat.ne_of_lt (Heap.lt_size ho)
  unfold unpackItems
  refine wpAny_bind ?_
  unfold notIterableAtAll
  refine wpAny_bind (wpAny_specialOf hl.typeIs PySem.slot_list_iter.lookup ?_)
  refine wpAny_pure ?_
  simp only [Bool.false_eq_true, if_false]
  refine wpAny_bind (wpAny_holding (wpAny_pyIter_list hl ?_))
  refine wpAny_bind (wpAny_holding (PySem.W.kun_draw hlt 1 0 _ _ ⟨_, Heap.get?_push_size _ rfl, rfl, rfl⟩ (hl.push _) (by simp) fun h₁ hit₁ hs₁ => ?_))
  have hl₁ : h₁.IsList l (x :: r).toArray := (hl.push _).extBut hs₁.extBut hlt
  have hit₁' := hit₁
  obtain ⟨oi, hoi, _⟩ := hit₁'
  have hl₁' := hl₁
  obtain ⟨ol, hol, _⟩ := hl₁'
  rw [List.drop_zero]
  have e1 : (x :: r).toArray.toList.take 1 = [x] := rfl
  have e2 : (x :: r).toArray.toList.drop 1 = r := rfl
  rw [e1]
  rw [if_neg (show ¬ ([x].length < 1) from Nat.lt_irrefl 1)]
  refine wpAny_bind (wpAny_holding (PySem.W.kun_collect (s := { s with heap := h₁ }) (T := "list_iterator") (.inr (.inr (.inl rfl))) (PySem.Walks.list (A := A.in1) hh s.heap.objs.size l hlt (x :: r).toArray) (fun j u st => st.1.typeIs) (k := 1) (by simp) ⟨hit₁, hl₁⟩ (Heap.lt_size hoi) (Heap.lt_size hol) (fun h₂ tk hk => ?_) (by rw [sizeLine_eq]; simp; omega)))
  rw [e2]
  show wpAny _ _ (if r.length < 0 then _ else _) _ _ _
  rw [if_neg (by omega)]
  show wpAny _ _ (newList (r.take r.length) >>= fun d => pure ([x] ++ [d] ++ r.drop r.length)) _ _ _
  rw [List.take_length, List.drop_length]
  have he : ∀ b o, s.heap.get? b = some o → h₂.get? b = some o := fun b o e => by
    have hb : b ≠ s.heap.objs.size := Nat.ne_of_lt (Heap.lt_size e)
    exact hk b o hb (hs₁.extBut b o hb (Heap.get?_push_of_some _ e))
  have hD : s.heap.get? h₂.objs.size = none := by
    cases q : s.heap.get? h₂.objs.size with
    | none => rfl
    | some o => exact absurd (Heap.lt_size (he _ _ q)) (Nat.lt_irrefl _)
  refine wpAny_bind (wpAny_newObj_type (wpAny_pure (h h₂.objs.size _ tk (fun b o e => Heap.get?_push_of_some _ (he b o e)) hD ⟨_, Heap.get?_push_size _ rfl⟩)) ?_)
  show r.toArray.size ≤ sizeLine
  rw [List.size_toArray, sizeLine_eq]
  omega
def gStar1 (K : PySem.W.Frag) (i j : Nat) : TG := fun v σ H Q => ∃ a u r, v = .ref a ∧ SqL K H a (u :: r) ∧ r.length ≤ 16000 ∧ ∀ p, H p = none → Q ((σ.set i (some u)).set j (some (.ref p))) (upd H p (.lst r))
theorem pg_star1 {X : Cx} {i j : Nat} {x y : Str} {px py ps pt : Pos} {kt : Nat} (hc : X.calm = true) (hN : X.N.Nodup) (hi : X.N[i]? = some x) (hj : X.N[j]? = some y)
    (hx : Loc X.env.scope x) (hy : X.env.scope.names.lookup y = some .local) (hf : X.fn x = true ∨ X.env.scope.names.lookup x = some .local := by first | exact .inl rfl | exact .inr rfl | assumption) : PG X (.Tuple [.Name x px, .Starred (.Name y py) ps] kt pt) (gStar1 X.K i j) := by
  refine ⟨fun pins s σ H v u Q I r h => ?_⟩
  obtain ⟨a, u1, rs, rfl, hq, hz, q⟩ := h
  cases r
  obtain ⟨its, rv, ht, _⟩ := I.list hq
  cases rv with
  | @cons _ v1 _ vr r1 r2 =>
    rw [assign_Tuple]
    refine wpAny_bind (wpAny_standAt ?_)
    show wpAny (model X.prog X.w) X.A (holding [Value.ref a] (unpackItems (.ref a) 2 (some 1)) >>= fun vs => assignInOrder [assign (.Name x px) X.env, assign (.Name y py) X.env] vs) _ _ s
    refine (wpAny_bind (wpAny_holding (star_list ht.isList (I.ok.hd hc) (by have := r2.length; omega) fun D h' tk kp hD ⟨n, e⟩ => ?_)))
    have I1 : Inv X pins σ (upd H D (.lst rs)) { s with heap := h', toks := tk } := laidN I kp hD (show ObjOk X.prog X.w _ h' _ (.lst rs) from ⟨Nat.le_trans hz (by decide), vr, n, r2, e⟩)
    have q1 := q D (I.hok.gone hD)
    refine assignInOrder_cons (wpAny_assign_Name (store_ok I1 hN hi hx r1 (fun s2 I2 => ?_) hf))
    refine assignInOrder_cons (wpAny_assign_Name (store_ok I2 hN hj (.inl hy) (v := V.ref D) rfl (fun s3 I3 => assignInOrder_nil ⟨_, _, I3, q1⟩) (.inr hy)))
theorem g_star1 {K : PySem.W.Frag} {i j : Nat} {a : Addr} {u : V} {r : List V} {σ : L2.St} {H : Hp} {Q : L2.St → Hp → Prop} (h : SqL K H a (u :: r)) (hz : r.length ≤ 16000) (q : ∀ p, H p = none → Q ((σ.set i (some u)).set j (some (.ref p))) (upd H p (.lst r))) :
    gStar1 K i j (.ref a) σ H Q := ⟨a, u, r, rfl, h, hz, q⟩
theorem g_starA {K : PySem.W.Frag} {te : TE} {t : TA} {σ : L2.St} {H : Hp} {Q : List V → Hp → Prop} (q : te σ H fun x H1 => ∃ p xs, x = V.ref p ∧ (SqT K H1 p xs ∨ SqL K H1 p xs) ∧ t σ H1 fun ys H2 => Q (xs ++ ys) H2) : StX.tStar K te t σ H Q := q
/-! a list of ints against [] -/
theorem dp_ints {K : PySem.W.Frag} {H : Hp} : ∀ (l : List Int), DpAll K H (l.map V.int) (l.map PyData.int)
  | [] => .nil
  | n :: r => .cons (.int n) (dp_ints r)
theorem lay_ints : ∀ (l : List Int), PyData.canLayAll0 (l.map PyData.int) = true
  | [] => rfl
  | n :: r => by
    rw [List.map_cons, PyData.canLayAll0, lay_ints r]
    rfl
theorem deep_ints : ∀ (l : List Int), PyData.depthAll (l.map PyData.int) ≤ 1
  | [] => by decide
  | n :: r => by
    rw [List.map_cons, PyData.depthAll]
    have := deep_ints r
    have e : (PyData.int n).depth ≤ 1 := by first | decide | simp [PyData.depth]
    omega
theorem shp_ints (l : List Int) : SeqAt.shaped (.list (l.map .int)) = true := by
  unfold SeqAt.shaped
  rw [PyData.canLay0, lay_ints, PyData.depth]
  have := deep_ints l
  simp
  omega
theorem g_neNil {K : PySem.W.Frag} {H : Hp} {a b : Addr} {l : List Int} {Q : VK} (h : H a = some (.lst (l.map V.int))) (h2 : H b = some (.lst [])) (q : Q (.bl (decide (l ≠ []))) H) : rNeD K (.ref a) (.ref b) H Q := by
  refine ⟨.list (l.map .int), .list [], .lst (SqL.of h) (dp_ints l), .lst (SqL.of h2) .nil, shp_ints l, shp_ints [], ?_⟩
  cases l with
  | nil => exact q
  | cons n r => exact q
end PP
namespace PySem.AutoSeq1
theorem list_extend_tupleO (l : Addr) (items : Array Value) (n : Nat) (b : Addr) (items2 : Array Value) (n2 : Nat) (dd : Option Addr) (sl : Array (Option Value)) (hs0 : ¬(!items.isEmpty && Builtin.List.listTooLong (items.size + items2.size)) = true) (hs1 : items.size ≤ sizeLine) (hs2 : items.size + items2.size ≤ sizeLine + 1) :
    Meets (Builtin.«list.extend» ⟨[.ref l, .ref b], []⟩) (fun _ R s => s.heap.get? l = some { cls := .type "list", dict := none, data := .seq items n, slots := #[] } ∧ s.heap.get? b = some { cls := .type "tuple", dict := dd, data := .seq items2 n2, slots := sl } ∧ R (.ok (.ret Value.none)) { s with heap := s.heap.update l (Obj.mapSeq fun x => x ++ items2), toks := s.toks }) :=
  .of_wp fun prog w A R s h => by
    obtain ⟨hp, g, d, tk, os⟩ := s; obtain ⟨hl, hb, h⟩ := h; have f1 := idx_int; have f2 := sub_tuple_tuple; have f3 := sub_list_list; have f4 := sub_tuple_list; have f5 := sub_list_tuple;
    have hz' : (items ++ items2).size ≤ sizeLine + 1 := by rw [Array.size_append]; exact hs2
    wp_walk using (wpAny_updateSeq hl rfl (hz := hs1) (_hz' := hz')), wpAny_loadPart' hl, wpAny_loadPart' hb; exact ⟨_, rfl, h⟩
end PySem.AutoSeq1
namespace PP
open PySem PySem.Spec PyProof.Rows L2
def rExtT (K : PySem.W.Frag) : V → List V → Hp → VK → Prop := fun x vs H Q => ∃ l b xs zs, x = .ref l ∧ vs = [.ref b] ∧ H l = some (.lst xs) ∧ SqT K H b zs ∧ xs.length + zs.length ≤ sizeLine ∧ Q .non (upd H l (.lst (xs ++ zs)))
theorem mt_extT {X : Cx} : MtM X "list.extend" (rExtT X.K) := by
  intro pins s σ H x vs v us Q I rx rv h
  obtain ⟨l, b, xs, zs, rfl, rfl, hH, hB, hz, q⟩ := h
  cases rx
  obtain ⟨u, rfl, ru⟩ := rv.one
  cases ru
  obtain ⟨z, its, n, r, hl, e⟩ := I.lstM hH
  obtain ⟨its2, r2, ht, hz2⟩ := I.tuple hB
  obtain ⟨⟨cls, dd, data, sl⟩, e2, hc, n2, hd⟩ := id ht
  simp only at hc hd
  subst hc hd
  have hl2 := r2.length
  have hsz : its.toArray.size + its2.toArray.size ≤ sizeLine := by rw [List.size_toArray, List.size_toArray]; omega
  have hlong : ¬ (!its.toArray.isEmpty && Builtin.List.listTooLong (its.toArray.size + its2.toArray.size)) = true := by
    rw [notLongL hsz, Bool.and_false]
    exact Bool.false_ne_true
  refine call_meets PySem.F.slot_list_extend ⟨_, e, rfl⟩ PySem.F.entry_list_extend (PySem.F.args_list_extend_2 _ _)
    (PySem.AutoSeq1.list_extend_tupleO l its.toArray n b its2.toArray n2 dd sl hlong (by rw [List.size_toArray]; omega) (by omega)) ⟨e, e2, ?_⟩
  refine ⟨.non, _, I.lset (its' := its ++ its2) hH e (by simp) (r.append r2) ?_, rfl, q⟩
  rw [List.length_append]
  omega
end PP
-- text PS
/-! more own rules: enumerate over a tuple -/
namespace PySem
set_option maxHeartbeats 1000000 in
theorem meets_enumerate_newT (l : Addr) (items : Array Value) (n : Nat) (dct : Option Addr) (sl : Array (Option Value)) :
    Meets (Builtin.«enumerate.__new__» ⟨[.type "enumerate", .ref l], []⟩) (fun _ R s => s.heap.get? l = some { cls := .type "tuple", dict := dct, data := .seq items n, slots := sl } ∧
      R (.ok (.ret (.ref (s.heap.push { cls := .type "tuple_iterator", data := .fields #[.ref l, .int 0 0] }).objs.size)))
        { s with heap := (s.heap.push { cls := .type "tuple_iterator", data := .fields #[.ref l, .int 0 0] }).push { cls := .type "enumerate", data := .fields #[.none, .bool false, .ref s.heap.objs.size, rawInt 0, .none, .none] } }) :=
  .of_wp fun prog w A R s h => by
    obtain ⟨hp, g, d, tk, os⟩ := s; obtain ⟨hl, h⟩ := h
    have hsub := sub_enumerate
    have hL : Heap.IsTuple (Shared.heap ⟨hp, g, d, tk, os⟩) l items := ⟨_, hl, rfl, n, rfl⟩
    wp_walk using wpAny_loadPart' hl
    refine wpAny_stack_any fun st => wpAny_pure ?_
    split
    · rename_i c _ _ _ _ _
      cases (c == Value.type "enumerate")
      · wp_walk using wpAny_loadPart' hl, wpAny_pyIter_tuple hL
        exact ⟨_, rfl, h⟩
      · wp_walk using wpAny_loadPart' hl, wpAny_pyIter_tuple hL
        exact ⟨_, rfl, h⟩
    · wp_walk using wpAny_loadPart' hl, wpAny_pyIter_tuple hL
      exact ⟨_, rfl, h⟩
end PySem
namespace PP
open PySem PySem.Spec PyProof.Rows L2
theorem call_enum_tuple {prog : Program} {w : World} {A : Around} {E : Value → Shared → Prop} {s : Shared} {l : Addr} {items : Array Value} {Q : Value → Shared → Prop} (hL : s.heap.IsTuple l items)
    (h : ∀ h', IsEnum h' (s.heap.objs.size + 1) s.heap.objs.size 0 .none → h'.IsTupleIter s.heap.objs.size l 0 → h'.objs.size = s.heap.objs.size + 2 →
      (∀ b o, s.heap.get? b = some o → h'.get? b = some o) → Q (.ref (s.heap.objs.size + 1)) { s with heap := h' }) :
    wpAny (model prog w) A (call (.type "enumerate") [.ref l]) Q E s := by
  obtain ⟨⟨c, dct, dt, sl⟩, hl, hc, n, hd⟩ := hL
  replace hc : c = .type "tuple" := hc
  replace hd : dt = .seq items n := hd
  subst hc hd
  refine callType_new F.called_enumerate (by decide) (F.typeCall_enumerate_1 _) (F.newCall_enumerate_1 _) (fun obj => F.args_object_init_2 obj _) F.entry_enumerate_new
    (meets_enumerate_newT l items n dct sl) ⟨hl, ?_⟩
  have hz : (s.heap.push { cls := .type "tuple_iterator", data := .fields #[.ref l, .int 0 0] }).objs.size = s.heap.objs.size + 1 := Heap.size_push ..
  show _ ∧ _
  rw [hz]
  have he : IsEnum ((s.heap.push { cls := .type "tuple_iterator", data := .fields #[.ref l, .int 0 0] }).push
      { cls := .type "enumerate", data := .fields #[.none, .bool false, .ref s.heap.objs.size, rawInt 0, .none, .none] }) (s.heap.objs.size + 1) s.heap.objs.size 0 .none := by
    have := Heap.get?_push_size (s.heap.push { cls := .type "tuple_iterator", data := .fields #[.ref l, .int 0 0] })
      (o := { cls := .type "enumerate", data := .fields #[.none, .bool false, .ref s.heap.objs.size, rawInt 0, .none, .none] }) rfl
    rw [hz] at this; exact this
  refine ⟨⟨_, he, rfl⟩, h _ he ⟨_, Heap.get?_push_of_some _ (Heap.get?_push_size _ rfl), rfl, rfl⟩ (by rw [Heap.size_push, hz]) fun b o x => Heap.get?_push_of_some _ (Heap.get?_push_of_some _ x)⟩
theorem enum_tup_end {prog : Program} {w : World} {A : Around} {E : Value → Shared → Prop} {s : Shared} {e it l : Addr} {i : Nat} {k : Int} {items : Array Value} {old : Value} {Q : Option Value → Shared → Prop} (hh : A.handled = none)
    (he : IsEnum s.heap e it k old) (hit : s.heap.IsTupleIter it l i) (hl : s.heap.IsTuple l items) (hx : items[i]? = none)
    (hQ : ∀ h', Heap.ExtBut it s.heap h' → Q none { s with heap := h' }) : wpAny (model prog w) A (pyNext (.ref e)) Q E s := by
  have hT : s.TypeIs (.ref e) "enumerate" := ⟨_, he, rfl⟩
  unfold pyNext
  refine wpAny_bind (wpAny_attempt (wpAny_callSpecial?_slot (name := Str.ofString "__next__") hT F.slot_enumerate_next
    (wpAny_call_entry F.slot_enumerate_next hT F.entry_enumerate_next ?_ (F.args_enumerate_next_1 _))))
  show wpAny _ _ (field (.ref e) 2 >>= _) _ _ _
  refine wpAny_bind (wpAny_field he rfl (x := .ref it) rfl ?_)
  refine wpAny_bind (wpAny_nextOf_tuple_end hh hit hl hx fun h' x he' hx' => ?_)
  obtain ⟨o, ho, hc⟩ := hx'
  refine wpAny_bind (wpAny_isInstance (T := "StopIteration") (b := true) ⟨o, ho, hc⟩ isSubtype_stop ?_)
  exact wpAny_pure (hQ _ he')
/-- the tuple at a, each item in a new pair -/
def IteT (K : PySem.W.Frag) (a : Addr) : It :=
  ⟨fun i H => ∃ (xs : List V) (x : V), SqT K H a xs ∧ xs[i]? = some x, fun i H v H' => ∃ T x, v = .ref T ∧ H T = none ∧ H' = upd H T (.tup [.int (i : Nat), x]) ∧ ∀ xs, SqT K H a xs → xs[i]? = some x, fun i H => ∃ xs : List V, SqT K H a xs ∧ xs.length ≤ i⟩
theorem turn_enumT {P : Program} {w : World} {K : PySem.W.Frag} {elts : List Expr} {kk : Nat} {tpos : Pos} (a e it : Addr) :
    Turn P w K (.Tuple elts kk tpos) (IteT K a) [e, it] e (fun i h => (∃ old, IsEnum h e it ((i : Nat) : Int) old) ∧ h.IsTupleIter it a i ∧ e ≠ it ∧ a ≠ it ∧ a ≠ e) where
  mem := by simp
  obj := fun i h st b hb => by
    obtain ⟨⟨old, he⟩, ⟨o, ho, hc, hd⟩, _⟩ := st
    have e' : b = e ∨ b = it := by simpa using hb
    rcases e' with z | z
    · rw [z]; exact ⟨_, he, fun v q => nomatch q⟩
    · rw [z]; exact ⟨o, ho, fun v q => by rw [hd] at q; cases q⟩
  keep := fun i h h' st k => let ⟨⟨old, he⟩, hi, hne⟩ := st; ⟨⟨old, k e (by simp) _ he⟩, hi.at fun o q => k it (by simp) o q, hne⟩
  item := by
    intro X hP hw hK hc i pins s σ H E I hf st hg
    subst hP hw hK
    obtain ⟨⟨old, he⟩, hit, hne, hai, hae⟩ := st
    obtain ⟨xs, x, hq, hx⟩ := hg
    obtain ⟨its, rv, p, hz⟩ := I.tuple hq
    obtain ⟨u, hu, ru⟩ := rv.get hx
    have hel : e < s.heap.objs.size := Heap.lt_size he
    have hil : it < s.heap.objs.size := by obtain ⟨_, q, _⟩ := hit; exact Heap.lt_size q
    have hlt : i < its.length := (List.getElem?_eq_some_iff.mp hu).1
    refine PySem.wpAny_pyNext_enum_itemD (PySem.Draws.tuple (A := X.A.in1) (I.ok.hd hc) it a hai its.toArray) he ⟨hit, p⟩ (by simpa using hlt) hne (by simp [hne, Ne.symm hae]) fun u2 h' tk hP ho hit' hT hsz hk => ?_
    have eu : u2 = u := by
      have : its[i]? = some u2 := by simpa using hP
      rw [hu] at this
      cases this
      rfl
    subst eu
    refine ⟨_, rfl, wpAny_letOwnedTupleGo_enum (s := { s with heap := h', toks := tk + 1 }) ho fun h'' he' sb => ?_⟩
    have hT2 : h''.get? s.heap.objs.size = some { cls := .type "tuple", data := .seq #[.int i tk, u2] } := (sb.2 _ (Nat.ne_of_gt hel)).trans hT
    have new : ObjOk X.prog X.w (upd H s.heap.objs.size (.tup [.int (i : Nat), x])) h'' s.heap.objs.size (.tup [.int (i : Nat), x]) :=
      ⟨by show 2 ≤ sizeLine; decide, [.int i tk, u2], .cons ⟨_, rfl⟩ (.cons ru .nil), ⟨_, hT2, rfl, _, rfl⟩⟩
    have I1 : Inv X pins σ (upd H s.heap.objs.size (.tup [.int (i : Nat), x])) { s with heap := h'', toks := tk + 1 } :=
      I.turnedNew (ch := [e, it]) (fun b ob hb q => (sb.2 b (fun z => hb (by simp [z]))).trans (hk b ob (fun z => hb (by simp [z])) (fun z => hb (by simp [z])) q)) hf (Nat.le_refl _) new
    refine ⟨.ref s.heap.objs.size, _, I1, rfl, ⟨_, x, rfl, I.hok.fresh (Nat.le_refl _), rfl, fun ys hy => by rw [I.tuple_inj hy hq]; exact hx⟩, ⟨⟨u2, ?_⟩, hit'.1.at fun o q => (sb.2 it (Ne.symm hne)).trans q, hne, hai, hae⟩, fun b hb => ?_⟩
    · have e1 : ((i + 1 : Nat) : Int) = (i : Int) + 1 := by omega
      rw [e1]; exact he'
    · have hb' : b < s.heap.objs.size := by
        have e' : b = e ∨ b = it := by simpa using hb
        rcases e' with z | z
        · rw [z]; exact hel
        · rw [z]; exact hil
      rw [upd_ne (Nat.ne_of_lt hb')]
      exact (hf b hb).1
  done := by
    intro X hP hw hK hc i pins s σ H E I hf st hg
    subst hP hw hK
    obtain ⟨⟨old, he⟩, hit, hne, hai, hae⟩ := st
    obtain ⟨xs, hq, hx⟩ := hg
    obtain ⟨its, rv, p, hz⟩ := I.tuple hq
    obtain ⟨f0, f1, f2, f3, f4, f5⟩ := hf it (by simp)
    have hl := rv.length
    exact enum_tup_end (I.ok.hd hc) he hit p (by simp; omega) fun h' eb => ⟨rfl, I.turned (t' := s.toks) (fun b o hb q => eb b o hb q) f0 f1 f3 f4 f5⟩
  self := fun A i s Q E st h => let ⟨⟨_, he⟩, _⟩ := st; wpAny_pyIter_enum he h
def iEnumT (K : PySem.W.Frag) (ta : TA) : TI := fun σ H R => ta σ H fun vs H1 => ∃ a xs, vs = [.ref a] ∧ SqT K H1 a xs ∧ R (IteT K a) H1
theorem pi_enumT {X : Cx} {e : Expr} {ta : TA} {p pos tpos : Pos} {elts : List Expr} {kk : Nat} (hg : Gl X "enumerate") (hm : X.mg "enumerate" = none) (ha : PA X [e] ta) (hs : starEach [e] X.env = [(false, eval e X.env)] := by rfl) :
    PI X (.Tuple elts kk tpos) (.Call (.Name "enumerate" p) [e] [] pos) (iEnumT X.K ta) := by
  refine ⟨fun pins s σ H R I h => ?_⟩
  refine Call_ (ld_blt I hg hm boot_enumerate (PyProof.Rows.callWith_type1 (thn (ha.run pos pins s σ H _ I h) fun us s1 ⟨vs, H1, I1, r1, q1⟩ => ?_) hs rfl))
  obtain ⟨a, xs, ex, hq, q⟩ := q1
  subst ex
  cases r1 with
  | cons r rr =>
    cases rr
    cases r
    obtain ⟨its, rv, p', hz⟩ := I1.tuple hq
    have hal : a < s1.heap.objs.size := p'.lt
    refine call_enum_tuple p' fun h' he hit hsz hk => wpAny_pyIter_enum he ?_
    have I2 : Inv X pins σ H1 { s1 with heap := h' } := I1.kept (t' := s1.toks) hk
    refine ⟨s1.heap.objs.size + 1, [s1.heap.objs.size + 1, s1.heap.objs.size], _, _, H1, rfl, I2, turn_enumT a (s1.heap.objs.size + 1) s1.heap.objs.size, ⟨⟨.none, he⟩, hit, Nat.succ_ne_self _, Nat.ne_of_lt hal, Nat.ne_of_lt (Nat.lt_succ_of_lt hal)⟩, fun b hb => ?_, q⟩
    have e' : b = s1.heap.objs.size + 1 ∨ b = s1.heap.objs.size := by simpa using hb
    have hle : s1.heap.objs.size ≤ b := by
      rcases e' with z | z
      · rw [z]; exact Nat.le_add_right _ _
      · rw [z]; exact Nat.le_refl _
    exact I1.fpOk hle (I1.hok.fresh hle)
theorem g_iE {K : PySem.W.Frag} {ta : TA} {σ : L2.St} {H : Hp} {R : It → Hp → Prop} (q : ta σ H fun vs H1 => ∃ a xs, vs = [.ref a] ∧ SqT K H1 a xs ∧ R (IteT K a) H1) : iEnumT K ta σ H R := q
end PP
-- text PT
namespace PP
open PySem PySem.Spec PyProof.Rows L2 RZ
section
variable {K : PySem.W.Frag} {a b : Addr} {xs ys : List V} {n : Nat} {g : TG} {tb : TS} {tt : TT} {te : TE} {ta : TA} {σ : L2.St} {H H1 : Hp} {D : Addr} {vs : List Nat} {nx bk ct : L2.St → Hp → Prop} {rt : VK} {R : It → Hp → Prop} {Qd : Hp → Prop} {Q : VK}
theorem g_iZ (q : ta σ H fun vs H1 => ∃ a b xs ys, vs = [.ref a, .ref b] ∧ ((SqL K H1 a xs ∧ SqL K H1 b ys ∧ R (Itz K a b) H1) ∨ (SqT K H1 a xs ∧ SqT K H1 b ys ∧ R (ItzT K a b) H1))) : iZipA K ta σ H R := q
theorem g_iEl (q : ta σ H fun vs H1 => ∃ a xs, vs = [.ref a] ∧ SqL K H1 a xs ∧ R (Ite K a) H1) : iEnum K ta σ H R := q
theorem walk_enumT : Walk (IteT K a) xs.length (fun H => SqT K H a xs) (YPair (fun i => some (.int (i : Nat))) (fun i => xs[i]?)) := by
  refine ⟨fun i _ hi q => ⟨xs, xs[i], q, by simp [hi]⟩, fun _ q => ⟨xs, q, Nat.le_refl _⟩, fun i H v H' _ q y => ?_⟩
  obtain ⟨T, x, h1, h2, h3, h4⟩ := y
  exact ⟨T, .int (i : Nat), x, h1, h2, h3, rfl, h4 xs q⟩
theorem walk_zipT {n : Nat} (hn : n = min xs.length ys.length) : Walk (ItzT K a b) n (fun H => SqT K H a xs ∧ SqT K H b ys) (YPair (fun i => xs[i]?) (fun i => ys[i]?)) := by
  subst hn
  refine ⟨fun i _ hi q => ?_, fun _ q => ⟨xs, ys, q.1, q.2, by omega⟩, fun i H v H' _ q y => ?_⟩
  · have h1 : i < xs.length := by omega
    have h2 : i < ys.length := by omega
    exact ⟨xs, ys, xs[i], ys[i], q.1, q.2, by simp [h1], by simp [h2]⟩
  · obtain ⟨T, x, z, h1, h2, h3, h4, h5⟩ := y
    exact ⟨T, x, z, h1, h2, h3, h4 xs q.1, h5 ys q.2⟩
/-- for over pairs -/
theorem forP {J : It} {G : Hp → Prop} {f h : Nat → Option V} (w : Walk J n G (YPair f h)) (Pv : Nat → L2.St → Hp → Prop) (h0 : Pv 0 σ H) (hl : ∀ i σ H, i ≤ n → Pv i σ H → G H)
    (hs : ∀ (i : Nat) (x y : V) (T : Addr) (σ : L2.St) (H : Hp), i < n → f i = some x → h i = some y → Pv i σ H → H T = none → g (.ref T) σ (upd H T (.tup [x, y])) fun σ2 H2 => tb ⟨Pv (i + 1), rt, nx, Pv (i + 1)⟩ σ2 H2)
    (hd : ∀ σ H, Pv n σ H → nx σ H) : ForGo J g tb nx rt σ H :=
  for_it (D := ⟨nx, rt, nx, nx⟩) w Pv h0 hl (fun i x σ H H' hi p y => by
    obtain ⟨T, x, y, rfl, hT, rfl, e1, e2⟩ := y
    exact hs i x y T σ H hi e1 e2 p hT) hd
/-- a comprehension over pairs, where all stays -/
theorem lc_goP {J : It} {G : Hp → Prop} {f h : Nat → Option V} (ks : List (Option V)) (w : Walk J n G (YPair f h)) (hn : n = ks.length) (hG : G H1) (hm : ∀ H, Same H1 H → G H) (hD : H1 D = none) (hz : ks.length ≤ 100000)
    (hs : ∀ (i : Nat) (x y : V) (T : Addr) (k : Option V) (H : Hp), f i = some x → h i = some y → ks[i]? = some k → Same H1 H → H T = none → ∀ R : Option V → Hp → Prop, (∀ H'', Same H H'' → R k H'') →
      g (.ref T) (wipe σ vs) (upd H T (.tup [x, y])) fun σ2 H2 => wipe σ2 vs = wipe σ vs ∧ tt σ2 H2 fun b H3 => if b = true then te σ2 H3 fun y H4 => R (some y) H4 else R none H3)
    (hd : ∀ H, Same H1 H → H D = some (.lst (ks.filterMap id)) → Qd H) : LcGo J g tt te vs σ D H1 Qd := by
  subst hn
  refine ⟨fun i m H => m = ks.length - i ∧ i ≤ ks.length ∧ Same H1 H ∧ H D = some (.lst ((ks.take i).filterMap id)), ⟨ks.length, by simp, Nat.zero_le _, same_mut (Same.refl H1) hD, upd_same⟩, ?_⟩
  rintro i m H ⟨rfl, hi, k0, hl⟩
  by_cases hlt : i < ks.length
  · refine .inr ⟨w.goes i H hlt (hm H k0), fun H' => Same H1 H' ∧ H' D = some (.lst ((ks.take (i + 1)).filterMap id)), fun H' p => ⟨ks.length - (i + 1), by omega, rfl, hlt, p.1, p.2⟩, fun x H' y => ?_⟩
    have hk : ks[i]? = some ks[i] := List.getElem?_eq_getElem hlt
    obtain ⟨T, u, v, rfl, hT, rfl, e1, e2⟩ := w.yields i H x H' hlt (hm H k0) y
    have nD : D ≠ T := fun z => by rw [z, hT] at hl; cases hl
    refine hs i u v T _ H e1 e2 hk k0 hT (fun o H4 => match o with
      | some v => ∃ acc, H4 D = some (.lst acc) ∧ acc.length < sizeLine ∧ (Same H1 (upd H4 D (.lst (acc ++ [v]))) ∧ (upd H4 D (.lst (acc ++ [v]))) D = some (.lst ((ks.take (i + 1)).filterMap id)))
      | none => Same H1 H4 ∧ H4 D = some (.lst ((ks.take (i + 1)).filterMap id))) fun H'' k2 => ?_
    have kk := Same.trans k0 k2
    have hD2 := k2 _ _ hl
    rw [filterMap_take hk]
    cases ks[i] with
    | none => exact ⟨kk, by simpa using hD2⟩
    | some v =>
      refine ⟨_, hD2, ?_, same_mut kk hD, upd_same⟩
      have a := List.length_filterMap_le (f := id) (ks.take i)
      have b := List.length_take_le i ks
      have c : 100000 < sizeLine := by decide
      omega
  · have e : i = ks.length := by omega
    subst e
    rw [List.take_length] at hl
    exact .inl ⟨w.stops H (hm H k0), hd H k0 hl⟩
end
end PP
-- text M1
namespace PP
/-! numbers that are products of 2, 3, 5, 7 -/
def sm (a b c d : Nat) : Nat := 2 ^ a * 3 ^ b * 5 ^ c * 7 ^ d
structure Pr (p : Nat) : Prop where
  two : 2 ≤ p
  dv : ∀ d, d ∣ p → d = 1 ∨ d = p
theorem pr_of {p : Nat} (h2 : 2 ≤ p) (h : ∀ d, d ≤ p → d ∣ p → d = 1 ∨ d = p) : Pr p := ⟨h2, fun d hd => h d (Nat.le_of_dvd (by omega) hd) hd⟩
theorem pr2 : Pr 2 := pr_of (by decide) (by decide)
theorem pr3 : Pr 3 := pr_of (by decide) (by decide)
theorem pr5 : Pr 5 := pr_of (by decide) (by decide)
theorem pr7 : Pr 7 := pr_of (by decide) (by decide)
theorem Pr.cop {p m : Nat} (h : Pr p) (hm : ¬ p ∣ m) : Nat.Coprime p m := by
  rcases h.dv _ (Nat.gcd_dvd_left p m) with e | e
  · exact e
  · exact absurd (e ▸ Nat.gcd_dvd_right p m) hm
theorem Pr.not_of_cop {p m : Nat} (h : Pr p) (hm : Nat.Coprime p m) : ¬ p ∣ m := fun z => by
  have e : Nat.gcd p m = p := Nat.gcd_eq_left z
  have := h.two
  rw [hm] at e
  omega
theorem Pr.mul {p m n : Nat} (h : Pr p) (h1 : ¬ p ∣ m) (h2 : ¬ p ∣ n) : ¬ p ∣ m * n :=
  h.not_of_cop (Nat.Coprime.mul_right (h.cop h1) (h.cop h2))
theorem Pr.pow {p m : Nat} (h : Pr p) (h1 : ¬ p ∣ m) (k : Nat) : ¬ p ∣ m ^ k := h.not_of_cop (Nat.Coprime.pow_right k (h.cop h1))
/-- the power of p in a product is told in one way -/
theorem part_unique {p : Nat} (hp : 2 ≤ p) : ∀ {i j u v : Nat}, ¬ p ∣ u → ¬ p ∣ v → p ^ i * u = p ^ j * v → i = j ∧ u = v
  | 0, 0, u, v, _, _, h => ⟨rfl, by simpa using h⟩
  | 0, j + 1, u, v, hu, _, h => absurd ⟨p ^ j * v, by rw [Nat.pow_succ] at h; simp at h; rw [h, Nat.mul_comm (p ^ j) p, Nat.mul_assoc]⟩ hu
  | i + 1, 0, u, v, _, hv, h => absurd ⟨p ^ i * u, by rw [Nat.pow_succ] at h; simp at h; rw [← h, Nat.mul_comm (p ^ i) p, Nat.mul_assoc]⟩ hv
  | i + 1, j + 1, u, v, hu, hv, h => by
    have h2 : p ^ i * u = p ^ j * v := by
      rw [Nat.pow_succ, Nat.pow_succ, Nat.mul_comm (p ^ i) p, Nat.mul_comm (p ^ j) p, Nat.mul_assoc, Nat.mul_assoc] at h
      exact Nat.eq_of_mul_eq_mul_left (by omega) h
    obtain ⟨e1, e2⟩ := part_unique hp hu hv h2
    exact ⟨by rw [e1], e2⟩
theorem part_has {p : Nat} (hp : 2 ≤ p) : ∀ (r : Nat), 0 < r → ∃ i m, r = p ^ i * m ∧ ¬ p ∣ m := by
  intro r
  induction r using Nat.strongRecOn with
  | ind r ih =>
    intro hr
    by_cases h : p ∣ r
    · obtain ⟨q, hq⟩ := h
      have q0 : 0 < q := by
        rcases Nat.eq_zero_or_pos q with z | z
        · rw [z] at hq; omega
        · exact z
      have lt : q < r := by
        rw [hq]
        have : 1 * q < p * q := Nat.mul_lt_mul_of_pos_right (by omega) q0
        omega
      obtain ⟨i, m, e, hm⟩ := ih q lt q0
      exact ⟨i + 1, m, by rw [hq, e, Nat.pow_succ, Nat.mul_comm (p ^ i) p, Nat.mul_assoc], hm⟩
    · exact ⟨0, r, by simp, h⟩
/-- a perfect power: its parts' exponents are divided -/
theorem part_pow {p r k x u : Nat} (hp : Pr p) (hk : 1 ≤ k) (hu : ¬ p ∣ u) (h : r ^ k = p ^ x * u) : k ∣ x := by
  have hr : 0 < r := by
    rcases Nat.eq_zero_or_pos r with z | z
    · rw [z, Nat.zero_pow hk] at h
      have h1 : 0 < p ^ x := Nat.pow_pos (by have := hp.two; omega)
      rcases Nat.mul_eq_zero.mp h.symm with e | e
      · omega
      · exact absurd (e ▸ Nat.dvd_zero p) hu
    · exact z
  obtain ⟨i, m, e, hm⟩ := part_has hp.two r hr
  rw [e, Nat.mul_pow, ← Nat.pow_mul] at h
  obtain ⟨e1, _⟩ := part_unique hp.two (hp.pow hm k) hu h
  exact ⟨i, by rw [← e1, Nat.mul_comm]⟩
section
variable {a b c d : Nat}
theorem nd2 : ¬ 2 ∣ 3 ^ b * 5 ^ c * 7 ^ d := pr2.mul (pr2.mul (pr2.pow (by decide) _) (pr2.pow (by decide) _)) (pr2.pow (by decide) _)
theorem nd3 : ¬ 3 ∣ 2 ^ a * 5 ^ c * 7 ^ d := pr3.mul (pr3.mul (pr3.pow (by decide) _) (pr3.pow (by decide) _)) (pr3.pow (by decide) _)
theorem nd5 : ¬ 5 ∣ 2 ^ a * 3 ^ b * 7 ^ d := pr5.mul (pr5.mul (pr5.pow (by decide) _) (pr5.pow (by decide) _)) (pr5.pow (by decide) _)
theorem nd7 : ¬ 7 ∣ 2 ^ a * 3 ^ b * 5 ^ c := pr7.mul (pr7.mul (pr7.pow (by decide) _) (pr7.pow (by decide) _)) (pr7.pow (by decide) _)
theorem sm2 : sm a b c d = 2 ^ a * (3 ^ b * 5 ^ c * 7 ^ d) := by unfold sm; simp only [Nat.mul_assoc]
theorem sm3 : sm a b c d = 3 ^ b * (2 ^ a * 5 ^ c * 7 ^ d) := by unfold sm; simp only [Nat.mul_assoc, Nat.mul_left_comm, Nat.mul_comm]
theorem sm5 : sm a b c d = 5 ^ c * (2 ^ a * 3 ^ b * 7 ^ d) := by unfold sm; simp only [Nat.mul_assoc, Nat.mul_left_comm, Nat.mul_comm]
theorem sm7 : sm a b c d = 7 ^ d * (2 ^ a * 3 ^ b * 5 ^ c) := by unfold sm; simp only [Nat.mul_assoc, Nat.mul_left_comm, Nat.mul_comm]
theorem sm_pos : 0 < sm a b c d := Nat.mul_pos (Nat.mul_pos (Nat.mul_pos (Nat.pow_pos (by decide)) (Nat.pow_pos (by decide))) (Nat.pow_pos (by decide))) (Nat.pow_pos (by decide))
theorem sm_root {r k : Nat} (hk : 1 ≤ k) (h : r ^ k = sm a b c d) : k ∣ a ∧ k ∣ b ∧ k ∣ c ∧ k ∣ d :=
  ⟨part_pow pr2 hk nd2 (h.trans sm2), part_pow pr3 hk nd3 (h.trans sm3), part_pow pr5 hk nd5 (h.trans sm5), part_pow pr7 hk nd7 (h.trans sm7)⟩
theorem sm_inj {a' b' c' d' : Nat} (h : sm a b c d = sm a' b' c' d') : a = a' ∧ b = b' ∧ c = c' ∧ d = d' :=
  ⟨(part_unique (by decide) nd2 nd2 (sm2.symm.trans (h.trans sm2))).1, (part_unique (by decide) nd3 nd3 (sm3.symm.trans (h.trans sm3))).1,
    (part_unique (by decide) nd5 nd5 (sm5.symm.trans (h.trans sm5))).1, (part_unique (by decide) nd7 nd7 (sm7.symm.trans (h.trans sm7))).1⟩
theorem sm_pow (k : Nat) : sm a b c d ^ k = sm (a * k) (b * k) (c * k) (d * k) := by
  unfold sm
  rw [Nat.mul_pow, Nat.mul_pow, Nat.mul_pow, ← Nat.pow_mul, ← Nat.pow_mul, ← Nat.pow_mul, ← Nat.pow_mul]
theorem sm_mul {a' b' c' d' : Nat} : sm a b c d * sm a' b' c' d' = sm (a + a') (b + b') (c + c') (d + d') := by
  unfold sm
  rw [Nat.pow_add, Nat.pow_add, Nat.pow_add, Nat.pow_add]
  simp only [Nat.mul_assoc, Nat.mul_left_comm, Nat.mul_comm]
theorem sm_zero : sm 0 0 0 0 = 1 := by decide
theorem sm_one (h : sm a b c d = 1) : a = 0 ∧ b = 0 ∧ c = 0 ∧ d = 0 := sm_inj (h.trans sm_zero.symm)
theorem cop_min {p x y : Nat} (h : x = 0 ∨ y = 0) : Nat.Coprime (p ^ x) (p ^ y) := by
  rcases h with e | e <;> rw [e, Nat.pow_zero]
  · exact Nat.coprime_one_left _
  · exact Nat.coprime_one_right _
theorem sm_cop {a' b' c' d' : Nat} (h1 : a = 0 ∨ a' = 0) (h2 : b = 0 ∨ b' = 0) (h3 : c = 0 ∨ c' = 0) (h4 : d = 0 ∨ d' = 0) : Nat.Coprime (sm a b c d) (sm a' b' c' d') := by
  have q : ∀ {p q : Nat} (x y : Nat), Nat.Coprime p q → Nat.Coprime (p ^ x) (q ^ y) := fun x y h => Nat.Coprime.pow x y h
  unfold sm
  refine Nat.Coprime.mul_left (Nat.Coprime.mul_left (Nat.Coprime.mul_left ?_ ?_) ?_) ?_ <;> refine Nat.Coprime.mul_right (Nat.Coprime.mul_right (Nat.Coprime.mul_right ?_ ?_) ?_) ?_ <;>
    first | exact cop_min h1 | exact cop_min h2 | exact cop_min h3 | exact cop_min h4 | exact q _ _ (by decide)
theorem sm_gcd {a' b' c' d' : Nat} : Nat.gcd (sm a b c d) (sm a' b' c' d') = sm (min a a') (min b b') (min c c') (min d d') := by
  have e1 : sm a b c d = sm (min a a') (min b b') (min c c') (min d d') * sm (a - min a a') (b - min b b') (c - min c c') (d - min d d') := by
    rw [sm_mul]; congr 1 <;> omega
  have e2 : sm a' b' c' d' = sm (min a a') (min b b') (min c c') (min d d') * sm (a' - min a a') (b' - min b b') (c' - min c c') (d' - min d d') := by
    rw [sm_mul]; congr 1 <;> omega
  rw [e1, e2, Nat.gcd_mul_left]
  have e3 : Nat.gcd (sm (a - min a a') (b - min b b') (c - min c c') (d - min d d')) (sm (a' - min a a') (b' - min b b') (c' - min c c') (d' - min d d')) = 1 := sm_cop (by omega) (by omega) (by omega) (by omega)
  rw [e3, Nat.mul_one]
theorem sm_div {a' b' c' d' : Nat} (h1 : a' ≤ a) (h2 : b' ≤ b) (h3 : c' ≤ c) (h4 : d' ≤ d) : sm a b c d / sm a' b' c' d' = sm (a - a') (b - b') (c - c') (d - d') := by
  have e : sm a b c d = sm a' b' c' d' * sm (a - a') (b - b') (c - c') (d - d') := by
    rw [sm_mul]; congr 1 <;> omega
  rw [e, Nat.mul_div_cancel_left _ sm_pos]
end
/-! four exponents, whole numbers -/
structure E4 where
  a : Int
  b : Int
  c : Int
  d : Int
  deriving DecidableEq
namespace E4
def tp (e : E4) : Nat := sm e.a.toNat e.b.toNat e.c.toNat e.d.toNat
def bt (e : E4) : Nat := sm (-e.a).toNat (-e.b).toNat (-e.c).toNat (-e.d).toNat
/-- the greatest common divisor of the exponents -/
def g (e : E4) : Nat := Nat.gcd (Nat.gcd (Nat.gcd e.a.natAbs e.b.natAbs) e.c.natAbs) e.d.natAbs
def mul (e : E4) (k : Int) : E4 := ⟨e.a * k, e.b * k, e.c * k, e.d * k⟩
def neg (e : E4) : E4 := ⟨-e.a, -e.b, -e.c, -e.d⟩
def zero : E4 := ⟨0, 0, 0, 0⟩
def dv (e : E4) (k : Int) : E4 := ⟨e.a / k, e.b / k, e.c / k, e.d / k⟩
def row (e : E4) : List Int := [e.a, e.b, e.c, e.d]
variable {e f : E4} {k : Nat}
theorem tp_pos : 0 < e.tp := sm_pos
theorem bt_pos : 0 < e.bt := sm_pos
theorem cop : Nat.Coprime e.tp e.bt := sm_cop (by omega) (by omega) (by omega) (by omega)
theorem inj (h1 : e.tp = f.tp) (h2 : e.bt = f.bt) : e = f := by
  obtain ⟨x1, x2, x3, x4⟩ := sm_inj h1
  obtain ⟨y1, y2, y3, y4⟩ := sm_inj h2
  obtain ⟨a, b, c, d⟩ := e
  obtain ⟨a', b', c', d'⟩ := f
  simp only at x1 x2 x3 x4 y1 y2 y3 y4
  simp only [E4.mk.injEq]
  omega
theorem dvd_g : k ∣ e.g ↔ (k : Int) ∣ e.a ∧ (k : Int) ∣ e.b ∧ (k : Int) ∣ e.c ∧ (k : Int) ∣ e.d := by
  unfold g
  rw [Nat.dvd_gcd_iff, Nat.dvd_gcd_iff, Nat.dvd_gcd_iff, ← Int.ofNat_dvd_left, ← Int.ofNat_dvd_left, ← Int.ofNat_dvd_left, ← Int.ofNat_dvd_left]
  constructor
  · rintro ⟨⟨⟨h1, h2⟩, h3⟩, h4⟩
    exact ⟨h1, h2, h3, h4⟩
  · rintro ⟨h1, h2, h3, h4⟩
    exact ⟨⟨⟨h1, h2⟩, h3⟩, h4⟩
theorem toNat_mul {x : Int} : (x * (k : Int)).toNat = x.toNat * k := by
  rcases Int.le_total 0 x with h | h
  · obtain ⟨n, rfl⟩ := Int.eq_ofNat_of_zero_le h
    rw [← Int.natCast_mul, Int.toNat_natCast, Int.toNat_natCast]
  · have h2 : x * (k : Int) ≤ 0 := Int.mul_nonpos_of_nonpos_of_nonneg h (by omega)
    rw [Int.toNat_of_nonpos h2, Int.toNat_of_nonpos h, Nat.zero_mul]
theorem tp_pow : (e.mul k).tp = e.tp ^ k := by
  unfold tp mul
  rw [sm_pow]
  simp only [toNat_mul]
theorem bt_pow : (e.mul k).bt = e.bt ^ k := by
  unfold bt mul
  rw [sm_pow]
  simp only [← Int.neg_mul, toNat_mul]
theorem dv_mul (h : k ∣ e.g) : (e.dv k).mul k = e := by
  obtain ⟨h1, h2, h3, h4⟩ := dvd_g.mp h
  obtain ⟨a, b, c, d⟩ := e
  simp only [dv, mul, E4.mk.injEq]
  exact ⟨Int.ediv_mul_cancel h1, Int.ediv_mul_cancel h2, Int.ediv_mul_cancel h3, Int.ediv_mul_cancel h4⟩
/-- both parts are powers: just if the exponent is divided -/
theorem pows (hk : 1 ≤ k) : ((∃ r, r ^ k = e.tp) ∧ ∃ r, r ^ k = e.bt) ↔ k ∣ e.g := by
  constructor
  · rintro ⟨⟨r, h1⟩, s, h2⟩
    obtain ⟨x1, x2, x3, x4⟩ := sm_root hk h1
    obtain ⟨y1, y2, y3, y4⟩ := sm_root hk h2
    have both : ∀ {x : Int}, k ∣ x.toNat → k ∣ (-x).toNat → (k : Int) ∣ x := fun {x} p q => by
      rw [Int.ofNat_dvd_left]
      rcases Int.le_total 0 x with z | z
      · have : x.natAbs = x.toNat := by omega
        rw [this]; exact p
      · have : x.natAbs = (-x).toNat := by omega
        rw [this]; exact q
    exact dvd_g.mpr ⟨both x1 y1, both x2 y2, both x3 y3, both x4 y4⟩
  · intro h
    have e1 := dv_mul h
    exact ⟨⟨(e.dv k).tp, by rw [← tp_pow, e1]⟩, (e.dv k).bt, by rw [← bt_pow, e1]⟩
theorem g_zero : e.g = 0 ↔ e = zero := by
  constructor
  · intro h
    have q : ∀ {x : Int}, ((0 : Nat) : Int) ∣ x → x = 0 := fun {x} z => Int.zero_dvd.mp z
    obtain ⟨h1, h2, h3, h4⟩ := (dvd_g (e := e) (k := 0)).mp (by rw [h]; exact Nat.dvd_refl 0)
    obtain ⟨a, b, c, d⟩ := e
    have := q h1; have := q h2; have := q h3; have := q h4
    simp only [zero, E4.mk.injEq]
    exact ⟨by assumption, by assumption, by assumption, by assumption⟩
  · rintro rfl
    rfl
theorem one_iff : (e.tp = 1 ∧ e.bt = 1) ↔ e.g = 0 := by
  rw [g_zero]
  constructor
  · rintro ⟨h1, h2⟩
    exact inj (h1.trans rfl) (h2.trans rfl)
  · rintro rfl
    exact ⟨rfl, rfl⟩
theorem lt_two_pow (n : Nat) : n < 2 ^ n := Nat.lt_two_pow_self
/-- the exponent is small against the number -/
theorem g_small (h : e.g ≠ 0) : 2 ^ e.g ≤ max e.tp e.bt := by
  have key : ∀ {m : Nat}, m ≠ 0 → e.tp = m ^ e.g ∨ e.bt = m ^ e.g → 2 ≤ m → 2 ^ e.g ≤ max e.tp e.bt := fun {m} _ h h2 => by
    have := Nat.pow_le_pow_left h2 e.g
    rcases h with q | q <;> omega
  have e1 := dv_mul (e := e) (k := e.g) (Nat.dvd_refl _)
  have t : e.tp = (e.dv e.g).tp ^ e.g := by
    rw [← tp_pow, e1]
  have b : e.bt = (e.dv e.g).bt ^ e.g := by
    rw [← bt_pow, e1]
  rcases Nat.lt_or_ge 1 (e.dv e.g).tp with h1 | h1
  · exact key (by omega) (.inl t) h1
  · rcases Nat.lt_or_ge 1 (e.dv e.g).bt with h2 | h2
    · exact key (by omega) (.inr b) h2
    · have p1 := tp_pos (e := e.dv e.g)
      have p2 := bt_pos (e := e.dv e.g)
      have z1 : (e.dv e.g).tp = 1 := by omega
      have z2 : (e.dv e.g).bt = 1 := by omega
      rw [z1, Nat.one_pow] at t
      rw [z2, Nat.one_pow] at b
      exact absurd (one_iff.mp ⟨t, b⟩) h
end E4
end PP
-- text M2
namespace PP
/-! the odd part; fours; splitting -/
def oddp (n : Nat) : Nat := if n % 2 = 0 ∧ n ≠ 0 then oddp (n / 2) else n
termination_by n
decreasing_by omega
theorem oddp_even {n : Nat} (h : n % 2 = 0) (h0 : n ≠ 0) : oddp n = oddp (n / 2) := by
  rw [oddp, if_pos ⟨h, h0⟩]
theorem oddp_odd {n : Nat} (h : n % 2 ≠ 0) : oddp n = n := by
  rw [oddp, if_neg fun z => h z.1]
theorem oddp_pos : ∀ {n : Nat}, 0 < n → 0 < oddp n := by
  intro n
  induction n using Nat.strongRecOn with
  | ind n ih =>
    intro h
    by_cases e : n % 2 = 0
    · rw [oddp_even e (by omega)]
      exact ih (n / 2) (by omega) (by omega)
    · rw [oddp_odd e]
      exact h
theorem oddp_is_odd : ∀ {n : Nat}, 0 < n → oddp n % 2 = 1 := by
  intro n
  induction n using Nat.strongRecOn with
  | ind n ih =>
    intro h
    by_cases e : n % 2 = 0
    · rw [oddp_even e (by omega)]
      exact ih (n / 2) (by omega) (by omega)
    · rw [oddp_odd e]
      omega
theorem oddp_dvd : ∀ {n : Nat}, oddp n ∣ n := by
  intro n
  induction n using Nat.strongRecOn with
  | ind n ih =>
    by_cases h : n % 2 = 0 ∧ n ≠ 0
    · rw [oddp_even h.1 h.2]
      obtain ⟨k, hk⟩ := ih (n / 2) (by omega)
      exact ⟨2 * k, by rw [← Nat.mul_assoc, Nat.mul_comm (oddp (n / 2)) 2, Nat.mul_assoc, ← hk]; omega⟩
    · rw [oddp, if_neg h]
      exact Nat.dvd_refl n
/-- an odd divisor divides the odd part -/
theorem dvd_oddp {q : Nat} (hq : Nat.Coprime q 2) : ∀ {n : Nat}, q ∣ n → q ∣ oddp n := by
  intro n
  induction n using Nat.strongRecOn with
  | ind n ih =>
    intro h
    by_cases e : n % 2 = 0 ∧ n ≠ 0
    · rw [oddp_even e.1 e.2]
      refine ih (n / 2) (by omega) ?_
      have h2 : q ∣ 2 * (n / 2) := by
        rw [show 2 * (n / 2) = n by omega]
        exact h
      exact hq.dvd_of_dvd_mul_left h2
    · rw [oddp, if_neg e]
      exact h
namespace E4
/-- a quarter of the number -/
def sub2 (e : E4) : E4 := ⟨e.a - 2, e.b, e.c, e.d⟩
theorem four_sm {a b c d : Nat} : 4 * sm a b c d = sm (a + 2) b c d := by
  have : (4 : Nat) = sm 2 0 0 0 := by decide
  rw [this, sm_mul]
  congr 1 <;> omega
theorem sub2_gcd {e : E4} : e.tp / Nat.gcd e.tp (4 * e.bt) = e.sub2.tp ∧ 4 * e.bt / Nat.gcd e.tp (4 * e.bt) = e.sub2.bt := by
  unfold tp bt sub2
  rw [four_sm, sm_gcd, sm_div (by omega) (by omega) (by omega) (by omega), sm_div (by omega) (by omega) (by omega) (by omega)]
  constructor <;> congr 1 <;> simp only [] <;> omega
/-- -1 times this number is a four -/
def Four (e : E4) : Prop := 4 ∣ e.sub2.g
instance (e : E4) : Decidable e.Four := inferInstanceAs (Decidable (4 ∣ e.sub2.g))
end E4
/-- the equation of s times e and n splits -/
def Spl (s : Int) (e : E4) (n : Nat) : Prop := 1 < Nat.gcd (if s = 1 then n else oddp n) e.g ∨ (4 ∣ n ∧ s ≠ 1 ∧ e.Four)
instance (s : Int) (e : E4) (n : Nat) : Decidable (Spl s e n) := inferInstanceAs (Decidable (_ ∨ _))
/-- always whole -/
def Alw (s : Int) (e : E4) : Prop := if s = 1 then e.g = 1 else 0 < e.g ∧ oddp e.g = 1 ∧ ¬ e.Four
instance (s : Int) (e : E4) : Decidable (Alw s e) := by unfold Alw; infer_instance
end PP
-- text M3
namespace PP
/-! prime divisors -/
structure PInv (v : Nat) (fs : List Nat) (left step : Nat) : Prop where
  l0 : 0 < left
  dv : left ∣ v
  ok : ∀ p ∈ fs, Pr p ∧ p ∣ v
  has : ∀ p, Pr p → p ∣ v → p ∈ fs ∨ p ∣ left
  sml : ∀ d, 2 ≤ d → d < step → ¬ d ∣ left
  s2 : 2 ≤ step
/-- the primes that divide v, all of them -/
structure PD (v : Nat) (ps : List Nat) : Prop where
  ok : ∀ p ∈ ps, Pr p ∧ p ∣ v
  has : ∀ p, Pr p → p ∣ v → p ∈ ps
theorem PInv.start {v : Nat} (h : 0 < v) : PInv v [] v 2 := ⟨h, Nat.dvd_refl v, fun p hp => (List.not_mem_nil hp).elim, fun p _ h => .inr h, fun d h1 h2 => absurd h1 (by omega), by decide⟩
theorem PInv.prime {v : Nat} {fs : List Nat} {left step : Nat} (h : PInv v fs left step) (hd : step ∣ left) : Pr step := by
  refine ⟨h.s2, fun d hs => ?_⟩
  have dl : d ∣ left := Nat.dvd_trans hs hd
  have d0 : 0 < d := Nat.pos_of_dvd_of_pos dl h.l0
  have le : d ≤ step := Nat.le_of_dvd (by have := h.s2; omega) hs
  rcases Nat.lt_or_ge d 2 with z | z
  · exact .inl (by omega)
  · refine .inr (Nat.le_antisymm le (Nat.le_of_not_lt fun y => h.sml d z y dl))
theorem PInv.found {v : Nat} {fs : List Nat} {left step : Nat} (h : PInv v fs left step) (hd : step ∣ left) : PInv v (fs ++ [step]) left step :=
  ⟨h.l0, h.dv, fun p hp => by
    rcases List.mem_append.mp hp with z | z
    · exact h.ok p z
    · rw [List.mem_singleton.mp z]
      exact ⟨h.prime hd, Nat.dvd_trans hd h.dv⟩, fun p h1 h2 => (h.has p h1 h2).imp (fun z => List.mem_append_left _ z) id, h.sml, h.s2⟩
theorem PInv.div {v : Nat} {fs : List Nat} {left step : Nat} (h : PInv v fs left step) (hs : step ∈ fs) (hd : step ∣ left) : PInv v fs (left / step) step := by
  have s0 : 0 < step := by have := h.s2; omega
  have e : left = step * (left / step) := (Nat.mul_div_cancel' hd).symm
  have q : left / step ∣ left := ⟨step, by rw [Nat.mul_comm]; exact e⟩
  refine ⟨?_, Nat.dvd_trans q h.dv, h.ok, fun p h1 h2 => ?_, fun d h1 h2 h3 => h.sml d h1 h2 (Nat.dvd_trans h3 q), h.s2⟩
  · exact Nat.div_pos (Nat.le_of_dvd h.l0 hd) s0
  · rcases h.has p h1 h2 with z | z
    · exact .inl z
    · rw [e] at z
      by_cases y : p ∣ left / step
      · exact .inr y
      · refine .inl ?_
        have ps : p ∣ step := Classical.byContradiction fun x => (h1.mul x y) z
        rcases (h.prime hd).dv p ps with w | w
        · have := h1.two
          omega
        · rw [w]
          exact hs
theorem PInv.next {v : Nat} {fs : List Nat} {left step : Nat} (h : PInv v fs left step) (hd : ¬ step ∣ left) : PInv v fs left (step + 1) :=
  ⟨h.l0, h.dv, h.ok, h.has, fun d h1 h2 h3 => by
    rcases Nat.lt_or_ge d step with z | z
    · exact h.sml d h1 z h3
    · have : d = step := by omega
      exact hd (this ▸ h3), by have := h.s2; omega⟩
theorem PInv.end1 {v : Nat} {fs : List Nat} {step : Nat} (h : PInv v fs 1 step) : PD v fs := ⟨h.ok, fun p h1 h2 => (h.has p h1 h2).resolve_right fun z => by
  have := Nat.le_of_dvd (by decide) z
  have := h1.two
  omega⟩
theorem PInv.endP {v : Nat} {fs : List Nat} {left step : Nat} (h : PInv v fs left step) (h1 : 1 < left) (h2 : left < step * step) : PD v (fs ++ [left]) := by
  have pl : Pr left := by
    refine ⟨h1, fun d hd => ?_⟩
    have d0 : 0 < d := Nat.pos_of_dvd_of_pos hd (by omega)
    rcases Nat.lt_or_ge d 2 with z | z
    · exact .inl (by omega)
    · refine .inr ?_
      obtain ⟨c, hc⟩ := hd
      have ds : step ≤ d := Nat.le_of_not_lt fun y => h.sml d z y ⟨c, hc⟩
      have c2 : c < 2 := Nat.lt_of_not_le fun y => by
        have cs : step ≤ c := Nat.le_of_not_lt fun x => h.sml c y x ⟨d, by rw [Nat.mul_comm]; exact hc⟩
        have := Nat.mul_le_mul ds cs
        omega
      have c1 : c = 1 := by
        rcases Nat.eq_zero_or_pos c with y | y
        · rw [y] at hc
          omega
        · omega
      rw [c1] at hc
      omega
  refine ⟨fun p hp => ?_, fun p h3 h4 => ?_⟩
  · rcases List.mem_append.mp hp with z | z
    · exact h.ok p z
    · rw [List.mem_singleton.mp z]
      exact ⟨pl, h.dv⟩
  · rcases h.has p h3 h4 with z | z
    · exact List.mem_append_left _ z
    · rcases pl.dv p z with y | y
      · have := h3.two
        omega
      · exact List.mem_append_right _ (List.mem_singleton.mpr y)
/-- every number above 1 has a prime divisor -/
theorem has_prime : ∀ (n : Nat), 1 < n → ∃ p, Pr p ∧ p ∣ n := by
  intro n
  induction n using Nat.strongRecOn with
  | ind n ih =>
    intro h
    by_cases hp : ∀ d, d ∣ n → d = 1 ∨ d = n
    · exact ⟨n, ⟨h, hp⟩, Nat.dvd_refl n⟩
    · obtain ⟨d, hd⟩ := Classical.not_forall.mp hp
      obtain ⟨h1, h2⟩ := Classical.not_imp.mp hd
      have d0 : 0 < d := Nat.pos_of_dvd_of_pos h1 (by omega)
      have dl : d ≤ n := Nat.le_of_dvd (by omega) h1
      have d1 : d ≠ 1 := fun z => h2 (.inl z)
      have dn : d ≠ n := fun z => h2 (.inr z)
      obtain ⟨p, h3, h4⟩ := ih d (by omega) (by omega)
      exact ⟨p, h3, Nat.dvd_trans h4 h1⟩
theorem gcd_gt1 {m n : Nat} (h0 : 0 < Nat.gcd m n) : 1 < Nat.gcd m n ↔ ∃ p, Pr p ∧ p ∣ m ∧ p ∣ n := by
  constructor
  · intro h
    obtain ⟨p, h1, h2⟩ := has_prime _ h
    exact ⟨p, h1, Nat.dvd_trans h2 (Nat.gcd_dvd_left m n), Nat.dvd_trans h2 (Nat.gcd_dvd_right m n)⟩
  · rintro ⟨p, h1, h2, h3⟩
    have := Nat.le_of_dvd h0 (Nat.dvd_gcd h2 h3)
    have := h1.two
    omega
theorem Pr.odd_cop {p : Nat} (h : Pr p) (h2 : 2 < p) : Nat.Coprime p 2 := by
  refine (pr2.cop fun z => ?_).symm
  rcases h.dv 2 z with y | y <;> omega
theorem dvd_of_oddp {p n : Nat} (h : p ∣ oddp n) : p ∣ n := Nat.dvd_trans h oddp_dvd
/-- the steps of a number: what splits are just their multiples -/
structure Steps (s : Int) (e : E4) (st : List Nat) : Prop where
  spl : ∀ n, 0 < n → (Spl s e n ↔ ∃ q ∈ st, q ∣ n)
  two : ∀ q ∈ st, 2 ≤ q
theorem steps_pos {e : E4} {ps : List Nat} (h : PD e.g ps) (g0 : e.g ≠ 0) : Steps 1 e ps := by
  refine ⟨fun n hn => ?_, fun q hq => (h.ok q hq).1.two⟩
  have gp : 0 < Nat.gcd n e.g := Nat.gcd_pos_of_pos_left _ hn
  have e1 : Spl 1 e n ↔ 1 < Nat.gcd n e.g := by
    unfold Spl
    rw [if_pos rfl]
    constructor
    · intro z
      rcases z with z | z
      · exact z
      · exact absurd rfl z.2.1
    · exact fun z => .inl z
  rw [e1, gcd_gt1 gp]
  constructor
  · rintro ⟨p, h1, h2, h3⟩
    exact ⟨p, h.has p h1 h3, h2⟩
  · rintro ⟨q, h1, h2⟩
    exact ⟨q, (h.ok q h1).1, h2, (h.ok q h1).2⟩
theorem steps_neg {e : E4} {ps : List Nat} {s : Int} (hs : s ≠ 1) (h : PD e.g ps) (g0 : e.g ≠ 0) :
    Steps s e (ps.filter (fun p => decide (2 < p)) ++ if e.Four then [4] else []) := by
  refine ⟨fun n hn => ?_, fun q hq => ?_⟩
  · have gp : 0 < Nat.gcd (oddp n) e.g := Nat.gcd_pos_of_pos_left _ (oddp_pos hn)
    have e1 : Spl s e n ↔ (1 < Nat.gcd (oddp n) e.g ∨ (4 ∣ n ∧ e.Four)) := by
      unfold Spl
      rw [if_neg hs]
      constructor
      · rintro (z | z)
        · exact .inl z
        · exact .inr ⟨z.1, z.2.2⟩
      · rintro (z | z)
        · exact .inl z
        · exact .inr ⟨z.1, hs, z.2⟩
    rw [e1, gcd_gt1 gp]
    constructor
    · rintro (⟨p, h1, h2, h3⟩ | ⟨z1, z2⟩)
      · refine ⟨p, List.mem_append_left _ (List.mem_filter.mpr ⟨h.has p h1 h3, decide_eq_true ?_⟩), dvd_of_oddp h2⟩
        have := h1.two
        rcases Nat.lt_or_ge 2 p with y | y
        · exact y
        · have e2 : p = 2 := by omega
          subst e2
          have := oddp_is_odd hn
          omega
      · refine ⟨4, List.mem_append_right _ ?_, z1⟩
        rw [if_pos z2]
        exact List.mem_singleton.mpr rfl
    · rintro ⟨q, h1, h2⟩
      rcases List.mem_append.mp h1 with z | z
      · obtain ⟨y1, y2⟩ := List.mem_filter.mp z
        have p := (h.ok q y1).1
        exact .inl ⟨q, p, dvd_oddp (p.odd_cop (of_decide_eq_true y2)) h2, (h.ok q y1).2⟩
      · by_cases f : e.Four
        · rw [if_pos f] at z
          rw [List.mem_singleton.mp z] at h2
          exact .inr ⟨h2, f⟩
        · rw [if_neg f] at z
          cases z
  · rcases List.mem_append.mp hq with z | z
    · exact (h.ok q (List.mem_filter.mp z).1).1.two
    · by_cases f : e.Four
      · rw [if_pos f] at z
        rw [List.mem_singleton.mp z]
        decide
      · rw [if_neg f] at z
        cases z
/-- m is the next n that splits -/
def Next (s : Int) (e : E4) (n m : Nat) : Prop := n < m ∧ Spl s e m ∧ ∀ k, n < k → k < m → ¬ Spl s e k
theorem Next.unique {s : Int} {e : E4} {n m k : Nat} (h1 : Next s e n m) (h2 : Next s e n k) : m = k := by
  rcases Nat.lt_trichotomy m k with z | z | z
  · exact absurd h1.2.1 (h2.2.2 m h1.1 z)
  · exact z
  · exact absurd h2.2.1 (h1.2.2 k h2.1 z)
theorem next_mul {q n : Nat} (hq : 0 < q) : n < (n / q + 1) * q ∧ ∀ k, n < k → q ∣ k → (n / q + 1) * q ≤ k := by
  have h := Nat.div_add_mod n q
  have h2 := Nat.mod_lt n hq
  have e : (n / q + 1) * q = q * (n / q) + q := by rw [Nat.add_mul, Nat.mul_comm (n / q) q, Nat.one_mul]
  refine ⟨by omega, fun k h3 h4 => ?_⟩
  obtain ⟨c, hc⟩ := h4
  have : n / q < c := (Nat.div_lt_iff_lt_mul hq).mpr (by rw [Nat.mul_comm, ← hc]; exact h3)
  rw [hc, Nat.mul_comm q c]
  exact Nat.mul_le_mul_right q this
/-- the least of the next multiples -/
theorem next_min {s : Int} {e : E4} {st : List Nat} {n m : Nat} (h : Steps s e st) (h1 : ∃ q ∈ st, m = (n / q + 1) * q) (h2 : ∀ q ∈ st, m ≤ (n / q + 1) * q) : Next s e n m := by
  obtain ⟨q, hq, em⟩ := h1
  have q2 := h.two q hq
  have nm := next_mul (q := q) (n := n) (by omega)
  refine ⟨by rw [em]; exact nm.1, (h.spl m (by rw [em]; omega)).mpr ⟨q, hq, by rw [em]; exact Nat.dvd_mul_left q _⟩, fun k k1 k2 z => ?_⟩
  obtain ⟨r, hr, hd⟩ := (h.spl k (by omega)).mp z
  have := (next_mul (q := r) (n := n) (by have := h.two r hr; omega)).2 k k1 hd
  have := h2 r hr
  omega
/-! 1 and -1 -/
theorem oddp_pow2 : ∀ {j : Nat}, oddp (2 ^ j) = 1
  | 0 => by rw [Nat.pow_zero, oddp_odd (by decide)]
  | j + 1 => by
    have h : 0 < 2 ^ j := Nat.pow_pos (by decide)
    rw [oddp_even (by rw [Nat.pow_succ]; omega) (by rw [Nat.pow_succ]; omega), show 2 ^ (j + 1) / 2 = 2 ^ j by rw [Nat.pow_succ]; omega]
    exact oddp_pow2
theorem pow2_of_oddp : ∀ {n : Nat}, 0 < n → oddp n = 1 → ∃ j, n = 2 ^ j := by
  intro n
  induction n using Nat.strongRecOn with
  | ind n ih =>
    intro h h1
    by_cases e : n % 2 = 0
    · rw [oddp_even e (by omega)] at h1
      obtain ⟨j, hj⟩ := ih (n / 2) (by omega) (by omega) h1
      exact ⟨j + 1, by rw [Nat.pow_succ]; omega⟩
    · rw [oddp_odd e] at h1
      exact ⟨0, h1⟩
theorem four_zero : ¬ E4.zero.Four := by decide
theorem next_one {n : Nat} (h : 0 < n) : Next 1 E4.zero n (n + 1) := by
  refine ⟨by omega, .inl ?_, fun k h1 h2 => by omega⟩
  rw [if_pos rfl, show E4.zero.g = 0 from rfl, Nat.gcd_zero_right]
  omega
theorem spl_m1 {s : Int} (hs : s ≠ 1) {n : Nat} (hn : 0 < n) : Spl s E4.zero n ↔ oddp n ≠ 1 := by
  unfold Spl
  rw [if_neg hs, show E4.zero.g = 0 from rfl, Nat.gcd_zero_right]
  have := oddp_pos hn
  constructor
  · rintro (z | z)
    · omega
    · exact absurd z.2.2 four_zero
  · intro z
    exact .inl (by omega)
theorem next_m1a {s : Int} (hs : s ≠ 1) {n k : Nat} (h : 0 < n) (h1 : n + 1 < 2 ^ k) (h2 : k = 0 ∨ 2 ^ (k - 1) ≤ n) : Next s E4.zero n (n + 1) := by
  refine ⟨by omega, (spl_m1 hs (by omega)).mpr fun z => ?_, fun k h1 h2 => by omega⟩
  obtain ⟨j, hj⟩ := pow2_of_oddp (by omega) z
  rw [hj] at h1
  have a := (Nat.pow_lt_pow_iff_right (a := 2) (by decide)).mp h1
  rcases h2 with y | y
  · omega
  · have b : 2 ^ (k - 1) < 2 ^ j := by omega
    have := (Nat.pow_lt_pow_iff_right (a := 2) (by decide)).mp b
    omega
theorem next_m1b {s : Int} (hs : s ≠ 1) {n k : Nat} (h : 0 < n) (h1 : n + 1 = 2 ^ k) : Next s E4.zero n (n + 2) := by
  have hk : k ≠ 0 := fun z => by
    rw [z] at h1
    omega
  obtain ⟨j, rfl⟩ : ∃ j, k = j + 1 := ⟨k - 1, by omega⟩
  have e : 2 ^ (j + 1) = 2 * 2 ^ j := by rw [Nat.pow_succ, Nat.mul_comm]
  refine ⟨by omega, (spl_m1 hs (by omega)).mpr fun z => ?_, fun i i1 i2 => fun z => ?_⟩
  · rw [oddp_odd (by omega)] at z
    omega
  · have : i = n + 1 := by omega
    rw [this, h1] at z
    exact (spl_m1 hs (by omega)).mp z oddp_pow2
end PP
-- text M4
namespace PP
/-- e, n come of e0, n0 by a common divisor -/
def Lf (e0 : E4) (n0 : Nat) (e : E4) (n : Nat) : Prop := ∃ c : Nat, 0 < c ∧ e0 = e.mul c ∧ n0 = n * c
theorem Lf.start {e : E4} {n : Nat} : Lf e n e n := ⟨1, by decide, by simp [E4.mul], by omega⟩
theorem E4.mul_mul {e : E4} {x y : Int} : (e.mul x).mul y = e.mul (x * y) := by simp [E4.mul, Int.mul_assoc]
theorem E4.mul_dv {e : E4} {c : Int} (h : c ≠ 0) : (e.mul c).dv c = e := by simp [E4.mul, E4.dv, Int.mul_ediv_cancel, h]
theorem E4.mul_g {e : E4} {c : Int} : (e.mul c).g = e.g * c.natAbs := by
  unfold E4.mul E4.g
  simp only [Int.natAbs_mul, Nat.gcd_mul_right]
theorem Lf.div {e0 e : E4} {n0 n p : Nat} (h : Lf e0 n0 e n) (hp : 0 < p) (h1 : p ∣ n) (h2 : p ∣ e.g) : Lf e0 n0 (e.dv p) (n / p) := by
  obtain ⟨c, c0, h3, h4⟩ := h
  refine ⟨p * c, Nat.mul_pos hp c0, ?_, ?_⟩
  · rw [Int.natCast_mul, ← E4.mul_mul, E4.dv_mul h2, h3]
  · rw [← Nat.mul_assoc, Nat.div_mul_cancel h1, h4]
theorem Lf.done {e0 e : E4} {n0 n : Nat} (h : Lf e0 n0 e n) (h1 : Nat.gcd n e.g = 1) : e = e0.dv (Nat.gcd n0 e0.g : Nat) ∧ n = n0 / Nat.gcd n0 e0.g := by
  obtain ⟨c, c0, rfl, rfl⟩ := h
  have e1 : Nat.gcd (n * c) (e.mul c).g = c := by
    rw [E4.mul_g, Int.natAbs_natCast, Nat.gcd_mul_right, h1, Nat.one_mul]
  rw [e1]
  exact ⟨(E4.mul_dv (by omega)).symm, (Nat.mul_div_cancel n c0).symm⟩
theorem gcd_one {n m : Nat} (h0 : 0 < n) (h : ∀ p, Pr p → p ∣ n → ¬ p ∣ m) : Nat.gcd n m = 1 := by
  have g0 : 0 < Nat.gcd n m := Nat.gcd_pos_of_pos_left _ h0
  refine Nat.le_antisymm (Nat.le_of_not_lt fun z => ?_) g0
  obtain ⟨p, h1, h2, h3⟩ := (gcd_gt1 g0).mp z
  exact h p h1 h2 h3
/-- the least form of a root -/
def lfE (e : E4) (n : Nat) : E4 := e.dv (Nat.gcd n e.g : Nat)
def lfN (e : E4) (n : Nat) : Nat := n / Nat.gcd n e.g
theorem lf_cop {e : E4} {n : Nat} (h0 : 0 < n) : Nat.gcd (lfN e n) (lfE e n).g = 1 := by
  have d0 : 0 < Nat.gcd n e.g := Nat.gcd_pos_of_pos_left _ h0
  have e1 := E4.dv_mul (e := e) (k := Nat.gcd n e.g) (Nat.gcd_dvd_right _ _)
  have e2 : (lfE e n).g * Nat.gcd n e.g = e.g := by
    have := E4.mul_g (e := lfE e n) (c := (Nat.gcd n e.g : Nat))
    rw [Int.natAbs_natCast] at this
    rw [← this]
    exact congrArg E4.g e1
  have e3 : lfN e n * Nat.gcd n e.g = n := Nat.div_mul_cancel (Nat.gcd_dvd_left _ _)
  have e4 : Nat.gcd (lfN e n) (lfE e n).g * Nat.gcd n e.g = 1 * Nat.gcd n e.g := by
    rw [← Nat.gcd_mul_right, e2, e3, Nat.one_mul]
  exact Nat.eq_of_mul_eq_mul_right d0 e4
theorem lf_pos {e : E4} {n : Nat} (h0 : 0 < n) : 0 < lfN e n := Nat.div_pos (Nat.le_of_dvd h0 (Nat.gcd_dvd_left _ _)) (Nat.gcd_pos_of_pos_left _ h0)
theorem lf_le {e : E4} {n : Nat} : lfN e n ≤ n := Nat.div_le_self _ _
theorem lf_same {e : E4} {n : Nat} (h : Nat.gcd n e.g = 1) : lfE e n = e ∧ lfN e n = n := by
  unfold lfE lfN
  rw [h]
  refine ⟨?_, Nat.div_one n⟩
  simp [E4.dv]
/-- the power of a root -/
def raisedE (e : E4) (d : Nat) (i : Int) : E4 := e.mul (i / (Nat.gcd d i.natAbs : Nat))
def raisedN (d : Nat) (i : Int) : Nat := d / Nat.gcd d i.natAbs
theorem E4.neg_tp {e : E4} {k : Int} : (e.mul (-k)).tp = (e.mul k).bt := by simp only [E4.tp, E4.bt, E4.mul, Int.mul_neg]
theorem E4.neg_bt {e : E4} {k : Int} : (e.mul (-k)).bt = (e.mul k).tp := by simp only [E4.tp, E4.bt, E4.mul, Int.mul_neg, Int.neg_neg]
theorem raisedE_pos {e : E4} {d n : Nat} : (raisedE e d (n : Int)).tp = e.tp ^ (n / Nat.gcd d n) ∧ (raisedE e d (n : Int)).bt = e.bt ^ (n / Nat.gcd d n) := by
  unfold raisedE
  rw [Int.natAbs_natCast, ← Int.natCast_ediv]
  exact ⟨E4.tp_pow, E4.bt_pow⟩
theorem raisedE_neg {e : E4} {d n : Nat} : (raisedE e d (-(n : Int))).tp = e.bt ^ (n / Nat.gcd d n) ∧ (raisedE e d (-(n : Int))).bt = e.tp ^ (n / Nat.gcd d n) := by
  unfold raisedE
  have e1 : -(n : Int) / (Nat.gcd d n : Nat) = -((n / Nat.gcd d n : Nat) : Int) := by
    rw [Int.neg_ediv_of_dvd (Int.natCast_dvd_natCast.mpr (Nat.gcd_dvd_right d n)), Int.natCast_ediv]
  rw [Int.natAbs_neg, Int.natAbs_natCast, e1, E4.neg_tp, E4.neg_bt]
  exact ⟨E4.bt_pow, E4.tp_pow⟩
theorem raised_cop {e : E4} {d : Nat} {i : Int} (h0 : 0 < d) (h : Nat.gcd d e.g = 1) : Nat.gcd (raisedN d i) (raisedE e d i).g = 1 := by
  have c0 : 0 < Nat.gcd d i.natAbs := Nat.gcd_pos_of_pos_left _ h0
  have e1 : (i / (Nat.gcd d i.natAbs : Nat)).natAbs = i.natAbs / Nat.gcd d i.natAbs := by
    rw [Int.natAbs_ediv_of_dvd (Int.ofNat_dvd_left.mpr (Nat.gcd_dvd_right d i.natAbs)), Int.natAbs_natCast]
  unfold raisedN raisedE
  rw [E4.mul_g, e1]
  refine Nat.Coprime.mul_right ?_ (Nat.coprime_div_gcd_div_gcd c0)
  exact Nat.Coprime.coprime_dvd_left (Nat.div_dvd_of_dvd (Nat.gcd_dvd_left _ _)) h
theorem raised_pos {d : Nat} {i : Int} (h0 : 0 < d) : 0 < raisedN d i ∧ raisedN d i ≤ d := ⟨Nat.div_pos (Nat.le_of_dvd h0 (Nat.gcd_dvd_left _ _)) (Nat.gcd_pos_of_pos_left _ h0), Nat.div_le_self _ _⟩
end PP
-- text M5
namespace PP
/-! numbers without primes above 7, by their exponents -/
structure S4 where
  a : Nat
  b : Nat
  c : Nat
  d : Nat
namespace S4
theorem ext' {x y : S4} (h1 : x.a = y.a) (h2 : x.b = y.b) (h3 : x.c = y.c) (h4 : x.d = y.d) : x = y := by
  obtain ⟨a, b, c, d⟩ := x
  obtain ⟨a', b', c', d'⟩ := y
  simp only at h1 h2 h3 h4
  subst h1 h2 h3 h4
  rfl
def val (x : S4) : Nat := sm x.a x.b x.c x.d
def zero : S4 := ⟨0, 0, 0, 0⟩
def add (x y : S4) : S4 := ⟨x.a + y.a, x.b + y.b, x.c + y.c, x.d + y.d⟩
def sub (x y : S4) : S4 := ⟨x.a - y.a, x.b - y.b, x.c - y.c, x.d - y.d⟩
def mn (x y : S4) : S4 := ⟨min x.a y.a, min x.b y.b, min x.c y.c, min x.d y.d⟩
def smul (k : Nat) (x : S4) : S4 := ⟨k * x.a, k * x.b, k * x.c, k * x.d⟩
def tot (x : S4) : Nat := x.a + x.b + x.c + x.d
variable {x y z : S4} {k : Nat}
theorem val_pos : 0 < x.val := sm_pos
theorem val_inj (h : x.val = y.val) : x = y := by
  obtain ⟨h1, h2, h3, h4⟩ := sm_inj h
  exact ext' h1 h2 h3 h4
theorem val_zero : zero.val = 1 := sm_zero
theorem val_add : (x.add y).val = x.val * y.val := sm_mul.symm
theorem val_gcd : Nat.gcd x.val y.val = (x.mn y).val := sm_gcd
theorem val_smul : (smul k x).val = x.val ^ k := by
  unfold val smul
  rw [sm_pow, Nat.mul_comm k, Nat.mul_comm k, Nat.mul_comm k, Nat.mul_comm k]
theorem val_subL : x.val / (x.mn y).val = (x.sub (x.mn y)).val := sm_div (Nat.min_le_left _ _) (Nat.min_le_left _ _) (Nat.min_le_left _ _) (Nat.min_le_left _ _)
theorem val_subR : y.val / (x.mn y).val = (y.sub (x.mn y)).val := sm_div (Nat.min_le_right _ _) (Nat.min_le_right _ _) (Nat.min_le_right _ _) (Nat.min_le_right _ _)
theorem val_one (h : x.val ≤ 1) : x = zero := val_inj (by have := val_pos (x := x); rw [val_zero]; omega)
theorem val_gt (h : x ≠ zero) : 1 < x.val := Nat.lt_of_not_le fun z => h (val_one z)
theorem gt_zero (h : 1 < x.val) : x ≠ zero := fun z => by rw [z, val_zero] at h; omega
theorem tot_zero (h : x.tot = 0) : x = zero := by
  unfold tot at h
  exact ext' (by show _ = 0; omega) (by show _ = 0; omega) (by show _ = 0; omega) (by show _ = 0; omega)
theorem tot_pos (h : x ≠ zero) : 0 < x.tot := Nat.pos_of_ne_zero fun z => h (tot_zero z)
theorem tot_two : 2 ^ x.tot ≤ x.val := by
  unfold tot val sm
  rw [Nat.pow_add, Nat.pow_add, Nat.pow_add]
  exact Nat.mul_le_mul (Nat.mul_le_mul (Nat.mul_le_mul (Nat.le_refl _) (Nat.pow_le_pow_left (by decide) _)) (Nat.pow_le_pow_left (by decide) _)) (Nat.pow_le_pow_left (by decide) _)
theorem val_lt {T : Nat} (h : x.tot ≤ T) : x.val < 2 ^ (3 * T + 1) := by
  have h1 : x.val ≤ 8 ^ x.tot := by
    unfold tot val sm
    rw [Nat.pow_add, Nat.pow_add, Nat.pow_add]
    exact Nat.mul_le_mul (Nat.mul_le_mul (Nat.mul_le_mul (Nat.pow_le_pow_left (by decide) _) (Nat.pow_le_pow_left (by decide) _)) (Nat.pow_le_pow_left (by decide) _)) (Nat.pow_le_pow_left (by decide) _)
  have h2 : (8 : Nat) ^ x.tot = 2 ^ (3 * x.tot) := by rw [Nat.pow_mul]
  rw [h2] at h1
  exact Nat.lt_of_le_of_lt h1 (Nat.pow_lt_pow_right (by decide) (by omega))
end S4
/-- sums of a list's members -/
inductive Mon (L : List S4) : S4 → Prop
  | zero : Mon L .zero
  | add {x y : S4} (h : x ∈ L) (r : Mon L y) : Mon L (x.add y)
theorem S4.add_zero (x : S4) : x.add .zero = x := S4.ext' rfl rfl rfl rfl
theorem S4.zero_add (x : S4) : S4.zero.add x = x := S4.ext' (Nat.zero_add _) (Nat.zero_add _) (Nat.zero_add _) (Nat.zero_add _)
theorem S4.add_assoc (x y z : S4) : (x.add y).add z = x.add (y.add z) := S4.ext' (Nat.add_assoc _ _ _) (Nat.add_assoc _ _ _) (Nat.add_assoc _ _ _) (Nat.add_assoc _ _ _)
theorem Mon.one {L : List S4} {x : S4} (h : x ∈ L) : Mon L x := by
  have := Mon.add h Mon.zero
  rw [S4.add_zero] at this
  exact this
theorem Mon.plus {L : List S4} {x y : S4} (h : Mon L x) (h2 : Mon L y) : Mon L (x.add y) := by
  induction h with
  | zero => rw [S4.zero_add]; exact h2
  | add h r ih => rw [S4.add_assoc]; exact .add h ih
theorem Mon.mono {L L' : List S4} (h : ∀ y ∈ L, Mon L' y) {x : S4} (hx : Mon L x) : Mon L' x := by
  induction hx with
  | zero => exact .zero
  | add m r ih => exact (h _ m).plus ih
theorem Mon.times {L : List S4} {x : S4} (h : Mon L x) : ∀ k, Mon L (.smul k x)
  | 0 => by
    have : S4.smul 0 x = .zero := S4.ext' (Nat.zero_mul _) (Nat.zero_mul _) (Nat.zero_mul _) (Nat.zero_mul _)
    rw [this]
    exact .zero
  | k + 1 => by
    have : S4.smul (k + 1) x = x.add (.smul k x) := S4.ext' (by simp [S4.smul, S4.add, Nat.add_mul, Nat.add_comm]) (by simp [S4.smul, S4.add, Nat.add_mul, Nat.add_comm]) (by simp [S4.smul, S4.add, Nat.add_mul, Nat.add_comm]) (by simp [S4.smul, S4.add, Nat.add_mul, Nat.add_comm])
    rw [this]
    exact h.plus (Mon.times h k)
/-- the total of a list's exponents -/
def totS : List S4 → Nat
  | [] => 0
  | x :: r => x.tot + totS r
theorem totS_app : ∀ {l r : List S4}, totS (l ++ r) = totS l + totS r
  | [], r => by simp [totS]
  | x :: l, r => by rw [List.cons_append, totS, totS, totS_app, Nat.add_assoc]
theorem totS_mem : ∀ {l : List S4} {x : S4}, x ∈ l → x.tot ≤ totS l
  | y :: l, x, h => by
    rcases List.mem_cons.mp h with z | z
    · rw [z, totS]
      omega
    · have := totS_mem z
      rw [totS]
      omega
theorem totS_filter {l : List S4} {p : S4 → Bool} : totS (l.filter p) ≤ totS l := by
  induction l with
  | nil => exact Nat.le_refl _
  | cons x r ih =>
    by_cases h : p x = true
    · rw [List.filter_cons_of_pos h, totS, totS]
      omega
    · rw [List.filter_cons_of_neg h, totS]
      omega
theorem totS_drop {l : List S4} {p : S4 → Bool} {x : S4} (h : x ∈ l) (hp : p x = false) : totS (l.filter p) + x.tot ≤ totS l := by
  induction l with
  | nil => cases h
  | cons y r ih =>
    rcases List.mem_cons.mp h with z | z
    · subst z
      rw [List.filter_cons_of_neg (by rw [hp]; decide), totS]
      have := totS_filter (l := r) (p := p)
      omega
    · have := ih z
      by_cases hy : p y = true
      · rw [List.filter_cons_of_pos hy, totS, totS]
        omega
      · rw [List.filter_cons_of_neg hy, totS]
        omega
theorem len_totS : ∀ {l : List S4}, (∀ x ∈ l, x ≠ .zero) → l.length ≤ totS l
  | [], _ => Nat.le_refl _
  | x :: r, h => by
    have := len_totS (l := r) fun y hy => h y (List.mem_cons_of_mem _ hy)
    have := S4.tot_pos (h x (List.mem_cons_self ..))
    rw [List.length_cons, totS]
    omega
/-- no common prime -/
def Dj (x y : S4) : Prop := x.mn y = .zero
/-- what the refining keeps -/
structure Rf (vals found left : List S4) : Prop where
  mon : ∀ x ∈ vals, Mon (found ++ left) x
  dj : found.Pairwise Dj
  nz : ∀ x ∈ found, x ≠ .zero
theorem Rf.start {vals : List S4} : Rf vals [] vals := ⟨fun x h => Mon.one (by simpa using h), .nil, fun x h => (List.not_mem_nil h).elim⟩
theorem Rf.skip {vals found left : List S4} (h : Rf vals found (.zero :: left)) : Rf vals found left := by
  refine ⟨fun x hx => Mon.mono (fun y hy => ?_) (h.mon x hx), h.dj, h.nz⟩
  rcases List.mem_append.mp hy with z | z
  · exact .one (List.mem_append_left _ z)
  · rcases List.mem_cons.mp z with z | z
    · rw [z]
      exact .zero
    · exact .one (List.mem_append_right _ z)
theorem Rf.push {vals found left : List S4} {v : S4} (h : Rf vals found (v :: left)) (hv : v ≠ .zero) (hd : ∀ x ∈ found, Dj v x) : Rf vals (found ++ [v]) left := by
  refine ⟨fun x hx => Mon.mono (fun y hy => .one ?_) (h.mon x hx), ?_, fun x hx => ?_⟩
  · rcases List.mem_append.mp hy with z | z
    · exact List.mem_append_left _ (List.mem_append_left _ z)
    · rcases List.mem_cons.mp z with z | z
      · rw [z]
        exact List.mem_append_left _ (List.mem_append_right _ (List.mem_singleton.mpr rfl))
      · exact List.mem_append_right _ z
  · refine List.pairwise_append.mpr ⟨h.dj, List.pairwise_singleton _ _, fun x hx y hy => ?_⟩
    rw [List.mem_singleton.mp hy]
    have := hd x hx
    unfold Dj S4.mn at this ⊢
    rw [Nat.min_comm x.a, Nat.min_comm x.b, Nat.min_comm x.c, Nat.min_comm x.d]
    exact this
  · rcases List.mem_append.mp hx with z | z
    · exact h.nz x z
    · rw [List.mem_singleton.mp z]
      exact hv
theorem S4.sub_addL {x y : S4} : (x.sub (x.mn y)).add (x.mn y) = x := S4.ext' (by simp only [S4.add, S4.sub, S4.mn]; omega) (by simp only [S4.add, S4.sub, S4.mn]; omega) (by simp only [S4.add, S4.sub, S4.mn]; omega) (by simp only [S4.add, S4.sub, S4.mn]; omega)
theorem S4.sub_addR {x y : S4} : (y.sub (x.mn y)).add (x.mn y) = y := S4.ext' (by simp only [S4.add, S4.sub, S4.mn]; omega) (by simp only [S4.add, S4.sub, S4.mn]; omega) (by simp only [S4.add, S4.sub, S4.mn]; omega) (by simp only [S4.add, S4.sub, S4.mn]; omega)
theorem Rf.split {vals found left : List S4} {v s : S4} {p : S4 → Bool} (h : Rf vals found (v :: left)) (hp : ∀ x ∈ found, p x = false → x = s) :
    Rf vals (found.filter p) (v.sub (v.mn s) :: s.sub (v.mn s) :: v.mn s :: left) := by
  refine ⟨fun x hx => Mon.mono (fun y hy => ?_) (h.mon x hx), h.dj.filter _, fun x hx => h.nz x (List.mem_filter.mp hx).1⟩
  have m1 : Mon (found.filter p ++ (v.sub (v.mn s) :: s.sub (v.mn s) :: v.mn s :: left)) (v.sub (v.mn s)) := .one (List.mem_append_right _ (List.mem_cons_self ..))
  have m2 : Mon (found.filter p ++ (v.sub (v.mn s) :: s.sub (v.mn s) :: v.mn s :: left)) (s.sub (v.mn s)) := .one (List.mem_append_right _ (List.mem_cons_of_mem _ (List.mem_cons_self ..)))
  have m3 : Mon (found.filter p ++ (v.sub (v.mn s) :: s.sub (v.mn s) :: v.mn s :: left)) (v.mn s) := .one (List.mem_append_right _ (List.mem_cons_of_mem _ (List.mem_cons_of_mem _ (List.mem_cons_self ..))))
  rcases List.mem_append.mp hy with z | z
  · by_cases hq : p y = true
    · exact .one (List.mem_append_left _ (List.mem_filter.mpr ⟨z, hq⟩))
    · rw [hp y z (by simpa using hq)]
      have := m2.plus m3
      rw [S4.sub_addR] at this
      exact this
  · rcases List.mem_cons.mp z with z | z
    · rw [z]
      have := m1.plus m3
      rw [S4.sub_addL] at this
      exact this
    · exact .one (List.mem_append_right _ (List.mem_cons_of_mem _ (List.mem_cons_of_mem _ (List.mem_cons_of_mem _ z))))
theorem split_tot {found left : List S4} {v s : S4} {p : S4 → Bool} (hs : s ∈ found) (hp : p s = false) (hm : v.mn s ≠ .zero) :
    totS (found.filter p) + totS (v.sub (v.mn s) :: s.sub (v.mn s) :: v.mn s :: left) + 1 ≤ totS found + totS (v :: left) := by
  have h1 := totS_drop hs hp
  have h2 := S4.tot_pos hm
  have h3 : (v.sub (v.mn s)).tot + (v.mn s).tot = v.tot := by
    simp only [S4.tot, S4.sub, S4.mn]
    omega
  have h4 : (s.sub (v.mn s)).tot + (v.mn s).tot = s.tot := by
    simp only [S4.tot, S4.sub, S4.mn]
    omega
  simp only [totS]
  omega
end PP
-- text M6
namespace PP
namespace S4
variable {x y z : S4} {k p : Nat}
/-- the greatest common divisor of the exponents -/
def gx (x : S4) : Nat := Nat.gcd (Nat.gcd (Nat.gcd x.a x.b) x.c) x.d
def dv (x : S4) (k : Nat) : S4 := ⟨x.a / k, x.b / k, x.c / k, x.d / k⟩
theorem dvd_gx : k ∣ x.gx ↔ k ∣ x.a ∧ k ∣ x.b ∧ k ∣ x.c ∧ k ∣ x.d := by
  unfold gx
  rw [Nat.dvd_gcd_iff, Nat.dvd_gcd_iff, Nat.dvd_gcd_iff]
  constructor
  · rintro ⟨⟨⟨h1, h2⟩, h3⟩, h4⟩
    exact ⟨h1, h2, h3, h4⟩
  · rintro ⟨h1, h2, h3, h4⟩
    exact ⟨⟨⟨h1, h2⟩, h3⟩, h4⟩
theorem smul_dv (h : k ∣ x.gx) : smul k (x.dv k) = x := by
  obtain ⟨h1, h2, h3, h4⟩ := dvd_gx.mp h
  exact ext' (Nat.mul_div_cancel' h1) (Nat.mul_div_cancel' h2) (Nat.mul_div_cancel' h3) (Nat.mul_div_cancel' h4)
theorem smul_smul {i j : Nat} : smul i (smul j x) = smul (i * j) x := ext' (Nat.mul_assoc _ _ _).symm (Nat.mul_assoc _ _ _).symm (Nat.mul_assoc _ _ _).symm (Nat.mul_assoc _ _ _).symm
theorem smul_one : smul 1 x = x := ext' (Nat.one_mul _) (Nat.one_mul _) (Nat.one_mul _) (Nat.one_mul _)
theorem root_val (h : k ∣ x.gx) : (x.dv k).val ^ k = x.val := by
  rw [← val_smul, smul_dv h]
theorem is_root (hk : 1 ≤ k) : (∃ r, r ^ k = x.val) ↔ k ∣ x.gx :=
  ⟨fun ⟨_, h⟩ => dvd_gx.mpr (sm_root hk h), fun h => ⟨_, root_val h⟩⟩
theorem gx_dv (hk : k ∣ x.gx) : (x.dv k).gx ∣ x.gx := by
  have h := smul_dv hk
  refine dvd_gx.mpr ?_
  obtain ⟨h1, h2, h3, h4⟩ := dvd_gx.mp (Nat.dvd_refl (x.dv k).gx)
  have ha : k * (x.dv k).a = x.a := congrArg S4.a h
  have hb : k * (x.dv k).b = x.b := congrArg S4.b h
  have hc : k * (x.dv k).c = x.c := congrArg S4.c h
  have hd : k * (x.dv k).d = x.d := congrArg S4.d h
  exact ⟨by rw [← ha]; exact Nat.dvd_mul_left_of_dvd h1 k, by rw [← hb]; exact Nat.dvd_mul_left_of_dvd h2 k, by rw [← hc]; exact Nat.dvd_mul_left_of_dvd h3 k, by rw [← hd]; exact Nat.dvd_mul_left_of_dvd h4 k⟩
theorem gx_zero (h : x.gx = 0) : x = zero := by
  obtain ⟨h1, h2, h3, h4⟩ := dvd_gx.mp (show 0 ∣ x.gx by rw [h]; exact Nat.dvd_refl 0)
  exact ext' (Nat.zero_dvd.mp h1) (Nat.zero_dvd.mp h2) (Nat.zero_dvd.mp h3) (Nat.zero_dvd.mp h4)
theorem dv_nz (hx : x ≠ zero) (h : k ∣ x.gx) : x.dv k ≠ zero := fun z => hx (by
  have := smul_dv h
  rw [z] at this
  exact this.symm)
theorem gx_small (hx : x ≠ zero) : 2 ^ x.gx ≤ x.val := by
  have h := root_val (x := x) (Nat.dvd_refl x.gx)
  have h2 := val_gt (dv_nz hx (Nat.dvd_refl x.gx))
  have := Nat.pow_le_pow_left (show 2 ≤ (x.dv x.gx).val from h2) x.gx
  rw [h] at this
  exact this
/-- no exponent from 2 on is left: x is no power -/
theorem gx_one (hx : x ≠ zero) (h1 : ∀ j, 2 ≤ j → j < p → ¬ j ∣ x.gx) (h2 : x.val < 2 ^ p) : x.gx = 1 := by
  have h0 : x.gx ≠ 0 := fun z => hx (gx_zero z)
  refine Decidable.byContradiction fun z => ?_
  rcases Nat.lt_or_ge x.gx p with y | y
  · exact h1 x.gx (by omega) y (Nat.dvd_refl _)
  · have h3 := gx_small hx
    have h4 : 2 ^ p ≤ 2 ^ x.gx := Nat.pow_le_pow_right (by decide) y
    omega
theorem nz_of_gx (h : x.gx = 1) : x ≠ zero := fun z => by
  rw [z] at h
  exact absurd h (by decide)
end S4
theorem Dj.smulL {x y : S4} {k : Nat} (hk : 1 ≤ k) (h : Dj (.smul k x) y) : Dj x y := by
  unfold Dj S4.mn S4.smul at h
  have e := fun {f : S4 → Nat} => congrArg f h
  have h1 := @e S4.a
  have h2 := @e S4.b
  have h3 := @e S4.c
  have h4 := @e S4.d
  simp only [S4.zero] at h1 h2 h3 h4
  have q : ∀ {u v : Nat}, min (k * u) v = 0 → min u v = 0 := fun {u v} z => by
    rcases Nat.eq_zero_or_pos u with w | w
    · omega
    · have := Nat.mul_pos hk w
      omega
  exact S4.ext' (q h1) (q h2) (q h3) (q h4)
theorem Dj.symm {x y : S4} (h : Dj x y) : Dj y x := by
  unfold Dj S4.mn at *
  rw [Nat.min_comm y.a, Nat.min_comm y.b, Nat.min_comm y.c, Nat.min_comm y.d]
  exact h
theorem Dj.smulR {x y : S4} {k : Nat} (hk : 1 ≤ k) (h : Dj x (.smul k y)) : Dj x y := (Dj.smulL hk h.symm).symm
theorem Dj.zero {x : S4} : Dj x .zero := S4.ext' (Nat.min_zero _) (Nat.min_zero _) (Nat.min_zero _) (Nat.min_zero _)
theorem Dj.add {x y z : S4} (h1 : Dj x y) (h2 : Dj x z) : Dj x (y.add z) := by
  unfold Dj S4.mn at *
  have e1 := fun {f : S4 → Nat} => congrArg f h1
  have e2 := fun {f : S4 → Nat} => congrArg f h2
  have a1 := @e1 S4.a
  have a2 := @e1 S4.b
  have a3 := @e1 S4.c
  have a4 := @e1 S4.d
  have b1 := @e2 S4.a
  have b2 := @e2 S4.b
  have b3 := @e2 S4.c
  have b4 := @e2 S4.d
  simp only [S4.zero] at *
  exact S4.ext' (by simp only [S4.add]; omega) (by simp only [S4.add]; omega) (by simp only [S4.add]; omega) (by simp only [S4.add]; omega)
theorem Dj.times {x y : S4} (h : Dj x y) (k : Nat) : Dj x (.smul k y) := by
  unfold Dj S4.mn S4.smul at *
  have e1 := fun {f : S4 → Nat} => congrArg f h
  have a1 := @e1 S4.a
  have a2 := @e1 S4.b
  have a3 := @e1 S4.c
  have a4 := @e1 S4.d
  simp only [S4.zero] at *
  have q : ∀ {u v : Nat}, min u v = 0 → min u (k * v) = 0 := fun {u v} z => by
    rcases Nat.eq_zero_or_pos u with w | w
    · omega
    · have : v = 0 := by omega
      rw [this, Nat.mul_zero]
      omega
  exact S4.ext' (q a1) (q a2) (q a3) (q a4)
theorem Dj.not_dvd {x y : S4} (h : Dj x y) (hx : x ≠ .zero) : ¬ x.val ∣ y.val := fun z => by
  have h1 : Nat.gcd x.val y.val = 1 := by rw [S4.val_gcd, h, S4.val_zero]
  rw [Nat.gcd_eq_left z] at h1
  have := S4.val_gt hx
  omega
/-- what is wanted of common bases -/
structure Bases (xs : List S4) (bs : List S4) : Prop where
  dj : bs.Pairwise Dj
  prim : ∀ b ∈ bs, b.gx = 1
  mon : ∀ x ∈ xs, Mon bs x
/-- the sum of a list's members, so many of each -/
def comb : List Nat → List S4 → S4
  | c :: cs, b :: bs => (S4.smul c b).add (comb cs bs)
  | _, _ => .zero
theorem comb_zero : ∀ {bs : List S4}, comb (List.replicate bs.length 0) bs = .zero
  | [] => rfl
  | b :: bs => by
    rw [List.length_cons, List.replicate_succ, comb, comb_zero]
    exact S4.ext' (by simp [S4.smul, S4.add, S4.zero]) (by simp [S4.smul, S4.add, S4.zero]) (by simp [S4.smul, S4.add, S4.zero]) (by simp [S4.smul, S4.add, S4.zero])
theorem comb_bump : ∀ {bs : List S4} {cs : List Nat} {x : S4}, x ∈ bs → cs.length = bs.length → ∃ cs' : List Nat, cs'.length = bs.length ∧ comb cs' bs = x.add (comb cs bs)
  | b :: bs, c :: cs, x, h, hl => by
    rcases List.mem_cons.mp h with z | z
    · refine ⟨(c + 1) :: cs, by simpa using hl, ?_⟩
      rw [z, comb, comb]
      exact S4.ext' (by simp only [S4.smul, S4.add, Nat.add_mul]; omega) (by simp only [S4.smul, S4.add, Nat.add_mul]; omega) (by simp only [S4.smul, S4.add, Nat.add_mul]; omega) (by simp only [S4.smul, S4.add, Nat.add_mul]; omega)
    · obtain ⟨cs', h1, h2⟩ := comb_bump (cs := cs) z (by simpa using hl)
      refine ⟨c :: cs', by simp [h1], ?_⟩
      rw [comb, comb, h2]
      exact S4.ext' (by simp only [S4.add]; omega) (by simp only [S4.add]; omega) (by simp only [S4.add]; omega) (by simp only [S4.add]; omega)
theorem Mon.comb {bs : List S4} {x : S4} (h : Mon bs x) : ∃ cs : List Nat, cs.length = bs.length ∧ PP.comb cs bs = x := by
  induction h with
  | zero => exact ⟨List.replicate bs.length 0, List.length_replicate, comb_zero⟩
  | add h r ih =>
    obtain ⟨cs, h1, h2⟩ := ih
    obtain ⟨cs', h3, h4⟩ := comb_bump h h1
    exact ⟨cs', h3, by rw [h4, h2]⟩
theorem dj_comb : ∀ {bs : List S4} {cs : List Nat} {x : S4}, (∀ b ∈ bs, Dj x b) → Dj x (comb cs bs)
  | [], cs, x, _ => by cases cs <;> exact Dj.zero
  | b :: bs, [], x, _ => Dj.zero
  | b :: bs, c :: cs, x, h => ((h b (List.mem_cons_self ..)).times c).add (dj_comb fun y hy => h y (List.mem_cons_of_mem _ hy))
/-- one coefficient, read off -/
theorem coef_at : ∀ {bs : List S4} {cs : List Nat} {i : Nat} {b : S4} {c : Nat}, bs.Pairwise Dj → bs[i]? = some b → cs[i]? = some c → ∃ r, comb cs bs = (S4.smul c b).add r ∧ Dj b r
  | b0 :: bs, c0 :: cs, 0, b, c, h, hb, hc => by
    cases hb
    cases hc
    exact ⟨comb cs bs, rfl, dj_comb fun y hy => (List.pairwise_cons.mp h).1 y hy⟩
  | b0 :: bs, c0 :: cs, i + 1, b, c, h, hb, hc => by
    obtain ⟨h1, h2⟩ := List.pairwise_cons.mp h
    obtain ⟨r, e, d⟩ := coef_at h2 (by simpa using hb) (by simpa using hc)
    refine ⟨(S4.smul c0 b0).add r, ?_, ?_⟩
    · rw [comb, e]
      exact S4.ext' (by simp only [S4.add]; omega) (by simp only [S4.add]; omega) (by simp only [S4.add]; omega) (by simp only [S4.add]; omega)
    · exact ((h1 b (List.mem_of_getElem? (by simpa using hb))).symm.times c0).add d
/-- the two parts of a number -/
def E4.tS (e : E4) : S4 := ⟨e.a.toNat, e.b.toNat, e.c.toNat, e.d.toNat⟩
def E4.bS (e : E4) : S4 := ⟨(-e.a).toNat, (-e.b).toNat, (-e.c).toNat, (-e.d).toNat⟩
theorem E4.tS_val {e : E4} : e.tS.val = e.tp := rfl
theorem E4.bS_val {e : E4} : e.bS.val = e.bt := rfl
end PP
-- text M7
namespace PP
theorem dm {a b : Int} (c : Int) (h : a ∣ b) : a ∣ c * b := Int.dvd_trans h (Int.dvd_mul_left c b)
/-! rows of whole numbers, by their places; sums of rows, all by one divisor -/
abbrev Vc := Nat → Int
/-- a row is a sum of rows -/
def Sp0 (w : Int) (m : Nat) : List Vc → Vc → Prop
  | [], x => ∀ i, i < m → w ∣ x i
  | t :: T, x => ∃ c : Int, Sp0 w m T fun i => x i - c * t i
variable {w : Int} {m : Nat}
theorem Sp0.congr : ∀ {T : List Vc} {x y : Vc}, Sp0 w m T x → (∀ i, i < m → w ∣ x i - y i) → Sp0 w m T y
  | [], x, y, h, e => fun i hi => by
    have := Int.dvd_sub (h i hi) (e i hi)
    rw [show x i - (x i - y i) = y i by omega] at this
    exact this
  | t :: T, x, y, ⟨c, h⟩, e => ⟨c, h.congr fun i hi => by
    show w ∣ (x i - c * t i) - (y i - c * t i)
    rw [show (x i - c * t i) - (y i - c * t i) = x i - y i by omega]
    exact e i hi⟩
theorem Sp0.same {T : List Vc} {x y : Vc} (h : Sp0 w m T x) (e : ∀ i, i < m → x i = y i) : Sp0 w m T y := h.congr fun i hi => by rw [e i hi, Int.sub_self]; exact Int.dvd_zero w
theorem Sp0.add : ∀ {T : List Vc} {x y : Vc}, Sp0 w m T x → Sp0 w m T y → Sp0 w m T fun i => x i + y i
  | [], x, y, h, k => fun i hi => Int.dvd_add (h i hi) (k i hi)
  | t :: T, x, y, ⟨c, h⟩, ⟨d, k⟩ => ⟨c + d, (h.add k).same fun i _ => by show x i - c * t i + (y i - d * t i) = x i + y i - (c + d) * t i; rw [Int.add_mul]; omega⟩
theorem Sp0.smul (k : Int) : ∀ {T : List Vc} {x : Vc}, Sp0 w m T x → Sp0 w m T fun i => k * x i
  | [], x, h => fun i hi => dm k (h i hi)
  | t :: T, x, ⟨c, h⟩ => ⟨k * c, (h.smul k).same fun i _ => by rw [Int.mul_sub, Int.mul_assoc]⟩
theorem Sp0.zero : ∀ {T : List Vc}, Sp0 w m T fun _ => 0
  | [] => fun i _ => Int.dvd_zero w
  | t :: T => ⟨0, Sp0.zero.same fun i _ => by rw [Int.zero_mul]; rfl⟩
theorem Sp0.wk {T : List Vc} {x t : Vc} (h : Sp0 w m T x) : Sp0 w m (t :: T) x := ⟨0, h.same fun i _ => by rw [Int.zero_mul, Int.sub_zero]⟩
theorem Sp0.hd {T : List Vc} {t : Vc} : Sp0 w m (t :: T) t := ⟨1, Sp0.zero.same fun i _ => by rw [Int.one_mul, Int.sub_self]⟩
theorem Sp0.mem : ∀ {T : List Vc} {t : Vc}, t ∈ T → Sp0 w m T t
  | u :: T, t, h => by
    rcases List.mem_cons.mp h with e | e
    · rw [e]
      exact .hd
    · exact (Sp0.mem e).wk
theorem Sp0.comb {T : List Vc} {x y : Vc} (a b : Int) (h : Sp0 w m T x) (k : Sp0 w m T y) : Sp0 w m T fun i => a * x i + b * y i := (h.smul a).add (k.smul b)
theorem Sp0.mono : ∀ {T T' : List Vc} {x : Vc}, (∀ t ∈ T, Sp0 w m T' t) → Sp0 w m T x → Sp0 w m T' x
  | [], T', x, _, h => Sp0.zero.congr fun i hi => by
    rw [Int.zero_sub]
    exact Int.dvd_neg.mpr (h i hi)
  | t :: T, T', x, hT, ⟨c, h⟩ => by
    have h1 := Sp0.mono (fun u hu => hT u (List.mem_cons_of_mem _ hu)) h
    exact (h1.add ((hT t (List.mem_cons_self ..)).smul c)).same fun i _ => by show x i - c * t i + c * t i = x i; omega
/-- sums of two lists' rows are the same -/
def SpE (w : Int) (m : Nat) (T U : List Vc) : Prop := ∀ x, Sp0 w m T x ↔ Sp0 w m U x
theorem SpE.of {T U : List Vc} (h1 : ∀ t ∈ T, Sp0 w m U t) (h2 : ∀ u ∈ U, Sp0 w m T u) : SpE w m T U := fun _ => ⟨Sp0.mono h1, Sp0.mono h2⟩
theorem SpE.refl {T : List Vc} : SpE w m T T := fun _ => Iff.rfl
theorem SpE.symm {T U : List Vc} (h : SpE w m T U) : SpE w m U T := fun x => (h x).symm
theorem SpE.trans {T U W : List Vc} (h : SpE w m T U) (k : SpE w m U W) : SpE w m T W := fun x => (h x).trans (k x)
theorem SpE.cons {T U : List Vc} (t : Vc) (h : SpE w m T U) : SpE w m (t :: T) (t :: U) := fun _ => ⟨fun ⟨c, k⟩ => ⟨c, (h _).mp k⟩, fun ⟨c, k⟩ => ⟨c, (h _).mpr k⟩⟩
theorem SpE.app (D : List Vc) {T U : List Vc} (h : SpE w m T U) : SpE w m (D ++ T) (D ++ U) := by
  induction D with
  | nil => exact h
  | cons t D ih => exact ih.cons t
/-- each row begins behind the one before; its first place divides all; so often taken it is a sum of later rows -/
def Tri (w : Int) (m : Nat) : Nat → List Vc → Prop
  | p, [] => p = m
  | p, t :: T => (∀ i, i < p → w ∣ t i) ∧ 0 < t p ∧ (∃ a : Int, a * t p = w ∧ Sp0 w m T fun i => a * t i) ∧ Tri w m (p + 1) T
theorem Tri.len : ∀ {T : List Vc} {p : Nat}, Tri w m p T → p + T.length = m
  | [], p, h => h
  | t :: T, p, h => by
    have := Tri.len h.2.2.2
    rw [List.length_cons]
    omega
/-- the rows ahead of a place are 0 there -/
theorem Tri.lo : ∀ {T : List Vc} {p : Nat} {x : Vc}, Tri w m p T → Sp0 w m T x → ∀ i, i < p → w ∣ x i
  | [], p, x, h, hx => fun i hi => hx i (by have : p = m := h; omega)
  | t :: T, p, x, h, ⟨c, hx⟩ => fun i hi => by
    have h1 : w ∣ x i - c * t i := Tri.lo h.2.2.2 hx i (by omega)
    have h2 := dm c (h.1 i hi)
    have := Int.dvd_add h1 h2
    rw [show x i - c * t i + c * t i = x i by omega] at this
    exact this
/-- the degree: how many sums there are -/
def szT (w : Int) : Nat → List Vc → Int
  | _, [] => 1
  | p, t :: T => w / t p * szT w (p + 1) T
/-- all sums, each once -/
def enm (w : Int) : Nat → List Vc → List Vc
  | _, [] => [fun _ => 0]
  | p, t :: T => (List.range (w / t p).toNat).flatMap fun (c : Nat) => (enm w (p + 1) T).map fun y i => (c : Int) * t i + y i
theorem szT_nn (hw : 0 < w) : ∀ {T : List Vc} {p : Nat}, Tri w m p T → 0 ≤ szT w p T
  | [], _, _ => (by decide : (0 : Int) ≤ 1)
  | t :: T, p, h => Int.mul_nonneg (Int.ediv_nonneg (by omega) (by have := h.2.1; omega)) (szT_nn hw h.2.2.2)
theorem len_flat {α β : Type} {f : α → List β} {k : Nat} : ∀ {l : List α}, (∀ x ∈ l, (f x).length = k) → (l.flatMap f).length = l.length * k
  | [], _ => by simp
  | x :: l, h => by
    rw [List.flatMap_cons, List.length_append, h x (List.mem_cons_self ..), len_flat fun y hy => h y (List.mem_cons_of_mem _ hy), List.length_cons, Nat.add_mul]
    omega
theorem enm_len (hw : 0 < w) : ∀ {T : List Vc} {p : Nat}, Tri w m p T → ((enm w p T).length : Int) = szT w p T
  | [], _, _ => rfl
  | t :: T, p, h => by
    have ih := enm_len hw h.2.2.2
    rw [enm, szT, len_flat (k := (enm w (p + 1) T).length) (fun x _ => List.length_map ..), List.length_range, Int.natCast_mul, ih, Int.toNat_of_nonneg (Int.ediv_nonneg (by omega) (by have := h.2.1; omega))]
theorem enm_sp : ∀ {T : List Vc} {p : Nat} {y : Vc}, y ∈ enm w p T → Sp0 w m T y
  | [], p, y, h => by
    rw [List.mem_singleton.mp h]
    exact Sp0.zero
  | t :: T, p, y, h => by
    obtain ⟨c, _, h2⟩ := List.mem_flatMap.mp h
    obtain ⟨z, hz, rfl⟩ := List.mem_map.mp h2
    exact ⟨c, (enm_sp hz).same fun i _ => by dsimp only; omega⟩
theorem div_of {a t : Int} (ht : 0 < t) (e : a * t = w) : w / t = a := by
  rw [← e]
  exact Int.mul_ediv_cancel _ (by omega)
theorem enm_all (hw : 0 < w) : ∀ {T : List Vc} {p : Nat} {x : Vc}, Tri w m p T → Sp0 w m T x → ∃ y ∈ enm w p T, ∀ i, i < m → w ∣ x i - y i
  | [], p, x, _, h => ⟨fun _ => 0, List.mem_singleton.mpr rfl, fun i hi => by
    rw [Int.sub_zero]
    exact h i hi⟩
  | t :: T, p, x, ⟨h1, h2, ⟨a, ea, ha⟩, h3⟩, ⟨c, hx⟩ => by
    have e := div_of h2 ea
    have a0 : 0 < a := by
      rcases Int.lt_or_le 0 a with z | z
      · exact z
      · have := Int.mul_nonpos_of_nonpos_of_nonneg z (by omega : (0 : Int) ≤ t p)
        omega
    have m0 := Int.emod_nonneg c (by omega : a ≠ 0)
    have m1 := Int.emod_lt_of_pos c a0
    have ec := Int.emod_add_mul_ediv c a
    have hx2 : Sp0 w m T fun i => x i - (c % a) * t i := (hx.add (ha.smul (c / a))).same fun i _ => by
      have : c * t i = (c % a) * t i + (c / a) * (a * t i) := by
        rw [← Int.mul_assoc, ← Int.add_mul, Int.mul_comm (c / a) a, ec]
      rw [this]
      omega
    obtain ⟨y, hy, hc⟩ := enm_all hw h3 hx2
    refine ⟨fun i => ((c % a).toNat : Int) * t i + y i, List.mem_flatMap.mpr ⟨(c % a).toNat, List.mem_range.mpr ?_, List.mem_map.mpr ⟨y, hy, rfl⟩⟩, fun i hi => ?_⟩
    · rw [e]
      omega
    · have := hc i hi
      rw [Int.toNat_of_nonneg m0]
      rw [show x i - (c % a * t i + y i) = x i - c % a * t i - y i by omega]
      exact this
/-- no two of them are the same -/
theorem enm_ne (hw : 0 < w) : ∀ {T : List Vc} {p : Nat}, Tri w m p T → (enm w p T).Pairwise fun x y => ¬ ∀ i, i < m → w ∣ x i - y i
  | [], p, _ => List.pairwise_singleton _ _
  | t :: T, p, ⟨h1, h2, ⟨a, ea, ha⟩, h3⟩ => by
    have e := div_of h2 ea
    have pm : p < m := by
      have := Tri.len h3
      omega
    have ih := enm_ne hw h3
    rw [enm]
    refine List.pairwise_flatMap.mpr ⟨fun c _ => ?_, ?_⟩
    · refine List.pairwise_map.mpr (ih.imp fun {x y} q z => q fun i hi => ?_)
      have := z i hi
      rw [show ((c : Int) * t i + x i) - (c * t i + y i) = x i - y i by omega] at this
      exact this
    · refine (List.nodup_range (n := (w / t p).toNat)).imp_of_mem fun {c d} hc hd hcd x hx y hy z => ?_
      obtain ⟨u, hu, rfl⟩ := List.mem_map.mp hx
      obtain ⟨v, hv, rfl⟩ := List.mem_map.mp hy
      have u0 := Tri.lo h3 (enm_sp (m := m) hu) p (by omega)
      have v0 := Tri.lo h3 (enm_sp (m := m) hv) p (by omega)
      have q := Int.dvd_add (Int.dvd_sub (z p pm) u0) v0
      rw [show ((c : Int) * t p + u p - (d * t p + v p)) - u p + v p = (c : Int) * t p - d * t p by omega, ← Int.sub_mul] at q
      have hc' := List.mem_range.mp hc
      have hd' := List.mem_range.mp hd
      rw [e] at hc' hd'
      rw [← ea] at q
      have q2 : a ∣ (c : Int) - d := Int.dvd_of_mul_dvd_mul_right (by omega) q
      obtain ⟨k, hk⟩ := q2
      apply hcd
      rcases Int.lt_trichotomy k 0 with z | z | z
      · have : a * k ≤ a * (-1) := Int.mul_le_mul_of_nonneg_left (by omega) (by omega)
        omega
      · rw [z] at hk
        omega
      · have : a * 1 ≤ a * k := Int.mul_le_mul_of_nonneg_left (by omega) (by omega)
        omega
/-! one step of Euclid on two rows -/
/-- the state of the loop at a place -/
structure Euc (w : Int) (m p : Nat) (T : List Vc) (o r : Vc) : Prop where
  lo : ∀ i, i < p → w ∣ o i ∧ w ∣ r i
  pos : 0 < o p
  nn : 0 ≤ r p
  lt : r p < w
  ab : ∃ a b : Int, a * o p + b * r p = w ∧ Sp0 w m T fun i => a * o i + b * r i
theorem Euc.step {p : Nat} {T : List Vc} {o r r2 : Vc} (hw : 0 < w) (h : Euc w m p T o r) (h0 : r p ≠ 0) (e : ∀ i, r2 i = (o i - o p / r p * r i) % w) :
    Euc w m p T r r2 ∧ r2 p < r p ∧ SpE w m (r :: r2 :: T) (o :: r :: T) := by
  have rp : 0 < r p := by
    have := h.nn
    omega
  have e1 := Int.emod_add_mul_ediv (o p) (r p)
  have e2 := Int.emod_nonneg (o p) (by omega : r p ≠ 0)
  have e3 := Int.emod_lt_of_pos (o p) rp
  have lt := h.lt
  have ep : r2 p = o p % r p := by
    rw [e p, show o p - o p / r p * r p = o p % r p by rw [Int.mul_comm]; omega]
    exact Int.emod_eq_of_lt e2 (by omega)
  have cg : ∀ i, w ∣ (o i - o p / r p * r i) - r2 i := fun i => by
    rw [e i]
    exact Int.dvd_self_sub_emod
  refine ⟨⟨fun i hi => ⟨(h.lo i hi).2, ?_⟩, rp, by omega, by omega, ?_⟩, by omega, ?_⟩
  · rw [e i]
    exact Int.dvd_of_emod_eq_zero (by rw [Int.emod_emod_of_dvd _ (Int.dvd_refl w)]; exact Int.emod_eq_zero_of_dvd (Int.dvd_sub (h.lo i hi).1 (dm _ (h.lo i hi).2)))
  · obtain ⟨a, b, ha, hs⟩ := h.ab
    refine ⟨a * (o p / r p) + b, a, ?_, hs.congr fun i hi => ?_⟩
    · rw [ep, ← ha]
      have : a * o p = a * (o p % r p) + a * (r p * (o p / r p)) := by rw [← Int.mul_add, e1]
      rw [this, Int.add_mul, Int.mul_assoc, Int.mul_comm (o p / r p) (r p)]
      omega
    · have h1 := dm a (cg i)
      have h2 : a * o i + b * r i - ((a * (o p / r p) + b) * r i + a * r2 i) = a * (o i - o p / r p * r i - r2 i) := by
        rw [Int.mul_sub, Int.mul_sub, Int.add_mul, Int.mul_assoc]
        omega
      show w ∣ a * o i + b * r i - ((a * (o p / r p) + b) * r i + a * r2 i)
      rw [h2]
      exact h1
  · refine SpE.of (fun t ht => ?_) fun t ht => ?_
    · rcases List.mem_cons.mp ht with z | ht
      · rw [z]
        exact Sp0.mem (by simp)
      · rcases List.mem_cons.mp ht with z | ht
        · rw [z]
          refine (Sp0.comb 1 (-(o p / r p)) (Sp0.hd (t := o)) (Sp0.hd (t := r)).wk).congr fun i hi => ?_
          have := cg i
          rw [Int.one_mul, Int.neg_mul, ← Int.sub_eq_add_neg]
          exact this
        · exact ((Sp0.mem ht).wk).wk
    · rcases List.mem_cons.mp ht with z | ht
      · rw [z]
        refine (Sp0.comb (o p / r p) 1 (Sp0.hd (t := r)) (Sp0.hd (t := r2)).wk).congr fun i hi => ?_
        have := Int.dvd_neg.mpr (cg i)
        rw [show -(o i - o p / r p * r i - r2 i) = o p / r p * r i + 1 * r2 i - o i by rw [Int.one_mul]; omega] at this
        exact this
      · rcases List.mem_cons.mp ht with z | ht
        · rw [z]
          exact .hd
        · exact ((Sp0.mem ht).wk).wk
/-- the state at the start of a place -/
theorem Euc.start {p : Nat} {T : List Vc} {o r : Vc} (h : Tri w m p (o :: T)) (h1 : ∀ i, i < p → w ∣ r i) (h2 : 0 ≤ r p) (h3 : r p < w) : Euc w m p T o r := by
  obtain ⟨q1, q2, ⟨a, ea, ha⟩, q3⟩ := h
  exact ⟨fun i hi => ⟨q1 i hi, h1 i hi⟩, q2, h2, h3, a, 0, by rw [Int.zero_mul]; omega, ha.same fun i _ => by show a * o i = a * o i + 0 * r i; rw [Int.zero_mul]; omega⟩
/-- the state at its end: the row is found, the rest goes on -/
theorem Euc.done {p : Nat} {T U : List Vc} {o r : Vc} (h : Euc w m p T o r) (h0 : r p = 0) (hU : Tri w m (p + 1) U) (hs : SpE w m U (r :: T)) : Tri w m p (o :: U) ∧ ∀ i, i < p + 1 → w ∣ r i := by
  obtain ⟨a, b, ha, hs2⟩ := h.ab
  refine ⟨⟨fun i hi => (h.lo i hi).1, h.pos, ⟨a, by rw [h0, Int.mul_zero] at ha; omega, ?_⟩, hU⟩, fun i hi => ?_⟩
  · refine (hs _).mpr ⟨-b, hs2.same fun i _ => ?_⟩
    dsimp only
    rw [Int.neg_mul]
    omega
  · rcases Nat.lt_or_ge i p with z | z
    · exact (h.lo i z).2
    · have : i = p := by omega
      rw [this, h0]
      exact Int.dvd_zero w
/-- the field without roots -/
def dg (w : Int) (p : Nat) : Vc := fun i => if i = p then w else 0
theorem Tri.start (hw : 0 < w) : ∀ {n p : Nat}, p + n = m → Tri w m p ((List.range' p n).map (dg w))
  | 0, p, h => h
  | n + 1, p, h => by
    rw [List.range'_succ, List.map_cons]
    refine ⟨fun i hi => ?_, ?_, ⟨1, ?_, ?_⟩, Tri.start hw (by omega)⟩
    · show w ∣ if i = p then w else 0
      rw [if_neg (by omega)]
      exact Int.dvd_zero w
    · show 0 < if p = p then w else 0
      rw [if_pos rfl]
      exact hw
    · show 1 * (if p = p then w else 0) = w
      rw [if_pos rfl, Int.one_mul]
    · refine Sp0.zero.congr fun i hi => ?_
      show w ∣ 0 - 1 * (if i = p then w else 0)
      rw [Int.one_mul, Int.zero_sub]
      split
      · exact Int.dvd_neg.mpr (Int.dvd_refl w)
      · exact Int.dvd_neg.mpr (Int.dvd_zero w)
theorem Sp.start {n p : Nat} : SpE w m ((List.range' p n).map (dg w)) [] := SpE.of (fun t ht => by
  obtain ⟨q, _, rfl⟩ := List.mem_map.mp ht
  intro i hi
  show w ∣ if i = q then w else 0
  split
  · exact Int.dvd_refl w
  · exact Int.dvd_zero w) fun t ht => (List.not_mem_nil ht).elim
end PP
-- text M8
namespace PP
/-! towers: the rows over common bases and the rows of exponents make groups of one size -/
def S4.fn (x : S4) : Nat → Nat
  | 0 => x.a
  | 1 => x.b
  | 2 => x.c
  | _ => x.d
def E4.fn (e : E4) : Vc
  | 0 => e.a
  | 1 => e.b
  | 2 => e.c
  | _ => e.d
theorem E4.fn_ext {e f : E4} (h : ∀ j, j < 4 → e.fn j = f.fn j) : e = f := by
  obtain ⟨a, b, c, d⟩ := e
  obtain ⟨a', b', c', d'⟩ := f
  have h0 : a = a' := h 0 (by decide)
  have h1 : b = b' := h 1 (by decide)
  have h2 : c = c' := h 2 (by decide)
  have h3 : d = d' := h 3 (by decide)
  subst h0 h1 h2 h3
  rfl
theorem E4.fn_parts {e : E4} : ∀ j, e.fn j = (e.tS.fn j : Int) - (e.bS.fn j : Int)
  | 0 => by show e.a = (e.a.toNat : Int) - ((-e.a).toNat : Int); omega
  | 1 => by show e.b = (e.b.toNat : Int) - ((-e.b).toNat : Int); omega
  | 2 => by show e.c = (e.c.toNat : Int) - ((-e.c).toNat : Int); omega
  | n + 3 => by show e.d = (e.d.toNat : Int) - ((-e.d).toNat : Int); omega
theorem Dj.fn {x y : S4} (h : Dj x y) : ∀ j, x.fn j = 0 ∨ y.fn j = 0 := by
  have e := fun {f : S4 → Nat} => congrArg f h
  have h1 : min x.a y.a = 0 := @e S4.a
  have h2 : min x.b y.b = 0 := @e S4.b
  have h3 : min x.c y.c = 0 := @e S4.c
  have h4 : min x.d y.d = 0 := @e S4.d
  intro j
  match j with
  | 0 => show x.a = 0 ∨ y.a = 0; omega
  | 1 => show x.b = 0 ∨ y.b = 0; omega
  | 2 => show x.c = 0 ∨ y.c = 0; omega
  | n + 3 => show x.d = 0 ∨ y.d = 0; omega
/-- sums of bases, so many of each -/
def phi : List S4 → Vc → Vc
  | [], _, _ => 0
  | b :: bs, x, j => x 0 * (b.fn j : Int) + phi bs (fun i => x (i + 1)) j
theorem phi_congr : ∀ {bs : List S4} {x y : Vc} {j : Nat}, (∀ i, i < bs.length → x i = y i) → phi bs x j = phi bs y j
  | [], _, _, _, _ => rfl
  | b :: bs, x, y, j, h => by
    rw [phi, phi, h 0 (Nat.succ_pos _), phi_congr fun i hi => h (i + 1) (Nat.succ_lt_succ hi)]
theorem phi_lin : ∀ {bs : List S4} {x t : Vc} {c : Int} {j : Nat}, phi bs (fun i => x i - c * t i) j = phi bs x j - c * phi bs t j
  | [], _, _, _, _ => by simp [phi]
  | b :: bs, x, t, c, j => by
    rw [phi, phi, phi, phi_lin (bs := bs) (x := fun i => x (i + 1)) (t := fun i => t (i + 1)), Int.sub_mul, Int.mul_add, Int.mul_assoc]
    omega
theorem phi_zero : ∀ {bs : List S4} {j : Nat}, phi bs (fun _ => 0) j = 0
  | [], _ => rfl
  | b :: bs, j => by
    rw [phi, phi_zero]
    simp
theorem phi_dvd {w : Int} : ∀ {bs : List S4} {x : Vc} {j : Nat}, (∀ i, i < bs.length → w ∣ x i) → w ∣ phi bs x j
  | [], _, _, _ => Int.dvd_zero w
  | b :: bs, x, j, h => by
    rw [phi, Int.mul_comm]
    exact Int.dvd_add (dm _ (h 0 (Nat.succ_pos _))) (phi_dvd fun i hi => h (i + 1) (Nat.succ_lt_succ hi))
theorem phi_off : ∀ {bs : List S4} {x : Vc} {j : Nat}, (∀ b ∈ bs, b.fn j = 0) → phi bs x j = 0
  | [], _, _, _ => rfl
  | b :: bs, x, j, h => by
    rw [phi, h b (List.mem_cons_self ..), phi_off fun c hc => h c (List.mem_cons_of_mem _ hc)]
    simp
theorem gx_dvd {w : Nat} {x : Int} {b : S4} (hb : b.gx = 1) (h : ∀ j, j < 4 → (w : Int) ∣ x * (b.fn j : Int)) : (w : Int) ∣ x := by
  have q : ∀ {n : Nat}, (w : Int) ∣ x * (n : Int) → w ∣ x.natAbs * n := fun {n} z => by
    have := Int.ofNat_dvd_left.mp z
    rw [Int.natAbs_mul, Int.natAbs_natCast] at this
    exact this
  have h0 := q (h 0 (by decide))
  have h1 := q (h 1 (by decide))
  have h2 := q (h 2 (by decide))
  have h3 := q (h 3 (by decide))
  have := Nat.dvd_gcd (Nat.dvd_gcd (Nat.dvd_gcd h0 h1) h2) h3
  rw [Nat.gcd_mul_left, Nat.gcd_mul_left, Nat.gcd_mul_left] at this
  have e : Nat.gcd (Nat.gcd (Nat.gcd (b.fn 0) (b.fn 1)) (b.fn 2)) (b.fn 3) = 1 := hb
  rw [e, Nat.mul_one] at this
  exact Int.ofNat_dvd_left.mpr this
/-- nothing is lost -/
theorem phi_inj {w : Nat} : ∀ {bs : List S4} {x : Vc}, bs.Pairwise Dj → (∀ b ∈ bs, b.gx = 1) → (∀ j, j < 4 → (w : Int) ∣ phi bs x j) → ∀ i, i < bs.length → (w : Int) ∣ x i
  | [], _, _, _, _ => fun i hi => absurd hi (Nat.not_lt_zero _)
  | b :: bs, x, hd, hg, h => by
    obtain ⟨d1, d2⟩ := List.pairwise_cons.mp hd
    have h0 : (w : Int) ∣ x 0 := gx_dvd (hg b (List.mem_cons_self ..)) fun j hj => by
      by_cases z : b.fn j = 0
      · rw [z]
        exact ⟨0, by simp⟩
      · have := h j hj
        rw [phi, phi_off fun c hc => ((d1 c hc).fn j).resolve_left z] at this
        simpa using this
    intro i hi
    cases i with
    | zero => exact h0
    | succ i =>
      refine phi_inj (x := fun i => x (i + 1)) d2 (fun c hc => hg c (List.mem_cons_of_mem _ hc)) (fun j hj => ?_) i (Nat.lt_of_succ_lt_succ hi)
      have := h j hj
      rw [phi, Int.mul_comm] at this
      exact (Int.dvd_iff_dvd_of_dvd_add this).mp (dm _ h0)
section
variable {w : Int} {bs : List S4}
theorem phi_sp : ∀ {R : List Vc} {x : Vc}, Sp0 w bs.length R x → Sp0 w 4 (R.map (phi bs)) (phi bs x)
  | [], x, h => fun j _ => phi_dvd h
  | t :: R, x, ⟨c, h⟩ => ⟨c, (phi_sp h).same fun j _ => phi_lin⟩
theorem phi_back : ∀ {R : List Vc} {y : Vc}, Sp0 w 4 (R.map (phi bs)) y → ∃ x, Sp0 w bs.length R x ∧ ∀ j, j < 4 → w ∣ y j - phi bs x j
  | [], y, h => ⟨fun _ => 0, Sp0.zero, fun j hj => by
    rw [phi_zero, Int.sub_zero]
    exact h j hj⟩
  | t :: R, y, ⟨c, h⟩ => by
    obtain ⟨x, hx, e⟩ := phi_back h
    refine ⟨fun i => x i - (-c) * t i, ⟨c, hx.same fun i _ => ?_⟩, fun j hj => ?_⟩
    · show x i = x i - -c * t i - c * t i
      rw [Int.neg_mul]
      omega
    · rw [phi_lin]
      have := e j hj
      rw [show y j - c * phi bs t j - phi bs x j = y j - (phi bs x j - -c * phi bs t j) by rw [Int.neg_mul]; omega] at this
      exact this
end
/-- a row's places within one divisor -/
def redE (w : Int) (y : Vc) : E4 := ⟨y 0 % w, y 1 % w, y 2 % w, y 3 % w⟩
theorem redE_fn {w : Int} {y : Vc} : ∀ j, j < 4 → (redE w y).fn j = y j % w
  | 0, _ => rfl
  | 1, _ => rfl
  | 2, _ => rfl
  | 3, _ => rfl
  | n + 4, h => absurd h (by omega)
def Red (w : Int) (e : E4) : Prop := ∀ j, j < 4 → 0 ≤ e.fn j ∧ e.fn j < w
theorem eq_of_dvd {w a b : Int} (ha : 0 ≤ a ∧ a < w) (hb : 0 ≤ b ∧ b < w) (h : w ∣ a - b) : a = b := by
  obtain ⟨k, hk⟩ := h
  rcases Int.lt_trichotomy k 0 with z | z | z
  · have : w * k ≤ w * (-1) := Int.mul_le_mul_of_nonneg_left (by omega) (by omega)
    omega
  · rw [z] at hk
    omega
  · have : w * 1 ≤ w * k := Int.mul_le_mul_of_nonneg_left (by omega) (by omega)
    omega
theorem Red.eq {w : Int} {e f : E4} (he : Red w e) (hf : Red w f) (h : ∀ j, j < 4 → w ∣ e.fn j - f.fn j) : e = f := E4.fn_ext fun j hj => eq_of_dvd (he j hj) (hf j hj) (h j hj)
theorem redE_red {w : Int} (hw : 0 < w) {y : Vc} : Red w (redE w y) := fun j hj => by
  rw [redE_fn j hj]
  exact ⟨Int.emod_nonneg _ (by omega), Int.emod_lt_of_pos _ hw⟩
theorem redE_dvd {w : Int} {y : Vc} {j : Nat} (hj : j < 4) : w ∣ y j - (redE w y).fn j := by
  rw [redE_fn j hj]
  exact Int.dvd_self_sub_emod
/-- roots: exponents and degree -/
abbrev Rs := List (E4 × Nat)
def lcmR (w : Nat) : Rs → Nat
  | [] => w
  | x :: r => lcmR (w * x.2 / Nat.gcd w x.2) r
def rowS (w : Nat) (r : E4 × Nat) : Vc := fun j => r.1.fn j * ((w / r.2 : Nat) : Int)
/-- how many sums the rows of exponents have: the degree of the tower -/
def TwrL (rs : Rs) (L : List E4) : Prop := L.Nodup ∧ ∀ e, e ∈ L ↔ Red (lcmR 1 rs) e ∧ Sp0 (lcmR 1 rs) 4 (rs.map (rowS (lcmR 1 rs))) e.fn
def TwrN (rs : Rs) (n : Nat) : Prop := ∃ L, TwrL rs L ∧ L.length = n
theorem nodup_le {α : Type} [DecidableEq α] : ∀ {l D : List α}, l.Nodup → (∀ x ∈ l, x ∈ D) → l.length ≤ D.length
  | [], _, _, _ => Nat.zero_le _
  | x :: l, D, hn, hs => by
    obtain ⟨h1, h2⟩ := List.nodup_cons.mp hn
    have hx : x ∈ D := hs x (List.mem_cons_self ..)
    have ih := nodup_le (D := D.erase x) h2 fun y hy => (List.mem_erase_of_ne fun e => h1 (by rw [← e]; exact hy)).mpr (hs y (List.mem_cons_of_mem _ hy))
    have e := List.length_erase_of_mem hx
    have := List.length_pos_of_mem hx
    rw [List.length_cons]
    omega
theorem TwrN.one {rs : Rs} {n k : Nat} (h : TwrN rs n) (g : TwrN rs k) : n = k := by
  obtain ⟨L, ⟨h1, h2⟩, rfl⟩ := h
  obtain ⟨M, ⟨g1, g2⟩, rfl⟩ := g
  exact Nat.le_antisymm (nodup_le h1 fun x hx => (g2 x).mpr ((h2 x).mp hx)) (nodup_le g1 fun x hx => (h2 x).mpr ((g2 x).mp hx))
/-- so often each base -/
noncomputable def cfs (bs : List S4) (x : S4) : List Nat := open Classical in if h : ∃ cs : List Nat, cs.length = bs.length ∧ comb cs bs = x then Classical.choose h else []
theorem cfs_ok {bs : List S4} {x : S4} (h : Mon bs x) : (cfs bs x).length = bs.length ∧ comb (cfs bs x) bs = x := by
  have h' := h.comb
  unfold cfs
  rw [dif_pos h']
  exact Classical.choose_spec h'
def dif (cs ds : List Nat) : Vc := fun i => (cs.getD i 0 : Int) - (ds.getD i 0 : Int)
theorem comb_fn : ∀ {bs : List S4} {cs : List Nat} {j : Nat}, cs.length = bs.length → ((comb cs bs).fn j : Int) = phi bs (fun i => (cs.getD i 0 : Int)) j
  | [], [], 0, _ => rfl
  | [], [], 1, _ => rfl
  | [], [], 2, _ => rfl
  | [], [], n + 3, _ => rfl
  | b :: bs, c :: cs, j, h => by
    have ih := comb_fn (bs := bs) (cs := cs) (j := j) (by simpa using h)
    have e : ∀ j, ((comb (c :: cs) (b :: bs)).fn j : Int) = (c : Int) * (b.fn j : Int) + ((comb cs bs).fn j : Int)
      | 0 => by show ((c * b.a + (comb cs bs).a : Nat) : Int) = _; rw [Int.natCast_add, Int.natCast_mul]; rfl
      | 1 => by show ((c * b.b + (comb cs bs).b : Nat) : Int) = _; rw [Int.natCast_add, Int.natCast_mul]; rfl
      | 2 => by show ((c * b.c + (comb cs bs).c : Nat) : Int) = _; rw [Int.natCast_add, Int.natCast_mul]; rfl
      | n + 3 => by show ((c * b.d + (comb cs bs).d : Nat) : Int) = _; rw [Int.natCast_add, Int.natCast_mul]; rfl
    rw [e j, ih, phi]
    simp
theorem phi_dif {bs : List S4} {cs ds : List Nat} {j : Nat} (hc : cs.length = bs.length) (hd : ds.length = bs.length) : phi bs (dif cs ds) j = ((comb cs bs).fn j : Int) - ((comb ds bs).fn j : Int) := by
  rw [comb_fn hc, comb_fn hd]
  have := phi_lin (bs := bs) (x := fun i => (cs.getD i 0 : Int)) (t := fun i => (ds.getD i 0 : Int)) (c := 1) (j := j)
  rw [Int.one_mul] at this
  rw [← this]
  exact phi_congr fun i _ => by rw [Int.one_mul]; rfl
noncomputable def rowB (bs : List S4) (w : Nat) (r : E4 × Nat) : Vc := fun i => dif (cfs bs r.1.tS) (cfs bs r.1.bS) i * ((w / r.2 : Nat) : Int)
theorem phi_mul : ∀ {bs : List S4} {x : Vc} {k : Int} {j : Nat}, phi bs (fun i => x i * k) j = phi bs x j * k
  | [], _, _, _ => by simp [phi]
  | b :: bs, x, k, j => by
    rw [phi, phi, phi_mul (bs := bs) (x := fun i => x (i + 1)), Int.add_mul, Int.mul_assoc, Int.mul_assoc, Int.mul_comm k]
theorem phi_row {bs : List S4} {w : Nat} {r : E4 × Nat} (h1 : Mon bs r.1.tS) (h2 : Mon bs r.1.bS) : phi bs (rowB bs w r) = rowS w r := by
  funext j
  obtain ⟨a1, a2⟩ := cfs_ok h1
  obtain ⟨b1, b2⟩ := cfs_ok h2
  unfold rowB rowS
  rw [phi_mul, phi_dif a1 b1, a2, b2, E4.fn_parts]
/-- the degree by the rows over bases is that by the exponents -/
theorem twr_of {bs : List S4} {rs : Rs} {T : List Vc} (hw : 0 < lcmR 1 rs) (hd : bs.Pairwise Dj) (hg : ∀ b ∈ bs, b.gx = 1) (hm : ∀ r ∈ rs, Mon bs r.1.tS ∧ Mon bs r.1.bS)
    (hT : Tri (lcmR 1 rs) bs.length 0 T) (hs : SpE (lcmR 1 rs) bs.length T (rs.map (rowB bs (lcmR 1 rs)))) : TwrN rs (szT (lcmR 1 rs) 0 T).toNat := by
  have w0 : (0 : Int) < (lcmR 1 rs : Nat) := by omega
  have em : (rs.map (rowB bs (lcmR 1 rs))).map (phi bs) = rs.map (rowS (lcmR 1 rs)) := by
    rw [List.map_map]
    exact List.map_congr_left fun r hr => phi_row (hm r hr).1 (hm r hr).2
  refine ⟨(enm (lcmR 1 rs) 0 T).map fun x => redE (lcmR 1 rs) (phi bs x), ⟨?_, fun e => ⟨fun he => ?_, fun ⟨h1, h2⟩ => ?_⟩⟩, ?_⟩
  · refine List.pairwise_map.mpr ((enm_ne w0 hT).imp fun {x y} q z => q (phi_inj hd hg fun j hj => ?_))
    have a1 := redE_dvd (w := (lcmR 1 rs : Nat)) (y := phi bs x) hj
    have a2 := redE_dvd (w := (lcmR 1 rs : Nat)) (y := phi bs y) hj
    rw [z] at a1
    have := Int.dvd_sub a1 a2
    have e2 := phi_lin (bs := bs) (x := x) (t := y) (c := 1) (j := j)
    rw [Int.one_mul] at e2
    have e3 : phi bs (fun i => x i - y i) j = phi bs x j - phi bs y j := by
      rw [← e2]
      exact phi_congr fun i _ => by rw [Int.one_mul]
    rw [e3]
    rw [show phi bs x j - (redE (↑(lcmR 1 rs)) (phi bs y)).fn j - (phi bs y j - (redE (↑(lcmR 1 rs)) (phi bs y)).fn j) = phi bs x j - phi bs y j by omega] at this
    exact this
  · obtain ⟨x, hx, rfl⟩ := List.mem_map.mp he
    refine ⟨redE_red w0, ?_⟩
    have h1 := phi_sp ((hs x).mp (enm_sp hx))
    rw [em] at h1
    exact h1.congr fun j hj => redE_dvd hj
  · rw [← em] at h2
    obtain ⟨x, hx, e1⟩ := phi_back h2
    obtain ⟨y, hy, e2⟩ := enm_all w0 hT ((hs x).mpr hx)
    refine List.mem_map.mpr ⟨y, hy, (Red.eq h1 (redE_red w0) fun j hj => ?_).symm⟩
    have a1 := e1 j hj
    have a2 := redE_dvd (w := (lcmR 1 rs : Nat)) (y := phi bs y) hj
    have a3 : ((lcmR 1 rs : Nat) : Int) ∣ phi bs (fun i => x i - 1 * y i) j := phi_dvd fun i hi => by rw [Int.one_mul]; exact e2 i hi
    rw [phi_lin, Int.one_mul] at a3
    have := Int.dvd_add (Int.dvd_add a1 a3) a2
    rw [show e.fn j - phi bs x j + (phi bs x j - phi bs y j) + (phi bs y j - (redE (↑(lcmR 1 rs)) (phi bs y)).fn j) = e.fn j - (redE (↑(lcmR 1 rs)) (phi bs y)).fn j by omega] at this
    exact this
  · rw [List.length_map, ← enm_len w0 hT, Int.toNat_natCast]
end PP
-- text M9
namespace PP
theorem tot_comb {b : S4} {c : Nat} {cs : List Nat} {bs : List S4} : (comb (c :: cs) (b :: bs)).tot = c * b.tot + (comb cs bs).tot := by
  rw [comb]
  simp only [S4.tot, S4.add, S4.smul, Nat.mul_add]
  omega
theorem coef_le : ∀ {bs : List S4} {cs : List Nat} {i : Nat}, cs.length = bs.length → (∀ b ∈ bs, b ≠ .zero) → cs.getD i 0 ≤ (comb cs bs).tot
  | [], [], _, _, _ => by simp
  | b :: bs, c :: cs, 0, _, h => by
    rw [tot_comb]
    have := Nat.le_mul_of_pos_right c (S4.tot_pos (h b (List.mem_cons_self ..)))
    simp
    omega
  | b :: bs, c :: cs, i + 1, hl, h => by
    rw [tot_comb]
    have := coef_le (bs := bs) (cs := cs) (i := i) (by simpa using hl) fun y hy => h y (List.mem_cons_of_mem _ hy)
    simp at this ⊢
    omega
theorem dif_le {bs : List S4} {e : E4} {i T : Nat} (h1 : Mon bs e.tS) (h2 : Mon bs e.bS) (hz : ∀ b ∈ bs, b ≠ .zero) (t1 : e.tS.tot ≤ T) (t2 : e.bS.tot ≤ T) : (dif (cfs bs e.tS) (cfs bs e.bS) i).natAbs ≤ T := by
  obtain ⟨a1, a2⟩ := cfs_ok h1
  obtain ⟨b1, b2⟩ := cfs_ok h2
  have q1 := coef_le (i := i) a1 hz
  have q2 := coef_le (i := i) b1 hz
  rw [a2] at q1
  rw [b2] at q2
  unfold dif
  omega
/-- at most four bases -/
def fst (x : S4) : Nat := if x.a ≠ 0 then 0 else if x.b ≠ 0 then 1 else if x.c ≠ 0 then 2 else 3
theorem fst_nz {x : S4} (h : x ≠ .zero) : x.fn (fst x) ≠ 0 := by
  unfold fst
  split
  · assumption
  · split
    · assumption
    · split
      · assumption
      · intro z
        refine h (S4.ext' ?_ ?_ ?_ z) <;> show _ = 0 <;> omega
theorem fst_lt {x : S4} : fst x < 4 := by
  unfold fst
  split
  · omega
  · split
    · omega
    · split <;> omega
theorem dj_len {bs : List S4} (h : bs.Pairwise Dj) (hz : ∀ b ∈ bs, b ≠ .zero) : bs.length ≤ 4 := by
  have := nodup_le (l := bs.map fst) (D := List.range 4) (List.pairwise_map.mpr (h.imp_of_mem fun {a b} ha hb q z => by
    rcases q.fn (fst a) with y | y
    · exact fst_nz (hz a ha) y
    · rw [z] at y
      exact fst_nz (hz b hb) y)) fun x hx => by
    obtain ⟨y, _, rfl⟩ := List.mem_map.mp hx
    exact List.mem_range.mpr fst_lt
  rw [List.length_map] at this
  exact this
end PP
-- text MA
namespace PP
theorem spl_mul {s : Int} {e : E4} {j n : Nat} (h : Spl s e j) (h0 : 0 < j) (hn : 0 < n) (hd : j ∣ n) : Spl s e n := by
  rcases h with h | ⟨h1, h2, h3⟩
  · refine .inl ?_
    by_cases hs : s = 1
    · rw [if_pos hs] at h ⊢
      have h1 : Nat.gcd j e.g ∣ Nat.gcd n e.g := Nat.dvd_gcd (Nat.dvd_trans (Nat.gcd_dvd_left _ _) hd) (Nat.gcd_dvd_right _ _)
      exact Nat.lt_of_lt_of_le h (Nat.le_of_dvd (Nat.gcd_pos_of_pos_left _ hn) h1)
    · rw [if_neg hs] at h ⊢
      have ho : Nat.Coprime (oddp j) 2 := by
        have := oddp_is_odd h0
        refine (pr2.cop fun z => ?_).symm
        obtain ⟨c, hc⟩ := z
        omega
      have h1 : oddp j ∣ oddp n := dvd_oddp ho (Nat.dvd_trans oddp_dvd hd)
      have h2 : Nat.gcd (oddp j) e.g ∣ Nat.gcd (oddp n) e.g := Nat.dvd_gcd (Nat.dvd_trans (Nat.gcd_dvd_left _ _) h1) (Nat.gcd_dvd_right _ _)
      exact Nat.lt_of_lt_of_le h (Nat.le_of_dvd (Nat.gcd_pos_of_pos_left _ (oddp_pos hn)) h2)
  · exact .inr ⟨Nat.dvd_trans h1 hd, h2, h3⟩
theorem alw_spl2 {s : Int} {e : E4} (h : ¬ Alw s e) (hg : e.g ≤ 100) : ∃ j, 0 < j ∧ j ≤ 100 ∧ Spl s e j := by
  by_cases hs : s = 1
  · subst hs
    have h1 : e.g ≠ 1 := fun z => h (by unfold Alw; rw [if_pos rfl]; exact z)
    by_cases g0 : e.g = 0
    · exact ⟨2, by decide, by decide, .inl (by rw [if_pos rfl, g0]; decide)⟩
    · refine ⟨e.g, by omega, hg, .inl ?_⟩
      rw [if_pos rfl, Nat.gcd_self]
      omega
  · by_cases g0 : e.g = 0
    · refine ⟨3, by decide, by decide, .inl ?_⟩
      rw [if_neg hs, g0, oddp_odd (by decide)]
      decide
    · by_cases ho : oddp e.g = 1
      · by_cases hf : e.Four
        · exact ⟨4, by decide, by decide, .inr ⟨Nat.dvd_refl 4, hs, hf⟩⟩
        · exact absurd (by unfold Alw; rw [if_neg hs]; exact ⟨by omega, ho, hf⟩) h
      · have p0 := oddp_pos (n := e.g) (by omega)
        have p1 := oddp_is_odd (n := e.g) (by omega)
        refine ⟨oddp e.g, p0, Nat.le_trans (Nat.le_of_dvd (by omega) oddp_dvd) hg, .inl ?_⟩
        rw [if_neg hs, oddp_odd (n := oddp e.g) (by omega), Nat.gcd_eq_left oddp_dvd]
        omega
/-- the next one is near -/
theorem next_near {s : Int} {e : E4} {n m : Nat} (h : ¬ Alw s e) (hg : e.g ≤ 100) (hm : Next s e n m) : m ≤ n + 100 := by
  obtain ⟨j, j0, j1, hj⟩ := alw_spl2 h hg
  have h1 := (next_mul (n := n) j0).1
  have h2 := spl_mul hj j0 (by omega : 0 < (n / j + 1) * j) (Nat.dvd_mul_left _ _)
  have h3 := Nat.div_add_mod n j
  have e1 : (n / j + 1) * j = j * (n / j) + j := by rw [Nat.add_mul, Nat.mul_comm (n / j) j, Nat.one_mul]
  have h4 := Nat.mod_lt n j0
  refine Nat.le_trans (Nat.le_of_not_lt fun z => hm.2.2 _ h1 z h2) ?_
  omega
end PP
-- text MB
namespace PP
def code4 (w : Nat) (e : E4) : Nat := e.a.toNat + w * (e.b.toNat + w * (e.c.toNat + w * e.d.toNat))
theorem mix_inj {w a a' b b' : Nat} (ha : a < w) (ha' : a' < w) (h : a + w * b = a' + w * b') : a = a' ∧ b = b' := by
  have h1 : (a + w * b) % w = a := by rw [Nat.add_mul_mod_self_left, Nat.mod_eq_of_lt ha]
  have h2 : (a' + w * b') % w = a' := by rw [Nat.add_mul_mod_self_left, Nat.mod_eq_of_lt ha']
  have e : a = a' := by rw [← h1, h, h2]
  subst e
  exact ⟨rfl, Nat.eq_of_mul_eq_mul_left (by omega : 0 < w) (by omega)⟩
theorem mix_lt {w a b B : Nat} (ha : a < w) (hb : b < B) : a + w * b < w * B := by
  have : w * (b + 1) ≤ w * B := Nat.mul_le_mul_left w hb
  rw [Nat.mul_add, Nat.mul_one] at this
  omega
theorem Red.nats {w : Nat} {e : E4} (h : Red w e) : (0 ≤ e.a ∧ e.a.toNat < w) ∧ (0 ≤ e.b ∧ e.b.toNat < w) ∧ (0 ≤ e.c ∧ e.c.toNat < w) ∧ 0 ≤ e.d ∧ e.d.toNat < w := by
  have h0 : 0 ≤ e.a ∧ e.a < w := h 0 (by decide)
  have h1 : 0 ≤ e.b ∧ e.b < w := h 1 (by decide)
  have h2 : 0 ≤ e.c ∧ e.c < w := h 2 (by decide)
  have h3 : 0 ≤ e.d ∧ e.d < w := h 3 (by decide)
  omega
theorem code4_inj {w : Nat} {e f : E4} (he : Red w e) (hf : Red w f) (h : code4 w e = code4 w f) : e = f := by
  obtain ⟨⟨a0, a1⟩, ⟨b0, b1⟩, ⟨c0, c1⟩, d0, d1⟩ := he.nats
  obtain ⟨⟨a0', a1'⟩, ⟨b0', b1'⟩, ⟨c0', c1'⟩, d0', d1'⟩ := hf.nats
  unfold code4 at h
  obtain ⟨h1, h⟩ := mix_inj a1 a1' h
  obtain ⟨h2, h⟩ := mix_inj b1 b1' h
  obtain ⟨h3, h4⟩ := mix_inj c1 c1' h
  obtain ⟨a, b, c, d⟩ := e
  obtain ⟨a', b', c', d'⟩ := f
  simp only at *
  have e1 : a = a' := by omega
  have e2 : b = b' := by omega
  have e3 : c = c' := by omega
  have e4 : d = d' := by omega
  rw [e1, e2, e3, e4]
theorem code4_lt {w : Nat} {e : E4} (he : Red w e) : code4 w e < w * (w * (w * w)) := by
  obtain ⟨⟨a0, a1⟩, ⟨b0, b1⟩, ⟨c0, c1⟩, d0, d1⟩ := he.nats
  exact mix_lt a1 (mix_lt b1 (mix_lt c1 d1))
theorem red_le {w : Nat} {L : List E4} (hn : L.Nodup) (hr : ∀ e ∈ L, Red w e) : L.length ≤ w * (w * (w * w)) := by
  have := nodup_le (l := L.map (code4 w)) (D := List.range (w * (w * (w * w)))) (List.pairwise_map.mpr (hn.imp_of_mem fun {a b} ha hb q z => q (code4_inj (hr a ha) (hr b hb) z))) fun x hx => by
    obtain ⟨e, he, rfl⟩ := List.mem_map.mp hx
    exact List.mem_range.mpr (code4_lt (hr e he))
  rw [List.length_map, List.length_range] at this
  exact this
theorem twr_le {rs : Rs} {n : Nat} (h : TwrN rs n) : n ≤ lcmR 1 rs * (lcmR 1 rs * (lcmR 1 rs * lcmR 1 rs)) := by
  obtain ⟨L, ⟨h1, h2⟩, rfl⟩ := h
  exact red_le h1 fun e he => ((h2 e).mp he).1
end PP
-- text MC
namespace PP
theorem mul_g {e : E4} {i : Int} : (e.mul i).g = i.natAbs * e.g := by
  unfold E4.g E4.mul
  simp only [Int.natAbs_mul]
  rw [Nat.mul_comm e.a.natAbs, Nat.mul_comm e.b.natAbs, Nat.mul_comm e.c.natAbs, Nat.mul_comm e.d.natAbs, Nat.gcd_mul_left, Nat.gcd_mul_left, Nat.gcd_mul_left]
theorem gcd_cop {d k g : Nat} (h : Nat.gcd d g = 1) : Nat.gcd d (k * g) = Nat.gcd d k := Nat.Coprime.gcd_mul_right_cancel_right k (Nat.Coprime.symm h)
theorem lf_raised {e : E4} {d : Nat} {i : Int} (h : Nat.gcd d e.g = 1) : lfE (e.mul i) d = raisedE e d i ∧ lfN (e.mul i) d = raisedN d i := by
  have hg : Nat.gcd d (e.mul i).g = Nat.gcd d i.natAbs := by rw [mul_g, gcd_cop h]
  have hd : ((Nat.gcd d i.natAbs : Nat) : Int) ∣ i := Int.ofNat_dvd_left.mpr (Nat.gcd_dvd_right _ _)
  unfold lfE lfN raisedE raisedN
  rw [hg]
  refine ⟨?_, rfl⟩
  unfold E4.dv E4.mul
  simp only [Int.mul_ediv_assoc _ hd]
theorem raised_sm {e : E4} {d : Nat} {i : Int} (hi : i.natAbs ≤ 20) : ((i / (Nat.gcd d i.natAbs : Nat)).natAbs) ≤ 20 := by
  have hd : ((Nat.gcd d i.natAbs : Nat) : Int) ∣ i := Int.ofNat_dvd_left.mpr (Nat.gcd_dvd_right _ _)
  rw [Int.natAbs_ediv_of_dvd hd, Int.natAbs_natCast]
  exact Nat.le_trans (Nat.div_le_self _ _) hi
theorem big20 {t k : Nat} (ht : t ≤ 10 ^ 30) (hk : k ≤ 20) : t ^ k < 10 ^ 4300 := by
  have h1 : t ^ k ≤ (10 ^ 30) ^ k := Nat.pow_le_pow_left ht k
  have h2 : ((10 : Nat) ^ 30) ^ k ≤ (10 ^ 30) ^ 20 := Nat.pow_le_pow_right (by decide) hk
  have h3 : ((10 : Nat) ^ 30) ^ 20 = 10 ^ 600 := by rw [← Nat.pow_mul]
  have h4 : (10 : Nat) ^ 600 < 10 ^ 4300 := Nat.pow_lt_pow_right (by decide) (by decide)
  exact Nat.lt_of_le_of_lt (Nat.le_trans h1 h2) (by rw [h3]; exact h4)
theorem raised_big {e : E4} {d : Nat} {i : Int} (ht : e.tp ≤ 10 ^ 30) (hb : e.bt ≤ 10 ^ 30) (hi : i.natAbs ≤ 20) : (raisedE e d i).tp < 10 ^ 4300 ∧ (raisedE e d i).bt < 10 ^ 4300 := by
  rcases Int.le_total 0 i with h | h
  · obtain ⟨n, rfl⟩ := Int.eq_ofNat_of_zero_le h
    obtain ⟨e1, e2⟩ := raisedE_pos (e := e) (d := d) (n := n)
    rw [e1, e2]
    have hk : n / Nat.gcd d n ≤ 20 := Nat.le_trans (Nat.div_le_self _ _) (by omega)
    exact ⟨big20 ht hk, big20 hb hk⟩
  · obtain ⟨n, rfl⟩ : ∃ n : Nat, i = -(n : Int) := ⟨i.natAbs, by omega⟩
    obtain ⟨e1, e2⟩ := raisedE_neg (e := e) (d := d) (n := n)
    rw [e1, e2]
    have hk : n / Nat.gcd d n ≤ 20 := Nat.le_trans (Nat.div_le_self _ _) (by omega)
    exact ⟨big20 hb hk, big20 ht hk⟩
end PP
local macro_rules | `(tactic| walk_at "g1") => `(tactic| first
  | ((with_reducible refine' PP.g_var ?h1 ?_); (case h1 => rfl))
  | (with_reducible refine PP.g_c ?_) | (with_reducible refine PP.g_op ?_) | (with_reducible refine PP.g_un ?_) | (with_reducible refine PP.g_chain ?_)
  | (with_reducible refine PP.g_I0 ?_) | (with_reducible refine PP.g_U ?_) | (with_reducible refine PP.g_eqI ?_) | (with_reducible refine PP.g_neI ?_) | (with_reducible refine PP.g_eqS ?_) | (with_reducible refine PP.g_neS ?_)
  | (with_reducible refine PP.g_test ?_) | (with_reducible refine PP.g_B ?_) | (with_reducible refine PP.g_and ?_) | (with_reducible refine PP.g_or ?_) | (with_reducible refine PP.g_not ?_) | (with_reducible refine PP.g_if ?_)
  | (with_reducible refine PP.g_andV ?_) | (with_reducible refine PP.g_orV ?_) | (with_reducible refine PP.g_notV ?_) | (with_reducible refine PP.g_bl ?_)
  | (with_reducible refine PP.g_nil ?_) | (with_reducible refine PP.g_cons ?_) | (with_reducible refine PP.g_seq ?_) | (with_reducible refine PP.g_next ?_) | (with_reducible refine PP.g_asg ?_) | (with_reducible refine PP.g_name ?_)
  | (with_reducible refine PP.g_par ?_) | (with_reducible refine PP.g_two ?_) | (with_reducible refine PP.g_par3 ?_) | (with_reducible refine PP.g_three ?_) | (with_reducible refine PP.g_ret ?_) | (with_reducible refine PP.g_retN ?_) | (with_reducible refine PP.g_drop ?_) | (with_reducible refine PP.g_ifS ?_)
  | (with_reducible refine PP.g_call ?_) | (with_reducible refine PP.g_cb ?_) | ((with_reducible refine' PP.g_aug ?h2 ?_); (case h2 => rfl)) | (with_reducible refine PP.g_ipI ?_) | (with_reducible refine PP.g_unp ?_) | ((with_reducible refine' PP.g_lenok ?h3 ?_); (case h3 => rfl)) | (with_reducible refine PP.g_gcons ?_) | (with_reducible refine PP.g_gnil ?_) | (with_reducible refine PP.g_lc ?_) | (with_reducible refine PP.g_iL ?_) | (with_reducible refine PP.g_iT ?_) | (with_reducible refine PP.g_iR1 ?_) | (with_reducible refine PP.g_iR2 ?_) | (with_reducible refine PP.g_iS ?_) | (with_reducible refine PP.g_for ?_) | (with_reducible refine PP.g_sl ?_) | (with_reducible refine PP.g_gsub ?_) | (with_reducible refine PP.g_intI ?_) | (with_reducible refine PP.g_nop ?_) | (with_reducible refine PP.g_part ?_) | (with_reducible refine PP.g_isI ?_) | (with_reducible refine PP.g_m1 ?_) | (with_reducible refine PP.g_strv ?_) | (with_reducible refine PP.g_iE ?_) | (with_reducible refine PP.g_iEl ?_) | (with_reducible refine PP.g_iZ ?_) | (with_reducible refine PP.g_starA ?_) | (with_reducible refine PP.g_js ?_) | (with_reducible refine PP.g_js0 ?_) | (with_reducible refine PP.g_fmt ?_) | (with_reducible refine PP.g_fld ?_) | (with_reducible refine PP.g_sfld ?_) | (with_reducible refine PP.g_prop ?_) | (with_reducible refine PP.g_meth ?_) | (with_reducible refine PP.g_make ?_) | (with_reducible refine PP.g_revT ?_) | (with_reducible refine PP.g_yes ?_) | (with_reducible refine PP.g_tup ?_) | (with_reducible refine PP.g_lst ?_))
local macro_rules | `(tactic| walk_at "go") => `(tactic| repeat (walk_at "g1"))
-- text W1
namespace PP
open PySem PySem.Spec PyProof.Rows L2
theorem gi {mg : Str → Option Value} {x : Str} {i : Int} (h : ∃ t, mg x = some (.int i t)) : ∃ u, mg x = some u ∧ RelV (.int i) u := let ⟨t, e⟩ := h; ⟨_, e, t, rfl⟩
theorem gs {mg : Str → Option Value} {x z : Str} (h : ∃ t, mg x = some (.str z t)) : ∃ u, mg x = some u ∧ RelV (.str z) u := let ⟨t, e⟩ := h; ⟨_, e, t, rfl⟩
theorem len_eq2 {α : Type} {l : List α} (h : l.length = 2) : ∃ a b, l = [a, b] := by
  match l, h with
  | [a, b], _ => exact ⟨a, b, rfl⟩
section
variable {P : Program} {w : World} {K : PySem.W.Frag} {mg : Str → Option Value} {base : Heap}
/-! power_of -/
def sp_power_of : Sp := sp2 fun a b H Q _ => ∃ (x : Int) (n B : Nat), a = .int x ∧ b = .int (n : Int) ∧ x.natAbs < 2 ^ B ∧ 0 < B ∧ n * B + B ≤ 100000 ∧ Q (.int (x ^ n)) H
theorem pow_bits {x : Int} {B : Nat} (h : x.natAbs < 2 ^ B) (n : Nat) : (x ^ n).natAbs < 2 ^ (n * B + 1) := by
  rw [Int.natAbs_pow]
  have h1 : x.natAbs ^ n ≤ (2 ^ B) ^ n := Nat.pow_le_pow_left (Nat.le_of_lt h) n
  rw [← Nat.pow_mul, Nat.mul_comm] at h1
  have h2 : 2 ^ (n * B) < 2 ^ (n * B + 1) := Nat.pow_lt_pow_right (by decide) (by omega)
  omega
theorem c_power_of (T : Tx K mg) : CalX P w K mg base CX0 1 "power_of" sp_power_of [] := by
  refine cal0_of (F_power_of T) (g_power_of T) bd_power_of sc_power_of len2 (fun cdv A outer s H vs Q E hr h => ?_)
  obtain ⟨_, _, rfl, x, n, B, rfl, rfl, hx, hB, hn, q⟩ := h
  refine ⟨_, (pss_cons (ps_set (i := 2) sc_power_of.nd rfl (Or.inl rfl) pe_int)
      (pss_cons (ps_for PassesOwn.never rfl (pi_range1 rfl (b_range T) (pa_cons (pv 1) pa_nil)) (pg_name (i := 3) sc_power_of.nd rfl (Or.inl rfl)) (pss_one (ps_set (i := 2) sc_power_of.nd rfl (Or.inl rfl) (pe_op op_mulW (pv 2) (pv 0)))))
      (pss_one (ps_ret (pv 2))))), ?_⟩
  have nB : n ≤ n * B := Nat.le_mul_of_pos_right n hB
  walk_at "go"
  refine ⟨_, rfl, by omega, by omega, forR (lo := 0) (n := n) (fun i σ' H' => H' = H ∧ ∃ z v, σ' = [some (.int x), some (.int (n : Int)), some (.int z), v] ∧ z = x ^ i) ⟨rfl, 1, none, rfl, (Int.pow_zero x).symm⟩ ?_ ?_⟩
  · rintro i σ' H' hi ⟨rfl, _, v, rfl, rfl⟩
    walk_at "go"
    refine g_I (wide_mul (pow_bits hx i) hx (by omega) hB ?_) ?_
    · have : i * B ≤ n * B := Nat.mul_le_mul_right B (by omega)
      omega
    · walk_at "go"
      exact ⟨rfl, _, _, rfl, (Int.pow_succ x i).symm⟩
  · rintro σ' H' ⟨rfl, _, v, rfl, rfl⟩
    walk_at "go"
    exact q
/-! common_divisor -/
def sp_common_divisor : Sp := sp2 fun a b H Q _ => ∃ (x y : Nat), a = .int (x : Int) ∧ b = .int (y : Int) ∧ Q (.int (Nat.gcd x y : Nat)) H
theorem c_common_divisor (T : Tx K mg) : CalX P w K mg base CX0 1 "common_divisor" sp_common_divisor [] := by
  refine cal0_of (F_common_divisor T) (g_common_divisor T) bd_common_divisor sc_common_divisor len2 (fun cdv A outer s H vs Q E hr h => ?_)
  obtain ⟨_, _, rfl, x, y, rfl, rfl, q⟩ := h
  refine ⟨_, (pss_cons (ps_while PassesOwn.never (pt_cmpR op_ne (pv 1) pe_int (nomark _)) (pss_one (ps_par (i := 0) (j := 1) (by rfl) sc_common_divisor.nd rfl rfl (by decide) rfl rfl (pa_cons (pv 1) (pa_cons (pe_op op_mod (pv 0) (pv 1)) pa_nil)) (by rfl))))
      (pss_one (ps_ret (pv 0)))), ?_⟩
  walk_at "go"
  refine g_while (fun m σ' H' => H' = H ∧ ∃ a b : Nat, b = m ∧ σ' = [some (.int (a : Int)), some (.int (b : Int))] ∧ Nat.gcd a b = Nat.gcd x y) y ⟨rfl, x, y, rfl, rfl, rfl⟩ ?_
  rintro m σ' H' ⟨rfl, a, b, rfl, rfl, e⟩
  walk_at "go"
  refine ifn (fun hb => g_turn ?_) (fun hb => ?_)
  · walk_at "go"
    refine g_I (by omega) ?_
    walk_at "go"
    refine ⟨a % b, Nat.mod_lt _ (by omega), rfl, b, a % b, rfl, rfl, ?_⟩
    rw [← e, Nat.gcd_comm a b, Nat.gcd_rec b a, Nat.gcd_comm]
  · have hb0 : b = 0 := by omega
    subst hb0
    walk_at "go"
    rw [Nat.gcd_zero_right] at e
    rw [e]
    exact q
/-! floor_root, is_power: numbers below 2 ^ 250, exponents from 1 to 250 -/
def sp_floor_root : Sp := sp2 fun a b H Q _ => ∃ (v p : Nat), a = .int (v : Int) ∧ b = .int (p : Int) ∧ v < 2 ^ 250 ∧ 1 ≤ p ∧ p ≤ 250 ∧ ∀ r : Nat, r ^ p ≤ v → v < (r + 1) ^ p → Q (.int (r : Int)) H
theorem le_pow_self' {r p : Nat} (h : 1 ≤ p) : r ≤ r ^ p := by
  cases p with
  | zero => omega
  | succ p =>
    rw [Nat.pow_succ]
    cases r with
    | zero => omega
    | succ r => exact Nat.le_mul_of_pos_left _ (Nat.pow_pos (Nat.succ_pos r))
theorem nat_bits {n B : Nat} (h : n < 2 ^ B) : (n : Int).natAbs < 2 ^ B := by simpa using h
theorem c_floor_root (T : Tx K mg) : CalX P w K mg base CX0 2 "floor_root" sp_floor_root [] := by
  refine cal0_of (F_floor_root T) (g_floor_root T) bd_floor_root sc_floor_root len2 (fun cdv A outer s H vs Q E hr h => ?_)
  obtain ⟨_, _, rfl, v, p, rfl, rfl, hv, hp1, hp, q⟩ := h
  refine ⟨_, (pss_cons (ps_unp (n := 2) rfl (pa_cons pe_int (pa_cons pe_int pa_nil)) (pgs_cons (pg_name (i := 2) sc_floor_root.nd rfl (Or.inl rfl)) (pgs_cons (pg_name (i := 3) sc_floor_root.nd rfl (Or.inl rfl)) pgs_nil)))
      (pss_cons (ps_while PassesOwn.never (pt_cmpR op_le (pe_cx (c_power_of T) hr pass0 (pa_cons (pv 3) (pa_cons (pv 1) pa_nil))) (pv 0) (nomark _)) (pss_one (ps_par (i := 2) (j := 3) (by rfl) sc_floor_root.nd rfl rfl (by decide) rfl rfl (pa_cons (pv 3) (pa_cons (pe_op op_mulW pe_int (pv 3)) pa_nil)) (by rfl))))
      (pss_cons (ps_while PassesOwn.never (pt_cmpR op_gt (pe_op op_sub (pv 3) (pv 2)) pe_int (nomark _)) (pss_cons (ps_set (i := 4) sc_floor_root.nd rfl (Or.inl rfl) (pe_op op_fdivW (pe_op op_add (pv 2) (pv 3)) pe_int))
      (pss_one (ps_if (pt_cmpR op_le (pe_cx (c_power_of T) hr pass0 (pa_cons (pv 4) (pa_cons (pv 1) pa_nil))) (pv 0) (nomark _)) (pss_one (ps_set (i := 2) sc_floor_root.nd rfl (Or.inl rfl) (pv 4))) (pss_one (ps_set (i := 3) sc_floor_root.nd rfl (Or.inl rfl) (pv 4)))))))
      (pss_one (ps_ret (pv 2)))))), ?_⟩
  have hB : p * 252 + 252 ≤ 100000 := by omega
  walk_at "go"
  refine g_while (fun m σ' H' => H' = H ∧ ∃ lo hi : Nat, m = 2 * v + 2 - hi ∧ σ' = [some (.int (v : Int)), some (.int (p : Int)), some (.int (lo : Int)), some (.int (hi : Int)), none] ∧ lo ^ p ≤ v ∧ 1 ≤ hi ∧ hi ≤ 2 * lo + 1 ∧ lo < hi) _ ⟨rfl, 0, 1, rfl, rfl, by rw [Nat.zero_pow (by omega)]; omega, by omega, by omega, by omega⟩ ?_
  rintro m σ' H' ⟨rfl, lo, hi, rfl, rfl, h1, h2, h3, h4⟩
  have hlo : lo ≤ v := Nat.le_trans (le_pow_self' hp1) h1
  have hhi : hi < 2 ^ 252 := by omega
  walk_at "go"
  refine ⟨_, _, rfl, (hi : Int), p, 252, rfl, rfl, nat_bits hhi, by omega, hB, ?_⟩
  walk_at "go"
  refine ifd (fun hb => g_turn ?_) (fun hb => ?_)
  · have hb' : hi ^ p ≤ v := by exact_mod_cast hb
    have hle : hi ≤ v := Nat.le_trans (le_pow_self' hp1) hb'
    walk_at "go"
    refine g_I (wide_mul (a := 2) (b := 252) (by decide) (nat_bits hhi) (by decide) (by decide) (by decide)) ?_
    walk_at "go"
    exact ⟨_, (by omega : 2 * v + 2 - 2 * hi < 2 * v + 2 - hi), rfl, hi, 2 * hi, rfl, by simp, hb', by omega, by omega, by omega⟩
  · have hb' : v < hi ^ p := by
      have : ¬ hi ^ p ≤ v := fun z => hb (by exact_mod_cast z)
      omega
    walk_at "go"
    refine g_while (fun m σ' H2 => H2 = H' ∧ ∃ (lo hi : Nat) (md : Option V), m = hi - lo ∧ σ' = [some (.int (v : Int)), some (.int (p : Int)), some (.int (lo : Int)), some (.int (hi : Int)), md] ∧ lo ^ p ≤ v ∧ v < hi ^ p ∧ lo < hi ∧ hi < 2 ^ 252) _ ⟨rfl, lo, hi, none, rfl, rfl, h1, hb', h4, hhi⟩ ?_
    rintro m σ' H' ⟨rfl, lo, hi, md, rfl, rfl, h1, h2, h4, hhi⟩
    walk_at "go"
    refine ifd (fun hb => g_turn ?_) (fun hb => ?_)
    · walk_at "go"
      refine g_I (wide_div (b := 2) (by decide) (by decide) (by decide) (by decide)) ?_
      walk_at "go"
      have e : ((lo : Int) + (hi : Int)) / 2 = (((lo + hi) / 2 : Nat) : Int) := by omega
      rw [e]
      refine ⟨_, _, rfl, _, p, 252, rfl, rfl, nat_bits (by omega), by omega, hB, ?_⟩
      walk_at "go"
      refine ifd (fun hc => ?_) (fun hc => ?_)
      · have hc' : ((lo + hi) / 2) ^ p ≤ v := by exact_mod_cast hc
        walk_at "go"
        exact ⟨_, (by omega : hi - (lo + hi) / 2 < hi - lo), rfl, _, hi, _, rfl, rfl, hc', h2, by omega, hhi⟩
      · have hc' : v < ((lo + hi) / 2) ^ p := by
          have : ¬ ((lo + hi) / 2) ^ p ≤ v := fun z => hc (by exact_mod_cast z)
          omega
        walk_at "go"
        exact ⟨_, (by omega : (lo + hi) / 2 - lo < hi - lo), rfl, lo, _, _, rfl, rfl, h1, hc', by omega, by omega⟩
    · have e : hi = lo + 1 := by omega
      subst e
      walk_at "go"
      exact q lo h1 h2
def sp_is_power : Sp := sp2 fun a b H Q _ => ∃ (v p : Nat), a = .int (v : Int) ∧ b = .int (p : Int) ∧ v < 2 ^ 250 ∧ 1 ≤ p ∧ p ≤ 250 ∧ ∀ k : Bool, (k = true ↔ ∃ r : Nat, r ^ p = v) → Q (.bl k) H
theorem root_unique {v p r : Nat} (hp : 1 ≤ p) (h1 : r ^ p ≤ v) (h2 : v < (r + 1) ^ p) : r ^ p = v ↔ ∃ s : Nat, s ^ p = v := by
  refine ⟨fun e => ⟨r, e⟩, fun ⟨s, e⟩ => ?_⟩
  subst e
  have a : r ≤ s := by
    refine Nat.le_of_not_lt fun z => ?_
    have := Nat.pow_lt_pow_left z (by omega : p ≠ 0)
    omega
  have b : s < r + 1 := by
    refine Nat.lt_of_not_le fun z => ?_
    have := Nat.pow_le_pow_left z p
    omega
  have e : r = s := by omega
  rw [e]
theorem c_is_power (T : Tx K mg) : CalX P w K mg base CX0 3 "is_power" sp_is_power [] := by
  refine cal0_of (F_is_power T) (g_is_power T) bd_is_power sc_is_power len2 (fun cdv A outer s H vs Q E hr h => ?_)
  obtain ⟨_, _, rfl, v, p, rfl, rfl, hv, hp1, hp, q⟩ := h
  refine ⟨_, (pss_one (ps_ret (pe_cmpR op_eq (pe_cx (c_power_of T) hr pass0 (pa_cons (pe_cx (c_floor_root T) hr pass0 (pa_cons (pv 0) (pa_cons (pv 1) pa_nil))) (pa_cons (pv 1) pa_nil))) (pv 0) (nomark _)))), ?_⟩
  walk_at "go"
  refine ⟨_, _, rfl, v, p, rfl, rfl, hv, hp1, hp, fun r h1 h2 => ?_⟩
  walk_at "go"
  have hr : r < 2 ^ 250 := by
    have := Nat.le_trans (le_pow_self' (r := r) hp1) h1
    omega
  refine ⟨_, _, rfl, (r : Int), p, 250, rfl, rfl, nat_bits hr, by omega, by omega, ?_⟩
  walk_at "go"
  refine q _ ?_
  rw [decide_eq_true_iff]
  refine Iff.trans ?_ (root_unique hp1 h1 h2)
  constructor
  · intro z
    exact_mod_cast z
  · intro z
    exact_mod_cast z
end
end PP
-- text W2
namespace PP
open PySem PySem.Spec PyProof.Rows L2
section
variable {P : Program} {w : World} {K : PySem.W.Frag} {mg : Str → Option Value} {base : Heap}
/-! checks -/
def sp_is_integer : Sp := sp1 fun a H Q _ => ∃ i : Int, a = .int i ∧ Q (.bl true) H
theorem c_is_integer (T : Tx K mg) : CalX P w K mg base CX0 1 "is_integer" sp_is_integer [] := by
  refine cal0_of (F_is_integer T) (g_is_integer T) bd_is_integer sc_is_integer len1 (fun cdv A outer s H vs Q E hr h => ?_)
  obtain ⟨_, rfl, i, rfl, q⟩ := h
  refine ⟨_, (pss_one (ps_ret (pe_and (pe_callB call_isi (by rfl) (b_isinstance T) (by decide +kernel) (pa_cons (pv 0) (pa_cons (pe_bltn (v := .ty "int") rfl (b_int T) (by decide +kernel) rfl) pa_nil))) (pe_one (pe_not (pe_callB call_isi (by rfl) (b_isinstance T) (by decide +kernel) (pa_cons (pv 0) (pa_cons (pe_bltn (v := .ty "bool") rfl (b_bool T) (by decide +kernel) rfl) pa_nil)))))))), ?_⟩
  walk_at "go"
  refine ⟨_, _, _, _, true, rfl, ClsV.ty "int", TyX.base (TyOf.int i), kit_ty (by decide +kernel), ?_⟩
  walk_at "go"
  refine iteT ?_
  walk_at "go"
  refine ⟨_, _, _, _, false, rfl, ClsV.ty "bool", TyX.base (TyOf.int i), kit_ty (by decide +kernel), ?_⟩
  walk_at "go"
  exact q
def sp_is_between : Sp := sp3 fun a b c H Q _ => ∃ i lo hi : Int, a = .int i ∧ b = .int lo ∧ c = .int hi ∧ Q (.bl (decide (lo ≤ i ∧ i ≤ hi))) H
theorem c_is_between (T : Tx K mg) : CalX P w K mg base CX0 2 "is_between" sp_is_between [] := by
  refine cal0_of (F_is_between T) (g_is_between T) bd_is_between sc_is_between len3 (fun cdv A outer s H vs Q E hr h => ?_)
  obtain ⟨_, _, _, rfl, i, lo, hi, rfl, rfl, rfl, q⟩ := h
  refine ⟨_, (pss_one (ps_ret (pe_and (pe_cx (c_is_integer T) hr pass0 (pa_cons (pv 0) pa_nil)) (pe_one (pe_chain op_le op_le (pv 1) (pv 0) (pv 2)))))), ?_⟩
  walk_at "go"
  refine ⟨_, rfl, i, rfl, ?_⟩
  walk_at "go"
  refine iteT ?_
  walk_at "go"
  refine ifd (fun h1 => ?_) (fun h1 => ?_)
  · walk_at "go"
    have e : decide (lo ≤ i ∧ i ≤ hi) = decide (i ≤ hi) := by simp [h1]
    rw [e] at q
    exact q
  · have e : decide (lo ≤ i ∧ i ≤ hi) = false := by simp [h1]
    rw [e] at q
    exact q
/-- a number: top and bottom -/
def NumOk (t b : Int) : Prop := -(10 ^ 30) ≤ t ∧ t ≤ 10 ^ 30 ∧ t ≠ 0 ∧ 1 ≤ b ∧ b ≤ 10 ^ 30 ∧ Nat.gcd t.natAbs b.toNat = 1
def sp_is_number : Sp := sp1 fun x H Q _ => ∃ (p : Addr) (t b : Int), x = .ref p ∧ H p = some (.tup [.int t, .int b]) ∧ NumOk t b ∧ Q (.bl true) H
theorem at0 {x : V} {l : List V} : atI (x :: l) 0 = some x := atI_nat (j := 0) rfl
theorem at1 {x y : V} {l : List V} : atI (x :: y :: l) 1 = some y := atI_nat (j := 1) rfl
theorem c_is_number (T : Tx K mg) : CalX P w K mg base CX0 3 "is_number" sp_is_number [] := by
  refine cal0_of (F_is_number T) (g_is_number T) bd_is_number sc_is_number len1 (fun cdv A outer s H vs Q E hr h => ?_)
  obtain ⟨_, rfl, p, t, b, rfl, hp, ⟨n1, n2, n3, n4, n5, n6⟩, q⟩ := h
  refine ⟨_, (pss_cons (ps_if (PW.pt (pw_or (pt_not (pt_val (pe_callB call_isi (by rfl) (b_isinstance T) (by decide +kernel) (pa_cons (pv 0) (pa_cons (pe_bltn (v := .ty "tuple") rfl (b_tuple T) (by decide +kernel) rfl) pa_nil))))) (pw_or1 (pt_cmpR op_ne (pe_callB call_len_seq (by rfl) (b_len T) (by decide +kernel) (pa_cons (pv 0) pa_nil)) pe_int (nomark _))))) (pss_one ps_never) pss_nil)
      (pss_cons (ps_if (PW.pt (pw_or (pt_not (pt_val (pe_cx (c_is_between T) hr pass0 (pa_cons (pe_ix ix_tup (pv 0) pe_int (fun _ _ => rfl)) (pa_cons (pe_un un_neg (pe_gk rfl (gi (k_MOST_SIZE T)))) (pa_cons (pe_gk rfl (gi (k_MOST_SIZE T))) pa_nil)))))) (pw_or (pt_cmpR op_eq (pe_ix ix_tup (pv 0) pe_int (fun _ _ => rfl)) pe_int (nomark _)) (pw_or1 (pt_not (pt_val (pe_cx (c_is_between T) hr pass0 (pa_cons (pe_ix ix_tup (pv 0) pe_int (fun _ _ => rfl)) (pa_cons pe_int (pa_cons (pe_gk rfl (gi (k_MOST_SIZE T))) pa_nil)))))))))) (pss_one ps_never) pss_nil)
      (pss_one (ps_ret (pe_cmpR op_eq (pe_cx (c_common_divisor T) hr pass0 (pa_cons (pe_callB call_abs (by rfl) (b_abs T) (by decide +kernel) (pa_cons (pe_ix ix_tup (pv 0) pe_int (fun _ _ => rfl)) pa_nil)) (pa_cons (pe_ix ix_tup (pv 0) pe_int (fun _ _ => rfl)) pa_nil))) pe_int (nomark _)))))), ?_⟩
  walk_at "go"
  refine ⟨_, _, _, _, true, rfl, ClsV.ty "tuple", TyX.base (TyOf.tup hp), kit_ty (by decide +kernel), ?_⟩
  walk_at "go"
  refine iteF ?_
  walk_at "go"
  refine ⟨p, _, rfl, .inr (SqT.of hp), ?_⟩
  walk_at "go"
  refine ifnF rfl ?_
  walk_at "go"
  refine g_ixT (SqT.of hp) at0 ?_
  walk_at "go"
  refine ⟨_, _, _, rfl, t, _, _, rfl, rfl, rfl, ?_⟩
  walk_at "go"
  refine ifnF (And.intro n1 n2) ?_
  walk_at "go"
  refine g_ixT (SqT.of hp) at0 ?_
  walk_at "go"
  refine ifF n3 ?_
  walk_at "go"
  refine g_ixT (SqT.of hp) at1 ?_
  walk_at "go"
  refine ⟨_, _, _, rfl, b, _, _, rfl, rfl, rfl, ?_⟩
  walk_at "go"
  refine ifnF (And.intro n4 n5) ?_
  walk_at "go"
  refine g_ixT (SqT.of hp) at0 ?_
  walk_at "go"
  refine ⟨t, rfl, ?_⟩
  walk_at "go"
  refine g_ixT (SqT.of hp) at1 ?_
  walk_at "go"
  refine ⟨_, _, rfl, t.natAbs, b.toNat, ?_, ?_, ?_⟩
  · congr 1
    split <;> omega
  · congr 1
    omega
  walk_at "go"
  rw [decide_eq_true (by rw [n6]; rfl)]
  exact q
/-! check_number: all numbers here are ones -/
def sp_check_number : Sp := sp1 fun x H Q _ => ∃ (p : Addr) (t b : Int), x = .ref p ∧ H p = some (.tup [.int t, .int b]) ∧ NumOk t b ∧ Q .non H
theorem c_check_number (T : Tx K mg) : CalX P w K mg base CX0 4 "check_number" sp_check_number [] := by
  refine cal0_of (F_check_number T) (g_check_number T) bd_check_number sc_check_number len1 (fun cdv A outer s H vs Q E hr h => ?_)
  obtain ⟨_, rfl, p, t, b, rfl, hp, hn, q⟩ := h
  refine ⟨_, (pss_one (ps_if (pt_not (pt_val (pe_cx (c_is_number T) hr pass0 (pa_cons (pv 0) pa_nil)))) (pss_one ps_never) pss_nil)), ?_⟩
  walk_at "go"
  refine ⟨_, rfl, p, t, b, rfl, hp, hn, ?_⟩
  walk_at "go"
  refine iteF ?_
  walk_at "go"
  exact q
/-! check_degree -/
def sp_check_degree (K : PySem.W.Frag) : Sp := sp3 fun a b c H Q E => ∃ i hi lo : Int, a = .int i ∧ b = .int hi ∧ c = .int lo ∧ (lo ≤ i → i ≤ hi → Q .non H) ∧ (¬ (lo ≤ i ∧ i ≤ hi) → ∀ d H', Same H H' → E (.ref (gaK K "InvalidDegree")) d H')
theorem fn_check_degree (T : Tx K mg) {fd : FuncData} (F : FunD K "check_degree" "check_degree" (defArgs s_check_degree) (defBody s_check_degree) (defScope s_check_degree) [.int (10 ^ 30), .int 1] [] (gaK K "check_degree") fd) :
    FnOk P w K mg base (L2.CX P w) 3 (gaK K "check_degree") fd ["value", "most", "least"] (sp_check_degree K) := by
  refine F.ok sc_check_degree len3 (fun cdv A outer s H vs Q E hr h => ?_)
  obtain ⟨_, _, _, rfl, i, hi, lo, rfl, rfl, rfl, q1, q2⟩ := h
  refine ⟨_, (pss_one (ps_if (pt_not (pt_val (pe_cx (c_is_between T) hr pass0 (pa_cons (pv 0) (pa_cons (pv 2) (pa_cons (pv 1) pa_nil)))))) (pss_one (ps_raiseGv rfl T.gv_InvalidDegree hr tX (pa_cons (pv 0) pa_nil))) pss_nil)), ?_⟩
  walk_at "go"
  refine ⟨_, _, _, rfl, i, lo, hi, rfl, rfl, rfl, ?_⟩
  walk_at "go"
  refine ifn (fun hc => ?_) (fun hc => ?_)
  · refine g_raiseGv ?_
    walk_at "go"
    exact ⟨_, rfl, fun d H' hs => q2 hc d H' hs⟩
  · walk_at "go"
    exact q1 hc.1 hc.2
theorem c_check_degree1 (T : Tx K mg) : CalX P w K mg base (L2.CX P w) 3 "check_degree" (sp_check_degree K) [.int (10 ^ 30), .int 1] := by
  obtain ⟨fd, F⟩ := T.cd
  obtain ⟨ds, hv, hb⟩ := F.binds1 (ps := ["value", "most", "least"]) 1 0 (by decide) rfl (fun T kV doc pm an cdv ct us its h1 h2 => by
    obtain ⟨u, rfl⟩ : ∃ u, us = [u] := by
      match us, h1 with
      | [u], _ => exact ⟨u, rfl⟩
    obtain ⟨x, y, rfl⟩ := len_eq2 (l := its) h2
    exact ⟨_, rfl, rfl⟩)
  exact ⟨_, fd, _, ds, fn_check_degree T F, g_check_degree T, F.kp, hb, hv⟩
theorem c_check_degree2 (T : Tx K mg) : CalX P w K mg base (L2.CX P w) 3 "check_degree" (sp_check_degree K) [.int 1] := by
  obtain ⟨fd, F⟩ := T.cd
  obtain ⟨ds, hv, hb⟩ := F.binds1 (ps := ["value", "most", "least"]) 2 1 (by decide) rfl (fun T kV doc pm an cdv ct us its h1 h2 => by
    obtain ⟨u, v, rfl⟩ := len_eq2 (l := us) h1
    obtain ⟨x, y, rfl⟩ := len_eq2 (l := its) h2
    exact ⟨_, rfl, rfl⟩)
  exact ⟨_, fd, _, ds, fn_check_degree T F, g_check_degree T, F.kp, hb, hv⟩
theorem c_check_degree3 (T : Tx K mg) : CalX P w K mg base (L2.CX P w) 3 "check_degree" (sp_check_degree K) [] := by
  obtain ⟨fd, F⟩ := T.cd
  obtain ⟨ds, hv, hb⟩ := F.binds1 (ps := ["value", "most", "least"]) 3 2 (by decide) rfl (fun T kV doc pm an cdv ct us its h1 h2 => by
    obtain ⟨u, v, z, rfl⟩ : ∃ u v z, us = [u, v, z] := by
      match us, h1 with
      | [u, v, z], _ => exact ⟨u, v, z, rfl⟩
    obtain ⟨x, y, rfl⟩ := len_eq2 (l := its) h2
    exact ⟨_, rfl, rfl⟩)
  exact ⟨_, fd, _, ds, fn_check_degree T F, g_check_degree T, F.kp, hb, hv⟩
end
end PP
-- text W3
namespace PP
open PySem PySem.Spec PyProof.Rows L2
section
variable {P : Program} {w : World} {K : PySem.W.Frag} {mg : Str → Option Value} {base : Heap}
/-- at p: a pair of whole numbers -/
abbrev Num (H : Hp) (p : Addr) (t b : Int) : Prop := H p = some (.tup [.int t, .int b])
/-! lowest: of two numbers above 0 -/
def sp_lowest : Sp := sp2 fun a b H Q _ => ∃ x y : Nat, a = .int (x : Int) ∧ b = .int (y : Int) ∧ 0 < x ∧ x < 2 ^ 250 ∧ y < 2 ^ 250 ∧ ∀ H' p, Same H H' → Num H' p ((x / Nat.gcd x y : Nat) : Int) ((y / Nat.gcd x y : Nat) : Int) → Q (.ref p) H'
theorem c_lowest (T : Tx K mg) : CalX P w K mg base CX0 2 "lowest" sp_lowest [] := by
  refine cal0_of (F_lowest T) (g_lowest T) bd_lowest sc_lowest len2 (fun cdv A outer s H vs Q E hr h => ?_)
  obtain ⟨_, _, rfl, x, y, rfl, rfl, hx, lx, ly, q⟩ := h
  refine ⟨_, (pss_cons (ps_set (i := 2) sc_lowest.nd rfl (Or.inl rfl) (pe_cx (c_common_divisor T) hr pass0 (pa_cons (pe_callB call_abs (by rfl) (b_abs T) (by decide +kernel) (pa_cons (pv 0) pa_nil)) (pa_cons (pv 1) pa_nil))))
      (pss_one (ps_ret (pe_tup (pa_cons (pe_op op_fdivW (pv 0) (pv 2)) (pa_cons (pe_op op_fdivW (pv 1) (pv 2)) pa_nil)))))), ?_⟩
  walk_at "go"
  refine ⟨(x : Int), rfl, ?_⟩
  rw [if_neg (by omega)]
  walk_at "go"
  refine ⟨_, _, rfl, x, y, rfl, rfl, ?_⟩
  have gp : 0 < Nat.gcd x y := Nat.gcd_pos_of_pos_left y hx
  have gl : Nat.gcd x y < 2 ^ 250 := Nat.lt_of_le_of_lt (Nat.gcd_le_left y hx) lx
  walk_at "go"
  refine g_I (wide_div (b := 250) (by omega) (nat_bits gl) (by decide) (by decide)) ?_
  walk_at "go"
  refine g_I (wide_div (b := 250) (by omega) (nat_bits gl) (by decide) (by decide)) ?_
  walk_at "go"
  refine mkT fun p hp => ?_
  refine q _ p (same_new hp) ?_
  show upd _ _ _ _ = _
  rw [upd_same, Int.natCast_ediv, Int.natCast_ediv]
/-! raised, taken -/
def sp_raised : Sp := sp2 fun a b H Q _ => ∃ (p : Addr) (t u : Int) (n B : Nat), a = .ref p ∧ b = .int (n : Int) ∧ Num H p t u ∧ t.natAbs < 2 ^ B ∧ u.natAbs < 2 ^ B ∧ 0 < B ∧ n * B + B ≤ 100000 ∧ ∀ H' p', Same H H' → Num H' p' (t ^ n) (u ^ n) → Q (.ref p') H'
theorem c_raised (T : Tx K mg) : CalX P w K mg base CX0 2 "raised" sp_raised [] := by
  refine cal0_of (F_raised T) (g_raised T) bd_raised sc_raised len2 (fun cdv A outer s H vs Q E hr h => ?_)
  obtain ⟨_, _, rfl, p, t, u, n, B, rfl, rfl, hp, ht, hu, hB, hn, q⟩ := h
  refine ⟨_, (pss_one (ps_ret (pe_tup (pa_cons (pe_cx (c_power_of T) hr pass0 (pa_cons (pe_ix ix_tup (pv 0) pe_int (fun _ _ => rfl)) (pa_cons (pv 1) pa_nil))) (pa_cons (pe_cx (c_power_of T) hr pass0 (pa_cons (pe_ix ix_tup (pv 0) pe_int (fun _ _ => rfl)) (pa_cons (pv 1) pa_nil))) pa_nil))))), ?_⟩
  walk_at "go"
  refine g_ixT (SqT.of hp) at0 ?_
  walk_at "go"
  refine ⟨_, _, rfl, t, n, B, rfl, rfl, ht, hB, hn, ?_⟩
  walk_at "go"
  refine g_ixT (SqT.of hp) at1 ?_
  walk_at "go"
  refine ⟨_, _, rfl, u, n, B, rfl, rfl, hu, hB, hn, ?_⟩
  walk_at "go"
  exact mkT fun p' hp' => q _ p' (same_new hp') upd_same
theorem c_taken (T : Tx K mg) : CalX P w K mg base CX0 2 "taken" sp_raised [] := by
  refine cal0_of (F_taken T) (g_taken T) bd_taken sc_taken len2 (fun cdv A outer s H vs Q E hr h => ?_)
  obtain ⟨_, _, rfl, p, t, u, n, B, rfl, rfl, hp, ht, hu, hB, hn, q⟩ := h
  refine ⟨_, (pss_one (ps_ret (pe_tup (pa_cons (pe_cx (c_power_of T) hr pass0 (pa_cons (pe_ix ix_tup (pv 0) pe_int (fun _ _ => rfl)) (pa_cons (pv 1) pa_nil))) (pa_cons (pe_cx (c_power_of T) hr pass0 (pa_cons (pe_ix ix_tup (pv 0) pe_int (fun _ _ => rfl)) (pa_cons (pv 1) pa_nil))) pa_nil))))), ?_⟩
  walk_at "go"
  refine g_ixT (SqT.of hp) at0 ?_
  walk_at "go"
  refine ⟨_, _, rfl, t, n, B, rfl, rfl, ht, hB, hn, ?_⟩
  walk_at "go"
  refine g_ixT (SqT.of hp) at1 ?_
  walk_at "go"
  refine ⟨_, _, rfl, u, n, B, rfl, rfl, hu, hB, hn, ?_⟩
  walk_at "go"
  exact mkT fun p' hp' => q _ p' (same_new hp') upd_same
/-! whole_root: of a perfect power -/
def sp_whole_root : Sp := sp2 fun a b H Q _ => ∃ v p r : Nat, a = .int (v : Int) ∧ b = .int (p : Int) ∧ r ^ p = v ∧ v < 2 ^ 250 ∧ 1 ≤ p ∧ p ≤ 250 ∧ Q (.int (r : Int)) H
theorem c_whole_root (T : Tx K mg) : CalX P w K mg base CX0 2 "whole_root" sp_whole_root [] := by
  refine cal0_of (F_whole_root T) (g_whole_root T) bd_whole_root sc_whole_root len2 (fun cdv A outer s H vs Q E hr h => ?_)
  obtain ⟨_, _, rfl, v, p, r, rfl, rfl, e, hv, hp1, hp, q⟩ := h
  refine ⟨_, (pss_cons (ps_unp (n := 2) rfl (pa_cons pe_int (pa_cons pe_int pa_nil)) (pgs_cons (pg_name (i := 2) sc_whole_root.nd rfl (Or.inl rfl)) (pgs_cons (pg_name (i := 3) sc_whole_root.nd rfl (Or.inl rfl)) pgs_nil)))
      (pss_cons (ps_while PassesOwn.never (pt_cmpR op_lt (pe_cx (c_power_of T) hr pass0 (pa_cons (pv 3) (pa_cons (pv 1) pa_nil))) (pv 0) (nomark _)) (pss_one (ps_set (i := 3) sc_whole_root.nd rfl (Or.inl rfl) (pe_op op_mulW pe_int (pv 3)))))
      (pss_cons (ps_while PassesOwn.never (pt_cmpR op_lt (pv 2) (pv 3) (nomark _)) (pss_cons (ps_set (i := 4) sc_whole_root.nd rfl (Or.inl rfl) (pe_op op_fdivW (pe_op op_add (pv 2) (pv 3)) pe_int))
      (pss_one (ps_if (pt_cmpR op_lt (pe_cx (c_power_of T) hr pass0 (pa_cons (pv 4) (pa_cons (pv 1) pa_nil))) (pv 0) (nomark _)) (pss_one (ps_set (i := 2) sc_whole_root.nd rfl (Or.inl rfl) (pe_op op_add (pv 4) pe_int))) (pss_one (ps_set (i := 3) sc_whole_root.nd rfl (Or.inl rfl) (pv 4)))))))
      (pss_one (ps_ret (pv 2)))))), ?_⟩
  have hB : p * 252 + 252 ≤ 100000 := by omega
  have rv : r ≤ v := e ▸ le_pow_self' hp1
  have lt_of : ∀ {x : Nat}, x ^ p < v → x < r := fun {x} h => Nat.lt_of_not_le fun z => by
    have := Nat.pow_le_pow_left z p
    omega
  have ge_of : ∀ {x : Nat}, ¬ x ^ p < v → r ≤ x := fun {x} h => Nat.le_of_not_lt fun z => by
    have := Nat.pow_lt_pow_left z (by omega : p ≠ 0)
    omega
  walk_at "go"
  refine g_while (fun m σ' H' => H' = H ∧ ∃ hi : Nat, m = 2 * v + 2 - hi ∧ σ' = [some (.int (v : Int)), some (.int (p : Int)), some (.int 0), some (.int (hi : Int)), none] ∧ 1 ≤ hi ∧ hi ≤ 2 * v + 1) _ ⟨rfl, 1, rfl, rfl, by omega, by omega⟩ ?_
  rintro m σ' H' ⟨rfl, hi, rfl, rfl, h2, h3⟩
  have hhi : hi < 2 ^ 252 := by omega
  walk_at "go"
  refine ⟨_, _, rfl, (hi : Int), p, 252, rfl, rfl, nat_bits hhi, by omega, hB, ?_⟩
  walk_at "go"
  refine ifd (fun hb => g_turn ?_) (fun hb => ?_)
  · have hb' : hi ^ p < v := by exact_mod_cast hb
    have := lt_of hb'
    walk_at "go"
    refine g_I (wide_mul (a := 2) (b := 252) (by decide) (nat_bits hhi) (by decide) (by decide) (by decide)) ?_
    walk_at "go"
    exact ⟨_, (by omega : 2 * v + 2 - 2 * hi < 2 * v + 2 - hi), rfl, 2 * hi, rfl, by simp, by omega, by omega⟩
  · have hb' : r ≤ hi := ge_of fun z => hb (by exact_mod_cast z)
    walk_at "go"
    refine g_while (fun m σ' H2 => H2 = H' ∧ ∃ (lo hi : Nat) (md : Option V), m = hi - lo ∧ σ' = [some (.int (v : Int)), some (.int (p : Int)), some (.int (lo : Int)), some (.int (hi : Int)), md] ∧ lo ≤ r ∧ r ≤ hi ∧ hi < 2 ^ 252) _ ⟨rfl, 0, hi, none, rfl, rfl, Nat.zero_le _, hb', hhi⟩ ?_
    rintro m σ' H' ⟨rfl, lo, hi, md, rfl, rfl, h1, h2, hhi⟩
    walk_at "go"
    refine ifd (fun hb => g_turn ?_) (fun hb => ?_)
    · walk_at "go"
      refine g_I (wide_div (b := 2) (by decide) (by decide) (by decide) (by decide)) ?_
      walk_at "go"
      have em : ((lo : Int) + (hi : Int)) / 2 = (((lo + hi) / 2 : Nat) : Int) := by omega
      rw [em]
      refine ⟨_, _, rfl, _, p, 252, rfl, rfl, nat_bits (by omega), by omega, hB, ?_⟩
      walk_at "go"
      refine ifd (fun hc => ?_) (fun hc => ?_)
      · have := lt_of (x := (lo + hi) / 2) (by exact_mod_cast hc)
        walk_at "go"
        exact ⟨_, (by omega : hi - ((lo + hi) / 2 + 1) < hi - lo), rfl, (lo + hi) / 2 + 1, hi, _, rfl, rfl, by omega, h2, hhi⟩
      · have := ge_of (x := (lo + hi) / 2) fun z => hc (by exact_mod_cast z)
        walk_at "go"
        exact ⟨_, (by omega : (lo + hi) / 2 - lo < hi - lo), rfl, lo, _, _, rfl, rfl, h1, this, by omega⟩
    · have e2 : lo = r := by omega
      subst e2
      walk_at "go"
      exact q
end
end PP
-- text W4
namespace PP
open PySem PySem.Spec PyProof.Rows L2
section
variable {P : Program} {w : World} {K : PySem.W.Frag} {mg : Str → Option Value} {base : Heap}
/-- both parts below 2 ^ 120 -/
structure Small (e : E4) : Prop where
  t : e.tp < 2 ^ 120
  b : e.bt < 2 ^ 120
theorem lt250 {n : Nat} (h : n < 2 ^ 120) : n < 2 ^ 250 := Nat.lt_of_lt_of_le h (Nat.pow_le_pow_right (by decide) (by decide))
theorem root_tp {e : E4} {k : Nat} (h : k ∣ e.g) : (e.dv k).tp ^ k = e.tp := by rw [← E4.tp_pow, E4.dv_mul h]
theorem root_bt {e : E4} {k : Nat} (h : k ∣ e.g) : (e.dv k).bt ^ k = e.bt := by rw [← E4.bt_pow, E4.dv_mul h]
/-! base_and_exponent -/
/-- the pair of base and exponent, at p -/
def BaseAt (H : Hp) (p : Addr) (e : E4) : Prop := ∃ n, H p = some (.tup [.ref n, .int (e.g : Int)]) ∧ Num H n ((e.dv e.g).tp : Int) ((e.dv e.g).bt : Int)
def sp_base_and_exponent : Sp := sp2 fun a b H Q _ => ∃ e : E4, a = .int (e.tp : Int) ∧ b = .int (e.bt : Int) ∧ Small e ∧ ∀ H' p, Same H H' → BaseAt H' p e → Q (.ref p) H'
theorem dv0 (e : E4) : (e.dv (0 : Nat)).tp = 1 ∧ (e.dv (0 : Nat)).bt = 1 := by
  have : e.dv (0 : Nat) = E4.zero := by
    unfold E4.dv E4.zero
    simp
  rw [this]
  decide
theorem c_base_and_exponent (T : Tx K mg) : CalX P w K mg base CX0 4 "base_and_exponent" sp_base_and_exponent [] := by
  refine cal0_of (F_base_and_exponent T) (g_base_and_exponent T) bd_base_and_exponent sc_base_and_exponent len2 (fun cdv A outer s H vs Q E hr h => ?_)
  obtain ⟨_, _, rfl, e, rfl, rfl, hs, q⟩ := h
  refine ⟨_, (pss_cons (ps_if (PW.pt (pw_and (pt_cmpR op_eq (pv 0) pe_int (nomark _)) (pw_and1 (pt_cmpR op_eq (pv 1) pe_int (nomark _))))) (pss_one (ps_ret (pe_tup (pa_cons (pe_tup (pa_cons pe_int (pa_cons pe_int pa_nil))) (pa_cons pe_int pa_nil))))) pss_nil)
      (pss_cons (ps_unp (n := 2) rfl (pa_cons pe_int (pa_cons pe_int pa_nil)) (pgs_cons (pg_name (i := 2) sc_base_and_exponent.nd rfl (Or.inl rfl)) (pgs_cons (pg_name (i := 3) sc_base_and_exponent.nd rfl (Or.inl rfl)) pgs_nil)))
      (pss_cons (ps_while PassesOwn.never (pt_cmpR op_le (pv 3) (pe_callB (call_max2 rfl) (by rfl) (b_max T) (by decide +kernel) (pa_cons (pv 0) (pa_cons (pv 1) pa_nil))) (nomark _)) (pss_one (ps_par (i := 2) (j := 3) (by rfl) sc_base_and_exponent.nd rfl rfl (by decide) rfl rfl (pa_cons (pe_op op_add (pv 2) pe_int) (pa_cons (pe_op op_mulW pe_int (pv 3)) pa_nil)) (by rfl))))
      (pss_cons (ps_while PassesOwn.never (PW.pt (pw_or (pt_not (pt_val (pe_cx (c_is_power T) hr pass0 (pa_cons (pv 0) (pa_cons (pv 2) pa_nil))))) (pw_or1 (pt_not (pt_val (pe_cx (c_is_power T) hr pass0 (pa_cons (pv 1) (pa_cons (pv 2) pa_nil)))))))) (pss_one (ps_aug (i := 2) sc_base_and_exponent.nd rfl (Or.inl rfl) pe_int ip_sub)))
      (pss_one (ps_ret (pe_tup (pa_cons (pe_tup (pa_cons (pe_cx (c_whole_root T) hr pass0 (pa_cons (pv 0) (pa_cons (pv 2) pa_nil))) (pa_cons (pe_cx (c_whole_root T) hr pass0 (pa_cons (pv 1) (pa_cons (pv 2) pa_nil))) pa_nil))) (pa_cons (pv 2) pa_nil))))))))), ?_⟩
  have big : ∀ {m : Nat}, 2 ^ m ≤ max e.tp e.bt → m < 120 := fun {m} h => by
    have h1 := hs.t
    have h2 := hs.b
    refine (Nat.pow_lt_pow_iff_right (a := 2) (by decide)).mp ?_
    omega
  walk_at "go"
  refine if_and (fun z => by walk_at "go"; exact z) ?_
  refine ifd (fun hz => ?_) (fun hz => ?_)
  · have g0 : e.g = 0 := E4.one_iff.mp ⟨by omega, by omega⟩
    walk_at "go"
    refine mkT fun n hn => ?_
    walk_at "go"
    refine mkT fun p hp => ?_
    have np : n ≠ p := fun z => by rw [z] at hp; rw [upd_same] at hp; cases hp
    refine q _ p (Same.trans (same_new hn) (same_new hp)) ⟨n, ?_, ?_⟩
    · rw [upd_same, g0]
      rfl
    · show upd _ _ _ _ = _
      rw [upd_ne np, upd_same, g0, (dv0 e).1, (dv0 e).2]
      rfl
  · have g0 : e.g ≠ 0 := fun z => hz (by
      obtain ⟨h1, h2⟩ := E4.one_iff.mpr z
      exact ⟨by omega, by omega⟩)
    have gm := E4.g_small g0
    walk_at "go"
    refine g_while (fun m σ' H' => H' = H ∧ ∃ k : Nat, m = 120 - k ∧ σ' = [some (.int (e.tp : Int)), some (.int (e.bt : Int)), some (.int (k : Int)), some (.int ((2 ^ (k + 1) : Nat) : Int))] ∧ 1 ≤ k ∧ (k = 1 ∨ 2 ^ k ≤ max e.tp e.bt)) _ ⟨rfl, 1, rfl, rfl, by omega, .inl rfl⟩ ?_
    rintro m σ' H' ⟨rfl, k, rfl, rfl, k1, k2⟩
    have k3 : k < 120 := by
      rcases k2 with z | z
      · omega
      · exact big z
    walk_at "go"
    refine ⟨_, _, rfl, ?_⟩
    walk_at "go"
    have mx : (if (e.bt : Int) > (e.tp : Int) then (e.bt : Int) else (e.tp : Int)) = ((max e.tp e.bt : Nat) : Int) := by
      split <;> omega
    rw [mx]
    refine ifd (fun hb => g_turn ?_) (fun hb => ?_)
    · have hb' : 2 ^ (k + 1) ≤ max e.tp e.bt := by exact_mod_cast hb
      have k4 := big hb'
      walk_at "go"
      refine g_I (wide_mul (a := 2) (b := 122) (by decide) (nat_bits (Nat.pow_lt_pow_right (by decide) (by omega))) (by decide) (by decide) (by decide)) ?_
      walk_at "go"
      refine ⟨_, (by omega : 120 - (k + 1) < 120 - k), rfl, k + 1, rfl, ?_, by omega, .inr hb'⟩
      have e2 : (2 : Int) * ((2 ^ (k + 1) : Nat) : Int) = ((2 ^ (k + 1 + 1) : Nat) : Int) := by
        rw [Nat.pow_succ 2 (k + 1)]
        omega
      rw [e2]
      rfl
    · have hb' : max e.tp e.bt < 2 ^ (k + 1) := by
        have : ¬ 2 ^ (k + 1) ≤ max e.tp e.bt := fun z => hb (by exact_mod_cast z)
        omega
      have gk : e.g ≤ k := by
        have : 2 ^ e.g < 2 ^ (k + 1) := by omega
        have := (Nat.pow_lt_pow_iff_right (a := 2) (by decide)).mp this
        omega
      walk_at "go"
      refine g_while (fun m σ' H2 => H2 = H' ∧ ∃ (k : Nat) (v : V), k = m ∧ σ' = [some (.int (e.tp : Int)), some (.int (e.bt : Int)), some (.int (k : Int)), some v] ∧ e.g ≤ k ∧ k < 120) _ ⟨rfl, k, _, rfl, rfl, gk, k3⟩ ?_
      rintro m σ' H' ⟨rfl, k, v, rfl, rfl, gk, k3⟩
      have k1 : 1 ≤ k := by omega
      have kl : k - 1 < k := by omega
      have km : k - 1 < 120 := by omega
      have k250 : k ≤ 250 := by omega
      walk_at "go"
      refine ⟨_, _, rfl, e.tp, k, rfl, rfl, lt250 hs.t, k1, k250, fun b1 hb1 => ?_⟩
      have fin : ∀ b2 : Bool, (b2 = true ↔ ∃ r : Nat, r ^ k = e.bt) → ((b1 && b2) = true ↔ k ∣ e.g) := fun b2 hb2 => by
        rw [Bool.and_eq_true, hb1, hb2]
        exact E4.pows k1
      have less : ¬ k ∣ e.g → e.g ≤ k - 1 := fun z => Nat.le_sub_one_of_lt (Nat.lt_of_le_of_ne gk fun y => z (y ▸ Nat.dvd_refl _))
      walk_at "go"
      cases b1 with
      | false =>
        have nk : ¬ k ∣ e.g := fun z => by
          have := (E4.pows (k := k) k1).mpr z
          exact absurd (hb1.mpr this.1) (by decide)
        have l1 := less nk
        refine iteT (iteT (g_turn ?_))
        walk_at "go"
        refine ⟨k - 1, kl, rfl, k - 1, v, rfl, ?_, l1, km⟩
        rw [Int.natCast_sub k1]
        rfl
      | true =>
        refine iteF ?_
        walk_at "go"
        refine ⟨_, _, rfl, e.bt, k, rfl, rfl, lt250 hs.b, k1, k250, fun b2 hb2 => ?_⟩
        have f := fin b2 hb2
        walk_at "go"
        cases b2 with
        | false =>
          have nk : ¬ k ∣ e.g := fun z => absurd (f.mpr z) (by decide)
          have l1 := less nk
          refine iteT (g_turn ?_)
          walk_at "go"
          refine ⟨k - 1, kl, rfl, k - 1, v, rfl, ?_, l1, km⟩
          rw [Int.natCast_sub k1]
          rfl
        | true =>
          have dk : k ∣ e.g := f.mp rfl
          have ek : k = e.g := Nat.le_antisymm (Nat.le_of_dvd (Nat.pos_of_ne_zero g0) dk) gk
          subst ek
          refine iteF ?_
          walk_at "go"
          refine ⟨_, _, rfl, e.tp, e.g, (e.dv e.g).tp, rfl, rfl, root_tp dk, lt250 hs.t, k1, k250, ?_⟩
          walk_at "go"
          refine ⟨_, _, rfl, e.bt, e.g, (e.dv e.g).bt, rfl, rfl, root_bt dk, lt250 hs.b, k1, k250, ?_⟩
          walk_at "go"
          refine mkT fun n hn => ?_
          walk_at "go"
          refine mkT fun p hp => ?_
          have np : n ≠ p := fun z => by rw [z] at hp; rw [upd_same] at hp; cases hp
          refine q _ p (Same.trans (same_new hn) (same_new hp)) ⟨n, upd_same, ?_⟩
          show upd _ _ _ _ = _
          rw [upd_ne np, upd_same]
/-! base_for -/
/-- a plan's number at p: its sign, its exponents -/
def NumE (H : Hp) (p : Addr) (s : Int) (e : E4) : Prop := Num H p (s * (e.tp : Int)) (e.bt : Int) ∧ (s = 1 ∨ s = -1) ∧ Small e
theorem NumE.mono {H H' : Hp} {p : Addr} {s : Int} {e : E4} (h : NumE H p s e) (k : Same H H') : NumE H' p s e := ⟨k _ _ h.1, h.2⟩
theorem BaseAt.mono {H H' : Hp} {p : Addr} {e : E4} (h : BaseAt H p e) (k : Same H H') : BaseAt H' p e := by
  obtain ⟨n, h1, h2⟩ := h
  exact ⟨n, k _ _ h1, k _ _ h2⟩
def sp_base_for : Sp := sp1 fun a H Q _ => ∃ (p : Addr) (s : Int) (e : E4), a = .ref p ∧ NumE H p s e ∧ ∀ H' p', Same H H' → BaseAt H' p' e → Q (.ref p') H'
theorem c_base_for (T : Tx K mg) : CalX P w K mg base CX0 5 "base_for" sp_base_for [] := by
  refine cal0_of (F_base_for T) (g_base_for T) bd_base_for sc_base_for len1 (fun cdv A outer s H vs Q E hr h => ?_)
  obtain ⟨_, rfl, p, sg, e, rfl, ⟨hp, hsg, hs⟩, q⟩ := h
  refine ⟨_, (pss_one (ps_ret (pe_cx (c_base_and_exponent T) hr pass0 (pa_cons (pe_callB call_abs (by rfl) (b_abs T) (by decide +kernel) (pa_cons (pe_ix ix_tup (pv 0) pe_int (fun _ _ => rfl)) pa_nil)) (pa_cons (pe_ix ix_tup (pv 0) pe_int (fun _ _ => rfl)) pa_nil))))), ?_⟩
  walk_at "go"
  refine g_ixT (SqT.of hp) at0 ?_
  walk_at "go"
  refine ⟨_, rfl, ?_⟩
  have ea : (if sg * (e.tp : Int) < 0 then -(sg * (e.tp : Int)) else sg * (e.tp : Int)) = (e.tp : Int) := by
    have := e.tp_pos
    rcases hsg with z | z <;> rw [z] <;> split <;> omega
  rw [ea]
  walk_at "go"
  refine g_ixT (SqT.of hp) at1 ?_
  walk_at "go"
  exact ⟨_, _, rfl, e, rfl, rfl, hs, fun H' p' k b => q H' p' k b⟩
/-! odd_part -/
def sp_odd_part : Sp := sp1 fun a H Q _ => ∃ n : Nat, a = .int (n : Int) ∧ 0 < n ∧ Q (.int (oddp n : Nat)) H
theorem c_odd_part (T : Tx K mg) : CalX P w K mg base CX0 1 "odd_part" sp_odd_part [] := by
  refine cal0_of (F_odd_part T) (g_odd_part T) bd_odd_part sc_odd_part len1 (fun cdv A outer s H vs Q E hr h => ?_)
  obtain ⟨_, rfl, n, rfl, hn, q⟩ := h
  refine ⟨_, (pss_cons (ps_while PassesOwn.never (pt_cmpR op_eq (pe_op op_mod (pv 0) pe_int) pe_int (nomark _)) (pss_one (ps_set (i := 0) sc_odd_part.nd rfl (Or.inl rfl) (pe_op op_fdivW (pv 0) pe_int))))
      (pss_one (ps_ret (pv 0)))), ?_⟩
  walk_at "go"
  refine g_while (fun m σ' H' => H' = H ∧ σ' = [some (.int (m : Int))] ∧ 0 < m ∧ oddp m = oddp n) n ⟨rfl, rfl, hn, rfl⟩ ?_
  rintro m σ' H' ⟨rfl, rfl, hm, e⟩
  walk_at "go"
  refine g_I (by decide) ?_
  walk_at "go"
  refine ifd (fun hb => g_turn ?_) (fun hb => ?_)
  · walk_at "go"
    refine g_I (wide_div (b := 2) (by decide) (by decide) (by decide) (by decide)) ?_
    walk_at "go"
    refine ⟨m / 2, by omega, rfl, ?_, by omega, ?_⟩
    · show [some (V.int ((m : Int) / 2))] = _
      rw [show (m : Int) / 2 = ((m / 2 : Nat) : Int) by omega]
    · exact (oddp_even (n := m) (by omega) (by omega)).symm.trans e
  · walk_at "go"
    rw [← e, oddp_odd (by omega)] at q
    exact q
/-! root_for, four_for: fours alone are asked -/
def sp_root_for : Sp := sp2 fun a b H Q _ => ∃ (p : Addr) (e : E4), a = .ref p ∧ b = .int 4 ∧ NumE H p 1 e ∧ (4 ∣ e.g → ∀ H' p', Same H H' → Q (.ref p') H') ∧ (¬ 4 ∣ e.g → ∀ H', Same H H' → Q .non H')
theorem c_root_for (T : Tx K mg) : CalX P w K mg base CX0 6 "root_for" sp_root_for [] := by
  refine cal0_of (F_root_for T) (g_root_for T) bd_root_for sc_root_for len2 (fun cdv A outer s H vs Q E hr h => ?_)
  obtain ⟨_, _, rfl, p, e, rfl, rfl, hp, q1, q2⟩ := h
  refine ⟨_, (pss_cons (ps_asg (pe_cx (c_base_for T) hr pass0 (pa_cons (pv 0) pa_nil)) (pg_tup rfl (pgs_cons (pg_name (i := 2) sc_root_for.nd rfl (Or.inl rfl)) (pgs_cons (pg_name (i := 3) sc_root_for.nd rfl (Or.inl rfl)) pgs_nil))))
      (pss_cons (ps_if (PW.pt (pw_or (pt_cmpR op_ne (pe_op op_mod (pv 3) (pv 1)) pe_int (nomark _)) (pw_or1 (PW.pt (pw_and (pt_cmpR op_lt (pe_ix ix_tup (pv 0) pe_int (fun _ _ => rfl)) pe_int (nomark _)) (pw_and1 (pt_cmpR op_eq (pe_op op_mod (pv 1) pe_int) pe_int (nomark _)))))))) (pss_one (ps_ret pe_non)) pss_nil)
      (pss_cons (ps_set (i := 4) sc_root_for.nd rfl (Or.inl rfl) (pe_cx (c_raised T) hr pass0 (pa_cons (pv 2) (pa_cons (pe_op op_fdivW (pv 3) (pv 1)) pa_nil))))
      (pss_one (ps_ret (pe_ifExp (pt_cmpR op_gt (pe_ix ix_tup (pv 0) pe_int (fun _ _ => rfl)) pe_int (nomark _)) (pv 4) (pe_tup (pa_cons (pe_un un_neg (pe_ix ix_tup (pv 4) pe_int (fun _ _ => rfl))) (pa_cons (pe_ix ix_tup (pv 4) pe_int (fun _ _ => rfl)) pa_nil))))))))), ?_⟩
  walk_at "go"
  refine ⟨_, rfl, p, 1, e, rfl, hp, fun H1 p1 k1 b1 => ?_⟩
  obtain ⟨n1, hb, hn⟩ := b1
  refine g_gtup (SqT.of hb) rfl ?_
  walk_at "go"
  have hp1 := (hp.mono k1).1
  refine g_I (by decide) ?_
  walk_at "go"
  have pos : ¬ (1 * (e.tp : Int)) < 0 := by omega
  have d4 : ((e.g : Int) % 4 = 0) ↔ 4 ∣ e.g := by omega
  refine ifn (fun hb => ?_) (fun hb => ?_)
  · refine iteT ?_
    walk_at "go"
    exact q2 (fun z => hb (d4.mpr z)) H1 k1
  · walk_at "go"
    refine g_ixT (SqT.of hp1) at0 ?_
    walk_at "go"
    refine ifF pos (iteF ?_)
    walk_at "go"
    refine g_I (wide_div (b := 3) (by decide) (by decide) (by decide) (by decide)) ?_
    walk_at "go"
    have gsm : e.g ≤ 120 := by
      by_cases z : e.g = 0
      · omega
      · have h1 := E4.g_small z
        have h2 := hp.2.2.t
        have h3 := hp.2.2.b
        have : 2 ^ e.g < 2 ^ 120 := by omega
        have := (Nat.pow_lt_pow_iff_right (a := 2) (by decide)).mp this
        omega
    have lt : ∀ {x k : Nat}, x ^ k < 2 ^ 120 → 1 ≤ k → x < 2 ^ 120 := fun {x k} h hk => Nat.lt_of_le_of_lt (le_pow_self' hk) h
    have b1 : (e.dv e.g).tp < 2 ^ 120 := by
      by_cases z : e.g = 0
      · rw [z, (dv0 e).1]; decide
      · exact lt (k := e.g) (by rw [root_tp (Nat.dvd_refl _)]; exact hp.2.2.t) (by omega)
    have b2 : (e.dv e.g).bt < 2 ^ 120 := by
      by_cases z : e.g = 0
      · rw [z, (dv0 e).2]; decide
      · exact lt (k := e.g) (by rw [root_bt (Nat.dvd_refl _)]; exact hp.2.2.b) (by omega)
    refine ⟨_, _, rfl, n1, _, _, e.g / 4, 120, rfl, ?_, hn, nat_bits b1, nat_bits b2, by decide, by omega, fun H2 p2 k2 r2 => ?_⟩
    · show V.int ((e.g : Int) / 4) = _
      rw [show (e.g : Int) / 4 = ((e.g / 4 : Nat) : Int) by omega]
    walk_at "go"
    have hp2 := (hp.mono (Same.trans k1 k2)).1
    refine g_ixT (SqT.of hp2) at0 ?_
    walk_at "go"
    have tp := e.tp_pos
    refine ifT (by omega) ?_
    walk_at "go"
    exact q1 (d4.mp hb) H2 p2 (Same.trans k1 k2)
end
end PP
-- text W5
namespace PP
open PySem PySem.Spec PyProof.Rows L2
section
variable {P : Program} {w : World} {K : PySem.W.Frag} {mg : Str → Option Value} {base : Heap}
/-- both parts at most 10 ^ 30 -/
structure Ok30 (e : E4) : Prop where
  t : e.tp ≤ 10 ^ 30
  b : e.bt ≤ 10 ^ 30
theorem Ok30.small {e : E4} (h : Ok30 e) : Small e := ⟨Nat.lt_of_le_of_lt h.t (by decide), Nat.lt_of_le_of_lt h.b (by decide)⟩
theorem Ok30.sub2 {e : E4} (h : Ok30 e) : Small e.sub2 := by
  obtain ⟨h1, h2⟩ := E4.sub2_gcd (e := e)
  refine ⟨?_, ?_⟩
  · rw [← h1]
    exact Nat.lt_of_le_of_lt (Nat.div_le_self _ _) (Nat.lt_of_le_of_lt h.t (by decide))
  · rw [← h2]
    refine Nat.lt_of_le_of_lt (Nat.div_le_self _ _) (Nat.lt_of_le_of_lt (Nat.mul_le_mul_left 4 h.b) (by decide))
/-- a plan's number at p -/
def NumP (H : Hp) (p : Addr) (s : Int) (e : E4) : Prop := Num H p (s * (e.tp : Int)) (e.bt : Int) ∧ (s = 1 ∨ s = -1) ∧ Ok30 e
theorem NumP.e {H : Hp} {p : Addr} {s : Int} {e : E4} (h : NumP H p s e) : NumE H p s e := ⟨h.1, h.2.1, h.2.2.small⟩
theorem NumP.mono {H H' : Hp} {p : Addr} {s : Int} {e : E4} (h : NumP H p s e) (k : Same H H') : NumP H' p s e := ⟨k _ _ h.1, h.2⟩
theorem NumP.ok {H : Hp} {p : Addr} {s : Int} {e : E4} (h : NumP H p s e) : NumOk (s * (e.tp : Int)) (e.bt : Int) := by
  have h1 := e.tp_pos
  have h2 := e.bt_pos
  have h3 := h.2.2.t
  have h4 := h.2.2.b
  have h5 : Nat.gcd e.tp e.bt = 1 := E4.cop
  rcases h.2.1 with z | z
  · subst z
    refine ⟨by omega, by omega, by omega, by omega, by omega, ?_⟩
    rw [Int.one_mul, Int.natAbs_natCast, Int.toNat_natCast]
    exact h5
  · subst z
    refine ⟨by omega, by omega, by omega, by omega, by omega, ?_⟩
    rw [Int.neg_mul, Int.one_mul, Int.natAbs_neg, Int.natAbs_natCast, Int.toNat_natCast]
    exact h5
theorem NumP.sgn {H : Hp} {p : Addr} {s : Int} {e : E4} (h : NumP H p s e) : (0 < s * (e.tp : Int) ↔ s = 1) ∧ (s * (e.tp : Int) < 0 ↔ s ≠ 1) := by
  have h1 := e.tp_pos
  rcases h.2.1 with z | z <;> subst z <;> omega
/-! four_for -/
def sp_four_for : Sp := sp1 fun a H Q _ => ∃ (p : Addr) (s : Int) (e : E4), a = .ref p ∧ NumP H p s e ∧ (s ≠ 1 ∧ e.Four → ∀ H' p', Same H H' → Q (.ref p') H') ∧ (¬ (s ≠ 1 ∧ e.Four) → ∀ H', Same H H' → Q .non H')
theorem c_four_for (T : Tx K mg) : CalX P w K mg base CX0 7 "four_for" sp_four_for [] := by
  refine cal0_of (F_four_for T) (g_four_for T) bd_four_for sc_four_for len1 (fun cdv A outer s H vs Q E hr h => ?_)
  obtain ⟨_, rfl, p, sg, e, rfl, hp, q1, q2⟩ := h
  refine ⟨_, (pss_one (ps_ret (pe_ifExp (pt_cmpR op_lt (pe_ix ix_tup (pv 0) pe_int (fun _ _ => rfl)) pe_int (nomark _)) (pe_cx (c_root_for T) hr pass0 (pa_cons (pe_cx (c_lowest T) hr pass0 (pa_cons (pe_un un_neg (pe_ix ix_tup (pv 0) pe_int (fun _ _ => rfl))) (pa_cons (pe_op op_mulW pe_int (pe_ix ix_tup (pv 0) pe_int (fun _ _ => rfl))) pa_nil))) (pa_cons pe_int pa_nil))) pe_non))), ?_⟩
  have h1 := hp.1
  have sgn := hp.sgn
  walk_at "go"
  refine g_ixT (SqT.of h1) at0 ?_
  walk_at "go"
  refine ifd (fun hb => ?_) (fun hb => ?_)
  · have hn := sgn.2.mp hb
    have hs : sg = -1 := hp.2.1.resolve_left hn
    subst hs
    walk_at "go"
    refine g_ixT (SqT.of h1) at0 ?_
    walk_at "go"
    refine g_ixT (SqT.of h1) at1 ?_
    walk_at "go"
    refine g_I (wide_mul (a := 3) (b := 120) (by decide) (nat_bits hp.2.2.small.b) (by decide) (by decide) (by decide)) ?_
    walk_at "go"
    refine ⟨_, _, rfl, e.tp, 4 * e.bt, ?_, rfl, e.tp_pos, lt250 hp.2.2.small.t, ?_, fun H1 p1 k1 n1 => ?_⟩
    · congr 1
      omega
    · have := hp.2.2.small.b
      omega
    rw [E4.sub2_gcd.1, E4.sub2_gcd.2] at n1
    walk_at "go"
    refine ⟨_, _, rfl, p1, e.sub2, rfl, rfl, ⟨?_, .inl rfl, hp.2.2.sub2⟩, fun f H2 p2 k2 => q1 ⟨hn, f⟩ H2 p2 (Same.trans k1 k2), fun f H2 k2 => q2 (fun z => f z.2) H2 (Same.trans k1 k2)⟩
    rw [Int.one_mul]
    exact n1
  · walk_at "go"
    exact q2 (fun z => hb (sgn.2.mpr z.1)) H (Same.refl H)
/-! shared, is_split_by_four, does_split -/
def sp_shared : Sp := sp2 fun a b H Q _ => ∃ (p : Addr) (s : Int) (e : E4) (n : Nat), a = .ref p ∧ b = .int (n : Int) ∧ 0 < n ∧ NumP H p s e ∧ ∀ H', Same H H' → Q (.int (Nat.gcd (if s = 1 then n else oddp n) e.g : Nat)) H'
theorem c_shared (T : Tx K mg) : CalX P w K mg base CX0 6 "shared" sp_shared [] := by
  refine cal0_of (F_shared T) (g_shared T) bd_shared sc_shared len2 (fun cdv A outer s H vs Q E hr h => ?_)
  obtain ⟨_, _, rfl, p, sg, e, n, rfl, rfl, hn, hp, q⟩ := h
  refine ⟨_, (pss_one (ps_ret (pe_cx (c_common_divisor T) hr pass0 (pa_cons (pe_ifExp (pt_cmpR op_gt (pe_ix ix_tup (pv 0) pe_int (fun _ _ => rfl)) pe_int (nomark _)) (pv 1) (pe_cx (c_odd_part T) hr pass0 (pa_cons (pv 1) pa_nil))) (pa_cons (pe_ix ix_tup (pe_cx (c_base_for T) hr pass0 (pa_cons (pv 0) pa_nil)) pe_int (fun _ _ => rfl)) pa_nil))))), ?_⟩
  have h1 := hp.1
  have sgn := hp.sgn
  walk_at "go"
  refine g_ixT (SqT.of h1) at0 ?_
  walk_at "go"
  refine ifd (fun hb => ?_) (fun hb => ?_)
  · have hs := sgn.1.mp hb
    subst hs
    walk_at "go"
    refine ⟨_, rfl, p, 1, e, rfl, hp.e, fun H1 p1 k1 b1 => ?_⟩
    obtain ⟨n1, hb1, _⟩ := b1
    walk_at "go"
    refine g_ixT (SqT.of hb1) at1 ?_
    walk_at "go"
    exact ⟨_, _, rfl, n, e.g, rfl, rfl, q H1 k1⟩
  · have hs : sg ≠ 1 := fun z => hb (sgn.1.mpr z)
    walk_at "go"
    refine ⟨_, rfl, n, rfl, hn, ?_⟩
    walk_at "go"
    refine ⟨_, rfl, p, sg, e, rfl, hp.e, fun H1 p1 k1 b1 => ?_⟩
    obtain ⟨n1, hb1, _⟩ := b1
    walk_at "go"
    refine g_ixT (SqT.of hb1) at1 ?_
    walk_at "go"
    have q' := q H1 k1
    rw [if_neg hs] at q'
    exact ⟨_, _, rfl, oddp n, e.g, rfl, rfl, q'⟩
def sp_is_split_by_four : Sp := sp2 fun a b H Q _ => ∃ (p : Addr) (s : Int) (e : E4) (n : Nat), a = .ref p ∧ b = .int (n : Int) ∧ NumP H p s e ∧ ∀ H', Same H H' → Q (.bl (decide (4 ∣ n ∧ s ≠ 1 ∧ e.Four))) H'
theorem c_is_split_by_four (T : Tx K mg) : CalX P w K mg base CX0 8 "is_split_by_four" sp_is_split_by_four [] := by
  refine cal0_of (F_is_split_by_four T) (g_is_split_by_four T) bd_is_split_by_four sc_is_split_by_four len2 (fun cdv A outer s H vs Q E hr h => ?_)
  obtain ⟨_, _, rfl, p, sg, e, n, rfl, rfl, hp, q⟩ := h
  refine ⟨_, (pss_one (ps_ret (pe_and (pe_cmpR op_eq (pe_op op_mod (pv 1) pe_int) pe_int (nomark _)) (pe_one (pe_cmpR op_notN (pe_cx (c_four_for T) hr pass0 (pa_cons (pv 0) pa_nil)) pe_non (nomark _)))))), ?_⟩
  walk_at "go"
  refine g_I (by decide) ?_
  walk_at "go"
  refine ifd (fun hb => ?_) (fun hb => ?_)
  · have d4 : 4 ∣ n := by omega
    walk_at "go"
    refine ⟨_, rfl, p, sg, e, rfl, hp, fun f H1 p1 k1 => ?_, fun f H1 k1 => ?_⟩
    · walk_at "go"
      refine ⟨rfl, ?_⟩
      have q' := q H1 k1
      rw [decide_eq_true ⟨d4, f⟩] at q'
      exact q'
    · walk_at "go"
      refine ⟨rfl, ?_⟩
      have q' := q H1 k1
      rw [decide_eq_false fun z => f z.2] at q'
      exact q'
  · have q' := q H (Same.refl H)
    rw [decide_eq_false fun z => hb (by have := z.1; omega)] at q'
    exact q'
def sp_does_split : Sp := sp2 fun a b H Q _ => ∃ (p : Addr) (s : Int) (e : E4) (n : Nat), a = .ref p ∧ b = .int (n : Int) ∧ 0 < n ∧ NumP H p s e ∧ ∀ H', Same H H' → Q (.bl (decide (Spl s e n))) H'
theorem c_does_split (T : Tx K mg) : CalX P w K mg base CX0 9 "does_split" sp_does_split [] := by
  refine cal0_of (F_does_split T) (g_does_split T) bd_does_split sc_does_split len2 (fun cdv A outer s H vs Q E hr h => ?_)
  obtain ⟨_, _, rfl, p, sg, e, n, rfl, rfl, hn, hp, q⟩ := h
  refine ⟨_, (pss_one (ps_ret (pe_or (pe_cmpR op_gt (pe_cx (c_shared T) hr pass0 (pa_cons (pv 0) (pa_cons (pv 1) pa_nil))) pe_int (nomark _)) (pe_one (pe_cx (c_is_split_by_four T) hr pass0 (pa_cons (pv 0) (pa_cons (pv 1) pa_nil))))))), ?_⟩
  walk_at "go"
  refine ⟨_, _, rfl, p, sg, e, n, rfl, rfl, hn, hp, fun H1 k1 => ?_⟩
  walk_at "go"
  refine ifd (fun hb => ?_) (fun hb => ?_)
  · have q' := q H1 k1
    rw [decide_eq_true (show Spl sg e n from .inl (by omega))] at q'
    exact q'
  · walk_at "go"
    refine ⟨_, _, rfl, p, sg, e, n, rfl, rfl, hp.mono k1, fun H2 k2 => ?_⟩
    have q' := q H2 (Same.trans k1 k2)
    have ed : decide (Spl sg e n) = decide (4 ∣ n ∧ sg ≠ 1 ∧ e.Four) := by
      refine decide_eq_decide.mpr ⟨fun z => z.resolve_left fun y => hb (by omega), fun z => .inr z⟩
    rw [ed] at q'
    exact q'
/-! is_always -/
def sp_is_always : Sp := sp1 fun a H Q _ => ∃ (p : Addr) (s : Int) (e : E4), a = .ref p ∧ NumP H p s e ∧ ∀ H', Same H H' → Q (.bl (decide (Alw s e))) H'
theorem c_is_always (T : Tx K mg) : CalX P w K mg base CX0 8 "is_always" sp_is_always [] := by
  refine cal0_of (F_is_always T) (g_is_always T) bd_is_always sc_is_always len1 (fun cdv A outer s H vs Q E hr h => ?_)
  obtain ⟨_, rfl, p, sg, e, rfl, hp, q⟩ := h
  refine ⟨_, (pss_cons (ps_set (i := 1) sc_is_always.nd rfl (Or.inl rfl) (pe_ix ix_tup (pe_cx (c_base_for T) hr pass0 (pa_cons (pv 0) pa_nil)) pe_int (fun _ _ => rfl)))
      (pss_cons (ps_if (pt_cmpR op_gt (pe_ix ix_tup (pv 0) pe_int (fun _ _ => rfl)) pe_int (nomark _)) (pss_one (ps_ret (pe_cmpR op_eq (pv 1) pe_int (nomark _)))) pss_nil)
      (pss_one (ps_ret (pe_and (pe_cmpR op_gt (pv 1) pe_int (nomark _)) (pe_and (pe_cmpR op_eq (pe_cx (c_odd_part T) hr pass0 (pa_cons (pv 1) pa_nil)) pe_int (nomark _)) (pe_one (pe_cmpR op_isN (pe_cx (c_four_for T) hr pass0 (pa_cons (pv 0) pa_nil)) pe_non (nomark _))))))))), ?_⟩
  have sgn := hp.sgn
  walk_at "go"
  refine ⟨_, rfl, p, sg, e, rfl, hp.e, fun H1 p1 k1 b1 => ?_⟩
  obtain ⟨n1, hb1, _⟩ := b1
  walk_at "go"
  refine g_ixT (SqT.of hb1) at1 ?_
  walk_at "go"
  have hp1 := hp.mono k1
  refine g_ixT (SqT.of hp1.1) at0 ?_
  walk_at "go"
  refine ifd (fun hb => ?_) (fun hb => ?_)
  · have hs := sgn.1.mp hb
    walk_at "go"
    have q' := q H1 k1
    have ed : decide (Alw sg e) = decide ((e.g : Int) = 1) := by
      refine decide_eq_decide.mpr ?_
      unfold Alw
      rw [if_pos hs]
      omega
    rw [ed] at q'
    exact q'
  · have hs : sg ≠ 1 := fun z => hb (sgn.1.mpr z)
    have ea : Alw sg e ↔ (0 < e.g ∧ oddp e.g = 1 ∧ ¬ e.Four) := by
      unfold Alw
      rw [if_neg hs]
    walk_at "go"
    refine ifd (fun hc => ?_) (fun hc => ?_)
    · walk_at "go"
      refine ⟨_, rfl, e.g, rfl, by omega, ?_⟩
      walk_at "go"
      refine ifd (fun hd => ?_) (fun hd => ?_)
      · walk_at "go"
        refine ⟨_, rfl, p, sg, e, rfl, hp1, fun f H2 p2 k2 => ?_, fun f H2 k2 => ?_⟩
        · walk_at "go"
          refine ⟨rfl, ?_⟩
          have q' := q H2 (Same.trans k1 k2)
          rw [decide_eq_false fun z => (ea.mp z).2.2 f.2] at q'
          exact q'
        · walk_at "go"
          refine ⟨rfl, ?_⟩
          have q' := q H2 (Same.trans k1 k2)
          rw [decide_eq_true (ea.mpr ⟨by omega, by omega, fun z => f ⟨hs, z⟩⟩)] at q'
          exact q'
      · have q' := q H1 k1
        rw [decide_eq_false fun z => hd (by have := (ea.mp z).2.1; omega)] at q'
        exact q'
    · have q' := q H1 k1
      rw [decide_eq_false fun z => hc (by have := (ea.mp z).1; omega)] at q'
      exact q'
end
end PP
-- text W6
namespace PP
open PySem PySem.Spec PyProof.Rows L2
section
variable {P : Program} {w : World} {K : PySem.W.Frag} {mg : Str → Option Value} {base : Heap}
abbrev natL (l : List Nat) : List V := l.map fun n => V.int (Int.ofNat n)
/-! prime_divisors: of numbers up to 1000 -/
def sp_prime_divisors : Sp := sp1 fun a H Q _ => ∃ v : Nat, a = .int (v : Int) ∧ 0 < v ∧ v ≤ 1000 ∧ ∀ ps H' p, PD v ps → ps.length ≤ 100 → Same H H' → H' p = some (.lst (natL ps)) → Q (.ref p) H'
theorem c_prime_divisors (T : Tx K mg) : CalX P w K mg base CX0 1 "prime_divisors" sp_prime_divisors [] := by
  refine cal0_of (F_prime_divisors T) (g_prime_divisors T) bd_prime_divisors sc_prime_divisors len1 (fun cdv A outer s H vs Q E hr h => ?_)
  obtain ⟨_, rfl, v, rfl, v0, v1, q⟩ := h
  refine ⟨_, (pss_cons (ps_par3 (i := 1) (j := 2) (l := 3) (by rfl) sc_prime_divisors.nd rfl rfl rfl (by decide) (by decide) (by decide) rfl rfl rfl (pa_cons (pe_lst pa_nil) (pa_cons (pv 0) (pa_cons pe_int pa_nil))) (by rfl))
      (pss_cons (ps_while PassesOwn.never (pt_cmpR op_le (pe_op op_mulW (pv 3) (pv 3)) (pv 2) (nomark _)) (pss_cons (ps_if (pt_cmpR op_eq (pe_op op_mod (pv 2) (pv 3)) pe_int (nomark _)) (pss_cons (ps_expr (pe_bm PySem.F.plainAttrs_list PySem.F.slot_list_append PySem.F.type_list_append mt_append (pv 1) (pa_cons (pv 3) pa_nil)))
      (pss_one (ps_while PassesOwn.never (pt_cmpR op_eq (pe_op op_mod (pv 2) (pv 3)) pe_int (nomark _)) (pss_one (ps_set (i := 2) sc_prime_divisors.nd rfl (Or.inl rfl) (pe_op op_fdivW (pv 2) (pv 3))))))) pss_nil)
      (pss_one (ps_aug (i := 3) sc_prime_divisors.nd rfl (Or.inl rfl) pe_int ip_add))))
      (pss_one (ps_ret (pe_op op_cat (pv 1) (pe_ifExp (pt_cmpR op_gt (pv 2) pe_int (nomark _)) (pe_lst (pa_cons (pv 2) pa_nil)) (pe_lst pa_nil))))))), ?_⟩
  walk_at "go"
  refine mkT fun L hL => ?_
  walk_at "go"
  have ll : ∀ {fs : List Nat} {left step : Nat}, PInv v fs left step → left ≤ 1000 := fun h => Nat.le_trans (Nat.le_of_dvd v0 h.dv) v1
  refine g_while (fun m σ' H' => Same H H' ∧ ∃ (fs : List Nat) (left step : Nat), m = 50 - step ∧ σ' = [some (.int (v : Int)), some (.ref L), some (.int (left : Int)), some (.int (step : Int))] ∧ H' L = some (.lst (natL fs)) ∧ PInv v fs left step ∧ fs.length ≤ step ∧ step ≤ 40) _
    ⟨same_new hL, [], v, 2, rfl, rfl, (by exact upd_same), PInv.start v0, Nat.zero_le _, by decide⟩ ?_
  rintro m σ' H' ⟨k, fs, left, step, rfl, rfl, hf, inv, fl, s40⟩
  have s2 := inv.s2
  have l1000 := ll inv
  walk_at "go"
  refine g_I (wide_mul (a := 6) (b := 6) (nat_bits (by omega)) (nat_bits (by omega)) (by decide) (by decide) (by decide)) ?_
  walk_at "go"
  refine ifd (fun hb => g_turn ?_) (fun hb => ?_)
  · have hb' : step * step ≤ left := by exact_mod_cast hb
    have s32 : step ≤ 31 := Nat.le_of_not_lt fun z => by
      have := Nat.mul_le_mul z z
      omega
    walk_at "go"
    refine g_I (by omega) ?_
    walk_at "go"
    refine ifd (fun hc => ?_) (fun hc => ?_)
    · have hd : step ∣ left := by
        refine Nat.dvd_of_mod_eq_zero ?_
        have : ((left % step : Nat) : Int) = 0 := by rw [Int.natCast_emod]; exact hc
        omega
      walk_at "go"
      refine ⟨_, rfl, .inl ⟨rfl, _, SqL.of hf⟩, ?_⟩
      walk_at "go"
      refine ⟨L, _, _, rfl, rfl, hf, ?_, ?_⟩
      · rw [List.length_map]
        exact Nat.lt_of_le_of_lt fl (Nat.lt_of_le_of_lt s40 (by decide))
      walk_at "go"
      have inv2 := inv.found hd
      refine g_while (fun m σ' H2 => H2 = upd H' L (.lst (natL fs ++ [.int (step : Int)])) ∧ ∃ left : Nat, left = m ∧ σ' = [some (.int (v : Int)), some (.ref L), some (.int (left : Int)), some (.int (step : Int))] ∧ PInv v (fs ++ [step]) left step) left ⟨rfl, left, rfl, rfl, inv2⟩ ?_
      rintro m σ' H2 ⟨rfl, left, rfl, rfl, inv3⟩
      have l0 := inv3.l0
      have k2 : Same H (upd H' L (.lst (natL fs ++ [.int (step : Int)]))) := same_mut k hL
      walk_at "go"
      refine g_I (by omega) ?_
      walk_at "go"
      refine ifd (fun hc => g_turn ?_) (fun hc => ?_)
      · have hd : step ∣ left := by
          refine Nat.dvd_of_mod_eq_zero ?_
          have : ((left % step : Nat) : Int) = 0 := by rw [Int.natCast_emod]; exact hc
          omega
        walk_at "go"
        refine g_I (wide_div (b := 6) (by omega) (nat_bits (by omega)) (by decide) (by decide)) ?_
        walk_at "go"
        refine ⟨left / step, Nat.div_lt_self l0 (by omega), rfl, left / step, rfl, ?_, inv3.div (List.mem_append_right _ (List.mem_singleton.mpr rfl)) hd⟩
        rw [Int.natCast_ediv]
        rfl
      · have hd : ¬ step ∣ left := fun z => hc (by
          have := Nat.mod_eq_zero_of_dvd z
          rw [← Int.natCast_emod]
          omega)
        walk_at "go"
        refine ⟨50 - (step + 1), by omega, k2, fs ++ [step], left, step + 1, rfl, rfl, ?_, inv3.next hd, by rw [List.length_append, List.length_singleton]; omega, by omega⟩
        rw [upd_same]
        show _ = some (HO.lst ((fs ++ [step]).map _))
        rw [List.map_append]
        rfl
    · have hd : ¬ step ∣ left := fun z => hc (by
        have := Nat.mod_eq_zero_of_dvd z
        rw [← Int.natCast_emod]
        omega)
      walk_at "go"
      exact ⟨50 - (step + 1), by omega, k, fs, left, step + 1, rfl, rfl, hf, inv.next hd, by omega, by omega⟩
  · have hb' : left < step * step := by
      have : ¬ step * step ≤ left := fun z => hb (by exact_mod_cast z)
      omega
    walk_at "go"
    refine ifd (fun hc => ?_) (fun hc => ?_)
    · walk_at "go"
      refine mkT fun M hM => ?_
      have nLM := ne_of_none hf hM
      refine ⟨L, M, _, _, rfl, rfl, by rw [upd_ne nLM]; exact hf, upd_same, ?_, fun p hp => ?_⟩
      · rw [List.length_map]
        exact Nat.le_trans (Nat.add_le_add fl (Nat.le_refl 1)) (Nat.le_trans (Nat.add_le_add_right s40 1) (by decide))
      refine q (fs ++ [left]) _ p (inv.endP (by omega) hb') (by rw [List.length_append, List.length_singleton]; omega) (Same.trans k (Same.trans (same_new hM) (same_new hp))) ?_
      rw [upd_same, natL, natL, List.map_append]
      rfl
    · have e1 : left = 1 := by
        have := inv.l0
        omega
      subst e1
      walk_at "go"
      refine mkT fun M hM => ?_
      have nLM := ne_of_none hf hM
      refine ⟨L, M, _, _, rfl, rfl, by rw [upd_ne nLM]; exact hf, upd_same, ?_, fun p hp => ?_⟩
      · rw [List.length_map]
        exact Nat.le_trans (Nat.add_le_add fl (Nat.zero_le 1)) (Nat.le_trans (Nat.add_le_add_right s40 1) (by decide))
      refine q fs _ p inv.end1 (by omega) (Same.trans k (Same.trans (same_new hM) (same_new hp))) ?_
      rw [upd_same, List.append_nil]
/-! is_one -/
def sp_is_one : Sp := sp1 fun a H Q _ => ∃ (p : Addr) (s : Int) (e : E4), a = .ref p ∧ NumP H p s e ∧ Q (.bl (decide (e.g = 0))) H
theorem tp_eq_bt {e : E4} : e.tp = e.bt ↔ e.g = 0 := by
  rw [← E4.one_iff]
  constructor
  · intro h
    have c : Nat.gcd e.tp e.bt = 1 := E4.cop
    rw [h, Nat.gcd_self] at c
    exact ⟨h.trans c, c⟩
  · rintro ⟨h1, h2⟩
    rw [h1, h2]
theorem c_is_one (T : Tx K mg) : CalX P w K mg base CX0 1 "is_one" sp_is_one [] := by
  refine cal0_of (F_is_one T) (g_is_one T) bd_is_one sc_is_one len1 (fun cdv A outer s H vs Q E hr h => ?_)
  obtain ⟨_, rfl, p, sg, e, rfl, hp, q⟩ := h
  refine ⟨_, (pss_one (ps_ret (pe_cmpR op_eq (pe_callB call_abs (by rfl) (b_abs T) (by decide +kernel) (pa_cons (pe_ix ix_tup (pv 0) pe_int (fun _ _ => rfl)) pa_nil)) (pe_ix ix_tup (pv 0) pe_int (fun _ _ => rfl)) (nomark _)))), ?_⟩
  walk_at "go"
  refine g_ixT (SqT.of hp.1) at0 ?_
  walk_at "go"
  refine ⟨_, rfl, ?_⟩
  have ea : (if sg * (e.tp : Int) < 0 then -(sg * (e.tp : Int)) else sg * (e.tp : Int)) = (e.tp : Int) := by
    have := e.tp_pos
    rcases hp.2.1 with z | z <;> rw [z] <;> split <;> omega
  rw [ea]
  walk_at "go"
  refine g_ixT (SqT.of hp.1) at1 ?_
  walk_at "go"
  have ed : decide ((e.tp : Int) = (e.bt : Int)) = decide (e.g = 0) := decide_eq_decide.mpr (by rw [← tp_eq_bt]; omega)
  rw [ed]
  exact q
end
end PP
-- text W7
namespace PP
open PySem PySem.Spec PyProof.Rows L2
section
variable {P : Program} {w : World} {K : PySem.W.Frag} {mg : Str → Option Value} {base : Heap}
theorem Ok30.g {e : E4} (h : Ok30 e) : e.g ≤ 100 := by
  by_cases g0 : e.g = 0
  · omega
  · have h1 := E4.g_small g0
    have h2 : max e.tp e.bt ≤ 10 ^ 30 := Nat.max_le.mpr ⟨h.t, h.b⟩
    have h3 : 2 ^ e.g < 2 ^ 101 := Nat.lt_of_le_of_lt (Nat.le_trans h1 h2) (by decide)
    have := (Nat.pow_lt_pow_iff_right (a := 2) (by decide)).mp h3
    omega
theorem natL_get {l : List Nat} {i : Nat} {x : V} (h : (natL l)[i]? = some x) : ∃ n, l[i]? = some n ∧ x = .int (n : Int) := by
  rw [natL, List.getElem?_map] at h
  cases e : l[i]? with
  | none => rw [e] at h; cases h
  | some n => rw [e] at h; cases h; exact ⟨n, rfl, rfl⟩
theorem natL_len {l : List Nat} : (natL l).length = l.length := List.length_map ..
/-! steps_for -/
def odds (ps : List Nat) : List (Option V) := ps.map fun p => if 2 < p then some (.int (Int.ofNat p)) else none
theorem odds_id (ps : List Nat) : (odds ps).filterMap id = natL (ps.filter fun p => decide (2 < p)) := by
  induction ps with
  | nil => rfl
  | cons p r ih =>
    unfold odds at ih ⊢
    by_cases h : 2 < p
    · rw [List.map_cons, if_pos h, List.filter_cons_of_pos (by simpa using h)]
      show V.int _ :: _ = V.int _ :: _
      rw [ih]
    · rw [List.map_cons, if_neg h, List.filter_cons_of_neg (by simpa using h)]
      exact ih
def sp_steps_for : Sp := sp1 fun a H Q _ => ∃ (p : Addr) (s : Int) (e : E4), a = .ref p ∧ NumP H p s e ∧ e.g ≠ 0 ∧ ∀ st H' p', Steps s e st → (∀ q ∈ st, q ≤ 100) → st.length ≤ 200 → Same H H' → H' p' = some (.lst (natL st)) → Q (.ref p') H'
theorem c_steps_for (T : Tx K mg) : CalX P w K mg base CX0 8 "steps_for" sp_steps_for [] := by
  refine cal0_of (F_steps_for T) (g_steps_for T) bd_steps_for sc_steps_for len1 (fun cdv A outer s H vs Q E hr h => ?_)
  obtain ⟨_, rfl, p, sg, e, rfl, hp, g0, q⟩ := h
  refine ⟨_, (pss_cons (ps_set (i := 1) sc_steps_for.nd rfl (Or.inl rfl) (pe_ifExp (pt_not (pt_val (pe_cx (c_is_one T) hr pass0 (pa_cons (pv 0) pa_nil)))) (pe_cx (c_prime_divisors T) hr pass0 (pa_cons (pe_ix ix_tup (pe_cx (c_base_for T) hr pass0 (pa_cons (pv 0) pa_nil)) pe_int (fun _ _ => rfl)) pa_nil)) (pe_lst pa_nil)))
      (pss_cons (ps_if (pt_cmpR op_gt (pe_ix ix_tup (pv 0) pe_int (fun _ _ => rfl)) pe_int (nomark _)) (pss_one (ps_ret (pv 1))) pss_nil)
      (pss_one (ps_ret (pe_op op_cat (pe_lc (own := [("prime", 2)]) rfl sc_steps_for.nd (pi_list (pv 1)) (blkOk_by (own := [("prime", 2)]) (N := N_steps_for) (sc := defScope s_steps_for) (by decide +kernel)) (fun _ _ _ _ _ => (pg_name (i := 2) sc_steps_for.nd rfl (Or.inl rfl))) (fun _ _ _ _ _ => (pts_one (pt_cmpR op_gt (pv 2) pe_int (nomark _)))) (fun _ _ _ _ _ => (pv 2))) (pe_ifExp (pt_cmpR op_notN (pe_cx (c_four_for T) hr pass0 (pa_cons (pv 0) pa_nil)) pe_non (nomark _)) (pe_lst (pa_cons pe_int pa_nil)) (pe_lst pa_nil))))))), ?_⟩
  have sgn := hp.sgn
  have g100 := hp.2.2.g
  walk_at "go"
  refine ⟨_, rfl, p, sg, e, rfl, hp, ?_⟩
  walk_at "go"
  refine ifnT g0 ?_
  walk_at "go"
  refine ⟨_, rfl, p, sg, e, rfl, hp.e, fun H1 p1 k1 b1 => ?_⟩
  obtain ⟨n1, hb1, _⟩ := b1
  walk_at "go"
  refine g_ixT (SqT.of hb1) at1 ?_
  walk_at "go"
  refine ⟨_, rfl, e.g, rfl, Nat.pos_of_ne_zero g0, by omega, fun ps H2 p2 hps hpl k2 hl => ?_⟩
  have k12 := Same.trans k1 k2
  have hp2 := hp.mono k12
  have pb : ∀ r ∈ ps, r ≤ 100 := fun r hr => Nat.le_trans (Nat.le_of_dvd (Nat.pos_of_ne_zero g0) (hps.ok r hr).2) g100
  have fb : ∀ r ∈ ps.filter (fun p => decide (2 < p)), r ≤ 100 := fun r hr => pb r (List.mem_filter.mp hr).1
  walk_at "go"
  refine g_ixT (SqT.of hp2.1) at0 ?_
  walk_at "go"
  refine ifd (fun hb => ?_) (fun hb => ?_)
  · have hs := sgn.1.mp hb
    subst hs
    walk_at "go"
    exact q ps H2 p2 (steps_pos hps g0) pb (by omega) k12 hl
  · have hs : sg ≠ 1 := fun z => hb (sgn.1.mpr z)
    have S := steps_neg hs hps g0
    walk_at "go"
    refine ⟨_, rfl, ⟨_, SqL.of hl⟩, fun D hD => lc_goL (odds ps) (SqL.of hl) (by rw [natL_len, odds, List.length_map]) hD (by rw [odds, List.length_map]; omega) (fun i x k H3 hx hk k3 R hR => ?_) (fun H3 k3 hl3 => ?_)⟩
    · obtain ⟨n, hn, rfl⟩ := natL_get hx
      walk_at "go"
      refine ⟨rfl, ?_⟩
      walk_at "go"
      rw [odds, List.getElem?_map, hn] at hk
      cases hk
      refine ifd (fun hc => ?_) (fun hc => ?_)
      · walk_at "go"
        have := hR H3 (Same.refl H3)
        dsimp only at this
        rw [if_pos (by omega)] at this
        exact this
      · have := hR H3 (Same.refl H3)
        dsimp only at this
        rw [if_neg (by omega)] at this
        exact this
    · rw [odds_id] at hl3
      walk_at "go"
      refine ⟨_, rfl, p, sg, e, rfl, hp2.mono k3, fun f H4 p4 k4 => ?_, fun f H4 k4 => ?_⟩
      · walk_at "go"
        refine ⟨rfl, ?_⟩
        walk_at "go"
        refine mkT fun M hM => ?_
        have hl4 := k4 _ _ hl3
        refine ⟨D, M, _, _, rfl, rfl, by rw [upd_ne (ne_of_none hl4 hM)]; exact hl4, upd_same, ?_, fun p hp => ?_⟩
        · rw [natL_len]
          exact Nat.le_trans (Nat.add_le_add (List.length_filter_le _ _) (Nat.le_refl _)) (Nat.le_trans (Nat.add_le_add hpl (Nat.le_refl _)) (by decide))
        rw [if_pos f.2] at S
        refine q _ _ p S (fun r hr => (List.mem_append.mp hr).elim (fb r) fun z => by rw [List.mem_singleton.mp z]; decide) ?_ (Same.trans k12 (Same.trans k3 (Same.trans k4 (Same.trans (same_new hM) (same_new hp))))) ?_
        · have := List.length_filter_le (fun p => decide (2 < p)) ps
          rw [List.length_append]
          show _ + 1 ≤ 200
          omega
        · rw [upd_same, natL, natL, List.map_append]
          rfl
      · walk_at "go"
        refine ⟨rfl, ?_⟩
        walk_at "go"
        refine mkT fun M hM => ?_
        have hl4 := k4 _ _ hl3
        refine ⟨D, M, _, _, rfl, rfl, by rw [upd_ne (ne_of_none hl4 hM)]; exact hl4, upd_same, ?_, fun p hp => ?_⟩
        · rw [natL_len]
          exact Nat.le_trans (Nat.add_le_add (List.length_filter_le _ _) (Nat.le_refl _)) (Nat.le_trans (Nat.add_le_add hpl (Nat.le_refl _)) (by decide))
        rw [if_neg (fun z => f ⟨hs, z⟩)] at S
        refine q _ _ p S (fun r hr => (List.mem_append.mp hr).elim (fb r) fun z => (List.not_mem_nil z).elim) ?_ (Same.trans k12 (Same.trans k3 (Same.trans k4 (Same.trans (same_new hM) (same_new hp))))) ?_
        · have := List.length_filter_le (fun p => decide (2 < p)) ps
          rw [List.length_append]
          show _ + 0 ≤ 200
          omega
        · rw [upd_same, natL, natL, List.map_append]
          rfl
/-! powers_up_to -/
def sp_powers_up_to : Sp := sp1 fun a H Q _ => ∃ n : Nat, a = .int (n : Int) ∧ n ≤ 10 ^ 31 ∧ ∀ k : Nat, n < 2 ^ k → (k = 0 ∨ 2 ^ (k - 1) ≤ n) → Q (.int (k : Int)) H
theorem c_powers_up_to (T : Tx K mg) : CalX P w K mg base CX0 1 "powers_up_to" sp_powers_up_to [] := by
  refine cal0_of (F_powers_up_to T) (g_powers_up_to T) bd_powers_up_to sc_powers_up_to len1 (fun cdv A outer s H vs Q E hr h => ?_)
  obtain ⟨_, rfl, n, rfl, n1, q⟩ := h
  refine ⟨_, (pss_cons (ps_unp (n := 2) rfl (pa_cons pe_int (pa_cons pe_int pa_nil)) (pgs_cons (pg_name (i := 1) sc_powers_up_to.nd rfl (Or.inl rfl)) (pgs_cons (pg_name (i := 2) sc_powers_up_to.nd rfl (Or.inl rfl)) pgs_nil)))
      (pss_cons (ps_while PassesOwn.never (pt_cmpR op_le (pv 2) (pv 0) (nomark _)) (pss_one (ps_par (i := 1) (j := 2) (by rfl) sc_powers_up_to.nd rfl rfl (by decide) rfl rfl (pa_cons (pe_op op_add (pv 1) pe_int) (pa_cons (pe_op op_mulW pe_int (pv 2)) pa_nil)) (by rfl))))
      (pss_one (ps_ret (pv 1))))), ?_⟩
  walk_at "go"
  refine g_while (fun m σ' H' => H' = H ∧ ∃ k : Nat, m = 200 - k ∧ σ' = [some (.int (n : Int)), some (.int (k : Int)), some (.int ((2 ^ k : Nat) : Int))] ∧ (k = 0 ∨ 2 ^ (k - 1) ≤ n)) _ ⟨rfl, 0, rfl, rfl, .inl rfl⟩ ?_
  rintro m σ' H' ⟨rfl, k, rfl, rfl, hk⟩
  have k110 : k ≤ 110 := by
    rcases hk with z | z
    · omega
    · have : 2 ^ (k - 1) < 2 ^ 109 := Nat.lt_of_le_of_lt (Nat.le_trans z n1) (by decide)
      have := (Nat.pow_lt_pow_iff_right (a := 2) (by decide)).mp this
      omega
  walk_at "go"
  refine ifd (fun hb => g_turn ?_) (fun hb => ?_)
  · have hb' : 2 ^ k ≤ n := by exact_mod_cast hb
    walk_at "go"
    refine g_I (wide_mul (a := 3) (b := 111) (by decide) (nat_bits (Nat.pow_lt_pow_right (by decide) (by omega))) (by decide) (by decide) (by decide)) ?_
    walk_at "go"
    refine ⟨200 - (k + 1), by omega, rfl, k + 1, rfl, ?_, .inr hb'⟩
    rw [Nat.pow_succ, Nat.mul_comm]
    rfl
  · have hb' : n < 2 ^ k := by
      refine Nat.lt_of_not_le fun z => hb (by exact_mod_cast z)
    walk_at "go"
    exact q k hb' hk
/-! next_for -/
theorem two_pows {n k k' : Nat} (h1 : n + 1 < 2 ^ k) (h2 : k = 0 ∨ 2 ^ (k - 1) ≤ n + 1) (h1' : n < 2 ^ k') (h2' : k' = 0 ∨ 2 ^ (k' - 1) ≤ n) (hk : k ≠ k') : n + 1 = 2 ^ k' := by
  rcases Nat.lt_or_ge (n + 1) (2 ^ k') with z | z
  · refine absurd (Nat.le_antisymm ?_ ?_) hk
    · rcases h2 with y | y
      · omega
      · have := (Nat.pow_lt_pow_iff_right (a := 2) (by decide)).mp (Nat.lt_of_le_of_lt y z)
        omega
    · rcases h2' with y | y
      · omega
      · have := (Nat.pow_lt_pow_iff_right (a := 2) (by decide)).mp (Nat.lt_of_le_of_lt y (Nat.lt_trans (Nat.lt_succ_self n) h1))
        omega
  · omega
def sp_next_for : Sp := sp2 fun a b H Q _ => ∃ (p : Addr) (s : Int) (e : E4) (n : Nat), a = .ref p ∧ b = .int (n : Int) ∧ 0 < n ∧ n ≤ 10 ^ 30 ∧ NumP H p s e ∧ (∃ j, 0 < j ∧ Spl s e j) ∧ ∀ m H', Next s e n m → Same H H' → Q (.int (m : Int)) H'
theorem c_next_for (T : Tx K mg) : CalX P w K mg base CX0 9 "next_for" sp_next_for [] := by
  refine cal0_of (F_next_for T) (g_next_for T) bd_next_for sc_next_for len2 (fun cdv A outer s H vs Q E hr h => ?_)
  obtain ⟨_, _, rfl, p, sg, e, n, rfl, rfl, n0, n1, hp, hj, q⟩ := h
  refine ⟨_, (pss_cons (ps_if (pt_not (pt_val (pe_cx (c_is_one T) hr pass0 (pa_cons (pv 0) pa_nil)))) (pss_one (ps_ret (pe_callB (cr_min rfl) (by rfl) (b_min T) (by decide +kernel) (pa_cons (pe_lc (own := [("step", 2)]) rfl sc_next_for.nd (pi_list (pe_cx (c_steps_for T) hr pass0 (pa_cons (pv 0) pa_nil))) (blkOk_by (own := [("step", 2)]) (N := N_next_for) (sc := defScope s_next_for) (by decide +kernel)) (fun _ _ _ _ _ => (pg_name (i := 2) sc_next_for.nd rfl (Or.inl rfl))) (fun _ _ _ _ _ => pts_nil) (fun _ _ _ _ _ => (pe_op op_mulW (pe_op op_add (pe_op op_fdivW (pv 1) (pv 2)) pe_int) (pv 2)))) pa_nil)))) pss_nil)
      (pss_one (ps_ret (pe_ifExp (PW.pt (pw_or (pt_cmpR op_gt (pe_ix ix_tup (pv 0) pe_int (fun _ _ => rfl)) pe_int (nomark _)) (pw_or1 (pt_cmpR op_eq (pe_cx (c_powers_up_to T) hr pass0 (pa_cons (pe_op op_add (pv 1) pe_int) pa_nil)) (pe_cx (c_powers_up_to T) hr pass0 (pa_cons (pv 1) pa_nil)) (nomark _))))) (pe_op op_add (pv 1) pe_int) (pe_op op_add (pv 1) pe_int))))), ?_⟩
  have sgn := hp.sgn
  walk_at "go"
  refine ⟨_, rfl, p, sg, e, rfl, hp, ?_⟩
  walk_at "go"
  refine ifn (fun g0 => ?_) (fun g0 => ?_)
  · walk_at "go"
    refine ⟨_, rfl, p, sg, e, rfl, hp, g0, fun st H1 p1 S sb sl k1 hl => ?_⟩
    refine ⟨_, rfl, ⟨_, SqL.of hl⟩, fun D hD => lc_goL (st.map fun q => some (.int (((n / q + 1) * q : Nat) : Int))) (SqL.of hl) (by rw [natL_len, List.length_map]) hD (by rw [List.length_map]; omega) (fun i x k H3 hx hk k3 R hR => ?_) (fun H3 k3 hl3 => ?_)⟩
    · obtain ⟨r, hn, rfl⟩ := natL_get hx
      rw [List.getElem?_map, hn] at hk
      cases hk
      have r2 := S.two r (List.mem_of_getElem? hn)
      have r100 := sb r (List.mem_of_getElem? hn)
      have b1 : n / r + 1 < 2 ^ 101 := Nat.lt_of_le_of_lt (Nat.add_le_add_right (Nat.le_trans (Nat.div_le_self n r) n1) 1) (by decide)
      walk_at "go"
      refine ⟨rfl, ?_⟩
      walk_at "go"
      have r0 : (0 : Int) < (r : Int) := by omega
      have r7 : r < 2 ^ 8 := by omega
      refine iteT ?_
      walk_at "go"
      refine g_I (wide_div (b := 8) r0 (nat_bits r7) (by decide) (by decide)) ?_
      walk_at "go"
      refine g_I (wide_mul (a := 102) (b := 8) ?_ (nat_bits r7) (by decide) (by decide) (by decide)) ?_
      · rw [← Int.natCast_ediv]
        exact nat_bits (n := n / r + 1) (Nat.lt_trans b1 (by decide))
      have := hR H3 (Same.refl H3)
      dsimp only at this
      rw [Int.natCast_mul, Int.natCast_add, Int.natCast_ediv] at this
      exact this
    · have e1 : (st.map fun q => some (V.int (((n / q + 1) * q : Nat) : Int))).filterMap id = (st.map fun q => (((n / q + 1) * q : Nat) : Int)).map V.int := by
        rw [List.map_map, List.filterMap_map]
        exact List.filterMap_eq_map (f := fun q : Nat => V.int (((n / q + 1) * q : Nat) : Int)) ▸ rfl
      rw [e1] at hl3
      walk_at "go"
      obtain ⟨j, j0, hj⟩ := hj
      obtain ⟨r, hr, _⟩ := (S.spl j j0).mp hj
      refine ⟨D, _, rfl, SqL.of hl3, ?_, fun m hm hle => ?_⟩
      · rw [List.length_map]
        exact List.length_pos_of_mem hr
      obtain ⟨r, hr, rfl⟩ := List.mem_map.mp hm
      refine q _ H3 (next_min S ⟨r, hr, rfl⟩ fun y hy => ?_) (Same.trans k1 k3)
      have := hle _ (List.mem_map.mpr ⟨y, hy, rfl⟩)
      exact_mod_cast this
  · have e0 := E4.g_zero.mp g0
    subst e0
    walk_at "go"
    refine g_ixT (SqT.of hp.1) at0 ?_
    walk_at "go"
    refine ifd (fun hb => ?_) (fun hb => ?_)
    · have hs := sgn.1.mp hb
      subst hs
      refine iteT ?_
      walk_at "go"
      exact q (n + 1) H (next_one n0) (Same.refl H)
    · have hs : sg ≠ 1 := fun z => hb (sgn.1.mpr z)
      walk_at "go"
      refine ⟨_, rfl, n + 1, rfl, by omega, fun k h1 h2 => ?_⟩
      walk_at "go"
      refine ⟨_, rfl, n, rfl, by omega, fun k' h1' h2' => ?_⟩
      walk_at "go"
      refine ifd (fun hk => ?_) (fun hk => ?_)
      · have hk' : k = k' := by exact_mod_cast hk
        subst hk'
        walk_at "go"
        exact q (n + 1) H (next_m1a hs n0 h1 h2') (Same.refl H)
      · have hk' : k ≠ k' := fun z => hk (by rw [z])
        walk_at "go"
        exact q (n + 2) H (next_m1b hs n0 (k := k') (two_pows h1 h2 h1' h2' hk')) (Same.refl H)
/-! next_split, splits, is_always_whole -/
theorem NumP.chk {H : Hp} {p : Addr} {s : Int} {e : E4} {Q : VK} {E : XK} (h : NumP H p s e) (q : Q .non H) : sp_check_number [.ref p] H Q E := ⟨_, rfl, p, _, _, rfl, h.1, h.ok, q⟩
theorem alw_spl {s : Int} {e : E4} (h : ¬ Alw s e) : ∃ j, 0 < j ∧ Spl s e j := by
  by_cases hs : s = 1
  · subst hs
    have h1 : e.g ≠ 1 := fun z => h (by unfold Alw; rw [if_pos rfl]; exact z)
    by_cases g0 : e.g = 0
    · exact ⟨2, by decide, .inl (by rw [if_pos rfl, g0]; decide)⟩
    · refine ⟨e.g, by omega, .inl ?_⟩
      rw [if_pos rfl, Nat.gcd_self]
      omega
  · by_cases g0 : e.g = 0
    · refine ⟨3, by decide, .inl ?_⟩
      rw [if_neg hs, g0, oddp_odd (by decide)]
      decide
    · by_cases ho : oddp e.g = 1
      · by_cases hf : e.Four
        · exact ⟨4, by decide, .inr ⟨Nat.dvd_refl 4, hs, hf⟩⟩
        · exact absurd (by unfold Alw; rw [if_neg hs]; exact ⟨by omega, ho, hf⟩) h
      · have p0 := oddp_pos (n := e.g) (by omega)
        have p1 := oddp_is_odd (n := e.g) (by omega)
        refine ⟨oddp e.g, p0, .inl ?_⟩
        rw [if_neg hs, oddp_odd (n := oddp e.g) (by omega), Nat.gcd_eq_left oddp_dvd]
        omega
def sp_next_split (K : PySem.W.Frag) : Sp := sp2 fun a b H Q E => ∃ (p : Addr) (s : Int) (e : E4) (n : Int), a = .ref p ∧ b = .int n ∧ NumP H p s e ∧ (¬ (1 ≤ n ∧ n ≤ 10 ^ 30) → ∀ d H', Same H H' → E (.ref (gaK K "InvalidDegree")) d H') ∧
  (1 ≤ n → n ≤ 10 ^ 30 → Alw s e → ∀ H', Same H H' → Q .non H') ∧ (1 ≤ n → n ≤ 10 ^ 30 → ¬ Alw s e → ∀ m H', Next s e n.toNat m → Same H H' → Q (.int (m : Int)) H')
theorem c_next_split (T : Tx K mg) : CalX P w K mg base (L2.CX P w) 10 "next_split" (sp_next_split K) [] := by
  refine cal_of (F_next_split T) (g_next_split T) bd_next_split sc_next_split len2 (fun cdv A outer s H vs Q E hr h => ?_)
  obtain ⟨_, _, rfl, p, sg, e, n, rfl, rfl, hp, q1, q2, q3⟩ := h
  refine ⟨_, (pss_cons (ps_expr (pe_cx (c_check_number T) hr pass0 (pa_cons (pv 0) pa_nil)))
      (pss_cons (ps_expr (pe_cx (c_check_degree1 T) hr pX (pa_cons (pv 1) pa_nil)))
      (pss_one (ps_ret (pe_ifExp (pt_val (pe_cx (c_is_always T) hr pass0 (pa_cons (pv 0) pa_nil))) pe_non (pe_cx (c_next_for T) hr pass0 (pa_cons (pv 0) (pa_cons (pv 1) pa_nil)))))))), ?_⟩
  walk_at "go"
  refine hp.chk ?_
  walk_at "go"
  refine ⟨_, _, _, rfl, n, 10 ^ 30, 1, rfl, rfl, rfl, fun h1 h2 => ?_, fun h1 d H' k => q1 h1 d H' k⟩
  walk_at "go"
  refine ⟨_, rfl, p, sg, e, rfl, hp, fun H1 k1 => ?_⟩
  walk_at "go"
  refine ifd (fun hb => ?_) (fun hb => ?_)
  · exact q2 h1 h2 hb H1 k1
  · walk_at "go"
    obtain ⟨n, rfl⟩ := Int.eq_ofNat_of_zero_le (a := n) (by omega)
    exact ⟨_, _, rfl, p, sg, e, n, rfl, rfl, by omega, by omega, hp.mono k1, alw_spl hb, fun m H2 hm k2 => q3 h1 h2 hb m H2 hm (Same.trans k1 k2)⟩
def sp_splits (K : PySem.W.Frag) : Sp := sp2 fun a b H Q E => ∃ (p : Addr) (s : Int) (e : E4) (n : Int), a = .ref p ∧ b = .int n ∧ NumP H p s e ∧ (¬ (1 ≤ n ∧ n ≤ 10 ^ 30) → ∀ d H', Same H H' → E (.ref (gaK K "InvalidDegree")) d H') ∧
  (1 ≤ n → n ≤ 10 ^ 30 → ∀ H', Same H H' → Q (.bl (decide (Spl s e n.toNat))) H')
theorem c_splits (T : Tx K mg) : CalX P w K mg base (L2.CX P w) 10 "splits" (sp_splits K) [] := by
  refine cal_of (F_splits T) (g_splits T) bd_splits sc_splits len2 (fun cdv A outer s H vs Q E hr h => ?_)
  obtain ⟨_, _, rfl, p, sg, e, n, rfl, rfl, hp, q1, q2⟩ := h
  refine ⟨_, (pss_cons (ps_expr (pe_cx (c_check_number T) hr pass0 (pa_cons (pv 0) pa_nil)))
      (pss_cons (ps_expr (pe_cx (c_check_degree1 T) hr pX (pa_cons (pv 1) pa_nil)))
      (pss_one (ps_ret (pe_cx (c_does_split T) hr pass0 (pa_cons (pv 0) (pa_cons (pv 1) pa_nil))))))), ?_⟩
  walk_at "go"
  refine hp.chk ?_
  walk_at "go"
  refine ⟨_, _, _, rfl, n, 10 ^ 30, 1, rfl, rfl, rfl, fun h1 h2 => ?_, fun h1 d H' k => q1 h1 d H' k⟩
  walk_at "go"
  obtain ⟨n, rfl⟩ := Int.eq_ofNat_of_zero_le (a := n) (by omega)
  exact ⟨_, _, rfl, p, sg, e, n, rfl, rfl, by omega, hp, fun H1 k1 => q2 h1 h2 H1 k1⟩
def sp_is_always_whole : Sp := sp1 fun a H Q _ => ∃ (p : Addr) (s : Int) (e : E4), a = .ref p ∧ NumP H p s e ∧ ∀ H', Same H H' → Q (.bl (decide (Alw s e))) H'
theorem c_is_always_whole (T : Tx K mg) : CalX P w K mg base CX0 9 "is_always_whole" sp_is_always_whole [] := by
  refine cal0_of (F_is_always_whole T) (g_is_always_whole T) bd_is_always_whole sc_is_always_whole len1 (fun cdv A outer s H vs Q E hr h => ?_)
  obtain ⟨_, rfl, p, sg, e, rfl, hp, q⟩ := h
  refine ⟨_, (pss_cons (ps_expr (pe_cx (c_check_number T) hr pass0 (pa_cons (pv 0) pa_nil)))
      (pss_one (ps_ret (pe_cx (c_is_always T) hr pass0 (pa_cons (pv 0) pa_nil))))), ?_⟩
  walk_at "go"
  refine hp.chk ?_
  walk_at "go"
  exact ⟨_, rfl, p, sg, e, rfl, hp, q⟩
end
end PP
-- text W8
namespace PP
open PySem PySem.Spec PyProof.Rows L2
section
variable {P : Program} {w : World} {K : PySem.W.Frag} {mg : Str → Option Value} {base : Heap}
theorem pow_le_of {r k v : Nat} (hk : 1 ≤ k) (h : r ^ k = v) : r ≤ v := h ▸ le_pow_self' hk
theorem Small.dv {e : E4} {k : Nat} (h : Small e) (hk : 1 ≤ k) (hd : k ∣ e.g) : Small (e.dv k) :=
  ⟨Nat.lt_of_le_of_lt (pow_le_of hk (root_tp hd)) h.t, Nat.lt_of_le_of_lt (pow_le_of hk (root_bt hd)) h.b⟩
theorem root_eq {v p r s : Nat} (hp : 1 ≤ p) (h1 : r ^ p ≤ v) (h2 : v < (r + 1) ^ p) (h : s ^ p = v) : r = s := by
  have e := (root_unique hp h1 h2).mpr ⟨s, h⟩
  have e2 : r ^ p = s ^ p := e.trans h.symm
  rcases Nat.lt_trichotomy r s with z | z | z
  · exact absurd e2 (Nat.ne_of_lt (Nat.pow_lt_pow_left z (by omega)))
  · exact z
  · exact absurd e2.symm (Nat.ne_of_lt (Nat.pow_lt_pow_left z (by omega)))
/-! is_taken -/
def sp_is_taken : Sp := sp2 fun a b H Q _ => ∃ (p : Addr) (e : E4) (k : Nat), a = .ref p ∧ b = .int (k : Int) ∧ Num H p (e.tp : Int) (e.bt : Int) ∧ Small e ∧ 1 ≤ k ∧ k ≤ 250 ∧ Q (.bl (decide (k ∣ e.g))) H
theorem c_is_taken (T : Tx K mg) : CalX P w K mg base CX0 4 "is_taken" sp_is_taken [] := by
  refine cal0_of (F_is_taken T) (g_is_taken T) bd_is_taken sc_is_taken len2 (fun cdv A outer s H vs Q E hr h => ?_)
  obtain ⟨_, _, rfl, p, e, k, rfl, rfl, hp, hs, k1, k2, q⟩ := h
  refine ⟨_, (pss_one (ps_ret (pe_and (pe_cx (c_is_power T) hr pass0 (pa_cons (pe_ix ix_tup (pv 0) pe_int (fun _ _ => rfl)) (pa_cons (pv 1) pa_nil))) (pe_one (pe_cx (c_is_power T) hr pass0 (pa_cons (pe_ix ix_tup (pv 0) pe_int (fun _ _ => rfl)) (pa_cons (pv 1) pa_nil))))))), ?_⟩
  walk_at "go"
  refine g_ixT (SqT.of hp) at0 ?_
  walk_at "go"
  refine ⟨_, _, rfl, e.tp, k, rfl, rfl, lt250 hs.t, k1, k2, fun b1 h1 => ?_⟩
  have E1 := E4.pows (e := e) k1
  cases b1 with
  | false =>
    refine ⟨_, rfl, iteF ?_⟩
    have : ¬ k ∣ e.g := fun z => absurd (h1.mpr (E1.mpr z).1) (by decide)
    rw [decide_eq_false this] at q
    exact q
  | true =>
    refine ⟨_, rfl, iteT ?_⟩
    walk_at "go"
    refine g_ixT (SqT.of hp) at1 ?_
    walk_at "go"
    refine ⟨_, _, rfl, e.bt, k, rfl, rfl, lt250 hs.b, k1, k2, fun b2 h2 => ?_⟩
    have : b2 = decide (k ∣ e.g) := by
      rw [Bool.eq_iff_iff, h2, decide_eq_true_iff, ← E1]
      exact ⟨fun z => ⟨h1.mp rfl, z⟩, fun z => z.2⟩
    rw [this]
    exact q
/-! least_form -/
/-- a least form at f -/
def FormAt (H : Hp) (f : Addr) (e : E4) (d : Nat) : Prop := ∃ nb, H f = some (.tup [.ref nb, .int (d : Int)]) ∧ Num H nb (e.tp : Int) (e.bt : Int)
theorem FormAt.mono {H H' : Hp} {f : Addr} {e : E4} {d : Nat} (h : FormAt H f e d) (k : Same H H') : FormAt H' f e d := by
  obtain ⟨nb, h1, h2⟩ := h
  exact ⟨nb, k _ _ h1, k _ _ h2⟩
def sp_least_form : Sp := sp2 fun a b H Q _ => ∃ (p : Addr) (e : E4) (n : Nat), a = .ref p ∧ b = .int (n : Int) ∧ Num H p (e.tp : Int) (e.bt : Int) ∧ Small e ∧ 1 ≤ n ∧ n ≤ 60 ∧ ∀ H' f, Same H H' → FormAt H' f (lfE e n) (lfN e n) → Q (.ref f) H'
theorem c_least_form (T : Tx K mg) : CalX P w K mg base CX0 5 "least_form" sp_least_form [] := by
  refine cal0_of (F_least_form T) (g_least_form T) bd_least_form sc_least_form len2 (fun cdv A outer s H vs Q E hr h => ?_)
  obtain ⟨_, _, rfl, p, e, n, rfl, rfl, hp, hs, n1, n2, q⟩ := h
  refine ⟨_, (pss_cons (ps_for PassesOwn.never rfl (pi_list (pe_cx (c_prime_divisors T) hr pass0 (pa_cons (pv 1) pa_nil))) (pg_name (i := 2) sc_least_form.nd rfl (Or.inl rfl)) (pss_one (ps_while PassesOwn.never (PW.pt (pw_and (pt_cmpR op_eq (pe_op op_mod (pv 1) (pv 2)) pe_int (nomark _)) (pw_and1 (pt_val (pe_cx (c_is_taken T) hr pass0 (pa_cons (pv 0) (pa_cons (pv 2) pa_nil))))))) (pss_one (ps_par (i := 0) (j := 1) (by rfl) sc_least_form.nd rfl rfl (by decide) rfl rfl (pa_cons (pe_tup (pa_cons (pe_cx (c_floor_root T) hr pass0 (pa_cons (pe_ix ix_tup (pv 0) pe_int (fun _ _ => rfl)) (pa_cons (pv 2) pa_nil))) (pa_cons (pe_cx (c_floor_root T) hr pass0 (pa_cons (pe_ix ix_tup (pv 0) pe_int (fun _ _ => rfl)) (pa_cons (pv 2) pa_nil))) pa_nil))) (pa_cons (pe_op op_fdivW (pv 1) (pv 2)) pa_nil)) (by rfl))))))
      (pss_one (ps_ret (pe_tup (pa_cons (pv 0) (pa_cons (pv 1) pa_nil)))))), ?_⟩
  walk_at "go"
  refine ⟨_, rfl, n, rfl, n1, by omega, fun ps H1 p1 pd pl k1 hl => ?_⟩
  refine ⟨_, rfl, ⟨_, SqL.of hl⟩, forL (xs := natL ps) (fun i σ' H' => Same H1 H' ∧ ∃ (p' : Addr) (e' : E4) (n' : Nat) (v : Option V), σ' = [some (.ref p'), some (.int (n' : Int)), v] ∧ Num H' p' (e'.tp : Int) (e'.bt : Int) ∧ Small e' ∧ Lf e n e' n' ∧ ∀ (j : Nat) (r : Nat), ps[j]? = some r → j < i → ¬ (r ∣ n' ∧ r ∣ e'.g))
    ⟨Same.refl H1, p, e, n, none, rfl, k1 _ _ hp, hs, Lf.start, fun j r _ h => absurd h (Nat.not_lt_zero j)⟩ (fun i σ' H' hi h => SqL.of (h.1 _ _ hl)) (fun i x σ' H' hx h => ?_) (fun σ' H' h => ?_)⟩
  · obtain ⟨k2, p', e', n', v, rfl, hp', hs', lf, old⟩ := h
    obtain ⟨r, hr', rfl⟩ := natL_get hx
    have rp := pd.ok r (List.mem_of_getElem? hr')
    have r2 := rp.1.two
    have r60 : r ≤ n := Nat.le_of_dvd n1 rp.2
    walk_at "go"
    refine g_while (fun m σ' H' => Same H1 H' ∧ ∃ (p' : Addr) (e' : E4) (n' : Nat), n' = m ∧ σ' = [some (.ref p'), some (.int (n' : Int)), some (.int (r : Int))] ∧ Num H' p' (e'.tp : Int) (e'.bt : Int) ∧ Small e' ∧ Lf e n e' n' ∧ 0 < n' ∧ n' ≤ 60 ∧ ∀ (j : Nat) (r : Nat), ps[j]? = some r → j < i → ¬ (r ∣ n' ∧ r ∣ e'.g)) n' ?_ ?_
    · have : 0 < n' ∧ n' ≤ 60 := by
        obtain ⟨c, c0, _, hc⟩ := lf
        refine ⟨Nat.pos_of_ne_zero fun z => by rw [z, Nat.zero_mul] at hc; omega, ?_⟩
        exact Nat.le_trans (Nat.le_mul_of_pos_right n' c0) (hc ▸ n2)
      exact ⟨k2, p', e', n', rfl, rfl, hp', hs', lf, this.1, this.2, old⟩
    rintro m σ' H' ⟨k2, p', e', n', rfl, rfl, hp', hs', lf, n0', n60, old⟩
    walk_at "go"
    refine g_I (by omega) ?_
    walk_at "go"
    have ei : ((n' : Int) % (r : Int) = 0) ↔ r ∣ n' := by
      rw [Nat.dvd_iff_mod_eq_zero, ← Int.natCast_emod]
      omega
    have stop : ¬ (r ∣ n' ∧ r ∣ e'.g) → (fun σ' H' => Same H1 H' ∧ ∃ (p' : Addr) (e' : E4) (n' : Nat) (v : Option V), σ' = [some (.ref p'), some (.int (n' : Int)), v] ∧ Num H' p' (e'.tp : Int) (e'.bt : Int) ∧ Small e' ∧ Lf e n e' n' ∧ ∀ (j : Nat) (r : Nat), ps[j]? = some r → j < i + 1 → ¬ (r ∣ n' ∧ r ∣ e'.g)) [some (.ref p'), some (.int (n' : Int)), some (.int (r : Int))] H' := fun z => by
      refine ⟨k2, p', e', n', _, rfl, hp', hs', lf, fun j r' hj hlt => ?_⟩
      rcases Nat.lt_or_ge j i with y | y
      · exact old j r' hj y
      · have : j = i := by omega
        subst this
        rw [hr'] at hj
        cases hj
        exact z
    refine ifd (fun hb => ?_) (fun hb => iteF ?_)
    · walk_at "go"
      refine ⟨_, _, rfl, p', e', r, rfl, rfl, hp', hs', by omega, by omega, ?_⟩
      walk_at "go"
      refine ifd (fun hc => g_turn ?_) (fun hc => ?_)
      · walk_at "go"
        refine g_ixT (SqT.of hp') at0 ?_
        walk_at "go"
        have r1 : 1 ≤ r := by omega
        have r250 : r ≤ 250 := by omega
        have hd := ei.mp hb
        have s' := hs'.dv r1 hc
        refine ⟨_, _, rfl, e'.tp, r, rfl, rfl, lt250 hs'.t, r1, r250, fun z h1 h2 => ?_⟩
        have ez := root_eq r1 h1 h2 (root_tp hc)
        subst ez
        walk_at "go"
        refine g_ixT (SqT.of hp') at1 ?_
        walk_at "go"
        refine ⟨_, _, rfl, e'.bt, r, rfl, rfl, lt250 hs'.b, r1, r250, fun z h1 h2 => ?_⟩
        have ez := root_eq r1 h1 h2 (root_bt hc)
        subst ez
        walk_at "go"
        refine mkT fun N hN => ?_
        walk_at "go"
        have r0 : (0 : Int) < (r : Int) := by omega
        have r7 : r < 2 ^ 8 := by omega
        refine g_I (wide_div (b := 8) r0 (nat_bits r7) (by decide) (by decide)) ?_
        walk_at "go"
        refine ⟨n' / r, Nat.div_lt_self n0' r2, Same.trans k2 (same_new hN), N, e'.dv r, n' / r, rfl, rfl, upd_same, s', lf.div (by omega) hd hc, Nat.div_pos (Nat.le_of_dvd n0' hd) r1, Nat.le_trans (Nat.div_le_self _ _) n60, fun j r' hj hlt => ?_⟩
        rintro ⟨z1, z2⟩
        refine old j r' hj hlt ⟨Nat.dvd_trans z1 (Nat.div_dvd_of_dvd hd), ?_⟩
        have e1 := E4.dv_mul hc
        have e2 := E4.mul_g (e := e'.dv r) (c := (r : Int))
        rw [e1, Int.natAbs_natCast] at e2
        rw [e2]
        exact Nat.dvd_trans z2 (Nat.dvd_mul_right _ _)
      · walk_at "go"
        exact stop fun z => hc z.2
    · walk_at "go"
      exact stop fun z => hb (ei.mpr z.1)
  · obtain ⟨k2, p', e', n', v, rfl, hp', hs', lf, old⟩ := h
    walk_at "go"
    refine mkT fun f hf => ?_
    have n0' : 0 < n' := by
      obtain ⟨c, c0, _, hc⟩ := lf
      refine Nat.pos_of_ne_zero fun z => by rw [z, Nat.zero_mul] at hc; omega
    have g1 : Nat.gcd n' e'.g = 1 := gcd_one n0' fun r hr' h1 h2 => by
      have : r ∣ n := by
        obtain ⟨c, _, _, hc⟩ := lf
        rw [hc]
        exact Nat.dvd_trans h1 (Nat.dvd_mul_right _ _)
      obtain ⟨j, hj, ej⟩ := List.getElem_of_mem (pd.has r hr' this)
      exact old j r (by rw [List.getElem?_eq_getElem hj, ej]) (by rw [natL_len]; exact hj) ⟨h1, h2⟩
    obtain ⟨x1, x2⟩ := lf.done g1
    refine q _ f (Same.trans k1 (Same.trans k2 (same_new hf))) ⟨p', ?_, ?_⟩
    · rw [upd_same]
      unfold lfN
      rw [← x2]
    · have := same_new (o := .tup [.ref p', .int (n' : Int)]) hf _ _ hp'
      unfold lfE
      rw [← x1]
      exact this
end
end PP
-- text W9
namespace PP
open PySem PySem.Spec PyProof.Rows L2
section
variable {P : Program} {w : World} {K : PySem.W.Frag} {mg : Str → Option Value} {base : Heap}
/-! texts of numbers -/
abbrev iS (i : Int) : Str := Str.ofString (toString i)
def nText (t b : Int) : Str := if b = 1 then iS t else iS t ++ Str.ofString "/" ++ iS b
theorem iS_len {i : Int} (h : i.natAbs.log2 < 1920) : (iS i).length ≤ 1921 := by
  rw [PySem.ofString_length]
  exact PySem.int_text_length_le (by decide) h
theorem big_line {n : Nat} (h : n ≤ 10000) : n ≤ sizeLine := Nat.le_trans h (by decide)
theorem nText_len {t b : Int} (h1 : t.natAbs.log2 < 1920) (h2 : b.natAbs.log2 < 1920) : (nText t b).length ≤ 3850 := by
  have a := iS_len h1
  have c := iS_len h2
  have d : (Str.ofString "/").length = 1 := by decide
  unfold nText
  split
  · omega
  · rw [Str.length_append, Str.length_append, d]
    omega
def sp_text_of : Sp := sp1 fun a H Q _ => ∃ (p : Addr) (t b : Int), a = .ref p ∧ Num H p t b ∧ t.natAbs.log2 < 1920 ∧ b.natAbs.log2 < 1920 ∧ Q (.str (nText t b)) H
theorem c_text_of (T : Tx K mg) : CalX P w K mg base CX0 1 "text_of" sp_text_of [] := by
  refine cal0_of (F_text_of T) (g_text_of T) bd_text_of sc_text_of len1 (fun cdv A outer s H vs Q E hr h => ?_)
  obtain ⟨_, rfl, p, t, b, rfl, hp, ht, hb, q⟩ := h
  refine ⟨_, (pss_one (ps_ret (pe_ifExp (pt_cmpR op_eq (pe_ix ix_tup (pv 0) pe_int (fun _ _ => rfl)) pe_int (nomark _)) (pe_callTy call_str_int (by rfl) (b_str T) (by decide +kernel) (pa_cons (pe_ix ix_tup (pv 0) pe_int (fun _ _ => rfl)) pa_nil)) (pe_joined (.cons (pe_fmt (pe_ix ix_tup (pv 0) pe_int (fun _ _ => rfl))) (.cons pe_str (.cons (pe_fmt (pe_ix ix_tup (pv 0) pe_int (fun _ _ => rfl))) .nil))))))), ?_⟩
  have a : (Str.ofString (toString t)).length ≤ 1921 := iS_len ht
  have c : (Str.ofString (toString b)).length ≤ 1921 := iS_len hb
  have d : (Str.ofString "/").length = 1 := by decide
  walk_at "go"
  refine g_ixT (SqT.of hp) at1 ?_
  walk_at "go"
  refine ifd (fun hc => ?_) (fun hc => ?_)
  · walk_at "go"
    refine g_ixT (SqT.of hp) at0 ?_
    walk_at "go"
    refine ⟨t, rfl, ht, ?_⟩
    unfold nText at q
    rw [if_pos hc] at q
    exact q
  · walk_at "go"
    refine g_ixT (SqT.of hp) at0 ?_
    refine .inr ⟨t, rfl, ht, _, rfl, ?_, ?_⟩
    · rw [Str.empty_append]
      exact big_line (by omega)
    walk_at "go"
    refine ⟨_, rfl, ?_, ?_⟩
    · rw [Str.empty_append, Str.length_append, d]
      exact big_line (by omega)
    walk_at "go"
    refine g_ixT (SqT.of hp) at1 ?_
    refine .inr ⟨b, rfl, hb, _, rfl, ?_, ?_⟩
    · rw [Str.empty_append, Str.length_append, Str.length_append, d]
      exact big_line (by omega)
    walk_at "go"
    unfold nText at q
    rw [if_neg hc] at q
    rw [Str.empty_append]
    exact q
/-! Root -/
def RootAt (K : PySem.W.Frag) (H : Hp) (r : Addr) (e : E4) (d : Nat) : Prop := ∃ dx f, H r = some (.ins (gaK K "Root") dx [("form", .ref f)]) ∧ FormAt H f e d
theorem RootAt.mono {H H' : Hp} {r : Addr} {e : E4} {d : Nat} (h : RootAt K H r e d) (k : Same H H') : RootAt K H' r e d := by
  obtain ⟨dx, f, h1, h2⟩ := h
  exact ⟨dx, f, k _ _ h1, h2.mono k⟩
theorem fl1 {x : Str} {v : V} {r : List (Str × V)} : List.lookup x ((x, v) :: r) = some v := by simp [List.lookup]
def sp_Root_init (K : PySem.W.Frag) : Sp := sp3 fun a b c H Q E => ∃ (x dx p : Addr) (s : Int) (e : E4) (n : Int), a = .ref x ∧ H x = some (.ins (gaK K "Root") dx []) ∧ b = .ref p ∧ c = .int n ∧ NumP H p s e ∧
  (s ≠ 1 → ∀ d H', Same H H' → E (.ref (gaK K "InvalidNumber")) d H') ∧ (s = 1 → ¬ (1 ≤ n ∧ n ≤ 60) → ∀ d H', Same H H' → E (.ref (gaK K "InvalidDegree")) d H') ∧
  (s = 1 → 1 ≤ n → n ≤ 60 → ∀ H' f, Same H H' → FormAt H' f (lfE e n.toNat) (lfN e n.toNat) → Q .non (upd H' x (.ins (gaK K "Root") dx [("form", .ref f)])))
theorem c_Root_init (T : Tx K mg) : MakX P w K mg base (L2.CX P w) 6 "Root" (gaK K "Root") (sp_Root_init K) := by
  refine mak_of (F_Root_init T) (mk_Root T) (gC_Root T) bd_Root_init sc_Root_init len3 (fun cdv A outer s H vs Q E hr h => ?_)
  obtain ⟨_, _, _, rfl, x, dx, p, sg, e, n, rfl, hx, rfl, rfl, hp, q1, q2, q3⟩ := h
  refine ⟨_, (pss_cons (ps_expr (pe_cx (c_check_number T) hr pass0 (pa_cons (pv 1) pa_nil)))
      (pss_cons (ps_if (pt_cmpR op_lt (pe_ix ix_tup (pv 1) pe_int (fun _ _ => rfl)) pe_int (nomark _)) (pss_one (ps_raiseGv rfl T.gv_InvalidNumber hr tX (pa_cons (pv 1) pa_nil))) pss_nil)
      (pss_cons (ps_expr (pe_cx (c_check_degree2 T) hr pX (pa_cons (pv 2) (pa_cons (pe_gk rfl (gi (k_MOST_DEGREE T))) pa_nil))))
      (pss_one (ps_fld (pv 0) (pe_cx (c_least_form T) hr pass0 (pa_cons (pv 1) (pa_cons (pv 2) pa_nil))) rfl))))), ?_⟩
  have sgn := hp.sgn
  walk_at "go"
  refine hp.chk ?_
  walk_at "go"
  refine g_ixT (SqT.of hp.1) at0 ?_
  walk_at "go"
  refine ifd (fun hb => ?_) (fun hb => ?_)
  · have hs := sgn.2.mp hb
    walk_at "go"
    refine g_raiseGv ?_
    walk_at "go"
    exact ⟨_, rfl, fun d H' k => q1 hs d H' k⟩
  · have hs : sg = 1 := Decidable.byContradiction fun z => hb (sgn.2.mpr z)
    subst hs
    walk_at "go"
    refine ⟨_, _, _, rfl, n, 60, 1, rfl, rfl, rfl, fun h1 h2 => ?_, fun h1 d H' k => q2 rfl h1 d H' k⟩
    walk_at "go"
    obtain ⟨n, rfl⟩ := Int.eq_ofNat_of_zero_le (a := n) (by omega)
    have hp1 := hp.1
    rw [Int.one_mul] at hp1
    refine ⟨_, _, rfl, p, e, n, rfl, rfl, hp1, hp.2.2.small, by omega, by omega, fun H1 f k1 hf => ?_⟩
    walk_at "go"
    exact ⟨x, _, dx, [], rfl, k1 _ _ hx, cl_Root T, na_Root_form T, by decide, q3 rfl h1 h2 H1 f k1 hf⟩
def sp_Root_number (K : PySem.W.Frag) : Sp := sp1 fun a H Q _ => ∃ (r : Addr) (e : E4) (d : Nat), a = .ref r ∧ RootAt K H r e d ∧ ∀ p, Num H p (e.tp : Int) (e.bt : Int) → Q (.ref p) H
theorem c_Root_number (T : Tx K mg) : PrpX P w K mg base CX0 1 (gaK K "Root") "number" (sp_Root_number K) := by
  refine prp_of (F_Root_number T) (cl_Root T) T.pr_Root_number bd_Root_number sc_Root_number len1 (bodyX_of fun cdv A outer s H vs Q E hr h => ?_)
  obtain ⟨_, rfl, r, e, d, rfl, ⟨dx, f, h1, nb, h2, h3⟩, q⟩ := h
  refine ⟨_, (pss_one (ps_ret (pe_ix ix_tup (pe_fld (pv 0) rfl) pe_int (fun _ _ => rfl)))), ?_⟩
  walk_at "go"
  refine ⟨r, _, dx, _, .ref f, rfl, h1, cl_Root T, na_Root_form T, fl1, ?_⟩
  walk_at "go"
  refine g_ixT (SqT.of h2) at0 ?_
  exact q nb h3
def sp_Root_degree (K : PySem.W.Frag) : Sp := sp1 fun a H Q _ => ∃ (r : Addr) (e : E4) (d : Nat), a = .ref r ∧ RootAt K H r e d ∧ Q (.int (d : Int)) H
theorem c_Root_degree (T : Tx K mg) : PrpX P w K mg base CX0 1 (gaK K "Root") "degree" (sp_Root_degree K) := by
  refine prp_of (F_Root_degree T) (cl_Root T) T.pr_Root_degree bd_Root_degree sc_Root_degree len1 (bodyX_of fun cdv A outer s H vs Q E hr h => ?_)
  obtain ⟨_, rfl, r, e, d, rfl, ⟨dx, f, h1, nb, h2, h3⟩, q⟩ := h
  refine ⟨_, (pss_one (ps_ret (pe_ix ix_tup (pe_fld (pv 0) rfl) pe_int (fun _ _ => rfl)))), ?_⟩
  walk_at "go"
  refine ⟨r, _, dx, _, .ref f, rfl, h1, cl_Root T, na_Root_form T, fl1, ?_⟩
  walk_at "go"
  refine g_ixT (SqT.of h2) at1 ?_
  exact q
/-! str(root) -/
def rText (e : E4) (d : Nat) : Str := iS (d : Int) ++ Str.ofString " of " ++ nText (e.tp : Int) (e.bt : Int)
theorem log_of {n : Nat} {B : Nat} (h0 : 0 < B) (h : n < 2 ^ B) : (n : Int).natAbs.log2 < B := PySem.Flt.log2_lt_of h0 (nat_bits h)
def sp_Root_str (K : PySem.W.Frag) : Sp := sp1 fun a H Q _ => ∃ (r : Addr) (e : E4) (d : Nat), a = .ref r ∧ RootAt K H r e d ∧ e.tp < 2 ^ 1900 ∧ e.bt < 2 ^ 1900 ∧ d ≤ 60 ∧ Q (.str (rText e d)) H
theorem c_Root_str (T : Tx K mg) : MetX P w K mg base CX0 3 (gaK K "Root") "__str__" (sp_Root_str K) := by
  refine met_of (F_Root_str T) (cl_Root T) (me_Root___str__ T) bd_Root_str sc_Root_str len1 (bodyX_of fun cdv A outer s H vs Q E hr h => ?_)
  obtain ⟨_, rfl, r, e, d, rfl, hroot, ht, hb, hd, q⟩ := h
  obtain ⟨dx, f, h1, _⟩ := id hroot
  refine ⟨_, (pss_one (ps_ret (pe_joined (.cons (pe_fmt (pe_px (c_Root_degree T) hr pass0 (pv 0))) (.cons pe_str (.cons (pe_fmt (pe_cx (c_text_of T) hr pass0 (pa_cons (pe_px (c_Root_number T) hr pass0 (pv 0)) pa_nil))) .nil)))))), ?_⟩
  have lt : (e.tp : Int).natAbs.log2 < 1920 := Nat.lt_trans (log_of (by decide) ht) (by decide)
  have lb : (e.bt : Int).natAbs.log2 < 1920 := Nat.lt_trans (log_of (by decide) hb) (by decide)
  have ld : (d : Int).natAbs.log2 < 1920 := Nat.lt_trans (log_of (B := 6) (by decide) (by omega)) (by decide)
  have c1 : (Str.ofString (toString (d : Int))).length ≤ 1921 := iS_len ld
  have c2 : (Str.ofString " of ").length = 4 := by decide
  have c3 := nText_len lt lb
  walk_at "go"
  refine ⟨r, dx, _, rfl, h1, ?_⟩
  refine ⟨_, rfl, r, e, d, rfl, hroot, ?_⟩
  refine .inr ⟨d, rfl, ld, _, rfl, ?_, ?_⟩
  · rw [Str.empty_append]
    exact big_line (by omega)
  walk_at "go"
  refine ⟨_, rfl, ?_, ?_⟩
  · rw [Str.empty_append, Str.length_append, c2]
    exact big_line (by omega)
  walk_at "go"
  refine ⟨r, dx, _, rfl, h1, ?_⟩
  refine ⟨_, rfl, r, e, d, rfl, hroot, fun nb hn => ?_⟩
  walk_at "go"
  refine ⟨_, rfl, nb, _, _, rfl, hn, lt, lb, ?_⟩
  refine .inl ⟨_, rfl, big_line (by omega), _, rfl, ?_, ?_⟩
  · rw [Str.empty_append, Str.length_append, Str.length_append, c2]
    exact big_line (by omega)
  walk_at "go"
  rw [Str.empty_append]
  exact q
/-! bounded_root, raised -/
def sp_bounded_root (K : PySem.W.Frag) : Sp := sp2 fun a b H Q E => ∃ (p : Addr) (e : E4) (d : Nat), a = .ref p ∧ b = .int (d : Int) ∧ Num H p (e.tp : Int) (e.bt : Int) ∧ 1 ≤ d ∧ d ≤ 60 ∧ Nat.gcd d e.g = 1 ∧
  (¬ (e.tp ≤ 10 ^ 30 ∧ e.bt ≤ 10 ^ 30) → ∀ d H', Same H H' → E (.ref (gaK K "TooGreat")) d H') ∧ (e.tp ≤ 10 ^ 30 → e.bt ≤ 10 ^ 30 → ∀ H' r, Same H H' → RootAt K H' r e d → Q (.ref r) H')
theorem c_bounded_root (T : Tx K mg) : CalX P w K mg base (L2.CX P w) 8 "bounded_root" (sp_bounded_root K) [] := by
  refine cal_of (F_bounded_root T) (g_bounded_root T) bd_bounded_root sc_bounded_root len2 (fun cdv A outer s H vs Q E hr h => ?_)
  obtain ⟨_, _, rfl, p, e, d, rfl, rfl, hp, d1, d2, gc, q1, q2⟩ := h
  refine ⟨_, (pss_cons (ps_if (pt_cmpR op_gt (pv 1) (pe_gk rfl (gi (k_MOST_DEGREE T))) (nomark _)) (pss_one ps_never) pss_nil)
      (pss_cons (ps_if (pt_cmpR op_gt (pe_callB (call_maxP rfl) (by rfl) (b_max T) (by decide +kernel) (pa_cons (pv 0) pa_nil)) (pe_gk rfl (gi (k_MOST_SIZE T))) (nomark _)) (pss_one (ps_raiseGv rfl T.gv_TooGreat hr tX (pa_cons (pe_callB (call_maxP rfl) (by rfl) (b_max T) (by decide +kernel) (pa_cons (pv 0) pa_nil)) pa_nil))) pss_nil)
      (pss_one (ps_ret (pe_mkx (c_Root_init T) hr pX (pa_cons (pv 0) (pa_cons (pv 1) pa_nil))))))), ?_⟩
  have mx : (if (e.bt : Int) > (e.tp : Int) then (e.bt : Int) else (e.tp : Int)) = ((max e.tp e.bt : Nat) : Int) := by
    split <;> omega
  walk_at "go"
  refine ifF (by omega) ?_
  walk_at "go"
  refine ⟨p, _, _, rfl, SqT.of hp, ?_⟩
  rw [mx]
  walk_at "go"
  refine ifd (fun hc => ?_) (fun hc => ?_)
  · walk_at "go"
    refine g_raiseGv ?_
    walk_at "go"
    refine ⟨p, _, _, rfl, SqT.of hp, ?_⟩
    exact ⟨_, rfl, fun d H' k => q1 (by omega) d H' k⟩
  · walk_at "go"
    have h1 : e.tp ≤ 10 ^ 30 := by omega
    have h2 : e.bt ≤ 10 ^ 30 := by omega
    intro x dx hx hdx ne
    have nx : p ≠ x := ne_of_none hp hx
    have ndx : p ≠ dx := ne_of_none hp hdx
    have hp' : Num (upd (upd H dx (.own x)) x (.ins (gaK K "Root") dx [])) p (1 * (e.tp : Int)) (e.bt : Int) := by
      rw [Int.one_mul]
      show upd _ _ _ _ = _
      rw [upd_ne nx, upd_ne ndx]
      exact hp
    refine ⟨_, _, _, rfl, x, dx, p, 1, e, d, rfl, upd_same, rfl, rfl, ⟨hp', .inl rfl, h1, h2⟩, fun z => absurd rfl z, fun _ z => absurd (by omega) z, fun _ _ _ H1 f k1 hf => ⟨rfl, ?_⟩⟩
    rw [Int.toNat_natCast, (lf_same gc).1, (lf_same gc).2] at hf
    have ks : Same H (upd H1 x (.ins (gaK K "Root") dx [("form", .ref f)])) := by
      refine same_mut (fun a o ea => k1 a o ?_) hx
      rw [upd_ne (ne_of_none ea hx), upd_ne (ne_of_none ea hdx)]
      exact ea
    refine q2 h1 h2 _ x ks ⟨dx, f, upd_same, ?_⟩
    obtain ⟨nb, hf1, hf2⟩ := hf
    have hxI := k1 x _ upd_same
    have n1 : f ≠ x := fun z => by rw [z, hxI] at hf1; cases hf1
    have n2 : nb ≠ x := fun z => by rw [z] at hf2; rw [show H1 x = _ from hf2] at hxI; cases hxI
    exact ⟨nb, by rw [upd_ne n1]; exact hf1, by show upd _ _ _ _ = _; rw [upd_ne n2]; exact hf2⟩
end
end PP
-- text WA
namespace PP
open PySem PySem.Spec PyProof.Rows L2
section
variable {P : Program} {w : World} {K : PySem.W.Frag} {mg : Str → Option Value} {base : Heap}
/-! Root.raised -/
def sp_Root_raised (K : PySem.W.Frag) : Sp := sp2 fun a b H Q E => ∃ (r : Addr) (e : E4) (d : Nat) (i : Int), a = .ref r ∧ b = .int i ∧ RootAt K H r e d ∧ Ok30 e ∧ 1 ≤ d ∧ d ≤ 60 ∧ Nat.gcd d e.g = 1 ∧
  (¬ (-20 ≤ i ∧ i ≤ 20) → ∀ d H', Same H H' → E (.ref (gaK K "InvalidDegree")) d H') ∧
  (-20 ≤ i → i ≤ 20 → ¬ ((raisedE e d i).tp ≤ 10 ^ 30 ∧ (raisedE e d i).bt ≤ 10 ^ 30) → ∀ d H', Same H H' → E (.ref (gaK K "TooGreat")) d H') ∧
  (-20 ≤ i → i ≤ 20 → (raisedE e d i).tp ≤ 10 ^ 30 → (raisedE e d i).bt ≤ 10 ^ 30 → ∀ H' r', Same H H' → RootAt K H' r' (raisedE e d i) (raisedN d i) → Q (.ref r') H')
theorem c_Root_raised (T : Tx K mg) : MetX P w K mg base (L2.CX P w) 9 (gaK K "Root") "raised" (sp_Root_raised K) := by
  refine met_of (F_Root_raised T) (cl_Root T) (me_Root_raised T) bd_Root_raised sc_Root_raised len2 (fun cdv A outer s H vs Q E hr h => ?_)
  obtain ⟨_, _, rfl, r, e, d, i, rfl, rfl, hroot, ok, d1, d2, gc, q1, q2, q3⟩ := h
  refine ⟨_, (pss_cons (ps_expr (pe_cx (c_check_degree3 T) hr pX (pa_cons (pv 1) (pa_cons (pe_gk rfl (gi (k_MOST_RAISED T))) (pa_cons (pe_un un_neg (pe_gk rfl (gi (k_MOST_RAISED T)))) pa_nil)))))
      (pss_cons (ps_set (i := 2) sc_Root_raised.nd rfl (Or.inl rfl) (pe_cx (c_common_divisor T) hr pass0 (pa_cons (pe_px (c_Root_degree T) hr pass0 (pv 0)) (pa_cons (pe_callB call_abs (by rfl) (b_abs T) (by decide +kernel) (pa_cons (pv 1) pa_nil)) pa_nil))))
      (pss_cons (ps_set (i := 3) sc_Root_raised.nd rfl (Or.inl rfl) (pe_cx (c_taken T) hr pass0 (pa_cons (pe_px (c_Root_number T) hr pass0 (pv 0)) (pa_cons (pe_op op_fdivW (pe_callB call_abs (by rfl) (b_abs T) (by decide +kernel) (pa_cons (pv 1) pa_nil)) (pv 2)) pa_nil))))
      (pss_one (ps_ret (pe_cx (c_bounded_root T) hr pX (pa_cons (pe_ifExp (pt_cmpR op_ge (pv 1) pe_int (nomark _)) (pv 3) (pe_revT (pv 3))) (pa_cons (pe_op op_fdivW (pe_px (c_Root_degree T) hr pass0 (pv 0)) (pv 2)) pa_nil)))))))), ?_⟩
  obtain ⟨dx, f, h1, _⟩ := id hroot
  have gc' := raised_cop (i := i) d1 gc
  obtain ⟨p1, p2⟩ := raised_pos (i := i) d1
  walk_at "go"
  refine ⟨_, _, _, rfl, i, 20, -20, rfl, rfl, rfl, fun h2 h3 => ?_, fun h2 d H' k => q1 h2 d H' k⟩
  have ea : (if i < 0 then -i else i) = ((i.natAbs : Nat) : Int) := by
    split <;> omega
  have c0 : 0 < Nat.gcd d i.natAbs := Nat.gcd_pos_of_pos_left _ d1
  have c60 : Nat.gcd d i.natAbs ≤ 60 := Nat.le_trans (Nat.le_of_dvd d1 (Nat.gcd_dvd_left _ _)) d2
  have c8 : Nat.gcd d i.natAbs < 2 ^ 8 := by omega
  have c0' : (0 : Int) < ((Nat.gcd d i.natAbs : Nat) : Int) := by omega
  have k20 : i.natAbs / Nat.gcd d i.natAbs ≤ 20 := Nat.le_trans (Nat.div_le_self _ _) (by omega)
  walk_at "go"
  refine ⟨r, dx, _, rfl, h1, ?_⟩
  refine ⟨_, rfl, r, e, d, rfl, hroot, ?_⟩
  walk_at "go"
  refine ⟨i, rfl, ?_⟩
  rw [ea]
  walk_at "go"
  refine ⟨_, _, rfl, d, i.natAbs, rfl, rfl, ?_⟩
  walk_at "go"
  refine ⟨r, dx, _, rfl, h1, ?_⟩
  refine ⟨_, rfl, r, e, d, rfl, hroot, fun nb hn => ?_⟩
  walk_at "go"
  refine ⟨i, rfl, ?_⟩
  rw [ea]
  walk_at "go"
  refine g_I (wide_div (b := 8) c0' (nat_bits c8) (by decide) (by decide)) ?_
  rw [← Int.natCast_ediv]
  refine ⟨_, _, rfl, nb, _, _, i.natAbs / Nat.gcd d i.natAbs, 120, rfl, rfl, hn, nat_bits ok.small.t, nat_bits ok.small.b, by decide, by omega, fun H1 p k1 hp => ?_⟩
  have hroot1 := hroot.mono k1
  have h1' := k1 _ _ h1
  have fin : ∀ (p' : Addr) (H2 : Hp), Same H H2 → Num H2 p' ((raisedE e d i).tp : Int) ((raisedE e d i).bt : Int) → sp_bounded_root K [V.ref p', V.int ((raisedN d i : Nat) : Int)] H2 Q E := fun p' H2 k2 hn2 =>
    ⟨_, _, rfl, p', raisedE e d i, raisedN d i, rfl, rfl, hn2, p1, by omega, gc', fun hb d H' k => q2 h2 h3 hb d H' (Same.trans k2 k), fun b1 b2 H' r' k hr' => q3 h2 h3 b1 b2 H' r' (Same.trans k2 k) hr'⟩
  walk_at "go"
  refine ifd (fun hb => ?_) (fun hb => ?_)
  · obtain ⟨n, rfl⟩ := Int.eq_ofNat_of_zero_le (a := i) hb
    obtain ⟨e1, e2⟩ := raisedE_pos (e := e) (d := d) (n := n)
    rw [Int.natAbs_natCast] at hp
    walk_at "go"
    refine ⟨r, dx, _, rfl, h1', ?_⟩
    refine ⟨_, rfl, r, e, d, rfl, hroot1, ?_⟩
    walk_at "go"
    refine g_I (wide_div (b := 8) c0' (nat_bits c8) (by decide) (by decide)) ?_
    walk_at "go"
    rw [← Int.natCast_ediv]
    refine fin p H1 k1 ?_
    rw [e1, e2, Int.natCast_pow, Int.natCast_pow]
    exact hp
  · obtain ⟨n, rfl⟩ : ∃ n : Nat, i = -(n : Int) := ⟨i.natAbs, by omega⟩
    obtain ⟨e1, e2⟩ := raisedE_neg (e := e) (d := d) (n := n)
    rw [Int.natAbs_neg, Int.natAbs_natCast] at hp
    walk_at "go"
    refine ⟨p, _, _, rfl, SqT.of hp, fun p' hp' => ?_⟩
    walk_at "go"
    have k2 : Same H1 (upd H1 p' (.tup [.int ((e.bt : Int) ^ (n / Nat.gcd d n)), .int ((e.tp : Int) ^ (n / Nat.gcd d n))])) := same_new hp'
    refine ⟨r, dx, _, rfl, k2 _ _ h1', ?_⟩
    refine ⟨_, rfl, r, e, d, rfl, hroot1.mono k2, ?_⟩
    walk_at "go"
    refine g_I (wide_div (b := 8) c0' (nat_bits c8) (by decide) (by decide)) ?_
    walk_at "go"
    rw [← Int.natCast_ediv]
    refine fin p' _ (Same.trans k1 k2) ?_
    rw [e1, e2, Int.natCast_pow, Int.natCast_pow]
    exact upd_same
end
end PP
-- text WB
namespace PP
open PySem PySem.Spec PyProof.Rows L2
section
variable {P : Program} {w : World} {K : PySem.W.Frag} {mg : Str → Option Value} {base : Heap}
/-- the ints of a list -/
def vl (l : List S4) : List V := (l.map fun x => (x.val : Int)).map V.int
theorem vl_get {l : List S4} {i : Nat} {x : V} (h : (vl l)[i]? = some x) : ∃ s, l[i]? = some s ∧ x = .int (s.val : Int) := by
  rw [vl, List.getElem?_map, List.getElem?_map] at h
  cases e : l[i]? with
  | none => rw [e] at h; cases h
  | some s => rw [e] at h; cases h; exact ⟨s, rfl, rfl⟩
theorem vl_len {l : List S4} : (vl l).length = l.length := by rw [vl, List.length_map, List.length_map]
theorem vl_cons {x : S4} {l : List S4} : vl (x :: l) = .int (x.val : Int) :: vl l := rfl
theorem vl_app {l r : List S4} : vl (l ++ r) = vl l ++ vl r := by rw [vl, List.map_append, List.map_append]; rfl
instance (x y : S4) : Decidable (Dj x y) := if h : (x.mn y).val = 1 then .isTrue (S4.val_one (by omega)) else .isFalse fun z => h (by rw [z, S4.val_zero])
theorem dj_gcd {x y : S4} : 1 < Nat.gcd x.val y.val ↔ ¬ Dj x y := by
  rw [S4.val_gcd]
  exact ⟨fun h => S4.gt_zero h, fun h => S4.val_gt h⟩
/-- what a filter picks -/
def picks (p : S4 → Bool) (l : List S4) : List (Option V) := l.map fun x => if p x = true then some (.int (x.val : Int)) else none
theorem picks_len {p : S4 → Bool} {l : List S4} : (picks p l).length = l.length := List.length_map ..
theorem picks_id (p : S4 → Bool) (l : List S4) : (picks p l).filterMap id = vl (l.filter p) := by
  induction l with
  | nil => rfl
  | cons x r ih =>
    unfold picks at ih ⊢
    by_cases h : p x = true
    · rw [List.map_cons, if_pos h, List.filter_cons_of_pos h, vl_cons]
      show V.int _ :: _ = V.int _ :: _
      rw [ih]
    · rw [List.map_cons, if_neg h, List.filter_cons_of_neg h]
      exact ih
theorem picks_get {p : S4 → Bool} {l : List S4} {i : Nat} {s : S4} {k : Option V} (h : l[i]? = some s) (hk : (picks p l)[i]? = some k) : k = if p s = true then some (.int (s.val : Int)) else none := by
  rw [picks, List.getElem?_map, h] at hk
  cases hk
  rfl
/-! refined -/
def sp_refined : Sp := sp1 fun a H Q _ => ∃ (p : Addr) (vals : List S4) (B : Nat), a = .ref p ∧ H p = some (.lst (vl vals)) ∧ totS vals ≤ 1000 ∧ vals.length ≤ 20 ∧ (∀ x ∈ vals, x.val ≤ B) ∧ ∀ F H' p', Rf vals F [] → totS F ≤ 1000 → (∀ x ∈ F, x.val ≤ B) → Same H H' → H' p' = some (.lst (vl F)) → Q (.ref p') H'
theorem c_refined (T : Tx K mg) : CalX P w K mg base CX0 2 "refined" sp_refined [] := by
  refine cal0_of (F_refined T) (g_refined T) bd_refined sc_refined len1 (fun cdv A outer s H vs Q E hr h => ?_)
  obtain ⟨_, rfl, p, vals, B, rfl, hp, t1, l1, bB0, q⟩ := h
  refine ⟨_, (pss_cons (ps_par (i := 1) (j := 2) (by rfl) sc_refined.nd rfl rfl (by decide) rfl rfl (pa_cons (pe_lst pa_nil) (pa_cons (pe_callTy call_list_of (by rfl) (b_list T) (by decide +kernel) (pa_cons (pv 0) pa_nil)) pa_nil)) (by rfl))
      (pss_cons (ps_while PassesOwn.never (pt_cmpR (op_neD hr.units) (pv 2) (pe_lst pa_nil) (nomark _)) (pss_cons (ps_asg (pv 2) (pg_star1 (i := 3) (j := 2) rfl sc_refined.nd rfl rfl (Or.inr rfl) rfl))
      (pss_cons (ps_set (i := 4) sc_refined.nd rfl (Or.inr rfl) (pe_lc (own := [("other", 6)]) rfl sc_refined.nd (pi_list (pv 1)) (blkOk_by (own := [("other", 6)]) (N := N_refined) (sc := defScope s_refined) (by decide +kernel)) (fun _ _ _ _ _ => (pg_name (i := 6) sc_refined.nd rfl (Or.inl rfl))) (fun _ _ _ _ _ => (pts_one (pt_cmpR op_gt (pe_cx (c_common_divisor T) hr pass0 (pa_cons (pv 3) (pa_cons (pv 6) pa_nil))) pe_int (nomark _)))) (fun _ _ _ _ _ => (pv 6))))
      (pss_one (ps_if (pt_cmpR (op_neD hr.units) (pv 4) (pe_lst pa_nil) (nomark _)) (pss_cons (ps_set (i := 5) sc_refined.nd rfl (Or.inl rfl) (pe_cx (c_common_divisor T) hr pass0 (pa_cons (pv 3) (pa_cons (pe_ix ix_list (pv 4) pe_int (fun _ _ => rfl)) pa_nil))))
      (pss_cons (ps_setLc (i := 1) (own := [("other", 6)]) rfl sc_refined.nd rfl rfl (sw_true rfl rfl rfl (by decide +kernel)) (pi_list (pv 1)) (blkOk_by (own := [("other", 6)]) (N := N_refined) (sc := defScope s_refined) (by decide +kernel)) (fun _ _ _ _ _ => (pg_name (i := 6) sc_refined.nd rfl (Or.inl rfl))) (fun _ _ _ _ _ => (pts_one (pt_cmpR op_ne (pv 6) (pe_ix (show IxR _ (rIxL K) from ix_list) (pv 4) pe_int (fun _ _ => rfl)) (nomark _)))) (fun _ _ _ _ _ => (pv 6)))
      (pss_one (ps_set (i := 2) sc_refined.nd rfl (Or.inl rfl) (pe_lst (pa_cons (pe_op op_fdivW (pv 3) (pv 5)) (pa_cons (pe_op op_fdivW (pe_ix ix_list (pv 4) pe_int (fun _ _ => rfl)) (pv 5)) (pa_cons (pv 5) (StX.pa_star (pv 2) pa_nil))))))))) (pss_one (ps_if (pt_cmpR op_gt (pv 3) pe_int (nomark _)) (pss_one (ps_set (i := 1) sc_refined.nd rfl (Or.inl rfl) (pe_lst (StX.pa_star (pv 1) (pa_cons (pv 3) pa_nil))))) pss_nil)))))))
      (pss_one (ps_ret (pv 1))))), ?_⟩
  walk_at "go"
  refine mkT fun L hL => ?_
  have nLp : p ≠ L := ne_of_none hp hL
  walk_at "go"
  refine ⟨p, _, rfl, .inl (SqL.of (by rw [upd_ne nLp]; exact hp)), fun M hM => ?_⟩
  have nML : M ≠ L := fun z => by rw [z, upd_same] at hM; cases hM
  have hMH : H M = none := by
    rw [upd_ne nML] at hM
    exact hM
  walk_at "go"
  refine g_while (fun m σ' H' => Same H H' ∧ ∃ (L M : Addr) (found left : List S4) (v1 v2 v3 v4 : Option V), m = left.length + 3 * (totS found + totS left) ∧ σ' = [some (.ref p), some (.ref L), some (.ref M), v1, v2, v3, v4] ∧
      H' L = some (.lst (vl found)) ∧ H' M = some (.lst (vl left)) ∧ Rf vals found left ∧ totS found + totS left ≤ 1000 ∧ left.length + 2 * (totS found + totS left) ≤ 2020 ∧ (∀ x ∈ found, x.val ≤ B) ∧ ∀ x ∈ left, x.val ≤ B) _
    ⟨Same.trans (same_new hL) (same_new hM), L, M, [], vals, none, none, none, none, rfl, rfl, by rw [upd_ne (Ne.symm nML), upd_same]; rfl, upd_same, Rf.start, by simp only [totS]; omega, by simp only [totS]; omega, fun x h => (List.not_mem_nil h).elim, bB0⟩ ?_
  rintro m σ' H' ⟨k, L, M, found, left, v1, v2, v3, v4, rfl, rfl, hL, hM, rf, tt, ll, fB, lB⟩
  walk_at "go"
  refine mkT fun Z hZ => ?_
  walk_at "go"
  have k1 : Same H' (upd H' Z (.lst [])) := same_new hZ
  refine g_neNil (k1 _ _ hM) upd_same ?_
  walk_at "go"
  have hL1 := k1 _ _ hL
  have hM1 := k1 _ _ hM
  have kk1 := Same.trans k k1
  generalize upd H' Z (.lst []) = H1 at hL1 hM1 kk1
  refine ifd (fun hb => g_turn ?_) (fun hb => ?_)
  · cases left with
    | nil => exact absurd rfl hb
    | cons v r =>
    have lf : found.length ≤ 1000 := Nat.le_trans (len_totS rf.nz) (by omega)
    have lr : r.length ≤ 2019 := by
      rw [List.length_cons] at ll
      omega
    walk_at "go"
    refine g_star1 (SqL.of (by rw [hM1, vl_cons])) (by rw [vl_len]; omega) fun R hR => ?_
    have k2 : Same H1 (upd H1 R (.lst (vl r))) := same_new hR
    have hL2 := k2 _ _ hL1
    have hR2 : upd H1 R (.lst (vl r)) R = some (.lst (vl r)) := upd_same
    have kk2 := Same.trans kk1 k2
    generalize upd H1 R (.lst (vl r)) = H2 at hL2 hR2 kk2
    walk_at "go"
    refine ⟨L, rfl, ⟨_, SqL.of hL2⟩, fun D hD => lc_goL (picks (fun x => decide (¬ Dj v x)) found) (SqL.of hL2) (by rw [vl_len, picks_len]) hD (by rw [picks_len]; omega) (fun i x o H3 hx hk k3 Rr hRr => ?_) (fun H3 k3 hD3 => ?_)⟩
    · obtain ⟨y, hy, rfl⟩ := vl_get hx
      have ek := picks_get hy hk
      subst ek
      walk_at "go"
      refine ⟨rfl, ?_⟩
      walk_at "go"
      refine ⟨_, _, rfl, v.val, y.val, rfl, rfl, ?_⟩
      walk_at "go"
      have hg := dj_gcd (x := v) (y := y)
      refine ifd (fun hc => ?_) (fun hc => ?_)
      · have hc' : ¬ Dj v y := hg.mp (by omega)
        walk_at "go"
        have := hRr H3 (Same.refl H3)
        rw [if_pos (by simpa using hc')] at this
        exact this
      · have hc' : Dj v y := Decidable.byContradiction fun z => hc (by have := hg.mpr z; omega)
        have := hRr H3 (Same.refl H3)
        rw [if_neg (by simpa using hc')] at this
        exact this
    · rw [picks_id] at hD3
      have kk3 := Same.trans kk2 k3
      have hL3 := k3 _ _ hL2
      have hR3 := k3 _ _ hR2
      walk_at "go"
      refine mkT fun Y hY => ?_
      walk_at "go"
      have k4 : Same H3 (upd H3 Y (.lst [])) := same_new hY
      refine g_neNil (k4 _ _ hD3) upd_same ?_
      walk_at "go"
      have hL4 := k4 _ _ hL3
      have hD4 := k4 _ _ hD3
      have hR4 := k4 _ _ hR3
      have kk4 := Same.trans kk3 k4
      generalize upd H3 Y (.lst []) = H4 at hL4 hR4 hD4 kk4
      generalize eS : found.filter (fun x => decide (¬ Dj v x)) = S at hD4 hD3
      refine ifd (fun hc => ?_) (fun hc => ?_)
      · cases S with
        | nil => exact absurd rfl hc
        | cons sh S =>
        have hsh : sh ∈ found ∧ ¬ Dj v sh := by
          have : sh ∈ found.filter (fun x => decide (¬ Dj v x)) := by rw [eS]; exact List.mem_cons_self ..
          obtain ⟨h1, h2⟩ := List.mem_filter.mp this
          exact ⟨h1, by simpa using h2⟩
        have hsp := hsh.2
        have tb : totS found + totS (v :: r) ≤ 1000 := tt
        have sm1 := totS_mem hsh.1
        have vb : v.tot ≤ 1000 := by
          rw [totS] at tb
          omega
        have shb : sh.tot ≤ 1000 := by omega
        have mb : (v.mn sh).tot ≤ 1000 := Nat.le_trans (by simp only [S4.tot, S4.mn]; omega) vb
        have m0 : (0 : Int) < ((v.mn sh).val : Int) := by have := S4.val_pos (x := v.mn sh); omega
        walk_at "go"
        refine g_ixL (SqL.of hD4) at0 ?_
        walk_at "go"
        refine ⟨_, _, rfl, v.val, sh.val, rfl, rfl, ?_⟩
        rw [S4.val_gcd]
        walk_at "go"
        refine ⟨L, rfl, ⟨_, SqL.of hL4⟩, fun D2 hD2 => lc_goL (picks (fun x => decide (x.val ≠ sh.val)) found) (SqL.of hL4) (by rw [vl_len, picks_len]) hD2 (by rw [picks_len]; omega) (fun i x o H5 hx hk k5 Rr hRr => ?_) (fun H5 k5 hD5 => ?_)⟩
        · obtain ⟨y, hy, rfl⟩ := vl_get hx
          have ek := picks_get hy hk
          subst ek
          walk_at "go"
          refine ⟨rfl, ?_⟩
          walk_at "go"
          refine g_ixL (SqL.of (k5 _ _ hD4)) at0 ?_
          walk_at "go"
          refine ifn (fun hc => ?_) (fun hc => ?_)
          · walk_at "go"
            have := hRr H5 (Same.refl H5)
            rw [if_pos (by simpa using fun z : y.val = sh.val => hc (by rw [z]))] at this
            exact this
          · have hc' : y.val = sh.val := Int.ofNat_inj.mp hc
            have := hRr H5 (Same.refl H5)
            rw [if_neg (by simpa using hc')] at this
            exact this
        · rw [picks_id] at hD5
          have hR5 := k5 _ _ hR4
          have hSh5 := k5 _ _ hD4
          walk_at "go"
          have bc : ((v.mn sh).val : Int).natAbs < 2 ^ 3001 := nat_bits (S4.val_lt mb)
          refine g_I (wide_div (b := 3001) m0 bc (by decide) (by decide)) ?_
          rw [← Int.natCast_ediv, S4.val_subL]
          walk_at "go"
          refine g_ixL (SqL.of hSh5) at0 ?_
          walk_at "go"
          refine g_I (wide_div (b := 3001) m0 bc (by decide) (by decide)) ?_
          rw [← Int.natCast_ediv, S4.val_subR]
          walk_at "go"
          refine ⟨R, _, rfl, .inr (SqL.of hR5), ?_⟩
          walk_at "go"
          have st := split_tot (left := r) (p := fun x => decide (x.val ≠ sh.val)) hsh.1 (by simp) hsp
          have rf2 := Rf.split (p := fun x => decide (x.val ≠ sh.val)) (s := sh) rf (fun x hx h => S4.val_inj (by simpa using h))
          refine ⟨?_, fun N hN => ?_⟩
          · show (vl r ++ []).length + 1 + 1 + 1 ≤ sizeLine
            rw [List.append_nil, vl_len]
            exact Nat.le_trans (Nat.add_le_add_right lr 3) (by decide)
          walk_at "go"
          have k6 : Same H5 (upd H5 N (.lst (vl (v.sub (v.mn sh) :: sh.sub (v.mn sh) :: v.mn sh :: r)))) := same_new hN
          rw [List.append_nil]
          refine ⟨(v.sub (v.mn sh) :: sh.sub (v.mn sh) :: v.mn sh :: r).length + 3 * (totS (found.filter (fun x => decide (x.val ≠ sh.val))) + totS (v.sub (v.mn sh) :: sh.sub (v.mn sh) :: v.mn sh :: r)), ?_, Same.trans kk4 (Same.trans k5 k6), D2, N, _, _, _, _, _, _, rfl, rfl, k6 _ _ hD5, upd_same, rf2, by omega, ?_, fun x hx => fB x (List.mem_filter.mp hx).1, fun x hx => ?_⟩
          · simp only [List.length_cons]
            omega
          · simp only [List.length_cons] at ll ⊢
            omega
          · have v1 := lB v (List.mem_cons_self ..)
            have s1 := fB sh hsh.1
            rcases List.mem_cons.mp hx with z | z
            · rw [z, ← S4.val_subL]
              exact Nat.le_trans (Nat.div_le_self _ _) v1
            · rcases List.mem_cons.mp z with z | z
              · rw [z, ← S4.val_subR]
                exact Nat.le_trans (Nat.div_le_self _ _) s1
              · rcases List.mem_cons.mp z with z | z
                · rw [z, ← S4.val_gcd]
                  exact Nat.le_trans (Nat.le_of_dvd S4.val_pos (Nat.gcd_dvd_left _ _)) v1
                · exact lB x (List.mem_cons_of_mem _ z)
      · have hS : S = [] := by
          cases S with
          | nil => rfl
          | cons x y => exact absurd (by simp) hc
        subst hS
        have hd : ∀ x ∈ found, Dj v x := fun x hx => Decidable.byContradiction fun z => by
          have : x ∈ found.filter (fun x => decide (¬ Dj v x)) := List.mem_filter.mpr ⟨hx, by simpa using z⟩
          rw [eS] at this
          exact List.not_mem_nil this
        walk_at "go"
        refine ifd (fun hv => ?_) (fun hv => ?_)
        · have hv0 : v ≠ .zero := S4.gt_zero (by omega)
          have rf2 := rf.push hv0 hd
          walk_at "go"
          refine ⟨L, _, rfl, .inr (SqL.of hL4), ?_⟩
          walk_at "go"
          refine ⟨?_, fun N hN => ?_⟩
          · rw [List.length_append, vl_len]
            exact Nat.le_trans (Nat.add_le_add_right lf 1) (by decide)
          walk_at "go"
          have k6 : Same H4 (upd H4 N (.lst (vl found ++ [.int (v.val : Int)]))) := same_new hN
          refine ⟨r.length + 3 * (totS (found ++ [v]) + totS r), ?_, Same.trans kk4 k6, N, R, found ++ [v], r, _, _, _, _, rfl, rfl, ?_, k6 _ _ hR4, rf2, ?_, ?_, fun x hx => ?_, fun x hx => lB x (List.mem_cons_of_mem _ hx)⟩
          · rw [totS_app]
            simp only [totS, List.length_cons]
            omega
          · rw [upd_same, vl_app]
            rfl
          · rw [totS_app]
            simp only [totS] at tt ⊢
            omega
          · rw [totS_app]
            simp only [totS, List.length_cons] at ll ⊢
            omega
          · rcases List.mem_append.mp hx with z | z
            · exact fB x z
            · rw [List.mem_singleton.mp z]
              exact lB v (List.mem_cons_self ..)
        · have hv0 : v = .zero := S4.val_one (by omega)
          subst hv0
          have rf2 := rf.skip
          walk_at "go"
          refine ⟨r.length + 3 * (totS found + totS r), ?_, kk4, L, R, found, r, _, _, _, _, rfl, rfl, hL4, hR4, rf2, ?_, ?_, fB, fun x hx => lB x (List.mem_cons_of_mem _ hx)⟩
          · simp only [totS, List.length_cons]
            omega
          · simp only [totS] at tt
            omega
          · simp only [totS, List.length_cons] at ll
            omega
  · cases left with
    | nil =>
      walk_at "go"
      exact q found H1 L rf (by simp only [totS] at tt; omega) fB kk1 hL1
    | cons v r => exact absurd (by simp) hb
end
end PP
-- text WC
namespace PP
open PySem PySem.Spec PyProof.Rows L2
section
variable {P : Program} {w : World} {K : PySem.W.Frag} {mg : Str → Option Value} {base : Heap}
/-! unpowered -/
def sp_unpowered : Sp := sp1 fun a H Q _ => ∃ x : S4, a = .int (x.val : Int) ∧ x ≠ .zero ∧ x.val ≤ 10 ^ 30 ∧ ∀ (y : S4) (k : Nat), 1 ≤ k → x = .smul k y → y.gx = 1 → Q (.int (y.val : Int)) H
theorem c_unpowered (T : Tx K mg) : CalX P w K mg base CX0 4 "unpowered" sp_unpowered [] := by
  refine cal0_of (F_unpowered T) (g_unpowered T) bd_unpowered sc_unpowered len1 (fun cdv A outer s H vs Q E hr h => ?_)
  obtain ⟨_, rfl, x, rfl, x0, xb, q⟩ := h
  refine ⟨_, (pss_cons (ps_set (i := 1) sc_unpowered.nd rfl (Or.inl rfl) pe_int)
      (pss_cons (ps_while PassesOwn.never (pt_cmpR op_le (pe_cx (c_power_of T) hr pass0 (pa_cons pe_int (pa_cons (pv 1) pa_nil))) (pv 0) (nomark _)) (pss_one (ps_if (pt_val (pe_cx (c_is_power T) hr pass0 (pa_cons (pv 0) (pa_cons (pv 1) pa_nil)))) (pss_one (ps_set (i := 0) sc_unpowered.nd rfl (Or.inl rfl) (pe_cx (c_floor_root T) hr pass0 (pa_cons (pv 0) (pa_cons (pv 1) pa_nil))))) (pss_one (ps_aug (i := 1) sc_unpowered.nd rfl (Or.inl rfl) pe_int ip_add)))))
      (pss_one (ps_ret (pv 0))))), ?_⟩
  walk_at "go"
  refine g_while (fun m σ' H' => H' = H ∧ ∃ (y : S4) (k p : Nat), m = 2 * y.val + (200 - p) ∧ σ' = [some (.int (y.val : Int)), some (.int (p : Int))] ∧ 1 ≤ k ∧ x = .smul k y ∧ y ≠ .zero ∧ y.val ≤ 10 ^ 30 ∧ 2 ≤ p ∧ p ≤ 150 ∧ ∀ j, 2 ≤ j → j < p → ¬ j ∣ y.gx) _
    ⟨rfl, x, 1, 2, rfl, rfl, by decide, S4.smul_one.symm, x0, xb, by decide, by decide, fun j h1 h2 => absurd h1 (by omega)⟩ ?_
  rintro m σ' H' ⟨rfl, y, k, p, rfl, rfl, k1, xy, y0, yb, p2, p150, old⟩
  have yl : y.val < 2 ^ 120 := Nat.lt_of_le_of_lt yb (by decide)
  have p1 : 1 ≤ p := by omega
  have p250 : p ≤ 250 := by omega
  walk_at "go"
  refine ⟨_, _, rfl, 2, p, 2, rfl, rfl, by decide, by decide, by omega, ?_⟩
  walk_at "go"
  have ep : ((2 : Int) ^ p) = ((2 ^ p : Nat) : Int) := by rw [Int.natCast_pow]; rfl
  rw [ep]
  refine ifd (fun hb => g_turn ?_) (fun hb => ?_)
  · have hb' : 2 ^ p ≤ y.val := Int.ofNat_le.mp hb
    have p120 : p < 120 := (Nat.pow_lt_pow_iff_right (a := 2) (by decide)).mp (Nat.lt_of_le_of_lt hb' yl)
    walk_at "go"
    refine ⟨_, _, rfl, y.val, p, rfl, rfl, lt250 yl, p1, p250, fun b hbb => ?_⟩
    rw [S4.is_root p1] at hbb
    refine ⟨_, rfl, ?_⟩
    cases b with
    | true =>
      have hd := hbb.mp rfl
      refine iteT ?_
      walk_at "go"
      refine ⟨_, _, rfl, y.val, p, rfl, rfl, lt250 yl, p1, p250, fun r h1 h2 => ?_⟩
      have er := root_eq p1 h1 h2 (S4.root_val hd)
      subst er
      have dn := S4.dv_nz y0 hd
      have dg := S4.val_gt dn
      have dl : (y.dv p).val < y.val := by
        have h3 : (y.dv p).val ^ 1 < (y.dv p).val ^ p := Nat.pow_lt_pow_right dg (by omega)
        rw [Nat.pow_one, S4.root_val hd] at h3
        exact h3
      walk_at "go"
      refine ⟨2 * (y.dv p).val + (200 - p), by omega, rfl, y.dv p, k * p, p, rfl, rfl, Nat.mul_pos k1 p1, ?_, dn, by omega, p2, p150, fun j j2 jp hj => old j j2 jp (Nat.dvd_trans hj (S4.gx_dv hd))⟩
      rw [← S4.smul_smul, S4.smul_dv hd]
      exact xy
    | false =>
      have hd : ¬ p ∣ y.gx := fun z => absurd (hbb.mpr z) (by decide)
      refine iteF ?_
      walk_at "go"
      refine ⟨2 * y.val + (200 - (p + 1)), by omega, rfl, y, k, p + 1, rfl, rfl, k1, xy, y0, yb, by omega, by omega, fun j j2 jp => ?_⟩
      rcases Nat.lt_or_ge j p with z | z
      · exact old j j2 z
      · have : j = p := by omega
        rw [this]
        exact hd
  · have hb' : y.val < 2 ^ p := Nat.lt_of_not_le fun z => hb (Int.ofNat_le.mpr z)
    walk_at "go"
    exact q y k k1 xy (S4.gx_one y0 old hb')
/-! times_in -/
def sp_times_in : Sp := sp2 fun a b H Q _ => ∃ (v u k r : Nat), a = .int (v : Int) ∧ b = .int (u : Int) ∧ v = u ^ k * r ∧ ¬ u ∣ r ∧ 2 ≤ u ∧ u < 2 ^ 120 ∧ Q (.int (k : Int)) H
theorem c_times_in (T : Tx K mg) : CalX P w K mg base CX0 1 "times_in" sp_times_in [] := by
  refine cal0_of (F_times_in T) (g_times_in T) bd_times_in sc_times_in len2 (fun cdv A outer s H vs Q E hr h => ?_)
  obtain ⟨_, _, rfl, v, u, k, r, rfl, rfl, e, hn, u2, ub, q⟩ := h
  refine ⟨_, (pss_cons (ps_set (i := 2) sc_times_in.nd rfl (Or.inl rfl) pe_int)
      (pss_cons (ps_while PassesOwn.never (pt_cmpR op_eq (pe_op op_mod (pv 0) (pv 1)) pe_int (nomark _)) (pss_one (ps_par (i := 0) (j := 2) (by rfl) sc_times_in.nd rfl rfl (by decide) rfl rfl (pa_cons (pe_op op_fdivW (pv 0) (pv 1)) (pa_cons (pe_op op_add (pv 2) pe_int) pa_nil)) (by rfl))))
      (pss_one (ps_ret (pv 2))))), ?_⟩
  walk_at "go"
  have u0 : (0 : Int) < (u : Int) := by omega
  refine g_while (fun m σ' H' => H' = H ∧ ∃ i : Nat, i + m = k ∧ σ' = [some (.int ((u ^ m * r : Nat) : Int)), some (.int (u : Int)), some (.int (i : Int))]) k ⟨rfl, 0, by omega, by rw [← e]; rfl⟩ ?_
  rintro m σ' H' ⟨rfl, i, hi, rfl⟩
  walk_at "go"
  refine g_I (by omega) ?_
  walk_at "go"
  rw [← Int.natCast_emod]
  refine ifd (fun hb => ?_) (fun hb => ?_)
  · have hd : u ∣ u ^ m * r := Nat.dvd_of_mod_eq_zero (Int.ofNat_inj.mp hb)
    cases m with
    | zero => exact absurd (by simpa using hd) hn
    | succ m =>
      refine g_turn ?_
      walk_at "go"
      refine g_I (wide_div (b := 120) u0 (nat_bits ub) (by decide) (by decide)) ?_
      walk_at "go"
      refine ⟨m, by omega, rfl, i + 1, by omega, ?_⟩
      have e2 : u ^ (m + 1) * r / u = u ^ m * r := by
        rw [Nat.pow_succ, Nat.mul_right_comm, Nat.mul_div_cancel _ (by omega)]
      rw [← Int.natCast_ediv, e2]
      rfl
  · have hd : ¬ u ∣ u ^ m * r := fun z => hb (by rw [Nat.mod_eq_zero_of_dvd z]; rfl)
    have m0 : m = 0 := by
      cases m with
      | zero => rfl
      | succ m => exact absurd (by rw [Nat.pow_succ]; exact Nat.dvd_mul_right_of_dvd (Nat.dvd_mul_left u _) r) hd
    walk_at "go"
    have : i = k := by omega
    rw [this]
    exact q
/-! powers_in -/
/-- the differences of two lists -/
def difs (cs ds : List Nat) : List Int := (cs.zip ds).map fun x => (x.1 : Int) - (x.2 : Int)
theorem difs_len {cs ds : List Nat} {n : Nat} (h1 : cs.length = n) (h2 : ds.length = n) : (difs cs ds).length = n := by
  unfold difs
  rw [List.length_map, List.length_zip, h1, h2, Nat.min_self]
theorem times_fit {bs : List S4} {cs : List Nat} {i : Nat} {b : S4} {c : Nat} {H : Hp} {Q : VK} {E : XK} (hd : bs.Pairwise Dj) (hb : bs[i]? = some b) (hc : cs[i]? = some c) (hz : b ≠ .zero) (hl : b.val < 2 ^ 120) (q : Q (.int (c : Int)) H) :
    sp_times_in [.int ((comb cs bs).val : Int), .int (b.val : Int)] H Q E := by
  obtain ⟨r, e, d⟩ := coef_at hd hb hc
  refine ⟨_, _, rfl, (comb cs bs).val, b.val, c, r.val, rfl, rfl, ?_, d.not_dvd hz, S4.val_gt hz, hl, q⟩
  rw [e, S4.val_add, S4.val_smul]
def sp_powers_in : Sp := sp2 fun a b H Q _ => ∃ (p l : Addr) (bs : List S4) (cs ds : List Nat), a = .ref p ∧ b = .ref l ∧ Num H p ((comb cs bs).val : Int) ((comb ds bs).val : Int) ∧ H l = some (.lst (vl bs)) ∧ bs.Pairwise Dj ∧ (∀ b ∈ bs, b ≠ .zero ∧ b.val < 2 ^ 120) ∧ bs.length ≤ 1000 ∧ cs.length = bs.length ∧ ds.length = bs.length ∧
  ∀ H' p', Same H H' → H' p' = some (.lst ((difs cs ds).map V.int)) → Q (.ref p') H'
theorem c_powers_in (T : Tx K mg) : CalX P w K mg base CX0 2 "powers_in" sp_powers_in [] := by
  refine cal0_of (F_powers_in T) (g_powers_in T) bd_powers_in sc_powers_in len2 (fun cdv A outer s H vs Q E hr h => ?_)
  obtain ⟨_, _, rfl, p, l, bs, cs, ds, rfl, rfl, hp, hl, dj, bz, bl, lc, ld, q⟩ := h
  refine ⟨_, (pss_one (ps_ret (pe_lc (own := [("base", 2)]) rfl sc_powers_in.nd (pi_list (pv 1)) (blkOk_by (own := [("base", 2)]) (N := N_powers_in) (sc := defScope s_powers_in) (by decide +kernel)) (fun _ _ _ _ _ => (pg_name (i := 2) sc_powers_in.nd rfl (Or.inl rfl))) (fun _ _ _ _ _ => pts_nil) (fun _ _ _ _ _ => (pe_op op_sub (pe_cx (c_times_in T) hr pass0 (pa_cons (pe_ix (show IxR _ (rIxT K) from ix_tup) (pv 0) pe_int (fun _ _ => rfl)) (pa_cons (pv 2) pa_nil))) (pe_cx (c_times_in T) hr pass0 (pa_cons (pe_ix (show IxR _ (rIxT K) from ix_tup) (pv 0) pe_int (fun _ _ => rfl)) (pa_cons (pv 2) pa_nil)))))))), ?_⟩
  walk_at "go"
  refine ⟨l, rfl, ⟨_, SqL.of hl⟩, fun D hD => lc_goL ((difs cs ds).map fun z => some (.int z)) (SqL.of hl) (by rw [vl_len, List.length_map, difs_len lc ld]) hD (by rw [List.length_map, difs_len lc ld]; omega) (fun i x o H3 hx hk k3 Rr hRr => ?_) (fun H3 k3 hD3 => ?_)⟩
  · obtain ⟨b, hb, rfl⟩ := vl_get hx
    have il : i < bs.length := (List.getElem?_eq_some_iff.mp hb).1
    obtain ⟨c, hc⟩ : ∃ c, cs[i]? = some c := ⟨_, List.getElem?_eq_getElem (by omega)⟩
    obtain ⟨d, hd⟩ : ∃ d, ds[i]? = some d := ⟨_, List.getElem?_eq_getElem (by omega)⟩
    have ez : (cs.zip ds)[i]? = some (c, d) := List.getElem?_zip_eq_some.mpr ⟨hc, hd⟩
    have ek : o = some (.int ((c : Int) - (d : Int))) := by
      rw [List.getElem?_map, difs, List.getElem?_map, ez] at hk
      cases hk
      rfl
    subst ek
    obtain ⟨b1, b2⟩ := bz b (List.mem_of_getElem? hb)
    have hp3 : Num H3 p ((comb cs bs).val : Int) ((comb ds bs).val : Int) := k3 _ _ hp
    walk_at "go"
    refine ⟨rfl, ?_⟩
    walk_at "go"
    refine iteT ?_
    walk_at "go"
    refine g_ixT (SqT.of hp3) at0 ?_
    walk_at "go"
    refine times_fit dj hb hc b1 b2 ?_
    walk_at "go"
    refine g_ixT (SqT.of hp3) at1 ?_
    walk_at "go"
    refine times_fit dj hb hd b1 b2 ?_
    walk_at "go"
    exact hRr H3 (Same.refl H3)
  · have e1 : ((difs cs ds).map fun z => some (V.int z)).filterMap id = (difs cs ds).map V.int := by
      rw [List.filterMap_map]
      exact List.filterMap_eq_map (f := fun z : Int => V.int z) ▸ rfl
    rw [e1] at hD3
    exact q H3 D k3 hD3
end
end PP
-- text WD
namespace PP
open PySem PySem.Spec PyProof.Rows L2
section
variable {P : Program} {w : World} {K : PySem.W.Frag} {mg : Str → Option Value} {base : Heap}
def prm (x : S4) : S4 := x.dv x.gx
theorem prm_smul (x : S4) : S4.smul x.gx (prm x) = x := S4.smul_dv (Nat.dvd_refl _)
theorem gx_smul {k : Nat} {y : S4} : (S4.smul k y).gx = k * y.gx := by
  unfold S4.gx S4.smul
  simp only [Nat.gcd_mul_left]
theorem prm_of {x y : S4} {k : Nat} (hk : 1 ≤ k) (h : x = .smul k y) (hy : y.gx = 1) : y = prm x := by
  subst h
  unfold prm
  rw [gx_smul, hy, Nat.mul_one]
  exact S4.ext' (Nat.mul_div_cancel_left _ hk).symm (Nat.mul_div_cancel_left _ hk).symm (Nat.mul_div_cancel_left _ hk).symm (Nat.mul_div_cancel_left _ hk).symm
theorem prm_gx {x : S4} (h : x ≠ .zero) : (prm x).gx = 1 := by
  have h1 := gx_smul (k := x.gx) (y := prm x)
  rw [prm_smul] at h1
  have h0 : 0 < x.gx := Nat.pos_of_ne_zero fun z => h (S4.gx_zero z)
  exact Nat.eq_of_mul_eq_mul_left h0 (by rw [Nat.mul_one]; exact h1.symm)
theorem gx_pos {x : S4} (h : x ≠ .zero) : 1 ≤ x.gx := Nat.pos_of_ne_zero fun z => h (S4.gx_zero z)
theorem Rf.bases {vals F : List S4} (h : Rf vals F []) : Bases vals (F.map prm) := by
  refine ⟨?_, fun b hb => ?_, fun x hx => Mon.mono (fun y hy => ?_) (h.mon x hx)⟩
  · refine List.pairwise_map.mpr (List.Pairwise.imp_of_mem (fun {a b} ha hb q => ?_) h.dj)
    refine Dj.smulL (gx_pos (h.nz a ha)) (Dj.smulR (gx_pos (h.nz b hb)) ?_)
    rw [prm_smul, prm_smul]
    exact q
  · obtain ⟨x, hx, rfl⟩ := List.mem_map.mp hb
    exact prm_gx (h.nz x hx)
  · rw [List.append_nil] at hy
    have := (Mon.one (L := F.map prm) (List.mem_map_of_mem hy)).times y.gx
    rw [prm_smul] at this
    exact this
/-- roots at addresses, with their least forms -/
abbrev Rts := List (Addr × E4 × Nat)
abbrev refsOf (ts : Rts) : List V := ts.map fun x => V.ref x.1
def RtsAt (K : PySem.W.Frag) (H : Hp) (ts : Rts) : Prop := ∀ x ∈ ts, RootAt K H x.1 x.2.1 x.2.2
theorem RtsAt.mono {H H' : Hp} {ts : Rts} (h : RtsAt K H ts) (k : Same H H') : RtsAt K H' ts := fun x hx => (h x hx).mono k
def OkRts (ts : Rts) : Prop := ∀ x ∈ ts, Ok30 x.2.1 ∧ 1 ≤ x.2.2 ∧ x.2.2 ≤ 60 ∧ Nat.gcd x.2.2 x.2.1.g = 1
def partsOf : Rts → List S4
  | [] => []
  | x :: r => x.2.1.tS :: x.2.1.bS :: partsOf r
theorem partsOf_app : ∀ {l r : Rts}, partsOf (l ++ r) = partsOf l ++ partsOf r
  | [], _ => rfl
  | x :: l, r => by rw [List.cons_append, partsOf, partsOf, partsOf_app]; rfl
theorem partsOf_len : ∀ {l : Rts}, (partsOf l).length = 2 * l.length
  | [] => rfl
  | x :: l => by rw [partsOf, List.length_cons, List.length_cons, partsOf_len, List.length_cons]; omega
theorem tot100 {x : S4} (h : x.val ≤ 10 ^ 30) : x.tot ≤ 100 := by
  have h1 := S4.tot_two (x := x)
  have h2 : 2 ^ x.tot < 2 ^ 101 := Nat.lt_of_le_of_lt (Nat.le_trans h1 h) (by decide)
  have := (Nat.pow_lt_pow_iff_right (a := 2) (by decide)).mp h2
  omega
theorem partsOf_ok : ∀ {l : Rts}, OkRts l → ∀ x ∈ partsOf l, x.val ≤ 10 ^ 30
  | [], _, x, hx => (List.not_mem_nil hx).elim
  | y :: l, h, x, hx => by
    have o := (h y (List.mem_cons_self ..)).1
    rcases List.mem_cons.mp hx with z | z
    · rw [z]
      exact o.t
    · rcases List.mem_cons.mp z with z | z
      · rw [z]
        exact o.b
      · exact partsOf_ok (fun q hq => h q (List.mem_cons_of_mem _ hq)) x z
theorem partsOf_tot : ∀ {l : Rts}, OkRts l → totS (partsOf l) ≤ 200 * l.length
  | [], _ => Nat.le_refl _
  | y :: l, h => by
    have o := (h y (List.mem_cons_self ..)).1
    have h1 := tot100 (x := y.2.1.tS) o.t
    have h2 := tot100 (x := y.2.1.bS) o.b
    have h3 := partsOf_tot (l := l) fun q hq => h q (List.mem_cons_of_mem _ hq)
    rw [partsOf, totS, totS, List.length_cons]
    omega
/-! common_bases -/
def sp_common_bases (K : PySem.W.Frag) : Sp := sp1 fun a H Q _ => ∃ (t : Addr) (ts : Rts), a = .ref t ∧ H t = some (.tup (refsOf ts)) ∧ RtsAt K H ts ∧ OkRts ts ∧ ts.length ≤ 5 ∧
  ∀ bs H' p', Bases (partsOf ts) bs → (∀ b ∈ bs, b.val ≤ 10 ^ 30) → bs.length ≤ 1000 → Same H H' → H' p' = some (.lst (vl bs)) → Q (.ref p') H'
theorem c_common_bases (T : Tx K mg) : CalX P w K mg base CX0 5 "common_bases" (sp_common_bases K) [] := by
  refine cal0_of (F_common_bases T) (g_common_bases T) bd_common_bases sc_common_bases len1 (fun cdv A outer s H vs Q E hr h => ?_)
  obtain ⟨_, rfl, t, ts, rfl, ht, hts, hok, tl, q⟩ := h
  refine ⟨_, (pss_cons (ps_set (i := 1) sc_common_bases.nd rfl (Or.inl rfl) (pe_lst pa_nil))
      (pss_cons (ps_for PassesOwn.never rfl (pi_tup (pv 0)) (pg_name (i := 2) sc_common_bases.nd rfl (Or.inl rfl)) (pss_one (ps_expr (pe_bm PySem.F.plainAttrs_list PySem.F.slot_list_extend PySem.F.type_list_extend mt_extT (pv 1) (pa_cons (pe_px (c_Root_number T) hr pass0 (pv 2)) pa_nil)))))
      (pss_one (ps_ret (pe_lc (own := [("value", 3)]) rfl sc_common_bases.nd (pi_list (pe_cx (c_refined T) hr pass0 (pa_cons (pv 1) pa_nil))) (blkOk_by (own := [("value", 3)]) (N := N_common_bases) (sc := defScope s_common_bases) (by decide +kernel)) (fun _ _ _ _ _ => (pg_name (i := 3) sc_common_bases.nd rfl (Or.inl rfl))) (fun _ _ _ _ _ => pts_nil) (fun _ _ _ _ _ => (pe_cx (c_unpowered T) hr pass0 (pa_cons (pv 3) pa_nil)))))))), ?_⟩
  walk_at "go"
  refine mkT fun L hL => ?_
  walk_at "go"
  refine ⟨t, rfl, ⟨_, SqT.of (same_new hL _ _ ht)⟩, forT (xs := refsOf ts) (fun i σ' H' => Same H H' ∧ ∃ v : Option V, σ' = [some (.ref t), some (.ref L), v, none] ∧ H' L = some (.lst (vl (partsOf (ts.take i)))))
    ⟨same_new hL, none, rfl, upd_same⟩ (fun i σ' H' hi h => SqT.of (h.1 _ _ ht)) (fun i x σ' H' hx h => ?_) (fun σ' H' h => ?_)⟩
  · obtain ⟨k, v, rfl, hl⟩ := h
    obtain ⟨r, hr', rfl⟩ : ∃ r, ts[i]? = some r ∧ x = .ref r.1 := by
      rw [List.getElem?_map] at hx
      cases e : ts[i]? with
      | none => rw [e] at hx; cases hx
      | some r => rw [e] at hx; cases hx; exact ⟨r, rfl, rfl⟩
    have hroot := (hts r (List.mem_of_getElem? hr')).mono k
    obtain ⟨dx, f, h1, _⟩ := id hroot
    have il : i < ts.length := (List.getElem?_eq_some_iff.mp hr').1
    have et : partsOf (ts.take (i + 1)) = partsOf (ts.take i) ++ [r.2.1.tS, r.2.1.bS] := by
      rw [List.take_add_one, hr', partsOf_app]
      rfl
    walk_at "go"
    refine ⟨_, rfl, .inl ⟨rfl, _, SqL.of hl⟩, ?_⟩
    walk_at "go"
    refine ⟨r.1, dx, _, rfl, h1, ?_⟩
    refine ⟨_, rfl, r.1, r.2.1, r.2.2, rfl, hroot, fun nb hn => ?_⟩
    refine ⟨L, nb, _, _, rfl, rfl, hl, SqT.of hn, ?_, ?_⟩
    · rw [vl_len, partsOf_len]
      have := List.length_take_le i ts
      exact Nat.le_trans (Nat.add_le_add_right (Nat.mul_le_mul_left 2 (Nat.le_trans (List.length_take_le' i ts) tl)) 2) (by decide)
    walk_at "go"
    refine ⟨same_mut k hL, _, rfl, ?_⟩
    rw [et, vl_app, upd_same]
    rfl
  · obtain ⟨k, v, rfl, hl⟩ := h
    have e1 : ts.take (refsOf ts).length = ts := by rw [List.length_map, List.take_length]
    rw [e1] at hl
    walk_at "go"
    refine ⟨_, rfl, L, partsOf ts, 10 ^ 30, rfl, hl, ?_, ?_, partsOf_ok hok, fun F H1 p1 rf ft fB k1 hF => ?_⟩
    · exact Nat.le_trans (partsOf_tot hok) (by omega)
    · rw [partsOf_len]
      omega
    have fl : F.length ≤ 1000 := Nat.le_trans (len_totS rf.nz) ft
    refine ⟨_, rfl, ⟨_, SqL.of hF⟩, fun D hD => lc_goL (F.map fun x => some (.int ((prm x).val : Int))) (SqL.of hF) (by rw [vl_len, List.length_map]) hD (by rw [List.length_map]; omega) (fun i x o H3 hx hk k3 Rr hRr => ?_) (fun H3 k3 hD3 => ?_)⟩
    · obtain ⟨y, hy, rfl⟩ := vl_get hx
      rw [List.getElem?_map, hy] at hk
      cases hk
      have ym := List.mem_of_getElem? hy
      walk_at "go"
      refine ⟨rfl, ?_⟩
      walk_at "go"
      refine iteT ?_
      walk_at "go"
      refine ⟨_, rfl, y, rfl, rf.nz y ym, fB y ym, fun z c c1 e2 g1 => ?_⟩
      have ez := prm_of c1 e2 g1
      subst ez
      walk_at "go"
      exact hRr H3 (Same.refl H3)
    · have e2 : (F.map fun x => some (V.int ((prm x).val : Int))).filterMap id = vl (F.map prm) := by
        rw [vl, List.map_map, List.map_map, List.filterMap_map]
        exact List.filterMap_eq_map (f := fun x : S4 => V.int ((prm x).val : Int)) ▸ rfl
      rw [e2] at hD3
      walk_at "go"
      refine q (F.map prm) H3 D rf.bases (fun b hb => ?_) (by rw [List.length_map]; exact fl) (Same.trans k (Same.trans k1 k3)) hD3
      obtain ⟨x, hx, rfl⟩ := List.mem_map.mp hb
      exact Nat.le_trans (pow_le_of (gx_pos (rf.nz x hx)) (S4.root_val (Nat.dvd_refl _))) (fB x hx)
end
end PP
-- text WE
namespace PP
open PySem PySem.Spec PyProof.Rows L2
section
variable {P : Program} {w : World} {K : PySem.W.Frag} {mg : Str → Option Value} {base : Heap}
/-! common_degree -/
def lcmD (w : Nat) : Rts → Nat
  | [] => w
  | x :: r => lcmD (w * x.2.2 / Nat.gcd w x.2.2) r
theorem lcmD_app : ∀ {l r : Rts} {w : Nat}, lcmD w (l ++ r) = lcmD (lcmD w l) r
  | [], _, _ => rfl
  | x :: l, r, w => by
    rw [List.cons_append, lcmD, lcmD]
    exact lcmD_app
theorem lcmD_ok : ∀ {l : Rts} {w B : Nat}, OkRts l → 0 < w → w ≤ B → 0 < lcmD w l ∧ lcmD w l ≤ B * 60 ^ l.length
  | [], w, B, _, h1, h2 => ⟨h1, by simpa [lcmD] using h2⟩
  | x :: l, w, B, h, h1, h2 => by
    obtain ⟨_, d1, d2, _⟩ := h x (List.mem_cons_self ..)
    have g0 : 0 < Nat.gcd w x.2.2 := Nat.gcd_pos_of_pos_left _ h1
    have a1 : 0 < w * x.2.2 / Nat.gcd w x.2.2 := Nat.div_pos (Nat.le_trans (Nat.le_of_dvd h1 (Nat.gcd_dvd_left _ _)) (Nat.le_mul_of_pos_right w d1)) g0
    have a2 : w * x.2.2 / Nat.gcd w x.2.2 ≤ B * 60 := Nat.le_trans (Nat.div_le_self _ _) (Nat.mul_le_mul h2 d2)
    have := lcmD_ok (l := l) (fun q hq => h q (List.mem_cons_of_mem _ hq)) a1 a2
    rw [lcmD, List.length_cons, Nat.pow_succ, Nat.mul_comm (60 ^ l.length), ← Nat.mul_assoc]
    exact this
def sp_common_degree (K : PySem.W.Frag) : Sp := sp1 fun a H Q _ => ∃ (t : Addr) (ts : Rts), a = .ref t ∧ H t = some (.tup (refsOf ts)) ∧ RtsAt K H ts ∧ OkRts ts ∧ ts.length ≤ 5 ∧ Q (.int (lcmD 1 ts : Nat)) H
theorem c_common_degree (T : Tx K mg) : CalX P w K mg base CX0 3 "common_degree" (sp_common_degree K) [] := by
  refine cal0_of (F_common_degree T) (g_common_degree T) bd_common_degree sc_common_degree len1 (fun cdv A outer s H vs Q E hr h => ?_)
  obtain ⟨_, rfl, t, ts, rfl, ht, hts, hok, tl, q⟩ := h
  refine ⟨_, (pss_cons (ps_set (i := 1) sc_common_degree.nd rfl (Or.inl rfl) pe_int)
      (pss_cons (ps_for PassesOwn.never rfl (pi_tup (pv 0)) (pg_name (i := 2) sc_common_degree.nd rfl (Or.inl rfl)) (pss_one (ps_set (i := 1) sc_common_degree.nd rfl (Or.inl rfl) (pe_op op_fdivW (pe_op op_mulW (pv 1) (pe_px (c_Root_degree T) hr pass0 (pv 2))) (pe_cx (c_common_divisor T) hr pass0 (pa_cons (pv 1) (pa_cons (pe_px (c_Root_degree T) hr pass0 (pv 2)) pa_nil)))))))
      (pss_one (ps_ret (pv 1))))), ?_⟩
  walk_at "go"
  refine ⟨t, rfl, ⟨_, SqT.of ht⟩, forT (xs := refsOf ts) (fun i σ' H' => H' = H ∧ ∃ v : Option V, σ' = [some (.ref t), some (.int ((lcmD 1 (ts.take i) : Nat) : Int)), v])
    ⟨rfl, none, rfl⟩ (fun i σ' H' hi h => SqT.of (h.1 ▸ ht)) (fun i x σ' H' hx h => ?_) (fun σ' H' h => ?_)⟩
  · obtain ⟨rfl, v, rfl⟩ := h
    obtain ⟨r, hr', rfl⟩ : ∃ r, ts[i]? = some r ∧ x = .ref r.1 := by
      rw [List.getElem?_map] at hx
      cases e : ts[i]? with
      | none => rw [e] at hx; cases hx
      | some r => rw [e] at hx; cases hx; exact ⟨r, rfl, rfl⟩
    have rm := List.mem_of_getElem? hr'
    have hroot := hts r rm
    obtain ⟨dx, f, h1, _⟩ := id hroot
    obtain ⟨_, d1, d2, _⟩ := hok r rm
    have et : lcmD 1 (ts.take (i + 1)) = lcmD 1 (ts.take i) * r.2.2 / Nat.gcd (lcmD 1 (ts.take i)) r.2.2 := by
      rw [List.take_add_one, hr', lcmD_app]
      rfl
    obtain ⟨l0, lb⟩ := lcmD_ok (l := ts.take i) (w := 1) (B := 1) (fun q hq => hok q (List.mem_of_mem_take hq)) (by decide) (by decide)
    have lb2 : lcmD 1 (ts.take i) < 2 ^ 40 := by
      have : 60 ^ (ts.take i).length ≤ 60 ^ 5 := Nat.pow_le_pow_right (by decide) (Nat.le_trans (List.length_take_le' i ts) tl)
      have e5 : (60 : Nat) ^ 5 < 2 ^ 40 := by decide
      omega
    generalize lcmD 1 (ts.take i) = w0 at *
    have g0 : (0 : Int) < ((Nat.gcd w0 r.2.2 : Nat) : Int) := by
      have := Nat.gcd_pos_of_pos_left r.2.2 l0
      omega
    have gb : Nat.gcd w0 r.2.2 < 2 ^ 40 := Nat.lt_of_le_of_lt (Nat.le_of_dvd l0 (Nat.gcd_dvd_left _ _)) lb2
    have db : r.2.2 < 2 ^ 40 := Nat.lt_of_le_of_lt d2 (by decide)
    walk_at "go"
    refine ⟨r.1, dx, _, rfl, h1, ?_⟩
    refine ⟨_, rfl, r.1, r.2.1, r.2.2, rfl, hroot, ?_⟩
    refine g_I (wide_mul (a := 40) (b := 40) (nat_bits lb2) (nat_bits db) (by decide) (by decide) (by decide)) ?_
    walk_at "go"
    refine ⟨r.1, dx, _, rfl, h1, ?_⟩
    refine ⟨_, rfl, r.1, r.2.1, r.2.2, rfl, hroot, ?_⟩
    walk_at "go"
    refine ⟨_, _, rfl, w0, r.2.2, rfl, rfl, ?_⟩
    refine g_I (wide_div (b := 40) g0 (nat_bits gb) (by decide) (by decide)) ?_
    walk_at "go"
    refine ⟨rfl, some (.ref r.1), ?_⟩
    rw [et, Int.natCast_ediv, Int.natCast_mul]
    rfl
  · obtain ⟨rfl, v, rfl⟩ := h
    have e1 : ts.take (refsOf ts).length = ts := by rw [List.length_map, List.take_length]
    rw [e1]
    walk_at "go"
    exact q
end
end PP
-- text WF
namespace PP
open PySem PySem.Spec PyProof.Rows L2
section
variable {P : Program} {w : World} {K : PySem.W.Frag} {mg : Str → Option Value} {base : Heap}
theorem refs_get {ts : Rts} {i : Nat} {x : V} (hx : (refsOf ts)[i]? = some x) : ∃ r, ts[i]? = some r ∧ x = .ref r.1 := by
  rw [List.getElem?_map] at hx
  cases e : ts[i]? with
  | none => rw [e] at hx; cases hx
  | some r => rw [e] at hx; cases hx; exact ⟨r, rfl, rfl⟩
/-! check_roots -/
def sp_check_roots (K : PySem.W.Frag) : Sp := sp1 fun a H Q _ => ∃ (t : Addr) (ts : Rts), a = .ref t ∧ H t = some (.tup (refsOf ts)) ∧ RtsAt K H ts ∧ ts.length ≤ 5 ∧ 0 < ts.length ∧ ∀ H', Same H H' → Q .non H'
theorem c_check_roots (T : Tx K mg) : CalX P w K mg base CX0 1 "check_roots" (sp_check_roots K) [] := by
  refine cal0_of (F_check_roots T) (g_check_roots T) bd_check_roots sc_check_roots len1 (fun cdv A outer s H vs Q E hr h => ?_)
  obtain ⟨_, rfl, t, ts, rfl, ht, hts, tl, t0, q⟩ := h
  refine ⟨_, (pss_cons (ps_if (PW.pt (pw_or (pt_not (pt_val (pe_callB call_isi (by rfl) (b_isinstance T) (by decide +kernel) (pa_cons (pv 0) (pa_cons (pe_bltn (v := .ty "tuple") rfl (b_tuple T) (by decide +kernel) rfl) pa_nil))))) (pw_or1 (pt_cmpR op_eq (pe_callB call_len_seq (by rfl) (b_len T) (by decide +kernel) (pa_cons (pv 0) pa_nil)) pe_int (nomark _))))) (pss_one ps_never) pss_nil)
      (pss_one (ps_for PassesOwn.never rfl (pi_enumT (by rfl) (b_enumerate T) (pa_cons (pv 0) pa_nil)) (pg_tup rfl (pgs_cons (pg_name (i := 1) sc_check_roots.nd rfl (Or.inl rfl)) (pgs_cons (pg_name (i := 2) sc_check_roots.nd rfl (Or.inl rfl)) pgs_nil))) (pss_one (ps_if (PW.pt (pw_or (pt_cmpR op_eq (pv 1) (pe_gk rfl (gi (k_MOST_ROOTS T))) (nomark _)) (pw_or1 (pt_not (pt_val (pe_callB (C8.call_isC T.ic_Root) (by rfl) (b_isinstance T) (by decide +kernel) (pa_cons (pv 2) (pa_cons (pe_glob (v := .ref (gaK K "Root")) rfl (gC_Root T) rfl) pa_nil)))))))) (pss_one ps_never) pss_nil))))), ?_⟩
  have rl : (refsOf ts).length = ts.length := List.length_map ..
  walk_at "go"
  refine ⟨_, _, _, _, true, rfl, ClsV.ty "tuple", TyX.base (TyOf.tup ht), kit_ty (by decide +kernel), ?_⟩
  walk_at "go"
  refine iteF ?_
  walk_at "go"
  refine ⟨t, _, rfl, .inr (SqT.of ht), ?_⟩
  walk_at "go"
  refine ifF (by rw [rl]; omega) ?_
  walk_at "go"
  refine ⟨t, _, rfl, SqT.of ht, forP walk_enumT (fun i σ' H' => Same H H' ∧ ∃ v u : Option V, σ' = [some (.ref t), v, u]) ⟨Same.refl H, none, none, rfl⟩ (fun i σ' H' hi h => SqT.of (h.1 _ _ ht)) (fun i x y T' σ' H' hi ex ey h hT => ?_) (fun σ' H' h => ?_)⟩
  · obtain ⟨k, v, u, rfl⟩ := h
    obtain ⟨r, hr', rfl⟩ := refs_get ey
    cases ex
    obtain ⟨dx, f, h1, _⟩ := (hts r (List.mem_of_getElem? hr')).mono k
    have nr : r.1 ≠ T' := ne_of_none h1 hT
    refine g_gtup (SqT.of upd_same) rfl ?_
    walk_at "go"
    refine ifF (by rw [rl] at hi; omega) ?_
    walk_at "go"
    refine ⟨r.1, dx, _, rfl, (upd_ne nr).trans h1, ?_⟩
    walk_at "go"
    refine iteF ?_
    walk_at "go"
    exact ⟨Same.trans k (same_new hT), _, _, rfl⟩
  · obtain ⟨k, v, u, rfl⟩ := h
    walk_at "go"
    exact q H' k
end
end PP
-- text WG
namespace PP
open PySem PySem.Spec PyProof.Rows L2
section
variable {P : Program} {w : World} {K : PySem.W.Frag} {mg : Str → Option Value} {base : Heap}
/-- all but some addresses stays -/
def Kp (S : List Addr) (H H' : Hp) : Prop := ∀ a o, a ∉ S → H a = some o → H' a = some o
theorem Kp.refl {S : List Addr} {H : Hp} : Kp S H H := fun _ _ _ h => h
theorem Kp.of {S : List Addr} {H H' : Hp} (k : Same H H') : Kp S H H' := fun a o _ h => k a o h
theorem Kp.trans {S : List Addr} {H H' H'' : Hp} (k : Kp S H H') (k2 : Kp S H' H'') : Kp S H H'' := fun a o n h => k2 a o n (k a o n h)
theorem Kp.upd {S : List Addr} {H H' : Hp} {x : Addr} {o : HO} (k : Kp S H H') (h : x ∈ S) : Kp S H (upd H' x o) := fun a u n e => by
  rw [upd_ne (fun z => n (by rw [z]; exact h))]
  exact k a u n e
theorem Kp.same {x : Addr} {H H' : Hp} (k : Kp [x] H H') (h : H x = none) : Same H H' := fun a o e => k a o (fun z => by rw [List.mem_singleton.mp z, h] at e; cases e) e
theorem ne_of_ins {H : Hp} {a x C dx : Addr} {fs : List (Str × V)} {xs : List V} (h : H a = some (.tup xs)) (hx : H x = some (.ins C dx fs)) : a ≠ x := fun z => by rw [z, hx] at h; cases h
theorem ne_of_insL {H : Hp} {a x C dx : Addr} {fs : List (Str × V)} {xs : List V} (h : H a = some (.lst xs)) (hx : H x = some (.ins C dx fs)) : a ≠ x := fun z => by rw [z, hx] at h; cases h
theorem RootAt.kp {H H' : Hp} {S : List Addr} {r : Addr} {e : E4} {d : Nat} (h : RootAt K H r e d) (k : Kp S H H') (hS : ∀ x ∈ S, (∀ xs, H x ≠ some (.tup xs)) ∧ ∀ dx f, H x ≠ some (.ins (gaK K "Root") dx [("form", .ref f)])) : RootAt K H' r e d := by
  obtain ⟨dx, f, h1, nb, h2, h3⟩ := h
  exact ⟨dx, f, k _ _ (fun z => (hS _ z).2 _ _ h1) h1, nb, k _ _ (fun z => (hS _ z).1 _ h2) h2, k _ _ (fun z => (hS _ z).1 _ h3) h3⟩
/-! Places -/
def PlacesAt (K : PySem.W.Frag) (H : Hp) (a : Addr) (bs : List S4) (n : Nat) : Prop := ∃ dx l, H a = some (.ins (gaK K "Places") dx [("bases", .ref l), ("whole", .int (n : Int))]) ∧ H l = some (.lst (vl bs))
theorem PlacesAt.mono {H H' : Hp} {a : Addr} {bs : List S4} {n : Nat} (h : PlacesAt K H a bs n) (k : Same H H') : PlacesAt K H' a bs n := by
  obtain ⟨dx, l, h1, h2⟩ := h
  exact ⟨dx, l, k _ _ h1, k _ _ h2⟩
theorem fl2 {x y : Str} {u v : V} {r : List (Str × V)} (h : (x == y) = false) : List.lookup x ((y, u) :: (x, v) :: r) = some v := by simp [List.lookup, h]
def sp_Places_init (K : PySem.W.Frag) : Sp := sp2 fun a b H Q _ => ∃ (x dx t : Addr) (ts : Rts), a = .ref x ∧ H x = some (.ins (gaK K "Places") dx []) ∧ b = .ref t ∧ H t = some (.tup (refsOf ts)) ∧ RtsAt K H ts ∧ OkRts ts ∧ ts.length ≤ 5 ∧
  ∀ bs H', Bases (partsOf ts) bs → (∀ b ∈ bs, b.val ≤ 10 ^ 30) → Kp [x] H H' → PlacesAt K H' x bs (lcmD 1 ts) → Q .non H'
theorem c_Places_init (T : Tx K mg) : MakX P w K mg base CX0 6 "Places" (gaK K "Places") (sp_Places_init K) := by
  refine mak_of (F_Places_init T) (mk_Places T) (gC_Places T) bd_Places_init sc_Places_init len2 (bodyX_of fun cdv A outer s H vs Q E hr h => ?_)
  obtain ⟨_, _, rfl, x, dx, t, ts, rfl, hx, rfl, ht, hts, hok, tl, q⟩ := h
  refine ⟨_, (pss_cons (ps_fld (pv 0) (pe_cx (c_common_bases T) hr pass0 (pa_cons (pv 1) pa_nil)) rfl)
      (pss_one (ps_fld (pv 0) (pe_cx (c_common_degree T) hr pass0 (pa_cons (pv 1) pa_nil)) rfl))), ?_⟩
  walk_at "go"
  refine ⟨_, rfl, t, ts, rfl, ht, hts, hok, tl, fun bs H1 l hB hb hl k1 hL => ?_⟩
  walk_at "go"
  have hx1 := k1 _ _ hx
  refine ⟨x, _, dx, [], rfl, hx1, cl_Places T, na_Places_bases T, by decide, ?_⟩
  have k2 : Kp [x] H (upd H1 x (.ins (gaK K "Places") dx (putF "bases" (.ref l) []))) := (Kp.of k1).upd (List.mem_singleton.mpr rfl)
  have nt : t ≠ x := ne_of_ins ht hx
  have nl : l ≠ x := ne_of_insL hL hx1
  walk_at "go"
  refine ⟨_, rfl, t, ts, rfl, k2 _ _ (fun z => nt (List.mem_singleton.mp z)) ht, fun r hr' => (hts r hr').kp k2 (fun y hy => ?_), hok, tl, ?_⟩
  · rw [List.mem_singleton.mp hy, hx]
    exact ⟨fun xs z => (by cases z), fun dx f z => (by injection z with z; injection z with _ _ z; cases z)⟩
  walk_at "go"
  refine ⟨x, _, dx, _, rfl, upd_same, cl_Places T, na_Places_whole T, (by show (1 : Nat) < 1000; decide), ?_⟩
  refine q bs _ hB hb (k2.upd (List.mem_singleton.mpr rfl)) ⟨dx, l, upd_same, ?_⟩
  rw [upd_ne nl, upd_ne nl]
  exact hL
/-- a row in the heap -/
def vec (m : Nat) (t : Vc) : List V := (List.range m).map fun i => V.int (t i)
theorem vec_len {m : Nat} {t : Vc} : (vec m t).length = m := by rw [vec, List.length_map, List.length_range]
theorem vec_get {m i : Nat} {t : Vc} (h : i < m) : (vec m t)[i]? = some (.int (t i)) := by
  rw [vec, List.getElem?_map, List.getElem?_range h]
  rfl
theorem vec_of {m i : Nat} {t : Vc} {x : V} (h : (vec m t)[i]? = some x) : i < m ∧ x = .int (t i) := by
  have hi : i < m := by
    have := (List.getElem?_eq_some_iff.mp h).1
    rwa [vec_len] at this
  rw [vec_get hi] at h
  cases h
  exact ⟨hi, rfl⟩
theorem vec_congr {m : Nat} {t u : Vc} (h : ∀ i, i < m → t i = u i) : vec m t = vec m u := List.map_congr_left fun i hi => by rw [h i (List.mem_range.mp hi)]
theorem vec_ks {m : Nat} {t : Vc} : ((List.range m).map fun i => some (V.int (t i))).filterMap id = vec m t := by
  rw [List.filterMap_map, vec]
  exact List.filterMap_eq_map (f := fun i : Nat => V.int (t i)) ▸ rfl
theorem ks_of {m i : Nat} {t : Vc} {k : Option V} (h : ((List.range m).map fun i => some (V.int (t i)))[i]? = some k) : k = some (.int (t i)) := by
  have hi : i < m := by simpa using (List.getElem?_eq_some_iff.mp h).1
  rw [List.getElem?_map, List.getElem?_range hi] at h
  cases h
  rfl
theorem difs_get {cs ds : List Nat} {i : Nat} {x : V} (h : ((difs cs ds).map V.int)[i]? = some x) : x = .int (dif cs ds i) := by
  rw [List.getElem?_map, difs, List.getElem?_map] at h
  cases e : (cs.zip ds)[i]? with
  | none => rw [e] at h; cases h
  | some p =>
    rw [e] at h
    cases h
    obtain ⟨h1, h2⟩ := List.getElem?_zip_eq_some.mp e
    unfold dif
    rw [List.getD_eq_getElem?_getD, List.getD_eq_getElem?_getD, h1, h2]
    rfl
/-- the bases of some roots -/
structure BsOk (bs : List S4) (e : E4) : Prop where
  dj : bs.Pairwise Dj
  prim : ∀ b ∈ bs, b.gx = 1
  big : ∀ b ∈ bs, b.val ≤ 10 ^ 30
  mt : Mon bs e.tS
  mb : Mon bs e.bS
  ok : Ok30 e
def sp_Places_row (K : PySem.W.Frag) : Sp := sp2 fun a b H Q _ => ∃ (x r : Addr) (bs : List S4) (n : Nat) (e : E4) (d : Nat), a = .ref x ∧ b = .ref r ∧ PlacesAt K H x bs n ∧ n < 2 ^ 40 ∧ RootAt K H r e d ∧ BsOk bs e ∧ 1 ≤ d ∧ d ≤ 60 ∧
  ∀ H' p, Same H H' → H' p = some (.lst (vec bs.length (rowB bs n (e, d)))) → Q (.ref p) H'
theorem c_Places_row (T : Tx K mg) : MetX P w K mg base CX0 3 (gaK K "Places") "row" (sp_Places_row K) := by
  refine met_of (F_Places_row T) (cl_Places T) (me_Places_row T) bd_Places_row sc_Places_row len2 (bodyX_of fun cdv A outer s H vs Q E hr h => ?_)
  obtain ⟨_, _, rfl, x, r, bs, n, e, d, rfl, rfl, hself, nb40, hroot, ok, d1, d2, q⟩ := h
  obtain ⟨dx, l, hx, hl⟩ := id hself
  obtain ⟨dr, f, h1, _⟩ := id hroot
  have bz : ∀ b ∈ bs, b ≠ .zero := fun b hb => S4.nz_of_gx (ok.prim b hb)
  have b4 := dj_len ok.dj bz
  obtain ⟨a1, a2⟩ := cfs_ok ok.mt
  obtain ⟨b1, b2⟩ := cfs_ok ok.mb
  refine ⟨_, (pss_one (ps_ret (pe_lc (own := [("power", 2)]) rfl sc_Places_row.nd (pi_list (pe_cx (c_powers_in T) hr pass0 (pa_cons (pe_px (c_Root_number T) hr pass0 (pv 1)) (pa_cons (pe_fld (pv 0) rfl) pa_nil)))) (blkOk_by (own := [("power", 2)]) (N := N_Places_row) (sc := defScope s_Places_row) (by decide +kernel)) (fun _ _ _ _ _ => (pg_name (i := 2) sc_Places_row.nd rfl (Or.inl rfl))) (fun _ _ _ _ _ => pts_nil) (fun _ _ _ _ _ => (pe_op op_mulW (pv 2) (pe_op op_fdivW (show PE _ _ (tFld K _ "whole") from pe_fld (pv 0) rfl) (pe_px (c_Root_degree T) hr pass0 (pv 1)))))))), ?_⟩
  walk_at "go"
  refine ⟨r, dr, _, rfl, h1, ?_⟩
  refine ⟨_, rfl, r, e, d, rfl, hroot, fun nb hn => ?_⟩
  walk_at "go"
  refine ⟨x, _, dx, _, .ref l, rfl, hx, cl_Places T, na_Places_bases T, fl1, ?_⟩
  have hn2 : Num H nb ((comb (cfs bs e.tS) bs).val : Int) ((comb (cfs bs e.bS) bs).val : Int) := by
    rw [a2, b2, E4.tS_val, E4.bS_val]
    exact hn
  walk_at "go"
  refine ⟨_, _, rfl, nb, l, bs, cfs bs e.tS, cfs bs e.bS, rfl, rfl, hn2, hl, ok.dj, fun b hb => ⟨bz b hb, Nat.lt_of_le_of_lt (ok.big b hb) (by decide)⟩, by omega, a1, b1, fun H1 p' k1 hp' => ?_⟩
  refine ⟨p', rfl, ⟨_, SqL.of hp'⟩, fun D hD => lc_goL ((List.range bs.length).map fun i => some (.int (rowB bs n (e, d) i))) (SqL.of hp') (by rw [List.length_map, difs_len a1 b1, List.length_map, List.length_range]) hD (by rw [List.length_map, List.length_range]; omega) (fun i y o H3 hy hk k3 Rr hRr => ?_) (fun H3 k3 hD3 => ?_)⟩
  · have ey := difs_get hy
    have eo := ks_of hk
    subst ey eo
    have kk := Same.trans k1 k3
    have hroot3 := hroot.mono kk
    have w1 : (n / d : Nat) < 2 ^ 40 := Nat.lt_of_le_of_lt (Nat.div_le_self _ _) nb40
    have w2 := dif_le (i := i) ok.mt ok.mb bz (tot100 ok.ok.t) (tot100 ok.ok.b)
    walk_at "go"
    refine ⟨rfl, ?_⟩
    walk_at "go"
    refine iteT ?_
    walk_at "go"
    refine ⟨x, _, dx, _, _, rfl, kk _ _ hx, cl_Places T, na_Places_whole T, fl2 (by decide), ?_⟩
    walk_at "go"
    refine ⟨r, dr, _, rfl, kk _ _ h1, ?_⟩
    refine ⟨_, rfl, r, e, d, rfl, hroot3, ?_⟩
    refine g_I (wide_div (b := 40) (by omega) (nat_bits (by omega)) (by decide) (by decide)) ?_
    refine g_I (wide_mul (a := 40) (b := 40) (by omega) (by rw [← Int.natCast_ediv]; exact nat_bits w1) (by decide) (by decide) (by decide)) ?_
    rw [← Int.natCast_ediv]
    exact hRr H3 (Same.refl H3)
  · rw [vec_ks] at hD3
    walk_at "go"
    exact q H3 D (Same.trans k1 k3) hD3
theorem g_lrg {te : L2.St → Hp → (Int → Int → Hp → Prop) → Prop} {σ : L2.St} {H : Hp} {Q : VK} (q : te σ H fun a b H1 => RgOk a b ∧ ∀ q, H1 q = none → Q (.ref q) (upd H1 q (.lst (rgV a b)))) : tLstRg te σ H Q := q
theorem g_rg1 {ta : TE} {R : Int → Int → Hp → Prop} {σ : L2.St} {H : Hp} (q : ta σ H fun x H1 => ∃ n, x = .int n ∧ R 0 n H1) : tRg1 ta σ H R := q
def sp_Places_span (K : PySem.W.Frag) : Sp := sp1 fun a H Q _ => ∃ (x : Addr) (bs : List S4) (n : Nat), a = .ref x ∧ PlacesAt K H x bs n ∧ bs.length ≤ 4 ∧ ∀ H' p, Same H H' → H' p = some (.lst (vec bs.length fun i => i)) → Q (.ref p) H'
theorem c_Places_span (T : Tx K mg) : MetX P w K mg base CX0 1 (gaK K "Places") "span" (sp_Places_span K) := by
  refine met_of (F_Places_span T) (cl_Places T) (me_Places_span T) bd_Places_span sc_Places_span len1 (bodyX_of fun cdv A outer s H vs Q E hr h => ?_)
  obtain ⟨_, rfl, x, bs, n, rfl, hself, b4, q⟩ := h
  obtain ⟨dx, l, hx, hl⟩ := id hself
  refine ⟨_, (pss_one (ps_ret (pe_listRg rfl (by rfl) (b_list T) (prg_1 rfl (b_range T) (pe_callB call_len_seq (by rfl) (b_len T) (by decide +kernel) (pa_cons (pe_fld (pv 0) rfl) pa_nil)))))), ?_⟩
  walk_at "go"
  refine g_lrg (g_rg1 ?_)
  walk_at "go"
  refine ⟨x, _, dx, _, .ref l, rfl, hx, cl_Places T, na_Places_bases T, fl1, ?_⟩
  walk_at "go"
  refine ⟨l, _, rfl, .inl (SqL.of hl), ?_⟩
  refine ⟨_, rfl, RgOk.of_le (by decide) (by rw [vl_len]; omega) (by decide) (by omega), fun p hp => ?_⟩
  refine q _ p (same_new hp) ?_
  rw [upd_same, rgV, Int.sub_zero, Int.toNat_natCast, vl_len, vec]
  simp only [Int.zero_add]
/-! with_row -/
theorem drop_get {α : Type} {l : List α} {i : Nat} {x : α} (h : l[i]? = some x) : l.drop i = x :: l.drop (i + 1) := by
  obtain ⟨hi, rfl⟩ := List.getElem?_eq_some_iff.mp h
  exact List.drop_eq_getElem_cons hi
theorem int_bits {x : Int} {n B : Nat} (h0 : 0 ≤ x) (h1 : x ≤ n) (hn : n < 2 ^ B) : x.natAbs < 2 ^ B := by omega
def RowsAt (H : Hp) (p : Addr) (m : Nat) (ps : List (Addr × Vc)) : Prop := H p = some (.lst (ps.map fun x => V.ref x.1)) ∧ ∀ x ∈ ps, H x.1 = some (.lst (vec m x.2))
abbrev vcs (ps : List (Addr × Vc)) : List Vc := ps.map (·.2)
structure TrOk (n m : Nat) (T : List Vc) : Prop where
  tri : Tri n m 0 T
  bd : ∀ t ∈ T, ∀ i, i < m → 0 ≤ t i ∧ t i ≤ n
theorem Tri.drop {w : Int} {m : Nat} : ∀ {i p : Nat} {T : List Vc}, Tri w m p T → i ≤ T.length → Tri w m (p + i) (T.drop i)
  | 0, p, T, h, _ => h
  | i + 1, p, t :: T, h, hi => by
    have := Tri.drop (i := i) h.2.2.2 (by simpa using hi)
    rw [show p + 1 + i = p + (i + 1) by omega] at this
    exact this
theorem SpE.hd {w : Int} {m : Nat} {x y : Vc} {T : List Vc} (h : ∀ i, i < m → w ∣ x i - y i) : SpE w m (x :: T) (y :: T) := by
  refine SpE.of (fun t ht => ?_) fun t ht => ?_
  · rcases List.mem_cons.mp ht with z | ht
    · rw [z]
      exact (Sp0.hd (t := y)).congr fun i hi => by
        have := Int.dvd_neg.mpr (h i hi)
        rw [Int.neg_sub] at this
        exact this
    · exact (Sp0.mem ht).wk
  · rcases List.mem_cons.mp ht with z | ht
    · rw [z]
      exact (Sp0.hd (t := x)).congr h
    · exact (Sp0.mem ht).wk
theorem SpE.swap {w : Int} {m : Nat} {x y : Vc} {T : List Vc} : SpE w m (x :: y :: T) (y :: x :: T) := by
  have q : ∀ {x y : Vc}, ∀ t ∈ x :: y :: T, Sp0 w m (y :: x :: T) t := fun {x y} t ht => Sp0.mem (by
    simp only [List.mem_cons] at ht ⊢
    rcases ht with z | z | z
    · exact .inr (.inl z)
    · exact .inl z
    · exact .inr (.inr z))
  exact SpE.of q q
def sp_Places_with_row (K : PySem.W.Frag) : Sp := sp3 fun a b c H Q _ => ∃ (x p r : Addr) (bs : List S4) (n : Nat) (ps : List (Addr × Vc)) (rv : Vc), a = .ref x ∧ b = .ref p ∧ c = .ref r ∧ PlacesAt K H x bs n ∧ bs.length ≤ 4 ∧ 0 < n ∧ n < 2 ^ 40 ∧ RowsAt H p bs.length ps ∧
  TrOk n bs.length (vcs ps) ∧ H r = some (.lst (vec bs.length rv)) ∧ ∀ H' p' ps', Same H H' → RowsAt H' p' bs.length ps' → TrOk n bs.length (vcs ps') → SpE n bs.length (vcs ps') (rv :: vcs ps) → Q (.ref p') H'
theorem c_Places_with_row (T : Tx K mg) : MetX P w K mg base CX0 1 (gaK K "Places") "with_row" (sp_Places_with_row K) := by
  refine met_of (F_Places_with_row T) (cl_Places T) (me_Places_with_row T) bd_Places_with_row sc_Places_with_row len3 (bodyX_of fun cdv A outer s H vs Q E hr h => ?_)
  obtain ⟨_, _, _, rfl, x, p, ra0, bs, n, ps, rv, rfl, rfl, rfl, hself, b4, n0, n40, ⟨hp, hps⟩, tr, hrow, q⟩ := h
  obtain ⟨dx, l, hx, hl⟩ := id hself
  refine ⟨_, (pss_cons (ps_par (i := 3) (j := 2) (by rfl) sc_Places_with_row.nd rfl rfl (by decide) rfl rfl (pa_cons (pe_lst pa_nil) (pa_cons (pe_lc (own := [("one", 7)]) rfl sc_Places_with_row.nd (pi_list (pv 2)) (blkOk_by (own := [("one", 7)]) (N := N_Places_with_row) (sc := defScope s_Places_with_row) (by decide +kernel)) (fun _ _ _ _ _ => (pg_name (i := 7) sc_Places_with_row.nd rfl (Or.inl rfl))) (fun _ _ _ _ _ => pts_nil) (fun _ _ _ _ _ => (pe_op op_mod (pv 7) (show PE _ _ (tFld K _ "whole") from pe_fld (pv 0) rfl)))) pa_nil)) (by rfl))
      (pss_cons (ps_for PassesOwn.never rfl (pi_enum (by rfl) (b_enumerate T) (pa_cons (pv 1) pa_nil)) (pg_tup rfl (pgs_cons (pg_name (i := 4) sc_Places_with_row.nd rfl (Or.inl rfl)) (pgs_cons (pg_name (i := 5) sc_Places_with_row.nd rfl (Or.inl rfl)) pgs_nil))) (pss_cons (ps_while PassesOwn.never (pt_cmpR op_ne (pe_ix ix_list (pv 2) (pv 4) (fun _ _ => rfl)) pe_int (nomark _)) (pss_cons (ps_set (i := 6) sc_Places_with_row.nd rfl (Or.inr rfl) (pe_op op_fdivW (pe_ix ix_list (pv 5) (pv 4) (fun _ _ => rfl)) (pe_ix ix_list (pv 2) (pv 4) (fun _ _ => rfl))))
      (pss_one (ps_par (i := 5) (j := 2) (by rfl) sc_Places_with_row.nd rfl rfl (by decide) rfl rfl (pa_cons (pv 2) (pa_cons (pe_lc (own := [("one", 7), ("other", 8)]) rfl sc_Places_with_row.nd (RZ.pi_zipA (by rfl) (b_zip T) (pa_cons (pv 5) (pa_cons (pv 2) pa_nil))) (blkOk_by (own := [("one", 7), ("other", 8)]) (N := N_Places_with_row) (sc := defScope s_Places_with_row) (by decide +kernel)) (fun _ _ _ _ _ => (show PG _ _ (gTup K 2 _) from pg_tup rfl (pgs_cons (pg_name (i := 7) sc_Places_with_row.nd rfl (Or.inl rfl)) (pgs_cons (pg_name (i := 8) sc_Places_with_row.nd rfl (Or.inl rfl)) pgs_nil)))) (fun _ _ _ _ _ => pts_nil) (fun _ _ _ _ _ => (pe_op op_mod (pe_op op_sub (pv 7) (pe_op op_mulW (pv 6) (pv 8))) (show PE _ _ (tFld K _ "whole") from pe_fld (pv 0) rfl)))) pa_nil)) (by rfl)))))
      (pss_one (ps_expr (pe_bm PySem.F.plainAttrs_list PySem.F.slot_list_append PySem.F.type_list_append mt_append (pv 3) (pa_cons (pv 5) pa_nil))))))
      (pss_one (ps_ret (pv 3))))), ?_⟩
  have w0 : (0 : Int) < (n : Int) := by omega
  have pl : ps.length = bs.length := by
    have := tr.tri.len
    rw [List.length_map] at this
    omega
  generalize bs.length = m at *
  walk_at "go"
  refine mkT fun L hL => ?_
  have k0 : Same H (upd H L (.lst [])) := same_new hL
  walk_at "go"
  refine ⟨ra0, rfl, ⟨_, SqL.of (k0 _ _ hrow)⟩, fun D hD => lc_goL ((List.range m).map fun i => some (.int (rv i % n))) (SqL.of (k0 _ _ hrow)) (by rw [vec_len, List.length_map, List.length_range]) hD (by rw [List.length_map, List.length_range]; omega) (fun i y o H3 hy hk k3 Rr hRr => ?_) (fun H3 k3 hD3 => ?_)⟩
  · obtain ⟨hi, rfl⟩ := vec_of hy
    have eo := ks_of (t := fun i => rv i % n) hk
    subst eo
    walk_at "go"
    refine ⟨rfl, ?_⟩
    walk_at "go"
    refine iteT ?_
    walk_at "go"
    refine ⟨x, _, dx, _, _, rfl, k3 _ _ (k0 _ _ hx), cl_Places T, na_Places_whole T, fl2 (by decide), ?_⟩
    refine g_I (by omega) ?_
    exact hRr H3 (Same.refl H3)
  rw [vec_ks (t := fun i => rv i % n)] at hD3
  have nDL : D ≠ L := fun z => by rw [z, upd_same] at hD; cases hD
  have k03 := Same.trans k0 k3
  walk_at "go"
  refine ⟨p, _, rfl, SqL.of (k03 _ _ hp), forP walk_enum (fun i σ' H' => Same H H' ∧ ∃ (ds : List (Addr × Vc)) (ra : Addr) (r : Vc) (v u z : Option V), σ' = [some (.ref x), some (.ref p), some (.ref ra), some (.ref L), v, u, z, none, none] ∧
      H' L = some (.lst (ds.map fun x => V.ref x.1)) ∧ (∀ d ∈ ds, d.1 ≠ L ∧ H' d.1 = some (.lst (vec m d.2)) ∧ ∀ j, j < m → 0 ≤ d.2 j ∧ d.2 j ≤ n) ∧ ra ≠ L ∧ H' ra = some (.lst (vec m r)) ∧ (∀ j, j < m → 0 ≤ r j ∧ r j < n) ∧ (∀ j, j < i → (n : Int) ∣ r j) ∧
      (∀ U, Tri n m i U → SpE n m U (r :: (vcs ps).drop i) → Tri n m 0 (vcs ds ++ U) ∧ SpE n m (vcs ds ++ U) (rv :: vcs ps)) ∧ ds.length = i) ?_ (fun i σ' H' hi h => SqL.of (h.1 _ _ hp)) (fun i x' y' T' σ' H' hi ex ey h hT => ?_) (fun σ' H' h => ?_)⟩
  · refine ⟨k03, [], D, fun i => rv i % n, none, none, none, rfl, k3 _ _ upd_same, fun d hd => (List.not_mem_nil hd).elim, nDL, hD3, fun j hj => ⟨Int.emod_nonneg _ (by omega), Int.emod_lt_of_pos _ w0⟩, fun j hj => absurd hj (Nat.not_lt_zero _), fun U hU hs => ⟨hU, hs.trans ?_⟩, rfl⟩
    exact SpE.hd fun i hi => by
      have := Int.dvd_neg.mpr (Int.dvd_self_sub_emod (x := rv i) (m := (n : Int)))
      rw [Int.neg_sub] at this
      exact this
  · obtain ⟨k, ds, ra, r, v, u, z, rfl, hL', hds, nra, hra, rb, rz, cont, dl⟩ := h
    cases ex
    obtain ⟨pr, hpr, rfl⟩ : ∃ pr, ps[i]? = some pr ∧ y' = .ref pr.1 := by
      rw [List.getElem?_map] at ey
      cases e : ps[i]? with
      | none => rw [e] at ey; cases ey
      | some r => rw [e] at ey; cases ey; exact ⟨r, rfl, rfl⟩
    have pm := List.mem_of_getElem? hpr
    have im : i < m := by
      have := (List.getElem?_eq_some_iff.mp hpr).1
      omega
    have ed : (vcs ps).drop i = pr.2 :: (vcs ps).drop (i + 1) := drop_get (by rw [List.getElem?_map, hpr]; rfl)
    have tri := tr.tri.drop (i := i) (by rw [List.length_map]; omega)
    rw [Nat.zero_add, ed] at tri
    rw [ed] at cont
    have kT := same_new (o := .tup [.int (i : Nat), .ref pr.1]) hT
    have hpr1 := hps pr pm
    have npr : pr.1 ≠ L := ne_of_none hpr1 hL
    have tb := tr.bd pr.2 (List.mem_map_of_mem pm)
    generalize (vcs ps).drop (i + 1) = Tt at *
    refine g_gtup (SqT.of upd_same) rfl ?_
    walk_at "go"
    refine g_while (fun mm σ2 H2 => Same (upd H' T' (.tup [.int (i : Nat), .ref pr.1])) H2 ∧ ∃ (oa ra' : Addr) (o r' : Vc) (z' : Option V), mm = (r' i).toNat ∧ σ2 = [some (.ref x), some (.ref p), some (.ref ra'), some (.ref L), some (.int (i : Nat)), some (.ref oa), z', none, none] ∧
      oa ≠ L ∧ ra' ≠ L ∧ H2 oa = some (.lst (vec m o)) ∧ H2 ra' = some (.lst (vec m r')) ∧ Euc n m i Tt o r' ∧ (∀ j, j < m → 0 ≤ o j ∧ o j ≤ n) ∧ (∀ j, j < m → 0 ≤ r' j ∧ r' j < n) ∧ SpE n m (o :: r' :: Tt) (pr.2 :: r :: Tt)) _
      ⟨Same.refl _, pr.1, ra, pr.2, r, z, rfl, rfl, npr, nra, kT _ _ (k _ _ hpr1), kT _ _ hra, Euc.start tri rz (rb i im).1 (rb i im).2, tb, rb, SpE.refl⟩ ?_
    rintro mm σ2 H2 ⟨k2, oa, ra', o, r', z', rfl, rfl, noa, nra', hoa, hra', eu, ob, rb', sp⟩
    have kk := Same.trans k (Same.trans kT k2)
    walk_at "go"
    refine g_ixL (SqL.of hra') (atI_nat (vec_get im)) ?_
    walk_at "go"
    refine ifn (fun hz => g_turn ?_) (fun hz => ?_)
    · have rp : 0 < r' i := by
        have := eu.nn
        omega
      have rlt := (rb' i im).2
      walk_at "go"
      refine g_ixL (SqL.of hoa) (atI_nat (vec_get im)) ?_
      walk_at "go"
      refine g_ixL (SqL.of hra') (atI_nat (vec_get im)) ?_
      refine g_I (wide_div (b := 40) rp (int_bits (by omega) (by omega) n40) (by decide) (by decide)) ?_
      walk_at "go"
      obtain ⟨q0, q1⟩ : 0 ≤ o i / r' i ∧ o i / r' i ≤ n := ⟨Int.ediv_nonneg (ob i im).1 (by omega), by
        have := Int.ediv_le_self (r' i) (ob i im).1
        have := (ob i im).2
        omega⟩
      refine ⟨oa, ra', _, _, rfl, .inl ⟨SqL.of hoa, SqL.of hra', fun D2 hD2 => lc_goP ((List.range m).map fun j => some (.int ((o j - o i / r' i * r' j) % n))) (walk_zip rfl) (by rw [vec_len, vec_len, List.length_map, List.length_range, Nat.min_self]) ⟨SqL.of hoa, SqL.of hra'⟩ (fun H3 k3 => ⟨SqL.of (k3 _ _ hoa), SqL.of (k3 _ _ hra')⟩) hD2 (by rw [List.length_map, List.length_range]; omega)
        (fun j u1 u2 T3 o3 H3 e1 e2 hk k3 hT3 Rr hRr => ?_) (fun H3 k3 hD3 => ?_)⟩⟩
      · obtain ⟨hj, rfl⟩ := vec_of e1
        obtain ⟨_, rfl⟩ := vec_of e2
        have eo := ks_of (t := fun j => (o j - o i / r' i * r' j) % n) hk
        subst eo
        have kT3 := same_new (o := .tup [.int (o j), .int (r' j)]) hT3
        refine g_gtup (SqT.of upd_same) rfl ?_
        walk_at "go"
        refine ⟨rfl, ?_⟩
        walk_at "go"
        refine iteT ?_
        walk_at "go"
        refine g_I (wide_mul (a := 40) (b := 40) (int_bits q0 q1 n40) (int_bits (rb' j hj).1 (Int.le_of_lt (rb' j hj).2) n40) (by decide) (by decide) (by decide)) ?_
        walk_at "go"
        refine ⟨x, _, dx, _, _, rfl, kT3 _ _ (k3 _ _ (kk _ _ hx)), cl_Places T, na_Places_whole T, fl2 (by decide), ?_⟩
        refine g_I (by omega) ?_
        exact hRr _ kT3
      rw [vec_ks (t := fun j => (o j - o i / r' i * r' j) % n)] at hD3
      have nD2 : D2 ≠ L := fun z => by
        have := (Same.trans kT k2) _ _ hL'
        rw [← z, hD2] at this
        cases this
      obtain ⟨eu2, lt2, sp2⟩ := eu.step (r2 := fun j => (o j - o i / r' i * r' j) % n) w0 (by omega) (fun _ => rfl)
      have nn2 := eu2.nn
      walk_at "go"
      refine ⟨((o i - o i / r' i * r' i) % n).toNat, by omega, Same.trans k2 k3, ra', D2, r', fun j => (o j - o i / r' i * r' j) % n, _, rfl, rfl, nra', nD2, k3 _ _ hra', hD3, eu2, fun j hj => ⟨(rb' j hj).1, Int.le_of_lt (rb' j hj).2⟩,
        fun j hj => ⟨Int.emod_nonneg _ (by omega), Int.emod_lt_of_pos _ w0⟩, sp2.trans sp⟩
    · have hz0 : r' i = 0 := by omega
      have hL2 := (Same.trans kT k2) _ _ hL'
      walk_at "go"
      refine ⟨_, rfl, .inl ⟨rfl, _, SqL.of hL2⟩, ?_⟩
      walk_at "go"
      refine ⟨L, _, .ref oa, rfl, rfl, hL2, ?_, ?_⟩
      · rw [List.length_map, dl]
        exact Nat.lt_of_lt_of_le (Nat.lt_of_lt_of_le im b4) (by decide)
      refine ⟨same_mut kk hL, ds ++ [(oa, o)], ra', r', _, _, _, rfl, ?_, fun d hd => ?_, nra', (upd_ne nra').trans hra', rb', ?_, fun U hU hs => ?_, ?_⟩
      · rw [upd_same, List.map_append]
        rfl
      · rcases List.mem_append.mp hd with y | y
        · obtain ⟨y1, y2, y3⟩ := hds d y
          exact ⟨y1, (upd_ne y1).trans ((Same.trans kT k2) _ _ y2), y3⟩
        · rw [List.mem_singleton.mp y]
          exact ⟨noa, (upd_ne noa).trans hoa, ob⟩
      · intro j hj
        rcases Nat.lt_or_ge j i with y | y
        · exact (eu.lo j y).2
        · have : j = i := by omega
          rw [this, hz0]
          exact Int.dvd_zero _
      · have c2 := cont (o :: U) (eu.done hz0 hU hs).1 (((hs.cons o).trans sp).trans SpE.swap)
        rw [show vcs (ds ++ [(oa, o)]) ++ U = vcs ds ++ o :: U by show List.map _ _ ++ U = _; rw [List.map_append, List.append_assoc]; rfl]
        exact c2
      · rw [List.length_append, dl]
        rfl
  · obtain ⟨k, ds, ra, r, v, u, z, rfl, hL', hds, nra, hra, rb, rz, cont, dl⟩ := h
    rw [List.length_map, pl] at rz cont
    have := cont [] rfl ?_
    · rw [List.append_nil] at this
      walk_at "go"
      refine q H' L ds k ⟨hL', fun d hd => (hds d hd).2.1⟩ ⟨this.1, fun t ht i hi => ?_⟩ this.2
      obtain ⟨d, hd, rfl⟩ := List.mem_map.mp ht
      exact (hds d hd).2.2 i hi
    · rw [List.drop_eq_nil_of_le (by rw [List.length_map]; omega)]
      refine SpE.of (fun t ht => (List.not_mem_nil ht).elim) fun t ht => ?_
      rw [List.mem_singleton.mp ht]
      exact rz
end
end PP
-- text WH
namespace PP
open PySem PySem.Spec PyProof.Rows L2
section
variable {P : Program} {w : World} {K : PySem.W.Frag} {mg : Str → Option Value} {base : Heap}
/-- a comprehension whose values are new objects -/
theorem lc_goN {K : PySem.W.Frag} {a : Addr} {xs : List V} {g : TG} {tt : TT} {te : TE} {vs : List Nat} {σ : L2.St} {D : Addr} {H1 : Hp} {Qd : Hp → Prop} (Rel : Nat → V → Hp → Prop) (hq : SqL K H1 a xs) (hD : H1 D = none) (hz : xs.length ≤ 100000)
    (hmono : ∀ i v H H', Rel i v H → Kp [D] H H' → Rel i v H')
    (hs : ∀ (i : Nat) (x : V) (H : Hp) (acc : List V), xs[i]? = some x → Same H1 H → H D = some (.lst acc) → ∀ R : V → Hp → Prop, (∀ v H'', Same H H'' → Rel i v H'' → R v H'') →
      g x (wipe σ vs) H fun σ2 H2 => wipe σ2 vs = wipe σ vs ∧ tt σ2 H2 fun b H3 => if b = true then te σ2 H3 R else False)
    (hd : ∀ H ys, Same H1 H → H D = some (.lst ys) → ys.length = xs.length → (∀ i v, ys[i]? = some v → Rel i v H) → Qd H)
    (hf : ∀ σ2 H2 (R1 R2 : Bool → Hp → Prop), (∀ b H, R1 b H → R2 b H) → tt σ2 H2 R1 → tt σ2 H2 R2) (hg : ∀ x σ2 H2 (R1 R2 : L2.St → Hp → Prop), (∀ σ H, R1 σ H → R2 σ H) → g x σ2 H2 R1 → g x σ2 H2 R2) : LcGo (Itl K a) g tt te vs σ D H1 Qd := by
  refine ⟨fun i m H => m = xs.length - i ∧ i ≤ xs.length ∧ Same H1 H ∧ ∃ acc, H D = some (.lst acc) ∧ acc.length = i ∧ ∀ j v, acc[j]? = some v → Rel j v H, ⟨xs.length, by simp, Nat.zero_le _, same_mut (Same.refl H1) hD, [], upd_same, rfl, fun j v h => by simp at h⟩, ?_⟩
  rintro i m H ⟨rfl, hi, k0, acc, hl, al, hr⟩
  by_cases hlt : i < xs.length
  · have hx : xs[i]? = some xs[i] := List.getElem?_eq_getElem hlt
    refine .inr ⟨⟨xs, xs[i], Same.seq k0 hq, hx⟩, fun H' => Same H1 H' ∧ ∃ acc, H' D = some (.lst acc) ∧ acc.length = i + 1 ∧ ∀ j v, acc[j]? = some v → Rel j v H', fun H' p => ⟨xs.length - (i + 1), by omega, rfl, hlt, p.1, p.2⟩, fun x H' y => ?_⟩
    obtain ⟨rfl, y⟩ := y
    have ex := y xs (Same.seq k0 hq)
    refine hg _ _ _ _ _ (fun σ2 H2 p => ⟨p.1, hf _ _ _ _ (fun b H3 p2 => ?_) p.2⟩) (hs i x H' acc ex k0 hl (fun v H4 => ∃ acc, H4 D = some (.lst acc) ∧ acc.length < sizeLine ∧ (Same H1 (upd H4 D (.lst (acc ++ [v]))) ∧ ∃ acc', (upd H4 D (.lst (acc ++ [v]))) D = some (.lst acc') ∧ acc'.length = i + 1 ∧ ∀ j u, acc'[j]? = some u → Rel j u (upd H4 D (.lst (acc ++ [v])))) ) fun v H4 k4 rv => ?_)
    · cases b with
      | true => exact p2
      | false => exact p2.elim
    · refine ⟨acc, k4 _ _ hl, ?_, same_mut (Same.trans k0 k4) hD, acc ++ [v], upd_same, by rw [List.length_append, al]; rfl, fun j u hj => ?_⟩
      · have : 100000 < sizeLine := by decide
        omega
      have kD : Kp [D] H4 (upd H4 D (.lst (acc ++ [v]))) := Kp.refl.upd (List.mem_singleton.mpr rfl)
      rcases Nat.lt_or_ge j i with z | z
      · rw [List.getElem?_append_left (by omega)] at hj
        exact hmono _ _ _ _ (hmono _ _ _ _ (hr j u hj) (Kp.of k4)) kD
      · have : j = i := by
          have := (List.getElem?_eq_some_iff.mp hj).1
          rw [List.length_append, al] at this
          simp at this
          omega
        subst this
        rw [List.getElem?_append_right (by omega), al, Nat.sub_self] at hj
        cases hj
        exact hmono _ _ _ _ rv kD
  · have e : i = xs.length := by omega
    subst e
    exact .inl ⟨⟨xs, Same.seq k0 hq, Nat.le_refl _⟩, hd H acc k0 hl al hr⟩
abbrev rsOf (ts : Rts) : Rs := ts.map (·.2)
def adr : V → Addr
  | .ref a => a
  | _ => 0
theorem zip_idx_get {α : Type} {l : List α} {i : Nat} : (l.zipIdx)[i]? = (l[i]?).map fun x => (x, i) := by
  rw [List.getElem?_zipIdx]
  simp
theorem rows_of {H : Hp} {p : Addr} {n m : Nat} {ys : List V} (hp : H p = some (.lst ys)) (yl : ys.length = m) (yr : ∀ i v, ys[i]? = some v → ∃ a, v = .ref a ∧ H a = some (.lst (vec m (dg n i)))) : ∃ ps, RowsAt H p m ps ∧ vcs ps = (List.range' 0 m).map (dg n) := by
  refine ⟨ys.zipIdx.map fun x => (adr x.1, dg n x.2), ⟨?_, fun x hx => ?_⟩, ?_⟩
  · rw [hp, List.map_map]
    congr 2
    refine List.ext_getElem? fun i => ?_
    rw [List.getElem?_map, zip_idx_get]
    cases e : ys[i]? with
    | none => rfl
    | some v =>
      obtain ⟨a, rfl, _⟩ := yr i v e
      rfl
  · obtain ⟨⟨v, i⟩, hvi, rfl⟩ := List.mem_map.mp hx
    obtain ⟨j, hj⟩ := List.getElem?_of_mem hvi
    rw [zip_idx_get] at hj
    cases e : ys[j]? with
    | none => rw [e] at hj; cases hj
    | some u =>
      rw [e] at hj
      cases hj
      obtain ⟨a, rfl, h⟩ := yr _ _ e
      exact h
  · show List.map _ _ = _
    rw [List.map_map]
    refine List.ext_getElem? fun i => ?_
    rw [List.getElem?_map, zip_idx_get, List.getElem?_map]
    rcases Nat.lt_or_ge i m with h | h
    · rw [List.getElem?_eq_getElem (by omega), List.getElem?_range' (by omega)]
      simp
    · rw [List.getElem?_eq_none (by omega), List.getElem?_eq_none (by simpa using h)]
      rfl
def sp_Places_field (K : PySem.W.Frag) : Sp := sp2 fun a b H Q _ => ∃ (x t : Addr) (bs : List S4) (n : Nat) (ts : Rts), a = .ref x ∧ b = .ref t ∧ PlacesAt K H x bs n ∧ bs.length ≤ 4 ∧ 0 < n ∧ n < 2 ^ 40 ∧ H t = some (.tup (refsOf ts)) ∧ RtsAt K H ts ∧ OkRts ts ∧ (∀ r ∈ ts, BsOk bs r.2.1) ∧
  ∀ H' p ps, Same H H' → RowsAt H' p bs.length ps → TrOk n bs.length (vcs ps) → SpE n bs.length (vcs ps) ((rsOf ts).map (rowB bs n)) → Q (.ref p) H'
theorem c_Places_field (T : Tx K mg) : MetX P w K mg base CX0 4 (gaK K "Places") "field" (sp_Places_field K) := by
  refine met_of (F_Places_field T) (cl_Places T) (me_Places_field T) bd_Places_field sc_Places_field len2 (bodyX_of fun cdv A outer s H vs Q E hr h => ?_)
  obtain ⟨_, _, rfl, x, t, bs, n, ts, rfl, rfl, hself, b4, n0, n40, ht, hts, hok, hbs, q⟩ := h
  obtain ⟨dx, l, hx, hl⟩ := id hself
  refine ⟨_, (pss_cons (ps_setLc (i := 2) (own := [("place", 4)]) rfl sc_Places_field.nd rfl rfl (sw_true rfl rfl rfl (by decide +kernel)) (pi_list (pe_mx0 (c_Places_span T) hr pass0 (pv 0))) (blkOk_by (own := [("place", 4)]) (N := N_Places_field) (sc := defScope s_Places_field) (by decide +kernel)) (fun _ _ _ _ _ => (pg_name (i := 4) sc_Places_field.nd rfl (Or.inr rfl))) (fun _ _ _ _ _ => pts_nil) (fun _ _ _ _ _ => (pe_lc (own := [("spot", 5)]) rfl sc_Places_field.nd (show PI _ _ _ (iList K _) from pi_list (pe_mx0 (c_Places_span T) hr pass0 (pv 0))) (blkOk_by (own := [("spot", 5)]) (N := N_Places_field) (sc := ({ kind := .function, names := [(".0", .local), ("place", .cell), ("self", .cell)], isGenerator := false, isCoroutine := false } : Scope)) (by decide +kernel)) (fun _ _ _ _ _ => (pg_name (i := 5) sc_Places_field.nd rfl (Or.inl rfl))) (fun _ _ _ _ _ => pts_nil) (fun _ _ _ _ _ => (pe_ifExp (pt_cmpR op_eq (pv 5) (pv 4) (nomark _)) (show PE _ _ (tFld K _ "whole") from pe_fld (pv 0) rfl) pe_int)))))
      (pss_cons (ps_for PassesOwn.never rfl (pi_tup (pv 1)) (pg_name (i := 3) sc_Places_field.nd rfl (Or.inl rfl)) (pss_one (ps_set (i := 2) sc_Places_field.nd rfl (Or.inl rfl) (pe_mx (c_Places_with_row T) hr pass0 (pv 0) (pa_cons (pv 2) (pa_cons (pe_mx (c_Places_row T) hr pass0 (pv 0) (pa_cons (pv 3) pa_nil)) pa_nil))))))
      (pss_one (ps_ret (pv 2))))), ?_⟩
  walk_at "go"
  refine ⟨x, dx, _, rfl, hx, rfl, ?_⟩
  walk_at "go"
  refine ⟨_, rfl, x, bs, n, rfl, hself, b4, fun H1 sp k1 hsp => ?_⟩
  have w0 : (0 : Int) < (n : Int) := by omega
  generalize em : bs.length = m at *
  refine ⟨sp, rfl, ⟨_, SqL.of hsp⟩, fun D hD => lc_goN (fun i v H => ∃ a, v = .ref a ∧ a ≠ D ∧ H a = some (.lst (vec m (dg n i)))) (SqL.of hsp) hD (by rw [vec_len]; omega) (fun i v H H' h k => ?_) (fun i y H3 acc hy k3 hacc Rr hRr => ?_) (fun H3 ys k3 hD3 yl yr => ?_) (fun _ _ _ _ h p => h _ _ p) (fun _ _ _ _ _ h p => h _ _ p)⟩
  · obtain ⟨a, rfl, h1, h2⟩ := h
    exact ⟨a, rfl, h1, k _ _ (fun z => h1 (List.mem_singleton.mp z)) h2⟩
  · obtain ⟨hi, rfl⟩ := vec_of hy
    have kk := Same.trans k1 k3
    walk_at "go"
    refine ⟨rfl, ?_⟩
    walk_at "go"
    refine iteT ?_
    walk_at "go"
    refine ⟨x, dx, _, rfl, kk _ _ hx, rfl, ?_⟩
    walk_at "go"
    refine ⟨_, rfl, x, bs, n, rfl, hself.mono kk, by omega, fun H4 sp2 k4 hsp2 => ?_⟩
    rw [em] at hsp2
    refine ⟨sp2, rfl, ⟨_, SqL.of hsp2⟩, fun D2 hD2 => lc_goL ((List.range m).map fun j => some (.int (dg n i j))) (SqL.of hsp2) (by rw [vec_len, List.length_map, List.length_range]) hD2 (by rw [List.length_map, List.length_range]; omega) (fun j y o H5 hy hk k5 R5 hR5 => ?_) (fun H5 k5 hD5 => ?_)⟩
    · obtain ⟨hj, rfl⟩ := vec_of hy
      have eo := ks_of hk
      subst eo
      walk_at "go"
      refine ⟨rfl, ?_⟩
      walk_at "go"
      refine iteT ?_
      walk_at "go"
      unfold dg at hR5
      refine ifd (fun hb => ?_) (fun hb => ?_)
      · rw [if_pos (by omega)] at hR5
        walk_at "go"
        refine ⟨x, _, dx, _, _, rfl, k5 _ _ (k4 _ _ (kk _ _ hx)), cl_Places T, na_Places_whole T, fl2 (by decide), ?_⟩
        exact hR5 H5 (Same.refl H5)
      · rw [if_neg (by omega)] at hR5
        walk_at "go"
        exact hR5 H5 (Same.refl H5)
    · rw [vec_ks] at hD5
      refine hRr (.ref D2) H5 (Same.trans k4 k5) ⟨D2, rfl, fun z => ?_, hD5⟩
      have := k4 _ _ hacc
      rw [← z, hD2] at this
      cases this
  have kk := Same.trans k1 k3
  obtain ⟨ps0, r0, e0⟩ := rows_of (n := n) hD3 (by rw [yl, vec_len]) fun i v h => let ⟨a, h1, _, h2⟩ := yr i v h; ⟨a, h1, h2⟩
  have tr0 : TrOk n m (vcs ps0) := by
    rw [e0]
    refine ⟨Tri.start w0 (by omega), fun t ht i hi => ?_⟩
    obtain ⟨j, _, rfl⟩ := List.mem_map.mp ht
    unfold dg
    split <;> omega
  walk_at "go"
  refine ⟨t, rfl, ⟨_, SqT.of (kk _ _ ht)⟩, forT (xs := refsOf ts) (fun i σ' H' => Same H H' ∧ ∃ (p : Addr) (ps : List (Addr × Vc)) (v : Option V), σ' = [some (.ref x), some (.ref t), some (.ref p), v, none, none] ∧ RowsAt H' p m ps ∧ TrOk n m (vcs ps) ∧ SpE n m (vcs ps) (((rsOf ts).take i).map (rowB bs n)))
    ⟨kk, D, ps0, none, rfl, r0, tr0, by rw [e0]; exact Sp.start⟩ (fun i σ' H' hi h => SqT.of (h.1 _ _ ht)) (fun i y σ' H' hy h => ?_) (fun σ' H' h => ?_)⟩
  · obtain ⟨k, p, ps, v, rfl, hrows, htr, hsp⟩ := h
    obtain ⟨r, hr', rfl⟩ := refs_get hy
    have rm := List.mem_of_getElem? hr'
    obtain ⟨o1, o2, o3, _⟩ := hok r rm
    walk_at "go"
    refine ⟨x, dx, _, rfl, k _ _ hx, rfl, ?_⟩
    walk_at "go"
    refine ⟨x, dx, _, rfl, k _ _ hx, rfl, ?_⟩
    walk_at "go"
    refine ⟨_, _, rfl, x, r.1, bs, n, r.2.1, r.2.2, rfl, rfl, hself.mono k, n40, (hts r rm).mono k, hbs r rm, o2, o3, fun H4 ra k4 hra => ?_⟩
    rw [em] at hra
    refine ⟨_, _, _, rfl, x, p, ra, bs, n, ps, _, rfl, rfl, rfl, hself.mono (Same.trans k k4), by omega, n0, n40, by rw [em]; exact ⟨k4 _ _ hrows.1, fun d hd => k4 _ _ (hrows.2 d hd)⟩, by rw [em]; exact htr, by rw [em]; exact hra, fun H5 p5 ps5 k5 r5 t5 s5 => ?_⟩
    rw [em] at r5 t5 s5
    walk_at "go"
    refine ⟨Same.trans k (Same.trans k4 k5), p5, ps5, _, rfl, r5, t5, s5.trans ((hsp.cons _).trans ?_)⟩
    have et : (rsOf ts).take (i + 1) = (rsOf ts).take i ++ [r.2] := by
      rw [List.take_add_one, List.getElem?_map, hr']
      rfl
    rw [et, List.map_append]
    exact SpE.of (fun u hu => Sp0.mem (by simpa [or_comm] using hu)) fun u hu => Sp0.mem (by simpa [or_comm] using hu)
  · obtain ⟨k, p, ps, v, rfl, hrows, htr, hsp⟩ := h
    rw [List.take_of_length_le (by rw [List.length_map, List.length_map]; exact Nat.le_refl _)] at hsp
    walk_at "go"
    exact q H' p ps k hrows htr hsp
end
end PP
-- text WI
namespace PP
open PySem PySem.Spec PyProof.Rows L2
section
variable {P : Program} {w : World} {K : PySem.W.Frag} {mg : Str → Option Value} {base : Heap}
def sp_Places_size (K : PySem.W.Frag) : Sp := sp2 fun a b H Q _ => ∃ (x p : Addr) (bs : List S4) (n : Nat) (ps : List (Addr × Vc)), a = .ref x ∧ b = .ref p ∧ PlacesAt K H x bs n ∧ bs.length ≤ 4 ∧ 0 < n ∧ n < 2 ^ 40 ∧ RowsAt H p bs.length ps ∧ TrOk n bs.length (vcs ps) ∧ ∀ H', Same H H' → Q (.int (szT n 0 (vcs ps))) H'
theorem c_Places_size (T : Tx K mg) : MetX P w K mg base CX0 1 (gaK K "Places") "size" (sp_Places_size K) := by
  refine met_of (F_Places_size T) (cl_Places T) (me_Places_size T) bd_Places_size sc_Places_size len2 (bodyX_of fun cdv A outer s H vs Q E hr h => ?_)
  obtain ⟨_, _, rfl, x, p, bs, n, ps, rfl, rfl, hself, b4, n0, n40, ⟨hp, hps⟩, tr, q⟩ := h
  obtain ⟨dx, l, hx, hl⟩ := id hself
  refine ⟨_, (pss_cons (ps_set (i := 2) sc_Places_size.nd rfl (Or.inl rfl) pe_int)
      (pss_cons (ps_for PassesOwn.never rfl (pi_enum (by rfl) (b_enumerate T) (pa_cons (pv 1) pa_nil)) (pg_tup rfl (pgs_cons (pg_name (i := 3) sc_Places_size.nd rfl (Or.inl rfl)) (pgs_cons (pg_name (i := 4) sc_Places_size.nd rfl (Or.inl rfl)) pgs_nil))) (pss_one (ps_set (i := 2) sc_Places_size.nd rfl (Or.inl rfl) (pe_op op_mulW (pv 2) (pe_op op_fdivW (pe_fld (pv 0) rfl) (pe_ix ix_list (pv 4) (pv 3) (fun _ _ => rfl)))))))
      (pss_one (ps_ret (pv 2))))), ?_⟩
  have w0 : (0 : Int) < (n : Int) := by omega
  have pl : ps.length = bs.length := by
    have := tr.tri.len
    rw [List.length_map] at this
    omega
  generalize bs.length = m at *
  walk_at "go"
  refine ⟨p, _, rfl, SqL.of hp, forP walk_enum (fun i σ' H' => Same H H' ∧ ∃ (f : Int) (v u : Option V), σ' = [some (.ref x), some (.ref p), some (.int f), v, u] ∧ 0 ≤ f ∧ f.natAbs < 2 ^ (40 * i + 1) ∧ szT n 0 (vcs ps) = f * szT n i ((vcs ps).drop i))
    ⟨Same.refl H, 1, none, none, rfl, by decide, by decide, by rw [Int.one_mul]; rfl⟩ (fun i σ' H' hi h => SqL.of (h.1 _ _ hp)) (fun i x' y' T' σ' H' hi ex ey h hT => ?_) (fun σ' H' h => ?_)⟩
  · obtain ⟨k, f, v, u, rfl, f0, fb, ef⟩ := h
    cases ex
    obtain ⟨pr, hpr, rfl⟩ : ∃ pr, ps[i]? = some pr ∧ y' = .ref pr.1 := by
      rw [List.getElem?_map] at ey
      cases e : ps[i]? with
      | none => rw [e] at ey; cases ey
      | some r => rw [e] at ey; cases ey; exact ⟨r, rfl, rfl⟩
    have pm := List.mem_of_getElem? hpr
    have im : i < m := by
      have := (List.getElem?_eq_some_iff.mp hpr).1
      omega
    have ed : (vcs ps).drop i = pr.2 :: (vcs ps).drop (i + 1) := drop_get (by rw [List.getElem?_map, hpr]; rfl)
    have tri := tr.tri.drop (i := i) (by rw [List.length_map]; omega)
    rw [Nat.zero_add, ed] at tri
    rw [ed, szT, ← Int.mul_assoc] at ef
    have tp := tri.2.1
    have tb := (tr.bd pr.2 (List.mem_map_of_mem pm)) i im
    have kT := same_new (o := .tup [.int (i : Nat), .ref pr.1]) hT
    have q0 : 0 ≤ (n : Int) / pr.2 i := Int.ediv_nonneg (by omega) (by omega)
    have q1 : (n : Int) / pr.2 i ≤ n := Int.ediv_le_self _ (by omega)
    have qb := int_bits q0 q1 n40
    refine g_gtup (SqT.of upd_same) rfl ?_
    walk_at "go"
    refine ⟨x, _, dx, _, _, rfl, kT _ _ (k _ _ hx), cl_Places T, na_Places_whole T, fl2 (by decide), ?_⟩
    walk_at "go"
    refine g_ixL (SqL.of (kT _ _ (k _ _ (hps pr pm)))) (atI_nat (vec_get im)) ?_
    refine g_I (wide_div (b := 40) tp (int_bits (by omega) tb.2 n40) (by decide) (by decide)) ?_
    refine g_I (wide_mul fb qb (by omega) (by decide) (by omega)) ?_
    walk_at "go"
    refine ⟨Same.trans k kT, _, _, _, rfl, Int.mul_nonneg f0 q0, ?_, ef⟩
    have := wide_lt fb qb
    rw [show 40 * (i + 1) + 1 = 40 * i + 1 + 40 by omega]
    exact this
  · obtain ⟨k, f, v, u, rfl, f0, fb, ef⟩ := h
    rw [List.drop_eq_nil_of_le (by rw [List.length_map, List.length_map]; exact Nat.le_refl _), szT, Int.mul_one] at ef
    walk_at "go"
    rw [← ef]
    exact q H' k
theorem partsOf_mem : ∀ {ts : Rts} {r : Addr × E4 × Nat}, r ∈ ts → r.2.1.tS ∈ partsOf ts ∧ r.2.1.bS ∈ partsOf ts
  | x :: l, r, h => by
    rw [partsOf]
    rcases List.mem_cons.mp h with z | z
    · rw [z]
      exact ⟨List.mem_cons_self .., List.mem_cons_of_mem _ (List.mem_cons_self ..)⟩
    · obtain ⟨h1, h2⟩ := partsOf_mem z
      exact ⟨List.mem_cons_of_mem _ (List.mem_cons_of_mem _ h1), List.mem_cons_of_mem _ (List.mem_cons_of_mem _ h2)⟩
theorem lcmD_R : ∀ {ts : Rts} {n : Nat}, lcmD n ts = lcmR n (rsOf ts)
  | [], _ => rfl
  | x :: l, n => by
    rw [lcmD, lcmD_R]
    rfl
def sp_degree_for (K : PySem.W.Frag) : Sp := sp1 fun a H Q _ => ∃ (t : Addr) (ts : Rts), a = .ref t ∧ H t = some (.tup (refsOf ts)) ∧ RtsAt K H ts ∧ OkRts ts ∧ ts.length ≤ 5 ∧ ∀ H' (n : Nat), Same H H' → TwrN (rsOf ts) n → Q (.int (n : Int)) H'
theorem c_degree_for (T : Tx K mg) : CalX P w K mg base CX0 8 "degree_for" (sp_degree_for K) [] := by
  refine cal0_of (F_degree_for T) (g_degree_for T) bd_degree_for sc_degree_for len1 (fun cdv A outer s H vs Q E hr h => ?_)
  obtain ⟨_, rfl, t, ts, rfl, ht, hts, hok, tl, q⟩ := h
  refine ⟨_, (pss_cons (ps_set (i := 1) sc_degree_for.nd rfl (Or.inl rfl) (pe_mkx (c_Places_init T) hr pass0 (pa_cons (pv 0) pa_nil)))
      (pss_one (ps_ret (pe_mx (c_Places_size T) hr pass0 (pv 1) (pa_cons (pe_mx (c_Places_field T) hr pass0 (pv 1) (pa_cons (pv 0) pa_nil)) pa_nil))))), ?_⟩
  walk_at "go"
  intro x dx hx hdx ne
  have k0 : ∀ a o, H a = some o → (upd (upd H dx (.own x)) x (.ins (gaK K "Places") dx [])) a = some o ∧ a ≠ x := fun a o e => ⟨by rw [upd_ne (ne_of_none e hx), upd_ne (ne_of_none e hdx)]; exact e, ne_of_none e hx⟩
  refine ⟨_, _, rfl, x, dx, t, ts, rfl, upd_same, rfl, (k0 _ _ ht).1, hts.mono fun a o e => (k0 a o e).1, hok, tl, fun bs H1 hB hb k1 hp => ⟨rfl, ?_⟩⟩
  have kk : Same H H1 := fun a o e => k1 a o (fun z => (k0 a o e).2 (List.mem_singleton.mp z)) (k0 a o e).1
  have bz : ∀ b ∈ bs, b ≠ .zero := fun b hb => S4.nz_of_gx (hB.prim b hb)
  have b4 := dj_len hB.dj bz
  obtain ⟨l0, lb⟩ := lcmD_ok (l := ts) (w := 1) (B := 1) hok (by decide) (by decide)
  have l40 : lcmD 1 ts < 2 ^ 40 := by
    have : 60 ^ ts.length ≤ 60 ^ 5 := Nat.pow_le_pow_right (by decide) tl
    have e5 : (60 : Nat) ^ 5 < 2 ^ 40 := by decide
    omega
  have hbs : ∀ r ∈ ts, BsOk bs r.2.1 := fun r hr => ⟨hB.dj, hB.prim, hb, hB.mon _ (partsOf_mem hr).1, hB.mon _ (partsOf_mem hr).2, (hok r hr).1⟩
  obtain ⟨dx2, l, hpx, _⟩ := id hp
  walk_at "go"
  refine ⟨x, dx2, _, rfl, hpx, rfl, ?_⟩
  walk_at "go"
  refine ⟨x, dx2, _, rfl, hpx, rfl, ?_⟩
  walk_at "go"
  refine ⟨_, _, rfl, x, t, bs, _, ts, rfl, rfl, hp, b4, l0, l40, kk _ _ ht, hts.mono kk, hok, hbs, fun H2 p ps k2 hr2 tr2 sp2 => ?_⟩
  refine ⟨_, _, rfl, x, p, bs, _, ps, rfl, rfl, hp.mono k2, b4, l0, l40, hr2, tr2, fun H3 k3 => ?_⟩
  have nn := szT_nn (w := (lcmD 1 ts : Nat)) (by omega) tr2.tri
  rw [lcmD_R] at tr2 sp2 l0 nn
  have tw := twr_of (bs := bs) (rs := rsOf ts) l0 hB.dj hB.prim (fun r hr => by
    obtain ⟨r', hr', rfl⟩ := List.mem_map.mp hr
    exact ⟨(hbs r' hr').mt, (hbs r' hr').mb⟩) tr2.tri sp2
  have := q H3 _ (Same.trans kk (Same.trans k2 k3)) tw
  rw [Int.toNat_of_nonneg nn] at this
  rw [lcmD_R]
  exact this
def sp_degree_of (K : PySem.W.Frag) : Sp := sp1 fun a H Q _ => ∃ (t : Addr) (ts : Rts), a = .ref t ∧ H t = some (.tup (refsOf ts)) ∧ RtsAt K H ts ∧ OkRts ts ∧ ts.length ≤ 5 ∧ 0 < ts.length ∧ ∀ H' (n : Nat), Same H H' → TwrN (rsOf ts) n → Q (.int (n : Int)) H'
theorem c_degree_of (T : Tx K mg) : CalX P w K mg base CX0 9 "degree_of" (sp_degree_of K) [] := by
  refine cal0_of (F_degree_of T) (g_degree_of T) bd_degree_of sc_degree_of len1 (fun cdv A outer s H vs Q E hr h => ?_)
  obtain ⟨_, rfl, t, ts, rfl, ht, hts, hok, tl, t0, q⟩ := h
  refine ⟨_, (pss_cons (ps_expr (pe_cx (c_check_roots T) hr pass0 (pa_cons (pv 0) pa_nil)))
      (pss_one (ps_ret (pe_cx (c_degree_for T) hr pass0 (pa_cons (pv 0) pa_nil))))), ?_⟩
  walk_at "go"
  refine ⟨_, rfl, t, ts, rfl, ht, hts, tl, t0, fun H1 k1 => ?_⟩
  walk_at "go"
  exact ⟨_, rfl, t, ts, rfl, k1 _ _ ht, hts.mono k1, hok, tl, fun H2 n k2 hn => q H2 n (Same.trans k1 k2) hn⟩
end
end PP
-- text PX
namespace PP
open PySem PySem.Spec PyProof.Rows L2 TL
/-! texts of whole numbers -/
theorem tl_iN (n : Nat) : tl (iS (n : Int)) = numL n := tl_num n
theorem tl_iM {n : Nat} (h : 0 < n) : tl (iS (-(n : Int))) = 45 :: numL n := by
  obtain ⟨m, rfl⟩ : ∃ m, n = m + 1 := ⟨n - 1, by omega⟩
  have e : (-((m + 1 : Nat) : Int)) = Int.negSucc m := rfl
  have e2 : toString (Int.negSucc m) = "-" ++ Nat.repr (m + 1) := rfl
  have e3 : numL (m + 1) = (Nat.repr (m + 1)).toList.map Char.toNat := by
    rw [← tl_num, tl_ofString]
    rfl
  rw [e, tl_ofString, e2, e3, String.toList_append, List.map_append]
  rfl
theorem iS_cases (i : Int) : (∃ n : Nat, i = n ∧ tl (iS i) = numL n) ∨ ∃ n : Nat, 0 < n ∧ i = -(n : Int) ∧ tl (iS i) = 45 :: numL n := by
  rcases Int.le_total 0 i with h | h
  · obtain ⟨n, rfl⟩ := Int.eq_ofNat_of_zero_le h
    exact .inl ⟨n, rfl, tl_iN n⟩
  · by_cases z : i = 0
    · subst z
      exact .inl ⟨0, rfl, tl_iN 0⟩
    · obtain ⟨n, hn⟩ := Int.eq_ofNat_of_zero_le (a := -i) (by omega)
      obtain rfl : i = -(n : Int) := by omega
      exact .inr ⟨n, by omega, rfl, tl_iM (by omega)⟩
theorem iS_free {i : Int} {c : Nat} (h : c < 45 ∨ (45 < c ∧ c < 48) ∨ 57 < c) : c ∉ tl (iS i) := by
  rcases iS_cases i with ⟨n, _, e⟩ | ⟨n, _, _, e⟩
  · rw [e]
    exact numL_free (by omega)
  · rw [e]
    intro z
    rcases List.mem_cons.mp z with z | z
    · omega
    · exact numL_free (by omega) z
theorem numL_head : ∀ {n : Nat}, n ≠ 0 → ∃ c r, numL n = c :: r ∧ c ≠ 48 := by
  intro n
  induction n using Nat.strongRecOn with
  | _ n ih =>
    intro h0
    by_cases h : n < 10
    · exact ⟨_, _, numL_lt h, by omega⟩
    · obtain ⟨c, r, e, hc⟩ := ih (n / 10) (by omega) (by omega)
      exact ⟨c, r ++ [48 + n % 10], by rw [numL_step (by omega), e]; rfl, hc⟩
theorem tl_take (z : Str) : tl (cutS z none (some 1)) = (tl z).take 1 := by
  unfold cutS
  rw [tl_mk, HT.sIx_none, show (1 : Int) = ((1 : Nat) : Int) from rfl, HT.sIx_nat, List.drop_zero, Nat.sub_zero]
  show List.take _ (tl z) = _
  have hl : z.length = (tl z).length := len_tl z
  rcases Nat.eq_zero_or_pos z.length with h | h
  · have e : tl z = [] := List.eq_nil_of_length_eq_zero (by omega)
    rw [e]
    rw [List.take_nil, List.take_nil]
  · congr 1
    omega
theorem tl_drop (z : Str) : tl (cutS z (some 1) none) = (tl z).drop 1 := by
  unfold cutS
  rw [tl_mk, HT.sIx_none, show (1 : Int) = ((1 : Nat) : Int) from rfl, HT.sIx_nat]
  have hl : z.length = (tl z).length := len_tl z
  show List.take _ (List.drop _ (tl z)) = _
  rw [List.take_of_length_le (by rw [List.length_drop]; omega)]
  rcases Nat.eq_zero_or_pos z.length with h | h
  · have e : tl z = [] := List.eq_nil_of_length_eq_zero (by omega)
    rw [e, List.drop_nil, List.drop_nil]
  · congr 1
    omega
section
variable {r : V → Option Int → Option Int → Hp → VK → Prop} {te : TE} {tl th : TO} {σ : L2.St} {H : Hp} {Q : VK} {R : Option Int → Hp → Prop} {x : V} {xs : List V}
theorem g_sl (q : te σ H fun x H1 => tl σ H1 fun l H2 => th σ H2 fun u H3 => r x l u H3 Q) : L2.tSl r te tl th σ H Q := q
theorem g_nop (q : R none H) : tNoPart σ H R := q
theorem g_part (q : te σ H fun x H1 => ∃ i, x = .int i ∧ R (some i) H1) : tPart te σ H R := q
theorem g_isI {i : Int} {R : Int → Prop} (q : R i) : ∃ j, V.int i = .int j ∧ R j := ⟨i, rfl, q⟩
theorem g_m1 {r : V → List V → Hp → VK → Prop} {to : TE} (q : to σ H fun x H1 => (∃ a, x = .str a) ∧ te σ H1 fun y H2 => r x [y] H2 Q) : tM1 r to te σ H Q := q
theorem g_strv {z : Str} {p : Prop} (q : p) : (∃ a, V.str z = .str a) ∧ p := ⟨⟨z, rfl⟩, q⟩
end
/-- texts by their signs -/
theorem str_eq {x y : Str} : x = y ↔ tl x = tl y := ⟨fun h => by rw [h], ext_tl⟩
end PP
local macro_rules | `(tactic| walk_at "g1") => `(tactic| first
  | ((with_reducible refine' PP.g_var ?h1 ?_); (case h1 => rfl))
  | (with_reducible refine PP.g_c ?_) | (with_reducible refine PP.g_op ?_) | (with_reducible refine PP.g_un ?_) | (with_reducible refine PP.g_chain ?_)
  | (with_reducible refine PP.g_I0 ?_) | (with_reducible refine PP.g_U ?_) | (with_reducible refine PP.g_eqI ?_) | (with_reducible refine PP.g_neI ?_) | (with_reducible refine PP.g_eqS ?_) | (with_reducible refine PP.g_neS ?_)
  | (with_reducible refine PP.g_test ?_) | (with_reducible refine PP.g_B ?_) | (with_reducible refine PP.g_and ?_) | (with_reducible refine PP.g_or ?_) | (with_reducible refine PP.g_not ?_) | (with_reducible refine PP.g_if ?_)
  | (with_reducible refine PP.g_andV ?_) | (with_reducible refine PP.g_orV ?_) | (with_reducible refine PP.g_notV ?_) | (with_reducible refine PP.g_bl ?_)
  | (with_reducible refine PP.g_nil ?_) | (with_reducible refine PP.g_cons ?_) | (with_reducible refine PP.g_seq ?_) | (with_reducible refine PP.g_next ?_) | (with_reducible refine PP.g_asg ?_) | (with_reducible refine PP.g_name ?_)
  | (with_reducible refine PP.g_par ?_) | (with_reducible refine PP.g_two ?_) | (with_reducible refine PP.g_par3 ?_) | (with_reducible refine PP.g_three ?_) | (with_reducible refine PP.g_ret ?_) | (with_reducible refine PP.g_retN ?_) | (with_reducible refine PP.g_drop ?_) | (with_reducible refine PP.g_ifS ?_)
  | (with_reducible refine PP.g_call ?_) | (with_reducible refine PP.g_cb ?_) | ((with_reducible refine' PP.g_aug ?h2 ?_); (case h2 => rfl)) | (with_reducible refine PP.g_ipI ?_) | (with_reducible refine PP.g_unp ?_) | ((with_reducible refine' PP.g_lenok ?h3 ?_); (case h3 => rfl)) | (with_reducible refine PP.g_gcons ?_) | (with_reducible refine PP.g_gnil ?_) | (with_reducible refine PP.g_lc ?_) | (with_reducible refine PP.g_iL ?_) | (with_reducible refine PP.g_iT ?_) | (with_reducible refine PP.g_iR1 ?_) | (with_reducible refine PP.g_iR2 ?_) | (with_reducible refine PP.g_iS ?_) | (with_reducible refine PP.g_for ?_) | (with_reducible refine PP.g_sl ?_) | (with_reducible refine PP.g_gsub ?_) | (with_reducible refine PP.g_intI ?_) | (with_reducible refine PP.g_nop ?_) | (with_reducible refine PP.g_part ?_) | (with_reducible refine PP.g_isI ?_) | (with_reducible refine PP.g_m1 ?_) | (with_reducible refine PP.g_strv ?_) | (with_reducible refine PP.g_iE ?_) | (with_reducible refine PP.g_iEl ?_) | (with_reducible refine PP.g_iZ ?_) | (with_reducible refine PP.g_starA ?_) | (with_reducible refine PP.g_js ?_) | (with_reducible refine PP.g_js0 ?_) | (with_reducible refine PP.g_fmt ?_) | (with_reducible refine PP.g_fld ?_) | (with_reducible refine PP.g_sfld ?_) | (with_reducible refine PP.g_prop ?_) | (with_reducible refine PP.g_meth ?_) | (with_reducible refine PP.g_make ?_) | (with_reducible refine PP.g_revT ?_) | (with_reducible refine PP.g_yes ?_) | (with_reducible refine PP.g_tup ?_) | (with_reducible refine PP.g_lst ?_))
local macro_rules | `(tactic| walk_at "go") => `(tactic| repeat (walk_at "g1"))
-- text WJ
namespace PP
open PySem PySem.Spec PyProof.Rows L2 TL
section
variable {P : Program} {w : World} {K : PySem.W.Frag} {mg : Str → Option Value} {base : Heap}
/-- a comprehension over a text, where all stays -/
theorem lc_goS {z : Str} {g : TG} {tt : TT} {te : TE} {vs : List Nat} {σ : L2.St} {D : Addr} {H1 : Hp} {Qd : Hp → Prop} (ks : List (Option V)) (hl : ks.length = z.cps.size) (hD : H1 D = none) (hz : ks.length ≤ 100000)
    (hs : ∀ (i c : Nat) (k : Option V) (H : Hp), z.cps[i]? = some c → ks[i]? = some k → Same H1 H → ∀ R : Option V → Hp → Prop, (∀ H'', Same H H'' → R k H'') →
      g (.str ⟨#[c]⟩) (wipe σ vs) H fun σ2 H2 => wipe σ2 vs = wipe σ vs ∧ tt σ2 H2 fun b H3 => if b = true then te σ2 H3 fun y H4 => R (some y) H4 else R none H3)
    (hd : ∀ H, Same H1 H → H D = some (.lst (ks.filterMap id)) → Qd H) : LcGo (Its z) g tt te vs σ D H1 Qd := by
  refine lc_go ks hD hz (fun i H k hi => by rw [hl] at hi; exact hi) (fun H k => by rw [hl]; exact Nat.le_refl _) (fun i H x H' k y => ?_) (fun i k H x H' hk kk y R hR => ?_) hd
  · rw [y.1]
    exact Same.refl H
  · obtain ⟨rfl, c, hc, rfl⟩ := y
    exact hs i c k H' hc hk kk R hR
theorem dig_mem {c : Nat} (h : 48 ≤ c ∧ c ≤ 57) : c ∈ (Str.ofString "0123456789").cps.toList := by
  have : ∀ d : Nat, d < 58 → 48 ≤ d → d ∈ (Str.ofString "0123456789").cps.toList := by decide
  exact this c (by omega) h.1
def sp_number_in : Sp := sp1 fun a H Q _ => ∃ n : Nat, a = .str (iS (n : Int)) ∧ n < 10 ^ 40 ∧ ∀ H', Same H H' → Q (.int (n : Int)) H'
theorem c_number_in (T : Tx K mg) : CalX P w K mg base CX0 1 "number_in_kinds" sp_number_in [] := by
  refine cal0_of (F_number_in T) (g_number_in T) bd_number_in sc_number_in len1 (fun cdv A outer s H vs Q E hr h => ?_)
  obtain ⟨_, rfl, n, rfl, nb, q⟩ := h
  have et := tl_iN n
  have ln := numL_len (k := 40) (by decide) nb
  have hz : (iS (n : Int)).cps.size = (numL n).length := by rw [← et]; simp
  have hlen : (iS (n : Int)).length ≤ 40 := by rw [len_tl, et]; exact ln
  have hne := numL_ne n
  refine ⟨_, (pss_cons (ps_if (PW.pt (pw_or (pt_cmpR op_eq (pv 0) pe_str (nomark _)) (pw_or1 (pt_not (pt_val (pe_callB (cr_all rfl) (by rfl) (b_all T) (by decide +kernel) (pa_cons (pe_lc (own := [("sign", 1)]) rfl sc_number_in.nd (pi_str (pv 0)) (blkOk_by (own := [("sign", 1)]) (N := N_number_in) (sc := defScope s_number_in) (by decide +kernel)) (fun _ _ _ _ _ => (pg_name (i := 1) sc_number_in.nd rfl (Or.inl rfl))) (fun _ _ _ _ _ => pts_nil) (fun _ _ _ _ _ => (pe_cmpR op_in_sign (pv 1) (pe_gk rfl (gs (k_DIGITS T))) (by rfl)))) pa_nil))))))) (pss_one (ps_ret pe_non)) pss_nil)
      (pss_one (ps_ret (pe_ifExp (PW.pt (pw_and (pt_cmpR op_eq (pe_ix ix_str (pv 0) pe_int (fun _ _ => rfl)) pe_str (nomark _)) (pw_and1 (pt_cmpR op_ne (pv 0) pe_str (nomark _))))) pe_non (pe_callTy call_int_str (by rfl) (b_int T) (by decide +kernel) (pa_cons (pv 0) pa_nil)))))), ?_⟩
  walk_at "go"
  refine ifF (fun z => hne ?_) ?_
  · rw [← et, z]
    rfl
  walk_at "go"
  refine ⟨_, rfl, fun D hD => lc_goS ((numL n).map fun _ => some (.bl true)) (by rw [List.length_map, hz]) hD (by rw [List.length_map]; omega) (fun i c k H3 hc hk k3 Rr hRr => ?_) (fun H3 k3 hD3 => ?_)⟩
  · have cm : c ∈ numL n := by
      rw [← et]
      exact List.mem_of_getElem? (by simpa using hc)
    have ek : k = some (.bl true) := by
      rw [List.getElem?_map] at hk
      cases e : (numL n)[i]? with
      | none => rw [e] at hk; cases hk
      | some _ => rw [e] at hk; cases hk; rfl
    subst ek
    walk_at "go"
    refine ⟨rfl, ?_⟩
    walk_at "go"
    refine iteT ?_
    walk_at "go"
    refine ⟨c, _, rfl, rfl, ?_⟩
    rw [decide_eq_true (dig_mem (numL_digits n c cm))]
    exact hRr H3 (Same.refl H3)
  have e1 : ((numL n).map fun _ => some (V.bl true)).filterMap id = ((numL n).map fun _ => true).map V.bl := by
    rw [List.filterMap_map, List.map_map]
    exact List.filterMap_eq_map (f := fun _ : Nat => V.bl true) ▸ rfl
  rw [e1] at hD3
  walk_at "go"
  refine ⟨D, _, rfl, SqL.of hD3, ?_⟩
  have e2 : ((numL n).map fun _ => true).all id = true := by simp
  rw [e2]
  walk_at "go"
  refine iteF ?_
  walk_at "go"
  obtain ⟨c, r, ec⟩ : ∃ c r, numL n = c :: r := by
    cases h : numL n with
    | nil => exact absurd h hne
    | cons c r => exact ⟨c, r, rfl⟩
  have t0 : tl (Str.ofString "0") = [48] := rfl
  have fin : tCB (fun xs H Q => ∃ a n, xs = [V.str a] ∧ intText? a = some n ∧ a.length ≤ 640 ∧ Q (V.int n) H) (tCons (tVar 0) tNil) (L2.start N_number_in [V.str (iS (n : Int))]) H3 Q := by
    walk_at "go"
    exact ⟨_, _, rfl, int_num (by omega), by omega, q H3 k3⟩
  refine ⟨_, 0, c, rfl, rfl, big_line (by omega), ?_, ?_⟩
  · have : (iS (n : Int)).cps.toList = c :: r := by rw [← ec]; exact et
    rw [this]
    exact atI_nat (j := 0) rfl
  walk_at "go"
  refine ifd (fun hb => ?_) (fun hb => ?_)
  · have hc : c = 48 := by
      have := congrArg tl hb
      rw [t0] at this
      exact (List.cons.inj this).1
    have n0 : n = 0 := Decidable.byContradiction fun z => by
      obtain ⟨c', r', e', hc'⟩ := numL_head z
      rw [ec] at e'
      exact hc' ((List.cons.inj e').1 ▸ hc)
    walk_at "go"
    refine ifnF (by rw [n0]; rfl) ?_
    first | exact fin | (refine iteF ?_; exact fin)
  · refine iteF ?_
    exact fin
theorem tl_neg1 : tl (Str.ofString "-") = [45] := rfl
def sp_integer_in : Sp := sp1 fun a H Q _ => ∃ i : Int, a = .str (iS i) ∧ i.natAbs < 10 ^ 40 ∧ ∀ H', Same H H' → Q (.int i) H'
theorem c_integer_in (T : Tx K mg) : CalX P w K mg base CX0 2 "integer_in" sp_integer_in [] := by
  refine cal0_of (F_integer_in T) (g_integer_in T) bd_integer_in sc_integer_in len1 (fun cdv A outer s H vs Q E hr h => ?_)
  obtain ⟨_, rfl, i, rfl, nb, q⟩ := h
  refine ⟨_, (pss_cons (ps_set (i := 1) sc_integer_in.nd rfl (Or.inl rfl) (pe_cx (c_number_in T) hr pass0 (pa_cons (pe_ifExp (pt_cmpR op_eq (pe_slice sl_str (pv 0) po_none (po_some pe_int)) pe_str (nomark _)) (pe_slice sl_str (pv 0) (po_some pe_int) po_none) (pv 0)) pa_nil)))
      (pss_cons (ps_if (pt_cmpR op_ne (pe_slice sl_str (pv 0) po_none (po_some pe_int)) pe_str (nomark _)) (pss_one (ps_ret (pv 1))) pss_nil)
      (pss_one (ps_ret (pe_ifExp (PW.pt (pw_or (pt_cmpR op_isN (pv 1) pe_non (nomark _)) (pw_or1 (pt_cmpR op_eq (pv 1) pe_int (nomark _))))) pe_non (pe_un un_neg (pv 1))))))), ?_⟩
  walk_at "go"
  rcases iS_cases i with ⟨n, rfl, et⟩ | ⟨n, n0, rfl, et⟩
  · have ln := numL_len (n := n) (k := 40) (by decide) (by omega)
    have hlen : (iS (n : Int)).length ≤ 40 := by rw [len_tl, et]; exact ln
    have hh : ¬ cutS (iS (n : Int)) none (some 1) = Str.ofString "-" := fun z => by
      have := congrArg tl z
      rw [tl_take, et, tl_neg1] at this
      cases e : numL n with
      | nil => exact numL_ne n e
      | cons c r =>
        rw [e] at this
        have hc := numL_digits n c (by rw [e]; exact List.mem_cons_self ..)
        have := (List.cons.inj this).1
        omega
    have hl := big_line (n := (iS (n : Int)).length) (by omega)
    refine ⟨_, rfl, hl, ?_⟩
    walk_at "go"
    refine ifF hh ?_
    walk_at "go"
    refine ⟨_, rfl, n, rfl, by omega, fun H1 k1 => ?_⟩
    walk_at "go"
    refine ⟨_, rfl, hl, ?_⟩
    walk_at "go"
    refine ifnT hh ?_
    walk_at "go"
    exact q H1 k1
  · have ln := numL_len (n := n) (k := 40) (by decide) (by omega)
    have hlen : (iS (-(n : Int))).length ≤ 41 := by
      rw [len_tl, et, List.length_cons]
      omega
    have hl := big_line (n := (iS (-(n : Int))).length) (by omega)
    have hh : cutS (iS (-(n : Int))) none (some 1) = Str.ofString "-" := ext_tl (by rw [tl_take, et, tl_neg1]; rfl)
    have hd : cutS (iS (-(n : Int))) (some 1) none = iS (n : Int) := ext_tl (by rw [tl_drop, et, tl_iN]; rfl)
    refine ⟨_, rfl, hl, ?_⟩
    walk_at "go"
    refine ifT hh ?_
    walk_at "go"
    refine ⟨_, rfl, hl, ?_⟩
    walk_at "go"
    rw [hd]
    refine ⟨_, rfl, n, rfl, by omega, fun H1 k1 => ?_⟩
    walk_at "go"
    refine ⟨_, rfl, hl, ?_⟩
    walk_at "go"
    refine ifnF hh ?_
    walk_at "go"
    refine ⟨rfl, ?_⟩
    walk_at "go"
    refine ifF (fun z => by cases z) ?_
    walk_at "go"
    refine ifF (by omega) ?_
    walk_at "go"
    exact q H1 k1
theorem split_of {c : Nat} {y : Str} (hy : tl y = [c]) (hc : c < 256) {parts : List Str} (hne : parts ≠ []) (hp : ∀ p ∈ parts, c ∉ tl p) : Txt.split (Txt.join y parts) y = parts := by
  refine split_join hy ?_ hne hp
  have : y.cps = #[c] := Array.toList_inj.mp hy
  rw [this]
  simpa using hc
theorem join1 {y p : Str} : Txt.join y [p] = p := join_eq y [p]
theorem join2 {y p q : Str} : Txt.join y [p, q] = p ++ y ++ q := join_eq y [p, q]
theorem nText_split {t b : Int} : Txt.split (nText t b) (Str.ofString "/") = if b = 1 then [iS t] else [iS t, iS b] := by
  have h47 : tl (Str.ofString "/") = [47] := rfl
  have f : ∀ i : Int, 47 ∉ tl (iS i) := fun i => iS_free (by decide)
  unfold nText
  split
  · have := split_of h47 (by decide) (parts := [iS t]) (by simp) (fun p hp => by rw [List.mem_singleton.mp hp]; exact f t)
    rw [join1] at this
    exact this
  · have := split_of h47 (by decide) (parts := [iS t, iS b]) (by simp) (fun p hp => by
      rcases List.mem_cons.mp hp with z | z
      · rw [z]; exact f t
      · rw [List.mem_singleton.mp z]; exact f b)
    rw [join2] at this
    exact this
/-- the numbers that are told, texts of them -/
def sp_number_in2 : Sp := sp1 fun a H Q _ => ∃ t b : Int, a = .str (nText t b) ∧ NumOk t b ∧ ∀ H' p, Same H H' → Num H' p t b → Q (.ref p) H'
theorem c_number_in2 (T : Tx K mg) : CalX P w K mg base CX0 4 "number_in_numbers" sp_number_in2 [] := by
  refine cal0_of (F_number_in2 T) (g_number_in2 T) bd_number_in2 sc_number_in2 len1 (fun cdv A outer s H vs Q E hr h => ?_)
  obtain ⟨_, rfl, t, b, rfl, ok, q⟩ := h
  obtain ⟨o1, o2, o3, o4, o5, _⟩ := id ok
  have lt : t.natAbs.log2 < 1920 := Nat.lt_trans (PySem.Flt.log2_lt_of (k := 120) (by decide) (by omega)) (by decide)
  have lb : b.natAbs.log2 < 1920 := Nat.lt_trans (PySem.Flt.log2_lt_of (k := 120) (by decide) (by omega)) (by decide)
  have hl := nText_len lt lb
  refine ⟨_, (pss_cons (ps_set (i := 1) sc_number_in2.nd rfl (Or.inl rfl) (pe_ifExp (pt_val (pe_callB call_isi (by rfl) (b_isinstance T) (by decide +kernel) (pa_cons (pv 0) (pa_cons (pe_bltn (v := .ty "str") rfl (b_str T) (by decide +kernel) rfl) pa_nil)))) (pe_lc (own := [("part", 3)]) rfl sc_number_in2.nd (pi_list (pe_split (pv 0) pe_str)) (blkOk_by (own := [("part", 3)]) (N := N_number_in2) (sc := defScope s_number_in2) (by decide +kernel)) (fun _ _ _ _ _ => (pg_name (i := 3) sc_number_in2.nd rfl (Or.inl rfl))) (fun _ _ _ _ _ => pts_nil) (fun _ _ _ _ _ => (pe_cx (c_integer_in T) hr pass0 (pa_cons (pv 3) pa_nil)))) (pe_lst pa_nil)))
      (pss_cons (ps_if (PW.pt (pw_or (pt_cmpR op_in_seq pe_non (pv 1) (by rfl)) (pw_or1 (pt_not (pt_chain op_le op_le pe_int (pe_callB call_len_seq (by rfl) (b_len T) (by decide +kernel) (pa_cons (pv 1) pa_nil)) pe_int))))) (pss_one (ps_ret pe_non)) pss_nil)
      (pss_cons (ps_set (i := 2) sc_number_in2.nd rfl (Or.inl rfl) (pe_tup (pa_cons (pe_ix ix_list (pv 1) pe_int (fun _ _ => rfl)) (pa_cons (pe_ifExp (pt_cmpR op_eq (pe_callB call_len_seq (by rfl) (b_len T) (by decide +kernel) (pa_cons (pv 1) pa_nil)) pe_int (nomark _)) (pe_ix ix_list (pv 1) pe_int (fun _ _ => rfl)) pe_int) pa_nil))))
      (pss_one (ps_ret (pe_ifExp (PW.pt (pw_and (pt_val (pe_cx (c_is_number T) hr pass0 (pa_cons (pv 2) pa_nil))) (pw_and1 (pt_cmpR op_eq (pe_cx (c_text_of T) hr pass0 (pa_cons (pv 2) pa_nil)) (pv 0) (nomark _))))) (pv 2) pe_non)))))), ?_⟩
  walk_at "go"
  refine ⟨_, _, _, _, true, rfl, ClsV.ty "str", TyX.base (TyOf.str _), kit_ty (by decide +kernel), ?_⟩
  walk_at "go"
  refine iteT ?_
  walk_at "go"
  refine ⟨_, _, rfl, rfl, rfl, Nat.le_trans (by omega : _ ≤ 4000) (by decide), fun sp hsp => ?_⟩
  obtain ⟨is, his, hc⟩ : ∃ is : List Int, Txt.split (nText t b) (Str.ofString "/") = is.map iS ∧ (is = [t] ∧ b = 1 ∨ is = [t, b] ∧ b ≠ 1) := by
    rw [nText_split]
    by_cases hb : b = 1
    · exact ⟨[t], by rw [if_pos hb]; rfl, .inl ⟨rfl, hb⟩⟩
    · exact ⟨[t, b], by rw [if_neg hb]; rfl, .inr ⟨rfl, hb⟩⟩
  have ib : ∀ z ∈ is, z.natAbs < 10 ^ 40 := fun z hz => by
    have : z = t ∨ z = b := by
      rcases hc with ⟨rfl, _⟩ | ⟨rfl, _⟩
      · exact .inl (List.mem_singleton.mp hz)
      · simpa using hz
    rcases this with rfl | rfl <;> omega
  have il : is.length ≤ 2 := by
    rcases hc with ⟨rfl, _⟩ | ⟨rfl, _⟩
    · exact (by decide : (1 : Nat) ≤ 2)
    · exact Nat.le_refl 2
  rw [his]
  have k0 := same_new (o := .lst ((is.map iS).map V.str)) hsp
  refine ⟨sp, rfl, ⟨_, SqL.of upd_same⟩, fun D hD => lc_goL (is.map fun z => some (.int z)) (SqL.of upd_same) (by simp) hD (by rw [List.length_map]; omega) (fun i x o H3 hx hk k3 Rr hRr => ?_) (fun H3 k3 hD3 => ?_)⟩
  · obtain ⟨z, hz, rfl⟩ : ∃ z, is[i]? = some z ∧ x = .str (iS z) := by
      rw [List.getElem?_map, List.getElem?_map] at hx
      cases e : is[i]? with
      | none => rw [e] at hx; cases hx
      | some z => rw [e] at hx; cases hx; exact ⟨z, rfl, rfl⟩
    rw [List.getElem?_map, hz] at hk
    cases hk
    walk_at "go"
    refine ⟨rfl, ?_⟩
    walk_at "go"
    refine iteT ?_
    walk_at "go"
    refine ⟨_, rfl, z, rfl, ib z (List.mem_of_getElem? hz), fun H4 k4 => ?_⟩
    exact hRr H4 k4
  have e1 : (is.map fun z => some (V.int z)).filterMap id = is.map V.int := by
    rw [List.filterMap_map]
    exact List.filterMap_eq_map (f := V.int) ▸ rfl
  rw [e1] at hD3
  have kk := Same.trans k0 k3
  walk_at "go"
  rcases hc with ⟨rfl, rfl⟩ | ⟨rfl, hb⟩
  · refine ⟨D, _, rfl, .inl (SqL.of hD3), rfl, rfl, ?_⟩
    walk_at "go"
    refine iteF ?_
    walk_at "go"
    refine ⟨D, _, rfl, .inl (SqL.of hD3), ?_⟩
    walk_at "go"
    refine ifT (by simp) ?_
    walk_at "go"
    refine iteF ?_
    walk_at "go"
    refine g_ixL (SqL.of hD3) at0 ?_
    walk_at "go"
    refine ⟨D, _, rfl, .inl (SqL.of hD3), ?_⟩
    walk_at "go"
    refine ifF (by simp) ?_
    walk_at "go"
    refine mkT fun p hp => ?_
    have kp := Same.trans kk (same_new (o := .tup [.int t, .int 1]) hp)
    walk_at "go"
    refine ⟨_, rfl, p, t, 1, rfl, upd_same, ok, ?_⟩
    walk_at "go"
    refine iteT ?_
    walk_at "go"
    refine ⟨_, rfl, p, t, 1, rfl, upd_same, lt, lb, ?_⟩
    walk_at "go"
    refine ifT rfl ?_
    walk_at "go"
    exact q _ p kp upd_same
  · refine ⟨D, _, rfl, .inl (SqL.of hD3), rfl, rfl, ?_⟩
    walk_at "go"
    refine iteF ?_
    walk_at "go"
    refine ⟨D, _, rfl, .inl (SqL.of hD3), ?_⟩
    walk_at "go"
    refine ifT (by simp) ?_
    walk_at "go"
    refine iteF ?_
    walk_at "go"
    refine g_ixL (SqL.of hD3) at0 ?_
    walk_at "go"
    refine ⟨D, _, rfl, .inl (SqL.of hD3), ?_⟩
    walk_at "go"
    refine ifT (by simp) ?_
    walk_at "go"
    refine g_ixL (SqL.of hD3) at1 ?_
    walk_at "go"
    refine mkT fun p hp => ?_
    have kp := Same.trans kk (same_new (o := .tup [.int t, .int b]) hp)
    walk_at "go"
    refine ⟨_, rfl, p, t, b, rfl, upd_same, ok, ?_⟩
    walk_at "go"
    refine iteT ?_
    walk_at "go"
    refine ⟨_, rfl, p, t, b, rfl, upd_same, lt, lb, ?_⟩
    walk_at "go"
    refine ifT rfl ?_
    walk_at "go"
    exact q _ p kp upd_same
end
end PP
-- text PY
namespace PP
open PySem PySem.Spec PyProof.Rows L2 PySem.SeqAt
section
variable {X : Cx}
/-- == and != with an empty tuple or list -/
def rNeE (K : PySem.W.Frag) (neg : Bool) : R2 := fun x y H Q => ∃ (a b : Addr) (xs : List V), x = .ref a ∧ y = .ref b ∧ ((SqT K H a xs ∧ SqT K H b []) ∨ (SqL K H a xs ∧ SqL K H b [])) ∧ Q (.bl (if neg then !xs.isEmpty else xs.isEmpty)) H
theorem all_nil {n : Nat} {e : Nat → Bool} : ((List.range (min n 0)).all e && n == 0) = (n == 0) := by
  rw [Nat.min_zero]
  rfl
theorem sz_emp {its : List Value} {xs : List V} (h : Vals xs its) : (its.toArray.size == 0) = xs.isEmpty := by
  have := h.length
  cases xs with
  | nil =>
    cases its with
    | nil => rfl
    | cons _ _ => simp at this
  | cons x r =>
    cases its with
    | nil => simp at this
    | cons _ _ => rfl
theorem op_neE (hu : X.A.units + 64 < cLine) : OpR X (compareOp .NotEq) (rNeE X.K true) := by
  intro pins s σ H x y v u Q I rx ry h
  obtain ⟨a, b, xs, rfl, rfl, h, q⟩ := h
  cases rx
  cases ry
  have hu' : X.A.units < cLine := by omega
  rcases h with ⟨h1, h2⟩ | ⟨h1, h2⟩
  · obtain ⟨its, rv, p, _⟩ := I.tuple h1
    obtain ⟨its2, rv2, p2, _⟩ := I.tuple h2
    cases rv2
    have key : RcNeAt X.A s (.ref a) (.ref b) (!xs.isEmpty) := by
      have := RcNeAt.tuples (A := X.A) (s := s) (e := fun _ => true) p p2 hu' (fun j j1 j2 => absurd j2 (by simp))
      have e1 : (!((List.range (min its.toArray.size ([] : List Value).toArray.size)).all (fun _ => true) && its.toArray.size == ([] : List Value).toArray.size)) = !xs.isEmpty := by
        rw [← sz_emp rv]
        congr 1
        exact all_nil
      rw [e1] at this
      exact this
    exact key X.prog X.w X.xe _ ⟨.bl _, H, I, rfl, q⟩
  · obtain ⟨its, rv, p, _⟩ := I.list h1
    obtain ⟨its2, rv2, p2, _⟩ := I.list h2
    cases rv2
    have key : RcNeAt X.A s (.ref a) (.ref b) (!xs.isEmpty) := by
      cases xs with
      | nil =>
        cases rv
        exact RcNeAt.lists (A := X.A) (s := s) (e := fun _ => true) p.isList p2.isList rfl hu' (fun j j1 j2 => absurd j2 (by simp))
      | cons x r =>
        cases rv with
        | cons r1 rr => exact RcNeAt.lists_lengths (A := X.A) (s := s) p.isList p2.isList rfl hu'
    exact key X.prog X.w X.xe _ ⟨.bl _, H, I, rfl, q⟩
theorem op_eqE (hu : X.A.units + 64 < cLine) : OpR X (compareOp .Eq) (rNeE X.K false) := by
  intro pins s σ H x y v u Q I rx ry h
  obtain ⟨a, b, xs, rfl, rfl, h, q⟩ := h
  cases rx
  cases ry
  have hu' : X.A.units < cLine := by omega
  rcases h with ⟨h1, h2⟩ | ⟨h1, h2⟩
  · obtain ⟨its, rv, p, _⟩ := I.tuple h1
    obtain ⟨its2, rv2, p2, _⟩ := I.tuple h2
    cases rv2
    have key : RcAt X.A s (.ref a) (.ref b) (xs.isEmpty) := by
      have := RcAt.tuples (A := X.A) (s := s) (e := fun _ => true) p p2 hu' (fun j j1 j2 => absurd j2 (by simp))
      have e1 : (((List.range (min its.toArray.size ([] : List Value).toArray.size)).all (fun _ => true) && its.toArray.size == ([] : List Value).toArray.size)) = xs.isEmpty := by
        rw [← sz_emp rv]
        skip
        exact all_nil
      rw [e1] at this
      exact this
    exact key X.prog X.w X.xe _ ⟨.bl _, H, I, rfl, q⟩
  · obtain ⟨its, rv, p, _⟩ := I.list h1
    obtain ⟨its2, rv2, p2, _⟩ := I.list h2
    cases rv2
    have key : RcAt X.A s (.ref a) (.ref b) (xs.isEmpty) := by
      cases xs with
      | nil =>
        cases rv
        exact RcAt.lists (A := X.A) (s := s) (e := fun _ => true) p.isList p2.isList rfl hu' (fun j j1 j2 => absurd j2 (by simp))
      | cons x r =>
        cases rv with
        | cons r1 rr => exact RcAt.lists_lengths (A := X.A) (s := s) p.isList p2.isList rfl hu'
    exact key X.prog X.w X.xe _ ⟨.bl _, H, I, rfl, q⟩
end
end PP
-- text WK
namespace PP
open PySem PySem.Spec PyProof.Rows L2
section
variable {P : Program} {w : World} {K : PySem.W.Frag} {mg : Str → Option Value} {base : Heap}
/-! what a desk has -/
theorem twr_nil : TwrN [] 1 := by
  refine ⟨[E4.zero], ⟨List.pairwise_singleton _ _, fun e => ?_⟩, rfl⟩
  rw [List.mem_singleton]
  constructor
  · rintro rfl
    exact ⟨fun j hj => by match j, hj with | 0, _ => decide | 1, _ => decide | 2, _ => decide | 3, _ => decide, fun i _ => Int.one_dvd _⟩
  · rintro ⟨h, _⟩
    refine Red.eq h (fun j hj => by match j, hj with | 0, _ => decide | 1, _ => decide | 2, _ => decide | 3, _ => decide) fun j hj => Int.one_dvd _
structure TupR (K : PySem.W.Frag) (H : Hp) (t : Addr) (ts : Rts) : Prop where
  tup : H t = some (.tup (refsOf ts))
  rts : RtsAt K H ts
  ok : OkRts ts
  len : ts.length ≤ 5
def StAt (K : PySem.W.Frag) (H : Hp) (a : Addr) (pg : Rs) : Prop := ∃ t ts, ∃ n : Nat, H a = some (.tup [.ref t, .int (n : Int)]) ∧ TupR K H t ts ∧ rsOf ts = pg ∧ TwrN pg n
def DeskAt (K : PySem.W.Frag) (H : Hp) (d : Addr) (pg : Rs) (pgs : List Rs) : Prop := ∃ (dx st pa : Addr) (as : List (Addr × Rs)), H d = some (.ins (gaK K "Desk") dx [("state", .ref st), ("past", .ref pa)]) ∧ StAt K H st pg ∧ H pa = some (.tup (as.map fun x => V.ref x.1)) ∧ (∀ x ∈ as, StAt K H x.1 x.2) ∧ as.map (·.2) = pgs
theorem TupR.mono {H H' : Hp} {t : Addr} {ts : Rts} (h : TupR K H t ts) (k : Same H H') : TupR K H' t ts := ⟨k _ _ h.tup, h.rts.mono k, h.ok, h.len⟩
theorem StAt.mono {H H' : Hp} {a : Addr} {pg : Rs} (h : StAt K H a pg) (k : Same H H') : StAt K H' a pg := by
  obtain ⟨t, ts, n, h1, h2, h3, h4⟩ := h
  exact ⟨t, ts, n, k _ _ h1, h2.mono k, h3, h4⟩
theorem DeskAt.mono {H H' : Hp} {d : Addr} {pg : Rs} {pgs : List Rs} (h : DeskAt K H d pg pgs) (k : Same H H') : DeskAt K H' d pg pgs := by
  obtain ⟨dx, st, pa, as, h1, h2, h3, h4, h5⟩ := h
  exact ⟨dx, st, pa, as, k _ _ h1, h2.mono k, k _ _ h3, fun x hx => (h4 x hx).mono k, h5⟩
/-- an instance that is no root -/
def NoRt (K : PySem.W.Frag) (H : Hp) (S : List Addr) : Prop := ∀ x ∈ S, ∃ C dx fs, H x = some (.ins C dx fs) ∧ fs.length ≠ 1
theorem NoRt.ne {H : Hp} {S : List Addr} (h : NoRt K H S) : ∀ x ∈ S, (∀ xs, H x ≠ some (.tup xs)) ∧ ∀ dx f, H x ≠ some (.ins (gaK K "Root") dx [("form", .ref f)]) := fun x hx => by
  obtain ⟨C, dx, fs, e, hl⟩ := h x hx
  rw [e]
  exact ⟨fun xs z => (by cases z), fun dx f z => (by injection z with z; injection z with _ _ z; rw [z] at hl; exact hl rfl)⟩
theorem TupR.kp {H H' : Hp} {S : List Addr} {t : Addr} {ts : Rts} (h : TupR K H t ts) (k : Kp S H H') (n : NoRt K H S) : TupR K H' t ts :=
  ⟨k _ _ (fun z => (n.ne _ z).1 _ h.tup) h.tup, fun r hr => (h.rts r hr).kp k n.ne, h.ok, h.len⟩
theorem StAt.kp {H H' : Hp} {S : List Addr} {a : Addr} {pg : Rs} (h : StAt K H a pg) (k : Kp S H H') (n : NoRt K H S) : StAt K H' a pg := by
  obtain ⟨t, ts, m, h1, h2, h3, h4⟩ := h
  exact ⟨t, ts, m, k _ _ (fun z => (n.ne _ z).1 _ h1) h1, h2.kp k n, h3, h4⟩
theorem NoRt.desk {H : Hp} {d dx st pa : Addr} (h : H d = some (.ins (gaK K "Desk") dx [("state", .ref st), ("past", .ref pa)])) : NoRt K H [d] := fun x hx => by
  rw [List.mem_singleton.mp hx]
  exact ⟨_, _, _, h, (by show (2 : Nat) ≠ 1; decide)⟩
def sp_Desk_init (K : PySem.W.Frag) : Sp := sp1 fun a H Q _ => ∃ (x dx : Addr), a = .ref x ∧ H x = some (.ins (gaK K "Desk") dx []) ∧ ∀ H', Kp [x] H H' → DeskAt K H' x [] [] → Q .non H'
theorem c_Desk_init (T : Tx K mg) : MakX P w K mg base CX0 1 "Desk" (gaK K "Desk") (sp_Desk_init K) := by
  refine mak_of (F_Desk_init T) (mk_Desk T) (gC_Desk T) bd_Desk_init sc_Desk_init len1 (bodyX_of fun cdv A outer s H vs Q E hr h => ?_)
  obtain ⟨_, rfl, x, dx, rfl, hx, q⟩ := h
  refine ⟨_, (pss_cons (ps_fld (pv 0) (pe_tup (pa_cons (pe_tup pa_nil) (pa_cons pe_int pa_nil))) rfl)
      (pss_one (ps_fld (pv 0) (pe_tup pa_nil) rfl))), ?_⟩
  walk_at "go"
  refine mkT fun t ht => ?_
  walk_at "go"
  refine mkT fun st hst => ?_
  walk_at "go"
  have k1 := same_new (o := .tup []) ht
  have k2 := same_new (o := .tup [.ref t, .int 1]) hst
  have hx2 := k2 _ _ (k1 _ _ hx)
  refine ⟨x, _, dx, [], rfl, hx2, cl_Desk T, na_Desk_state T, by decide, ?_⟩
  walk_at "go"
  refine mkT fun pa hpa => ?_
  walk_at "go"
  have nx : x ≠ pa := fun z => by rw [← z, upd_same] at hpa; cases hpa
  refine ⟨x, _, dx, _, rfl, (upd_ne nx).trans upd_same, cl_Desk T, na_Desk_past T, (by show (1 : Nat) < 1000; decide), ?_⟩
  have nt : t ≠ st := fun z => by rw [← z, upd_same] at hst; cases hst
  have nxt : x ≠ t := ne_of_none hx ht
  have nxs : x ≠ st := ne_of_none (k1 _ _ hx) hst
  have npt : t ≠ pa := fun z => by rw [← z, upd_ne nxt.symm, k2 _ _ upd_same] at hpa; cases hpa
  have nps : st ≠ pa := fun z => by rw [← z, upd_ne nxs.symm, upd_same] at hpa; cases hpa
  refine q _ ?_ ⟨dx, st, pa, [], upd_same, ⟨t, [], 1, ?_, ⟨?_, fun r hr => (List.not_mem_nil hr).elim, fun r hr => (List.not_mem_nil hr).elim, by decide⟩, rfl, twr_nil⟩, ?_, fun y hy => (List.not_mem_nil hy).elim, rfl⟩
  · intro a o na e
    have n1 : a ≠ x := fun z => na (List.mem_singleton.mpr z)
    have e2 := k2 _ _ (k1 _ _ e)
    have n2 : a ≠ pa := fun z => by rw [← z, upd_ne n1, e2] at hpa; cases hpa
    rw [upd_ne n1, upd_ne n2, upd_ne n1]
    exact e2
  · rw [upd_ne nxs.symm, upd_ne nps, upd_ne nxs.symm]
    exact upd_same
  · rw [upd_ne nxt.symm, upd_ne npt, upd_ne nxt.symm]
    exact k2 _ _ upd_same
  · rw [upd_ne nx.symm]
    exact upd_same
def sp_Desk_roots (K : PySem.W.Frag) : Sp := sp1 fun a H Q _ => ∃ (d : Addr) (pg : Rs) (pgs : List Rs), a = .ref d ∧ DeskAt K H d pg pgs ∧ ∀ t ts, TupR K H t ts → rsOf ts = pg → Q (.ref t) H
theorem c_Desk_roots (T : Tx K mg) : PrpX P w K mg base CX0 1 (gaK K "Desk") "roots" (sp_Desk_roots K) := by
  refine prp_of (F_Desk_roots T) (cl_Desk T) T.pr_Desk_roots bd_Desk_roots sc_Desk_roots len1 (bodyX_of fun cdv A outer s H vs Q E hr h => ?_)
  obtain ⟨_, rfl, d, pg, pgs, rfl, ⟨dx, st, pa, as, h1, ⟨t, ts, n, h2, h3, h4, h5⟩, _⟩, q⟩ := h
  refine ⟨_, (pss_one (ps_ret (pe_ix ix_tup (pe_fld (pv 0) rfl) pe_int (fun _ _ => rfl)))), ?_⟩
  walk_at "go"
  refine ⟨d, _, dx, _, .ref st, rfl, h1, cl_Desk T, na_Desk_state T, fl1, ?_⟩
  walk_at "go"
  refine g_ixT (SqT.of h2) at0 ?_
  exact q t ts h3 h4
def sp_Desk_degree (K : PySem.W.Frag) : Sp := sp1 fun a H Q _ => ∃ (d : Addr) (pg : Rs) (pgs : List Rs), a = .ref d ∧ DeskAt K H d pg pgs ∧ ∀ n : Nat, TwrN pg n → Q (.int (n : Int)) H
theorem c_Desk_degree (T : Tx K mg) : PrpX P w K mg base CX0 1 (gaK K "Desk") "degree" (sp_Desk_degree K) := by
  refine prp_of (F_Desk_degree T) (cl_Desk T) T.pr_Desk_degree bd_Desk_degree sc_Desk_degree len1 (bodyX_of fun cdv A outer s H vs Q E hr h => ?_)
  obtain ⟨_, rfl, d, pg, pgs, rfl, ⟨dx, st, pa, as, h1, ⟨t, ts, n, h2, h3, h4, h5⟩, _⟩, q⟩ := h
  refine ⟨_, (pss_one (ps_ret (pe_ix ix_tup (pe_fld (pv 0) rfl) pe_int (fun _ _ => rfl)))), ?_⟩
  walk_at "go"
  refine ⟨d, _, dx, _, .ref st, rfl, h1, cl_Desk T, na_Desk_state T, fl1, ?_⟩
  walk_at "go"
  refine g_ixT (SqT.of h2) at1 ?_
  exact q n h5
end
end PP
-- text WL
namespace PP
open PySem PySem.Spec PyProof.Rows L2
section
variable {P : Program} {w : World} {K : PySem.W.Frag} {mg : Str → Option Value} {base : Heap}
theorem catA_any {H : Hp} {a b : Addr} {xs ys : List V} {Q : VK} (h1 : H a = some (.tup xs)) (h2 : H b = some (.tup ys)) (hl : xs.length + ys.length ≤ 10000) (q : ∀ p H', Same H H' → H' p = some (.tup (xs ++ ys)) → Q (.ref p) H') : rCatA K (.ref a) (.ref b) H Q := by
  refine ⟨a, b, xs, ys, rfl, rfl, SqT.of h1, SqT.of h2, big_line hl, fun z => ?_, fun _ z => ?_, fun _ _ p hp => q p _ (same_new hp) upd_same⟩
  · subst z
    exact q b H (Same.refl H) h2
  · subst z
    refine q a H (Same.refl H) ?_
    rw [List.append_nil]
    exact h1
theorem slA_any {H : Hp} {a : Addr} {xs : List V} {lo hi : Option Int} {Q : VK} (h1 : H a = some (.tup xs)) (q : ∀ p H', Same H H' → H' p = some (.tup (cutV xs lo hi)) → Q (.ref p) H') : rSlA K (.ref a) lo hi H Q := by
  refine ⟨a, xs, rfl, SqT.of h1, fun z => q a H (Same.refl H) ?_, fun _ p hp => q p _ (same_new hp) upd_same⟩
  rw [h1]
  unfold cutV
  rw [z.1, z.2, List.drop_zero, Nat.sub_zero, List.take_length]
def sp_Desk_become (K : PySem.W.Frag) : Sp := sp2 fun a b H Q _ => ∃ (d t : Addr) (pg : Rs) (pgs : List Rs) (ts : Rts), a = .ref d ∧ b = .ref t ∧ DeskAt K H d pg pgs ∧ pgs.length ≤ 1000 ∧ TupR K H t ts ∧ ∀ H', Kp [d] H H' → DeskAt K H' d (rsOf ts) (pgs ++ [pg]) → Q .non H'
theorem c_Desk_become (T : Tx K mg) : MetX P w K mg base CX0 10 (gaK K "Desk") "become" (sp_Desk_become K) := by
  refine met_of (F_Desk_become T) (cl_Desk T) (me_Desk_become T) bd_Desk_become sc_Desk_become len2 (bodyX_of fun cdv A outer s H vs Q E hr h => ?_)
  obtain ⟨_, _, rfl, d, t, pg, pgs, ts, rfl, rfl, hd, pl, ht, q⟩ := h
  obtain ⟨dx, st, pa, as, h1, hst, hpa, has, epg⟩ := id hd
  refine ⟨_, (pss_cons (ps_set (i := 2) sc_Desk_become.nd rfl (Or.inl rfl) (pe_ifExp (pt_cmpR (op_neE hr.units) (pv 1) (pe_tup pa_nil) (nomark _)) (pe_cx (c_degree_of T) hr pass0 (pa_cons (pv 1) pa_nil)) pe_int))
      (pss_cons (ps_fld (pv 0) (pe_op op_catA (pe_fld (pv 0) rfl) (pe_tup (pa_cons (pe_fld (pv 0) rfl) pa_nil))) rfl)
      (pss_one (ps_fld (pv 0) (pe_tup (pa_cons (pv 1) (pa_cons (pv 2) pa_nil))) rfl)))), ?_⟩
  refine g_seq (g_asg ((fun (h : ∀ R : VK, (∀ (n : Nat) H1, Same H H1 → TwrN (rsOf ts) n → R (.int (n : Int)) H1) → tIf _ _ _ _ _ R) => h _ ?_) ?_))
  · intro n H1 k1 tw
    walk_at "go"
    refine ⟨d, _, dx, _, .ref pa, rfl, k1 _ _ h1, cl_Desk T, na_Desk_past T, fl2 (by decide), ?_⟩
    walk_at "go"
    refine ⟨d, _, dx, _, .ref st, rfl, k1 _ _ h1, cl_Desk T, na_Desk_state T, fl1, ?_⟩
    walk_at "go"
    refine mkT fun b hb => ?_
    have kb := same_new (o := .tup [.ref st]) hb
    have k1b := Same.trans k1 kb
    have el : as.length ≤ 1000 := by
      rw [← epg, List.length_map] at pl
      exact pl
    refine catA_any (k1b _ _ hpa) upd_same (by rw [List.length_map]; show as.length + 1 ≤ 10000; omega) fun pn H3 k3 hpn => ?_
    have kk := Same.trans k1b k3
    have hd3 := kk _ _ h1
    walk_at "go"
    refine ⟨d, _, dx, _, rfl, hd3, cl_Desk T, na_Desk_past T, (by show (2 : Nat) < 1000; decide), ?_⟩
    walk_at "go"
    refine mkT fun st2 hst2 => ?_
    walk_at "go"
    have nd : d ≠ st2 := fun z => by rw [← z, upd_same] at hst2; cases hst2
    have npn : pn ≠ d := ne_of_ins hpn hd3
    have hst2' : H3 st2 = none := by
      rw [upd_ne nd.symm] at hst2
      exact hst2
    refine ⟨d, _, dx, _, rfl, (upd_ne nd).trans upd_same, cl_Desk T, na_Desk_state T, (by show (2 : Nat) < 1000; decide), ?_⟩
    have KP : Kp [d] H3 (upd (upd (upd H3 d (.ins (gaK K "Desk") dx (putF "past" (.ref pn) [("state", .ref st), ("past", .ref pa)]))) st2 (.tup [.ref t, .int (n : Int)])) d (.ins (gaK K "Desk") dx (putF "state" (.ref st2) (putF "past" (.ref pn) [("state", .ref st), ("past", .ref pa)])))) := fun a o na e => by
      have n1 : a ≠ d := fun z => na (List.mem_singleton.mpr z)
      rw [upd_ne n1, upd_ne (ne_of_none e hst2'), upd_ne n1]
      exact e
    have nr : NoRt K H3 [d] := NoRt.desk hd3
    refine q _ (Kp.trans (Kp.of kk) KP) ⟨dx, st2, pn, as ++ [(st, pg)], upd_same, ⟨t, ts, n, ?_, (ht.mono kk).kp KP nr, rfl, tw⟩, ?_, fun x hx => ?_, ?_⟩
    · rw [upd_ne nd.symm]
      exact upd_same
    · refine KP _ _ (fun z => npn (List.mem_singleton.mp z)) ?_
      rw [hpn, List.map_append]
      rfl
    · rcases List.mem_append.mp hx with z | z
      · exact ((has x z).mono kk).kp KP nr
      · rw [List.mem_singleton.mp z]
        exact (hst.mono kk).kp KP nr
    · rw [List.map_append, epg]
      rfl
  · intro R hR
    walk_at "go"
    refine mkT fun e he => ?_
    have ke := same_new (o := .tup []) he
    refine ⟨t, e, _, rfl, rfl, .inl ⟨SqT.of (ke _ _ ht.tup), SqT.of upd_same⟩, ?_⟩
    walk_at "go"
    cases ts with
    | nil =>
      refine iteF ?_
      exact hR 1 _ ke twr_nil
    | cons r ts =>
      refine iteT ?_
      walk_at "go"
      exact ⟨_, rfl, t, _, rfl, ke _ _ ht.tup, ht.rts.mono ke, ht.ok, ht.len, Nat.succ_pos _, fun H2 n k2 tw => hR n H2 (Same.trans ke k2) tw⟩
end
end PP
-- text WM
namespace PP
open PySem PySem.Spec PyProof.Rows L2
section
variable {P : Program} {w : World} {K : PySem.W.Frag} {mg : Str → Option Value} {base : Heap}
theorem refsOf_app {a b : Rts} : refsOf (a ++ b) = refsOf a ++ refsOf b := List.map_append
theorem rsOf_app {a b : Rts} : rsOf (a ++ b) = rsOf a ++ rsOf b := List.map_append
theorem refsOf_take {ts : Rts} {i : Nat} : refsOf (ts.take i) = (refsOf ts).take i := List.map_take
theorem refsOf_drop {ts : Rts} {i : Nat} : refsOf (ts.drop i) = (refsOf ts).drop i := List.map_drop
theorem rsOf_take {ts : Rts} {i : Nat} : rsOf (ts.take i) = (rsOf ts).take i := List.map_take
theorem rsOf_drop {ts : Rts} {i : Nat} : rsOf (ts.drop i) = (rsOf ts).drop i := List.map_drop
theorem rs_len {ts : Rts} {pg : Rs} (h : rsOf ts = pg) : ts.length = pg.length := by rw [← h, List.length_map]
def sp_Desk_check_index (K : PySem.W.Frag) : Sp := sp2 fun a b H Q E => ∃ (d : Addr) (pg : Rs) (pgs : List Rs) (i : Int), a = .ref d ∧ b = .int i ∧ DeskAt K H d pg pgs ∧ (¬ (0 ≤ i ∧ i < pg.length) → ∀ d' H', Same H H' → E (.ref (gaK K "InvalidIndex")) d' H') ∧ (0 ≤ i → i < pg.length → Q .non H)
theorem c_Desk_check_index (T : Tx K mg) : MetX P w K mg base (L2.CX P w) 3 (gaK K "Desk") "check_index" (sp_Desk_check_index K) := by
  refine met_of (F_Desk_check_index T) (cl_Desk T) (me_Desk_check_index T) bd_Desk_check_index sc_Desk_check_index len2 (fun cdv A outer s H vs Q E hr h => ?_)
  obtain ⟨_, _, rfl, d, pg, pgs, i, rfl, rfl, hd, q1, q2⟩ := h
  obtain ⟨dx, st, pa, as, h1, ⟨t, ts, n, h2, h3, h4, h5⟩, _⟩ := id hd
  have ln := rs_len h4
  refine ⟨_, (pss_one (ps_if (pt_not (pt_val (pe_cx (c_is_between T) hr pass0 (pa_cons (pv 1) (pa_cons pe_int (pa_cons (pe_op op_sub (pe_callB call_len_seq (by rfl) (b_len T) (by decide +kernel) (pa_cons (pe_ix ix_tup (pe_fld (pv 0) rfl) pe_int (fun _ _ => rfl)) pa_nil)) pe_int) pa_nil)))))) (pss_one (ps_raiseGv rfl T.gv_InvalidIndex hr tX (pa_cons (pv 1) pa_nil))) pss_nil)), ?_⟩
  walk_at "go"
  refine ⟨d, _, dx, _, .ref st, rfl, h1, cl_Desk T, na_Desk_state T, fl1, ?_⟩
  walk_at "go"
  refine g_ixT (SqT.of h2) at0 ?_
  walk_at "go"
  refine ⟨t, _, rfl, .inr (SqT.of h3.tup), ?_⟩
  walk_at "go"
  rw [List.length_map, ln]
  refine ⟨_, _, _, rfl, i, 0, _, rfl, rfl, rfl, ?_⟩
  walk_at "go"
  by_cases hi : 0 ≤ i ∧ i < pg.length
  · refine ifnF (by omega) ?_
    walk_at "go"
    exact q2 hi.1 hi.2
  · refine ifnT (by omega) ?_
    walk_at "go"
    refine g_raiseGv ?_
    walk_at "go"
    exact ⟨_, rfl, fun d' H' k => q1 hi d' H' k⟩
def OkR (e : E4) (n : Nat) : Prop := Ok30 e ∧ 1 ≤ n ∧ n ≤ 60 ∧ Nat.gcd n e.g = 1
def sp_Desk_put (K : PySem.W.Frag) : Sp := sp2 fun a b H Q E => ∃ (d : Addr) (pg : Rs) (pgs : List Rs) (r : Addr) (e : E4) (n : Nat), a = .ref d ∧ b = .ref r ∧ DeskAt K H d pg pgs ∧ pgs.length ≤ 1000 ∧ RootAt K H r e n ∧ OkR e n ∧
  (pg.length = 5 → ∀ d' H', Same H H' → E (.ref (gaK K "TooGreat")) d' H') ∧ (pg.length ≠ 5 → ∀ H', Kp [d] H H' → DeskAt K H' d (pg ++ [(e, n)]) (pgs ++ [pg]) → Q .non H')
theorem c_Desk_put (T : Tx K mg) : MetX P w K mg base (L2.CX P w) 11 (gaK K "Desk") "put" (sp_Desk_put K) := by
  refine met_of (F_Desk_put T) (cl_Desk T) (me_Desk_put T) bd_Desk_put sc_Desk_put len2 (fun cdv A outer s H vs Q E hr h => ?_)
  obtain ⟨_, _, rfl, d, pg, pgs, r, e, n, rfl, rfl, hd, pl, hroot, ok, q1, q2⟩ := h
  obtain ⟨dx, st, pa, as, h1, ⟨t, ts, m, h2, h3, h4, h5⟩, _⟩ := id hd
  obtain ⟨dr, f, hr1, _⟩ := id hroot
  have ln := rs_len h4
  refine ⟨_, (pss_cons (ps_if (pt_not (pt_val (pe_callB (C8.call_isC T.ic_Root) (by rfl) (b_isinstance T) (by decide +kernel) (pa_cons (pv 1) (pa_cons (pe_glob (v := .ref (gaK K "Root")) rfl (gC_Root T) rfl) pa_nil))))) (pss_one ps_never) pss_nil)
      (pss_cons (ps_set (i := 2) sc_Desk_put.nd rfl (Or.inl rfl) (pe_ix ix_tup (pe_fld (pv 0) rfl) pe_int (fun _ _ => rfl)))
      (pss_cons (ps_if (pt_cmpR op_eq (pe_callB call_len_seq (by rfl) (b_len T) (by decide +kernel) (pa_cons (pv 2) pa_nil)) (pe_gk rfl (gi (k_MOST_ROOTS T))) (nomark _)) (pss_one (ps_raiseGv rfl T.gv_TooGreat hr tX (pa_cons (pe_op op_add (pe_gk rfl (gi (k_MOST_ROOTS T))) pe_int) pa_nil))) pss_nil)
      (pss_one (ps_expr (pe_mx (c_Desk_become T) hr pass0 (pv 0) (pa_cons (pe_op op_catA (pv 2) (pe_tup (pa_cons (pv 1) pa_nil))) pa_nil))))))), ?_⟩
  walk_at "go"
  refine ⟨r, dr, _, rfl, hr1, ?_⟩
  walk_at "go"
  refine iteF ?_
  walk_at "go"
  refine ⟨d, _, dx, _, .ref st, rfl, h1, cl_Desk T, na_Desk_state T, fl1, ?_⟩
  walk_at "go"
  refine g_ixT (SqT.of h2) at0 ?_
  walk_at "go"
  refine ⟨t, _, rfl, .inr (SqT.of h3.tup), ?_⟩
  walk_at "go"
  rw [List.length_map, ln]
  by_cases h5' : pg.length = 5
  · refine ifT (by omega) ?_
    walk_at "go"
    refine g_raiseGv ?_
    walk_at "go"
    exact ⟨_, rfl, fun d' H' k => q1 h5' d' H' k⟩
  · refine ifF (by omega) ?_
    walk_at "go"
    refine ⟨d, dx, _, rfl, h1, rfl, ?_⟩
    walk_at "go"
    refine mkT fun b hb => ?_
    have kb := same_new (o := .tup [.ref r]) hb
    have tl := h3.len
    refine catA_any (kb _ _ h3.tup) upd_same (by rw [List.length_map]; show ts.length + 1 ≤ 10000; omega) fun t2 H3 k3 ht2 => ?_
    have kk := Same.trans kb k3
    have e1 : refsOf ts ++ [V.ref r] = refsOf (ts ++ [(r, e, n)]) := by rw [refsOf_app]; rfl
    rw [e1] at ht2
    walk_at "go"
    refine ⟨_, _, rfl, d, t2, pg, pgs, ts ++ [(r, e, n)], rfl, rfl, hd.mono kk, pl, ⟨ht2, fun x hx => ?_, fun x hx => ?_, ?_⟩, fun H4 k4 hd4 => ?_⟩
    · rcases List.mem_append.mp hx with z | z
      · exact (h3.rts x z).mono kk
      · rw [List.mem_singleton.mp z]
        exact hroot.mono kk
    · rcases List.mem_append.mp hx with z | z
      · exact h3.ok x z
      · rw [List.mem_singleton.mp z]
        exact ok
    · rw [List.length_append]
      show ts.length + 1 ≤ 5
      omega
    · walk_at "go"
      refine q2 h5' H4 (Kp.trans (Kp.of kk) k4) ?_
      have e2 : rsOf (ts ++ [(r, e, n)]) = pg ++ [(e, n)] := by rw [rsOf_app, h4]; rfl
      rw [e2] at hd4
      exact hd4
theorem cut_take {ts : Rts} {i : Nat} : cutV (refsOf ts) none (some (i : Int)) = refsOf (ts.take i) := by
  unfold cutV
  rw [HT.sIx_none, HT.sIx_nat, List.drop_zero, Nat.sub_zero, refsOf_take, ← List.take_take, List.take_length]
theorem cut_drop {ts : Rts} {i : Nat} : cutV (refsOf ts) (some ((i : Int) + 1)) none = refsOf (ts.drop (i + 1)) := by
  unfold cutV
  rw [HT.sIx_none, show ((i : Int) + 1) = ((i + 1 : Nat) : Int) from rfl, HT.sIx_nat, refsOf_drop]
  rcases Nat.le_total (i + 1) (refsOf ts).length with h | h
  · rw [Nat.min_eq_left h, List.take_of_length_le (by rw [List.length_drop]; exact Nat.le_refl _)]
  · rw [Nat.min_eq_right h, Nat.sub_self, List.take_zero, List.drop_eq_nil_of_le h]
theorem TupR.take {H : Hp} {t p : Addr} {ts : Rts} (h : TupR K H t ts) (i : Nat) (hp : H p = some (.tup (refsOf (ts.take i)))) : TupR K H p (ts.take i) :=
  ⟨hp, fun r hr => h.rts r (List.mem_of_mem_take hr), fun r hr => h.ok r (List.mem_of_mem_take hr), Nat.le_trans (List.length_take_le' i ts) h.len⟩
def sp_Desk_drop (K : PySem.W.Frag) : Sp := sp2 fun a b H Q E => ∃ (d : Addr) (pg : Rs) (pgs : List Rs) (i : Int), a = .ref d ∧ b = .int i ∧ DeskAt K H d pg pgs ∧ pgs.length ≤ 1000 ∧
  (¬ (0 ≤ i ∧ i < pg.length) → ∀ d' H', Same H H' → E (.ref (gaK K "InvalidIndex")) d' H') ∧ (0 ≤ i → i < pg.length → ∀ H', Kp [d] H H' → DeskAt K H' d (pg.take i.toNat ++ pg.drop (i.toNat + 1)) (pgs ++ [pg]) → Q .non H')
theorem c_Desk_drop (T : Tx K mg) : MetX P w K mg base (L2.CX P w) 11 (gaK K "Desk") "drop" (sp_Desk_drop K) := by
  refine met_of (F_Desk_drop T) (cl_Desk T) (me_Desk_drop T) bd_Desk_drop sc_Desk_drop len2 (fun cdv A outer s H vs Q E hr h => ?_)
  obtain ⟨_, _, rfl, d, pg, pgs, i, rfl, rfl, hd, pl, q1, q2⟩ := h
  obtain ⟨dx, st, pa, as, h1, ⟨t, ts, m, h2, h3, h4, h5⟩, _⟩ := id hd
  refine ⟨_, (pss_cons (ps_expr (pe_mx (c_Desk_check_index T) hr pX (pv 0) (pa_cons (pv 1) pa_nil)))
      (pss_cons (ps_set (i := 2) sc_Desk_drop.nd rfl (Or.inl rfl) (pe_ix ix_tup (pe_fld (pv 0) rfl) pe_int (fun _ _ => rfl)))
      (pss_one (ps_expr (pe_mx (c_Desk_become T) hr pass0 (pv 0) (pa_cons (pe_op op_catA (pe_slice sl_tupA (pv 2) po_none (po_some (pv 1))) (pe_slice sl_tupA (pv 2) (po_some (pe_op op_add (pv 1) pe_int)) po_none)) pa_nil)))))), ?_⟩
  walk_at "go"
  refine ⟨d, dx, _, rfl, h1, rfl, ?_⟩
  walk_at "go"
  refine ⟨_, _, rfl, d, pg, pgs, i, rfl, rfl, hd, q1, fun i0 i1 => ?_⟩
  obtain ⟨j, rfl⟩ := Int.eq_ofNat_of_zero_le i0
  walk_at "go"
  refine ⟨d, _, dx, _, .ref st, rfl, h1, cl_Desk T, na_Desk_state T, fl1, ?_⟩
  walk_at "go"
  refine g_ixT (SqT.of h2) at0 ?_
  walk_at "go"
  refine ⟨d, dx, _, rfl, h1, rfl, ?_⟩
  walk_at "go"
  refine slA_any h3.tup fun p1 H1 k1 hp1 => ?_
  walk_at "go"
  refine slA_any (k1 _ _ h3.tup) fun p2 H2 k2 hp2 => ?_
  rw [cut_take] at hp1
  rw [cut_drop] at hp2
  have tl := h3.len
  have l1 := List.length_take_le' j ts
  have l2 : (ts.drop (j + 1)).length ≤ ts.length := by rw [List.length_drop]; omega
  refine catA_any (k2 _ _ hp1) hp2 (by rw [List.length_map, List.length_map]; omega) fun p3 H3 k3 hp3 => ?_
  have kk := Same.trans k1 (Same.trans k2 k3)
  rw [← refsOf_app] at hp3
  have jl : j < ts.length := by
    rw [rs_len h4]
    omega
  walk_at "go"
  refine ⟨_, _, rfl, d, p3, pg, pgs, _, rfl, rfl, hd.mono kk, pl, ⟨hp3, fun x hx => ?_, fun x hx => ?_, ?_⟩, fun H4 k4 hd4 => ?_⟩
  · rcases List.mem_append.mp hx with z | z
    · exact (h3.rts x (List.mem_of_mem_take z)).mono kk
    · exact (h3.rts x (List.mem_of_mem_drop z)).mono kk
  · rcases List.mem_append.mp hx with z | z
    · exact h3.ok x (List.mem_of_mem_take z)
    · exact h3.ok x (List.mem_of_mem_drop z)
  · rw [List.length_append, List.length_take, List.length_drop]
    omega
  · walk_at "go"
    refine q2 i0 i1 H4 (Kp.trans (Kp.of kk) k4) ?_
    rw [rsOf_app, rsOf_take, rsOf_drop, h4] at hd4
    exact hd4
def sp_Desk_turn (K : PySem.W.Frag) : Sp := sp3 fun a b c H Q E => ∃ (d : Addr) (pg : Rs) (pgs : List Rs) (i m : Int), a = .ref d ∧ b = .int i ∧ c = .int m ∧ DeskAt K H d pg pgs ∧ pgs.length ≤ 1000 ∧
  (¬ (0 ≤ i ∧ i < pg.length) → ∀ d' H', Same H H' → E (.ref (gaK K "InvalidIndex")) d' H') ∧ (0 ≤ i → ∀ e n, pg[i.toNat]? = some (e, n) →
    (¬ (-20 ≤ m ∧ m ≤ 20) → ∀ d' H', Same H H' → E (.ref (gaK K "InvalidDegree")) d' H') ∧
    (-20 ≤ m → m ≤ 20 → ¬ ((raisedE e n m).tp ≤ 10 ^ 30 ∧ (raisedE e n m).bt ≤ 10 ^ 30) → ∀ d' H', Same H H' → E (.ref (gaK K "TooGreat")) d' H') ∧
    (-20 ≤ m → m ≤ 20 → (raisedE e n m).tp ≤ 10 ^ 30 → (raisedE e n m).bt ≤ 10 ^ 30 → ∀ H', Kp [d] H H' → DeskAt K H' d (pg.take i.toNat ++ [(raisedE e n m, raisedN n m)] ++ pg.drop (i.toNat + 1)) (pgs ++ [pg]) → Q .non H'))
theorem c_Desk_turn (T : Tx K mg) : MetX P w K mg base (L2.CX P w) 11 (gaK K "Desk") "turn" (sp_Desk_turn K) := by
  refine met_of (F_Desk_turn T) (cl_Desk T) (me_Desk_turn T) bd_Desk_turn sc_Desk_turn len3 (fun cdv A outer s H vs Q E hr h => ?_)
  obtain ⟨_, _, _, rfl, d, pg, pgs, i, m, rfl, rfl, rfl, hd, pl, q1, q2⟩ := h
  obtain ⟨dx, st, pa, as, h1, ⟨t, ts, _, h2, h3, h4, h5⟩, _⟩ := id hd
  refine ⟨_, (pss_cons (ps_expr (pe_mx (c_Desk_check_index T) hr pX (pv 0) (pa_cons (pv 1) pa_nil)))
      (pss_cons (ps_set (i := 3) sc_Desk_turn.nd rfl (Or.inl rfl) (pe_ix ix_tup (pe_fld (pv 0) rfl) pe_int (fun _ _ => rfl)))
      (pss_one (ps_expr (pe_mx (c_Desk_become T) hr pass0 (pv 0) (pa_cons (pe_op op_catA (pe_op op_catA (pe_slice sl_tupA (pv 3) po_none (po_some (pv 1))) (pe_tup (pa_cons (pe_mx (c_Root_raised T) hr pX (pe_ix ix_tup (pv 3) (pv 1) (fun _ _ => rfl)) (pa_cons (pv 2) pa_nil)) pa_nil))) (pe_slice sl_tupA (pv 3) (po_some (pe_op op_add (pv 1) pe_int)) po_none)) pa_nil)))))), ?_⟩
  walk_at "go"
  refine ⟨d, dx, _, rfl, h1, rfl, ?_⟩
  walk_at "go"
  refine ⟨_, _, rfl, d, pg, pgs, i, rfl, rfl, hd, q1, fun i0 i1 => ?_⟩
  obtain ⟨j, rfl⟩ := Int.eq_ofNat_of_zero_le i0
  have jl : j < ts.length := by
    rw [rs_len h4]
    omega
  obtain ⟨r, hr'⟩ : ∃ r, ts[j]? = some r := ⟨_, List.getElem?_eq_getElem jl⟩
  have rm := List.mem_of_getElem? hr'
  have hroot := h3.rts r rm
  obtain ⟨o1, o2, o3, o4⟩ := h3.ok r rm
  obtain ⟨q3, q4, q5⟩ := q2 i0 r.2.1 r.2.2 (by
    rw [← h4, Int.toNat_natCast, List.getElem?_map, hr']
    rfl)
  obtain ⟨dr, f, hr1, _⟩ := id hroot
  walk_at "go"
  refine ⟨d, _, dx, _, .ref st, rfl, h1, cl_Desk T, na_Desk_state T, fl1, ?_⟩
  walk_at "go"
  refine g_ixT (SqT.of h2) at0 ?_
  walk_at "go"
  refine ⟨d, dx, _, rfl, h1, rfl, ?_⟩
  walk_at "go"
  refine slA_any h3.tup fun p1 H1 k1 hp1 => ?_
  rw [cut_take] at hp1
  walk_at "go"
  refine g_ixT (SqT.of (k1 _ _ h3.tup)) (atI_nat (j := j) (show (refsOf ts)[j]? = some (.ref r.1) by rw [List.getElem?_map, hr']; rfl)) ?_
  refine ⟨r.1, dr, _, rfl, k1 _ _ hr1, rfl, ?_⟩
  walk_at "go"
  refine ⟨_, _, rfl, r.1, r.2.1, r.2.2, m, rfl, rfl, hroot.mono k1, o1, o2, o3, o4, fun z d' H' k => q3 z d' H' (Same.trans k1 k), fun z1 z2 z3 d' H' k => q4 z1 z2 z3 d' H' (Same.trans k1 k), fun z1 z2 z3 z4 H2 r2 k2 hr2 => ?_⟩
  walk_at "go"
  refine mkT fun b hb => ?_
  have kb := same_new (o := .tup [.ref r2]) hb
  have tl := h3.len
  have l1 := List.length_take_le' j ts
  have l2 : (ts.drop (j + 1)).length ≤ ts.length := by rw [List.length_drop]; omega
  refine catA_any (kb _ _ (k2 _ _ hp1)) upd_same (by rw [List.length_map]; show _ + 1 ≤ 10000; omega) fun p3 H3 k3 hp3 => ?_
  have kk := Same.trans k1 (Same.trans k2 (Same.trans kb k3))
  have k23 := Same.trans kb k3
  walk_at "go"
  refine slA_any (kk _ _ h3.tup) fun p4 H4 k4 hp4 => ?_
  rw [cut_drop] at hp4
  refine catA_any (k4 _ _ hp3) hp4 (by rw [List.length_append, List.length_map, List.length_map]; show _ + 1 + _ ≤ 10000; omega) fun p5 H5 k5 hp5 => ?_
  have k45 := Same.trans k4 k5
  have kf := Same.trans kk k45
  have hp5' : H5 p5 = some (.tup (refsOf (ts.take j ++ [(r2, raisedE r.2.1 r.2.2 m, raisedN r.2.2 m)] ++ ts.drop (j + 1)))) := by
    rw [hp5, refsOf_app, refsOf_app]
    rfl
  obtain ⟨p1', p2'⟩ := raised_pos (i := m) o2
  walk_at "go"
  refine ⟨_, _, rfl, d, p5, pg, pgs, _, rfl, rfl, hd.mono kf, pl, ⟨hp5', fun x hx => ?_, fun x hx => ?_, ?_⟩, fun H6 k6 hd6 => ?_⟩
  · rcases List.mem_append.mp hx with z | z
    · rcases List.mem_append.mp z with z | z
      · exact (h3.rts x (List.mem_of_mem_take z)).mono kf
      · rw [List.mem_singleton.mp z]
        exact hr2.mono (Same.trans k23 k45)
    · exact (h3.rts x (List.mem_of_mem_drop z)).mono kf
  · rcases List.mem_append.mp hx with z | z
    · rcases List.mem_append.mp z with z | z
      · exact h3.ok x (List.mem_of_mem_take z)
      · rw [List.mem_singleton.mp z]
        exact ⟨⟨z3, z4⟩, p1', Nat.le_trans p2' o3, raised_cop o2 o4⟩
    · exact h3.ok x (List.mem_of_mem_drop z)
  · rw [List.length_append, List.length_append, List.length_take, List.length_drop]
    show _ + 1 + _ ≤ 5
    omega
  · walk_at "go"
    refine q5 z1 z2 z3 z4 H6 (Kp.trans (Kp.of kf) k6) ?_
    rw [rsOf_app, rsOf_app, rsOf_take, rsOf_drop, h4] at hd6
    exact hd6
theorem cut_last {l : List V} {v : V} : cutV (l ++ [v]) none (some (-1)) = l := by
  unfold cutV
  have h : HT.sIx (l ++ [v]).length (l ++ [v]).length (some (-1)) = l.length := by
    unfold HT.sIx
    simp
    omega
  rw [HT.sIx_none, h, List.drop_zero, Nat.sub_zero]
  simp
def sp_Desk_undo (K : PySem.W.Frag) : Sp := sp1 fun a H Q E => ∃ (d : Addr) (pg : Rs) (pgs : List Rs), a = .ref d ∧ DeskAt K H d pg pgs ∧ pgs.length ≤ 1000 ∧
  (pgs = [] → ∀ d' H', Same H H' → E (.ref (gaK K "NothingToUndo")) d' H') ∧ (∀ ps p, pgs = ps ++ [p] → ∀ H', Kp [d] H H' → DeskAt K H' d p ps → Q .non H')
theorem c_Desk_undo (T : Tx K mg) : MetX P w K mg base (L2.CX P w) 1 (gaK K "Desk") "undo" (sp_Desk_undo K) := by
  refine met_of (F_Desk_undo T) (cl_Desk T) (me_Desk_undo T) bd_Desk_undo sc_Desk_undo len1 (fun cdv A outer s H vs Q E hr h => ?_)
  obtain ⟨_, rfl, d, pg, pgs, rfl, hd, pl, q1, q2⟩ := h
  obtain ⟨dx, st, pa, as, h1, hst, hpa, has, epg⟩ := id hd
  refine ⟨_, (pss_cons (ps_if (pt_cmpR (op_eqE hr.units) (pe_fld (pv 0) rfl) (pe_tup pa_nil) (nomark _)) (pss_one (ps_raise rfl tX (pmk_own0 PySem.F.excBase_ArithmeticError T.no_in (gC_NothingToUndo T) T.no_kp (raises_own T.no_sub T.no_ty)))) pss_nil)
      (pss_cons (ps_fld (pv 0) (pe_ix ix_tup (pe_fld (pv 0) rfl) (pe_un un_neg pe_int) (fun _ _ => rfl)) rfl)
      (pss_one (ps_fld (pv 0) (pe_slice sl_tupA (pe_fld (pv 0) rfl) po_none (po_some (pe_un un_neg pe_int))) rfl)))), ?_⟩
  walk_at "go"
  refine ⟨d, _, dx, _, .ref pa, rfl, h1, cl_Desk T, na_Desk_past T, fl2 (by decide), ?_⟩
  walk_at "go"
  refine mkT fun b hb => ?_
  have kb := same_new (o := .tup []) hb
  refine ⟨pa, b, _, rfl, rfl, .inl ⟨SqT.of (kb _ _ hpa), SqT.of upd_same⟩, ?_⟩
  walk_at "go"
  rcases List.eq_nil_or_concat as with z | ⟨bs, x, z⟩
  · subst z
    refine iteT ?_
    walk_at "go"
    exact q1 (by rw [← epg]; rfl) none _ kb
  · rw [List.concat_eq_append] at z
    subst z
    have e1 : ((bs ++ [x]).map fun x => V.ref x.1) = (bs.map fun x => V.ref x.1) ++ [V.ref x.1] := List.map_append
    rw [e1] at hpa
    refine (fun h => (by rw [e1]; simpa using h)) ?_
    have hb1 := kb _ _ h1
    have hpb := kb _ _ hpa
    walk_at "go"
    refine ⟨d, _, dx, _, .ref pa, rfl, hb1, cl_Desk T, na_Desk_past T, fl2 (by decide), ?_⟩
    walk_at "go"
    refine g_ixT (SqT.of hpb) (atI_last _ _) ?_
    walk_at "go"
    refine ⟨d, _, dx, _, rfl, hb1, cl_Desk T, na_Desk_state T, (by show (2 : Nat) < 1000; decide), ?_⟩
    walk_at "go"
    have npa : pa ≠ d := ne_of_ins hpb hb1
    refine ⟨d, _, dx, _, .ref pa, rfl, upd_same, cl_Desk T, na_Desk_past T, fl2 (u := .ref x.1) (by decide), ?_⟩
    walk_at "go"
    refine slA_any ((upd_ne npa).trans hpb) fun pn H3 k3 hpn => ?_
    rw [show (-1 : Int) = -1 from rfl, cut_last] at hpn
    have hd3 := k3 _ _ upd_same
    have npn : pn ≠ d := ne_of_ins hpn hd3
    walk_at "go"
    refine ⟨d, _, dx, _, rfl, hd3, cl_Desk T, na_Desk_past T, (by show (2 : Nat) < 1000; decide), ?_⟩
    have nr : NoRt K H [d] := NoRt.desk h1
    have kp : ∀ o, Kp [d] H (upd H3 d o) := fun o a u na e => by
      have n1 : a ≠ d := fun z => na (List.mem_singleton.mpr z)
      rw [upd_ne n1]
      exact k3 _ _ ((upd_ne n1).trans (kb _ _ e))
    refine q2 (bs.map (·.2)) x.2 (by rw [← epg, List.map_append]; rfl) _ (kp _) ⟨dx, x.1, pn, bs, upd_same, (has x (List.mem_append_right _ (List.mem_singleton.mpr rfl))).kp (kp _) nr, (upd_ne npn).trans hpn, fun y hy => (has y (List.mem_append_left _ hy)).kp (kp _) nr, rfl⟩
end
end PP
-- text PL
namespace PP
open PySem PySem.Spec PyProof.Rows L2 LamX
/-! a lambda handed to a method -/
theorem lamTX {X : Cx} {A : Around} {outer : List Env} {s : Shared} {H : Hp} {E : XK} {scope : Scope} {f c' : Addr} : Takes (lamCx X A outer s H E scope f c') (fun cls d _ H => E cls d H) := takes_of rfl rfl rfl rfl
theorem lamPX {X : Cx} {A : Around} {outer : List Env} {s : Shared} {H : Hp} {E : XK} {scope : Scope} {f c' : Addr} : Passes (L2.CX X.prog X.w) (lamCx X A outer s H E scope f c') E := passes_call lamTX fun _ _ _ _ h => h
/-- the code object of the def at f has its table at P -/
def CodeT (K : PySem.W.Frag) (mg : Str → Option Value) (base : Heap) (f P : Addr) : Prop := ∀ (fd : FuncData) oc od osl, K.lookup f = some ⟨oc, od, .func fd, osl⟩ → ∃ c, fd.code = .ref c ∧ TabB base mg c P
section
variable {P : Program} {w : World} {K : PySem.W.Frag} {mg : Str → Option Value} {base : Heap} {k : Nat} {name qual m : Str} {st : Stmt} {f C : Addr} {N ps : List Str} {sp : Sp} {Pt : Addr}
theorem metC_of (F : FnP K name qual st f) (c : Cls K C) (hm : Meth K C m f) (b : BindTo st name qual ps) (S : FnScope N ps (defScope st)) (len : ∀ vs H Q E, sp vs H Q E → vs.length = ps.length) (hc : CodeT K mg base f Pt)
    (h : ∀ (cd : Addr), TabB base mg cd Pt → ∀ (A : Around) (outer : List Env) (s : Shared) (H : Hp) (vs : List V) (Q : VK) (E : XK), Room k (A.deeper (envOfC qual (defScope st) s.heap.objs.size f (.ref cd))) → sp vs H Q E →
      ∃ t, PSs (cxOf CX0 P w K mg base N qual (defScope st) f (.ref cd) A outer s H E).nox (defBody st) t ∧ t { nx := fun _ H' => Q .non H', rt := Q } (start N vs) H) :
    MetX P w K mg base CX0 (k + 1) C m sp := by
  obtain ⟨fd, F⟩ := F
  obtain ⟨oc, od, dV, kV, doc, pm, an, cdv, ct, osl, e, lk, hcd, _, _⟩ := F.ex
  obtain ⟨cd, e2, tb⟩ := hc _ _ _ _ lk
  subst e
  have e3 : cdv = .ref cd := e2
  subst e3
  refine ⟨f, _, ps, c, hm, fn_of lk hcd S len fun A outer s H vs Q E hr hs => ?_, F.bindsN b⟩
  obtain ⟨t, h1, h2⟩ := h cd tb A outer s H vs Q E hr hs
  exact ⟨t, h1.nox, h2⟩
end
/-- the def that calls what it got beside its own instance -/
def GivesM (X : Cx) (Ng : List Str) (qg : Str) (sg : Scope) (g : Addr) (cdg : Value) (bg : List Stmt) (a : Str) (q : Str) (TT : Addr → (XK → Hp → VK → Prop) → Hp → VK → Prop) : Prop :=
  ∀ (o f c' : Addr) (s : Shared) (H : Hp) (Q : VK) (tl : XK → Hp → VK → Prop),
    (∀ (W : WX) (pn : List (Addr × Obj)) (xe : Value → Shared → Prop) (E : XK) (p1 p2 : Pos), Takes ((cxOf C8.CX0 X.prog X.w X.K X.mg X.base Ng qg sg g cdg X.A X.stack s H C8.E0).tr pn xe) W → (∀ cls d σ' H', E cls d H' → W cls d σ' H') →
      PE ((cxOf C8.CX0 X.prog X.w X.K X.mg X.base Ng qg sg g cdg X.A X.stack s H C8.E0).tr pn xe) (.Call (.Name a p1) [] [] p2) (fun σZ HZ Q => σZ[1]? = some (some (.ref f)) ∧ HZ c' = some (CodeO c' q) ∧ tl E HZ Q)) →
    H c' = some (CodeO c' q) → TT o tl H Q →
    ∃ t, PSs (cxOf C8.CX0 X.prog X.w X.K X.mg X.base Ng qg sg g cdg X.A X.stack s H C8.E0).nox bg t ∧ t { nx := fun _ H' => Q .non H', rt := Q } (L2.start Ng [.ref o, .ref f]) H
def tLamM (C : Addr) (m : Str) (T : List (Addr × Str)) (TT : Addr → (XK → Hp → VK → Prop) → Hp → VK → Prop) (ta : TE) (t : XK → TE) : TE := fun σ H Q => ta σ H fun x H1 => ∃ o dx fs, x = .ref o ∧ H1 o = some (.ins C dx fs) ∧ fs.lookup m = none ∧ Tabs T H1 ∧ ∀ H2, ExtN H1 H2 → Tabs T H2 → TT o (fun E H' Q' => t E σ H' Q') H2 Q
section
variable {X : Cx}
/-- o.m(lambda: body) -/
theorem pe_lamM {T : List (Addr × Str)} {TT : Addr → (XK → Hp → VK → Prop) → Hp → VK → Prop} {m a a0 name qual : Str} {g c P C : Addr} {k : Nat} {st : Stmt} {Ng : List Str} {o : Expr} {ta : TE}
    {params : Arguments} {body : Expr} {scope : Scope} {t : XK → TE} {pl : Sem Bool} {apos lpos pos : Pos} (he : PE X o ta) (cC : Cls X.K C) (hM : Meth X.K C m g)
    (FP : FnP X.K name qual st g) (hb : BindTo st name qual [a0, a]) (Sg : FnScope Ng [a0, a] (defScope st)) (hNg : Ng[1]? = some a) (hva : Vis (defScope st) a)
    (hG : ∀ cdg, GivesM X Ng qual (defScope st) g cdg (defBody st) a (X.env.qual ++ "<lambda>") TT)
    (TB : TabB X.base X.mg c P) (hcode : X.env.code = .ref c) (hmT : (P, X.env.qual ++ "<lambda>") ∈ T) (hu : ∀ p ∈ T, p.1 = P → p.2 = X.env.qual ++ "<lambda>") (hr : Room (k + 2) X.A) (L : LamS X.env.scope scope) (hdef : defaultsOf params X.env = ([], []))
    (hbind : ∀ (q : Str) (cl : List (Str × Addr)) (pm cv ctv : Value), bindArgs (PySem.W.kla_fn "<lambda>" q params body scope cl pm cv ctv) ⟨[], []⟩ = pure [])
    (hbody : ∀ (A : Around) (outer : List Env) (s : Shared) (H : Hp) (E : XK) (f c' : Addr), Room k (A.deeper (lamEnv X scope s.heap.objs.size f c')) → PE (lamCx X A outer s H E scope f c') body (t E))
    (hd : (a == ("__debug__" : Str)) = false := by decide) (hcd : (a == ("__classdict__" : Str)) = false := by decide)
    (ht : eval (.Call (.Attribute o m apos) [.Lambda params body scope lpos] [] pos) X.env = (do
      let ov ← eval o X.env
      standAt apos.atName
      let (f, first) ← holding [ov] (getMethod ov m pl)
      callWith pos f first (backTo pos (starEach [.Lambda params body scope lpos] X.env)) (backToKw pos (keywordEach [] X.env))) := by rfl) :
    PE X (.Call (.Attribute o m apos) [.Lambda params body scope lpos] [] pos) (tLamM C m T TT ta t) := by
  obtain ⟨fd, F⟩ := FP
  obtain ⟨oc, od, dV, kV, doc, pm, an, cdv, ct, osl, e, lk, hcg, dd, kk⟩ := F.ex
  have BB := F.bindsN hb
  subst e
  refine ⟨fun pins s σ H Q I h => ?_⟩
  refine PySem.W.methodCall_KW (pl := pl) (thn (he.run pins s σ H _ I h) fun u s1 ⟨x, H1, I1, rx, a1, dx, fs, ex, ea, l, hT, q⟩ => ?_) ht
  subst ex
  obtain rfl : u = Value.ref a1 := rx
  refine getmeth_ok I1 ea cC hM l ?_
  refine PySem.W.callWith_K (first := [.ref a1]) (h₀ := X.base) I.ok.mod.kin hM.kp ?_ (by rfl) (by rfl)
  show wpAny _ _ (spliced ((false, eval (.Lambda params body scope lpos) X.env) :: backTo pos (starEach [] X.env))) _ _ s1
  refine Calls.spliced_cons (lam_make2 I1 TB hcode hmT hu hT hdef (L.has I1.ok) fun f c' pm' ctv H2 s' I2 eN T1 hf hfn hfr hco => ?_)
  refine Calls.spliced_nil ⟨I2.kIn, ?_⟩
  have rc : codeAny (model X.prog X.w) X.A (.call (.ref g) ⟨[.ref a1, .ref f], []⟩) (CR C8.CX0 X.stack X.prog X.w H2 s' Q C8.E0) s' := by
    refine run_ofS (N := Ng) (ps := [a0, a]) (us := [.ref a1, .ref f]) (vs := [.ref a1, .ref f]) lk hcg Sg hr I2.env0 (BB s' [.ref a1, .ref f] I2.kIn rfl) (.cons rfl (.cons rfl .nil)) rfl fun hr' => ?_
    obtain ⟨t', ht', hq'⟩ := hG cdv a1 f c' s' H2 Q (fun E H' Q' => t E σ H' Q') (fun W pn xe E p1 p2 tk hW => pe_act (i := 1) I2 L hf hfn hfr (hbind _ _ _ _ _) tk hW hr' (fun A outer s H hr2 => hbody A outer s H E f c' hr2) hNg hva hd hcd) hco (q H2 eN T1)
    exact ⟨t', ht'.nox, hq'⟩
  refine wpAny_call (codeAny_mono rc fun r s2 hq => ?_)
  cases r with
  | error e => exact (show False from hq).elim
  | ok fl =>
    cases fl with
    | ret u => exact I2.after hq
    | next => exact False.elim hq
    | brk => exact False.elim hq
    | cont => exact False.elim hq
end
end PP
-- text WN
namespace PP
open PySem PySem.Spec PyProof.Rows L2 LamX
section
variable {P : Program} {w : World} {K : PySem.W.Frag} {mg : Str → Option Value} {base : Heap}
/-! done -/
abbrev doneNames : List Str := ["InvalidNumber", "InvalidDegree", "InvalidIndex", "TooGreat", "NothingToUndo"]
def TTd (K : PySem.W.Frag) : Addr → (XK → Hp → VK → Prop) → Hp → VK → Prop := fun _ tl H Q => tl (fun cls _ H' => ∃ nm, nm ∈ doneNames ∧ cls = .ref (gaK K nm) ∧ Q (.str nm) H') H (fun _ H' => Q (.str "ok") H')
theorem done_gives {X : Cx} (T : Tx X.K X.mg) {g : Addr} {cdg : Value} {q : Str} : GivesM X N_Console_done "Console.done" (defScope s_Console_done) g cdg (defBody s_Console_done) "act" q (TTd X.K) := by
  intro o f c' s H Q tl act hc h
  refine ⟨_, pss_cons (ps_try_many (X := (cxOf C8.CX0 X.prog X.w X.K X.mg X.base N_Console_done "Console.done" (defScope s_Console_done) g cdg X.A X.stack s H C8.E0).nox)
      (tb := fun W D σ H => ∃ Ech : XK, (∀ cls d σ' H', Ech cls d H' → W cls d σ' H') ∧ σ[1]? = some (some (.ref f)) ∧ H c' = some (CodeO c' q) ∧ tl Ech H fun _ H' => D.nx σ H')
      rfl rfl LamX.takes0 (fun W pn xe tk _ => ?_) (.cons (x := "InvalidNumber") (c := .ref (gaK X.K "InvalidNumber")) ⟨rfl, by decide, .inl (gC_InvalidNumber T)⟩ (fun _ _ _ _ _ _ _ => pss_one (ps_ret pe_str)) (.cons (x := "InvalidDegree") (c := .ref (gaK X.K "InvalidDegree")) ⟨rfl, by decide, .inl (gC_InvalidDegree T)⟩ (fun _ _ _ _ _ _ _ => pss_one (ps_ret pe_str)) (.cons (x := "InvalidIndex") (c := .ref (gaK X.K "InvalidIndex")) ⟨rfl, by decide, .inl (gC_InvalidIndex T)⟩ (fun _ _ _ _ _ _ _ => pss_one (ps_ret pe_str)) (.cons (x := "TooGreat") (c := .ref (gaK X.K "TooGreat")) ⟨rfl, by decide, .inl (gC_TooGreat T)⟩ (fun _ _ _ _ _ _ _ => pss_one (ps_ret pe_str)) (.cons (x := "NothingToUndo") (c := .ref (gaK X.K "NothingToUndo")) ⟨rfl, by decide, .inl (gC_NothingToUndo T)⟩ (fun _ _ _ _ _ _ _ => pss_one (ps_ret pe_str)) .nil)))))) (pss_one (ps_ret pe_str)), ?_⟩
  · refine ⟨fun pins s' σ H' D I h' => ?_⟩
    obtain ⟨Ech, hW, h1, h2, h3⟩ := h'
    exact (pss_one (ps_expr (act W pn xe Ech _ _ tk hW))).run pins s' σ H' D I ⟨h1, h2, h3⟩
  · refine ⟨_, fun cls d σ' H' h' => ?_, rfl, hc, h⟩
    obtain ⟨nm, hm, rfl, hq⟩ := h'
    simp only [List.mem_cons, List.not_mem_nil, or_false] at hm
    rcases hm with rfl | rfl | rfl | rfl | rfl
    · exact ⟨true, xm_InvalidNumber_InvalidNumber T, fun _ a ha => hq, (fun z => nomatch z)⟩
    · exact ⟨false, xm_InvalidDegree_InvalidNumber T, (fun z => nomatch z), fun _ => ⟨true, xm_InvalidDegree_InvalidDegree T, fun _ a ha => hq, (fun z => nomatch z)⟩⟩
    · exact ⟨false, xm_InvalidIndex_InvalidNumber T, (fun z => nomatch z), fun _ => ⟨false, xm_InvalidIndex_InvalidDegree T, (fun z => nomatch z), fun _ => ⟨true, xm_InvalidIndex_InvalidIndex T, fun _ a ha => hq, (fun z => nomatch z)⟩⟩⟩
    · exact ⟨false, xm_TooGreat_InvalidNumber T, (fun z => nomatch z), fun _ => ⟨false, xm_TooGreat_InvalidDegree T, (fun z => nomatch z), fun _ => ⟨false, xm_TooGreat_InvalidIndex T, (fun z => nomatch z), fun _ => ⟨true, xm_TooGreat_TooGreat T, fun _ a ha => hq, (fun z => nomatch z)⟩⟩⟩⟩
    · exact ⟨false, xm_NothingToUndo_InvalidNumber T, (fun z => nomatch z), fun _ => ⟨false, xm_NothingToUndo_InvalidDegree T, (fun z => nomatch z), fun _ => ⟨false, xm_NothingToUndo_InvalidIndex T, (fun z => nomatch z), fun _ => ⟨false, xm_NothingToUndo_TooGreat T, (fun z => nomatch z), fun _ => ⟨true, xm_NothingToUndo_NothingToUndo T, fun _ a ha => hq, (fun z => nomatch z)⟩⟩⟩⟩⟩
end
end PP
-- text WO
namespace PP
open PySem PySem.Spec PyProof.Rows L2 LamX TL
section
variable {P : Program} {w : World} {K : PySem.W.Frag} {mg : Str → Option Value} {base : Heap}
/-! what lines do -/
structure Sta where
  s : Int
  e : E4
  pg : Rs
  pgs : List Rs
inductive Ln where
  | number | always | undo | degree | roots
  | take (s : Int) (e : E4)
  | put (n : Int)
  | drop (i : Int)
  | turn (i m : Int)
  | splits (n : Int)
  | next (n : Int)
def Ln.words : Ln → List Str
  | .number => ["number"]
  | .always => ["always"]
  | .undo => ["undo"]
  | .degree => ["degree"]
  | .roots => ["roots"]
  | .take s e => ["take", nText (s * (e.tp : Int)) (e.bt : Int)]
  | .put n => ["put", iS n]
  | .drop i => ["drop", iS i]
  | .turn i m => ["turn", iS i, iS m]
  | .splits n => ["splits", iS n]
  | .next n => ["next", iS n]
def Ln.text (l : Ln) : Str := Txt.join " " l.words
/-- the lines that are drawn -/
def LnOk : Ln → Prop
  | .take s e => (s = 1 ∨ s = -1) ∧ Ok30 e
  | .put n => n.natAbs < 10 ^ 40
  | .drop i => i.natAbs < 10 ^ 40
  | .turn i m => i.natAbs < 10 ^ 40 ∧ m.natAbs < 10 ^ 40
  | .splits n => n.natAbs < 10 ^ 40
  | .next n => n.natAbs < 10 ^ 40
  | _ => True
def rootsTxt (pg : Rs) : Str := if pg = [] then "none" else Txt.join "; " (pg.map fun r => rText r.1 r.2)
inductive Step : Ln → Sta → Str → Sta → Prop
  | number {z : Sta} : Step .number z (nText (z.s * (z.e.tp : Int)) (z.e.bt : Int)) z
  | always {z : Sta} : Step .always z (if Alw z.s z.e then "yes" else "no") z
  | undo0 {z : Sta} (h : z.pgs = []) : Step .undo z "NothingToUndo" z
  | undo1 {z : Sta} {ps : List Rs} {p : Rs} (h : z.pgs = ps ++ [p]) : Step .undo z "ok" { z with pg := p, pgs := ps }
  | degree {z : Sta} {n : Nat} (h : TwrN z.pg n) : Step .degree z (iS (n : Int)) z
  | roots {z : Sta} : Step .roots z (rootsTxt z.pg) z
  | take {z : Sta} {s : Int} {e : E4} : Step (.take s e) z "ok" { z with s := s, e := e }
  | put1 {z : Sta} {n : Int} (h : z.s ≠ 1) : Step (.put n) z "InvalidNumber" z
  | put2 {z : Sta} {n : Int} (h : z.s = 1) (h2 : ¬ (1 ≤ n ∧ n ≤ 60)) : Step (.put n) z "InvalidDegree" z
  | put3 {z : Sta} {n : Int} (h : z.s = 1) (h1 : 1 ≤ n) (h2 : n ≤ 60) (h3 : z.pg.length = 5) : Step (.put n) z "TooGreat" z
  | put4 {z : Sta} {n : Int} (h : z.s = 1) (h1 : 1 ≤ n) (h2 : n ≤ 60) (h3 : z.pg.length ≠ 5) : Step (.put n) z "ok" { z with pg := z.pg ++ [(lfE z.e n.toNat, lfN z.e n.toNat)], pgs := z.pgs ++ [z.pg] }
  | drop1 {z : Sta} {i : Int} (h : ¬ (0 ≤ i ∧ i < z.pg.length)) : Step (.drop i) z "InvalidIndex" z
  | drop2 {z : Sta} {i : Int} (h1 : 0 ≤ i) (h2 : i < z.pg.length) : Step (.drop i) z "ok" { z with pg := z.pg.take i.toNat ++ z.pg.drop (i.toNat + 1), pgs := z.pgs ++ [z.pg] }
  | turn1 {z : Sta} {i m : Int} (h : ¬ (0 ≤ i ∧ i < z.pg.length)) : Step (.turn i m) z "InvalidIndex" z
  | turn2 {z : Sta} {i m : Int} {e : E4} {n : Nat} (h1 : 0 ≤ i) (h2 : z.pg[i.toNat]? = some (e, n)) (h : ¬ (-20 ≤ m ∧ m ≤ 20)) : Step (.turn i m) z "InvalidDegree" z
  | turn3 {z : Sta} {i m : Int} {e : E4} {n : Nat} (h1 : 0 ≤ i) (h2 : z.pg[i.toNat]? = some (e, n)) (h3 : -20 ≤ m) (h4 : m ≤ 20) (h : ¬ ((raisedE e n m).tp ≤ 10 ^ 30 ∧ (raisedE e n m).bt ≤ 10 ^ 30)) : Step (.turn i m) z "TooGreat" z
  | turn4 {z : Sta} {i m : Int} {e : E4} {n : Nat} (h1 : 0 ≤ i) (h2 : z.pg[i.toNat]? = some (e, n)) (h3 : -20 ≤ m) (h4 : m ≤ 20) (h5 : (raisedE e n m).tp ≤ 10 ^ 30) (h6 : (raisedE e n m).bt ≤ 10 ^ 30) :
      Step (.turn i m) z "ok" { z with pg := z.pg.take i.toNat ++ [(raisedE e n m, raisedN n m)] ++ z.pg.drop (i.toNat + 1), pgs := z.pgs ++ [z.pg] }
  | splits1 {z : Sta} {n : Int} (h : ¬ (1 ≤ n ∧ n ≤ 10 ^ 30)) : Step (.splits n) z "InvalidDegree" z
  | splits2 {z : Sta} {n : Int} (h1 : 1 ≤ n) (h2 : n ≤ 10 ^ 30) : Step (.splits n) z (if Spl z.s z.e n.toNat then "yes" else "no") z
  | next1 {z : Sta} {n : Int} (h : ¬ (1 ≤ n ∧ n ≤ 10 ^ 30)) : Step (.next n) z "InvalidDegree" z
  | next2 {z : Sta} {n : Int} (h1 : 1 ≤ n) (h2 : n ≤ 10 ^ 30) (h : Alw z.s z.e) : Step (.next n) z "never" z
  | next3 {z : Sta} {n : Int} {m : Nat} (h1 : 1 ≤ n) (h2 : n ≤ 10 ^ 30) (h : ¬ Alw z.s z.e) (h3 : Next z.s z.e n.toNat m) : Step (.next n) z (iS (m : Int)) z
/-! heaps: all but some addresses and the tables of code stays -/
def Kx (S : List Addr) (H H' : Hp) : Prop := ∀ a o, a ∉ S → (∀ ps, o ≠ .tbl ps) → H a = some o → H' a = some o
theorem Kx.kp {S : List Addr} {H H' : Hp} (k : Kp S H H') : Kx S H H' := fun a o n _ e => k a o n e
theorem Kx.ext {S : List Addr} {H H' : Hp} (k : ExtN H H') : Kx S H H' := fun a o _ n e => k a o e n
theorem Kx.same {S : List Addr} {H H' : Hp} (k : Same H H') : Kx S H H' := fun a o _ _ e => k a o e
theorem Kx.refl {S : List Addr} {H : Hp} : Kx S H H := fun _ _ _ _ e => e
theorem Kx.trans {S : List Addr} {H H' H'' : Hp} (k : Kx S H H') (k2 : Kx S H' H'') : Kx S H H'' := fun a o n t e => k2 a o n t (k a o n t e)
theorem Kx.mono {S S' : List Addr} {H H' : Hp} (k : Kx S H H') (h : ∀ x ∈ S, x ∈ S') : Kx S' H H' := fun a o n t e => k a o (fun z => n (h a z)) t e
theorem Kx.tup {S : List Addr} {H H' : Hp} (k : Kx S H H') {a : Addr} {xs : List V} (n : a ∉ S) (e : H a = some (.tup xs)) : H' a = some (.tup xs) := k a _ n (fun _ z => by cases z) e
theorem Kx.lst {S : List Addr} {H H' : Hp} (k : Kx S H H') {a : Addr} {xs : List V} (n : a ∉ S) (e : H a = some (.lst xs)) : H' a = some (.lst xs) := k a _ n (fun _ z => by cases z) e
theorem Kx.ins {S : List Addr} {H H' : Hp} (k : Kx S H H') {a C dx : Addr} {fs : List (Str × V)} (n : a ∉ S) (e : H a = some (.ins C dx fs)) : H' a = some (.ins C dx fs) := k a _ n (fun _ z => by cases z) e
theorem RootAt.kx {H H' : Hp} {S : List Addr} {r : Addr} {e : E4} {d : Nat} (h : RootAt K H r e d) (k : Kx S H H') (hS : NoRt K H S) : RootAt K H' r e d := by
  obtain ⟨dx, f, h1, nb, h2, h3⟩ := h
  exact ⟨dx, f, k.ins (fun z => (hS.ne _ z).2 _ _ h1) h1, nb, k.tup (fun z => (hS.ne _ z).1 _ h2) h2, k.tup (fun z => (hS.ne _ z).1 _ h3) h3⟩
theorem TupR.kx {H H' : Hp} {S : List Addr} {t : Addr} {ts : Rts} (h : TupR K H t ts) (k : Kx S H H') (n : NoRt K H S) : TupR K H' t ts :=
  ⟨k.tup (fun z => (n.ne _ z).1 _ h.tup) h.tup, fun r hr => (h.rts r hr).kx k n, h.ok, h.len⟩
theorem StAt.kx {H H' : Hp} {S : List Addr} {a : Addr} {pg : Rs} (h : StAt K H a pg) (k : Kx S H H') (n : NoRt K H S) : StAt K H' a pg := by
  obtain ⟨t, ts, m, h1, h2, h3, h4⟩ := h
  exact ⟨t, ts, m, k.tup (fun z => (n.ne _ z).1 _ h1) h1, h2.kx k n, h3, h4⟩
theorem NoRt.nil {H : Hp} : NoRt K H [] := fun x hx => (List.not_mem_nil hx).elim
theorem DeskAt.kx {H H' : Hp} {S : List Addr} {d : Addr} {pg : Rs} {pgs : List Rs} (h : DeskAt K H d pg pgs) (k : Kx S H H') (n : NoRt K H S) (nd : d ∉ S) : DeskAt K H' d pg pgs := by
  obtain ⟨dx, st, pa, as, h1, h2, h3, h4, h5⟩ := h
  exact ⟨dx, st, pa, as, k.ins nd h1, h2.kx k n, k.tup (fun z => (n.ne _ z).1 _ h3) h3, fun x hx => (h4 x hx).kx k n, h5⟩
/-- a console -/
def ConAt (K : PySem.W.Frag) (H : Hp) (c d : Addr) (z : Sta) : Prop := ∃ dx tk, H c = some (.ins (gaK K "Console") dx [("taken", .ref tk), ("desk", .ref d)]) ∧ NumP H tk z.s z.e ∧ DeskAt K H d z.pg z.pgs
theorem ConAt.ext {H H' : Hp} {c d : Addr} {z : Sta} (h : ConAt K H c d z) (k : Kx [] H H') : ConAt K H' c d z := by
  obtain ⟨dx, tk, h1, h2, h3⟩ := h
  exact ⟨dx, tk, k.ins (by simp) h1, ⟨k.tup (by simp) h2.1, h2.2⟩, h3.kx k NoRt.nil (by simp)⟩
theorem ConAt.ne {H : Hp} {c d : Addr} {z : Sta} (h : ConAt K H c d z) : c ≠ d := fun e => by
  obtain ⟨dx, tk, h1, _, dx2, st, pa, as, h2, _⟩ := h
  rw [e, h2] at h1
  injection h1 with h1
  injection h1 with _ _ h1
  have := (List.cons.inj h1).1
  have := congrArg Prod.fst this
  exact absurd (show (Str.ofString "state") = Str.ofString "taken" from this) (by decide)
theorem ConAt.nort {H : Hp} {c d : Addr} {z : Sta} (h : ConAt K H c d z) : NoRt K H [c, d] := by
  obtain ⟨dx, tk, h1, _, dx2, st, pa, as, h2, _⟩ := h
  intro x hx
  rcases List.mem_cons.mp hx with e | e
  · rw [e]
    exact ⟨_, _, _, h1, (by show (2 : Nat) ≠ 1; decide)⟩
  · rw [List.mem_singleton.mp e]
    exact ⟨_, _, _, h2, (by show (2 : Nat) ≠ 1; decide)⟩
/-- the desk alone changed -/
theorem ConAt.desk {H H' : Hp} {c d : Addr} {z : Sta} {pg : Rs} {pgs : List Rs} (h : ConAt K H c d z) (k : Kp [d] H H') (hd : DeskAt K H' d pg pgs) : ConAt K H' c d { z with pg := pg, pgs := pgs } := by
  have ne := h.ne
  obtain ⟨dx, tk, h1, h2, h3⟩ := h
  obtain ⟨dx2, st, pa, as, h4, _⟩ := h3
  exact ⟨dx, tk, k _ _ (fun e => ne (List.mem_singleton.mp e)) h1, ⟨k _ _ (fun e => ne_of_ins h2.1 h4 (List.mem_singleton.mp e)) h2.1, h2.2⟩, hd⟩
/-! the tables -/
def tabs (P1 P2 : Addr) : List (Addr × Str) := [(P1, "Console.plain.<locals>.<lambda>"), (P2, "Console.answer.<locals>.<lambda>")]
structure Tb (K : PySem.W.Frag) (mg : Str → Option Value) (base : Heap) (P1 P2 : Addr) : Prop where
  plain : CodeT K mg base (He.ma K (gaK K "Console") "plain") P1
  answer : CodeT K mg base (He.ma K (gaK K "Console") "answer") P2
  ne : P1 ≠ P2
  asking : ∃ a, mg "ASKING" = some (.ref a) ∧ ∀ H, SqT K H a [.str "splits", .str "why", .str "next", .str "parts"]
theorem Tabs.kp {T : List (Addr × Str)} {H H' : Hp} {S : List Addr} (t : Tabs T H) (k : Kp S H H') (hS : ∀ x ∈ S, ∃ C dx fs, H x = some (.ins C dx fs)) : Tabs T H' := fun p hp => by
  obtain ⟨ps, h1, h2, h3⟩ := t p hp
  have nn : ∀ (a : Addr) (o : HO), H a = some o → (∀ C dx fs, o ≠ .ins C dx fs) → H' a = some o := fun a o e n => k a o (fun z => by
    obtain ⟨C, dx, fs, e2⟩ := hS a z
    rw [e] at e2
    exact n _ _ _ (Option.some.inj e2)) e
  refine ⟨ps, nn _ _ h1 (fun _ _ _ z => by cases z), h2, fun pos cv hc => ?_⟩
  obtain ⟨c, e1, e2⟩ := h3 pos cv hc
  exact ⟨c, e1, nn _ _ e2 (fun _ _ _ z => by unfold CodeO at z; cases z)⟩
theorem tabs_m1 {P1 P2 : Addr} : (P1, ("Console.plain.<locals>.<lambda>" : Str)) ∈ tabs P1 P2 := List.mem_cons_self ..
theorem tabs_m2 {P1 P2 : Addr} : (P2, ("Console.answer.<locals>.<lambda>" : Str)) ∈ tabs P1 P2 := List.mem_cons_of_mem _ (List.mem_cons_self ..)
theorem tabs_u1 {P1 P2 : Addr} (h : P1 ≠ P2) : ∀ p ∈ tabs P1 P2, p.1 = P1 → p.2 = "Console.plain.<locals>.<lambda>" := fun p hp e => by
  rcases List.mem_cons.mp hp with z | z
  · rw [z]
  · rw [List.mem_singleton.mp z] at e
    exact absurd e.symm h
theorem tabs_u2 {P1 P2 : Addr} (h : P1 ≠ P2) : ∀ p ∈ tabs P1 P2, p.1 = P2 → p.2 = "Console.answer.<locals>.<lambda>" := fun p hp e => by
  rcases List.mem_cons.mp hp with z | z
  · rw [z] at e
    exact absurd e h
  · rw [List.mem_singleton.mp z]
/-- what an answer leaves -/
def EndsQ (K : PySem.W.Frag) (P1 P2 c d : Addr) (H : Hp) (l : Ln) (z : Sta) (Q : VK) : Prop := ∀ H' a z', Kx [c, d] H H' → Tabs (tabs P1 P2) H' → ConAt K H' c d z' → Step l z a z' → Q (.str a) H'
end
end PP
-- text WQ
namespace PP
open PySem PySem.Spec PyProof.Rows L2 LamX
section
variable {P : Program} {w : World} {K : PySem.W.Frag} {mg : Str → Option Value} {base : Heap}
def e2 : E4 := ⟨1, 0, 0, 0⟩
theorem e2_ok : Ok30 e2 := ⟨by decide, by decide⟩
def sp_Console_init (K : PySem.W.Frag) : Sp := sp1 fun a H Q _ => ∃ (x dx : Addr), a = .ref x ∧ H x = some (.ins (gaK K "Console") dx []) ∧ ∀ H' d, H d = none → d ≠ x → Kp [x] H H' → ConAt K H' x d ⟨1, e2, [], []⟩ → Q .non H'
theorem c_Console_init (T : Tx K mg) : MakX P w K mg base CX0 3 "Console" (gaK K "Console") (sp_Console_init K) := by
  refine mak_of (F_Console_init T) (mk_Console T) (gC_Console T) bd_Console_init sc_Console_init len1 (bodyX_of fun cdv A outer s H vs Q E hr h => ?_)
  obtain ⟨_, rfl, x, dx, rfl, hx, q⟩ := h
  refine ⟨_, (pss_cons (ps_fld (pv 0) (pe_tup (pa_cons pe_int (pa_cons pe_int pa_nil))) rfl)
      (pss_one (ps_fld (pv 0) (pe_mkx0 (c_Desk_init T) hr pass0) rfl))), ?_⟩
  walk_at "go"
  refine mkT fun tk ht => ?_
  walk_at "go"
  have k1 := same_new (o := .tup [.int 2, .int 1]) ht
  have nxt : x ≠ tk := ne_of_none hx ht
  refine ⟨x, _, dx, [], rfl, k1 _ _ hx, cl_Console T, na_Console_taken T, by decide, ?_⟩
  walk_at "go"
  intro d dd hd hdd ne
  have nd : d ≠ x := fun z => by rw [z, upd_same] at hd; cases hd
  have ndd : dd ≠ x := fun z => by rw [z, upd_same] at hdd; cases hdd
  have ndt : d ≠ tk := fun z => by rw [z, upd_ne nxt.symm, upd_same] at hd; cases hd
  have nddt : dd ≠ tk := fun z => by rw [z, upd_ne nxt.symm, upd_same] at hdd; cases hdd
  refine ⟨_, rfl, d, dd, rfl, upd_same, fun H1 k2 hd1 => ⟨rfl, ?_⟩⟩
  walk_at "go"
  have hx1 : H1 x = some (.ins (gaK K "Console") dx (putF "taken" (.ref tk) [])) := k2 _ _ (fun z => nd (List.mem_singleton.mp z).symm) (by rw [upd_ne nd.symm, upd_ne ndd.symm, upd_same])
  have ht1 : H1 tk = some (.tup [.int 2, .int 1]) := k2 _ _ (fun z => ndt (List.mem_singleton.mp z).symm) (by rw [upd_ne ndt.symm, upd_ne nddt.symm, upd_ne nxt.symm, upd_same])
  refine ⟨x, _, dx, _, rfl, hx1, cl_Console T, na_Console_desk T, (by show (1 : Nat) < 1000; decide), ?_⟩
  have hdn : H d = none := by
    rw [upd_ne nd] at hd
    exact k1.free hd
  have hddn : H dd = none := by
    rw [upd_ne ndd] at hdd
    exact k1.free hdd
  have kp : Kp [x] H (upd H1 x (.ins (gaK K "Console") dx (putF "desk" (.ref d) (putF "taken" (.ref tk) [])))) := fun a o na e => by
    have n1 : a ≠ x := fun z => na (List.mem_singleton.mpr z)
    have n2 : a ≠ d := ne_of_none e hdn
    have n3 : a ≠ dd := ne_of_none e hddn
    rw [upd_ne n1]
    refine k2 a o (fun z => n2 (List.mem_singleton.mp z)) ?_
    rw [upd_ne n2, upd_ne n3, upd_ne n1]
    exact k1 _ _ e
  obtain ⟨dx2, st, pa, as, g1, ⟨t, ts, n, g2, g3, g4, g5⟩, g6, g7, g8⟩ := hd1
  have as0 : as = [] := List.map_eq_nil_iff.mp g8
  have ts0 : ts = [] := List.map_eq_nil_iff.mp g4
  subst as0 ts0
  have tu : ∀ {a : Addr} {xs : List V}, H1 a = some (.tup xs) → (upd H1 x (.ins (gaK K "Console") dx (putF "desk" (.ref d) (putF "taken" (.ref tk) [])))) a = some (.tup xs) := fun {a xs} e => by
    rw [upd_ne (ne_of_ins e hx1)]
    exact e
  refine q _ d hdn nd kp ⟨dx, tk, upd_same, ⟨tu ht1, .inl rfl, e2_ok⟩, dx2, st, pa, [], (upd_ne nd).trans g1, ⟨t, [], n, tu g2, ⟨tu g3.tup, fun r hr => (List.not_mem_nil hr).elim, fun r hr => (List.not_mem_nil hr).elim, by decide⟩, rfl, g5⟩, tu g6, fun y hy => (List.not_mem_nil hy).elim, rfl⟩
theorem lf_ok {e : E4} {n : Nat} (h : Ok30 e) (n1 : 1 ≤ n) (n2 : n ≤ 60) : OkR (lfE e n) (lfN e n) := by
  have g0 : 1 ≤ Nat.gcd n e.g := Nat.gcd_pos_of_pos_left _ n1
  have e1 := E4.dv_mul (e := e) (k := Nat.gcd n e.g) (Nat.gcd_dvd_right _ _)
  refine ⟨⟨?_, ?_⟩, lf_pos n1, Nat.le_trans lf_le n2, lf_cop n1⟩
  · have : (lfE e n).tp ^ Nat.gcd n e.g = e.tp := by rw [← E4.tp_pow, lfE, e1]
    exact Nat.le_trans (pow_le_of g0 this) h.t
  · have : (lfE e n).bt ^ Nat.gcd n e.g = e.bt := by rw [← E4.bt_pow, lfE, e1]
    exact Nat.le_trans (pow_le_of g0 this) h.b
def sp_Console_put (K : PySem.W.Frag) : Sp := sp2 fun a b H Q E => ∃ (c d : Addr) (z : Sta) (n : Int), a = .ref c ∧ b = .int n ∧ ConAt K H c d z ∧ z.pgs.length ≤ 1000 ∧
  (z.s ≠ 1 → ∀ d H', Same H H' → E (.ref (gaK K "InvalidNumber")) d H') ∧ (z.s = 1 → ¬ (1 ≤ n ∧ n ≤ 60) → ∀ d H', Same H H' → E (.ref (gaK K "InvalidDegree")) d H') ∧
  (z.s = 1 → 1 ≤ n → n ≤ 60 → z.pg.length = 5 → ∀ d H', Same H H' → E (.ref (gaK K "TooGreat")) d H') ∧
  (z.s = 1 → 1 ≤ n → n ≤ 60 → z.pg.length ≠ 5 → ∀ H', Kp [d] H H' → ConAt K H' c d { z with pg := z.pg ++ [(lfE z.e n.toNat, lfN z.e n.toNat)], pgs := z.pgs ++ [z.pg] } → Q .non H')
theorem c_Console_put (T : Tx K mg) : MetX P w K mg base (L2.CX P w) 12 (gaK K "Console") "put" (sp_Console_put K) := by
  refine met_of (F_Console_put T) (cl_Console T) (me_Console_put T) bd_Console_put sc_Console_put len2 (fun cdv A outer s H vs Q E hr h => ?_)
  obtain ⟨_, _, rfl, c, d, z, n, rfl, rfl, hc, pl, q1, q2, q3, q4⟩ := h
  obtain ⟨dx, tk, h1, h2, h3⟩ := id hc
  obtain ⟨dx2, st, pa, as, h4, _⟩ := id h3
  refine ⟨_, (pss_one (ps_expr (pe_mx (c_Desk_put T) hr pX (pe_fld (pv 0) rfl) (pa_cons (pe_mkx (c_Root_init T) hr pX (pa_cons (pe_fld (pv 0) rfl) (pa_cons (pv 1) pa_nil))) pa_nil)))), ?_⟩
  walk_at "go"
  refine ⟨c, _, dx, _, .ref d, rfl, h1, cl_Console T, na_Console_desk T, fl2 (by decide), ?_⟩
  walk_at "go"
  refine ⟨d, dx2, _, rfl, h4, rfl, ?_⟩
  walk_at "go"
  refine ⟨c, _, dx, _, .ref tk, rfl, h1, cl_Console T, na_Console_taken T, fl1, ?_⟩
  walk_at "go"
  intro x rx hx hrx ne
  have k0 : ∀ a o, H a = some o → (upd (upd H rx (.own x)) x (.ins (gaK K "Root") rx [])) a = some o := fun a o e => by rw [upd_ne (ne_of_none e hx), upd_ne (ne_of_none e hrx)]; exact e
  refine ⟨_, _, _, rfl, x, rx, tk, z.s, z.e, n, rfl, upd_same, rfl, rfl, ⟨k0 _ _ h2.1, h2.2⟩, fun hs d H' k => q1 hs d H' (Same.trans k0 k), fun hs hn d H' k => q2 hs hn d H' (Same.trans k0 k), fun hs n1 n2 H1 f k1 hf => ⟨rfl, ?_⟩⟩
  have ks : Same H (upd H1 x (.ins (gaK K "Root") rx [("form", .ref f)])) := same_mut (Same.trans k0 k1) hx
  have hroot : RootAt K (upd H1 x (.ins (gaK K "Root") rx [("form", .ref f)])) x (lfE z.e n.toNat) (lfN z.e n.toNat) := by
    refine ⟨rx, f, upd_same, ?_⟩
    obtain ⟨nb, hf1, hf2⟩ := hf
    have hxI := k1 x _ upd_same
    have n1 : f ≠ x := fun z => by rw [z, hxI] at hf1; cases hf1
    have n2 : nb ≠ x := fun z => by rw [z] at hf2; rw [show H1 x = _ from hf2] at hxI; cases hxI
    exact ⟨nb, by rw [upd_ne n1]; exact hf1, by show upd _ _ _ _ = _; rw [upd_ne n2]; exact hf2⟩
  walk_at "go"
  refine ⟨_, _, rfl, d, z.pg, z.pgs, x, _, _, rfl, rfl, h3.mono ks, pl, hroot, lf_ok h2.2.2 (by omega) (by omega), fun h5 d' H' k => q3 hs n1 n2 h5 d' H' (Same.trans ks k), fun h5 H' k hd' => q4 hs n1 n2 h5 H' (Kp.trans (Kp.of ks) k) ((hc.ext (Kx.same ks)).desk k hd')⟩
/-! questions -/
abbrev yn (b : Bool) : Str := if b = true then "yes" else "no"
def sp_Console_about (K : PySem.W.Frag) : Sp := sp3 fun a b e H Q E => ∃ (c d : Addr) (z : Sta) (n : Int), a = .ref c ∧ e = .int n ∧ ConAt K H c d z ∧ n.natAbs < 10 ^ 40 ∧ (¬ (1 ≤ n ∧ n ≤ 10 ^ 30) → ∀ d H', Same H H' → E (.ref (gaK K "InvalidDegree")) d H') ∧
  ((b = .str "splits" ∧ (1 ≤ n → n ≤ 10 ^ 30 → ∀ H', Same H H' → Q (.str (if Spl z.s z.e n.toNat then "yes" else "no")) H')) ∨
   (b = .str "next" ∧ (1 ≤ n → n ≤ 10 ^ 30 → Alw z.s z.e → ∀ H', Same H H' → Q (.str "never") H') ∧ (1 ≤ n → n ≤ 10 ^ 30 → ¬ Alw z.s z.e → ∀ m H', Next z.s z.e n.toNat m → Same H H' → Q (.str (iS (m : Int))) H')))
theorem c_Console_about (T : Tx K mg) : MetX P w K mg base (L2.CX P w) 11 (gaK K "Console") "about" (sp_Console_about K) := by
  refine met_of (F_Console_about T) (cl_Console T) (me_Console_about T) bd_Console_about sc_Console_about len3 (fun cdv A outer s H vs Q E hr h => ?_)
  obtain ⟨_, b, _, rfl, c, d, z, n, rfl, rfl, hc, nb, q1, q⟩ := h
  obtain ⟨dx, tk, h1, h2, h3⟩ := id hc
  refine ⟨_, (pss_cons (ps_if (pt_cmpR op_eq (pv 1) pe_str (nomark _)) (pss_one (ps_ret (pe_ifExp (pt_val (pe_cx (c_splits T) hr pX (pa_cons (pe_fld (pv 0) rfl) (pa_cons (pv 2) pa_nil)))) pe_str pe_str))) pss_nil)
      (pss_cons (ps_if (pt_cmpR op_eq (pv 1) pe_str (nomark _)) (pss_one ps_never) pss_nil)
      (pss_cons (ps_if (pt_cmpR op_eq (pv 1) pe_str (nomark _)) (pss_cons (ps_set (i := 3) sc_Console_about.nd rfl (Or.inl rfl) (pe_cx (c_next_split T) hr pX (pa_cons (pe_fld (pv 0) rfl) (pa_cons (pv 2) pa_nil))))
      (pss_one (ps_ret (pe_ifExp (pt_cmpR op_isN (pv 3) pe_non (nomark _)) pe_str (pe_callTy call_str_int (by rfl) (b_str T) (by decide +kernel) (pa_cons (pv 3) pa_nil)))))) pss_nil)
      (pss_one ps_never)))), ?_⟩
  rcases q with ⟨rfl, q⟩ | ⟨rfl, q2, q3⟩
  · walk_at "go"
    refine ifT rfl ?_
    walk_at "go"
    refine ⟨c, _, dx, _, .ref tk, rfl, h1, cl_Console T, na_Console_taken T, fl1, ?_⟩
    walk_at "go"
    refine ⟨_, _, rfl, tk, z.s, z.e, n, rfl, rfl, h2, q1, fun n1 n2 H' k => ⟨_, rfl, ?_⟩⟩
    have q' := q n1 n2 H' k
    refine ifd (fun hb => ?_) (fun hb => ?_)
    · rw [if_pos hb] at q'
      walk_at "go"
      exact q'
    · rw [if_neg hb] at q'
      walk_at "go"
      exact q'
  · walk_at "go"
    refine ifF (by decide) ?_
    walk_at "go"
    refine ifF (by decide) ?_
    walk_at "go"
    refine ifT rfl ?_
    walk_at "go"
    refine ⟨c, _, dx, _, .ref tk, rfl, h1, cl_Console T, na_Console_taken T, fl1, ?_⟩
    walk_at "go"
    refine ⟨_, _, rfl, tk, z.s, z.e, n, rfl, rfl, h2, q1, fun n1 n2 ha H' k => ?_, fun n1 n2 ha m H' hm k => ?_⟩
    · walk_at "go"
      refine ⟨rfl, ?_⟩
      walk_at "go"
      refine ifT rfl ?_
      walk_at "go"
      exact q2 n1 n2 ha H' k
    · walk_at "go"
      refine ⟨rfl, ?_⟩
      walk_at "go"
      refine ifF (fun z => by cases z) ?_
      walk_at "go"
      have mb : m < 2 ^ 110 := by
        have := next_near ha h2.2.2.g hm
        omega
      exact ⟨(m : Int), rfl, Nat.lt_trans (log_of (by decide) mb) (by decide), q3 n1 n2 ha m H' hm k⟩
def sp_Console_asked (K : PySem.W.Frag) : Sp := sp3 fun a b e H Q E => ∃ (c d : Addr) (z : Sta) (n : Int) (l : Ln), a = .ref c ∧ e = .int n ∧ ConAt K H c d z ∧ n.natAbs < 10 ^ 40 ∧ ((b = .str "splits" ∧ l = .splits n) ∨ (b = .str "next" ∧ l = .next n)) ∧ ∀ H' a, Same H H' → Step l z a z → Q (.str a) H'
theorem c_Console_asked (T : Tx K mg) : MetX P w K mg base CX0 12 (gaK K "Console") "asked" (sp_Console_asked K) := by
  refine met_of (F_Console_asked T) (cl_Console T) (me_Console_asked T) bd_Console_asked sc_Console_asked len3 (bodyX_of fun cdv A outer s H vs Q E hr h => ?_)
  obtain ⟨_, b, _, rfl, c, d, z, n, l, rfl, rfl, hc, nb, hl, q⟩ := h
  obtain ⟨dx, tk, h1, h2, h3⟩ := id hc
  refine ⟨_, pss_one (ps_try_only (X := (cxOf CX0 P w K mg base N_Console_asked "Console.asked" (defScope s_Console_asked) (He.ma K (gaK K "Console") "asked") cdv A outer s H E).nox) (c := .ref (gaK K "InvalidDegree"))
    (tb := fun W D σ H => ∃ Ech : XK, (∀ cls d σ' H', Ech cls d H' → W cls d σ' H') ∧ tMeth (gaK K "Console") "about" (sp_Console_about K) [] Ech (tVar 0) (tCons (tVar 1) (tCons (tVar 2) tNil)) σ H D.rt)
    rfl rfl ⟨rfl, by decide, .inl (gC_InvalidDegree T)⟩ LamX.takes0 (fun W pn xe tk _ => ?_) (fun a oe cls d pn _ _ => pss_one (ps_ret pe_str))), ?_⟩
  · refine ⟨fun pins s' σ H' D I h' => ?_⟩
    obtain ⟨Ech, hW, h1⟩ := h'
    exact (pss_one (ps_ret (pe_mx (c_Console_about T) hr (passes_call tk hW) (pv 0) (pa_cons (pv 1) (pa_cons (pv 2) pa_nil))))).run pins s' σ H' D I h1
  · refine ⟨fun cls _ H' => cls = .ref (gaK K "InvalidDegree") ∧ Q (.str "InvalidDegree") H', fun cls d σ' H' ⟨e1, q1⟩ => ?_, ?_⟩
    · subst e1
      exact ⟨true, xm_InvalidDegree_InvalidDegree T, fun _ a ha => q1, fun z => nomatch z⟩
    walk_at "go"
    refine ⟨c, dx, _, rfl, h1, rfl, ?_⟩
    walk_at "go"
    rcases hl with ⟨rfl, rfl⟩ | ⟨rfl, rfl⟩
    · exact ⟨_, _, _, rfl, c, d, z, n, rfl, rfl, hc, nb, fun hn d H' k => ⟨rfl, q H' _ k (.splits1 hn)⟩, .inl ⟨rfl, fun n1 n2 H' k => q H' _ k (.splits2 n1 n2)⟩⟩
    · exact ⟨_, _, _, rfl, c, d, z, n, rfl, rfl, hc, nb, fun hn d H' k => ⟨rfl, q H' _ k (.next1 hn)⟩, .inr ⟨rfl, fun n1 n2 ha H' k => q H' _ k (.next2 n1 n2 ha), fun n1 n2 ha m H' hm k => q H' _ k (.next3 n1 n2 ha hm)⟩⟩
def sp_Console_take (K : PySem.W.Frag) : Sp := sp2 fun a b H Q _ => ∃ (c d : Addr) (z : Sta) (s : Int) (e : E4), a = .ref c ∧ b = .str (nText (s * (e.tp : Int)) (e.bt : Int)) ∧ (s = 1 ∨ s = -1) ∧ Ok30 e ∧ ConAt K H c d z ∧ ∀ H', Kp [c] H H' → ConAt K H' c d { z with s := s, e := e } → Q (.str "ok") H'
theorem c_Console_take (T : Tx K mg) : MetX P w K mg base CX0 5 (gaK K "Console") "take" (sp_Console_take K) := by
  refine met_of (F_Console_take T) (cl_Console T) (me_Console_take T) bd_Console_take sc_Console_take len2 (bodyX_of fun cdv A outer s H vs Q E hr h => ?_)
  obtain ⟨_, _, rfl, c, d, z, sg, e, rfl, rfl, hs, hok, hc, q⟩ := h
  obtain ⟨dx, tk, h1, h2, h3⟩ := id hc
  have ok : NumOk (sg * (e.tp : Int)) (e.bt : Int) := NumP.ok (H := fun _ => some (.tup [.int (sg * (e.tp : Int)), .int (e.bt : Int)])) (p := 0) ⟨rfl, hs, hok⟩
  refine ⟨_, (pss_cons (ps_set (i := 2) sc_Console_take.nd rfl (Or.inl rfl) (pe_cx (c_number_in2 T) hr pass0 (pa_cons (pv 1) pa_nil)))
      (pss_cons (ps_if (pt_cmpR op_isN (pv 2) pe_non (nomark _)) (pss_one (ps_ret pe_non)) pss_nil)
      (pss_cons (ps_fld (pv 0) (pv 2) rfl)
      (pss_one (ps_ret pe_str))))), ?_⟩
  walk_at "go"
  refine ⟨_, rfl, _, _, rfl, ok, fun H1 p k1 hp => ?_⟩
  walk_at "go"
  refine ⟨rfl, ?_⟩
  walk_at "go"
  refine ifF (fun z => by cases z) ?_
  walk_at "go"
  have hc1 := k1 _ _ h1
  refine ⟨c, _, dx, _, rfl, hc1, cl_Console T, na_Console_taken T, (by show (2 : Nat) < 1000; decide), ?_⟩
  walk_at "go"
  have np : p ≠ c := ne_of_ins hp hc1
  have kp : ∀ o, Kp [c] H1 (upd H1 c o) := fun o => Kp.refl.upd (List.mem_singleton.mpr rfl)
  have nr : NoRt K H1 [c] := fun y hy => by
    rw [List.mem_singleton.mp hy]
    exact ⟨_, _, _, hc1, (by show (2 : Nat) ≠ 1; decide)⟩
  refine q _ (Kp.trans (Kp.of k1) (kp _)) ⟨dx, p, upd_same, ⟨(upd_ne np).trans hp, hs, hok⟩, (h3.mono k1).kx (Kx.kp (kp _)) nr (fun y => hc.ne (List.mem_singleton.mp y).symm)⟩
end
end PP
-- text WR
namespace PP
open PySem PySem.Spec PyProof.Rows L2 LamX
section
variable {P : Program} {w : World} {K : PySem.W.Frag} {mg : Str → Option Value} {base : Heap} {P1 P2 : Addr}
theorem lcmR_ok {ts : Rts} (ok : OkRts ts) (tl : ts.length ≤ 5) : lcmR 1 (rsOf ts) < 2 ^ 40 := by
  rw [← lcmD_R]
  obtain ⟨l0, lb⟩ := lcmD_ok (l := ts) (w := 1) (B := 1) ok (by decide) (by decide)
  have : 60 ^ ts.length ≤ 60 ^ 5 := Nat.pow_le_pow_right (by decide) tl
  have e5 : (60 : Nat) ^ 5 < 2 ^ 40 := by decide
  omega
theorem desk_deg {H : Hp} {d : Addr} {pg : Rs} {pgs : List Rs} {n : Nat} (h : DeskAt K H d pg pgs) (hn : TwrN pg n) : n < 2 ^ 160 := by
  obtain ⟨dx, st, pa, as, h1, ⟨t, ts, m, h2, h3, rfl, _⟩, _⟩ := h
  have h4 := lcmR_ok h3.ok h3.len
  have h5 := twr_le hn
  have e1 : (2 : Nat) ^ 160 = 2 ^ 40 * (2 ^ 40 * (2 ^ 40 * 2 ^ 40)) := by decide
  rw [e1]
  exact Nat.lt_of_le_of_lt h5 (Nat.mul_lt_mul'' h4 (Nat.mul_lt_mul'' h4 (Nat.mul_lt_mul'' h4 h4)))
/-- a comprehension over a tuple, where all stays -/
theorem lc_goT {a : Addr} {xs : List V} {g : TG} {tt : TT} {te : TE} {vs : List Nat} {σ : L2.St} {D : Addr} {H1 : Hp} {Qd : Hp → Prop} (ks : List (Option V)) (hq : SqT K H1 a xs) (hk : ∀ H, Same H1 H → SqT K H a xs) (hl : xs.length = ks.length) (hD : H1 D = none) (hz : ks.length ≤ 100000)
    (hs : ∀ (i : Nat) (x : V) (k : Option V) (H : Hp), xs[i]? = some x → ks[i]? = some k → Same H1 H → ∀ R : Option V → Hp → Prop, (∀ H'', Same H H'' → R k H'') →
      g x (wipe σ vs) H fun σ2 H2 => wipe σ2 vs = wipe σ vs ∧ tt σ2 H2 fun b H3 => if b = true then te σ2 H3 fun y H4 => R (some y) H4 else R none H3)
    (hd : ∀ H, Same H1 H → H D = some (.lst (ks.filterMap id)) → Qd H) : LcGo (Itt K a) g tt te vs σ D H1 Qd := by
  refine lc_go ks hD hz (fun i H k hi => ?_) (fun H k => ⟨xs, hk H k, by omega⟩) (fun i H x H' k y => ?_) (fun i k H x H' hk' kk y R hR => ?_) hd
  · exact ⟨xs, xs[i]'(by omega), hk H k, List.getElem?_eq_getElem (by omega)⟩
  · rw [y.1]
    exact Same.refl H
  · obtain ⟨e, y⟩ := y
    subst e
    exact hs i x k H' (y xs (hk _ kk)) hk' kk R hR
theorem rText_len {e : E4} {d : Nat} (h : OkR e d) : (rText e d).length ≤ 6000 := by
  have ht : e.tp < 2 ^ 120 := Nat.lt_of_le_of_lt h.1.t (by decide)
  have hb : e.bt < 2 ^ 120 := Nat.lt_of_le_of_lt h.1.b (by decide)
  have lt : (e.tp : Int).natAbs.log2 < 1920 := Nat.lt_trans (log_of (by decide) ht) (by decide)
  have lb : (e.bt : Int).natAbs.log2 < 1920 := Nat.lt_trans (log_of (by decide) hb) (by decide)
  have ld : (d : Int).natAbs.log2 < 1920 := Nat.lt_trans (log_of (B := 6) (by decide) (by have := h.2.2.1; omega)) (by decide)
  have c1 : (Str.ofString (toString (d : Int))).length ≤ 1921 := iS_len ld
  have c2 : (Str.ofString " of ").length = 4 := by decide
  have c3 := nText_len lt lb
  unfold rText
  rw [Str.length_append, Str.length_append, c2]
  show (Str.ofString (toString (d : Int))).length + 4 + _ ≤ _
  omega
theorem sum_le {l : List Nat} {B : Nat} (h : ∀ x ∈ l, x ≤ B) : l.sum ≤ l.length * B := by
  induction l with
  | nil => simp
  | cons x r ih =>
    have h1 := h x (List.mem_cons_self ..)
    have h2 := ih fun y hy => h y (List.mem_cons_of_mem _ hy)
    rw [List.sum_cons, List.length_cons, Nat.add_mul, Nat.one_mul]
    omega
def Ln.one : Ln → Bool
  | .number | .always | .undo | .degree | .roots => true
  | _ => false
def sp_Console_plain (K : PySem.W.Frag) (P1 P2 : Addr) : Sp := sp2 fun a b H Q _ => ∃ (c d : Addr) (z : Sta) (l : Ln) (x : Str), a = .ref c ∧ b = .str x ∧ l.words = [x] ∧ l.one = true ∧ ConAt K H c d z ∧ z.pgs.length ≤ 1000 ∧ Tabs (tabs P1 P2) H ∧ EndsQ K P1 P2 c d H l z Q
theorem c_Console_plain (T : Tx K mg) (B : Tb K mg base P1 P2) : MetX P w K mg base CX0 14 (gaK K "Console") "plain" (sp_Console_plain K P1 P2) := by
  refine metC_of (F_Console_plain T) (cl_Console T) (me_Console_plain T) bd_Console_plain sc_Console_plain len2 B.plain (fun cd TB A outer s H vs Q E hr h => ?_)
  obtain ⟨_, _, rfl, c, d, z, l, x, rfl, rfl, hx, ho, hc, pl, ht, q⟩ := h
  obtain ⟨dx, tk, h1, h2, h3⟩ := id hc
  obtain ⟨dx2, st, pa, as, h4, _⟩ := id h3
  refine ⟨_, (pss_cons (ps_if (pt_cmpR op_eq (pv 1) pe_str (nomark _)) (pss_one (ps_ret (pe_cx (c_text_of T) hr pass0 (pa_cons (pe_fld (pv 0) rfl) pa_nil)))) pss_nil)
      (pss_cons (ps_if (pt_cmpR op_eq (pv 1) pe_str (nomark _)) (pss_one (ps_ret (pe_ifExp (pt_val (pe_cx (c_is_always_whole T) hr pass0 (pa_cons (pe_fld (pv 0) rfl) pa_nil))) pe_str pe_str))) pss_nil)
      (pss_cons (ps_if (pt_cmpR op_eq (pv 1) pe_str (nomark _)) (pss_one ps_never) pss_nil)
      (pss_cons (ps_if (pt_cmpR op_eq (pv 1) pe_str (nomark _)) (pss_one (ps_ret (pe_lamM (g := He.ma K (gaK K "Console") "done") (T := tabs P1 P2) (TT := TTd K) (pv 0) (cl_Console T) (me_Console_done T) (F_Console_done T) bd_Console_done sc_Console_done rfl (Or.inl rfl) (fun _ => done_gives T) TB rfl tabs_m1 (tabs_u1 B.ne) hr (lamS_by (sc := defScope s_Console_plain) (by decide +kernel)) rfl (fun _ _ _ _ _ => rfl) (fun _ _ _ _ _ _ _ hr => (pe_mx0 (c_Desk_undo T) hr (lamPX (X := (cxOf CX0 P w K mg base N_Console_plain "Console.plain" (defScope s_Console_plain) (He.ma K (gaK K "Console") "plain") (.ref cd) A outer s H E).nox)) (show PE _ _ (tFld K _ "desk") from pe_fld (pv 0) rfl)))))) pss_nil)
      (pss_cons (ps_if (pt_cmpR op_eq (pv 1) pe_str (nomark _)) (pss_one (ps_ret (pe_callTy call_str_int (by rfl) (b_str T) (by decide +kernel) (pa_cons (pe_px (c_Desk_degree T) hr pass0 (pe_fld (pv 0) rfl)) pa_nil)))) pss_nil)
      (pss_cons (ps_if (pt_cmpR op_eq (pv 1) pe_str (nomark _)) (pss_one (ps_ret (pe_ifExp (pt_cmpR (op_eqE hr.units) (pe_px (c_Desk_roots T) hr pass0 (pe_fld (pv 0) rfl)) (pe_tup pa_nil) (nomark _)) pe_str (pe_join pe_str (pe_lc (own := [("root", 2)]) rfl sc_Console_plain.nd (pi_tup (pe_px (c_Desk_roots T) hr pass0 (pe_fld (pv 0) rfl))) (blkOk_by (own := [("root", 2)]) (N := N_Console_plain) (sc := defScope s_Console_plain) (by decide +kernel)) (fun _ _ _ _ _ => (pg_name (i := 2) sc_Console_plain.nd rfl (Or.inl rfl))) (fun _ _ _ _ _ => pts_nil) (fun _ _ _ _ _ => (pe_callTy (call_strO (E := E0) (c_Root_str T) (hr.mono (by decide))) (by rfl) (b_str T) (by decide +kernel) (pa_cons (pv 2) pa_nil)))))))) pss_nil)
      (pss_one (ps_ret pe_non)))))))), ?_⟩
  cases l with
  | number =>
    cases hx
    walk_at "go"
    refine ifT rfl ?_
    walk_at "go"
    refine ⟨c, _, dx, _, .ref tk, rfl, h1, cl_Console T, na_Console_taken T, fl1, ?_⟩
    obtain ⟨e1, e2, _⟩ := h2.ok
    have e3 := h2.ok.2.2
    walk_at "go"
    exact ⟨_, rfl, tk, _, _, rfl, h2.1, Nat.lt_trans (PySem.Flt.log2_lt_of (k := 120) (by decide) (by omega)) (by decide), Nat.lt_trans (PySem.Flt.log2_lt_of (k := 120) (by decide) (by have := e3.2.2.1; have := e3.2.1; omega)) (by decide), q H _ z Kx.refl ht hc .number⟩
  | always =>
    cases hx
    walk_at "go"
    refine ifF (by decide) ?_
    walk_at "go"
    refine ifT rfl ?_
    walk_at "go"
    refine ⟨c, _, dx, _, .ref tk, rfl, h1, cl_Console T, na_Console_taken T, fl1, ?_⟩
    walk_at "go"
    refine ⟨_, rfl, tk, z.s, z.e, rfl, h2, fun H' k => ⟨_, rfl, ?_⟩⟩
    have q' := q H' _ z (Kx.same k) (Tabs.ext ht k) (hc.ext (Kx.same k)) .always
    refine ifd (fun hb => ?_) (fun hb => ?_)
    · rw [if_pos hb] at q'
      walk_at "go"
      exact q'
    · rw [if_neg hb] at q'
      walk_at "go"
      exact q'
  | undo =>
    cases hx
    walk_at "go"
    refine ifF (by decide) ?_
    walk_at "go"
    refine ifF (by decide) ?_
    walk_at "go"
    refine ifF (by decide) ?_
    walk_at "go"
    refine ifT rfl ?_
    walk_at "go"
    refine ⟨.ref c, rfl, c, dx, _, rfl, h1, rfl, ht, fun H2 eN T2 => ?_⟩
    have hc2 := hc.ext (Kx.ext eN)
    obtain ⟨ex, tk2, g1, g2, g3⟩ := id hc2
    obtain ⟨ex2, st2, pa2, as2, g4, _⟩ := id g3
    refine (show tMeth (gaK K "Desk") "undo" (sp_Desk_undo K) [] (fun cls _ H' => ∃ nm, nm ∈ doneNames ∧ cls = .ref (gaK K nm) ∧ Q (.str nm) H') (tFld K (tVar 0) "desk") tNil (L2.start N_Console_plain [V.ref c, V.str "undo"]) H2 (fun _ H' => Q (.str "ok") H') from ?_)
    walk_at "go"
    refine ⟨c, _, ex, _, .ref d, rfl, g1, cl_Console T, na_Console_desk T, fl2 (by decide), ?_⟩
    walk_at "go"
    refine ⟨d, ex2, _, rfl, g4, rfl, ?_⟩
    walk_at "go"
    have hS : ∀ x ∈ [d], ∃ C dx fs, H2 x = some (.ins C dx fs) := fun x hx => by
      rw [List.mem_singleton.mp hx]
      exact ⟨_, _, _, g4⟩
    refine ⟨_, rfl, d, z.pg, z.pgs, rfl, g3, pl, fun hz d' H' k => ⟨"NothingToUndo", by simp [doneNames], rfl, ?_⟩, fun ps p hz H' k hd' => ?_⟩
    · exact q H' _ z (Kx.trans (Kx.ext eN) (Kx.same k)) (Tabs.ext T2 k) (hc2.ext (Kx.same k)) (.undo0 hz)
    · exact q H' _ _ (Kx.trans (Kx.ext eN) ((Kx.kp k).mono (by simp))) (Tabs.kp T2 k hS) (hc2.desk k hd') (.undo1 hz)
  | degree =>
    cases hx
    walk_at "go"
    refine ifF (by decide) ?_
    walk_at "go"
    refine ifF (by decide) ?_
    walk_at "go"
    refine ifF (by decide) ?_
    walk_at "go"
    refine ifF (by decide) ?_
    walk_at "go"
    refine ifT rfl ?_
    walk_at "go"
    refine ⟨c, _, dx, _, .ref d, rfl, h1, cl_Console T, na_Console_desk T, fl2 (by decide), ?_⟩
    walk_at "go"
    refine ⟨d, dx2, _, rfl, h4, ?_⟩
    refine ⟨_, rfl, d, z.pg, z.pgs, rfl, h3, fun n hn => ?_⟩
    walk_at "go"
    exact ⟨n, rfl, Nat.lt_trans (log_of (by decide) (desk_deg h3 hn)) (by decide), q H _ z Kx.refl ht hc (.degree hn)⟩
  | roots =>
    cases hx
    walk_at "go"
    refine ifF (by decide) ?_
    walk_at "go"
    refine ifF (by decide) ?_
    walk_at "go"
    refine ifF (by decide) ?_
    walk_at "go"
    refine ifF (by decide) ?_
    walk_at "go"
    refine ifF (by decide) ?_
    walk_at "go"
    refine ifT rfl ?_
    walk_at "go"
    refine ⟨c, _, dx, _, .ref d, rfl, h1, cl_Console T, na_Console_desk T, fl2 (by decide), ?_⟩
    walk_at "go"
    refine ⟨d, dx2, _, rfl, h4, ?_⟩
    refine ⟨_, rfl, d, z.pg, z.pgs, rfl, h3, fun t ts htr ets => ?_⟩
    walk_at "go"
    refine mkT fun e0 he0 => ?_
    have k0 := same_new (o := .tup []) he0
    refine ⟨t, e0, _, rfl, rfl, .inl ⟨SqT.of (k0 _ _ htr.tup), SqT.of upd_same⟩, ?_⟩
    walk_at "go"
    have fin : ∀ H', Same H H' → Q (.str (rootsTxt z.pg)) H' := fun H' k => q H' _ z (Kx.same k) (Tabs.ext ht k) (hc.ext (Kx.same k)) .roots
    by_cases hz : ts = []
    · subst hz
      refine iteT ?_
      walk_at "go"
      have := fin _ k0
      rw [← ets] at this
      exact this
    · have hemp : (refsOf ts).isEmpty = false := by
        cases ts with
        | nil => exact absurd rfl hz
        | cons _ _ => rfl
      rw [hemp]
      refine iteF ?_
      walk_at "go"
      have h1' := k0 _ _ h1
      refine ⟨c, _, dx, _, .ref d, rfl, h1', cl_Console T, na_Console_desk T, fl2 (by decide), ?_⟩
      walk_at "go"
      refine ⟨d, dx2, _, rfl, k0 _ _ h4, ?_⟩
      refine ⟨_, rfl, d, z.pg, z.pgs, rfl, h3.mono k0, fun t2 ts2 htr2 ets2 => ?_⟩
      have k0t := fun {H'} (k : Same (upd H e0 (.tup [])) H') => SqT.of (K := K) (k _ _ htr2.tup)
      walk_at "go"
      refine ⟨t2, rfl, ⟨_, SqT.of htr2.tup⟩, fun D hD => lc_goT (ts2.map fun r => some (.str (rText r.2.1 r.2.2))) (SqT.of htr2.tup) (fun H' k => k0t k) (by rw [List.length_map, List.length_map]) hD (by rw [List.length_map]; have := htr2.len; omega) (fun i x o H3 hx hk k3 Rr hRr => ?_) (fun H3 k3 hD3 => ?_)⟩
      · obtain ⟨r, hr', rfl⟩ := refs_get hx
        rw [List.getElem?_map, hr'] at hk
        cases hk
        have rm := List.mem_of_getElem? hr'
        have hroot := (htr2.rts r rm).mono k3
        obtain ⟨dr, f, hr1, _⟩ := id hroot
        have ok := htr2.ok r rm
        walk_at "go"
        refine ⟨rfl, ?_⟩
        walk_at "go"
        refine iteT ?_
        walk_at "go"
        exact ⟨r.1, dr, _, rfl, hr1, _, rfl, r.1, r.2.1, r.2.2, rfl, hroot, Nat.lt_of_le_of_lt ok.1.t (by decide), Nat.lt_of_le_of_lt ok.1.b (by decide), ok.2.2.1, _, rfl, hRr H3 (Same.refl H3)⟩
      · have e1 : (ts2.map fun r => some (V.str (rText r.2.1 r.2.2))).filterMap id = (ts2.map fun r => rText r.2.1 r.2.2).map V.str := by
          rw [List.filterMap_map, List.map_map]
          exact List.filterMap_eq_map (f := fun r : Addr × E4 × Nat => V.str (rText r.2.1 r.2.2)) ▸ rfl
        rw [e1] at hD3
        refine ⟨_, D, _, rfl, rfl, .inl (SqL.of hD3), ?_, ?_⟩
        · have hs := sum_le (l := (ts2.map fun r => rText r.2.1 r.2.2).map (·.length)) (B := 6000) fun x hx => by
            obtain ⟨y, hy, rfl⟩ := List.mem_map.mp hx
            obtain ⟨r, hr', rfl⟩ := List.mem_map.mp hy
            exact rText_len (htr2.ok r hr')
          have c2 : (Str.ofString "; ").length = 2 := by decide
          have l5 := htr2.len
          rw [List.length_map, List.length_map] at hs
          rw [List.length_map, c2]
          omega
        · have := fin H3 (Same.trans k0 k3)
          unfold rootsTxt at this
          have hne : z.pg ≠ [] := by
            rw [← ets]
            cases ts with
            | nil => exact absurd rfl hz
            | cons _ _ => simp
          rw [if_neg hne, ← ets2, List.map_map] at this
          exact this
  | take s e => cases ho
  | put n => cases ho
  | drop i => cases ho
  | turn i m => cases ho
  | splits n => cases ho
  | next n => cases ho
end
end PP
-- text WS
namespace PP
open PySem PySem.Spec PyProof.Rows L2 LamX TL
section
variable {P : Program} {w : World} {K : PySem.W.Frag} {mg : Str → Option Value} {base : Heap} {P1 P2 : Addr}
theorem nText_free {t b : Int} {c : Nat} (h : c < 45 ∨ 57 < c) : c ∉ tl (nText t b) := by
  unfold nText
  have f : ∀ i : Int, c ∉ tl (iS i) := fun i => iS_free (by omega)
  split
  · exact f t
  · rw [tl_append, tl_append]
    intro z
    rcases List.mem_append.mp z with z | z
    · rcases List.mem_append.mp z with z | z
      · exact f t z
      · have e : tl (Str.ofString "/") = [47] := rfl
        rw [e] at z
        have := List.mem_singleton.mp z
        omega
    · exact f b z
theorem words_free (l : Ln) : ∀ p ∈ l.words, 32 ∉ tl p := by
  have fi : ∀ i : Int, 32 ∉ tl (iS i) := fun i => iS_free (by decide)
  have two : ∀ {u v : Str}, 32 ∉ tl u → 32 ∉ tl v → ∀ p ∈ [u, v], 32 ∉ tl p := fun {u v} h1 h2 p hp => by
    rcases List.mem_cons.mp hp with z | z
    · rw [z]; exact h1
    · rw [List.mem_singleton.mp z]; exact h2
  have one : ∀ {u : Str}, 32 ∉ tl u → ∀ p ∈ [u], 32 ∉ tl p := fun {u} h1 p hp => by rw [List.mem_singleton.mp hp]; exact h1
  cases l with
  | number => exact one (by decide)
  | always => exact one (by decide)
  | undo => exact one (by decide)
  | degree => exact one (by decide)
  | roots => exact one (by decide)
  | take s e => exact two (by decide) (nText_free (by decide))
  | put n => exact two (by decide) (fi n)
  | drop n => exact two (by decide) (fi n)
  | splits n => exact two (by decide) (fi n)
  | next n => exact two (by decide) (fi n)
  | turn i m =>
    intro p hp
    rcases List.mem_cons.mp hp with z | z
    · rw [z]; decide
    · exact two (fi i) (fi m) p z
theorem words_ne (l : Ln) : l.words ≠ [] := by cases l <;> exact List.cons_ne_nil _ _
theorem line_split (l : Ln) : Txt.split l.text (Str.ofString " ") = l.words := split_of rfl (by decide) (words_ne l) (words_free l)
theorem iS_len40 {i : Int} (h : i.natAbs < 10 ^ 40) : (iS i).length ≤ 1921 := iS_len (Nat.lt_trans (PySem.Flt.log2_lt_of (k := 140) (by decide) (by omega)) (by decide))
theorem line_len {l : Ln} (h : LnOk l) : l.text.length + 2 ≤ sizeLine := by
  have e1 := StrLaws.join_length_le (Str.ofString " ") l.words
  have e2 : Txt.join (Str.ofString " ") l.words = Str.join (Str.ofString " ") l.words := join_eq _ _
  have e3 : (Str.ofString " ").length = 1 := by decide
  have hb : (l.words.map (·.length)).sum + l.words.length ≤ 4000 := by
    cases l with
    | take s e =>
      obtain ⟨hs, hok⟩ := h
      have ok : NumOk (s * (e.tp : Int)) (e.bt : Int) := NumP.ok (H := fun _ => some (.tup [.int (s * (e.tp : Int)), .int (e.bt : Int)])) (p := 0) ⟨rfl, hs, hok⟩
      obtain ⟨o1, o2, o3, o4, o5, _⟩ := ok
      have := nText_len (t := s * (e.tp : Int)) (b := (e.bt : Int)) (Nat.lt_trans (PySem.Flt.log2_lt_of (k := 120) (by decide) (by omega)) (by decide)) (Nat.lt_trans (PySem.Flt.log2_lt_of (k := 120) (by decide) (by omega)) (by decide))
      show 4 + ((nText _ _).length + 0) + 2 ≤ 4000
      omega
    | put n => have := iS_len40 h; show 3 + ((iS n).length + 0) + 2 ≤ 4000; omega
    | drop n => have := iS_len40 h; show 4 + ((iS n).length + 0) + 2 ≤ 4000; omega
    | splits n => have := iS_len40 h; show 6 + ((iS n).length + 0) + 2 ≤ 4000; omega
    | next n => have := iS_len40 h; show 4 + ((iS n).length + 0) + 2 ≤ 4000; omega
    | turn i m => have := iS_len40 h.1; have := iS_len40 h.2; show 4 + ((iS i).length + ((iS m).length + 0)) + 3 ≤ 4000; omega
    | number => decide
    | always => decide
    | undo => decide
    | degree => decide
    | roots => decide
  rw [e3, Nat.mul_one] at e1
  unfold Ln.text
  rw [show (" " : Str) = Str.ofString " " from rfl, e2]
  exact Nat.le_trans (by omega : _ ≤ 4002) (by decide)
theorem one_words {l : Ln} {x : Str} (h : l.words = [x]) : l.words = [l.text] := by
  unfold Ln.text
  rw [h]
  exact congrArg (fun y => [y]) join1.symm
theorem cut_tail {x : V} {xs : List V} : cutV (x :: xs) (some 1) none = xs := by
  unfold cutV
  rw [HT.sIx_none, show (1 : Int) = ((1 : Nat) : Int) from rfl, HT.sIx_nat, Nat.min_eq_left (by simp)]
  simp
theorem ks_ints {l : List Int} : (l.map fun z => some (V.int z)).filterMap id = l.map V.int := by
  rw [List.filterMap_map]
  exact List.filterMap_eq_map (f := V.int) ▸ rfl
def sp_Console_answer (K : PySem.W.Frag) (P1 P2 : Addr) : Sp := sp2 fun a b H Q _ => ∃ (c d : Addr) (z : Sta) (l : Ln), a = .ref c ∧ b = .str l.text ∧ LnOk l ∧ ConAt K H c d z ∧ z.pgs.length ≤ 1000 ∧ Tabs (tabs P1 P2) H ∧ EndsQ K P1 P2 c d H l z Q
theorem c_Console_answer (T : Tx K mg) (B : Tb K mg base P1 P2) : MetX P w K mg base CX0 15 (gaK K "Console") "answer" (sp_Console_answer K P1 P2) := by
  refine metC_of (F_Console_answer T) (cl_Console T) (me_Console_answer T) bd_Console_answer sc_Console_answer len2 B.answer (fun cd TB A outer s H vs Q E hr h => ?_)
  obtain ⟨_, _, rfl, c, d, z, l, rfl, rfl, hl, hc, pl, ht, q⟩ := h
  obtain ⟨aA, hA1, hA2⟩ := B.asking
  obtain ⟨dx, tk, h1, h2, h3⟩ := id hc
  obtain ⟨dx2, st, pa, as, h4, _⟩ := id h3
  refine ⟨_, (pss_cons (ps_set (i := 2) sc_Console_answer.nd rfl (Or.inl rfl) (pe_split (pv 1) pe_str))
      (pss_cons (ps_if (pt_cmpR op_eq (pe_callB call_len_seq (by rfl) (b_len T) (by decide +kernel) (pa_cons (pv 2) pa_nil)) pe_int (nomark _)) (pss_one (ps_ret (pe_mx (c_Console_plain T B) hr pass0 (pv 0) (pa_cons (pv 1) pa_nil)))) pss_nil)
      (pss_cons (ps_if (PW.pt (pw_and (pt_cmpR op_eq (pe_callB call_len_seq (by rfl) (b_len T) (by decide +kernel) (pa_cons (pv 2) pa_nil)) pe_int (nomark _)) (pw_and1 (pt_cmpR op_eq (pe_ix ix_list (pv 2) pe_int (fun _ _ => rfl)) pe_str (nomark _))))) (pss_one (ps_ret (pe_mx (c_Console_take T) hr pass0 (pv 0) (pa_cons (pe_ix ix_list (pv 2) pe_int (fun _ _ => rfl)) pa_nil)))) pss_nil)
      (pss_cons (ps_set (i := 3) sc_Console_answer.nd rfl (Or.inr rfl) (pe_lc (own := [("word", 4)]) rfl sc_Console_answer.nd (pi_list (pe_slice sl_list (pv 2) (po_some pe_int) po_none)) (blkOk_by (own := [("word", 4)]) (N := N_Console_answer) (sc := defScope s_Console_answer) (by decide +kernel)) (fun _ _ _ _ _ => (pg_name (i := 4) sc_Console_answer.nd rfl (Or.inl rfl))) (fun _ _ _ _ _ => pts_nil) (fun _ _ _ _ _ => (pe_cx (c_integer_in T) hr pass0 (pa_cons (pv 4) pa_nil)))))
      (pss_cons (ps_if (pt_cmpR op_in_seq pe_non (pv 3) (by rfl)) (pss_one (ps_ret pe_non)) pss_nil)
      (pss_cons (ps_if (pt_cmpR op_eq (pe_callB call_len_seq (by rfl) (b_len T) (by decide +kernel) (pa_cons (pv 2) pa_nil)) pe_int (nomark _)) (pss_one (ps_ret (pe_ifExp (pt_cmpR op_eq (pe_ix ix_list (pv 2) pe_int (fun _ _ => rfl)) pe_str (nomark _)) (pe_lamM (g := He.ma K (gaK K "Console") "done") (T := tabs P1 P2) (TT := TTd K) (pv 0) (cl_Console T) (me_Console_done T) (F_Console_done T) bd_Console_done sc_Console_done rfl (Or.inl rfl) (fun _ => done_gives T) TB rfl tabs_m2 (tabs_u2 B.ne) hr (lamS_by (sc := defScope s_Console_answer) (by decide +kernel)) rfl (fun _ _ _ _ _ => rfl) (fun _ _ _ _ _ _ _ hr => (pe_mx (c_Desk_turn T) hr (lamPX (X := (cxOf CX0 P w K mg base N_Console_answer "Console.answer" (defScope s_Console_answer) (He.ma K (gaK K "Console") "answer") (.ref cd) A outer s H E).nox)) (show PE _ _ (tFld K _ "desk") from pe_fld (pv 0) rfl) (pa_cons (pe_ix (show IxR _ (rIxL K) from ix_list) (pv 3) pe_int (fun _ _ => rfl)) (pa_cons (pe_ix (show IxR _ (rIxL K) from ix_list) (pv 3) pe_int (fun _ _ => rfl)) pa_nil))))) pe_non))) pss_nil)
      (pss_cons (ps_if (PW.pt (pw_and (pt_cmpR op_eq (pe_callB call_len_seq (by rfl) (b_len T) (by decide +kernel) (pa_cons (pv 2) pa_nil)) pe_int (nomark _)) (pw_and1 (pt_cmpR op_in_seq (pe_ix ix_list (pv 2) pe_int (fun _ _ => rfl)) (pe_gk (v := .ref aA) rfl ⟨_, hA1, rfl⟩) (by rfl))))) (pss_one (ps_ret (pe_mx (c_Console_asked T) hr pass0 (pv 0) (pa_cons (pe_ix ix_list (pv 2) pe_int (fun _ _ => rfl)) (pa_cons (pe_ix ix_list (pv 3) pe_int (fun _ _ => rfl)) pa_nil))))) pss_nil)
      (pss_cons (ps_if (PW.pt (pw_and (pt_cmpR op_eq (pe_callB call_len_seq (by rfl) (b_len T) (by decide +kernel) (pa_cons (pv 2) pa_nil)) pe_int (nomark _)) (pw_and1 (pt_cmpR op_eq (pe_ix ix_list (pv 2) pe_int (fun _ _ => rfl)) pe_str (nomark _))))) (pss_one (ps_ret (pe_lamM (g := He.ma K (gaK K "Console") "done") (T := tabs P1 P2) (TT := TTd K) (pv 0) (cl_Console T) (me_Console_done T) (F_Console_done T) bd_Console_done sc_Console_done rfl (Or.inl rfl) (fun _ => done_gives T) TB rfl tabs_m2 (tabs_u2 B.ne) hr (lamS_by (sc := defScope s_Console_answer) (by decide +kernel)) rfl (fun _ _ _ _ _ => rfl) (fun _ _ _ _ _ _ _ hr => (pe_mx (c_Console_put T) hr (lamPX (X := (cxOf CX0 P w K mg base N_Console_answer "Console.answer" (defScope s_Console_answer) (He.ma K (gaK K "Console") "answer") (.ref cd) A outer s H E).nox)) (pv 0) (pa_cons (pe_ix (show IxR _ (rIxL K) from ix_list) (pv 3) pe_int (fun _ _ => rfl)) pa_nil)))))) pss_nil)
      (pss_one (ps_ret (pe_ifExp (PW.pt (pw_and (pt_cmpR op_eq (pe_callB call_len_seq (by rfl) (b_len T) (by decide +kernel) (pa_cons (pv 2) pa_nil)) pe_int (nomark _)) (pw_and1 (pt_cmpR op_eq (pe_ix ix_list (pv 2) pe_int (fun _ _ => rfl)) pe_str (nomark _))))) (pe_lamM (g := He.ma K (gaK K "Console") "done") (T := tabs P1 P2) (TT := TTd K) (pv 0) (cl_Console T) (me_Console_done T) (F_Console_done T) bd_Console_done sc_Console_done rfl (Or.inl rfl) (fun _ => done_gives T) TB rfl tabs_m2 (tabs_u2 B.ne) hr (lamS_by (sc := defScope s_Console_answer) (by decide +kernel)) rfl (fun _ _ _ _ _ => rfl) (fun _ _ _ _ _ _ _ hr => (pe_mx (c_Desk_drop T) hr (lamPX (X := (cxOf CX0 P w K mg base N_Console_answer "Console.answer" (defScope s_Console_answer) (He.ma K (gaK K "Console") "answer") (.ref cd) A outer s H E).nox)) (show PE _ _ (tFld K _ "desk") from pe_fld (pv 0) rfl) (pa_cons (pe_ix (show IxR _ (rIxL K) from ix_list) (pv 3) pe_int (fun _ _ => rfl)) pa_nil)))) pe_non))))))))))), ?_⟩
  walk_at "go"
  refine ⟨_, _, rfl, rfl, rfl, line_len hl, fun wp hwp => ?_⟩
  rw [line_split]
  have k0 := same_new (o := .lst (l.words.map V.str)) hwp
  have hw : (upd H wp (.lst (l.words.map V.str))) wp = some (.lst (l.words.map V.str)) := upd_same
  generalize upd H wp (.lst (l.words.map V.str)) = H0 at *
  have hc0 := hc.ext (Kx.same k0)
  have ht0 := Tabs.ext ht k0
  have q0 : EndsQ K P1 P2 c d H0 l z Q := fun H' a z' k t2 c2 s2 => q H' a z' (Kx.trans (Kx.same k0) k) t2 c2 s2
  walk_at "go"
  refine ⟨wp, _, rfl, .inl (SqL.of hw), ?_⟩
  walk_at "go"
  obtain ⟨dx0, tk0, hd0, hn0, hdk0⟩ := id hc0
  cases l with
  | number =>
    refine ifT rfl ?_
    walk_at "go"
    refine ⟨c, _, _, rfl, hd0, rfl, ?_⟩
    walk_at "go"
    exact ⟨_, _, rfl, c, d, z, _, _, rfl, rfl, one_words rfl, rfl, hc0, pl, ht0, q0⟩
  | always =>
    refine ifT rfl ?_
    walk_at "go"
    refine ⟨c, _, _, rfl, hd0, rfl, ?_⟩
    walk_at "go"
    exact ⟨_, _, rfl, c, d, z, _, _, rfl, rfl, one_words rfl, rfl, hc0, pl, ht0, q0⟩
  | undo =>
    refine ifT rfl ?_
    walk_at "go"
    refine ⟨c, _, _, rfl, hd0, rfl, ?_⟩
    walk_at "go"
    exact ⟨_, _, rfl, c, d, z, _, _, rfl, rfl, one_words rfl, rfl, hc0, pl, ht0, q0⟩
  | degree =>
    refine ifT rfl ?_
    walk_at "go"
    refine ⟨c, _, _, rfl, hd0, rfl, ?_⟩
    walk_at "go"
    exact ⟨_, _, rfl, c, d, z, _, _, rfl, rfl, one_words rfl, rfl, hc0, pl, ht0, q0⟩
  | roots =>
    refine ifT rfl ?_
    walk_at "go"
    refine ⟨c, _, _, rfl, hd0, rfl, ?_⟩
    walk_at "go"
    exact ⟨_, _, rfl, c, d, z, _, _, rfl, rfl, one_words rfl, rfl, hc0, pl, ht0, q0⟩
  | take s e =>
    refine ifF (by first | decide | simp [Ln.words]) ?_
    walk_at "go"
    refine ⟨wp, _, rfl, .inl (SqL.of hw), ?_⟩
    walk_at "go"
    refine ifT rfl ?_
    walk_at "go"
    refine g_ixL (SqL.of hw) at0 ?_
    walk_at "go"
    refine ifT rfl ?_
    walk_at "go"
    refine ⟨c, dx0, _, rfl, hd0, rfl, ?_⟩
    walk_at "go"
    refine g_ixL (SqL.of hw) at1 ?_
    walk_at "go"
    exact ⟨_, _, rfl, c, d, z, s, e, rfl, rfl, hl.1, hl.2, hc0, fun H' k hc' => q0 H' _ _ ((Kx.kp k).mono (by simp)) (Tabs.kp ht0 k (fun x hx => by rw [List.mem_singleton.mp hx]; exact ⟨_, _, _, hd0⟩)) hc' .take⟩
  | put n =>
    refine ifF (by first | decide | simp [Ln.words]) ?_
    walk_at "go"
    refine ⟨wp, _, rfl, .inl (SqL.of hw), ?_⟩
    walk_at "go"
    refine ifT rfl ?_
    walk_at "go"
    refine g_ixL (SqL.of hw) at0 ?_
    walk_at "go"
    refine ifF (by first | decide | simp [Ln.words]) ?_
    walk_at "go"
    refine ⟨wp, _, rfl, SqL.of hw, fun sp hsp => ?_⟩
    have k1 := same_new (o := .lst (([n].map iS).map V.str)) hsp
    rw [show cutV ((Ln.words (.put n)).map V.str) (some 1) none = ([n].map iS).map V.str from cut_tail]
    have ib : ∀ y ∈ [n], y.natAbs < 10 ^ 40 := fun y hy => by
      simp only [List.mem_cons, List.not_mem_nil, or_false] at hy
      rw [hy]; exact hl
    refine ⟨sp, rfl, ⟨_, SqL.of upd_same⟩, fun nb hnb => lc_goL ([n].map fun y => some (.int y)) (SqL.of upd_same) rfl hnb (by simp) (fun i' x o H3 hx hk k3 Rr hRr => ?_) (fun H3 k3 hn3 => ?_)⟩
    · obtain ⟨y, hy, rfl⟩ : ∃ y, [n][i']? = some y ∧ x = .str (iS y) := by
        rw [List.getElem?_map, List.getElem?_map] at hx
        cases e : [n][i']? with
        | none => rw [e] at hx; cases hx
        | some y => rw [e] at hx; cases hx; exact ⟨y, rfl, rfl⟩
      rw [List.getElem?_map, hy] at hk
      cases hk
      walk_at "go"
      refine ⟨rfl, ?_⟩
      walk_at "go"
      refine iteT ?_
      walk_at "go"
      exact ⟨_, rfl, y, rfl, ib y (List.mem_of_getElem? hy), fun H4 k4 => hRr H4 k4⟩
    rw [ks_ints] at hn3
    have kk := Same.trans k1 k3
    have hw3 := kk _ _ hw
    have hc3 := hc0.ext (Kx.same kk)
    have ht3 := Tabs.ext ht0 kk
    obtain ⟨dx3, tk3, hd3, hnn3, hdk3⟩ := id hc3
    obtain ⟨dx4, st4, pa4, as4, hdd3, _⟩ := id hdk3
    have q3 : ∀ H' a z', Kx [c, d] H3 H' → Tabs (tabs P1 P2) H' → ConAt K H' c d z' → Step (.put n) z a z' → Q (.str a) H' := fun H' a z' k t2 c2 s2 => q0 H' a z' (Kx.trans (Kx.same kk) k) t2 c2 s2
    walk_at "go"
    refine ⟨nb, _, rfl, .inl (SqL.of hn3), rfl, rfl, ?_⟩
    walk_at "go"
    refine iteF ?_
    walk_at "go"
    refine ⟨wp, _, rfl, .inl (SqL.of hw3), ?_⟩
    walk_at "go"
    refine ifF (by first | decide | simp [Ln.words]) ?_
    walk_at "go"
    refine ⟨wp, _, rfl, .inl (SqL.of hw3), ?_⟩
    walk_at "go"
    refine ifT rfl ?_
    walk_at "go"
    refine g_ixL (SqL.of hw3) at0 ?_
    walk_at "go"
    refine ⟨aA, _, rfl, .inr (hA2 _), rfl, rfl, ?_⟩
    walk_at "go"
    refine iteF ?_
    walk_at "go"
    refine ⟨wp, _, rfl, .inl (SqL.of hw3), ?_⟩
    walk_at "go"
    refine ifT rfl ?_
    walk_at "go"
    refine g_ixL (SqL.of hw3) at0 ?_
    walk_at "go"
    refine ifT rfl ?_
    walk_at "go"
    refine ⟨.ref c, rfl, c, dx3, _, rfl, hd3, rfl, ht3, fun H2 eN T2 => ?_⟩
    have hc2 := hc3.ext (Kx.ext eN)
    obtain ⟨ex, tk2, g1, g2, g3⟩ := id hc2
    obtain ⟨ex2, st2, pa2, as2, gd2, _⟩ := id g3
    have hnb2 : H2 nb = some (.lst ([n].map V.int)) := eN _ _ hn3 (fun _ z => by cases z)
    have hS : ∀ x ∈ [d], ∃ C dx fs, H2 x = some (.ins C dx fs) := fun x hx => by
      rw [List.mem_singleton.mp hx]
      exact ⟨_, _, _, gd2⟩
    refine (show tMeth (gaK K "Console") "put" (sp_Console_put K) [] (fun cls _ H' => ∃ nm, nm ∈ doneNames ∧ cls = .ref (gaK K nm) ∧ Q (.str nm) H') (tVar 0) (tCons (tOp (rIxL K) (tVar 3) (tC (.int 0))) tNil) _ H2 (fun _ H' => Q (.str "ok") H') from ?_)
    walk_at "go"
    refine ⟨c, ex, _, rfl, g1, rfl, ?_⟩
    walk_at "go"
    refine g_ixL (SqL.of hnb2) at0 ?_
    walk_at "go"
    exact ⟨_, _, rfl, c, d, z, n, rfl, rfl, hc2, pl, fun hz d' H' k => ⟨"InvalidNumber", by simp [doneNames], rfl, q3 H' _ z (Kx.trans (Kx.ext eN) (Kx.same k)) (Tabs.ext T2 k) (hc2.ext (Kx.same k)) (.put1 hz)⟩, fun hz hn d' H' k => ⟨"InvalidDegree", by simp [doneNames], rfl, q3 H' _ z (Kx.trans (Kx.ext eN) (Kx.same k)) (Tabs.ext T2 k) (hc2.ext (Kx.same k)) (.put2 hz hn)⟩, fun hz h1 h2 h3 d' H' k => ⟨"TooGreat", by simp [doneNames], rfl, q3 H' _ z (Kx.trans (Kx.ext eN) (Kx.same k)) (Tabs.ext T2 k) (hc2.ext (Kx.same k)) (.put3 hz h1 h2 h3)⟩, fun hz h1 h2 h3 H' k hc' => q3 H' _ _ (Kx.trans (Kx.ext eN) ((Kx.kp k).mono (by simp))) (Tabs.kp T2 k hS) hc' (.put4 hz h1 h2 h3)⟩
  | drop i =>
    refine ifF (by first | decide | simp [Ln.words]) ?_
    walk_at "go"
    refine ⟨wp, _, rfl, .inl (SqL.of hw), ?_⟩
    walk_at "go"
    refine ifT rfl ?_
    walk_at "go"
    refine g_ixL (SqL.of hw) at0 ?_
    walk_at "go"
    refine ifF (by first | decide | simp [Ln.words]) ?_
    walk_at "go"
    refine ⟨wp, _, rfl, SqL.of hw, fun sp hsp => ?_⟩
    have k1 := same_new (o := .lst (([i].map iS).map V.str)) hsp
    rw [show cutV ((Ln.words (.drop i)).map V.str) (some 1) none = ([i].map iS).map V.str from cut_tail]
    have ib : ∀ y ∈ [i], y.natAbs < 10 ^ 40 := fun y hy => by
      simp only [List.mem_cons, List.not_mem_nil, or_false] at hy
      rw [hy]; exact hl
    refine ⟨sp, rfl, ⟨_, SqL.of upd_same⟩, fun nb hnb => lc_goL ([i].map fun y => some (.int y)) (SqL.of upd_same) rfl hnb (by simp) (fun i' x o H3 hx hk k3 Rr hRr => ?_) (fun H3 k3 hn3 => ?_)⟩
    · obtain ⟨y, hy, rfl⟩ : ∃ y, [i][i']? = some y ∧ x = .str (iS y) := by
        rw [List.getElem?_map, List.getElem?_map] at hx
        cases e : [i][i']? with
        | none => rw [e] at hx; cases hx
        | some y => rw [e] at hx; cases hx; exact ⟨y, rfl, rfl⟩
      rw [List.getElem?_map, hy] at hk
      cases hk
      walk_at "go"
      refine ⟨rfl, ?_⟩
      walk_at "go"
      refine iteT ?_
      walk_at "go"
      exact ⟨_, rfl, y, rfl, ib y (List.mem_of_getElem? hy), fun H4 k4 => hRr H4 k4⟩
    rw [ks_ints] at hn3
    have kk := Same.trans k1 k3
    have hw3 := kk _ _ hw
    have hc3 := hc0.ext (Kx.same kk)
    have ht3 := Tabs.ext ht0 kk
    obtain ⟨dx3, tk3, hd3, hnn3, hdk3⟩ := id hc3
    obtain ⟨dx4, st4, pa4, as4, hdd3, _⟩ := id hdk3
    have q3 : ∀ H' a z', Kx [c, d] H3 H' → Tabs (tabs P1 P2) H' → ConAt K H' c d z' → Step (.drop i) z a z' → Q (.str a) H' := fun H' a z' k t2 c2 s2 => q0 H' a z' (Kx.trans (Kx.same kk) k) t2 c2 s2
    walk_at "go"
    refine ⟨nb, _, rfl, .inl (SqL.of hn3), rfl, rfl, ?_⟩
    walk_at "go"
    refine iteF ?_
    walk_at "go"
    refine ⟨wp, _, rfl, .inl (SqL.of hw3), ?_⟩
    walk_at "go"
    refine ifF (by first | decide | simp [Ln.words]) ?_
    walk_at "go"
    refine ⟨wp, _, rfl, .inl (SqL.of hw3), ?_⟩
    walk_at "go"
    refine ifT rfl ?_
    walk_at "go"
    refine g_ixL (SqL.of hw3) at0 ?_
    walk_at "go"
    refine ⟨aA, _, rfl, .inr (hA2 _), rfl, rfl, ?_⟩
    walk_at "go"
    refine iteF ?_
    walk_at "go"
    refine ⟨wp, _, rfl, .inl (SqL.of hw3), ?_⟩
    walk_at "go"
    refine ifT rfl ?_
    walk_at "go"
    refine g_ixL (SqL.of hw3) at0 ?_
    walk_at "go"
    refine ifF (by first | decide | simp [Ln.words]) ?_
    walk_at "go"
    refine ⟨wp, _, rfl, .inl (SqL.of hw3), ?_⟩
    walk_at "go"
    refine ifT rfl ?_
    walk_at "go"
    refine g_ixL (SqL.of hw3) at0 ?_
    walk_at "go"
    refine ifT rfl ?_
    walk_at "go"
    refine ⟨.ref c, rfl, c, dx3, _, rfl, hd3, rfl, ht3, fun H2 eN T2 => ?_⟩
    have hc2 := hc3.ext (Kx.ext eN)
    obtain ⟨ex, tk2, g1, g2, g3⟩ := id hc2
    obtain ⟨ex2, st2, pa2, as2, gd2, _⟩ := id g3
    have hnb2 : H2 nb = some (.lst ([i].map V.int)) := eN _ _ hn3 (fun _ z => by cases z)
    have hS : ∀ x ∈ [d], ∃ C dx fs, H2 x = some (.ins C dx fs) := fun x hx => by
      rw [List.mem_singleton.mp hx]
      exact ⟨_, _, _, gd2⟩
    refine (show tMeth (gaK K "Desk") "drop" (sp_Desk_drop K) [] (fun cls _ H' => ∃ nm, nm ∈ doneNames ∧ cls = .ref (gaK K nm) ∧ Q (.str nm) H') (tFld K (tVar 0) "desk") (tCons (tOp (rIxL K) (tVar 3) (tC (.int 0))) tNil) _ H2 (fun _ H' => Q (.str "ok") H') from ?_)
    walk_at "go"
    refine ⟨c, _, ex, _, .ref d, rfl, g1, cl_Console T, na_Console_desk T, fl2 (by decide), ?_⟩
    walk_at "go"
    refine ⟨d, ex2, _, rfl, gd2, rfl, ?_⟩
    walk_at "go"
    refine g_ixL (SqL.of hnb2) at0 ?_
    walk_at "go"
    exact ⟨_, _, rfl, d, z.pg, z.pgs, i, rfl, rfl, g3, pl, fun hz d' H' k => ⟨"InvalidIndex", by simp [doneNames], rfl, q3 H' _ z (Kx.trans (Kx.ext eN) (Kx.same k)) (Tabs.ext T2 k) (hc2.ext (Kx.same k)) (.drop1 hz)⟩, fun h1 h2 H' k hd' => q3 H' _ _ (Kx.trans (Kx.ext eN) ((Kx.kp k).mono (by simp))) (Tabs.kp T2 k hS) (hc2.desk k hd') (.drop2 h1 h2)⟩
  | turn i m =>
    refine ifF (by first | decide | simp [Ln.words]) ?_
    walk_at "go"
    refine ⟨wp, _, rfl, .inl (SqL.of hw), ?_⟩
    walk_at "go"
    refine ifF (by first | decide | simp [Ln.words]) ?_
    walk_at "go"
    refine iteF ?_
    walk_at "go"
    refine ⟨wp, _, rfl, SqL.of hw, fun sp hsp => ?_⟩
    have k1 := same_new (o := .lst (([i, m].map iS).map V.str)) hsp
    rw [show cutV ((Ln.words (.turn i m)).map V.str) (some 1) none = ([i, m].map iS).map V.str from cut_tail]
    have ib : ∀ y ∈ [i, m], y.natAbs < 10 ^ 40 := fun y hy => by
      simp only [List.mem_cons, List.not_mem_nil, or_false] at hy
      rcases hy with hy | hy
      · rw [hy]; exact hl.1
      · rw [hy]; exact hl.2
    refine ⟨sp, rfl, ⟨_, SqL.of upd_same⟩, fun nb hnb => lc_goL ([i, m].map fun y => some (.int y)) (SqL.of upd_same) rfl hnb (by simp) (fun i' x o H3 hx hk k3 Rr hRr => ?_) (fun H3 k3 hn3 => ?_)⟩
    · obtain ⟨y, hy, rfl⟩ : ∃ y, [i, m][i']? = some y ∧ x = .str (iS y) := by
        rw [List.getElem?_map, List.getElem?_map] at hx
        cases e : [i, m][i']? with
        | none => rw [e] at hx; cases hx
        | some y => rw [e] at hx; cases hx; exact ⟨y, rfl, rfl⟩
      rw [List.getElem?_map, hy] at hk
      cases hk
      walk_at "go"
      refine ⟨rfl, ?_⟩
      walk_at "go"
      refine iteT ?_
      walk_at "go"
      exact ⟨_, rfl, y, rfl, ib y (List.mem_of_getElem? hy), fun H4 k4 => hRr H4 k4⟩
    rw [ks_ints] at hn3
    have kk := Same.trans k1 k3
    have hw3 := kk _ _ hw
    have hc3 := hc0.ext (Kx.same kk)
    have ht3 := Tabs.ext ht0 kk
    obtain ⟨dx3, tk3, hd3, hnn3, hdk3⟩ := id hc3
    obtain ⟨dx4, st4, pa4, as4, hdd3, _⟩ := id hdk3
    have q3 : ∀ H' a z', Kx [c, d] H3 H' → Tabs (tabs P1 P2) H' → ConAt K H' c d z' → Step (.turn i m) z a z' → Q (.str a) H' := fun H' a z' k t2 c2 s2 => q0 H' a z' (Kx.trans (Kx.same kk) k) t2 c2 s2
    walk_at "go"
    refine ⟨nb, _, rfl, .inl (SqL.of hn3), rfl, rfl, ?_⟩
    walk_at "go"
    refine iteF ?_
    walk_at "go"
    refine ⟨wp, _, rfl, .inl (SqL.of hw3), ?_⟩
    walk_at "go"
    refine ifT rfl ?_
    walk_at "go"
    refine g_ixL (SqL.of hw3) at0 ?_
    walk_at "go"
    refine ifT rfl ?_
    walk_at "go"
    refine ⟨.ref c, rfl, c, dx3, _, rfl, hd3, rfl, ht3, fun H2 eN T2 => ?_⟩
    have hc2 := hc3.ext (Kx.ext eN)
    obtain ⟨ex, tk2, g1, g2, g3⟩ := id hc2
    obtain ⟨ex2, st2, pa2, as2, gd2, _⟩ := id g3
    have hnb2 : H2 nb = some (.lst ([i, m].map V.int)) := eN _ _ hn3 (fun _ z => by cases z)
    have hS : ∀ x ∈ [d], ∃ C dx fs, H2 x = some (.ins C dx fs) := fun x hx => by
      rw [List.mem_singleton.mp hx]
      exact ⟨_, _, _, gd2⟩
    refine (show tMeth (gaK K "Desk") "turn" (sp_Desk_turn K) [] (fun cls _ H' => ∃ nm, nm ∈ doneNames ∧ cls = .ref (gaK K nm) ∧ Q (.str nm) H') (tFld K (tVar 0) "desk") (tCons (tOp (rIxL K) (tVar 3) (tC (.int 0))) (tCons (tOp (rIxL K) (tVar 3) (tC (.int 1))) tNil)) _ H2 (fun _ H' => Q (.str "ok") H') from ?_)
    walk_at "go"
    refine ⟨c, _, ex, _, .ref d, rfl, g1, cl_Console T, na_Console_desk T, fl2 (by decide), ?_⟩
    walk_at "go"
    refine ⟨d, ex2, _, rfl, gd2, rfl, ?_⟩
    walk_at "go"
    refine g_ixL (SqL.of hnb2) at0 ?_
    walk_at "go"
    refine g_ixL (SqL.of hnb2) at1 ?_
    walk_at "go"
    exact ⟨_, _, _, rfl, d, z.pg, z.pgs, i, m, rfl, rfl, rfl, g3, pl, fun hz d' H' k => ⟨"InvalidIndex", by simp [doneNames], rfl, q3 H' _ z (Kx.trans (Kx.ext eN) (Kx.same k)) (Tabs.ext T2 k) (hc2.ext (Kx.same k)) (.turn1 hz)⟩, fun h1 e n h2 => ⟨fun h3 d' H' k => ⟨"InvalidDegree", by simp [doneNames], rfl, q3 H' _ z (Kx.trans (Kx.ext eN) (Kx.same k)) (Tabs.ext T2 k) (hc2.ext (Kx.same k)) (.turn2 h1 h2 h3)⟩, fun h3 h4 h5 d' H' k => ⟨"TooGreat", by simp [doneNames], rfl, q3 H' _ z (Kx.trans (Kx.ext eN) (Kx.same k)) (Tabs.ext T2 k) (hc2.ext (Kx.same k)) (.turn3 h1 h2 h3 h4 h5)⟩, fun h3 h4 h5 h6 H' k hd' => q3 H' _ _ (Kx.trans (Kx.ext eN) ((Kx.kp k).mono (by simp))) (Tabs.kp T2 k hS) (hc2.desk k hd') (.turn4 h1 h2 h3 h4 h5 h6)⟩⟩
  | splits n =>
    refine ifF (by first | decide | simp [Ln.words]) ?_
    walk_at "go"
    refine ⟨wp, _, rfl, .inl (SqL.of hw), ?_⟩
    walk_at "go"
    refine ifT rfl ?_
    walk_at "go"
    refine g_ixL (SqL.of hw) at0 ?_
    walk_at "go"
    refine ifF (by first | decide | simp [Ln.words]) ?_
    walk_at "go"
    refine ⟨wp, _, rfl, SqL.of hw, fun sp hsp => ?_⟩
    have k1 := same_new (o := .lst (([n].map iS).map V.str)) hsp
    rw [show cutV ((Ln.words (.splits n)).map V.str) (some 1) none = ([n].map iS).map V.str from cut_tail]
    have ib : ∀ y ∈ [n], y.natAbs < 10 ^ 40 := fun y hy => by
      simp only [List.mem_cons, List.not_mem_nil, or_false] at hy
      rw [hy]; exact hl
    refine ⟨sp, rfl, ⟨_, SqL.of upd_same⟩, fun nb hnb => lc_goL ([n].map fun y => some (.int y)) (SqL.of upd_same) rfl hnb (by simp) (fun i' x o H3 hx hk k3 Rr hRr => ?_) (fun H3 k3 hn3 => ?_)⟩
    · obtain ⟨y, hy, rfl⟩ : ∃ y, [n][i']? = some y ∧ x = .str (iS y) := by
        rw [List.getElem?_map, List.getElem?_map] at hx
        cases e : [n][i']? with
        | none => rw [e] at hx; cases hx
        | some y => rw [e] at hx; cases hx; exact ⟨y, rfl, rfl⟩
      rw [List.getElem?_map, hy] at hk
      cases hk
      walk_at "go"
      refine ⟨rfl, ?_⟩
      walk_at "go"
      refine iteT ?_
      walk_at "go"
      exact ⟨_, rfl, y, rfl, ib y (List.mem_of_getElem? hy), fun H4 k4 => hRr H4 k4⟩
    rw [ks_ints] at hn3
    have kk := Same.trans k1 k3
    have hw3 := kk _ _ hw
    have hc3 := hc0.ext (Kx.same kk)
    have ht3 := Tabs.ext ht0 kk
    obtain ⟨dx3, tk3, hd3, hnn3, hdk3⟩ := id hc3
    obtain ⟨dx4, st4, pa4, as4, hdd3, _⟩ := id hdk3
    have q3 : ∀ H' a z', Kx [c, d] H3 H' → Tabs (tabs P1 P2) H' → ConAt K H' c d z' → Step (.splits n) z a z' → Q (.str a) H' := fun H' a z' k t2 c2 s2 => q0 H' a z' (Kx.trans (Kx.same kk) k) t2 c2 s2
    walk_at "go"
    refine ⟨nb, _, rfl, .inl (SqL.of hn3), rfl, rfl, ?_⟩
    walk_at "go"
    refine iteF ?_
    walk_at "go"
    refine ⟨wp, _, rfl, .inl (SqL.of hw3), ?_⟩
    walk_at "go"
    refine ifF (by first | decide | simp [Ln.words]) ?_
    walk_at "go"
    refine ⟨wp, _, rfl, .inl (SqL.of hw3), ?_⟩
    walk_at "go"
    refine ifT rfl ?_
    walk_at "go"
    refine g_ixL (SqL.of hw3) at0 ?_
    walk_at "go"
    refine ⟨aA, _, rfl, .inr (hA2 _), rfl, rfl, ?_⟩
    walk_at "go"
    refine iteT ?_
    walk_at "go"
    refine ⟨c, dx3, _, rfl, hd3, rfl, ?_⟩
    walk_at "go"
    refine g_ixL (SqL.of hw3) at0 ?_
    walk_at "go"
    refine g_ixL (SqL.of hn3) at0 ?_
    walk_at "go"
    exact ⟨_, _, _, rfl, c, d, z, n, .splits n, rfl, rfl, hc3, hl, .inl ⟨rfl, rfl⟩, fun H' a k s2 => q3 H' a z (Kx.same k) (Tabs.ext ht3 k) (hc3.ext (Kx.same k)) s2⟩
  | next n =>
    refine ifF (by first | decide | simp [Ln.words]) ?_
    walk_at "go"
    refine ⟨wp, _, rfl, .inl (SqL.of hw), ?_⟩
    walk_at "go"
    refine ifT rfl ?_
    walk_at "go"
    refine g_ixL (SqL.of hw) at0 ?_
    walk_at "go"
    refine ifF (by first | decide | simp [Ln.words]) ?_
    walk_at "go"
    refine ⟨wp, _, rfl, SqL.of hw, fun sp hsp => ?_⟩
    have k1 := same_new (o := .lst (([n].map iS).map V.str)) hsp
    rw [show cutV ((Ln.words (.next n)).map V.str) (some 1) none = ([n].map iS).map V.str from cut_tail]
    have ib : ∀ y ∈ [n], y.natAbs < 10 ^ 40 := fun y hy => by
      simp only [List.mem_cons, List.not_mem_nil, or_false] at hy
      rw [hy]; exact hl
    refine ⟨sp, rfl, ⟨_, SqL.of upd_same⟩, fun nb hnb => lc_goL ([n].map fun y => some (.int y)) (SqL.of upd_same) rfl hnb (by simp) (fun i' x o H3 hx hk k3 Rr hRr => ?_) (fun H3 k3 hn3 => ?_)⟩
    · obtain ⟨y, hy, rfl⟩ : ∃ y, [n][i']? = some y ∧ x = .str (iS y) := by
        rw [List.getElem?_map, List.getElem?_map] at hx
        cases e : [n][i']? with
        | none => rw [e] at hx; cases hx
        | some y => rw [e] at hx; cases hx; exact ⟨y, rfl, rfl⟩
      rw [List.getElem?_map, hy] at hk
      cases hk
      walk_at "go"
      refine ⟨rfl, ?_⟩
      walk_at "go"
      refine iteT ?_
      walk_at "go"
      exact ⟨_, rfl, y, rfl, ib y (List.mem_of_getElem? hy), fun H4 k4 => hRr H4 k4⟩
    rw [ks_ints] at hn3
    have kk := Same.trans k1 k3
    have hw3 := kk _ _ hw
    have hc3 := hc0.ext (Kx.same kk)
    have ht3 := Tabs.ext ht0 kk
    obtain ⟨dx3, tk3, hd3, hnn3, hdk3⟩ := id hc3
    obtain ⟨dx4, st4, pa4, as4, hdd3, _⟩ := id hdk3
    have q3 : ∀ H' a z', Kx [c, d] H3 H' → Tabs (tabs P1 P2) H' → ConAt K H' c d z' → Step (.next n) z a z' → Q (.str a) H' := fun H' a z' k t2 c2 s2 => q0 H' a z' (Kx.trans (Kx.same kk) k) t2 c2 s2
    walk_at "go"
    refine ⟨nb, _, rfl, .inl (SqL.of hn3), rfl, rfl, ?_⟩
    walk_at "go"
    refine iteF ?_
    walk_at "go"
    refine ⟨wp, _, rfl, .inl (SqL.of hw3), ?_⟩
    walk_at "go"
    refine ifF (by first | decide | simp [Ln.words]) ?_
    walk_at "go"
    refine ⟨wp, _, rfl, .inl (SqL.of hw3), ?_⟩
    walk_at "go"
    refine ifT rfl ?_
    walk_at "go"
    refine g_ixL (SqL.of hw3) at0 ?_
    walk_at "go"
    refine ⟨aA, _, rfl, .inr (hA2 _), rfl, rfl, ?_⟩
    walk_at "go"
    refine iteT ?_
    walk_at "go"
    refine ⟨c, dx3, _, rfl, hd3, rfl, ?_⟩
    walk_at "go"
    refine g_ixL (SqL.of hw3) at0 ?_
    walk_at "go"
    refine g_ixL (SqL.of hn3) at0 ?_
    walk_at "go"
    exact ⟨_, _, _, rfl, c, d, z, n, .next n, rfl, rfl, hc3, hl, .inr ⟨rfl, rfl⟩, fun H' a k s2 => q3 H' a z (Kx.same k) (Tabs.ext ht3 k) (hc3.ext (Kx.same k)) s2⟩
end
end PP
-- text WT
namespace PP
open PySem PySem.Spec PyProof.Rows L2 LamX TL
section
variable {P : Program} {w : World} {K : PySem.W.Frag} {mg : Str → Option Value} {base : Heap} {P1 P2 : Addr}
theorem c_Console_say (T : Tx K mg) (B : Tb K mg base P1 P2) : MetX P w K mg base CX0 16 (gaK K "Console") "say" (sp_Console_answer K P1 P2) := by
  refine met_of (F_Console_say T) (cl_Console T) (me_Console_say T) bd_Console_say sc_Console_say len2 (bodyX_of fun cdv A outer s H vs Q E hr h => ?_)
  obtain ⟨_, _, rfl, c, d, z, l, rfl, rfl, hl, hc, pl, ht, q⟩ := h
  obtain ⟨dx, tk, h1, h2, h3⟩ := id hc
  refine ⟨_, (pss_cons (ps_set (i := 2) sc_Console_say.nd rfl (Or.inl rfl) (pe_ifExp (pt_val (pe_callB call_isi (by rfl) (b_isinstance T) (by decide +kernel) (pa_cons (pv 1) (pa_cons (pe_bltn (v := .ty "str") rfl (b_str T) (by decide +kernel) rfl) pa_nil)))) (pe_mx (c_Console_answer T B) hr pass0 (pv 0) (pa_cons (pv 1) pa_nil)) pe_non))
      (pss_cons (ps_if (pt_cmpR op_isN (pv 2) pe_non (nomark _)) (pss_one ps_never) pss_nil)
      (pss_one (ps_ret (pv 2))))), ?_⟩
  walk_at "go"
  refine ⟨_, _, _, _, true, rfl, ClsV.ty "str", TyX.base (TyOf.str _), kit_ty (by decide +kernel), ?_⟩
  walk_at "go"
  refine iteT ?_
  walk_at "go"
  refine ⟨c, dx, _, rfl, h1, rfl, ?_⟩
  walk_at "go"
  refine ⟨_, _, rfl, c, d, z, l, rfl, rfl, hl, hc, pl, ht, fun H' a z' k t2 c2 s2 => ?_⟩
  walk_at "go"
  refine ⟨rfl, ?_⟩
  walk_at "go"
  refine ifF (fun z => by cases z) ?_
  walk_at "go"
  exact q H' a z' k t2 c2 s2
end
end PP
-- text PZ
namespace PP
open PySem PySem.Spec PyProof.Rows L2 LamX TL
theorem g_gsub {to ti : TE} {t : TSet} {v : V} {σ : L2.St} {H : Hp} {Q : L2.St → Hp → Prop} (q : to σ H fun o H1 => ti σ H1 fun i H2 => t o i v H2 fun H3 => Q σ H3) : gSub to ti t v σ H Q := q
theorem at2 {x y z : V} {l : List V} : atI (x :: y :: z :: l) 2 = some z := atI_nat (j := 2) rfl
theorem at3 {x y z u : V} {l : List V} : atI (x :: y :: z :: u :: l) 3 = some u := atI_nat (j := 3) rfl
theorem g_intI {i : Int} {Q : VK} {H : Hp} (q : Q (.int i) H) : (∃ j, [V.int i] = [V.int j] ∧ Q (.int j) H) ∨ ∃ k, [V.int i] = [V.bl k] ∧ Q (.int (if k = true then 1 else 0)) H := .inl ⟨i, rfl, q⟩
end PP
local macro_rules | `(tactic| walk_at "g1") => `(tactic| first
  | ((with_reducible refine' PP.g_var ?h1 ?_); (case h1 => rfl))
  | (with_reducible refine PP.g_c ?_) | (with_reducible refine PP.g_op ?_) | (with_reducible refine PP.g_un ?_) | (with_reducible refine PP.g_chain ?_)
  | (with_reducible refine PP.g_I0 ?_) | (with_reducible refine PP.g_U ?_) | (with_reducible refine PP.g_eqI ?_) | (with_reducible refine PP.g_neI ?_) | (with_reducible refine PP.g_eqS ?_) | (with_reducible refine PP.g_neS ?_)
  | (with_reducible refine PP.g_test ?_) | (with_reducible refine PP.g_B ?_) | (with_reducible refine PP.g_and ?_) | (with_reducible refine PP.g_or ?_) | (with_reducible refine PP.g_not ?_) | (with_reducible refine PP.g_if ?_)
  | (with_reducible refine PP.g_andV ?_) | (with_reducible refine PP.g_orV ?_) | (with_reducible refine PP.g_notV ?_) | (with_reducible refine PP.g_bl ?_)
  | (with_reducible refine PP.g_nil ?_) | (with_reducible refine PP.g_cons ?_) | (with_reducible refine PP.g_seq ?_) | (with_reducible refine PP.g_next ?_) | (with_reducible refine PP.g_asg ?_) | (with_reducible refine PP.g_name ?_)
  | (with_reducible refine PP.g_par ?_) | (with_reducible refine PP.g_two ?_) | (with_reducible refine PP.g_par3 ?_) | (with_reducible refine PP.g_three ?_) | (with_reducible refine PP.g_ret ?_) | (with_reducible refine PP.g_retN ?_) | (with_reducible refine PP.g_drop ?_) | (with_reducible refine PP.g_ifS ?_)
  | (with_reducible refine PP.g_call ?_) | (with_reducible refine PP.g_cb ?_) | ((with_reducible refine' PP.g_aug ?h2 ?_); (case h2 => rfl)) | (with_reducible refine PP.g_ipI ?_) | (with_reducible refine PP.g_unp ?_) | ((with_reducible refine' PP.g_lenok ?h3 ?_); (case h3 => rfl)) | (with_reducible refine PP.g_gcons ?_) | (with_reducible refine PP.g_gnil ?_) | (with_reducible refine PP.g_lc ?_) | (with_reducible refine PP.g_iL ?_) | (with_reducible refine PP.g_iT ?_) | (with_reducible refine PP.g_iR1 ?_) | (with_reducible refine PP.g_iR2 ?_) | (with_reducible refine PP.g_iS ?_) | (with_reducible refine PP.g_for ?_) | (with_reducible refine PP.g_sl ?_) | (with_reducible refine PP.g_gsub ?_) | (with_reducible refine PP.g_intI ?_) | (with_reducible refine PP.g_nop ?_) | (with_reducible refine PP.g_part ?_) | (with_reducible refine PP.g_isI ?_) | (with_reducible refine PP.g_m1 ?_) | (with_reducible refine PP.g_strv ?_) | (with_reducible refine PP.g_iE ?_) | (with_reducible refine PP.g_iEl ?_) | (with_reducible refine PP.g_iZ ?_) | (with_reducible refine PP.g_starA ?_) | (with_reducible refine PP.g_js ?_) | (with_reducible refine PP.g_js0 ?_) | (with_reducible refine PP.g_fmt ?_) | (with_reducible refine PP.g_fld ?_) | (with_reducible refine PP.g_sfld ?_) | (with_reducible refine PP.g_prop ?_) | (with_reducible refine PP.g_meth ?_) | (with_reducible refine PP.g_make ?_) | (with_reducible refine PP.g_revT ?_) | (with_reducible refine PP.g_yes ?_) | (with_reducible refine PP.g_tup ?_) | (with_reducible refine PP.g_lst ?_))
local macro_rules | `(tactic| walk_at "go") => `(tactic| repeat (walk_at "g1"))
-- text LA
namespace PP
open PySem PySem.Spec PyProof.Rows L2 LamX TL
section
variable {P : Program} {w : World} {K : PySem.W.Frag} {mg : Str → Option Value} {base : Heap}
/-! draws -/
def JugAt (H : Hp) (j : Addr) (n : Nat) : Prop := ∃ a b c : Int, H j = some (.lst [.int a, .int b, .int c]) ∧ 0 ≤ b ∧ b < 2147483269 ∧ 0 ≤ c ∧ c + n ≤ 2 ^ 40
theorem JugAt.less {H : Hp} {j : Addr} {n k : Nat} (h : JugAt H j n) (hk : k ≤ n) : JugAt H j k := by
  obtain ⟨a, b, c, h1, h2, h3, h4, h5⟩ := h
  exact ⟨a, b, c, h1, h2, h3, h4, by omega⟩
theorem JugAt.mono {H H' : Hp} {j : Addr} {n : Nat} (h : JugAt H j n) (k : Same H H') : JugAt H' j n := by
  obtain ⟨a, b, c, h1, h2⟩ := h
  exact ⟨a, b, c, k _ _ h1, h2⟩
theorem Kp.ofS {S : List Addr} {H H' H'' : Hp} (k : Kp S H H') (k2 : Same H' H'') : Kp S H H'' := Kp.trans k (Kp.of k2)
def sp_law_pull : Sp := sp2 fun x y H Q _ => ∃ (j : Addr) (n : Nat) (top : Int), x = .ref j ∧ y = .int top ∧ JugAt H j (n + 1) ∧ 0 < top ∧ top ≤ 2 ^ 60 ∧ ∀ v H', 0 ≤ v → v < top → Kp [j] H H' → JugAt H' j n → Q (.int v) H'
theorem c_law_pull (T : Tx K mg) : CalX P w K mg base CX0 1 "_law_pull" sp_law_pull [] := by
  refine cal0_of (F_law_pull T) (g_law_pull T) bd_law_pull sc_law_pull len2 (fun cdv A outer s H vs Q E hr h => ?_)
  obtain ⟨_, _, rfl, j, n, top, rfl, rfl, ⟨a, b, c, hj, b0, b1, c0, c1⟩, t0, t1, q⟩ := h
  refine ⟨_, (pss_cons (ps_if (pt_cmpR op_gt (pe_ix ix_list (pv 0) pe_int (fun _ _ => rfl)) pe_int (nomark _)) (pss_cons (ps_set (i := 2) sc_law_pull.nd rfl (Or.inl rfl) (pe_op op_mod (pe_callTy call_int1 (by rfl) (b_int T) (by decide +kernel) (pa_cons (pe_ix ix_list (pv 0) pe_int (fun _ _ => rfl)) pa_nil)) (pv 1)))
      (pss_cons (ps_asg (pe_op op_fdivW (pe_ix ix_list (pv 0) pe_int (fun _ _ => rfl)) (pv 1)) (pg_sub (pv 0) pe_int set_list))
      (pss_one (ps_ret (pv 2))))) pss_nil)
      (pss_cons (ps_asg (pe_op op_add (pe_ix ix_list (pv 0) pe_int (fun _ _ => rfl)) pe_int) (pg_sub (pv 0) pe_int set_list))
      (pss_cons (ps_set (i := 3) sc_law_pull.nd rfl (Or.inl rfl) (pe_op op_mod (pe_callTy call_int1 (by rfl) (b_int T) (by decide +kernel) (pa_cons (pe_op op_add (pe_ix ix_list (pv 0) pe_int (fun _ _ => rfl)) (pe_op op_mulW pe_int (pe_ix ix_list (pv 0) pe_int (fun _ _ => rfl)))) pa_nil)) pe_int))
      (pss_cons (ps_asg (pe_op op_mod (pe_callTy call_int1 (by rfl) (b_int T) (by decide +kernel) (pa_cons (pe_op op_add (pe_op op_add (pe_op op_mulW (pv 3) (pe_op op_add (pe_op op_mod (pe_callTy call_int1 (by rfl) (b_int T) (by decide +kernel) (pa_cons (pv 3) pa_nil)) pe_int) pe_int)) (pe_op op_mulW pe_int (pe_ix ix_list (pv 0) pe_int (fun _ _ => rfl)))) pe_int) pa_nil)) pe_int) (pg_sub (pv 0) pe_int set_list))
      (pss_one (ps_ret (pe_op op_mod (pe_op op_fdivW (pe_callTy call_int1 (by rfl) (b_int T) (by decide +kernel) (pa_cons (pe_ix ix_list (pv 0) pe_int (fun _ _ => rfl)) pa_nil)) pe_int) (pv 1)))))))), ?_⟩
  have kp : ∀ {H'} o, Kp [j] H H' → Kp [j] H (upd H' j o) := fun o k => k.upd (List.mem_singleton.mpr rfl)
  walk_at "go"
  refine g_ixL (SqL.of hj) at0 ?_
  walk_at "go"
  refine ifd (fun ha => ?_) (fun ha => ?_)
  · walk_at "go"
    refine g_ixL (SqL.of hj) at0 ?_
    walk_at "go"
    refine .inl ⟨_, rfl, ?_⟩
    walk_at "go"
    refine g_I t0 ?_
    walk_at "go"
    refine g_ixL (SqL.of hj) at0 ?_
    walk_at "go"
    refine g_I (wide_div (b := 61) t0 (by omega) (by decide) (by decide)) ?_
    walk_at "go"
    refine ⟨j, _, 0, 0, rfl, rfl, hj, rfl, ?_⟩
    walk_at "go"
    exact q _ _ (Int.emod_nonneg _ (by omega)) (Int.emod_lt_of_pos _ t0) (kp _ Kp.refl) ⟨a / top, b, c, upd_same, b0, b1, c0, by omega⟩
  · walk_at "go"
    refine g_ixL (SqL.of hj) at2 ?_
    walk_at "go"
    refine ⟨j, _, 2, 2, rfl, rfl, hj, rfl, ?_⟩
    walk_at "go"
    have h1 : (upd H j (.lst [.int a, .int b, .int (c + 1)])) j = some (.lst [.int a, .int b, .int (c + 1)]) := upd_same
    refine g_ixL (SqL.of upd_same) at1 ?_
    walk_at "go"
    refine g_ixL (SqL.of upd_same) at2 ?_
    refine g_I (wide_mul (a := 20) (b := 41) (by decide) (by omega) (by decide) (by decide) (by decide)) ?_
    walk_at "go"
    refine .inl ⟨_, rfl, ?_⟩
    walk_at "go"
    refine g_I (by decide) ?_
    walk_at "go"
    have m0 := Int.emod_nonneg (b + 54121 * (c + 1)) (by decide : (2147483269 : Int) ≠ 0)
    have m1 := Int.emod_lt_of_pos (b + 54121 * (c + 1)) (by decide : (0 : Int) < 2147483269)
    refine .inl ⟨_, rfl, ?_⟩
    walk_at "go"
    refine g_I (by decide) ?_
    walk_at "go"
    have n0 := Int.emod_nonneg ((b + 54121 * (c + 1)) % 2147483269) (by decide : (36007 : Int) ≠ 0)
    have n1 := Int.emod_lt_of_pos ((b + 54121 * (c + 1)) % 2147483269) (by decide : (0 : Int) < 36007)
    refine g_I (wide_mul (a := 40) (b := 40) (by omega) (by omega) (by decide) (by decide) (by decide)) ?_
    walk_at "go"
    refine g_ixL (SqL.of upd_same) at2 ?_
    refine g_I (wide_mul (a := 20) (b := 41) (by decide) (by omega) (by decide) (by decide) (by decide)) ?_
    walk_at "go"
    refine .inl ⟨_, rfl, ?_⟩
    walk_at "go"
    refine g_I (by decide) ?_
    walk_at "go"
    refine ⟨j, _, 1, 1, rfl, rfl, upd_same, rfl, ?_⟩
    walk_at "go"
    refine g_ixL (SqL.of upd_same) at1 ?_
    walk_at "go"
    refine .inl ⟨_, rfl, ?_⟩
    walk_at "go"
    refine g_I (wide_div (b := 9) (by decide) (by decide) (by decide) (by decide)) ?_
    walk_at "go"
    refine g_I t0 ?_
    refine q _ _ (Int.emod_nonneg _ (by omega)) (Int.emod_lt_of_pos _ t0) (kp _ (kp _ Kp.refl)) ⟨a, _, c + 1, upd_same, Int.emod_nonneg _ (by decide), Int.emod_lt_of_pos _ (by decide), by omega, by omega⟩
def sp_law_one_of (K : PySem.W.Frag) : Sp := sp2 fun x y H Q _ => ∃ (j l : Addr) (n : Nat) (xs : List V), x = .ref j ∧ y = .ref l ∧ JugAt H j (n + 1) ∧ SqL K H l xs ∧ l ≠ j ∧ H l = some (.lst xs) ∧ 0 < xs.length ∧ xs.length ≤ 1000 ∧ ∀ v H', v ∈ xs → Kp [j] H H' → JugAt H' j n → Q v H'
theorem c_law_one_of (T : Tx K mg) : CalX P w K mg base CX0 2 "_law_one_of" (sp_law_one_of K) [] := by
  refine cal0_of (F_law_one_of T) (g_law_one_of T) bd_law_one_of sc_law_one_of len2 (fun cdv A outer s H vs Q E hr h => ?_)
  obtain ⟨_, _, rfl, j, l, n, xs, rfl, rfl, hj, _, ne, hl, x0, x1, q⟩ := h
  refine ⟨_, (pss_one (ps_ret (pe_ix ix_list (pv 1) (pe_cx (c_law_pull T) hr pass0 (pa_cons (pv 0) (pa_cons (pe_callB call_len_seq (by rfl) (b_len T) (by decide +kernel) (pa_cons (pv 1) pa_nil)) pa_nil))) (fun _ _ => rfl)))), ?_⟩
  walk_at "go"
  refine ⟨l, _, rfl, .inl (SqL.of hl), ?_⟩
  walk_at "go"
  refine ⟨_, _, rfl, j, n, _, rfl, rfl, hj, by omega, by omega, fun v H' v0 v1 k hj' => ?_⟩
  obtain ⟨i, rfl⟩ := Int.eq_ofNat_of_zero_le v0
  have il : i < xs.length := by omega
  have hx : xs[i]? = some xs[i] := List.getElem?_eq_getElem il
  refine g_ixL (SqL.of (k _ _ (fun z => ne (List.mem_singleton.mp z)) hl)) (atI_nat hx) ?_
  exact q _ H' (List.mem_of_getElem? hx) k hj'
end
end PP
-- text LB
namespace PP
open PySem PySem.Spec PyProof.Rows L2 LamX TL
section
variable {P : Program} {w : World} {K : PySem.W.Frag} {mg : Str → Option Value} {base : Heap}
/-! common divisors -/
/-- the pair of numbers behind so many steps, a and b first -/
def EuI (B : Nat) (i : Nat) (x y : Nat) : Prop := if i % 2 = 0 then y * 2 ^ (i / 2) < B else y < x ∧ x * 2 ^ (i / 2) < B
theorem EuI.step {B i x y : Nat} (h : EuI B i x y) (hy : 0 < y) : EuI B (i + 1) y (x % y) := by
  unfold EuI at h ⊢
  have hm := Nat.mod_lt x hy
  by_cases hi : i % 2 = 0
  · rw [if_pos hi] at h
    rw [if_neg (by omega), show (i + 1) / 2 = i / 2 by omega]
    exact ⟨hm, h⟩
  · rw [if_neg hi] at h
    rw [if_pos (by omega), show (i + 1) / 2 = i / 2 + 1 by omega]
    have h2 : 2 * (x % y) ≤ x := by
      have := Nat.div_add_mod x y
      have : 1 ≤ x / y := (Nat.one_le_div_iff hy).mpr (Nat.le_of_lt h.1)
      have : y * 1 ≤ y * (x / y) := Nat.mul_le_mul_left y this
      omega
    rw [Nat.pow_succ, Nat.mul_comm (2 ^ (i / 2)) 2, ← Nat.mul_assoc, Nat.mul_comm (x % y) 2]
    exact Nat.lt_of_le_of_lt (Nat.mul_le_mul_right _ h2) h.2
theorem g_brk {nx bk ct : L2.St → Hp → Prop} {rt : VK} {σ : L2.St} {H : Hp} (q : bk σ H) : tBreak ⟨nx, rt, bk, ct⟩ σ H := q
def sp_law_common : Sp := sp2 fun x y H Q _ => ∃ a b : Int, x = .int a ∧ y = .int b ∧ b.natAbs < 2 ^ 150 ∧ a.natAbs < 2 ^ 4000 ∧ Q (.int (Nat.gcd a.natAbs b.natAbs : Nat)) H
theorem c_law_common (T : Tx K mg) : CalX P w K mg base CX0 1 "_law_common" sp_law_common [] := by
  refine cal0_of (F_law_common T) (g_law_common T) bd_law_common sc_law_common len2 (fun cdv A outer s H vs Q E hr h => ?_)
  obtain ⟨_, _, rfl, a, b, rfl, rfl, hb, ha, q⟩ := h
  refine ⟨_, (pss_cons (ps_par (i := 0) (j := 1) (by rfl) sc_law_common.nd rfl rfl (by decide) rfl rfl (pa_cons (pe_callB call_abs (by rfl) (b_abs T) (by decide +kernel) (pa_cons (pv 0) pa_nil)) (pa_cons (pe_callB call_abs (by rfl) (b_abs T) (by decide +kernel) (pa_cons (pv 1) pa_nil)) pa_nil)) (by rfl))
      (pss_cons (ps_for PassesOwn.never rfl (pi_range1 rfl (b_range T) (pa_cons pe_int pa_nil)) (pg_name (i := 2) sc_law_common.nd rfl (Or.inl rfl)) (pss_cons (ps_if (pt_cmpR op_eq (pv 1) pe_int (nomark _)) (pss_one ps_break) pss_nil)
      (pss_one (ps_par (i := 0) (j := 1) (by rfl) sc_law_common.nd rfl rfl (by decide) rfl rfl (pa_cons (pv 1) (pa_cons (pe_op op_mod (pe_callTy call_int1 (by rfl) (b_int T) (by decide +kernel) (pa_cons (pv 0) pa_nil)) (pv 1)) pa_nil)) (by rfl)))))
      (pss_one (ps_ret (pv 0))))), ?_⟩
  have ea : ∀ {i : Int}, (if i < 0 then -i else i) = ((i.natAbs : Nat) : Int) := fun {i} => by split <;> omega
  walk_at "go"
  refine ⟨a, rfl, ?_⟩
  rw [ea]
  walk_at "go"
  refine ⟨b, rfl, ?_⟩
  rw [ea]
  walk_at "go"
  refine ⟨400, rfl, by decide, by decide, forR (fun i σ' H' => H' = H ∧ ∃ (x y : Nat) (v : Option V), σ' = [some (.int (x : Int)), some (.int (y : Int)), v] ∧ Nat.gcd x y = Nat.gcd a.natAbs b.natAbs ∧ EuI (2 ^ 150) i x y)
    ⟨rfl, a.natAbs, b.natAbs, none, rfl, rfl, by unfold EuI; rw [if_pos rfl]; simpa using hb⟩ (fun i σ' H' hi h => ?_) (fun σ' H' h => ?_)⟩
  · obtain ⟨rfl, x, y, v, rfl, hg, he⟩ := h
    walk_at "go"
    refine ifd (fun h0 => ?_) (fun h0 => ?_)
    · refine g_brk ?_
      walk_at "go"
      have y0 : y = 0 := by omega
      rw [y0, Nat.gcd_zero_right] at hg
      rw [hg]
      exact q
    · walk_at "go"
      refine .inl ⟨_, rfl, ?_⟩
      walk_at "go"
      refine g_I (by omega) ?_
      walk_at "go"
      refine ⟨rfl, y, x % y, some (.int (0 + (i : Int))), ?_, ?_, he.step (by omega)⟩
      · rw [← Int.natCast_emod]
        rfl
      · rw [← hg, Nat.gcd_comm x y, Nat.gcd_rec y x, Nat.gcd_comm]
  · obtain ⟨rfl, x, y, v, rfl, hg, he⟩ := h
    walk_at "go"
    have y0 : y = 0 := by
      have he' : y * 2 ^ 200 < 2 ^ 150 := he
      rcases Nat.eq_zero_or_pos y with z | z
      · exact z
      · have h1 : 1 * 2 ^ 200 ≤ y * 2 ^ 200 := Nat.mul_le_mul_right _ z
        have h2 : (2 : Nat) ^ 150 < 1 * 2 ^ 200 := by decide
        omega
    rw [y0, Nat.gcd_zero_right] at hg
    rw [hg]
    exact q
/-! rows of exponents -/
abbrev RowIs (H : Hp) (l : Addr) (e : E4) : Prop := H l = some (.lst (e.row.map V.int))
def Sm (B : Nat) (e : E4) : Prop := e.a.natAbs ≤ B ∧ e.b.natAbs ≤ B ∧ e.c.natAbs ≤ B ∧ e.d.natAbs ≤ B
def sp_law_power : Sp := sp1 fun x H Q _ => ∃ (l : Addr) (e : E4), x = .ref l ∧ RowIs H l e ∧ Sm (2 ^ 100) e ∧ Q (.int (e.g : Nat)) H
theorem c_law_power (T : Tx K mg) : CalX P w K mg base CX0 2 "_law_power" sp_law_power [] := by
  refine cal0_of (F_law_power T) (g_law_power T) bd_law_power sc_law_power len1 (fun cdv A outer s H vs Q E hr h => ?_)
  obtain ⟨_, rfl, l, e, rfl, hl, ⟨s1, s2, s3, s4⟩, q⟩ := h
  refine ⟨_, (pss_cons (ps_set (i := 1) sc_law_power.nd rfl (Or.inl rfl) pe_int)
      (pss_cons (ps_for PassesOwn.never rfl (pi_list (pv 0)) (pg_name (i := 2) sc_law_power.nd rfl (Or.inl rfl)) (pss_one (ps_set (i := 1) sc_law_power.nd rfl (Or.inl rfl) (pe_cx (c_law_common T) hr pass0 (pa_cons (pv 1) (pa_cons (pv 2) pa_nil))))))
      (pss_one (ps_ret (pv 1))))), ?_⟩
  have hrow : ∀ y ∈ e.row, y.natAbs ≤ 2 ^ 100 := fun y hy => by
    simp only [E4.row, List.mem_cons, List.not_mem_nil, or_false] at hy
    rcases hy with rfl | rfl | rfl | rfl <;> assumption
  have fb : ∀ (l : List Int) (g : Nat), g < 2 ^ 4000 → (∀ z ∈ l, z.natAbs ≤ 2 ^ 100) → l.foldl (fun g z => Nat.gcd g z.natAbs) g < 2 ^ 4000 := fun l => by
    induction l with
    | nil => exact fun g hg _ => hg
    | cons u r ih =>
      intro g hg hu
      refine ih _ ?_ fun y hy => hu y (List.mem_cons_of_mem _ hy)
      have hu1 := hu u (List.mem_cons_self ..)
      rcases Nat.eq_zero_or_pos g with g0 | g0
      · rw [g0]
        show Nat.gcd 0 u.natAbs < 2 ^ 4000
        rw [Nat.gcd_zero_left]
        exact Nat.lt_of_le_of_lt hu1 (Nat.pow_lt_pow_right (by decide) (by decide))
      · exact Nat.lt_of_le_of_lt (Nat.le_of_dvd g0 (Nat.gcd_dvd_left _ _)) hg
  walk_at "go"
  refine ⟨l, rfl, ⟨_, SqL.of hl⟩, forL (xs := e.row.map V.int) (fun i σ' H' => H' = H ∧ ∃ v : Option V, σ' = [some (.ref l), some (.int (((e.row.take i).foldl (fun g z => Nat.gcd g z.natAbs) 0 : Nat) : Int)), v])
    ⟨rfl, none, rfl⟩ (fun i σ' H' hi h => SqL.of (h.1 ▸ hl)) (fun i x σ' H' hx h => ?_) (fun σ' H' h => ?_)⟩
  · obtain ⟨rfl, v, rfl⟩ := h
    obtain ⟨z, hz, rfl⟩ : ∃ z, e.row[i]? = some z ∧ x = .int z := by
      rw [List.getElem?_map] at hx
      cases e1 : e.row[i]? with
      | none => rw [e1] at hx; cases hx
      | some z => rw [e1] at hx; cases hx; exact ⟨z, rfl, rfl⟩
    have zb := hrow z (List.mem_of_getElem? hz)
    have hg := fb (e.row.take i) 0 (Nat.pow_pos (by decide)) fun y hy => hrow y (List.mem_of_mem_take hy)
    walk_at "go"
    refine ⟨_, _, rfl, _, z, rfl, rfl, Nat.lt_of_le_of_lt zb (Nat.pow_lt_pow_right (by decide) (by decide)), by rw [Int.natAbs_natCast]; exact hg, ?_⟩
    walk_at "go"
    refine ⟨rfl, some (.int z), ?_⟩
    rw [List.take_add_one, hz, List.foldl_append, Int.natAbs_natCast]
    rfl
  · obtain ⟨rfl, v, rfl⟩ := h
    walk_at "go"
    have e1 : ((e.row.take (e.row.map V.int).length).foldl (fun g z => Nat.gcd g z.natAbs) 0) = e.g := by
      show Nat.gcd (Nat.gcd (Nat.gcd (Nat.gcd 0 e.a.natAbs) e.b.natAbs) e.c.natAbs) e.d.natAbs = _
      rw [Nat.gcd_zero_left]
      rfl
    rw [e1]
    exact q
end
end PP
-- text LC
namespace PP
open PySem PySem.Spec PyProof.Rows L2 LamX TL
section
variable {P : Program} {w : World} {K : PySem.W.Frag} {mg : Str → Option Value} {base : Heap}
/-! numbers of exponents, their texts -/
def topN (l : List (Nat × Int)) : Nat := l.foldl (fun t x => t * x.1 ^ x.2.toNat) 1
def botN (l : List (Nat × Int)) : Nat := l.foldl (fun t x => t * x.1 ^ (-x.2).toNat) 1
def zs4 (e : E4) : List (Nat × Int) := [(2, e.a), (3, e.b), (5, e.c), (7, e.d)]
theorem topN_e {e : E4} : topN (zs4 e) = e.tp := by
  show 1 * 2 ^ _ * 3 ^ _ * 5 ^ _ * 7 ^ _ = _
  rw [Nat.one_mul]
  rfl
theorem botN_e {e : E4} : botN (zs4 e) = e.bt := by
  show 1 * 2 ^ _ * 3 ^ _ * 5 ^ _ * 7 ^ _ = _
  rw [Nat.one_mul]
  rfl
theorem fold_lt {f : Nat × Int → Nat} {B : Nat} : ∀ {l : List (Nat × Int)} {t k : Nat}, (∀ x ∈ l, x.1 ^ f x < 2 ^ B) → t < 2 ^ k → l.foldl (fun t x => t * x.1 ^ f x) t < 2 ^ (k + B * l.length)
  | [], t, k, _, ht => by simpa using ht
  | x :: l, t, k, h, ht => by
    have h1 := h x (List.mem_cons_self ..)
    have h2 : t * x.1 ^ f x < 2 ^ (k + B) := by
      rw [Nat.pow_add]
      exact Nat.mul_lt_mul'' ht h1
    have := fold_lt (l := l) (fun y hy => h y (List.mem_cons_of_mem _ hy)) h2
    rw [List.foldl_cons, List.length_cons, show k + B * (l.length + 1) = k + B + B * l.length by rw [Nat.mul_add]; omega]
    exact this
theorem p7 {p k B : Nat} (hp : p ≤ 7) (hk : k ≤ B) : p ^ k < 2 ^ (3 * B + 1) := by
  have h1 : p ^ k ≤ 8 ^ k := Nat.pow_le_pow_left (by omega) k
  have h2 : (8 : Nat) ^ k ≤ 8 ^ B := Nat.pow_le_pow_right (by decide) hk
  have h3 : (8 : Nat) ^ B = 2 ^ (3 * B) := by rw [Nat.pow_mul]
  exact Nat.lt_of_le_of_lt (Nat.le_trans h1 h2) (by rw [h3]; exact Nat.pow_lt_pow_right (by decide) (by omega))
theorem zs_get {e : E4} {i : Nat} {x y : V} (h1 : ([.int 2, .int 3, .int 5, .int 7] : List V)[i]? = some x) (h2 : (e.row.map V.int)[i]? = some y) : ∃ (p : Nat) (z : Int), (zs4 e)[i]? = some (p, z) ∧ x = .int (p : Int) ∧ y = .int z ∧ 0 < p ∧ p ≤ 7 ∧ z ∈ e.row := by
  match i with
  | 0 => cases h1; cases h2; exact ⟨2, e.a, rfl, rfl, rfl, by decide, by decide, by simp [E4.row]⟩
  | 1 => cases h1; cases h2; exact ⟨3, e.b, rfl, rfl, rfl, by decide, by decide, by simp [E4.row]⟩
  | 2 => cases h1; cases h2; exact ⟨5, e.c, rfl, rfl, rfl, by decide, by decide, by simp [E4.row]⟩
  | 3 => cases h1; cases h2; exact ⟨7, e.d, rfl, rfl, rfl, by decide, by decide, by simp [E4.row]⟩
  | i + 4 => simp at h1
theorem Sm.row {B : Nat} {e : E4} (h : Sm B e) : ∀ y ∈ e.row, y.natAbs ≤ B := fun y hy => by
  obtain ⟨s1, s2, s3, s4⟩ := h
  simp only [E4.row, List.mem_cons, List.not_mem_nil, or_false] at hy
  rcases hy with rfl | rfl | rfl | rfl <;> assumption
theorem Sm.le {B C : Nat} {e : E4} (h : Sm B e) (hc : B ≤ C) : Sm C e := ⟨Nat.le_trans h.1 hc, Nat.le_trans h.2.1 hc, Nat.le_trans h.2.2.1 hc, Nat.le_trans h.2.2.2 hc⟩
def sp_law_pair : Sp := sp2 fun x y H Q _ => ∃ (s : Int) (l : Addr) (e : E4), x = .int s ∧ y = .ref l ∧ (s = 1 ∨ s = -1) ∧ RowIs H l e ∧ Sm 2000 e ∧ ∀ H' p, Same H H' → Num H' p (s * (e.tp : Int)) (e.bt : Int) → Q (.ref p) H'
theorem c_law_pair (T : Tx K mg) : CalX P w K mg base CX0 1 "_law_pair" sp_law_pair [] := by
  refine cal0_of (F_law_pair T) (g_law_pair T) bd_law_pair sc_law_pair len2 (fun cdv A outer s H vs Q E hr h => ?_)
  obtain ⟨_, _, rfl, sg, l, e, rfl, rfl, hs, hl, hsm, q⟩ := h
  refine ⟨_, (pss_cons (ps_par (i := 2) (j := 3) (by rfl) sc_law_pair.nd rfl rfl (by decide) rfl rfl (pa_cons (pv 0) (pa_cons pe_int pa_nil)) (by rfl))
      (pss_cons (ps_for PassesOwn.never rfl (RZ.pi_zipA (by rfl) (b_zip T) (pa_cons (pe_lst (pa_cons pe_int (pa_cons pe_int (pa_cons pe_int (pa_cons pe_int pa_nil))))) (pa_cons (pv 1) pa_nil))) (pg_tup rfl (pgs_cons (pg_name (i := 4) sc_law_pair.nd rfl (Or.inl rfl)) (pgs_cons (pg_name (i := 5) sc_law_pair.nd rfl (Or.inl rfl)) pgs_nil))) (pss_one (ps_for PassesOwn.never rfl (pi_range1 rfl (b_range T) (pa_cons (pe_callB call_abs (by rfl) (b_abs T) (by decide +kernel) (pa_cons (pv 5) pa_nil)) pa_nil)) (pg_name (i := 6) sc_law_pair.nd rfl (Or.inl rfl)) (pss_one (ps_asg (pe_ifExp (pt_cmpR op_gt (pv 5) pe_int (nomark _)) (pe_tup (pa_cons (pe_op op_mulW (pv 2) (pv 4)) (pa_cons (pv 3) pa_nil))) (pe_tup (pa_cons (pv 2) (pa_cons (pe_op op_mulW (pv 3) (pv 4)) pa_nil)))) (pg_tup rfl (pgs_cons (pg_name (i := 2) sc_law_pair.nd rfl (Or.inl rfl)) (pgs_cons (pg_name (i := 3) sc_law_pair.nd rfl (Or.inl rfl)) pgs_nil))))))))
      (pss_one (ps_ret (pe_tup (pa_cons (pv 2) (pa_cons (pv 3) pa_nil))))))), ?_⟩
  have ea : ∀ {i : Int}, (if i < 0 then -i else i) = ((i.natAbs : Nat) : Int) := fun {i} => by split <;> omega
  have zm : ∀ x ∈ zs4 e, x.1 ≤ 7 ∧ x.2.natAbs ≤ 2000 := fun x hx => by
    obtain ⟨s1, s2, s3, s4⟩ := hsm
    simp only [zs4, List.mem_cons, List.not_mem_nil, or_false] at hx
    rcases hx with rfl | rfl | rfl | rfl
    · exact ⟨(by show (2 : Nat) ≤ 7; decide), s1⟩
    · exact ⟨(by show (3 : Nat) ≤ 7; decide), s2⟩
    · exact ⟨(by show (5 : Nat) ≤ 7; decide), s3⟩
    · exact ⟨(by show (7 : Nat) ≤ 7; decide), s4⟩
  have tb : ∀ i, topN ((zs4 e).take i) < 2 ^ 30000 := fun i => by
    have h1 := fold_lt (f := fun x => x.2.toNat) (B := 6001) (l := (zs4 e).take i) (t := 1) (k := 1) (fun x hx => p7 (zm x (List.mem_of_mem_take hx)).1 (Nat.le_trans (by omega) (zm x (List.mem_of_mem_take hx)).2)) (by decide)
    have h2 : ((zs4 e).take i).length ≤ 4 := List.length_take_le' i _
    exact Nat.lt_of_lt_of_le h1 (Nat.pow_le_pow_right (by decide) (by omega))
  have bb : ∀ i, botN ((zs4 e).take i) < 2 ^ 30000 := fun i => by
    have h1 := fold_lt (f := fun x => (-x.2).toNat) (B := 6001) (l := (zs4 e).take i) (t := 1) (k := 1) (fun x hx => p7 (zm x (List.mem_of_mem_take hx)).1 (Nat.le_trans (by omega) (zm x (List.mem_of_mem_take hx)).2)) (by decide)
    have h2 : ((zs4 e).take i).length ≤ 4 := List.length_take_le' i _
    exact Nat.lt_of_lt_of_le h1 (Nat.pow_le_pow_right (by decide) (by omega))
  walk_at "go"
  refine mkT fun pl hpl => ?_
  have k0 := same_new (o := .lst [.int 2, .int 3, .int 5, .int 7]) hpl
  walk_at "go"
  refine ⟨pl, l, _, _, rfl, .inl ⟨SqL.of upd_same, SqL.of (k0 _ _ hl), forP (walk_zip rfl) (fun i σ' H' => Same (upd H pl (.lst [.int 2, .int 3, .int 5, .int 7])) H' ∧ ∃ (v u z : Option V), σ' = [some (.int sg), some (.ref l), some (.int (sg * (topN ((zs4 e).take i) : Nat))), some (.int (botN ((zs4 e).take i) : Nat)), v, u, z])
    ⟨Same.refl _, none, none, none, ?_⟩ (fun i σ' H' hi h => ⟨SqL.of (h.1 _ _ upd_same), SqL.of (h.1 _ _ (k0 _ _ hl))⟩) (fun i x' y' T' σ' H' hi ex ey h hT => ?_) (fun σ' H' h => ?_)⟩⟩
  · have e1 : topN ((zs4 e).take 0) = 1 := rfl
    have e2 : botN ((zs4 e).take 0) = 1 := rfl
    rw [e1, e2]
    show [some (V.int sg), some (.ref l), some (.int sg), some (.int 1), none, none, none] = _
    simp
  · obtain ⟨k, v, u, z, rfl⟩ := h
    obtain ⟨p, a, hz, rfl, rfl, p0, p1, am⟩ := zs_get ex ey
    have ab := hsm.row a am
    have kT := same_new (o := .tup [.int (p : Int), .int a]) hT
    refine g_gtup (SqT.of upd_same) rfl ?_
    walk_at "go"
    refine ⟨a, rfl, ?_⟩
    rw [ea]
    walk_at "go"
    have hT0 := tb i
    have hB0 := bb i
    have et : topN ((zs4 e).take (i + 1)) = topN ((zs4 e).take i) * p ^ a.toNat := by
      unfold topN
      rw [List.take_add_one, hz, List.foldl_append]
      rfl
    have eb : botN ((zs4 e).take (i + 1)) = botN ((zs4 e).take i) * p ^ (-a).toNat := by
      unfold botN
      rw [List.take_add_one, hz, List.foldl_append]
      rfl
    rw [et, eb]
    generalize topN ((zs4 e).take i) = Ti at *
    generalize botN ((zs4 e).take i) = Bi at *
    refine ⟨_, rfl, by omega, by omega, forR (fun t σ2 H2 => Same (upd H' T' (.tup [.int (p : Int), .int a])) H2 ∧ ∃ z : Option V, σ2 = [some (.int sg), some (.ref l), some (.int (sg * ((Ti * if 0 < a then p ^ t else 1 : Nat) : Int))), some (.int ((Bi * if 0 < a then 1 else p ^ t : Nat) : Int)), some (.int (p : Int)), some (.int a), z])
      ⟨Same.refl _, z, ?_⟩ (fun t σ2 H2 hi2 h2 => ?_) (fun σ2 H2 h2 => ?_)⟩
    · have e1 : (Ti * if 0 < a then p ^ 0 else 1) = Ti := by split <;> simp
      have e2 : (Bi * if 0 < a then 1 else p ^ 0) = Bi := by split <;> simp
      rw [e1, e2]
      rfl
    · obtain ⟨k2, z2, rfl⟩ := h2
      have pt : p ^ t < 2 ^ 6001 := p7 (B := 2000) p1 (by rw [Int.toNat_natCast] at hi2; omega)
      walk_at "go"
      refine ifd (fun ha => ?_) (fun ha => ?_)
      · simp only [if_pos ha]
        walk_at "go"
        have e1 : (sg * ((Ti * p ^ t : Nat) : Int)).natAbs < 2 ^ 36001 := by
          have h1 : (sg * ((Ti * p ^ t : Nat) : Int)).natAbs = Ti * p ^ t := by
            rw [Int.natAbs_mul, Int.natAbs_natCast, show sg.natAbs = 1 by rcases hs with rfl | rfl <;> rfl, Nat.one_mul]
          rw [h1, show 36001 = 30000 + 6001 from rfl, Nat.pow_add]
          exact Nat.mul_lt_mul'' hT0 pt
        refine g_I (wide_mul (a := 36001) (b := 4) e1 (by omega) (by decide) (by decide) (by decide)) ?_
        walk_at "go"
        refine mkT fun q1 hq1 => ?_
        refine g_gtup (SqT.of upd_same) rfl ?_
        walk_at "go"
        refine ⟨Same.trans k2 (same_new hq1), some (.int (0 + (t : Int))), ?_⟩
        rw [Nat.pow_succ, ← Nat.mul_assoc, Int.natCast_mul (Ti * p ^ t), ← Int.mul_assoc]
        rfl
      · simp only [if_neg ha]
        walk_at "go"
        have e1 : ((Bi * p ^ t : Nat) : Int).natAbs < 2 ^ 36001 := by
          rw [Int.natAbs_natCast, show 36001 = 30000 + 6001 from rfl, Nat.pow_add]
          exact Nat.mul_lt_mul'' hB0 pt
        refine g_I (wide_mul (a := 36001) (b := 4) e1 (by omega) (by decide) (by decide) (by decide)) ?_
        walk_at "go"
        refine mkT fun q1 hq1 => ?_
        refine g_gtup (SqT.of upd_same) rfl ?_
        walk_at "go"
        refine ⟨Same.trans k2 (same_new hq1), some (.int (0 + (t : Int))), ?_⟩
        rw [Nat.pow_succ, ← Nat.mul_assoc, Int.natCast_mul (Bi * p ^ t)]
        rfl
    · obtain ⟨k2, z2, rfl⟩ := h2
      refine ⟨Same.trans k (Same.trans kT k2), some (.int (p : Int)), some (.int a), z2, ?_⟩
      rw [Int.toNat_natCast]
      by_cases ha : 0 < a
      · rw [if_pos ha, if_pos ha, show a.natAbs = a.toNat by omega, show (-a).toNat = 0 by omega, Nat.pow_zero]
      · rw [if_neg ha, if_neg ha, show a.natAbs = (-a).toNat by omega, show a.toNat = 0 by omega, Nat.pow_zero]
  · obtain ⟨k, v, u, z, rfl⟩ := h
    have e1 : (zs4 e).take (min ([.int 2, .int 3, .int 5, .int 7] : List V).length (e.row.map V.int).length) = zs4 e := rfl
    rw [e1, topN_e, botN_e]
    walk_at "go"
    refine mkT fun p hp => ?_
    exact q _ p (Same.trans k0 (Same.trans k (same_new hp))) upd_same
def sp_law_text : Sp := sp1 fun a H Q _ => ∃ (p : Addr) (t b : Int), a = .ref p ∧ Num H p t b ∧ t.natAbs.log2 < 1920 ∧ b.natAbs.log2 < 1920 ∧ Q (.str (nText t b)) H
theorem c_law_text (T : Tx K mg) : CalX P w K mg base CX0 1 "_law_text" sp_law_text [] := by
  refine cal0_of (F_law_text T) (g_law_text T) bd_law_text sc_law_text len1 (fun cdv A outer s H vs Q E hr h => ?_)
  obtain ⟨_, rfl, p, t, b, rfl, hp, ht, hb, q⟩ := h
  refine ⟨_, (pss_one (ps_ret (pe_ifExp (pt_cmpR op_eq (pe_ix ix_tup (pv 0) pe_int (fun _ _ => rfl)) pe_int (nomark _)) (pe_callTy call_str_int (by rfl) (b_str T) (by decide +kernel) (pa_cons (pe_ix ix_tup (pv 0) pe_int (fun _ _ => rfl)) pa_nil)) (pe_op op_add_str (pe_op op_add_str (pe_callTy call_str_int (by rfl) (b_str T) (by decide +kernel) (pa_cons (pe_ix ix_tup (pv 0) pe_int (fun _ _ => rfl)) pa_nil)) pe_str) (pe_callTy call_str_int (by rfl) (b_str T) (by decide +kernel) (pa_cons (pe_ix ix_tup (pv 0) pe_int (fun _ _ => rfl)) pa_nil)))))), ?_⟩
  walk_at "go"
  refine g_ixT (SqT.of hp) at1 ?_
  walk_at "go"
  refine ifd (fun hc => ?_) (fun hc => ?_)
  · walk_at "go"
    refine g_ixT (SqT.of hp) at0 ?_
    walk_at "go"
    refine ⟨t, rfl, ht, ?_⟩
    unfold nText at q
    rw [if_pos hc] at q
    exact q
  · walk_at "go"
    refine g_ixT (SqT.of hp) at0 ?_
    walk_at "go"
    refine ⟨t, rfl, ht, ?_⟩
    have a : (Str.ofString (toString t)).length ≤ 1921 := iS_len ht
    have c : (Str.ofString (toString b)).length ≤ 1921 := iS_len hb
    have d : (Str.ofString "/").length = 1 := by decide
    walk_at "go"
    refine ⟨_, _, rfl, rfl, big_line (by omega), ?_⟩
    walk_at "go"
    refine g_ixT (SqT.of hp) at1 ?_
    walk_at "go"
    refine ⟨b, rfl, hb, ?_⟩
    refine ⟨_, _, rfl, rfl, big_line (by rw [Str.length_append]; omega), ?_⟩
    unfold nText at q
    rw [if_neg hc] at q
    exact q
end
end PP
-- text LD
namespace PP
open PySem PySem.Spec PyProof.Rows L2 LamX TL
section
variable {P : Program} {w : World} {K : PySem.W.Frag} {mg : Str → Option Value} {base : Heap}
def In4 (lo hi : Int) (e : E4) : Prop := ∀ z ∈ e.row, lo ≤ z ∧ z ≤ hi
theorem row_of {l : List Int} (h : l.length = 4) : ∃ e : E4, e.row = l := by
  match l, h with
  | [a, b, c, d], _ => exact ⟨⟨a, b, c, d⟩, rfl⟩
theorem kj_ne {H H' : Hp} {j a : Addr} {o : HO} {n : Nat} (hj : JugAt H j n) (ha : H a = none) : a ≠ j := fun z => by
  obtain ⟨_, _, _, h, _⟩ := hj
  rw [z, h] at ha
  cases ha
theorem jug_ne {H : Hp} {j a : Addr} {n : Nat} (hj : JugAt H j n) (ha : H a = none) : a ≠ j := fun z => by
  obtain ⟨_, _, _, h, _⟩ := hj
  rw [z, h] at ha
  cases ha
def sp_law_small : Sp := sp3 fun x y z H Q _ => ∃ (j : Addr) (n : Nat) (lo hi : Int), x = .ref j ∧ y = .int lo ∧ z = .int hi ∧ JugAt H j (n + 20) ∧ -100 ≤ lo ∧ lo ≤ 0 ∧ 1 ≤ hi ∧ hi ≤ 100 ∧ ∀ H' l e, In4 lo hi e → Kp [j] H H' → JugAt H' j n → RowIs H' l e → l ≠ j → H l = none → Q (.ref l) H'
theorem c_law_small (T : Tx K mg) : CalX P w K mg base CX0 3 "_law_small" sp_law_small [] := by
  refine cal0_of (F_law_small T) (g_law_small T) bd_law_small sc_law_small len3 (fun cdv A outer s H vs Q E hr h => ?_)
  obtain ⟨_, _, _, rfl, j, n, lo, hi, rfl, rfl, rfl, hj, l0, l1, h0, h1, q⟩ := h
  refine ⟨_, (pss_cons (ps_setLc (i := 3) (own := [("_law_k", 4)]) rfl sc_law_small.nd rfl rfl (sw_true rfl rfl rfl (by decide +kernel)) (pi_range1 rfl (b_range T) (pa_cons pe_int pa_nil)) (blkOk_by (own := [("_law_k", 4)]) (N := N_law_small) (sc := defScope s_law_small) (by decide +kernel)) (fun _ _ _ _ _ => (pg_name (i := 4) sc_law_small.nd rfl (Or.inl rfl))) (fun _ _ _ _ _ => pts_nil) (fun _ _ _ _ _ => (pe_ifExp (pt_cmpR op_eq (pe_cx (c_law_pull T) hr pass0 (pa_cons (pv 0) (pa_cons pe_int pa_nil))) pe_int (nomark _)) (pe_op op_add (pv 1) (pe_cx (c_law_pull T) hr pass0 (pa_cons (pv 0) (pa_cons (pe_op op_add (pe_op op_sub (pv 2) (pv 1)) pe_int) pa_nil)))) pe_int)))
      (pss_cons (ps_asg (pe_cx (c_law_one_of T) hr pass0 (pa_cons (pv 0) (pa_cons (pe_lst (pa_cons pe_int (pa_cons pe_int (pa_cons pe_int (pa_cons (pv 1) (pa_cons (pv 2) pa_nil)))))) pa_nil))) (pg_sub (pv 3) (pe_cx (c_law_pull T) hr pass0 (pa_cons (pv 0) (pa_cons pe_int pa_nil))) set_list))
      (pss_one (ps_ret (pv 3))))), ?_⟩
  walk_at "go"
  refine ⟨4, rfl, by decide, by decide, fun D hD => ?_⟩
  have nD := jug_ne hj hD
  refine lc_range (fun i H' => Kp [j] H H' ∧ JugAt H' j (n + 20 - 2 * i) ∧ ∃ zs : List Int, H' D = some (.lst (zs.map V.int)) ∧ zs.length = i ∧ ∀ z ∈ zs, lo ≤ z ∧ z ≤ hi) ⟨Kp.of (same_new hD), hj.mono (same_new hD), [], upd_same, rfl, fun z hz => (List.not_mem_nil hz).elim⟩ (fun i H' hi' h => ?_) (fun H' h => ?_)
  · obtain ⟨k, hj', zs, hz, zl, zb⟩ := h
    have add : ∀ (v : Int) (H2 : Hp) (m : Nat), lo ≤ v → v ≤ hi → Kp [j] H' H2 → JugAt H2 j m → n + 20 - 2 * (i + 1) ≤ m → ∃ acc, H2 D = some (.lst acc) ∧ acc.length < sizeLine ∧ (Kp [j] H (upd H2 D (.lst (acc ++ [.int v]))) ∧ JugAt (upd H2 D (.lst (acc ++ [.int v]))) j (n + 20 - 2 * (i + 1)) ∧ ∃ zs : List Int, (upd H2 D (.lst (acc ++ [.int v]))) D = some (.lst (zs.map V.int)) ∧ zs.length = i + 1 ∧ ∀ z ∈ zs, lo ≤ z ∧ z ≤ hi) := fun v H2 m v0 v1 k2 hj2 hm => by
      have hz2 := k2 _ _ (fun y => nD (List.mem_singleton.mp y)) hz
      refine ⟨_, hz2, Nat.lt_of_le_of_lt (by rw [List.length_map]; omega : _ ≤ 100) (by decide), fun a o na e => ?_, ?_, zs ++ [v], ?_, ?_, fun z hz' => ?_⟩
      · rw [upd_ne (ne_of_none e hD)]
        exact k2 _ _ na (k _ _ na e)
      · obtain ⟨a, b, c, g1, g2⟩ := hj2.less hm
        exact ⟨a, b, c, (upd_ne nD.symm).trans g1, g2⟩
      · rw [upd_same, List.map_append]
        rfl
      · rw [List.length_append, zl]
        rfl
      · rcases List.mem_append.mp hz' with y | y
        · exact zb z y
        · rw [List.mem_singleton.mp y]
          exact ⟨v0, v1⟩
    walk_at "go"
    refine ⟨rfl, ?_⟩
    walk_at "go"
    refine iteT ?_
    walk_at "go"
    refine ⟨_, _, rfl, j, n + 20 - 2 * i - 1, 2, rfl, rfl, hj'.less (by omega), by decide, by decide, fun v H2 v0 v1 k2 hj2 => ?_⟩
    walk_at "go"
    refine ifd (fun hv => ?_) (fun hv => ?_)
    · walk_at "go"
      refine ⟨_, _, rfl, j, n + 20 - 2 * i - 2, hi - lo + 1, rfl, rfl, hj2.less (by omega), by omega, by omega, fun u H3 u0 u1 k3 hj3 => ?_⟩
      walk_at "go"
      exact add _ H3 _ (by omega) (by omega) (Kp.trans k2 k3) hj3 (by omega)
    · walk_at "go"
      exact add _ H2 _ l1 (by omega) k2 hj2 (by omega)
  · obtain ⟨k, hj', zs, hz, zl, zb⟩ := h
    walk_at "go"
    refine mkT fun ol hol => ?_
    have ko := same_new (o := .lst [.int 1, .int 1, .int 0, .int lo, .int hi]) hol
    have nol := jug_ne hj' hol
    refine ⟨_, _, rfl, j, ol, n + 1, _, rfl, rfl, (hj'.mono ko).less (by omega), SqL.of upd_same, nol, upd_same, Nat.succ_pos _, (by show (5 : Nat) ≤ 1000; decide), fun v H2 hv k2 hj2 => ?_⟩
    obtain ⟨u, rfl, u0, u1⟩ : ∃ u : Int, v = .int u ∧ lo ≤ u ∧ u ≤ hi := by
      simp only [List.mem_cons, List.not_mem_nil, or_false] at hv
      rcases hv with rfl | rfl | rfl | rfl | rfl
      · exact ⟨_, rfl, by omega, by omega⟩
      · exact ⟨_, rfl, by omega, by omega⟩
      · exact ⟨_, rfl, by omega, by omega⟩
      · exact ⟨_, rfl, by omega, by omega⟩
      · exact ⟨_, rfl, by omega, by omega⟩
    have hz2 := k2 _ _ (fun y => nD (List.mem_singleton.mp y)) (ko _ _ hz)
    walk_at "go"
    refine ⟨_, _, rfl, j, n, 4, rfl, rfl, hj2, by decide, by decide, fun t H3 t0 t1 k3 hj3 => ?_⟩
    have hz3 := k3 _ _ (fun y => nD (List.mem_singleton.mp y)) hz2
    obtain ⟨t, rfl⟩ := Int.eq_ofNat_of_zero_le t0
    refine ⟨D, _, _, t, rfl, rfl, hz3, ?_, ?_⟩
    · unfold ixN
      rw [if_pos (by omega), List.length_map, zl, if_pos (by omega), Int.toNat_natCast]
    walk_at "go"
    obtain ⟨e, he⟩ := row_of (l := zs.set t u) (by rw [List.length_set, zl]; rfl)
    refine q _ D e (fun z hz' => ?_) (fun a o na e2 => ?_) ?_ ?_ nD hD
    · rw [he] at hz'
      rcases List.mem_or_eq_of_mem_set hz' with y | y
      · exact zb z y
      · rw [y]
        exact ⟨u0, u1⟩
    · rw [upd_ne (ne_of_none e2 hD)]
      exact k3 _ _ na (k2 _ _ na (ko _ _ (k _ _ na e2)))
    · obtain ⟨a, b, c, g1, g2⟩ := hj3
      exact ⟨a, b, c, (upd_ne nD.symm).trans g1, g2⟩
    · show upd _ _ _ _ = _
      rw [upd_same, he, List.map_set]
end
end PP
-- text LE
namespace PP
open PySem PySem.Spec PyProof.Rows L2 LamX TL
section
variable {P : Program} {w : World} {K : PySem.W.Frag} {mg : Str → Option Value} {base : Heap}
theorem sm_le {a b c d a' b' c' d' : Nat} (h1 : a ≤ a') (h2 : b ≤ b') (h3 : c ≤ c') (h4 : d ≤ d') : sm a b c d ≤ sm a' b' c' d' :=
  Nat.mul_le_mul (Nat.mul_le_mul (Nat.mul_le_mul (Nat.pow_le_pow_right (by decide) h1) (Nat.pow_le_pow_right (by decide) h2)) (Nat.pow_le_pow_right (by decide) h3)) (Nat.pow_le_pow_right (by decide) h4)
theorem ok_box {e : E4} (h1 : e.a.natAbs ≤ 18) (h2 : e.b.natAbs ≤ 12) (h3 : e.c.natAbs ≤ 12) (h4 : e.d.natAbs ≤ 12) : Ok30 e := by
  have hb : sm 18 12 12 12 ≤ 10 ^ 30 := by decide
  exact ⟨Nat.le_trans (sm_le (by omega) (by omega) (by omega) (by omega)) hb, Nat.le_trans (sm_le (by omega) (by omega) (by omega) (by omega)) hb⟩
theorem In4.abs {B : Nat} {e : E4} (h : In4 (-(B : Int)) B e) : Sm B e := by
  have q : ∀ {z : Int}, z ∈ e.row → z.natAbs ≤ B := fun {z} hz => by
    have := h z hz
    omega
  exact ⟨q (by simp [E4.row]), q (by simp [E4.row]), q (by simp [E4.row]), q (by simp [E4.row])⟩
def PlanAt (j : Addr) (H : Hp) (p : Addr) (s : Int) (e : E4) : Prop := ∃ l, H p = some (.tup [.int s, .ref l]) ∧ RowIs H l e ∧ l ≠ j
theorem mul_row {e : E4} {k : Int} : e.row.map (fun z => k * z) = (e.mul k).row := by
  simp only [E4.row, E4.mul, List.map_cons, List.map_nil, Int.mul_comm]
theorem ks_row {l : List Int} : (l.map fun z => some (V.int z)).filterMap id = l.map V.int := by
  rw [List.filterMap_map]
  exact List.filterMap_eq_map (f := V.int) ▸ rfl
/-- [k * z for z in row] -/
theorem lc_mul {l : Addr} {e : E4} {k : Int} {g : TG} {tt : TT} {te : TE} {vs : List Nat} {σ : L2.St} {D : Addr} {H1 : Hp} {Qd : Hp → Prop} (hl : RowIs H1 l e) (hD : H1 D = none)
    (hs : ∀ (z : Int) (H : Hp), z ∈ e.row → Same H1 H → ∀ R : Option V → Hp → Prop, (∀ H'', Same H H'' → R (some (.int (k * z))) H'') →
      g (.int z) (wipe σ vs) H fun σ2 H2 => wipe σ2 vs = wipe σ vs ∧ tt σ2 H2 fun b H3 => if b = true then te σ2 H3 fun y H4 => R (some y) H4 else R none H3)
    (hd : ∀ H, Same H1 H → RowIs H D (e.mul k) → Qd H) : LcGo (Itl K l) g tt te vs σ D H1 Qd :=
  lc_goL ((e.mul k).row.map fun z => some (.int z)) (SqL.of hl) rfl hD (by show (4 : Nat) ≤ 100000; decide) (fun i x o H3 hx hk k3 Rr hRr => by
    rw [← mul_row, List.map_map, List.getElem?_map] at hk
    rw [List.getElem?_map] at hx
    cases ez : e.row[i]? with
    | none => rw [ez] at hx; cases hx
    | some z =>
      rw [ez] at hx hk
      cases hx
      cases hk
      exact hs z H3 (List.mem_of_getElem? ez) k3 Rr hRr) (fun H3 k3 hD3 => hd H3 k3 (by rw [ks_row] at hD3; exact hD3))
def sp_law_plan : Sp := sp1 fun x H Q _ => ∃ (j : Addr) (n : Nat), x = .ref j ∧ JugAt H j (n + 40) ∧ ∀ H' p s e, (s = 1 ∨ s = -1) → Ok30 e → Sm 20 e → Kp [j] H H' → JugAt H' j n → PlanAt j H' p s e → Q (.ref p) H'
theorem c_law_plan (T : Tx K mg) : CalX P w K mg base CX0 4 "_law_plan" sp_law_plan [] := by
  refine cal0_of (F_law_plan T) (g_law_plan T) bd_law_plan sc_law_plan len1 (fun cdv A outer s H vs Q E hr h => ?_)
  obtain ⟨_, rfl, j, n, rfl, hj, q⟩ := h
  refine ⟨_, (pss_cons (ps_par (i := 1) (j := 2) (by rfl) sc_law_plan.nd rfl rfl (by decide) rfl rfl (pa_cons (pe_cx (c_law_pull T) hr pass0 (pa_cons (pv 0) (pa_cons pe_int pa_nil))) (pa_cons (pe_cx (c_law_one_of T) hr pass0 (pa_cons (pv 0) (pa_cons (pe_lst (pa_cons pe_int (pa_cons pe_int (pa_cons (pe_un un_neg pe_int) pa_nil)))) pa_nil))) pa_nil)) (by rfl))
      (pss_cons (ps_if (pt_cmpR op_eq (pv 1) pe_int (nomark _)) (pss_one (ps_ret (pe_tup (pa_cons (pv 2) (pa_cons (pe_lst (pa_cons pe_int (pa_cons pe_int (pa_cons pe_int (pa_cons pe_int pa_nil))))) pa_nil))))) pss_nil)
      (pss_cons (ps_if (pt_cmpR op_lt (pv 1) pe_int (nomark _)) (pss_cons (ps_set (i := 3) sc_law_plan.nd rfl (Or.inr rfl) (pe_cx (c_law_one_of T) hr pass0 (pa_cons (pv 0) (pa_cons (pe_lst (pa_cons pe_int (pa_cons pe_int (pa_cons pe_int (pa_cons pe_int (pa_cons pe_int (pa_cons pe_int (pa_cons pe_int (pa_cons pe_int (pa_cons pe_int (pa_cons pe_int pa_nil))))))))))) pa_nil))))
      (pss_one (ps_ret (pe_tup (pa_cons (pv 2) (pa_cons (pe_lc (own := [("_law_each", 5)]) rfl sc_law_plan.nd (pi_list (pe_cx (c_law_small T) hr pass0 (pa_cons (pv 0) (pa_cons (pe_un un_neg pe_int) (pa_cons pe_int pa_nil))))) (blkOk_by (own := [("_law_each", 5)]) (N := N_law_plan) (sc := defScope s_law_plan) (by decide +kernel)) (fun _ _ _ _ _ => (pg_name (i := 5) sc_law_plan.nd rfl (Or.inl rfl))) (fun _ _ _ _ _ => pts_nil) (fun _ _ _ _ _ => (pe_op op_mulW (pv 3) (pv 5)))) pa_nil)))))) pss_nil)
      (pss_cons (ps_if (pt_cmpR op_eq (pv 1) pe_int (nomark _)) (pss_cons (ps_set (i := 3) sc_law_plan.nd rfl (Or.inr rfl) (pe_cx (c_law_one_of T) hr pass0 (pa_cons (pv 0) (pa_cons (pe_lst (pa_cons pe_int (pa_cons pe_int (pa_cons pe_int pa_nil)))) pa_nil))))
      (pss_cons (ps_setLc (i := 4) (own := [("_law_each", 5)]) rfl sc_law_plan.nd rfl rfl (sw_true rfl rfl rfl (by decide +kernel)) (pi_list (pe_cx (c_law_small T) hr pass0 (pa_cons (pv 0) (pa_cons (pe_un un_neg pe_int) (pa_cons pe_int pa_nil))))) (blkOk_by (own := [("_law_each", 5)]) (N := N_law_plan) (sc := defScope s_law_plan) (by decide +kernel)) (fun _ _ _ _ _ => (pg_name (i := 5) sc_law_plan.nd rfl (Or.inl rfl))) (fun _ _ _ _ _ => pts_nil) (fun _ _ _ _ _ => (pe_op op_mulW (pv 3) (pv 5))))
      (pss_one (ps_ret (pe_tup (pa_cons (pe_un un_neg pe_int) (pa_cons (pe_op op_cat (pe_lst (pa_cons (pe_op op_add (pe_ix ix_list (pv 4) pe_int (fun _ _ => rfl)) (pe_ifExp (pt_cmpR op_eq (pv 3) pe_int (nomark _)) pe_int pe_int)) pa_nil)) (pe_slice sl_list (pv 4) (po_some pe_int) po_none)) pa_nil))))))) pss_nil)
      (pss_one (ps_ret (pe_tup (pa_cons (pv 2) (pa_cons (pe_cx (c_law_small T) hr pass0 (pa_cons (pv 0) (pa_cons (pe_un un_neg pe_int) (pa_cons pe_int pa_nil)))) pa_nil))))))))), ?_⟩
  walk_at "go"
  refine ⟨_, _, rfl, j, n + 39, 7, rfl, rfl, hj, by decide, by decide, fun way H1 w0 w1 k1 hj1 => ?_⟩
  walk_at "go"
  refine mkT fun ol hol => ?_
  have ko := same_new (o := .lst [.int 1, .int 1, .int (-1)]) hol
  have nol := jug_ne hj1 hol
  refine ⟨_, _, rfl, j, ol, n + 38, _, rfl, rfl, hj1.mono ko, SqL.of upd_same, nol, upd_same, by decide, by decide, fun v H2 hv k2 hj2 => ?_⟩
  obtain ⟨sg, rfl, hs⟩ : ∃ sg : Int, v = .int sg ∧ (sg = 1 ∨ sg = -1) := by
    simp only [List.mem_cons, List.not_mem_nil, or_false] at hv
    rcases hv with rfl | rfl | rfl
    · exact ⟨1, rfl, .inl rfl⟩
    · exact ⟨1, rfl, .inl rfl⟩
    · exact ⟨-1, rfl, .inr rfl⟩
  have kk : Kp [j] H H2 := Kp.trans k1 (Kp.trans (Kp.of ko) k2)
  have fin : ∀ (p l : Addr) (s : Int) (e : E4) (H' : Hp) (m : Nat), (s = 1 ∨ s = -1) → Ok30 e → Sm 20 e → Kp [j] H2 H' → JugAt H' j m → n ≤ m → RowIs H' l e → l ≠ j → H' p = none → Q (.ref p) (upd H' p (.tup [.int s, .ref l])) := fun p l s e H' m h1 h2 h3 k hj' hm hl hne hp => by
    have kp := same_new (o := .tup [.int s, .ref l]) hp
    exact q _ p s e h1 h2 h3 (Kp.trans kk (Kp.trans k (Kp.of kp))) ((hj'.less hm).mono kp) ⟨l, upd_same, kp _ _ hl, hne⟩
  walk_at "go"
  refine ifd (fun h0 => ?_) (fun h0 => ?_)
  · walk_at "go"
    refine mkT fun l hl => ?_
    walk_at "go"
    refine mkT fun p hp => ?_
    have kl := same_new (o := .lst [.int 0, .int 0, .int 0, .int 0]) hl
    exact fin p l sg E4.zero _ _ hs ⟨by decide, by decide⟩ ⟨by decide, by decide, by decide, by decide⟩ (Kp.of kl) (hj2.mono kl) (by omega) upd_same (jug_ne hj2 hl) hp
  walk_at "go"
  refine ifd (fun h4 => ?_) (fun h4 => ?_)
  · walk_at "go"
    refine mkT fun al hal => ?_
    have ka := same_new (o := .lst [.int 2, .int 2, .int 3, .int 4, .int 5, .int 6, .int 8, .int 9, .int 10, .int 12]) hal
    refine ⟨_, _, rfl, j, al, n + 37, _, rfl, rfl, (hj2.mono ka).less (by omega), SqL.of upd_same, jug_ne hj2 hal, upd_same, by decide, by decide, fun v H3 hv3 k3 hj3 => ?_⟩
    obtain ⟨m, rfl, hm⟩ : ∃ m : Int, v = .int m ∧ 2 ≤ m ∧ m ≤ 12 := by
      simp only [List.mem_cons, List.not_mem_nil, or_false] at hv3
      rcases hv3 with rfl | rfl | rfl | rfl | rfl | rfl | rfl | rfl | rfl | rfl
      · exact ⟨_, rfl, by decide, by decide⟩
      · exact ⟨_, rfl, by decide, by decide⟩
      · exact ⟨_, rfl, by decide, by decide⟩
      · exact ⟨_, rfl, by decide, by decide⟩
      · exact ⟨_, rfl, by decide, by decide⟩
      · exact ⟨_, rfl, by decide, by decide⟩
      · exact ⟨_, rfl, by decide, by decide⟩
      · exact ⟨_, rfl, by decide, by decide⟩
      · exact ⟨_, rfl, by decide, by decide⟩
      · exact ⟨_, rfl, by decide, by decide⟩
    have k03 : Kp [j] H2 H3 := Kp.trans (Kp.of ka) k3
    walk_at "go"
    refine ⟨_, _, _, rfl, j, n, -1, 1, rfl, rfl, rfl, hj3.less (by omega), by decide, by decide, by decide, by decide, fun H4 l e hin k4 hj4 hl hne hln => ?_⟩
    have hsm : Sm 1 e := In4.abs hin
    obtain ⟨s1, s2, s3, s4⟩ := id hsm
    refine ⟨l, rfl, ⟨_, SqL.of hl⟩, fun D hD => lc_mul (k := m) hl hD (fun z H5 hz k5 R hR => ?_) (fun H5 k5 hD5 => ?_)⟩
    · have zb := hsm.row z hz
      walk_at "go"
      refine ⟨rfl, ?_⟩
      walk_at "go"
      refine iteT ?_
      walk_at "go"
      refine g_I (wide_mul (a := 10) (b := 10) (by omega) (by omega) (by decide) (by decide) (by decide)) ?_
      exact hR H5 (Same.refl H5)
    have nD := jug_ne hj4 hD
    have hj5 := hj4.mono k5
    have k25 : Kp [j] H2 H5 := Kp.trans k03 (Kp.trans k4 (Kp.of k5))
    walk_at "go"
    refine mkT fun p hp => ?_
    have mb : ∀ {z : Int}, z.natAbs ≤ 1 → (z * m).natAbs ≤ 12 := fun {z} hz => by
      rw [Int.natAbs_mul]
      exact Nat.le_trans (Nat.mul_le_mul hz (by omega : m.natAbs ≤ 12)) (by decide)
    exact fin p D sg (e.mul m) H5 n hs (ok_box (Nat.le_trans (mb s1) (by decide)) (mb s2) (mb s3) (mb s4)) ⟨Nat.le_trans (mb s1) (by decide), Nat.le_trans (mb s2) (by decide), Nat.le_trans (mb s3) (by decide), Nat.le_trans (mb s4) (by decide)⟩ k25 hj5 (Nat.le_refl _) hD5 nD hp
  walk_at "go"
  refine ifd (fun h5 => ?_) (fun h5 => ?_)
  · walk_at "go"
    refine mkT fun al hal => ?_
    have ka := same_new (o := .lst [.int 4, .int 4, .int 12]) hal
    refine ⟨_, _, rfl, j, al, n + 37, _, rfl, rfl, (hj2.mono ka).less (by omega), SqL.of upd_same, jug_ne hj2 hal, upd_same, by decide, by decide, fun v H3 hv3 k3 hj3 => ?_⟩
    obtain ⟨m, rfl, hm⟩ : ∃ m : Int, v = .int m ∧ (m = 4 ∨ m = 12) := by
      simp only [List.mem_cons, List.not_mem_nil, or_false] at hv3
      rcases hv3 with rfl | rfl | rfl
      · exact ⟨_, rfl, .inl rfl⟩
      · exact ⟨_, rfl, .inl rfl⟩
      · exact ⟨_, rfl, .inr rfl⟩
    have k03 : Kp [j] H2 H3 := Kp.trans (Kp.of ka) k3
    walk_at "go"
    refine ⟨_, _, _, rfl, j, n, -1, 1, rfl, rfl, rfl, hj3.less (by omega), by decide, by decide, by decide, by decide, fun H4 l e hin k4 hj4 hl hne hln => ?_⟩
    have hsm : Sm 1 e := In4.abs hin
    obtain ⟨s1, s2, s3, s4⟩ := id hsm
    refine ⟨l, rfl, ⟨_, SqL.of hl⟩, fun D hD => lc_mul (k := m) hl hD (fun z H5 hz k5 R hR => ?_) (fun H5 k5 hD5 => ?_)⟩
    · have zb := hsm.row z hz
      walk_at "go"
      refine ⟨rfl, ?_⟩
      walk_at "go"
      refine iteT ?_
      walk_at "go"
      refine g_I (wide_mul (a := 10) (b := 10) (by omega) (by omega) (by decide) (by decide) (by decide)) ?_
      exact hR H5 (Same.refl H5)
    have nD := jug_ne hj4 hD
    have hj5 := hj4.mono k5
    have k25 : Kp [j] H2 H5 := Kp.trans k03 (Kp.trans k4 (Kp.of k5))
    walk_at "go"
    refine g_ixL (SqL.of hD5) at0 ?_
    walk_at "go"
    have mb : ∀ {z : Int}, z.natAbs ≤ 1 → (z * m).natAbs ≤ 12 := fun {z} hz => by
      rw [Int.natAbs_mul]
      exact Nat.le_trans (Nat.mul_le_mul hz (by omega : m.natAbs ≤ 12)) (by decide)
    rcases hm with rfl | rfl
    · refine ifT rfl ?_
      walk_at "go"
      refine mkT fun q1 hq1 => ?_
      have kq1 := same_new (o := .lst [.int ((e.mul 4).a + 2)]) hq1
      walk_at "go"
      refine ⟨D, _, rfl, SqL.of (kq1 _ _ hD5), fun q2 hq2 => ?_⟩
      rw [show cutV ((e.mul 4).row.map V.int) (some 1) none = [.int (e.mul 4).b, .int (e.mul 4).c, .int (e.mul 4).d] from cut_tail]
      have kq2 := same_new (o := .lst [.int (e.mul 4).b, .int (e.mul 4).c, .int (e.mul 4).d]) hq2
      refine ⟨q1, q2, _, _, rfl, rfl, kq2 _ _ upd_same, upd_same, (by show (4 : Nat) ≤ sizeLine; decide), fun q3 hq3 => ?_⟩
      have kq3 := same_new (o := .lst ([.int ((e.mul 4).a + 2)] ++ [.int (e.mul 4).b, .int (e.mul 4).c, .int (e.mul 4).d])) hq3
      have k123 := Same.trans kq1 (Same.trans kq2 kq3)
      walk_at "go"
      refine mkT fun p hp => ?_
      have nq3 : q3 ≠ j := jug_ne (hj5.mono (Same.trans kq1 kq2)) hq3
      have ma := mb s1
      exact fin p q3 (-1) ⟨(e.mul 4).a + 2, (e.mul 4).b, (e.mul 4).c, (e.mul 4).d⟩ _ n (.inr rfl) (ok_box (by show ((e.mul 4).a + 2).natAbs ≤ 18; have : (e.mul 4).a.natAbs ≤ 12 := ma; omega) (mb s2) (mb s3) (mb s4)) ⟨(by show ((e.mul 4).a + 2).natAbs ≤ 20; have : (e.mul 4).a.natAbs ≤ 12 := ma; omega), Nat.le_trans (mb s2) (by decide), Nat.le_trans (mb s3) (by decide), Nat.le_trans (mb s4) (by decide)⟩ (Kp.trans k25 (Kp.of k123)) (hj5.mono k123) (Nat.le_refl _) upd_same nq3 hp
    · refine ifF (by decide) ?_
      walk_at "go"
      refine mkT fun q1 hq1 => ?_
      have kq1 := same_new (o := .lst [.int ((e.mul 12).a + 6)]) hq1
      walk_at "go"
      refine ⟨D, _, rfl, SqL.of (kq1 _ _ hD5), fun q2 hq2 => ?_⟩
      rw [show cutV ((e.mul 12).row.map V.int) (some 1) none = [.int (e.mul 12).b, .int (e.mul 12).c, .int (e.mul 12).d] from cut_tail]
      have kq2 := same_new (o := .lst [.int (e.mul 12).b, .int (e.mul 12).c, .int (e.mul 12).d]) hq2
      refine ⟨q1, q2, _, _, rfl, rfl, kq2 _ _ upd_same, upd_same, (by show (4 : Nat) ≤ sizeLine; decide), fun q3 hq3 => ?_⟩
      have kq3 := same_new (o := .lst ([.int ((e.mul 12).a + 6)] ++ [.int (e.mul 12).b, .int (e.mul 12).c, .int (e.mul 12).d])) hq3
      have k123 := Same.trans kq1 (Same.trans kq2 kq3)
      walk_at "go"
      refine mkT fun p hp => ?_
      have nq3 : q3 ≠ j := jug_ne (hj5.mono (Same.trans kq1 kq2)) hq3
      have ma := mb s1
      exact fin p q3 (-1) ⟨(e.mul 12).a + 6, (e.mul 12).b, (e.mul 12).c, (e.mul 12).d⟩ _ n (.inr rfl) (ok_box (by show ((e.mul 12).a + 6).natAbs ≤ 18; have : (e.mul 12).a.natAbs ≤ 12 := ma; omega) (mb s2) (mb s3) (mb s4)) ⟨(by show ((e.mul 12).a + 6).natAbs ≤ 20; have : (e.mul 12).a.natAbs ≤ 12 := ma; omega), Nat.le_trans (mb s2) (by decide), Nat.le_trans (mb s3) (by decide), Nat.le_trans (mb s4) (by decide)⟩ (Kp.trans k25 (Kp.of k123)) (hj5.mono k123) (Nat.le_refl _) upd_same nq3 hp
  · walk_at "go"
    refine ⟨_, _, _, rfl, j, n, -5, 5, rfl, rfl, rfl, hj2.less (by omega), by decide, by decide, by decide, by decide, fun H3 l e hin k3 hj3 hl hne hln => ?_⟩
    walk_at "go"
    refine mkT fun p hp => ?_
    have hsm : Sm 5 e := In4.abs hin
    obtain ⟨s1, s2, s3, s4⟩ := id hsm
    exact fin p l sg e H3 n hs (ok_box (by omega) (by omega) (by omega) (by omega)) (hsm.le (by decide)) k3 hj3 (Nat.le_refl _) hl hne hp
end
end PP
-- text LF
namespace PP
open PySem PySem.Spec PyProof.Rows L2 LamX TL
section
variable {P : Program} {w : World} {K : PySem.W.Frag} {mg : Str → Option Value} {base : Heap}
/-! halving -/
def hv (n : Nat) : Nat := if n % 2 = 0 then n / 2 else n
def hvs : Nat → Nat → Nat
  | 0, n => n
  | i + 1, n => hv (hvs i n)
theorem hvs_ok : ∀ {i n : Nat}, 0 < n → 0 < hvs i n ∧ oddp (hvs i n) = oddp n ∧ (hvs i n % 2 = 1 ∨ hvs i n * 2 ^ i ≤ n)
  | 0, n, h => ⟨h, rfl, .inr (by simp [hvs])⟩
  | i + 1, n, h => by
    obtain ⟨h1, h2, h3⟩ := hvs_ok (i := i) h
    unfold hvs hv
    by_cases he : hvs i n % 2 = 0
    · rw [if_pos he]
      refine ⟨by omega, by rw [← oddp_even he (by omega), h2], .inr ?_⟩
      rcases h3 with z | z
      · omega
      · have e1 : 2 * (hvs i n / 2) = hvs i n := by omega
        rw [Nat.pow_succ, Nat.mul_comm (2 ^ i) 2, ← Nat.mul_assoc, Nat.mul_comm _ 2, e1]
        exact z
    · rw [if_neg he]
      exact ⟨h1, h2, .inl (by omega)⟩
theorem hvs_end {i n : Nat} (h : 0 < n) (hn : n < 2 ^ i) : hvs i n = oddp n := by
  obtain ⟨h1, h2, h3⟩ := hvs_ok (i := i) h
  rw [← h2]
  rcases h3 with z | z
  · rw [oddp_odd (by omega)]
  · have : 1 * 2 ^ i ≤ hvs i n * 2 ^ i := Nat.mul_le_mul_right _ h1
    omega
/-- a plan, read -/
def PlanR (H : Hp) (p : Addr) (s : Int) (e : E4) : Prop := ∃ l, H p = some (.tup [.int s, .ref l]) ∧ RowIs H l e
theorem PlanR.mono {H H' : Hp} {p : Addr} {s : Int} {e : E4} (h : PlanR H p s e) (k : Same H H') : PlanR H' p s e := by
  obtain ⟨l, h1, h2⟩ := h
  exact ⟨l, k _ _ h1, k _ _ h2⟩
theorem sub2_row {e : E4} : e.sub2.row = [e.a - 2, e.b, e.c, e.d] := rfl
theorem four_iff {e : E4} : e.Four ↔ ∀ z ∈ e.sub2.row, z % 4 = 0 := by
  unfold E4.Four
  rw [E4.dvd_g]
  constructor
  · rintro ⟨h1, h2, h3, h4⟩ z hz
    simp only [E4.row, List.mem_cons, List.not_mem_nil, or_false] at hz
    rcases hz with rfl | rfl | rfl | rfl
    · exact Int.emod_eq_zero_of_dvd h1
    · exact Int.emod_eq_zero_of_dvd h2
    · exact Int.emod_eq_zero_of_dvd h3
    · exact Int.emod_eq_zero_of_dvd h4
  · intro h
    exact ⟨Int.dvd_of_emod_eq_zero (h _ (by simp [E4.row])), Int.dvd_of_emod_eq_zero (h _ (by simp [E4.row])), Int.dvd_of_emod_eq_zero (h _ (by simp [E4.row])), Int.dvd_of_emod_eq_zero (h _ (by simp [E4.row]))⟩
def sp_law_is_four : Sp := sp1 fun x H Q _ => ∃ (p : Addr) (s : Int) (e : E4), x = .ref p ∧ (s = 1 ∨ s = -1) ∧ PlanR H p s e ∧ ∀ H', Same H H' → Q (.bl (decide (s ≠ 1 ∧ e.Four))) H'
theorem c_law_is_four (T : Tx K mg) : CalX P w K mg base CX0 1 "_law_is_four" sp_law_is_four [] := by
  refine cal0_of (F_law_is_four T) (g_law_is_four T) bd_law_is_four sc_law_is_four len1 (fun cdv A outer s H vs Q E hr h => ?_)
  obtain ⟨_, rfl, p, sg, e, rfl, hs, ⟨l, hp, hl⟩, q⟩ := h
  refine ⟨_, (pss_cons (ps_set (i := 1) sc_law_is_four.nd rfl (Or.inl rfl) (pe_op op_cat (pe_lst (pa_cons (pe_op op_sub (pe_ix ix_list (pe_ix ix_tup (pv 0) pe_int (fun _ _ => rfl)) pe_int (fun _ _ => rfl)) pe_int) pa_nil)) (pe_slice sl_list (pe_ix ix_tup (pv 0) pe_int (fun _ _ => rfl)) (po_some pe_int) po_none)))
      (pss_one (ps_ret (pe_and (pe_cmpR op_lt (pe_ix ix_tup (pv 0) pe_int (fun _ _ => rfl)) pe_int (nomark _)) (pe_one (pe_cmpR (op_eqE hr.units) (pe_lc (own := [("_law_each", 2)]) rfl sc_law_is_four.nd (pi_list (pv 1)) (blkOk_by (own := [("_law_each", 2)]) (N := N_law_is_four) (sc := defScope s_law_is_four) (by decide +kernel)) (fun _ _ _ _ _ => (pg_name (i := 2) sc_law_is_four.nd rfl (Or.inl rfl))) (fun _ _ _ _ _ => (pts_one (pt_cmpR op_ne (pe_op op_mod (pe_callTy call_int1 (by rfl) (b_int T) (by decide +kernel) (pa_cons (pv 2) pa_nil)) pe_int) pe_int (nomark _)))) (fun _ _ _ _ _ => (pv 2))) (pe_lst pa_nil) (nomark _))))))), ?_⟩
  walk_at "go"
  refine g_ixT (SqT.of hp) at1 ?_
  walk_at "go"
  refine g_ixL (SqL.of hl) at0 ?_
  walk_at "go"
  refine mkT fun q1 hq1 => ?_
  have kq1 := same_new (o := .lst [.int (e.a - 2)]) hq1
  walk_at "go"
  refine g_ixT (SqT.of (kq1 _ _ hp)) at1 ?_
  walk_at "go"
  refine ⟨l, _, rfl, SqL.of (kq1 _ _ hl), fun q2 hq2 => ?_⟩
  rw [show cutV (e.row.map V.int) (some 1) none = [.int e.b, .int e.c, .int e.d] from cut_tail]
  have kq2 := same_new (o := .lst [.int e.b, .int e.c, .int e.d]) hq2
  refine ⟨q1, q2, _, _, rfl, rfl, kq2 _ _ upd_same, upd_same, (by show (4 : Nat) ≤ sizeLine; decide), fun q3 hq3 => ?_⟩
  have kq3 := same_new (o := .lst ([.int (e.a - 2)] ++ [.int e.b, .int e.c, .int e.d])) hq3
  have kk := Same.trans kq1 (Same.trans kq2 kq3)
  have hrow : RowIs (upd (upd (upd H q1 (.lst [.int (e.a - 2)])) q2 (.lst [.int e.b, .int e.c, .int e.d])) q3 (.lst ([.int (e.a - 2)] ++ [.int e.b, .int e.c, .int e.d]))) q3 e.sub2 := upd_same
  generalize (upd (upd (upd H q1 (.lst [.int (e.a - 2)])) q2 (.lst [.int e.b, .int e.c, .int e.d])) q3 (.lst ([.int (e.a - 2)] ++ [.int e.b, .int e.c, .int e.d]))) = H1 at *
  walk_at "go"
  refine g_ixT (SqT.of (kk _ _ hp)) at0 ?_
  walk_at "go"
  rcases hs with rfl | rfl
  · refine ifF (by decide) ?_
    have := q H1 kk
    rw [decide_eq_false (fun z => z.1 rfl)] at this
    exact this
  · refine ifT (by decide) ?_
    walk_at "go"
    refine ⟨q3, rfl, ⟨_, SqL.of hrow⟩, fun D hD => lc_goL (e.sub2.row.map fun z => if z % 4 = 0 then none else some (.int z)) (SqL.of hrow) rfl hD (by show (4 : Nat) ≤ 100000; decide) (fun i x o H3 hx hk k3 Rr hRr => ?_) (fun H3 k3 hD3 => ?_)⟩
    · rw [List.getElem?_map] at hx hk
      cases ez : e.sub2.row[i]? with
      | none => rw [ez] at hx; cases hx
      | some z =>
        rw [ez] at hx hk
        cases hx
        cases hk
        have hRr' : ∀ H'', Same H3 H'' → Rr (if z % 4 = 0 then none else some (.int z)) H'' := hRr
        walk_at "go"
        refine ⟨rfl, ?_⟩
        walk_at "go"
        refine .inl ⟨_, rfl, ?_⟩
        walk_at "go"
        refine g_I (by decide) ?_
        walk_at "go"
        refine ifn (fun hz => ?_) (fun hz => ?_)
        · walk_at "go"
          rw [if_neg hz] at hRr'
          exact hRr' H3 (Same.refl H3)
        · rw [if_pos hz] at hRr'
          exact hRr' H3 (Same.refl H3)
    · walk_at "go"
      refine mkT fun e0 he0 => ?_
      have k0 := same_new (o := .lst []) he0
      refine ⟨D, e0, _, rfl, rfl, .inr ⟨SqL.of (k0 _ _ hD3), SqL.of upd_same⟩, ?_⟩
      have := q _ (Same.trans kk (Same.trans k3 k0))
      have e1 : ((e.sub2.row.map fun z => if z % 4 = 0 then none else some (V.int z)).filterMap id).isEmpty = decide ((-1 : Int) ≠ 1 ∧ e.Four) := by
        by_cases hf : e.Four
        · rw [decide_eq_true ⟨by decide, hf⟩, List.isEmpty_iff, List.filterMap_eq_nil_iff]
          intro o ho
          obtain ⟨z, hz, rfl⟩ := List.mem_map.mp ho
          show (if z % 4 = 0 then none else some (V.int z)) = none
          rw [if_pos (four_iff.mp hf z hz)]
        · rw [decide_eq_false (fun z => hf z.2)]
          cases h : ((e.sub2.row.map fun z => if z % 4 = 0 then none else some (V.int z)).filterMap id).isEmpty with
          | false => rfl
          | true =>
            rw [List.isEmpty_iff, List.filterMap_eq_nil_iff] at h
            refine absurd (four_iff.mpr fun z hz => ?_) hf
            have this : (if z % 4 = 0 then none else some (V.int z)) = none := h _ (List.mem_map_of_mem hz)
            by_cases z4 : z % 4 = 0
            · exact z4
            · rw [if_neg z4] at this
              cases this
      rw [← e1] at this
      exact this
theorem g_le {B : Nat} {e : E4} (h : Sm B e) : e.g ≤ B := by
  obtain ⟨s1, s2, s3, s4⟩ := h
  obtain ⟨d1, d2, d3, d4⟩ := (E4.dvd_g (e := e) (k := e.g)).mp (Nat.dvd_refl _)
  have q : ∀ {z : Int}, z.natAbs ≤ B → (e.g : Int) ∣ z → z ≠ 0 → e.g ≤ B := fun {z} hz hd h0 => Nat.le_trans (Nat.le_of_dvd (by omega) (Int.ofNat_dvd_left.mp hd)) hz
  by_cases h1 : e.a = 0
  · by_cases h2 : e.b = 0
    · by_cases h3 : e.c = 0
      · by_cases h4 : e.d = 0
        · have : e.g = 0 := E4.g_zero.mpr (by obtain ⟨a, b, c, d⟩ := e; simp only at h1 h2 h3 h4; subst h1 h2 h3 h4; rfl)
          omega
        · exact q s4 d4 h4
      · exact q s3 d3 h3
    · exact q s2 d2 h2
  · exact q s1 d1 h1
def sp_law_splits : Sp := sp2 fun x y H Q _ => ∃ (p : Addr) (s : Int) (e : E4) (n : Nat), x = .ref p ∧ y = .int (n : Int) ∧ (s = 1 ∨ s = -1) ∧ PlanR H p s e ∧ Sm (2 ^ 100) e ∧ 0 < n ∧ n < 2 ^ 100 ∧ ∀ H', Same H H' → Q (.bl (decide (Spl s e n))) H'
theorem c_law_splits (T : Tx K mg) : CalX P w K mg base CX0 3 "_law_splits" sp_law_splits [] := by
  refine cal0_of (F_law_splits T) (g_law_splits T) bd_law_splits sc_law_splits len2 (fun cdv A outer s H vs Q E hr h => ?_)
  obtain ⟨_, _, rfl, p, sg, e, n, rfl, rfl, hs, hpl, hsm, n0, n1, q⟩ := h
  obtain ⟨l, hp, hl⟩ := id hpl
  refine ⟨_, (pss_cons (ps_set (i := 2) sc_law_splits.nd rfl (Or.inl rfl) (pv 1))
      (pss_cons (ps_for PassesOwn.never rfl (pi_range1 rfl (b_range T) (pa_cons (pe_ifExp (pt_cmpR op_lt (pe_ix ix_tup (pv 0) pe_int (fun _ _ => rfl)) pe_int (nomark _)) pe_int pe_int) pa_nil)) (pg_name (i := 3) sc_law_splits.nd rfl (Or.inl rfl)) (pss_one (ps_set (i := 2) sc_law_splits.nd rfl (Or.inl rfl) (pe_ifExp (pt_cmpR op_eq (pe_op op_mod (pe_callTy call_int1 (by rfl) (b_int T) (by decide +kernel) (pa_cons (pv 2) pa_nil)) pe_int) pe_int (nomark _)) (pe_op op_fdivW (pv 2) pe_int) (pv 2)))))
      (pss_one (ps_ret (pe_or (pe_cmpR op_gt (pe_cx (c_law_common T) hr pass0 (pa_cons (pv 2) (pa_cons (pe_cx (c_law_power T) hr pass0 (pa_cons (pe_ix ix_tup (pv 0) pe_int (fun _ _ => rfl)) pa_nil)) pa_nil))) pe_int (nomark _)) (pe_one (pe_and (pe_cmpR op_eq (pe_op op_mod (pe_callTy call_int1 (by rfl) (b_int T) (by decide +kernel) (pa_cons (pv 1) pa_nil)) pe_int) pe_int (nomark _)) (pe_one (pe_cx (c_law_is_four T) hr pass0 (pa_cons (pv 0) pa_nil)))))))))), ?_⟩
  walk_at "go"
  refine g_ixT (SqT.of hp) at0 ?_
  walk_at "go"
  have gb : e.g < 2 ^ 150 := Nat.lt_of_le_of_lt (g_le hsm) (by decide)
  rcases hs with rfl | rfl
  · refine ifF (by decide) ?_
    walk_at "go"
    refine ⟨0, rfl, by decide, by decide, forR (fun i σ' H' => H' = H ∧ σ' = [some (.ref p), some (.int (n : Int)), some (.int (n : Int)), none]) ⟨rfl, rfl⟩ (fun i σ' H' hi h => absurd hi (Nat.not_lt_zero _)) (fun σ' H' h => ?_)⟩
    obtain ⟨rfl, rfl⟩ := h
    walk_at "go"
    refine g_ixT (SqT.of hp) at1 ?_
    walk_at "go"
    refine ⟨_, rfl, l, e, rfl, hl, hsm, ?_⟩
    walk_at "go"
    refine ⟨_, _, rfl, _, _, rfl, rfl, by rw [Int.natAbs_natCast]; exact gb, by rw [Int.natAbs_natCast]; exact Nat.lt_of_le_of_lt (Nat.le_refl n) (Nat.lt_trans n1 (Nat.pow_lt_pow_right (by decide) (by decide))), ?_⟩
    rw [Int.natAbs_natCast, Int.natAbs_natCast]
    walk_at "go"
    refine ifd (fun hg => ?_) (fun hg => ?_)
    · have := q _ (Same.refl _)
      rw [decide_eq_true (show Spl 1 e n from .inl (by rw [if_pos rfl]; omega))] at this
      exact this
    · have hn : ¬ 1 < Nat.gcd n e.g := by omega
      walk_at "go"
      refine .inl ⟨_, rfl, ?_⟩
      walk_at "go"
      refine g_I (by decide) ?_
      walk_at "go"
      refine ifd (fun h4 => ?_) (fun h4 => ?_)
      · have h4' : 4 ∣ n := by omega
        walk_at "go"
        refine ⟨_, rfl, p, _, e, rfl, .inl rfl, hpl, fun H' k => ?_⟩
        have := q H' k
        have e1 : decide (Spl 1 e n) = decide (1 ≠ (1 : Int) ∧ e.Four) := by
          refine decide_eq_decide.mpr ⟨fun z => ?_, fun z => .inr ⟨h4', z⟩⟩
          rcases z with z | z
          · rw [if_pos rfl] at z
            exact absurd z hn
          · exact z.2
        rw [e1] at this
        exact this
      · have := q _ (Same.refl _)
        rw [decide_eq_false (show ¬ Spl 1 e n from fun z => by
          rcases z with z | z
          · rw [if_pos rfl] at z
            exact hn z
          · omega)] at this
        exact this
  · refine ifT (by decide) ?_
    walk_at "go"
    refine ⟨100, rfl, by decide, by decide, forR (fun i σ' H' => H' = H ∧ ∃ v : Option V, σ' = [some (.ref p), some (.int (n : Int)), some (.int (hvs i n : Nat)), v]) ⟨rfl, none, rfl⟩ (fun i σ' H' hi h => ?_) (fun σ' H' h => ?_)⟩
    · obtain ⟨rfl, v, rfl⟩ := h
      walk_at "go"
      refine .inl ⟨_, rfl, ?_⟩
      walk_at "go"
      refine g_I (by decide) ?_
      walk_at "go"
      refine ifd (fun he => ?_) (fun he => ?_)
      · walk_at "go"
        refine g_I (wide_div (b := 3) (by decide) (by decide) (by decide) (by decide)) ?_
        walk_at "go"
        refine ⟨rfl, some (.int (0 + (i : Int))), ?_⟩
        have e1 : hvs (i + 1) n = hvs i n / 2 := by
          show hv _ = _
          unfold hv
          rw [if_pos (by omega)]
        rw [e1, Int.natCast_ediv]
        rfl
      · walk_at "go"
        refine ⟨rfl, some (.int (0 + (i : Int))), ?_⟩
        have e1 : hvs (i + 1) n = hvs i n := by
          show hv _ = _
          unfold hv
          rw [if_neg (by omega)]
        rw [e1]
        rfl
    obtain ⟨rfl, v, rfl⟩ := h
    rw [show hvs (Int.toNat 100) n = oddp n from hvs_end n0 n1]
    walk_at "go"
    refine g_ixT (SqT.of hp) at1 ?_
    walk_at "go"
    refine ⟨_, rfl, l, e, rfl, hl, hsm, ?_⟩
    walk_at "go"
    refine ⟨_, _, rfl, _, _, rfl, rfl, by rw [Int.natAbs_natCast]; exact gb, by rw [Int.natAbs_natCast]; exact Nat.lt_of_le_of_lt (Nat.le_of_dvd n0 oddp_dvd) (Nat.lt_trans n1 (Nat.pow_lt_pow_right (by decide) (by decide))), ?_⟩
    rw [Int.natAbs_natCast, Int.natAbs_natCast]
    walk_at "go"
    refine ifd (fun hg => ?_) (fun hg => ?_)
    · have := q _ (Same.refl _)
      rw [decide_eq_true (show Spl (-1) e n from .inl (by rw [if_neg (by decide)]; omega))] at this
      exact this
    · have hn : ¬ 1 < Nat.gcd (oddp n) e.g := by omega
      walk_at "go"
      refine .inl ⟨_, rfl, ?_⟩
      walk_at "go"
      refine g_I (by decide) ?_
      walk_at "go"
      refine ifd (fun h4 => ?_) (fun h4 => ?_)
      · have h4' : 4 ∣ n := by omega
        walk_at "go"
        refine ⟨_, rfl, p, _, e, rfl, .inr rfl, hpl, fun H' k => ?_⟩
        have := q H' k
        have e1 : decide (Spl (-1) e n) = decide ((-1) ≠ (1 : Int) ∧ e.Four) := by
          refine decide_eq_decide.mpr ⟨fun z => ?_, fun z => .inr ⟨h4', z⟩⟩
          rcases z with z | z
          · rw [if_neg (by decide)] at z
            exact absurd z hn
          · exact z.2
        rw [e1] at this
        exact this
      · have := q _ (Same.refl _)
        rw [decide_eq_false (show ¬ Spl (-1) e n from fun z => by
          rcases z with z | z
          · rw [if_neg (by decide)] at z
            exact hn z
          · omega)] at this
        exact this
end
end PP
-- text LG
namespace PP
open PySem PySem.Spec PyProof.Rows L2 LamX TL
section
variable {P : Program} {w : World} {K : PySem.W.Frag} {mg : Str → Option Value} {base : Heap}
theorem ok_sm {e : E4} (h : Ok30 e) : Sm 100 e := by
  have h1 := tot100 (x := e.tS) h.t
  have h2 := tot100 (x := e.bS) h.b
  simp only [S4.tot, E4.tS, E4.bS] at h1 h2
  exact ⟨by omega, by omega, by omega, by omega⟩
theorem pw_in : ∀ g : Nat, g < 101 → inV (.int (g : Int)) [.int 1, .int 2, .int 4, .int 8, .int 16, .int 32, .int 64] = decide (0 < g ∧ hvs 7 g = 1) := by decide
def sp_law_is_always : Sp := sp1 fun x H Q _ => ∃ (p : Addr) (s : Int) (e : E4), x = .ref p ∧ (s = 1 ∨ s = -1) ∧ PlanR H p s e ∧ Sm 100 e ∧ ∀ H', Same H H' → Q (.bl (decide (Alw s e))) H'
theorem c_law_is_always (T : Tx K mg) : CalX P w K mg base CX0 3 "_law_is_always" sp_law_is_always [] := by
  refine cal0_of (F_law_is_always T) (g_law_is_always T) bd_law_is_always sc_law_is_always len1 (fun cdv A outer s H vs Q E hr h => ?_)
  obtain ⟨_, rfl, p, sg, e, rfl, hs, hpl, hsm, q⟩ := h
  obtain ⟨l, hp, hl⟩ := id hpl
  have g100 := g_le hsm
  refine ⟨_, (pss_cons (ps_set (i := 1) sc_law_is_always.nd rfl (Or.inl rfl) (pe_cx (c_law_power T) hr pass0 (pa_cons (pe_ix ix_tup (pv 0) pe_int (fun _ _ => rfl)) pa_nil)))
      (pss_cons (ps_if (pt_cmpR op_gt (pe_ix ix_tup (pv 0) pe_int (fun _ _ => rfl)) pe_int (nomark _)) (pss_one (ps_ret (pe_cmpR op_eq (pv 1) pe_int (nomark _)))) pss_nil)
      (pss_one (ps_ret (pe_and (pe_cmpR op_in_seq (pv 1) (pe_lst (pa_cons pe_int (pa_cons pe_int (pa_cons pe_int (pa_cons pe_int (pa_cons pe_int (pa_cons pe_int (pa_cons pe_int pa_nil)))))))) (by rfl)) (pe_one (pe_not (pe_cx (c_law_is_four T) hr pass0 (pa_cons (pv 0) pa_nil))))))))), ?_⟩
  walk_at "go"
  refine g_ixT (SqT.of hp) at1 ?_
  walk_at "go"
  refine ⟨_, rfl, l, e, rfl, hl, hsm.le (by decide), ?_⟩
  walk_at "go"
  refine g_ixT (SqT.of hp) at0 ?_
  walk_at "go"
  rcases hs with rfl | rfl
  · refine ifT (by decide) ?_
    walk_at "go"
    have := q H (Same.refl H)
    have e1 : decide (Alw 1 e) = decide (((e.g : Nat) : Int) = 1) := decide_eq_decide.mpr (by unfold Alw; rw [if_pos rfl]; omega)
    rw [e1] at this
    exact this
  · refine ifF (by decide) ?_
    walk_at "go"
    refine mkT fun q1 hq1 => ?_
    have k1 := same_new (o := .lst [.int 1, .int 2, .int 4, .int 8, .int 16, .int 32, .int 64]) hq1
    refine ⟨q1, _, rfl, .inl (SqL.of upd_same), rfl, rfl, ?_⟩
    rw [if_neg (by decide), pw_in e.g (by omega)]
    walk_at "go"
    refine ifd (fun hg => ?_) (fun hg => ?_)
    · walk_at "go"
      refine ⟨_, rfl, p, -1, e, rfl, .inr rfl, hpl.mono k1, fun H' k => ?_⟩
      walk_at "go"
      have := q H' (Same.trans k1 k)
      have ho : oddp e.g = 1 := by rw [← hvs_end hg.1 (show e.g < 2 ^ 7 by omega)]; exact hg.2
      have e1 : decide (Alw (-1) e) = !decide ((-1 : Int) ≠ 1 ∧ e.Four) := by
        rw [← decide_not]
        refine decide_eq_decide.mpr ?_
        unfold Alw
        rw [if_neg (by decide)]
        constructor
        · rintro ⟨_, _, z⟩ ⟨_, y⟩
          exact z y
        · exact fun z => ⟨hg.1, ho, fun y => z ⟨by decide, y⟩⟩
      rw [e1] at this
      exact this
    · have := q _ k1
      rw [decide_eq_false (show ¬ Alw (-1) e from fun z => by
        unfold Alw at z
        rw [if_neg (by decide)] at z
        exact hg ⟨z.1, by rw [hvs_end z.1 (show e.g < 2 ^ 7 by omega)]; exact z.2.1⟩)] at this
      exact this
def sp_law_some_n : Sp := sp1 fun x H Q _ => ∃ (j : Addr) (n : Nat), x = .ref j ∧ JugAt H j (n + 20) ∧ ∀ m H', 1 ≤ m → m ≤ 10 ^ 30 → Kp [j] H H' → JugAt H' j n → Q (.int m) H'
theorem c_law_some_n (T : Tx K mg) : CalX P w K mg base CX0 3 "_law_some_n" sp_law_some_n [] := by
  refine cal0_of (F_law_some_n T) (g_law_some_n T) bd_law_some_n sc_law_some_n len1 (fun cdv A outer s H vs Q E hr h => ?_)
  obtain ⟨_, rfl, j, n, rfl, hj, q⟩ := h
  refine ⟨_, (pss_cons (ps_set (i := 1) sc_law_some_n.nd rfl (Or.inl rfl) (pe_lst (pa_cons (pe_op op_add pe_int (pe_cx (c_law_pull T) hr pass0 (pa_cons (pv 0) (pa_cons pe_int pa_nil)))) (pa_cons (pe_op op_add pe_int (pe_cx (c_law_pull T) hr pass0 (pa_cons (pv 0) (pa_cons pe_int pa_nil)))) (pa_cons (pe_op op_pow pe_int pe_int) (pa_cons (pe_op op_sub (pe_op op_pow pe_int pe_int) (pe_cx (c_law_pull T) hr pass0 (pa_cons (pv 0) (pa_cons pe_int pa_nil)))) (pa_cons (pe_op op_pow pe_int pe_int) (pa_cons (pe_op op_pow pe_int pe_int) pa_nil))))))))
      (pss_one (ps_ret (pe_cx (c_law_one_of T) hr pass0 (pa_cons (pv 0) (pa_cons (pe_op op_cat (pv 1) (pe_lst (pa_cons (pe_op op_add pe_int (pe_cx (c_law_pull T) hr pass0 (pa_cons (pv 0) (pa_cons (pe_op op_pow pe_int pe_int) pa_nil)))) (pa_cons (pe_op op_mulW (pe_op op_pow pe_int pe_int) pe_int) (pa_cons (pe_op op_add pe_int (pe_cx (c_law_pull T) hr pass0 (pa_cons (pv 0) (pa_cons pe_int pa_nil)))) (pa_cons (pe_op op_mulW pe_int (pe_op op_pow pe_int pe_int)) pa_nil)))))) pa_nil)))))), ?_⟩
  have cp : CPow 10 30 := ⟨by decide, by decide, by decide⟩
  walk_at "go"
  refine ⟨_, _, rfl, j, n + 19, 12, rfl, rfl, hj, by decide, by decide, fun v1 H1 a1 b1 k1 hj1 => ?_⟩
  walk_at "go"
  refine ⟨_, _, rfl, j, n + 18, 60, rfl, rfl, hj1, by decide, by decide, fun v2 H2 a2 b2 k2 hj2 => ?_⟩
  walk_at "go"
  refine g_I cp ?_
  walk_at "go"
  refine g_I cp ?_
  walk_at "go"
  refine ⟨_, _, rfl, j, n + 17, 60, rfl, rfl, hj2, by decide, by decide, fun v3 H3 a3 b3 k3 hj3 => ?_⟩
  walk_at "go"
  refine g_I ⟨by decide, by decide, by decide⟩ ?_
  walk_at "go"
  refine g_I ⟨by decide, by decide, by decide⟩ ?_
  walk_at "go"
  refine mkT fun q1 hq1 => ?_
  have kq1 := same_new (o := .lst [.int (1 + v1), .int (1 + v2), .int (10 ^ (30 : Int).toNat), .int (10 ^ (30 : Int).toNat - v3), .int (2 ^ (60 : Int).toNat), .int (3 ^ (40 : Int).toNat)]) hq1
  have nq1 := jug_ne hj3 hq1
  walk_at "go"
  refine g_I ⟨by decide, by decide, by decide⟩ ?_
  walk_at "go"
  refine ⟨_, _, rfl, j, n + 16, _, rfl, rfl, hj3.mono kq1, by decide, by decide, fun v4 H4 a4 b4 k4 hj4 => ?_⟩
  walk_at "go"
  refine g_I ⟨by decide, by decide, by decide⟩ ?_
  walk_at "go"
  refine g_I (wide_mul (a := 60) (b := 4) (by decide) (by decide) (by decide) (by decide) (by decide)) ?_
  walk_at "go"
  refine ⟨_, _, rfl, j, n + 15, 6, rfl, rfl, hj4, by decide, by decide, fun v5 H5 a5 b5 k5 hj5 => ?_⟩
  walk_at "go"
  refine g_I ⟨by decide, by decide, by decide⟩ ?_
  walk_at "go"
  refine g_I (wide_mul (a := 4) (b := 60) (by decide) (by decide) (by decide) (by decide) (by decide)) ?_
  walk_at "go"
  refine mkT fun q2 hq2 => ?_
  have kq2 := same_new (o := .lst [.int (1 + v4), .int (5 ^ (20 : Int).toNat * 7), .int (1 + v5), .int (4 * 11 ^ (9 : Int).toNat)]) hq2
  refine ⟨q1, q2, _, _, rfl, rfl, kq2 _ _ (k5 _ _ (fun z => nq1 (List.mem_singleton.mp z)) (k4 _ _ (fun z => nq1 (List.mem_singleton.mp z)) upd_same)), upd_same, (by show (10 : Nat) ≤ sizeLine; decide), fun q3 hq3 => ?_⟩
  have kq3 := same_new (o := .lst ([.int (1 + v1), .int (1 + v2), .int (10 ^ (30 : Int).toNat), .int (10 ^ (30 : Int).toNat - v3), .int (2 ^ (60 : Int).toNat), .int (3 ^ (40 : Int).toNat)] ++ [.int (1 + v4), .int (5 ^ (20 : Int).toNat * 7), .int (1 + v5), .int (4 * 11 ^ (9 : Int).toNat)])) hq3
  have hj7 := hj5.mono (Same.trans kq2 kq3)
  have nq3 := jug_ne (hj5.mono kq2) hq3
  refine ⟨_, _, rfl, j, q3, n + 14, _, rfl, rfl, hj7, SqL.of upd_same, nq3, upd_same, Nat.succ_pos _, (by show (10 : Nat) ≤ 1000; decide), fun v H6 hv k6 hj6 => ?_⟩
  have kk : Kp [j] H H6 := Kp.trans k1 (Kp.trans k2 (Kp.trans k3 (Kp.trans (Kp.of kq1) (Kp.trans k4 (Kp.trans k5 (Kp.trans (Kp.of (Same.trans kq2 kq3)) k6))))))
  have b4' : v4 < 10 ^ 9 := b4
  have fin : ∀ m : Int, v = .int m → 1 ≤ m → m ≤ 10 ^ 30 → Q v H6 := fun m e h1 h2 => by
    rw [e]
    exact q m H6 h1 h2 kk (hj6.less (by omega))
  simp only [List.cons_append, List.nil_append, List.mem_cons, List.not_mem_nil, or_false] at hv
  rcases hv with e | e | e | e | e | e | e | e | e | e
  · exact fin _ e (by omega) (by omega)
  · exact fin _ e (by omega) (by omega)
  · exact fin _ e (by decide) (by decide)
  · exact fin _ e (by show 1 ≤ (10 : Int) ^ 30 - v3; omega) (by show (10 : Int) ^ 30 - v3 ≤ 10 ^ 30; omega)
  · exact fin _ e (by decide) (by decide)
  · exact fin _ e (by decide) (by decide)
  · exact fin _ e (by omega) (by omega)
  · exact fin _ e (by decide) (by decide)
  · exact fin _ e (by omega) (by omega)
  · exact fin _ e (by decide) (by decide)
/-! roots -/
def RtA (H : Hp) (p : Addr) (e : E4) (n : Nat) : Prop := ∃ l, H p = some (.tup [.ref l, .int (n : Int)]) ∧ RowIs H l e
def sp_law_least : Sp := sp2 fun x y H Q _ => ∃ (l : Addr) (e : E4) (n : Nat), x = .ref l ∧ y = .int (n : Int) ∧ RowIs H l e ∧ Sm (2 ^ 100) e ∧ 1 ≤ n ∧ n ≤ 60 ∧ ∀ H' p l', Same H H' → H' p = some (.tup [.ref l', .int (lfN e n : Nat)]) → RowIs H' l' (lfE e n) → H l' = none → Q (.ref p) H'
theorem c_law_least (T : Tx K mg) : CalX P w K mg base CX0 3 "_law_least" sp_law_least [] := by
  refine cal0_of (F_law_least T) (g_law_least T) bd_law_least sc_law_least len2 (fun cdv A outer s H vs Q E hr h => ?_)
  obtain ⟨_, _, rfl, l, e, n, rfl, rfl, hl, hsm, n0, n1, q⟩ := h
  refine ⟨_, (pss_cons (ps_set (i := 2) sc_law_least.nd rfl (Or.inr rfl) (pe_cx (c_law_common T) hr pass0 (pa_cons (pv 1) (pa_cons (pe_cx (c_law_power T) hr pass0 (pa_cons (pv 0) pa_nil)) pa_nil))))
      (pss_one (ps_ret (pe_tup (pa_cons (pe_lc (own := [("_law_each", 3)]) rfl sc_law_least.nd (pi_list (pv 0)) (blkOk_by (own := [("_law_each", 3)]) (N := N_law_least) (sc := defScope s_law_least) (by decide +kernel)) (fun _ _ _ _ _ => (pg_name (i := 3) sc_law_least.nd rfl (Or.inl rfl))) (fun _ _ _ _ _ => pts_nil) (fun _ _ _ _ _ => (pe_op op_fdivW (pv 3) (pv 2)))) (pa_cons (pe_op op_fdivW (pv 1) (pv 2)) pa_nil)))))), ?_⟩
  have gb : e.g < 2 ^ 150 := Nat.lt_of_le_of_lt (g_le hsm) (by decide)
  have g0 : 0 < Nat.gcd n e.g := Nat.gcd_pos_of_pos_left _ n0
  have g60 : Nat.gcd n e.g ≤ 60 := Nat.le_trans (Nat.le_of_dvd n0 (Nat.gcd_dvd_left _ _)) n1
  walk_at "go"
  refine ⟨_, rfl, l, e, rfl, hl, hsm, ?_⟩
  walk_at "go"
  refine ⟨_, _, rfl, _, _, rfl, rfl, by rw [Int.natAbs_natCast]; exact gb, by rw [Int.natAbs_natCast]; exact Nat.lt_of_le_of_lt n1 (Nat.lt_of_lt_of_le (by decide : 60 < 2 ^ 6) (Nat.pow_le_pow_right (by decide) (by decide))), ?_⟩
  rw [Int.natAbs_natCast, Int.natAbs_natCast]
  walk_at "go"
  have er : e.row.map (fun z : Int => z / ((Nat.gcd n e.g : Nat) : Int)) = (lfE e n).row := rfl
  refine ⟨l, rfl, ⟨_, SqL.of hl⟩, fun D hD => lc_goL ((lfE e n).row.map fun z => some (.int z)) (SqL.of hl) rfl hD (by show (4 : Nat) ≤ 100000; decide) (fun i x o H3 hx hk k3 Rr hRr => ?_) (fun H3 k3 hD3 => ?_)⟩
  · rw [← er, List.map_map, List.getElem?_map] at hk
    rw [List.getElem?_map] at hx
    cases ez : e.row[i]? with
    | none => rw [ez] at hx; cases hx
    | some z =>
      rw [ez] at hx hk
      cases hx
      cases hk
      walk_at "go"
      refine ⟨rfl, ?_⟩
      walk_at "go"
      refine iteT ?_
      walk_at "go"
      refine g_I (wide_div (b := 10) (by omega) (by rw [Int.natAbs_natCast]; omega) (by decide) (by decide)) ?_
      exact hRr H3 (Same.refl H3)
  · rw [ks_row] at hD3
    walk_at "go"
    refine g_I (wide_div (b := 10) (by omega) (by rw [Int.natAbs_natCast]; omega) (by decide) (by decide)) ?_
    walk_at "go"
    refine mkT fun p hp => ?_
    have kp := same_new (o := .tup [.ref D, .int ((n : Int) / (Nat.gcd n e.g : Nat))]) hp
    refine q _ p D (Same.trans k3 kp) ?_ (kp _ _ hD3) hD
    rw [upd_same, ← Int.natCast_ediv]
    rfl
def sp_law_root_text : Sp := sp1 fun x H Q _ => ∃ (p : Addr) (e : E4) (n : Nat), x = .ref p ∧ RtA H p e n ∧ OkR e n ∧ ∀ H', Same H H' → Q (.str (rText e n)) H'
theorem c_law_root_text (T : Tx K mg) : CalX P w K mg base CX0 2 "_law_root_text" sp_law_root_text [] := by
  refine cal0_of (F_law_root_text T) (g_law_root_text T) bd_law_root_text sc_law_root_text len1 (fun cdv A outer s H vs Q E hr h => ?_)
  obtain ⟨_, rfl, p, e, n, rfl, ⟨l, hp, hl⟩, ok, q⟩ := h
  refine ⟨_, (pss_one (ps_ret (pe_op op_add_str (pe_op op_add_str (pe_callTy call_str_int (by rfl) (b_str T) (by decide +kernel) (pa_cons (pe_ix ix_tup (pv 0) pe_int (fun _ _ => rfl)) pa_nil)) pe_str) (pe_cx (c_law_text T) hr pass0 (pa_cons (pe_cx (c_law_pair T) hr pass0 (pa_cons pe_int (pa_cons (pe_ix ix_tup (pv 0) pe_int (fun _ _ => rfl)) pa_nil))) pa_nil))))), ?_⟩
  have lt : (e.tp : Int).natAbs.log2 < 1920 := Nat.lt_trans (log_of (B := 120) (by decide) (Nat.lt_of_le_of_lt ok.1.t (by decide))) (by decide)
  have lb : (e.bt : Int).natAbs.log2 < 1920 := Nat.lt_trans (log_of (B := 120) (by decide) (Nat.lt_of_le_of_lt ok.1.b (by decide))) (by decide)
  have ld : (n : Int).natAbs.log2 < 1920 := Nat.lt_trans (log_of (B := 6) (by decide) (by have := ok.2.2.1; omega)) (by decide)
  have c1 : (Str.ofString (toString (n : Int))).length ≤ 1921 := iS_len ld
  have c2 : (Str.ofString " of ").length = 4 := by decide
  have c3 := nText_len lt lb
  walk_at "go"
  refine g_ixT (SqT.of hp) at1 ?_
  walk_at "go"
  refine ⟨_, rfl, ld, ?_⟩
  walk_at "go"
  refine ⟨_, _, rfl, rfl, big_line (by omega), ?_⟩
  walk_at "go"
  refine g_ixT (SqT.of hp) at0 ?_
  walk_at "go"
  refine ⟨_, _, rfl, 1, l, e, rfl, rfl, .inl rfl, hl, (ok_sm ok.1).le (by decide), fun H1 p1 k1 hp1 => ?_⟩
  rw [Int.one_mul] at hp1
  walk_at "go"
  refine ⟨_, rfl, p1, _, _, rfl, hp1, lt, lb, ?_⟩
  refine ⟨_, _, rfl, rfl, big_line (by rw [Str.length_append]; omega), ?_⟩
  exact q H1 k1
end
end PP
-- text PV
namespace PP
open PySem PySem.Spec PyProof.Rows L2 PySem.Calls
theorem ns_none_of {K : PySem.W.Frag} {h : Heap} {a : Addr} {m : Str → Option Value} {n : Str} (X : K.In h) (G : h.Ns a m) (e : PySem.W.nsIn K a n = some none) : m n = none := by
  obtain ⟨o, es, ep, ho, hd, _, hf⟩ := G
  unfold PySem.W.nsIn at e
  split at e
  · rename_i c d es' n' sl q
    have := X _ _ q
    rw [ho] at this
    cases this
    cases hd
    split at e
    · cases e
    · rename_i he
      rw [← hf]
      unfold nsFind findBy
      rw [← Array.find?_toList, he]
      rfl
  · cases e
section
variable {prog : Program} {w : World} {A : Around} {E : Value → Shared → Prop} {s : Shared}
theorem repr_wide {a : Int} {t : Tok} {Q : Value → Shared → Prop} (hh : A.handled = none) (hn : s.heap.NoDigits) (ha : a.natAbs < 10 ^ 4300) (h : Q (.str (toString a) s.toks) { s with toks := s.toks + 1 }) :
    wpAny (model prog w) A (call (.builtin "repr") [.int a t]) Q E s := by
  refine Calls.call_function_entry F.kind_repr F.plain_repr F.entry_repr (F.args_repr1 _) ?_
  unfold Builtin.«repr»
  refine wpAny_bind (m := oneArg "repr" _) (wpAny_pure ?_)
  have hv : [Value.int a t].any Value.onHeap = false := rfl
  simp only [cRoomFor, hv, Bool.false_eq_true, if_false, pure_bind]
  refine wpAny_bind (wpAny_specialOf (name := Str.ofString "__repr__") (typeIs_int s a t) F.slot_int_repr.lookup ?_)
  refine wpAny_bind (m := callSpecialIfBound? (.int a t) (Str.ofString "__repr__")) (wpAny_callSpecialIfBound?_slot (name := Str.ofString "__repr__") (typeIs_int s a t) F.slot_int_repr ?_)
  refine wpAny_call_entry F.slot_int_repr (typeIs_int s a t) F.entry_int_repr ?_ (F.args_int_repr_1 _)
  unfold Builtin.«int.__repr__»
  show wpAny _ _ (do let r ← Builtin.overDigitLimit? a; _) _ _ s
  refine wpAny_bind (overDigitLimit_any hn (fun hlt => ?_) (fun hge => absurd ha (Nat.not_lt.mpr hge)))
  refine wpAny_bind (wpAny_mkStr (wpAny_pure ⟨_, rfl, ?_⟩) (int_text_fits10 hlt))
  exact wpAny_bind (wpAny_isInstance (T := "str") (b := true) rfl isSubtype_str_str (wpAny_pure ⟨_, rfl, h⟩))
end
theorem call_reprW {X : Cx} (hc : X.calm = true) (hd : PySem.W.nsIn X.K cStatics "sys.int_max_str_digits" = some none) : CallR X (.builtin "repr") (fun xs H Q => ∃ i, xs = [.int i] ∧ i.natAbs < 10 ^ 4300 ∧ ∀ z : Str, Q (.str z) H) := by
  intro pins s σ H xs us Q I r h
  obtain ⟨i, rfl, hz, q⟩ := h
  obtain ⟨u, rfl, t, rfl⟩ := vals1 r
  have lim := I.nolimit
  obtain ⟨mc, hns, _⟩ := lim
  exact repr_wide (I.ok.hd hc) ⟨mc, hns, ns_none_of I.kIn hns hd⟩ hz ⟨.str _, H, I.tok _, ⟨_, rfl⟩, q _⟩
end PP
-- text LI
namespace PP
open PySem PySem.Spec PyProof.Rows L2 LamX TL
section
variable {P : Program} {w : World} {K : PySem.W.Frag} {mg : Str → Option Value} {base : Heap}
/-! what the law holds -/
/-- tuples stay, and lists but one -/
structure Kd (j : Addr) (H H' : Hp) : Prop where
  tup : ∀ a xs, H a = some (.tup xs) → H' a = some (.tup xs)
  lst : ∀ a xs, a ≠ j → H a = some (.lst xs) → H' a = some (.lst xs)
theorem Kd.same {j : Addr} {H H' : Hp} (k : Same H H') : Kd j H H' := ⟨fun _ _ e => k _ _ e, fun _ _ _ e => k _ _ e⟩
theorem Kd.trans {j : Addr} {H H' H'' : Hp} (k : Kd j H H') (k2 : Kd j H' H'') : Kd j H H'' := ⟨fun _ _ e => k2.tup _ _ (k.tup _ _ e), fun _ _ n e => k2.lst _ _ n (k.lst _ _ n e)⟩
theorem Kd.jug {j : Addr} {H H' : Hp} {n : Nat} (k : Kp [j] H H') (h : JugAt H j n) : Kd j H H' := by
  obtain ⟨a, b, c, hj, _⟩ := h
  exact ⟨fun x xs e => k _ _ (fun z => by rw [List.mem_singleton.mp z, hj] at e; cases e) e, fun x xs n e => k _ _ (fun z => n (List.mem_singleton.mp z)) e⟩
theorem Kd.kx {j : Addr} {H H' : Hp} {S : List Addr} (k : Kx S H H') (h : ∀ x ∈ S, ∃ C dx fs, H x = some (.ins C dx fs)) : Kd j H H' := by
  have q : ∀ a, a ∈ S → (∀ xs, H a ≠ some (.tup xs)) ∧ ∀ xs, H a ≠ some (.lst xs) := fun a ha => by
    obtain ⟨C, dx, fs, e⟩ := h a ha
    rw [e]
    exact ⟨fun xs z => (by cases z), fun xs z => (by cases z)⟩
  exact ⟨fun a xs e => k.tup (fun z => (q a z).1 xs e) e, fun a xs _ e => k.lst (fun z => (q a z).2 xs e) e⟩
def RtJ (j : Addr) (H : Hp) (p : Addr) (e : E4) (n : Nat) : Prop := ∃ l, H p = some (.tup [.ref l, .int (n : Int)]) ∧ RowIs H l e ∧ l ≠ j
theorem RtJ.kd {j : Addr} {H H' : Hp} {p : Addr} {e : E4} {n : Nat} (h : RtJ j H p e n) (k : Kd j H H') : RtJ j H' p e n := by
  obtain ⟨l, h1, h2, h3⟩ := h
  exact ⟨l, k.tup _ _ h1, k.lst _ _ h3 h2, h3⟩
theorem PlanAt.kd {j : Addr} {H H' : Hp} {p : Addr} {s : Int} {e : E4} (h : PlanAt j H p s e) (k : Kd j H H') : PlanAt j H' p s e := by
  obtain ⟨l, h1, h2, h3⟩ := h
  exact ⟨l, k.tup _ _ h1, k.lst _ _ h3 h2, h3⟩
theorem PlanAt.r {j : Addr} {H : Hp} {p : Addr} {s : Int} {e : E4} (h : PlanAt j H p s e) : PlanR H p s e := by
  obtain ⟨l, h1, h2, h3⟩ := h
  exact ⟨l, h1, h2⟩
structure PgL (j : Addr) (H : Hp) (p : Addr) (as : Rts) : Prop where
  lst : H p = some (.lst (refsOf as))
  ne : p ≠ j
  rt : ∀ x ∈ as, RtJ j H x.1 x.2.1 x.2.2
  ok : OkRts as
  len : as.length ≤ 5
  four : ∀ x ∈ as, x.2.2 ≤ 4
def PgA (j : Addr) (H : Hp) (p : Addr) (pg : Rs) : Prop := ∃ as, PgL j H p as ∧ rsOf as = pg
theorem PgL.kd {j : Addr} {H H' : Hp} {p : Addr} {as : Rts} (h : PgL j H p as) (k : Kd j H H') : PgL j H' p as := ⟨k.lst _ _ h.ne h.lst, h.ne, fun x hx => (h.rt x hx).kd k, h.ok, h.len, h.four⟩
theorem PgA.kd {j : Addr} {H H' : Hp} {p : Addr} {pg : Rs} (h : PgA j H p pg) (k : Kd j H H') : PgA j H' p pg := by
  obtain ⟨as, h1, h2⟩ := h
  exact ⟨as, h1.kd k, h2⟩
theorem Sm.mul {B C : Nat} {e : E4} {k : Int} (h : Sm B e) (hk : k.natAbs ≤ C) : Sm (B * C) (e.mul k) := by
  obtain ⟨h1, h2, h3, h4⟩ := h
  unfold E4.mul Sm
  simp only [Int.natAbs_mul]
  exact ⟨Nat.mul_le_mul h1 hk, Nat.mul_le_mul h2 hk, Nat.mul_le_mul h3 hk, Nat.mul_le_mul h4 hk⟩
/-- deeds, as lists -/
def deedL : Ln → List V
  | .put n => [.str "put", .int n]
  | .drop i => [.str "drop", .int i]
  | .turn i m => [.str "turn", .int i, .int m]
  | .undo => [.str "undo"]
  | _ => []
/-- what is due -/
def DueL (H : Hp) (q : Addr) : Option Str → Prop
  | none => H q = some (.lst [])
  | some nm => ∃ zs : List Str, H q = some (.lst (.str nm :: zs.map V.str))
inductive Beh : Ln → Rs → Option Str → Rs → Prop
  | drop1 {pg : Rs} {i : Int} (h : ¬ (0 ≤ i ∧ i < pg.length)) : Beh (.drop i) pg (some "InvalidIndex") pg
  | drop2 {pg : Rs} {i : Int} (h1 : 0 ≤ i) (h2 : i < pg.length) : Beh (.drop i) pg none (pg.take i.toNat ++ pg.drop (i.toNat + 1))
  | turn1 {pg : Rs} {i m : Int} (h : ¬ (0 ≤ i ∧ i < pg.length)) : Beh (.turn i m) pg (some "InvalidIndex") pg
  | turn2 {pg : Rs} {i m : Int} {e : E4} {n : Nat} (h1 : 0 ≤ i) (h2 : pg[i.toNat]? = some (e, n)) (h : ¬ (-20 ≤ m ∧ m ≤ 20)) : Beh (.turn i m) pg (some "InvalidDegree") pg
  | turn3 {pg : Rs} {i m : Int} {e : E4} {n : Nat} (h1 : 0 ≤ i) (h2 : pg[i.toNat]? = some (e, n)) (h3 : -20 ≤ m) (h4 : m ≤ 20) (h : ¬ ((raisedE e n m).tp ≤ 10 ^ 30 ∧ (raisedE e n m).bt ≤ 10 ^ 30)) : Beh (.turn i m) pg (some "TooGreat") pg
  | turn4 {pg : Rs} {i m : Int} {e : E4} {n : Nat} (h1 : 0 ≤ i) (h2 : pg[i.toNat]? = some (e, n)) (h3 : -20 ≤ m) (h4 : m ≤ 20) (h5 : (raisedE e n m).tp ≤ 10 ^ 30) (h6 : (raisedE e n m).bt ≤ 10 ^ 30) :
      Beh (.turn i m) pg none (pg.take i.toNat ++ [(raisedE e n m, raisedN n m)] ++ pg.drop (i.toNat + 1))
def sp_law_behind : Sp := sp2 fun x y H Q _ => ∃ (j p q : Addr) (pg : Rs) (l : Ln) (n : Nat), x = .ref p ∧ y = .ref q ∧ JugAt H j n ∧ PgA j H p pg ∧ H q = some (.lst (deedL l)) ∧ ((∃ i, l = .drop i ∧ i.natAbs < 10 ^ 40) ∨ ∃ i m, l = .turn i m ∧ i.natAbs < 10 ^ 40 ∧ m.natAbs < 10 ^ 40) ∧
  ∀ H' t du p' due pg', Same H H' → H' t = some (.tup [.ref du, .ref p']) → DueL H' du due → PgA j H' p' pg' → Beh l pg due pg' → Q (.ref t) H'
theorem c_law_behind (T : Tx K mg) (hdig : PySem.W.nsIn K cStatics "sys.int_max_str_digits" = some none) : CalX P w K mg base CX0 4 "_law_behind" sp_law_behind [] := by
  refine cal0_of (F_law_behind T) (g_law_behind T) bd_law_behind sc_law_behind len2 (fun cdv A outer s H vs Q E hr h => ?_)
  obtain ⟨_, _, rfl, j, p, q, pg, l, n, rfl, rfl, hj, ⟨as, hpg, rfl⟩, hq, hl, qq⟩ := h
  refine ⟨_, (pss_cons (ps_if (pt_cmpR op_eq (pe_ix ix_list (pv 1) pe_int (fun _ _ => rfl)) pe_str (nomark _)) (pss_one ps_never) pss_nil)
      (pss_cons (ps_set (i := 2) sc_law_behind.nd rfl (Or.inl rfl) (pe_ix ix_list (pv 1) pe_int (fun _ _ => rfl)))
      (pss_cons (ps_if (pt_not (pt_chain op_le op_lt pe_int (pv 2) (pe_callB call_len_seq (by rfl) (b_len T) (by decide +kernel) (pa_cons (pv 0) pa_nil)))) (pss_one (ps_ret (pe_tup (pa_cons (pe_lst (pa_cons pe_str (pa_cons (pe_callB (call_reprW rfl hdig) (by rfl) (b_repr T) (by decide +kernel) (pa_cons (pv 2) pa_nil)) pa_nil))) (pa_cons (pv 0) pa_nil))))) pss_nil)
      (pss_cons (ps_if (pt_cmpR op_eq (pe_ix ix_list (pv 1) pe_int (fun _ _ => rfl)) pe_str (nomark _)) (pss_one (ps_ret (pe_tup (pa_cons (pe_lst pa_nil) (pa_cons (pe_op op_cat (pe_slice sl_list (pv 0) po_none (po_some (pv 2))) (pe_slice sl_list (pv 0) (po_some (pe_op op_add (pv 2) pe_int)) po_none)) pa_nil))))) pss_nil)
      (pss_cons (ps_if (pt_not (pt_chain op_le op_le (pe_un un_neg pe_int) (pe_ix ix_list (pv 1) pe_int (fun _ _ => rfl)) pe_int)) (pss_one (ps_ret (pe_tup (pa_cons (pe_lst (pa_cons pe_str (pa_cons (pe_callB (call_reprW rfl hdig) (by rfl) (b_repr T) (by decide +kernel) (pa_cons (pe_ix ix_list (pv 1) pe_int (fun _ _ => rfl)) pa_nil)) pa_nil))) (pa_cons (pv 0) pa_nil))))) pss_nil)
      (pss_cons (ps_set (i := 3) sc_law_behind.nd rfl (Or.inl rfl) (pe_cx (c_law_least T) hr pass0 (pa_cons (pe_lc (own := [("_law_each", 5)]) rfl sc_law_behind.nd (pi_list (pe_ix ix_tup (pe_ix ix_list (pv 0) (pv 2) (fun _ _ => rfl)) pe_int (fun _ _ => rfl))) (blkOk_by (own := [("_law_each", 5)]) (N := N_law_behind) (sc := defScope s_law_behind) (by decide +kernel)) (fun _ _ _ _ _ => (pg_name (i := 5) sc_law_behind.nd rfl (Or.inl rfl))) (fun _ _ _ _ _ => pts_nil) (fun _ _ _ _ _ => (pe_op op_mulW (pe_ix (show IxR _ (rIxL K) from ix_list) (pv 1) pe_int (fun _ _ => rfl)) (pv 5)))) (pa_cons (pe_ix ix_tup (pe_ix ix_list (pv 0) (pv 2) (fun _ _ => rfl)) pe_int (fun _ _ => rfl)) pa_nil))))
      (pss_cons (ps_set (i := 4) sc_law_behind.nd rfl (Or.inl rfl) (pe_callB (call_maxP rfl) (by rfl) (b_max T) (by decide +kernel) (pa_cons (pe_cx (c_law_pair T) hr pass0 (pa_cons pe_int (pa_cons (pe_ix ix_tup (pv 3) pe_int (fun _ _ => rfl)) pa_nil))) pa_nil)))
      (pss_one (ps_ret (pe_ifExp (pt_cmpR op_gt (pv 4) (pe_op op_pow pe_int pe_int) (nomark _)) (pe_tup (pa_cons (pe_lst (pa_cons pe_str (pa_cons (pe_callB (call_reprW rfl hdig) (by rfl) (b_repr T) (by decide +kernel) (pa_cons (pv 4) pa_nil)) pa_nil))) (pa_cons (pv 0) pa_nil))) (pe_tup (pa_cons (pe_lst pa_nil) (pa_cons (pe_op op_cat (pe_op op_cat (pe_slice sl_list (pv 0) po_none (po_some (pv 2))) (pe_lst (pa_cons (pv 3) pa_nil))) (pe_slice sl_list (pv 0) (po_some (pe_op op_add (pv 2) pe_int)) po_none)) pa_nil))))))))))))), ?_⟩
  have b43 : (10 : Nat) ^ 40 < 10 ^ 4300 := Nat.pow_lt_pow_right (by decide) (by decide)
  have ln : as.length = (rsOf as).length := (List.length_map _).symm
  have bad : ∀ {nm : Str} {z : Str} {l' : Ln} {R : VK} {H1 : Hp}, Same H H1 → Beh l' (rsOf as) (some nm) (rsOf as) → (∀ (H' : Hp) (t du p' : Addr) (due : Option Str) (pg' : Rs), Same H H' → H' t = some (.tup [.ref du, .ref p']) → DueL H' du due → PgA j H' p' pg' → Beh l' (rsOf as) due pg' → R (.ref t) H') →
      ∀ {du t : Addr}, H1 du = none → (upd H1 du (.lst [.str nm, .str z])) t = none → R (.ref t) (upd (upd H1 du (.lst [.str nm, .str z])) t (.tup [.ref du, .ref p])) := fun {nm z l' R H1} k hb q {du t} hdu ht => by
    have k1 := same_new (o := .lst [.str nm, .str z]) hdu
    have k2 := same_new (o := .tup [.ref du, .ref p]) ht
    have kk := Same.trans k (Same.trans k1 k2)
    exact q _ t du p (some nm) (rsOf as) kk upd_same ⟨[z], k2 _ _ upd_same⟩ ⟨as, hpg.kd (Kd.same kk), rfl⟩ hb
  rcases hl with ⟨i, rfl, ib⟩ | ⟨i, m, rfl, ib, mb⟩
  · walk_at "go"
    refine g_ixL (SqL.of hq) at0 ?_
    walk_at "go"
    refine ifF (by decide) ?_
    walk_at "go"
    refine g_ixL (SqL.of hq) at1 ?_
    walk_at "go"
    refine ifd (fun h0 => ?_) (fun h0 => ?_)
    rotate_left
    · walk_at "go"
      refine iteT ?_
      walk_at "go"
      refine ⟨i, rfl, Nat.lt_trans ib b43, fun z => ?_⟩
      walk_at "go"
      refine mkT fun du hdu => ?_
      walk_at "go"
      refine mkT fun t ht => ?_
      exact bad (Same.refl H) (.drop1 (by rw [← ln]; exact fun x => h0 x.1)) qq hdu ht
    walk_at "go"
    refine ⟨p, _, rfl, .inl (SqL.of hpg.lst), ?_⟩
    walk_at "go"
    rw [List.length_map]
    refine ifn (fun hi => ?_) (fun hi => ?_)
    · walk_at "go"
      refine ⟨i, rfl, Nat.lt_trans ib b43, fun z => ?_⟩
      walk_at "go"
      refine mkT fun du hdu => ?_
      walk_at "go"
      refine mkT fun t ht => ?_
      exact bad (Same.refl H) (.drop1 (by rw [← ln]; exact fun x => hi x.2)) qq hdu ht
    walk_at "go"
    refine g_ixL (SqL.of hq) at0 ?_
    walk_at "go"
    refine ifT (by decide) ?_
    walk_at "go"
    obtain ⟨ix, rfl⟩ := Int.eq_ofNat_of_zero_le h0
    refine mkT fun du hdu => ?_
    have kd := same_new (o := .lst []) hdu
    walk_at "go"
    refine ⟨p, _, rfl, SqL.of (kd _ _ hpg.lst), fun p1 hp1 => ?_⟩
    rw [cut_take]
    have k1 := same_new (o := .lst (refsOf (as.take ix))) hp1
    walk_at "go"
    refine ⟨p, _, rfl, SqL.of (k1 _ _ (kd _ _ hpg.lst)), fun p2 hp2 => ?_⟩
    rw [cut_drop]
    have k2 := same_new (o := .lst (refsOf (as.drop (ix + 1)))) hp2
    have tl := hpg.len
    have l1 := List.length_take_le' ix as
    have l2 : (as.drop (ix + 1)).length ≤ as.length := by rw [List.length_drop]; omega
    refine ⟨p1, p2, _, _, rfl, rfl, k2 _ _ upd_same, upd_same, big_line (by rw [List.length_map, List.length_map]; omega), fun p3 hp3 => ?_⟩
    rw [← refsOf_app]
    have k3 := same_new (o := .lst (refsOf (as.take ix ++ as.drop (ix + 1)))) hp3
    walk_at "go"
    refine mkT fun t ht => ?_
    have k4 := same_new (o := .tup [.ref du, .ref p3]) ht
    have kk := Same.trans kd (Same.trans k1 (Same.trans k2 (Same.trans k3 k4)))
    have n3 : p3 ≠ j := jug_ne (hj.mono (Same.trans kd (Same.trans k1 k2))) hp3
    refine qq _ t du p3 none _ kk upd_same (k4 _ _ (k3 _ _ (k2 _ _ (k1 _ _ upd_same)))) ⟨_, ⟨k4 _ _ upd_same, n3, fun x hx => ?_, fun x hx => ?_, ?_, fun x hx => ?_⟩, rfl⟩ ?_
    · rcases List.mem_append.mp hx with z | z
      · exact (hpg.rt x (List.mem_of_mem_take z)).kd (Kd.same kk)
      · exact (hpg.rt x (List.mem_of_mem_drop z)).kd (Kd.same kk)
    · rcases List.mem_append.mp hx with z | z
      · exact hpg.ok x (List.mem_of_mem_take z)
      · exact hpg.ok x (List.mem_of_mem_drop z)
    · rw [List.length_append, List.length_take, List.length_drop]
      omega
    · rcases List.mem_append.mp hx with z | z
      · exact hpg.four x (List.mem_of_mem_take z)
      · exact hpg.four x (List.mem_of_mem_drop z)
    · rw [rsOf_app, rsOf_take, rsOf_drop]
      exact .drop2 h0 (by rw [← ln]; exact hi)
  · walk_at "go"
    refine g_ixL (SqL.of hq) at0 ?_
    walk_at "go"
    refine ifF (by decide) ?_
    walk_at "go"
    refine g_ixL (SqL.of hq) at1 ?_
    walk_at "go"
    refine ifd (fun h0 => ?_) (fun h0 => ?_)
    rotate_left
    · walk_at "go"
      refine iteT ?_
      walk_at "go"
      refine ⟨i, rfl, Nat.lt_trans ib b43, fun z => ?_⟩
      walk_at "go"
      refine mkT fun du hdu => ?_
      walk_at "go"
      refine mkT fun t ht => ?_
      exact bad (Same.refl H) (.turn1 (by rw [← ln]; exact fun x => h0 x.1)) qq hdu ht
    walk_at "go"
    refine ⟨p, _, rfl, .inl (SqL.of hpg.lst), ?_⟩
    walk_at "go"
    rw [List.length_map]
    refine ifn (fun hi => ?_) (fun hi => ?_)
    · walk_at "go"
      refine ⟨i, rfl, Nat.lt_trans ib b43, fun z => ?_⟩
      walk_at "go"
      refine mkT fun du hdu => ?_
      walk_at "go"
      refine mkT fun t ht => ?_
      exact bad (Same.refl H) (.turn1 (by rw [← ln]; exact fun x => hi x.2)) qq hdu ht
    walk_at "go"
    refine g_ixL (SqL.of hq) at0 ?_
    walk_at "go"
    refine ifF (by decide) ?_
    walk_at "go"
    obtain ⟨ix, rfl⟩ := Int.eq_ofNat_of_zero_le h0
    refine g_ixL (SqL.of hq) at2 ?_
    walk_at "go"
    have il : ix < as.length := by omega
    obtain ⟨r, hr'⟩ : ∃ r, as[ix]? = some r := ⟨_, List.getElem?_eq_getElem il⟩
    have rm := List.mem_of_getElem? hr'
    have hpi : (rsOf as)[((ix : Nat) : Int).toNat]? = some (r.2.1, r.2.2) := by
      rw [Int.toNat_natCast, List.getElem?_map, hr']
      rfl
    obtain ⟨o1, o2, o3, o4⟩ := hpg.ok r rm
    obtain ⟨lr, hr1, hr2, hr3⟩ := hpg.rt r rm
    have badm : ¬ (-20 ≤ m ∧ m ≤ 20) → Beh (.turn ix m) (rsOf as) (some "InvalidDegree") (rsOf as) := fun x => .turn2 h0 hpi x
    refine ifd (fun m0 => ?_) (fun m0 => ?_)
    rotate_left
    · walk_at "go"
      refine iteT ?_
      walk_at "go"
      refine g_ixL (SqL.of hq) at2 ?_
      refine ⟨m, rfl, Nat.lt_trans mb b43, fun z => ?_⟩
      walk_at "go"
      refine mkT fun du hdu => ?_
      walk_at "go"
      refine mkT fun t ht => ?_
      exact bad (Same.refl H) (badm fun x => m0 x.1) qq hdu ht
    walk_at "go"
    refine ifn (fun m1 => ?_) (fun m1 => ?_)
    · walk_at "go"
      refine g_ixL (SqL.of hq) at2 ?_
      refine ⟨m, rfl, Nat.lt_trans mb b43, fun z => ?_⟩
      walk_at "go"
      refine mkT fun du hdu => ?_
      walk_at "go"
      refine mkT fun t ht => ?_
      exact bad (Same.refl H) (badm fun x => m1 x.2) qq hdu ht
    walk_at "go"
    have atr : atI (refsOf as) (ix : Int) = some (.ref r.1) := atI_nat (j := ix) (by rw [List.getElem?_map, hr']; rfl)
    refine g_ixL (SqL.of hpg.lst) atr ?_
    walk_at "go"
    refine g_ixT (SqT.of hr1) at0 ?_
    walk_at "go"
    have hsm := ok_sm o1
    refine ⟨lr, rfl, ⟨_, SqL.of hr2⟩, fun D hD => lc_mul (k := m) hr2 hD (fun z H5 hz k5 R hR => ?_) (fun H5 k5 hD5 => ?_)⟩
    · have zb := hsm.row z hz
      walk_at "go"
      refine ⟨rfl, ?_⟩
      walk_at "go"
      refine iteT ?_
      walk_at "go"
      refine g_ixL (SqL.of (k5 _ _ hq)) (show _ = some (.int m) from at2) ?_
      walk_at "go"
      refine g_I (wide_mul (a := 10) (b := 10) (by omega) (by omega) (by decide) (by decide) (by decide)) ?_
      exact hR H5 (Same.refl H5)
    walk_at "go"
    refine g_ixL (SqL.of (k5 _ _ hpg.lst)) atr ?_
    walk_at "go"
    refine g_ixT (SqT.of (k5 _ _ hr1)) at1 ?_
    walk_at "go"
    refine ⟨_, _, rfl, D, _, r.2.2, rfl, rfl, hD5, (hsm.mul (k := m) (C := 20) (by omega)).le (by decide), o2, o3, fun H6 p6 l6 k6 hp6 hl6 hn6 => ?_⟩
    rw [(lf_raised o4).1] at hl6
    rw [(lf_raised o4).2] at hp6
    walk_at "go"
    refine g_ixT (SqT.of hp6) at0 ?_
    walk_at "go"
    have tb := raised_big (e := r.2.1) (d := r.2.2) (i := m) o1.t o1.b (by omega)
    have hs6 : Sm 2000 (raisedE r.2.1 r.2.2 m) := (hsm.mul (k := m / (Nat.gcd r.2.2 m.natAbs : Nat)) (C := 20) (raised_sm (e := r.2.1) (by omega))).le (by decide)
    refine ⟨_, _, rfl, 1, l6, _, rfl, rfl, .inl rfl, hl6, hs6, fun H7 p7 k7 hp7 => ?_⟩
    rw [Int.one_mul] at hp7
    walk_at "go"
    refine ⟨p7, _, _, rfl, SqT.of hp7, ?_⟩
    walk_at "go"
    refine g_I ⟨by decide, by decide, by decide⟩ ?_
    walk_at "go"
    have k57 := Same.trans k5 (Same.trans k6 k7)
    have mx : ∀ a b : Nat, (if (b : Int) > (a : Int) then (b : Int) else (a : Int)) = ((max a b : Nat) : Int) := fun a b => by
      rw [Nat.max_def]
      split <;> split <;> omega
    rw [mx]
    generalize hM : max (raisedE r.2.1 r.2.2 m).tp (raisedE r.2.1 r.2.2 m).bt = M
    have hMb : M < 10 ^ 4300 := by
      rw [← hM]
      exact Nat.max_lt.mpr tb
    have hMc : M ≤ 10 ^ 30 ↔ (raisedE r.2.1 r.2.2 m).tp ≤ 10 ^ 30 ∧ (raisedE r.2.1 r.2.2 m).bt ≤ 10 ^ 30 := by
      rw [← hM]
      exact Nat.max_le
    refine ifd (fun hb => ?_) (fun hb => ?_)
    · walk_at "go"
      refine ⟨_, rfl, (by rw [Int.natAbs_natCast]; exact hMb), fun z => ?_⟩
      walk_at "go"
      refine mkT fun du hdu => ?_
      walk_at "go"
      refine mkT fun t ht => ?_
      refine bad k57 (.turn3 h0 hpi m0 m1 fun x => ?_) qq hdu ht
      have := hMc.mpr x
      have e30 : (10 : Int) ^ (30 : Int).toNat = ((10 ^ 30 : Nat) : Int) := rfl
      rw [e30] at hb
      omega
    · walk_at "go"
      have hmc := hMc.mp (by
        have e30 : (10 : Int) ^ (30 : Int).toNat = ((10 ^ 30 : Nat) : Int) := rfl
        rw [e30] at hb
        omega)
      refine mkT fun du hdu => ?_
      have kd := same_new (o := .lst []) hdu
      walk_at "go"
      refine ⟨p, _, rfl, SqL.of (kd _ _ (k57 _ _ hpg.lst)), fun p1 hp1 => ?_⟩
      rw [cut_take]
      have k1 := same_new (o := .lst (refsOf (as.take ix))) hp1
      walk_at "go"
      refine mkT fun p2 hp2 => ?_
      have k2 := same_new (o := .lst [.ref p6]) hp2
      have tl := hpg.len
      have l1 := List.length_take_le' ix as
      have l2 : (as.drop (ix + 1)).length ≤ as.length := by rw [List.length_drop]; omega
      refine ⟨p1, p2, _, _, rfl, rfl, k2 _ _ upd_same, upd_same, big_line (by rw [List.length_map]; show _ + 1 ≤ 10000; omega), fun p3 hp3 => ?_⟩
      rw [show refsOf (as.take ix) ++ [V.ref p6] = refsOf (as.take ix ++ [(p6, raisedE r.2.1 r.2.2 m, raisedN r.2.2 m)]) by rw [refsOf_app]; rfl]
      have k3 := same_new (o := .lst (refsOf (as.take ix ++ [(p6, raisedE r.2.1 r.2.2 m, raisedN r.2.2 m)]))) hp3
      walk_at "go"
      refine ⟨p, _, rfl, SqL.of (k3 _ _ (k2 _ _ (k1 _ _ (kd _ _ (k57 _ _ hpg.lst))))), fun p4 hp4 => ?_⟩
      rw [cut_drop]
      have k4 := same_new (o := .lst (refsOf (as.drop (ix + 1)))) hp4
      refine ⟨p3, p4, _, _, rfl, rfl, k4 _ _ upd_same, upd_same, big_line (by rw [List.length_map, List.length_map, List.length_append]; show _ + 1 + _ ≤ 10000; omega), fun p5 hp5 => ?_⟩
      rw [← refsOf_app]
      have k5' := same_new (o := .lst (refsOf (as.take ix ++ [(p6, raisedE r.2.1 r.2.2 m, raisedN r.2.2 m)] ++ as.drop (ix + 1)))) hp5
      walk_at "go"
      refine mkT fun t ht => ?_
      have k6' := same_new (o := .tup [.ref du, .ref p5]) ht
      have k14 := Same.trans kd (Same.trans k1 (Same.trans k2 (Same.trans k3 k4)))
      have k66 := Same.trans k14 (Same.trans k5' k6')
      have kk := Same.trans k57 k66
      have n5 : p5 ≠ j := jug_ne ((hj.mono k57).mono k14) hp5
      have nl6 : l6 ≠ j := jug_ne (hj.mono k5) hn6
      have rp := raised_pos (d := r.2.2) (i := m) o2
      refine qq _ t du p5 none _ kk upd_same (k6' _ _ (k5' _ _ (k4 _ _ (k3 _ _ (k2 _ _ (k1 _ _ upd_same)))))) ⟨_, ⟨k6' _ _ upd_same, n5, fun x hx => ?_, fun x hx => ?_, ?_, fun x hx => ?_⟩, rfl⟩ ?_
      · rcases List.mem_append.mp hx with z | z
        · rcases List.mem_append.mp z with z | z
          · exact (hpg.rt x (List.mem_of_mem_take z)).kd (Kd.same kk)
          · rw [List.mem_singleton.mp z]
            exact ⟨l6, k66 _ _ (k7 _ _ hp6), k66 _ _ (k7 _ _ hl6), nl6⟩
        · exact (hpg.rt x (List.mem_of_mem_drop z)).kd (Kd.same kk)
      · rcases List.mem_append.mp hx with z | z
        · rcases List.mem_append.mp z with z | z
          · exact hpg.ok x (List.mem_of_mem_take z)
          · rw [List.mem_singleton.mp z]
            exact ⟨⟨hmc.1, hmc.2⟩, rp.1, Nat.le_trans rp.2 o3, raised_cop o2 o4⟩
        · exact hpg.ok x (List.mem_of_mem_drop z)
      · rw [List.length_append, List.length_append, List.length_take, List.length_drop]
        show _ + 1 + _ ≤ 5
        omega
      · rcases List.mem_append.mp hx with z | z
        · rcases List.mem_append.mp z with z | z
          · exact hpg.four x (List.mem_of_mem_take z)
          · rw [List.mem_singleton.mp z]
            exact Nat.le_trans rp.2 (hpg.four r rm)
        · exact hpg.four x (List.mem_of_mem_drop z)
      · rw [rsOf_app, rsOf_app, rsOf_take, rsOf_drop]
        exact .turn4 h0 hpi m0 m1 hmc.1 hmc.2
end
end PP
-- text LJ
namespace PP
open PySem PySem.Spec PyProof.Rows L2 LamX TL
section
variable {P : Program} {w : World} {K : PySem.W.Frag} {mg : Str → Option Value} {base : Heap}
theorem DueL.cases {H : Hp} {q : Addr} {due : Option Str} (h : DueL H q due) : ∃ xs, H q = some (.lst xs) ∧ ((due = none ∧ xs = []) ∨ ∃ nm zs, due = some nm ∧ xs = .str nm :: zs) := by
  cases due with
  | none => exact ⟨[], h, .inl ⟨rfl, rfl⟩⟩
  | some nm =>
    obtain ⟨zs, h⟩ := h
    exact ⟨_, h, .inr ⟨nm, _, rfl, rfl⟩⟩
def endS : Option Str → Str
  | none => "ok"
  | some nm => nm
def sp_law_ended : Sp := sp1 fun x H Q _ => ∃ (q : Addr) (due : Option Str), x = .ref q ∧ DueL H q due ∧ ∀ H', Same H H' → Q (.str (endS due)) H'
theorem c_law_ended (T : Tx K mg) : CalX P w K mg base CX0 1 "_law_ended" sp_law_ended [] := by
  refine cal0_of (F_law_ended T) (g_law_ended T) bd_law_ended sc_law_ended len1 (fun cdv A outer s H vs Q E hr h => ?_)
  obtain ⟨_, rfl, q, due, rfl, hq, qq⟩ := h
  obtain ⟨xs, hx, hc⟩ := hq.cases
  refine ⟨_, (pss_one (ps_ret (pe_ifExp (pt_cmpR (op_neE hr.units) (pv 0) (pe_lst pa_nil) (nomark _)) (pe_ix ix_list (pv 0) pe_int (fun _ _ => rfl)) pe_str))), ?_⟩
  walk_at "go"
  refine mkT fun e0 he0 => ?_
  have k0 := same_new (o := .lst []) he0
  refine ⟨q, e0, xs, rfl, rfl, .inr ⟨SqL.of (k0 _ _ hx), SqL.of upd_same⟩, ?_⟩
  rcases hc with ⟨rfl, rfl⟩ | ⟨nm, zs, rfl, rfl⟩
  · walk_at "go"
    refine iteF ?_
    walk_at "go"
    exact qq _ k0
  · walk_at "go"
    refine iteT ?_
    walk_at "go"
    refine g_ixL (SqL.of (k0 _ _ hx)) at0 ?_
    walk_at "go"
    exact qq _ k0
inductive PutD (s : Int) (e : E4) (n : Int) (pg : Rs) : Option Str → Rs → Prop
  | p1 (h : s ≠ 1) : PutD s e n pg (some "InvalidNumber") pg
  | p2 (h : s = 1) (h2 : ¬ (1 ≤ n ∧ n ≤ 60)) : PutD s e n pg (some "InvalidDegree") pg
  | p3 (h : s = 1) (h1 : 1 ≤ n) (h2 : n ≤ 60) (h3 : pg.length = 5) : PutD s e n pg (some "TooGreat") pg
  | p4 (h : s = 1) (h1 : 1 ≤ n) (h2 : n ≤ 60) (h3 : pg.length ≠ 5) : PutD s e n pg none (pg ++ [(lfE e n.toNat, lfN e n.toNat)])
def sp_law_put_due : Sp := sp3 fun x y u H Q _ => ∃ (j pl p : Addr) (s : Int) (e : E4) (pg : Rs) (i : Int) (n : Nat), x = .ref pl ∧ y = .ref p ∧ u = .int i ∧ JugAt H j n ∧ PlanAt j H pl s e ∧ (s = 1 ∨ s = -1) ∧ Ok30 e ∧ PgA j H p pg ∧ (i ≤ 4 ∨ 60 < i) ∧
  ∀ H' t du p' due pg', Same H H' → H' t = some (.tup [.ref du, .ref p']) → DueL H' du due → PgA j H' p' pg' → PutD s e i pg due pg' → Q (.ref t) H'
theorem c_law_put_due (T : Tx K mg) : CalX P w K mg base CX0 4 "_law_put_due" sp_law_put_due [] := by
  refine cal0_of (F_law_put_due T) (g_law_put_due T) bd_law_put_due sc_law_put_due len3 (fun cdv A outer s H vs Q E hr h => ?_)
  obtain ⟨_, _, _, rfl, j, pl, p, sg, e, pg, i, n, rfl, rfl, rfl, hj, hpl, hs, ok, ⟨as, hpg, rfl⟩, i4, qq⟩ := h
  obtain ⟨l, hl1, hl2, hl3⟩ := id hpl
  have ln : as.length = (rsOf as).length := (List.length_map _).symm
  have bad : ∀ {nm : Str} {R : VK}, PutD sg e i (rsOf as) (some nm) (rsOf as) → (∀ (H' : Hp) (t du p' : Addr) (due : Option Str) (pg' : Rs), Same H H' → H' t = some (.tup [.ref du, .ref p']) → DueL H' du due → PgA j H' p' pg' → PutD sg e i (rsOf as) due pg' → R (.ref t) H') →
      ∀ {du t : Addr}, H du = none → (upd H du (.lst [.str nm])) t = none → R (.ref t) (upd (upd H du (.lst [.str nm])) t (.tup [.ref du, .ref p])) := fun {nm R} hb q {du t} hdu ht => by
    have k1 := same_new (o := .lst [.str nm]) hdu
    have k2 := same_new (o := .tup [.ref du, .ref p]) ht
    have kk := Same.trans k1 k2
    exact q _ t du p (some nm) (rsOf as) kk upd_same ⟨[], k2 _ _ upd_same⟩ ⟨as, hpg.kd (Kd.same kk), rfl⟩ hb
  refine ⟨_, (pss_cons (ps_if (pt_cmpR op_lt (pe_ix ix_tup (pv 0) pe_int (fun _ _ => rfl)) pe_int (nomark _)) (pss_one (ps_ret (pe_tup (pa_cons (pe_lst (pa_cons pe_str pa_nil)) (pa_cons (pv 1) pa_nil))))) pss_nil)
      (pss_cons (ps_if (pt_not (pt_chain op_le op_le pe_int (pv 2) pe_int)) (pss_one (ps_ret (pe_tup (pa_cons (pe_lst (pa_cons pe_str pa_nil)) (pa_cons (pv 1) pa_nil))))) pss_nil)
      (pss_one (ps_ret (pe_ifExp (pt_cmpR op_eq (pe_callB call_len_seq (by rfl) (b_len T) (by decide +kernel) (pa_cons (pv 1) pa_nil)) pe_int (nomark _)) (pe_tup (pa_cons (pe_lst (pa_cons pe_str pa_nil)) (pa_cons (pv 1) pa_nil))) (pe_tup (pa_cons (pe_lst pa_nil) (pa_cons (pe_op op_cat (pv 1) (pe_lst (pa_cons (pe_cx (c_law_least T) hr pass0 (pa_cons (pe_ix ix_tup (pv 0) pe_int (fun _ _ => rfl)) (pa_cons (pv 2) pa_nil))) pa_nil))) pa_nil)))))))), ?_⟩
  walk_at "go"
  refine g_ixT (SqT.of hl1) at0 ?_
  walk_at "go"
  rcases hs with rfl | rfl
  rotate_left
  · refine ifT (by decide) ?_
    walk_at "go"
    refine mkT fun du hdu => ?_
    walk_at "go"
    refine mkT fun t ht => ?_
    exact bad (.p1 (by decide)) qq hdu ht
  refine ifF (by decide) ?_
  walk_at "go"
  refine ifd (fun i0 => ?_) (fun i0 => ?_)
  rotate_left
  · walk_at "go"
    refine iteT ?_
    walk_at "go"
    refine mkT fun du hdu => ?_
    walk_at "go"
    refine mkT fun t ht => ?_
    exact bad (.p2 rfl fun x => i0 x.1) qq hdu ht
  walk_at "go"
  refine ifn (fun i1 => ?_) (fun i1 => ?_)
  · walk_at "go"
    refine mkT fun du hdu => ?_
    walk_at "go"
    refine mkT fun t ht => ?_
    exact bad (.p2 rfl fun x => i1 x.2) qq hdu ht
  walk_at "go"
  refine ⟨p, _, rfl, .inl (SqL.of hpg.lst), ?_⟩
  walk_at "go"
  rw [List.length_map]
  refine ifd (fun h5 => ?_) (fun h5 => ?_)
  · walk_at "go"
    refine mkT fun du hdu => ?_
    walk_at "go"
    refine mkT fun t ht => ?_
    exact bad (.p3 rfl i0 i1 (by omega)) qq hdu ht
  · walk_at "go"
    refine mkT fun du hdu => ?_
    have kd := same_new (o := .lst []) hdu
    obtain ⟨m, rfl⟩ := Int.eq_ofNat_of_zero_le (a := i) (by omega)
    have m0 : 1 ≤ m := by omega
    have gp : 0 < Nat.gcd m e.g := Nat.gcd_pos_of_pos_left _ m0
    walk_at "go"
    refine g_ixT (SqT.of (kd _ _ hl1)) at1 ?_
    walk_at "go"
    refine ⟨_, _, rfl, l, e, m, rfl, rfl, kd _ _ hl2, (ok_sm ok).le (by decide), m0, by omega, fun H1 r1 l1 k1 hr1 hll hnl => ?_⟩
    walk_at "go"
    refine mkT fun p2 hp2 => ?_
    have k2 := same_new (o := .lst [.ref r1]) hp2
    have tl := hpg.len
    refine ⟨p, p2, _, _, rfl, rfl, k2 _ _ (k1 _ _ (kd _ _ hpg.lst)), upd_same, big_line (by rw [List.length_map]; show _ + 1 ≤ 10000; omega), fun p3 hp3 => ?_⟩
    rw [show refsOf as ++ [V.ref r1] = refsOf (as ++ [(r1, lfE e m, lfN e m)]) by rw [refsOf_app]; rfl]
    have k3 := same_new (o := .lst (refsOf (as ++ [(r1, lfE e m, lfN e m)]))) hp3
    walk_at "go"
    refine mkT fun t ht => ?_
    have k4 := same_new (o := .tup [.ref du, .ref p3]) ht
    have k24 := Same.trans k2 (Same.trans k3 k4)
    have kk := Same.trans kd (Same.trans k1 k24)
    have n3 : p3 ≠ j := jug_ne (hj.mono (Same.trans kd (Same.trans k1 k2))) hp3
    have nl1 : l1 ≠ j := jug_ne (hj.mono kd) hnl
    refine qq _ t du p3 none _ kk upd_same (k4 _ _ (k3 _ _ (k2 _ _ (k1 _ _ upd_same)))) ⟨_, ⟨k4 _ _ upd_same, n3, fun x hx => ?_, fun x hx => ?_, ?_, fun x hx => ?_⟩, rfl⟩ ?_
    · rcases List.mem_append.mp hx with z | z
      · exact (hpg.rt x z).kd (Kd.same kk)
      · rw [List.mem_singleton.mp z]
        exact ⟨l1, k24 _ _ hr1, k24 _ _ hll, nl1⟩
    · rcases List.mem_append.mp hx with z | z
      · exact hpg.ok x z
      · rw [List.mem_singleton.mp z]
        exact lf_ok ok m0 (by omega)
    · rw [List.length_append]
      show _ + 1 ≤ 5
      omega
    · rcases List.mem_append.mp hx with z | z
      · exact hpg.four x z
      · rw [List.mem_singleton.mp z]
        exact Nat.le_trans lf_le (by omega)
    · rw [rsOf_app]
      exact .p4 rfl i0 i1 (by omega)
end
end PP
-- text LK
namespace PP
open PySem PySem.Spec PyProof.Rows L2 LamX TL
section
variable {P : Program} {w : World} {K : PySem.W.Frag} {mg : Str → Option Value} {base : Heap}
/-! pages -/
def PgsA (j : Addr) (H : Hp) (q : Addr) (L : List Rs) : Prop := ∃ as : List (Addr × Rs), H q = some (.lst (as.map fun x => .ref x.1)) ∧ q ≠ j ∧ (∀ x ∈ as, PgA j H x.1 x.2) ∧ as.map (·.2) = L
theorem PgsA.kd {j : Addr} {H H' : Hp} {q : Addr} {L : List Rs} (h : PgsA j H q L) (k : Kd j H H') : PgsA j H' q L := by
  obtain ⟨as, h1, h2, h3, h4⟩ := h
  exact ⟨as, k.lst _ _ h2 h1, h2, fun x hx => (h3 x hx).kd k, h4⟩
theorem PgsA.last {j : Addr} {H : Hp} {q : Addr} {L : List Rs} {pg : Rs} (h : PgsA j H q (L ++ [pg])) : ∃ (as : List (Addr × Rs)) (p : Addr), H q = some (.lst ((as.map fun x => V.ref x.1) ++ [.ref p])) ∧ q ≠ j ∧ (∀ x ∈ as, PgA j H x.1 x.2) ∧ PgA j H p pg ∧ as.map (·.2) = L := by
  obtain ⟨as, h1, h2, h3, h4⟩ := h
  rcases List.eq_nil_or_concat as with z | ⟨bs, b, rfl⟩
  · rw [z] at h4
    cases L <;> cases h4
  · rw [List.concat_eq_append] at h1 h3 h4
    rw [List.map_append] at h1 h4
    obtain ⟨e1, e2⟩ := List.append_inj' h4 rfl
    refine ⟨bs, b.1, h1, h2, fun x hx => h3 x (List.mem_append_left _ hx), ?_, e1⟩
    have := h3 b (List.mem_append_right _ (List.mem_singleton.mpr rfl))
    rw [show b.2 = pg from (List.cons.inj e2).1] at this
    exact this
/-- what a line that changes does -/
inductive Chg : Ln → Sta → Option Str → Rs → Prop
  | put {z : Sta} {n : Int} {due : Option Str} {pg : Rs} (h : PutD z.s z.e n z.pg due pg) : Chg (.put n) z due pg
  | beh {z : Sta} {l : Ln} {due : Option Str} {pg : Rs} (h : Beh l z.pg due pg) : Chg l z due pg
def Sta.after (z : Sta) (due : Option Str) (pg : Rs) : Sta := match due with
  | none => { z with pg := pg, pgs := z.pgs ++ [z.pg] }
  | some _ => z
theorem Chg.step {l : Ln} {z : Sta} {due : Option Str} {pg : Rs} (h : Chg l z due pg) : Step l z (endS due) (z.after due pg) := by
  cases h with
  | put h => 
    cases h with
    | p1 h => exact .put1 h
    | p2 h h2 => exact .put2 h h2
    | p3 h h1 h2 h3 => exact .put3 h h1 h2 h3
    | p4 h h1 h2 h3 => exact .put4 h h1 h2 h3
  | beh h =>
    cases h with
    | drop1 h => exact .drop1 h
    | drop2 h1 h2 => exact .drop2 h1 h2
    | turn1 h => exact .turn1 h
    | turn2 h1 h2 h => exact .turn2 h1 h2 h
    | turn3 h1 h2 h3 h4 h => exact .turn3 h1 h2 h3 h4 h
    | turn4 h1 h2 h3 h4 h5 h6 => exact .turn4 h1 h2 h3 h4 h5 h6
def DeedOk : Ln → Prop
  | .put n => n.natAbs < 10 ^ 40 ∧ (n ≤ 4 ∨ 60 < n)
  | .drop i => i.natAbs < 10 ^ 40
  | .turn i m => i.natAbs < 10 ^ 40 ∧ m.natAbs < 10 ^ 40
  | .undo => True
  | _ => False
theorem shp_undo : SeqAt.shaped (.list [.str "undo"]) = true := by simp [SeqAt.shaped, PyData.canLay0, PyData.canLayAll0, PyData.depth, PyData.depthAll]; decide +kernel
def sp_law_stepped : Sp := sp3 fun x y u H Q _ => ∃ (j pl q dq : Addr) (z : Sta) (l : Ln) (n : Nat), x = .ref pl ∧ y = .ref q ∧ u = .ref dq ∧ JugAt H j n ∧ PlanAt j H pl z.s z.e ∧ (z.s = 1 ∨ z.s = -1) ∧ Ok30 z.e ∧ PgsA j H q (z.pgs ++ [z.pg]) ∧ z.pgs.length ≤ 1000 ∧ H dq = some (.lst (deedL l)) ∧ DeedOk l ∧
  ∀ H' t q' a z', Same H H' → H' t = some (.tup [.str a, .ref q']) → PgsA j H' q' (z'.pgs ++ [z'.pg]) → Step l z a z' → z'.s = z.s → z'.e = z.e → z'.pgs.length ≤ z.pgs.length + 1 → Q (.ref t) H'
theorem c_law_stepped (T : Tx K mg) (hdig : PySem.W.nsIn K cStatics "sys.int_max_str_digits" = some none) : CalX P w K mg base CX0 5 "_law_stepped" sp_law_stepped [] := by
  refine cal0_of (F_law_stepped T) (g_law_stepped T) bd_law_stepped sc_law_stepped len3 (fun cdv A outer s H vs Q E hr h => ?_)
  obtain ⟨_, _, _, rfl, j, pl, q, dq, z, l, n, rfl, rfl, rfl, hj, hpl, hs, ok, hpg, pgl, hdq, hl, qq⟩ := h
  obtain ⟨as, p, hq, qj, has, hp, eL⟩ := id hpg.last
  have aln : as.length = z.pgs.length := by rw [← eL, List.length_map]
  refine ⟨_, (pss_cons (ps_if (pt_cmpR (op_eqD hr.units) (pv 2) (pe_lst (pa_cons pe_str pa_nil)) (nomark _)) (pss_one (ps_ret (pe_ifExp (pt_cmpR op_gt (pe_callB call_len_seq (by rfl) (b_len T) (by decide +kernel) (pa_cons (pv 1) pa_nil)) pe_int (nomark _)) (pe_tup (pa_cons pe_str (pa_cons (pe_slice sl_list (pv 1) po_none (po_some (pe_un un_neg pe_int))) pa_nil))) (pe_tup (pa_cons pe_str (pa_cons (pv 1) pa_nil)))))) pss_nil)
      (pss_cons (ps_asg (pe_ifExp (pt_cmpR op_eq (pe_ix ix_list (pv 2) pe_int (fun _ _ => rfl)) pe_str (nomark _)) (pe_cx (c_law_put_due T) hr pass0 (pa_cons (pv 0) (pa_cons (pe_ix ix_list (pv 1) (pe_un un_neg pe_int) (fun _ _ => rfl)) (pa_cons (pe_ix ix_list (pv 2) pe_int (fun _ _ => rfl)) pa_nil)))) (pe_cx (c_law_behind T hdig) hr pass0 (pa_cons (pe_ix ix_list (pv 1) (pe_un un_neg pe_int) (fun _ _ => rfl)) (pa_cons (pv 2) pa_nil)))) (pg_tup rfl (pgs_cons (pg_name (i := 3) sc_law_stepped.nd rfl (Or.inl rfl)) (pgs_cons (pg_name (i := 4) sc_law_stepped.nd rfl (Or.inl rfl)) pgs_nil))))
      (pss_one (ps_ret (pe_tup (pa_cons (pe_cx (c_law_ended T) hr pass0 (pa_cons (pv 3) pa_nil)) (pa_cons (pe_op op_cat (pv 1) (pe_ifExp (pt_cmpR (op_eqE hr.units) (pv 3) (pe_lst pa_nil) (nomark _)) (pe_lst (pa_cons (pv 4) pa_nil)) (pe_lst pa_nil))) pa_nil))))))), ?_⟩
  walk_at "go"
  refine mkT fun u0 hu0 => ?_
  have k0 := same_new (o := .lst [.str "undo"]) hu0
  have al : atI ((as.map fun x => V.ref x.1) ++ [.ref p]) (-1) = some (.ref p) := atI_last _ _
  have key : (l = .undo ∧ Dp K (upd H u0 (.lst [.str "undo"])) (.ref dq) (.list [.str "undo"])) ∨ (l ≠ .undo ∧ ∃ d, Dp K (upd H u0 (.lst [.str "undo"])) (.ref dq) d ∧ SeqAt.shaped d = true ∧ PyData.eqv d (.list [.str "undo"]) = false) := by
    have hd := k0 _ _ hdq
    cases l with
    | undo => exact .inl ⟨rfl, .lst (SqL.of hd) (.cons (.str _) .nil)⟩
    | put n => exact .inr ⟨by simp, _, .lst (SqL.of hd) (.cons (.str _) (.cons (.int _) .nil)), (by simp [SeqAt.shaped, PyData.canLay0, PyData.canLayAll0, PyData.depth, PyData.depthAll]; decide +kernel), by simp [PyData.eqv, PyData.eqvAll]⟩
    | drop i => exact .inr ⟨by simp, _, .lst (SqL.of hd) (.cons (.str _) (.cons (.int _) .nil)), (by simp [SeqAt.shaped, PyData.canLay0, PyData.canLayAll0, PyData.depth, PyData.depthAll]; decide +kernel), by simp [PyData.eqv, PyData.eqvAll]⟩
    | turn i m => exact .inr ⟨by simp, _, .lst (SqL.of hd) (.cons (.str _) (.cons (.int _) (.cons (.int _) .nil))), (by simp [SeqAt.shaped, PyData.canLay0, PyData.canLayAll0, PyData.depth, PyData.depthAll]; decide +kernel), by simp [PyData.eqv, PyData.eqvAll]⟩
    | _ => exact hl.elim
  rcases key with ⟨rfl, hD⟩ | ⟨nu, d, hD, hsh, hne⟩
  · refine ⟨_, _, hD, .lst (SqL.of upd_same) (.cons (.str _) .nil), shp_undo, shp_undo, ?_⟩
    rw [show PyData.eqv (.list [.str "undo"]) (.list [.str "undo"]) = true from rfl]
    walk_at "go"
    refine iteT ?_
    walk_at "go"
    refine ⟨q, _, rfl, .inl (SqL.of (k0 _ _ hq)), ?_⟩
    walk_at "go"
    rw [List.length_append, List.length_map, List.length_singleton]
    refine ifd (fun h1 => ?_) (fun h1 => ?_)
    · walk_at "go"
      refine ⟨q, _, rfl, SqL.of (k0 _ _ hq), fun p1 hp1 => ?_⟩
      rw [cut_last]
      have k1 := same_new (o := .lst (as.map fun x => V.ref x.1)) hp1
      walk_at "go"
      refine mkT fun t ht => ?_
      have k2 := same_new (o := .tup [.str "ok", .ref p1]) ht
      have kk := Same.trans k0 (Same.trans k1 k2)
      have n1 : p1 ≠ j := jug_ne (hj.mono k0) hp1
      rcases List.eq_nil_or_concat z.pgs with e0 | ⟨ps, p0, e0⟩
      · rw [e0] at aln
        rw [aln] at h1
        exact absurd h1 (by decide)
      · rw [List.concat_eq_append] at e0
        exact qq _ t p1 "ok" { z with pg := p0, pgs := ps } kk upd_same ⟨as, k2 _ _ upd_same, n1, fun x hx => (has x hx).kd (Kd.same kk), eL.trans e0⟩ (.undo1 e0) rfl rfl (by rw [e0, List.length_append]; show ps.length ≤ ps.length + 1 + 1; omega)
    · walk_at "go"
      refine mkT fun t ht => ?_
      have k2 := same_new (o := .tup [.str "NothingToUndo", .ref q]) ht
      have kk := Same.trans k0 k2
      have e0 : z.pgs = [] := List.eq_nil_of_length_eq_zero (by omega)
      exact qq _ t q "NothingToUndo" z kk upd_same (hpg.kd (Kd.same kk)) (.undo0 e0) rfl rfl (Nat.le_succ _)
  · refine ⟨_, _, hD, .lst (SqL.of upd_same) (.cons (.str _) .nil), hsh, shp_undo, ?_⟩
    rw [hne]
    walk_at "go"
    refine iteF ?_
    refine g_next (g_seq (g_asg ((fun (h : ∀ R : VK, (∀ (H' : Hp) (t du p' : Addr) (due : Option Str) (pg' : Rs), Same H H' → H' t = some (.tup [.ref du, .ref p']) → DueL H' du due → PgA j H' p' pg' → Chg l z due pg' → R (.ref t) H') → tIf _ _ _ _ _ R) => h _ ?_) ?_)))
    · intro H1 t du p' due pg' k1 ht hdu hp' hch
      refine g_gtup (SqT.of ht) rfl ?_
      walk_at "go"
      refine ⟨_, rfl, du, due, rfl, hdu, fun H2 k2 => ?_⟩
      walk_at "go"
      refine mkT fun v0 hv0 => ?_
      have kv := same_new (o := .lst []) hv0
      have k12 := Same.trans k1 k2
      obtain ⟨xs, hx, hc⟩ := hdu.cases
      refine ⟨du, v0, xs, rfl, rfl, .inr ⟨SqL.of (kv _ _ (k2 _ _ hx)), SqL.of upd_same⟩, ?_⟩
      have len1 : (as.map (fun x => V.ref x.1) ++ [V.ref p]).length ≤ 1001 := by
        rw [List.length_append, List.length_map]
        show _ + 1 ≤ 1001
        omega
      rcases hc with ⟨rfl, rfl⟩ | ⟨nm, zs, rfl, rfl⟩
      · walk_at "go"
        refine iteT ?_
        walk_at "go"
        refine mkT fun p2 hp2 => ?_
        have k3 := same_new (o := .lst [.ref p']) hp2
        refine ⟨q, p2, _, _, rfl, rfl, k3 _ _ (kv _ _ (k12 _ _ hq)), upd_same, big_line (by show _ + 1 ≤ 10000; omega), fun p3 hp3 => ?_⟩
        have k4 := same_new (o := .lst ((as.map fun x => V.ref x.1) ++ [.ref p] ++ [.ref p'])) hp3
        walk_at "go"
        refine mkT fun t2 ht2 => ?_
        have k5 := same_new (o := .tup [.str "ok", .ref p3]) ht2
        have kk := Same.trans k12 (Same.trans kv (Same.trans k3 (Same.trans k4 k5)))
        have n3 : p3 ≠ j := jug_ne ((hj.mono k12).mono (Same.trans kv k3)) hp3
        have kq := Same.trans k2 (Same.trans kv (Same.trans k3 (Same.trans k4 k5)))
        refine qq _ t2 p3 _ (z.after none pg') kk upd_same ⟨as ++ [(p, z.pg)] ++ [(p', pg')], ?_, n3, fun x hx => ?_, ?_⟩ hch.step rfl rfl (by show (z.pgs ++ [z.pg]).length ≤ _; rw [List.length_append]; exact Nat.le_refl _)
        · rw [List.map_append, List.map_append]
          exact k5 _ _ upd_same
        · rcases List.mem_append.mp hx with y | y
          · rcases List.mem_append.mp y with y | y
            · exact (has x y).kd (Kd.same kk)
            · rw [List.mem_singleton.mp y]
              exact hp.kd (Kd.same kk)
          · rw [List.mem_singleton.mp y]
            exact hp'.kd (Kd.same kq)
        · rw [List.map_append, List.map_append, eL]
          rfl
      · walk_at "go"
        refine iteF ?_
        walk_at "go"
        refine mkT fun p2 hp2 => ?_
        have k3 := same_new (o := .lst []) hp2
        refine ⟨q, p2, _, _, rfl, rfl, k3 _ _ (kv _ _ (k12 _ _ hq)), upd_same, big_line (by show _ + 0 ≤ 10000; omega), fun p3 hp3 => ?_⟩
        rw [List.append_nil]
        have k4 := same_new (o := .lst ((as.map fun x => V.ref x.1) ++ [.ref p])) hp3
        walk_at "go"
        refine mkT fun t2 ht2 => ?_
        have k5 := same_new (o := .tup [.str (endS (some nm)), .ref p3]) ht2
        have kk := Same.trans k12 (Same.trans kv (Same.trans k3 (Same.trans k4 k5)))
        have n3 : p3 ≠ j := jug_ne ((hj.mono k12).mono (Same.trans kv k3)) hp3
        refine qq _ t2 p3 _ (z.after (some nm) pg') kk upd_same ⟨as ++ [(p, z.pg)], ?_, n3, fun x hx => ?_, ?_⟩ hch.step rfl rfl (Nat.le_succ _)
        · rw [List.map_append]
          exact k5 _ _ upd_same
        · rcases List.mem_append.mp hx with y | y
          · exact (has x y).kd (Kd.same kk)
          · rw [List.mem_singleton.mp y]
            exact hp.kd (Kd.same kk)
        · rw [List.map_append, eL]
          rfl
    · intro R hR
      cases l with
      | put n =>
        walk_at "go"
        refine g_ixL (SqL.of (k0 _ _ hdq)) at0 ?_
        walk_at "go"
        refine ifT (by decide) ?_
        walk_at "go"
        refine g_ixL (SqL.of (k0 _ _ hq)) al ?_
        walk_at "go"
        refine g_ixL (SqL.of (k0 _ _ hdq)) at1 ?_
        walk_at "go"
        refine ⟨_, _, _, rfl, j, pl, p, z.s, z.e, z.pg, n, _, rfl, rfl, rfl, hj.mono k0, hpl.kd (Kd.same k0), hs, ok, hp.kd (Kd.same k0), hl.2, fun H' t du p' due pg' k ht hdu hpp hd => ?_⟩
        exact hR H' t du p' due pg' (Same.trans k0 k) ht hdu hpp (.put hd)
      | drop i =>
        walk_at "go"
        refine g_ixL (SqL.of (k0 _ _ hdq)) at0 ?_
        walk_at "go"
        refine ifF (by decide) ?_
        walk_at "go"
        refine g_ixL (SqL.of (k0 _ _ hq)) al ?_
        walk_at "go"
        refine ⟨_, _, rfl, j, p, dq, z.pg, _, _, rfl, rfl, hj.mono k0, hp.kd (Kd.same k0), k0 _ _ hdq, .inl ⟨i, rfl, hl⟩, fun H' t du p' due pg' k ht hdu hpp hd => ?_⟩
        exact hR H' t du p' due pg' (Same.trans k0 k) ht hdu hpp (.beh hd)
      | turn i m =>
        walk_at "go"
        refine g_ixL (SqL.of (k0 _ _ hdq)) at0 ?_
        walk_at "go"
        refine ifF (by decide) ?_
        walk_at "go"
        refine g_ixL (SqL.of (k0 _ _ hq)) al ?_
        walk_at "go"
        refine ⟨_, _, rfl, j, p, dq, z.pg, _, _, rfl, rfl, hj.mono k0, hp.kd (Kd.same k0), k0 _ _ hdq, .inr ⟨i, m, rfl, hl⟩, fun H' t du p' due pg' k ht hdu hpp hd => ?_⟩
        exact hR H' t du p' due pg' (Same.trans k0 k) ht hdu hpp (.beh hd)
      | undo => exact absurd rfl nu
      | _ => exact hl.elim
end
end PP
-- text LN
namespace PP
open PySem PySem.Spec PyProof.Rows L2 LamX TL
section
variable {P : Program} {w : World} {K : PySem.W.Frag} {mg : Str → Option Value} {base : Heap}
theorem next_ex {s : Int} {e : E4} {n : Nat} (h : ¬ Alw s e) (hg : e.g ≤ 100) : ∃ m, n < m ∧ m ≤ n + 100 ∧ Spl s e m := by
  obtain ⟨j, j0, j1, hj⟩ := alw_spl2 h hg
  have h1 := (next_mul (n := n) j0).1
  have h2 := spl_mul hj j0 (by omega : 0 < (n / j + 1) * j) (Nat.dvd_mul_left _ _)
  have h3 := Nat.div_add_mod n j
  have e1 : (n / j + 1) * j = j * (n / j) + j := by rw [Nat.add_mul, Nat.mul_comm (n / j) j, Nat.one_mul]
  exact ⟨_, h1, by omega, h2⟩
def sp_law_next : Sp := sp2 fun x y H Q _ => ∃ (p : Addr) (s : Int) (e : E4) (n : Nat), x = .ref p ∧ y = .int (n : Int) ∧ (s = 1 ∨ s = -1) ∧ PlanR H p s e ∧ Sm 100 e ∧ e.g ≤ 100 ∧ 1 ≤ n ∧ n ≤ 10 ^ 30 ∧
  (Alw s e → ∀ H', Same H H' → Q (.str "never") H') ∧ (¬ Alw s e → ∀ H' m, Same H H' → Next s e n m → Q (.str (iS (m : Int))) H')
theorem c_law_next (T : Tx K mg) : CalX P w K mg base CX0 4 "_law_next" sp_law_next [] := by
  refine cal0_of (F_law_next T) (g_law_next T) bd_law_next sc_law_next len2 (fun cdv A outer s H vs Q E hr h => ?_)
  obtain ⟨_, _, rfl, p, sg, e, n, rfl, rfl, hs, hpl, hsm, hg, n0, n1, q1, q2⟩ := h
  refine ⟨_, (pss_cons (ps_if (pt_val (pe_cx (c_law_is_always T) hr pass0 (pa_cons (pv 0) pa_nil))) (pss_one (ps_ret pe_str)) pss_nil)
      (pss_cons (ps_for PassesOwn.never rfl (pi_range2 rfl (b_range T) (pa_cons pe_int (pa_cons pe_int pa_nil))) (pg_name (i := 2) sc_law_next.nd rfl (Or.inl rfl)) (pss_one (ps_if (pt_val (pe_cx (c_law_splits T) hr pass0 (pa_cons (pv 0) (pa_cons (pe_op op_add (pv 1) (pv 2)) pa_nil)))) (pss_one (ps_ret (pe_callTy call_str_int (by rfl) (b_str T) (by decide +kernel) (pa_cons (pe_op op_add (pv 1) (pv 2)) pa_nil)))) pss_nil)))
      (pss_one (ps_ret pe_str)))), ?_⟩
  walk_at "go"
  refine ⟨_, rfl, p, sg, e, rfl, hs, hpl, hsm, fun H1 k1 => ?_⟩
  walk_at "go"
  refine ifd (fun ha => ?_) (fun ha => ?_)
  · walk_at "go"
    exact q1 ha H1 k1
  walk_at "go"
  refine ⟨1, 200, rfl, by decide, forR (lo := 1) (n := 199) (fun i σ' H' => Same H H' ∧ (∃ v : Option V, σ' = [some (.ref p), some (.int (n : Int)), v]) ∧ ∀ k, n < k → k ≤ n + i → ¬ Spl sg e k) ⟨k1, ⟨none, rfl⟩, fun k h1 h2 => absurd h1 (by omega)⟩ (fun i σ' H' hi h => ?_) (fun σ' H' h => ?_)⟩
  · obtain ⟨k, ⟨v, rfl⟩, hn⟩ := h
    walk_at "go"
    rw [show (n : Int) + (1 + (i : Int)) = ((n + (i + 1) : Nat) : Int) by omega]
    refine ⟨_, _, rfl, p, sg, e, n + (i + 1), rfl, rfl, hs, hpl.mono k, hsm.le (by decide), by omega, by omega, fun H2 k2 => ?_⟩
    walk_at "go"
    refine ifd (fun hp => ?_) (fun hp => ?_)
    · walk_at "go"
      rw [show (n : Int) + (1 + (i : Int)) = ((n + (i + 1) : Nat) : Int) by omega]
      refine ⟨_, rfl, Nat.lt_trans (log_of (B := 120) (by decide) (by omega)) (by decide), ?_⟩
      exact q2 ha H2 _ (Same.trans k k2) ⟨by omega, hp, fun k h1 h2 => hn k h1 (by omega)⟩
    · walk_at "go"
      refine ⟨Same.trans k k2, ⟨_, rfl⟩, fun k' h1 h2 => ?_⟩
      rcases Nat.lt_or_ge (n + i) k' with z | z
      · rw [show k' = n + (i + 1) by omega]
        exact hp
      · exact hn k' h1 z
  · obtain ⟨k, ⟨v, rfl⟩, hn⟩ := h
    obtain ⟨m, m1, m2, m3⟩ := next_ex (n := n) ha hg
    exact absurd m3 (hn m m1 (Nat.le_trans m2 (by show _ ≤ n + 199; omega)))
end
end PP
-- text LO
namespace PP
open PySem PySem.Spec PyProof.Rows L2 LamX TL
section
variable {P : Program} {w : World} {K : PySem.W.Frag} {mg : Str → Option Value} {base : Heap}
theorem join3 {y p q r : Str} : Txt.join y [p, q, r] = p ++ y ++ (q ++ y ++ r) := join_eq y [p, q, r]
theorem tx_put {n : Int} : ("put " : Str) ++ iS n = (Ln.put n).text := by
  show _ = Txt.join " " ["put", iS n]
  rw [join2]
  rfl
theorem tx_drop {n : Int} : ("drop " : Str) ++ iS n = (Ln.drop n).text := by
  show _ = Txt.join " " ["drop", iS n]
  rw [join2]
  rfl
theorem tx_splits {n : Int} : ("splits" : Str) ++ (" " : Str) ++ iS n = (Ln.splits n).text := by
  show _ = Txt.join " " ["splits", iS n]
  rw [join2]
theorem tx_next {n : Int} : ("next" : Str) ++ (" " : Str) ++ iS n = (Ln.next n).text := by
  show _ = Txt.join " " ["next", iS n]
  rw [join2]
theorem tx_turn {n m : Int} : ("turn " : Str) ++ iS n ++ (" " : Str) ++ iS m = (Ln.turn n m).text := by
  show _ = Txt.join " " ["turn", iS n, iS m]
  rw [join3, Str.append_assoc, Str.append_assoc, Str.append_assoc, ← Str.append_assoc (iS n), ← Str.append_assoc (Str.ofString "turn")]
  rfl
theorem tx_one {x : Str} : x = Txt.join " " [x] := join1.symm
def sp_law_line : Sp := sp2 fun x y H Q _ => ∃ (j p : Addr) (pg : Rs) (n : Nat), x = .ref j ∧ y = .ref p ∧ JugAt H j (n + 60) ∧ PgA j H p pg ∧
  ∀ H' t dq l, LnOk l → (deedL l ≠ [] → DeedOk l) → (∀ s e, l ≠ .take s e) → Kp [j] H H' → JugAt H' j n → H' t = some (.tup [.str l.text, .ref dq]) → H' dq = some (.lst (deedL l)) → Q (.ref t) H'
theorem c_law_line (T : Tx K mg) : CalX P w K mg base CX0 4 "_law_line" sp_law_line [] := by
  refine cal0_of (F_law_line T) (g_law_line T) bd_law_line sc_law_line len2 (fun cdv A outer s H vs Q E hr h => ?_)
  obtain ⟨_, _, rfl, j, p, pg, n, rfl, rfl, hj, ⟨as, hpg, epg⟩, q⟩ := h
  refine ⟨_, (pss_cons (ps_par (i := 2) (j := 3) (by rfl) sc_law_line.nd rfl rfl (by decide) rfl rfl (pa_cons (pe_cx (c_law_pull T) hr pass0 (pa_cons (pv 0) (pa_cons pe_int pa_nil))) (pa_cons (pe_cx (c_law_one_of T) hr pass0 (pa_cons (pv 0) (pa_cons (pe_lst (pa_cons pe_int (pa_cons pe_int (pa_cons pe_int (pa_cons pe_int (pa_cons (pe_op op_sub (pe_callB call_len_seq (by rfl) (b_len T) (by decide +kernel) (pa_cons (pv 1) pa_nil)) pe_int) (pa_cons (pe_callB call_len_seq (by rfl) (b_len T) (by decide +kernel) (pa_cons (pv 1) pa_nil)) (pa_cons (pe_un un_neg pe_int) pa_nil)))))))) pa_nil))) pa_nil)) (by rfl))
      (pss_cons (ps_if (pt_cmpR op_lt (pv 2) pe_int (nomark _)) (pss_cons (ps_set (i := 4) sc_law_line.nd rfl (Or.inl rfl) (pe_cx (c_law_one_of T) hr pass0 (pa_cons (pv 0) (pa_cons (pe_lst (pa_cons pe_int (pa_cons pe_int (pa_cons pe_int (pa_cons pe_int (pa_cons pe_int (pa_cons pe_int (pa_cons pe_int (pa_cons pe_int (pa_cons pe_int (pa_cons (pe_un un_neg pe_int) (pa_cons (pe_op op_pow pe_int pe_int) pa_nil)))))))))))) pa_nil))))
      (pss_one (ps_ret (pe_tup (pa_cons (pe_op op_add_str pe_str (pe_callTy call_str_int (by rfl) (b_str T) (by decide +kernel) (pa_cons (pv 4) pa_nil))) (pa_cons (pe_lst (pa_cons pe_str (pa_cons (pv 4) pa_nil))) pa_nil)))))) pss_nil)
      (pss_cons (ps_if (pt_cmpR op_eq (pv 2) pe_int (nomark _)) (pss_one (ps_ret (pe_tup (pa_cons (pe_op op_add_str pe_str (pe_callTy call_str_int (by rfl) (b_str T) (by decide +kernel) (pa_cons (pv 3) pa_nil))) (pa_cons (pe_lst (pa_cons pe_str (pa_cons (pv 3) pa_nil))) pa_nil))))) pss_nil)
      (pss_cons (ps_if (pt_cmpR op_eq (pv 2) pe_int (nomark _)) (pss_cons (ps_set (i := 5) sc_law_line.nd rfl (Or.inl rfl) (pe_cx (c_law_one_of T) hr pass0 (pa_cons (pv 0) (pa_cons (pe_lst (pa_cons pe_int (pa_cons pe_int (pa_cons pe_int (pa_cons pe_int (pa_cons (pe_un un_neg pe_int) (pa_cons (pe_un un_neg pe_int) (pa_cons pe_int (pa_cons pe_int (pa_cons pe_int (pa_cons (pe_un un_neg pe_int) pa_nil))))))))))) pa_nil))))
      (pss_one (ps_ret (pe_tup (pa_cons (pe_op op_add_str (pe_op op_add_str (pe_op op_add_str pe_str (pe_callTy call_str_int (by rfl) (b_str T) (by decide +kernel) (pa_cons (pv 3) pa_nil))) pe_str) (pe_callTy call_str_int (by rfl) (b_str T) (by decide +kernel) (pa_cons (pv 5) pa_nil))) (pa_cons (pe_lst (pa_cons pe_str (pa_cons (pv 3) (pa_cons (pv 5) pa_nil)))) pa_nil)))))) pss_nil)
      (pss_cons (ps_if (pt_cmpR op_eq (pv 2) pe_int (nomark _)) (pss_one (ps_ret (pe_tup (pa_cons pe_str (pa_cons (pe_lst (pa_cons pe_str pa_nil)) pa_nil))))) pss_nil)
      (pss_cons (ps_set (i := 4) sc_law_line.nd rfl (Or.inl rfl) (pe_cx (c_law_one_of T) hr pass0 (pa_cons (pv 0) (pa_cons (pe_lst (pa_cons (pe_cx (c_law_some_n T) hr pass0 (pa_cons (pv 0) pa_nil)) (pa_cons (pe_cx (c_law_some_n T) hr pass0 (pa_cons (pv 0) pa_nil)) (pa_cons pe_int (pa_cons (pe_un un_neg pe_int) (pa_cons (pe_op op_add (pe_op op_pow pe_int pe_int) pe_int) pa_nil)))))) pa_nil))))
      (pss_cons (ps_set (i := 6) sc_law_line.nd rfl (Or.inl rfl) (pe_cx (c_law_one_of T) hr pass0 (pa_cons (pv 0) (pa_cons (pe_lst (pa_cons pe_str (pa_cons pe_str (pa_cons pe_str (pa_cons pe_str (pa_cons pe_str (pa_cons pe_str (pa_cons pe_str (pa_cons pe_str pa_nil))))))))) pa_nil))))
      (pss_one (ps_ret (pe_tup (pa_cons (pe_ifExp (pt_cmpR op_in_seq (pv 6) (pe_lst (pa_cons pe_str (pa_cons pe_str pa_nil))) (by rfl)) (pe_op op_add_str (pe_op op_add_str (pv 6) pe_str) (pe_callTy call_str_int (by rfl) (b_str T) (by decide +kernel) (pa_cons (pv 4) pa_nil))) (pv 6)) (pa_cons (pe_lst pa_nil) pa_nil)))))))))))), ?_⟩
  walk_at "go"
  refine ⟨_, _, rfl, j, n + 59, 10, rfl, rfl, hj, by decide, by decide, fun way H1 w0 w1 k1 hj1 => ?_⟩
  walk_at "go"
  refine ⟨p, _, rfl, .inl (SqL.of (k1 _ _ (fun z => hpg.ne (List.mem_singleton.mp z)) hpg.lst)), ?_⟩
  walk_at "go"
  refine ⟨p, _, rfl, .inl (SqL.of (k1 _ _ (fun z => hpg.ne (List.mem_singleton.mp z)) hpg.lst)), ?_⟩
  walk_at "go"
  rw [List.length_map]
  have pl := hpg.len
  refine mkT fun ol hol => ?_
  have ko := same_new (o := .lst [.int 0, .int 0, .int 1, .int 2, .int ((as.length : Int) - 1), .int (as.length : Int), .int (-1)]) hol
  have nol := jug_ne hj1 hol
  refine ⟨_, _, rfl, j, ol, n + 58, _, rfl, rfl, hj1.mono ko, SqL.of upd_same, nol, upd_same, Nat.succ_pos _, (by show (7 : Nat) ≤ 1000; decide), fun v H2 hv k2 hj2 => ?_⟩
  obtain ⟨at', rfl, ha⟩ : ∃ at' : Int, v = .int at' ∧ at'.natAbs ≤ 10 := by
    simp only [List.mem_cons, List.not_mem_nil, or_false] at hv
    rcases hv with rfl | rfl | rfl | rfl | rfl | rfl | rfl
    all_goals exact ⟨_, rfl, by omega⟩
  have kk : Kp [j] H H2 := Kp.trans k1 (Kp.trans (Kp.of ko) k2)
  have fin : ∀ (l : Ln) (H' : Hp) (dq m : Nat), LnOk l → (deedL l ≠ [] → DeedOk l) → (∀ s e, l ≠ .take s e) → Kp [j] H2 H' → JugAt H' j (n + m) → H' dq = none → ∀ t, (upd H' dq (.lst (deedL l))) t = none → Q (.ref t) (upd (upd H' dq (.lst (deedL l))) t (.tup [.str l.text, .ref dq])) := fun l H' dq m h1 hdk h2 k hj' hdq t ht => by
    have kp := same_new (o := .lst (deedL l)) hdq
    have kp2 := same_new (o := .tup [.str l.text, .ref dq]) ht
    exact q _ t dq l h1 hdk h2 (Kp.trans kk (Kp.trans k (Kp.of (Same.trans kp kp2)))) ((hj'.less (by omega)).mono (Same.trans kp kp2)) upd_same (kp2 _ _ upd_same)
  have isl : ∀ i : Int, i.natAbs < 2 ^ 120 → i.natAbs.log2 < 1920 ∧ (Str.ofString (toString i)).length ≤ 1921 := fun i hi => by
    have := log_of (B := 120) (by decide) hi
    have h2 : i.natAbs.log2 < 1920 := Nat.lt_trans this (by decide)
    exact ⟨h2, iS_len h2⟩
  have c4 : (Str.ofString "put ").length = 4 := by decide
  have c5 : (Str.ofString "drop ").length = 5 := by decide
  have c6 : (Str.ofString "turn ").length = 5 := by decide
  have c7 : (Str.ofString " ").length = 1 := by decide
  have c8 : (Str.ofString "splits").length = 6 := by decide
  have c9 : (Str.ofString "next").length = 4 := by decide
  walk_at "go"
  refine ifd (fun h0 => ?_) (fun h0 => ?_)
  · walk_at "go"
    refine g_I ⟨by decide, by decide, by decide⟩ ?_
    walk_at "go"
    refine mkT fun al hal => ?_
    have ka := same_new (o := .lst [.int 1, .int 2, .int 2, .int 3, .int 3, .int 4, .int 4, .int 0, .int 61, .int (-2), .int (10 ^ (30 : Int).toNat)]) hal
    refine ⟨_, _, rfl, j, al, n + 57, _, rfl, rfl, hj2.mono ka, SqL.of upd_same, jug_ne hj2 hal, upd_same, Nat.succ_pos _, (by show (11 : Nat) ≤ 1000; decide), fun v H3 hv k3 hj3 => ?_⟩
    obtain ⟨m, rfl, hb, h4⟩ : ∃ i : Int, v = .int i ∧ i.natAbs ≤ 10 ^ 31 ∧ (i ≤ 4 ∨ 60 < i) := by
      simp only [List.mem_cons, List.not_mem_nil, or_false] at hv
      rcases hv with rfl | rfl | rfl | rfl | rfl | rfl | rfl | rfl | rfl | rfl | rfl
      all_goals exact ⟨_, rfl, by first | decide | omega, by first | decide | omega⟩
    have k23 : Kp [j] H2 H3 := Kp.trans (Kp.of ka) k3
    walk_at "go"
    obtain ⟨l1, l2⟩ := isl m (by omega)
    refine ⟨_, rfl, l1, ?_⟩
    refine ⟨_, _, rfl, rfl, big_line (by omega), ?_⟩
    rw [show Str.ofString "put " ++ Str.ofString (toString m) = (Ln.put m).text from tx_put]
    walk_at "go"
    refine mkT fun dq hdq => ?_
    walk_at "go"
    refine mkT fun t ht => ?_
    exact fin (.put m) _ dq 57 (by show m.natAbs < 10 ^ 40; omega) (fun _ => ⟨by omega, h4⟩) (fun _ _ => by simp) k23 hj3 hdq t ht
  walk_at "go"
  refine ifd (fun h1 => ?_) (fun h1 => ?_)
  · walk_at "go"
    obtain ⟨l1, l2⟩ := isl at' (by omega)
    refine ⟨_, rfl, l1, ?_⟩
    refine ⟨_, _, rfl, rfl, big_line (by omega), ?_⟩
    rw [show Str.ofString "drop " ++ Str.ofString (toString at') = (Ln.drop at').text from tx_drop]
    walk_at "go"
    refine mkT fun dq hdq => ?_
    walk_at "go"
    refine mkT fun t ht => ?_
    exact fin (.drop at') _ dq 58 (by show at'.natAbs < 10 ^ 40; omega) (fun _ => by show at'.natAbs < 10 ^ 40; omega) (fun _ _ => by simp) Kp.refl hj2 hdq t ht
  walk_at "go"
  refine ifd (fun h2 => ?_) (fun h2 => ?_)
  · walk_at "go"
    refine mkT fun al hal => ?_
    have ka := same_new (o := .lst [.int 0, .int 1, .int 2, .int 3, .int (-1), .int (-2), .int 4, .int 20, .int 21, .int (-21)]) hal
    walk_at "go"
    refine ⟨_, _, rfl, j, al, n + 57, _, rfl, rfl, hj2.mono ka, SqL.of upd_same, jug_ne hj2 hal, upd_same, Nat.succ_pos _, (by show (10 : Nat) ≤ 1000; decide), fun v H3 hv k3 hj3 => ?_⟩
    obtain ⟨m, rfl, hb⟩ : ∃ i : Int, v = .int i ∧ i.natAbs ≤ 10 ^ 31 := by
      simp only [List.mem_cons, List.not_mem_nil, or_false] at hv
      rcases hv with rfl | rfl | rfl | rfl | rfl | rfl | rfl | rfl | rfl | rfl
      all_goals exact ⟨_, rfl, by first | decide | omega⟩
    have k23 : Kp [j] H2 H3 := Kp.trans (Kp.of ka) k3
    walk_at "go"
    obtain ⟨l1, l2⟩ := isl at' (by omega)
    obtain ⟨l3, l4⟩ := isl m (by omega)
    refine ⟨_, rfl, l1, ?_⟩
    refine ⟨_, _, rfl, rfl, big_line (by omega), ?_⟩
    walk_at "go"
    refine ⟨_, _, rfl, rfl, big_line (by rw [Str.length_append]; omega), ?_⟩
    walk_at "go"
    refine ⟨_, rfl, l3, ?_⟩
    refine ⟨_, _, rfl, rfl, big_line (by rw [Str.length_append, Str.length_append]; omega), ?_⟩
    rw [show Str.ofString "turn " ++ Str.ofString (toString at') ++ Str.ofString " " ++ Str.ofString (toString m) = (Ln.turn at' m).text from tx_turn]
    walk_at "go"
    refine mkT fun dq hdq => ?_
    walk_at "go"
    refine mkT fun t ht => ?_
    exact fin (.turn at' m) _ dq 57 ⟨by show at'.natAbs < 10 ^ 40; omega, by show m.natAbs < 10 ^ 40; omega⟩ (fun _ => ⟨by omega, by omega⟩) (fun _ _ => by simp) k23 hj3 hdq t ht
  walk_at "go"
  refine ifd (fun h3 => ?_) (fun h3 => ?_)
  · walk_at "go"
    rw [show Str.ofString "undo" = Ln.undo.text from tx_one]
    refine mkT fun dq hdq => ?_
    walk_at "go"
    refine mkT fun t ht => ?_
    exact fin .undo _ dq 58 trivial (fun _ => trivial) (fun _ _ => by simp) Kp.refl hj2 hdq t ht
  walk_at "go"
  refine ⟨_, rfl, j, n + 38, rfl, hj2, fun m1 H3 a1 b1 k3 hj3 => ?_⟩
  walk_at "go"
  refine ⟨_, rfl, j, n + 18, rfl, hj3, fun m2 H4 a2 b2 k4 hj4 => ?_⟩
  walk_at "go"
  refine g_I ⟨by decide, by decide, by decide⟩ ?_
  walk_at "go"
  refine mkT fun al hal => ?_
  have ka := same_new (o := .lst [.int m1, .int m2, .int 0, .int (-5), .int (10 ^ (30 : Int).toNat + 1)]) hal
  walk_at "go"
  refine ⟨_, _, rfl, j, al, n + 17, _, rfl, rfl, hj4.mono ka, SqL.of upd_same, jug_ne hj4 hal, upd_same, Nat.succ_pos _, (by show (5 : Nat) ≤ 1000; decide), fun v H5 hv k5 hj5 => ?_⟩
  obtain ⟨m, rfl, hb⟩ : ∃ i : Int, v = .int i ∧ i.natAbs ≤ 10 ^ 31 := by
    simp only [List.mem_cons, List.not_mem_nil, or_false] at hv
    rcases hv with rfl | rfl | rfl | rfl | rfl
    all_goals exact ⟨_, rfl, by first | decide | omega⟩
  have k25 : Kp [j] H2 H5 := Kp.trans k3 (Kp.trans k4 (Kp.trans (Kp.of ka) k5))
  walk_at "go"
  refine mkT fun bl hbl => ?_
  have kb := same_new (o := .lst [.str "number", .str "always", .str "degree", .str "roots", .str "roots", .str "splits", .str "splits", .str "next"]) hbl
  walk_at "go"
  refine ⟨_, _, rfl, j, bl, n + 16, _, rfl, rfl, hj5.mono kb, SqL.of upd_same, jug_ne hj5 hbl, upd_same, Nat.succ_pos _, (by show (8 : Nat) ≤ 1000; decide), fun v H6 hv k6 hj6 => ?_⟩
  have k26 : Kp [j] H2 H6 := Kp.trans k25 (Kp.trans (Kp.of kb) k6)
  obtain ⟨l1, l2⟩ := isl m (by omega)
  simp only [List.mem_cons, List.not_mem_nil, or_false] at hv
  rcases hv with rfl | rfl | rfl | rfl | rfl | rfl | rfl | rfl
  · walk_at "go"
    refine mkT fun cl hcl => ?_
    have kc := same_new (o := .lst [.str "splits", .str "next"]) hcl
    refine ⟨cl, _, rfl, .inl (SqL.of upd_same), rfl, rfl, ?_⟩
    refine ⟨false, rfl, iteF ?_⟩
    walk_at "go"
    rw [show Str.ofString "number" = Ln.number.text from tx_one]
    refine mkT fun dq hdq => ?_
    walk_at "go"
    refine mkT fun t ht => ?_
    exact fin .number _ dq 16 trivial (fun z => absurd rfl z) (fun _ _ => by simp) (Kp.trans k26 (Kp.of kc)) (hj6.mono kc) hdq t ht
  · walk_at "go"
    refine mkT fun cl hcl => ?_
    have kc := same_new (o := .lst [.str "splits", .str "next"]) hcl
    refine ⟨cl, _, rfl, .inl (SqL.of upd_same), rfl, rfl, ?_⟩
    refine ⟨false, rfl, iteF ?_⟩
    walk_at "go"
    rw [show Str.ofString "always" = Ln.always.text from tx_one]
    refine mkT fun dq hdq => ?_
    walk_at "go"
    refine mkT fun t ht => ?_
    exact fin .always _ dq 16 trivial (fun z => absurd rfl z) (fun _ _ => by simp) (Kp.trans k26 (Kp.of kc)) (hj6.mono kc) hdq t ht
  · walk_at "go"
    refine mkT fun cl hcl => ?_
    have kc := same_new (o := .lst [.str "splits", .str "next"]) hcl
    refine ⟨cl, _, rfl, .inl (SqL.of upd_same), rfl, rfl, ?_⟩
    refine ⟨false, rfl, iteF ?_⟩
    walk_at "go"
    rw [show Str.ofString "degree" = Ln.degree.text from tx_one]
    refine mkT fun dq hdq => ?_
    walk_at "go"
    refine mkT fun t ht => ?_
    exact fin .degree _ dq 16 trivial (fun z => absurd rfl z) (fun _ _ => by simp) (Kp.trans k26 (Kp.of kc)) (hj6.mono kc) hdq t ht
  · walk_at "go"
    refine mkT fun cl hcl => ?_
    have kc := same_new (o := .lst [.str "splits", .str "next"]) hcl
    refine ⟨cl, _, rfl, .inl (SqL.of upd_same), rfl, rfl, ?_⟩
    refine ⟨false, rfl, iteF ?_⟩
    walk_at "go"
    rw [show Str.ofString "roots" = Ln.roots.text from tx_one]
    refine mkT fun dq hdq => ?_
    walk_at "go"
    refine mkT fun t ht => ?_
    exact fin .roots _ dq 16 trivial (fun z => absurd rfl z) (fun _ _ => by simp) (Kp.trans k26 (Kp.of kc)) (hj6.mono kc) hdq t ht
  · walk_at "go"
    refine mkT fun cl hcl => ?_
    have kc := same_new (o := .lst [.str "splits", .str "next"]) hcl
    refine ⟨cl, _, rfl, .inl (SqL.of upd_same), rfl, rfl, ?_⟩
    refine ⟨false, rfl, iteF ?_⟩
    walk_at "go"
    rw [show Str.ofString "roots" = Ln.roots.text from tx_one]
    refine mkT fun dq hdq => ?_
    walk_at "go"
    refine mkT fun t ht => ?_
    exact fin .roots _ dq 16 trivial (fun z => absurd rfl z) (fun _ _ => by simp) (Kp.trans k26 (Kp.of kc)) (hj6.mono kc) hdq t ht
  · walk_at "go"
    refine mkT fun cl hcl => ?_
    have kc := same_new (o := .lst [.str "splits", .str "next"]) hcl
    refine ⟨cl, _, rfl, .inl (SqL.of upd_same), rfl, rfl, ?_⟩
    refine ⟨true, rfl, iteT ?_⟩
    walk_at "go"
    refine ⟨_, _, rfl, rfl, big_line (by omega), ?_⟩
    walk_at "go"
    refine ⟨_, rfl, l1, ?_⟩
    refine ⟨_, _, rfl, rfl, big_line (by rw [Str.length_append]; omega), ?_⟩
    rw [show Str.ofString "splits" ++ Str.ofString " " ++ Str.ofString (toString m) = (Ln.splits m).text from tx_splits]
    walk_at "go"
    refine mkT fun dq hdq => ?_
    walk_at "go"
    refine mkT fun t ht => ?_
    exact fin (.splits m) _ dq 16 (by show m.natAbs < 10 ^ 40; omega) (fun z => absurd rfl z) (fun _ _ => by simp) (Kp.trans k26 (Kp.of kc)) (hj6.mono kc) hdq t ht
  · walk_at "go"
    refine mkT fun cl hcl => ?_
    have kc := same_new (o := .lst [.str "splits", .str "next"]) hcl
    refine ⟨cl, _, rfl, .inl (SqL.of upd_same), rfl, rfl, ?_⟩
    refine ⟨true, rfl, iteT ?_⟩
    walk_at "go"
    refine ⟨_, _, rfl, rfl, big_line (by omega), ?_⟩
    walk_at "go"
    refine ⟨_, rfl, l1, ?_⟩
    refine ⟨_, _, rfl, rfl, big_line (by rw [Str.length_append]; omega), ?_⟩
    rw [show Str.ofString "splits" ++ Str.ofString " " ++ Str.ofString (toString m) = (Ln.splits m).text from tx_splits]
    walk_at "go"
    refine mkT fun dq hdq => ?_
    walk_at "go"
    refine mkT fun t ht => ?_
    exact fin (.splits m) _ dq 16 (by show m.natAbs < 10 ^ 40; omega) (fun z => absurd rfl z) (fun _ _ => by simp) (Kp.trans k26 (Kp.of kc)) (hj6.mono kc) hdq t ht
  · walk_at "go"
    refine mkT fun cl hcl => ?_
    have kc := same_new (o := .lst [.str "splits", .str "next"]) hcl
    refine ⟨cl, _, rfl, .inl (SqL.of upd_same), rfl, rfl, ?_⟩
    refine ⟨true, rfl, iteT ?_⟩
    walk_at "go"
    refine ⟨_, _, rfl, rfl, big_line (by omega), ?_⟩
    walk_at "go"
    refine ⟨_, rfl, l1, ?_⟩
    refine ⟨_, _, rfl, rfl, big_line (by rw [Str.length_append]; omega), ?_⟩
    rw [show Str.ofString "next" ++ Str.ofString " " ++ Str.ofString (toString m) = (Ln.next m).text from tx_next]
    walk_at "go"
    refine mkT fun dq hdq => ?_
    walk_at "go"
    refine mkT fun t ht => ?_
    exact fin (.next m) _ dq 16 (by show m.natAbs < 10 ^ 40; omega) (fun z => absurd rfl z) (fun _ _ => by simp) (Kp.trans k26 (Kp.of kc)) (hj6.mono kc) hdq t ht
end
end PP
-- text LQ
namespace PP
open PySem PySem.Spec PyProof.Rows L2 LamX TL
section
variable {P : Program} {w : World} {K : PySem.W.Frag} {mg : Str → Option Value} {base : Heap}
theorem int_iS {i : Int} (h : i.natAbs < 10 ^ 40) : intText? (iS i) = some i ∧ (iS i).length ≤ 640 := by
  rcases iS_cases i with ⟨n, rfl, et⟩ | ⟨n, n0, rfl, et⟩
  · have ln := numL_len (n := n) (k := 40) (by decide) (by omega)
    exact ⟨int_num (by omega), by rw [len_tl, et]; omega⟩
  · have ln := numL_len (n := n) (k := 40) (by decide) (by omega)
    have hl : (iS (-(n : Int))).length ≤ 640 := by rw [len_tl, et, List.length_cons]; omega
    refine ⟨?_, hl⟩
    have := intText_neg (x := iS (-(n : Int))) (cs := numL n) et (numL_digits n) (numL_ne n) (by omega)
    rw [numL_val] at this
    exact this
theorem tneq {l : Ln} {x : Str} (hx : 32 ∉ tl x) (h : l.words ≠ [x]) : ¬ l.text = x := fun z => by
  have h1 := line_split l
  rw [z] at h1
  have h2 := split_of (c := 32) (y := " ") rfl (by decide) (parts := [x]) (by simp) (fun p hp => by rw [List.mem_singleton.mp hp]; exact hx)
  rw [join1] at h2
  exact h (h1.symm.trans h2)
theorem pg_deg {j : Addr} {H : Hp} {p : Addr} {pg : Rs} {n : Nat} (h : PgA j H p pg) (hn : TwrN pg n) : n < 2 ^ 160 := by
  obtain ⟨as, h1, rfl⟩ := h
  have h4 := lcmR_ok h1.ok h1.len
  have h5 := twr_le hn
  have e1 : (2 : Nat) ^ 160 = 2 ^ 40 * (2 ^ 40 * (2 ^ 40 * 2 ^ 40)) := by decide
  rw [e1]
  exact Nat.lt_of_le_of_lt h5 (Nat.mul_lt_mul'' h4 (Nat.mul_lt_mul'' h4 (Nat.mul_lt_mul'' h4 h4)))
theorem ok_g {e : E4} (ok : Ok30 e) : e.g ≤ 100 := g_le (ok_sm ok)
def sp_law_degree : Sp := sp1 fun x H Q _ => ∃ (j p : Addr) (pg : Rs) (n : Nat), x = .ref p ∧ JugAt H j n ∧ PgA j H p pg ∧ ∀ H' m, Same H H' → TwrN pg m → Q (.int (m : Int)) H'
def sp_law_state : Sp := sp3 fun x y u H Q _ => ∃ (j pl p : Addr) (z : Sta) (l : Ln) (n : Nat), x = .ref pl ∧ y = .ref p ∧ u = .str l.text ∧ JugAt H j n ∧ PlanAt j H pl z.s z.e ∧ (z.s = 1 ∨ z.s = -1) ∧ Ok30 z.e ∧ PgA j H p z.pg ∧ LnOk l ∧ (∀ s e, l ≠ .take s e) ∧
  (∀ H' a, Same H H' → Step l z a z → Q (.str a) H') ∧ (deedL l ≠ [] → ∀ H', Same H H' → Q (.str "") H')
theorem c_law_state (T : Tx K mg) (hD : CalX P w K mg base CX0 5 "_law_degree" sp_law_degree []) : CalX P w K mg base CX0 6 "_law_state" sp_law_state [] := by
  refine cal0_of (F_law_state T) (g_law_state T) bd_law_state sc_law_state len3 (fun cdv A outer s H vs Q E hr h => ?_)
  obtain ⟨_, _, _, rfl, j, pl, p, z, l, n, rfl, rfl, rfl, hj, hpl, hs, ok, hpg, hlo, ntk, q1, q2⟩ := h
  obtain ⟨lp, hl1, hl2, hl3⟩ := id hpl
  refine ⟨_, (pss_cons (ps_set (i := 3) sc_law_state.nd rfl (Or.inl rfl) (pe_split (pv 2) pe_str))
      (pss_cons (ps_if (pt_cmpR op_eq (pv 2) pe_str (nomark _)) (pss_one (ps_ret (pe_cx (c_law_text T) hr pass0 (pa_cons (pe_cx (c_law_pair T) hr pass0 (pa_cons (pe_ix ix_tup (pv 0) pe_int (fun _ _ => rfl)) (pa_cons (pe_ix ix_tup (pv 0) pe_int (fun _ _ => rfl)) pa_nil))) pa_nil)))) pss_nil)
      (pss_cons (ps_if (pt_cmpR op_eq (pv 2) pe_str (nomark _)) (pss_one (ps_ret (pe_ifExp (pt_val (pe_cx (c_law_is_always T) hr pass0 (pa_cons (pv 0) pa_nil))) pe_str pe_str))) pss_nil)
      (pss_cons (ps_if (pt_cmpR op_eq (pv 2) pe_str (nomark _)) (pss_one (ps_ret (pe_callTy call_str_int (by rfl) (b_str T) (by decide +kernel) (pa_cons (pe_cx hD hr pass0 (pa_cons (pv 1) pa_nil)) pa_nil)))) pss_nil)
      (pss_cons (ps_if (pt_cmpR op_eq (pv 2) pe_str (nomark _)) (pss_one (ps_ret (pe_ifExp (pt_cmpR (op_neE hr.units) (pv 1) (pe_lst pa_nil) (nomark _)) (pe_join pe_str (pe_lc (own := [("_law_each", 5)]) rfl sc_law_state.nd (pi_list (pv 1)) (blkOk_by (own := [("_law_each", 5)]) (N := N_law_state) (sc := defScope s_law_state) (by decide +kernel)) (fun _ _ _ _ _ => (pg_name (i := 5) sc_law_state.nd rfl (Or.inl rfl))) (fun _ _ _ _ _ => pts_nil) (fun _ _ _ _ _ => (pe_cx (c_law_root_text T) hr pass0 (pa_cons (pv 5) pa_nil))))) pe_str))) pss_nil)
      (pss_cons (ps_if (PW.pt (pw_and (pt_cmpR op_eq (pe_callB call_len_seq (by rfl) (b_len T) (by decide +kernel) (pa_cons (pv 3) pa_nil)) pe_int (nomark _)) (pw_and1 (pt_cmpR op_in_seq (pe_ix ix_list (pv 3) pe_int (fun _ _ => rfl)) (pe_lst (pa_cons pe_str (pa_cons pe_str pa_nil))) (by rfl))))) (pss_cons (ps_set (i := 4) sc_law_state.nd rfl (Or.inl rfl) (pe_callTy call_int_str (by rfl) (b_int T) (by decide +kernel) (pa_cons (pe_ix ix_list (pv 3) pe_int (fun _ _ => rfl)) pa_nil)))
      (pss_cons (ps_if (pt_not (pt_chain op_le op_le pe_int (pv 4) (pe_op op_pow pe_int pe_int))) (pss_one (ps_ret pe_str)) pss_nil)
      (pss_cons (ps_if (pt_cmpR op_eq (pe_ix ix_list (pv 3) pe_int (fun _ _ => rfl)) pe_str (nomark _)) (pss_one (ps_ret (pe_cx (c_law_next T) hr pass0 (pa_cons (pv 0) (pa_cons (pv 4) pa_nil))))) pss_nil)
      (pss_one (ps_ret (pe_ifExp (pt_val (pe_cx (c_law_splits T) hr pass0 (pa_cons (pv 0) (pa_cons (pv 4) pa_nil)))) pe_str pe_str)))))) pss_nil)
      (pss_one (ps_ret pe_str)))))))), ?_⟩
  walk_at "go"
  refine ⟨_, _, rfl, rfl, rfl, line_len hlo, fun wp hwp => ?_⟩
  rw [line_split]
  have k0 := same_new (o := .lst (l.words.map V.str)) hwp
  have hw : (upd H wp (.lst (l.words.map V.str))) wp = some (.lst (l.words.map V.str)) := upd_same
  generalize upd H wp (.lst (l.words.map V.str)) = H0 at *
  walk_at "go"
  cases l with
  | number =>
    refine ifT tx_one.symm ?_
    walk_at "go"
    refine g_ixT (SqT.of (k0 _ _ hl1)) at0 ?_
    walk_at "go"
    refine g_ixT (SqT.of (k0 _ _ hl1)) at1 ?_
    walk_at "go"
    refine ⟨_, _, rfl, z.s, lp, z.e, rfl, rfl, hs, k0 _ _ hl2, (ok_sm ok).le (by decide), fun H1 p1 k1 hp1 => ?_⟩
    walk_at "go"
    exact ⟨_, rfl, p1, _, _, rfl, hp1, Nat.lt_trans (PySem.Flt.log2_lt_of (k := 120) (by decide) (by have := ok.t; rcases hs with h | h <;> rw [h] <;> omega)) (by decide), Nat.lt_trans (PySem.Flt.log2_lt_of (k := 120) (by decide) (by have := ok.b; omega)) (by decide), q1 H1 _ (Same.trans k0 k1) .number⟩
  | always =>
    refine ifF (tneq (l := .always) (by decide) (by decide)) ?_
    walk_at "go"
    refine ifT tx_one.symm ?_
    walk_at "go"
    refine ⟨_, rfl, pl, z.s, z.e, rfl, hs, hpl.r.mono k0, (ok_sm ok).le (by decide), fun H1 k1 => ?_⟩
    have q' := q1 H1 _ (Same.trans k0 k1) .always
    walk_at "go"
    refine ifd (fun hb => ?_) (fun hb => ?_)
    · rw [if_pos hb] at q'
      walk_at "go"
      exact q'
    · rw [if_neg hb] at q'
      walk_at "go"
      exact q'
  | degree =>
    refine ifF (tneq (l := .degree) (by decide) (by decide)) ?_
    walk_at "go"
    refine ifF (tneq (l := .degree) (by decide) (by decide)) ?_
    walk_at "go"
    refine ifT tx_one.symm ?_
    walk_at "go"
    refine ⟨_, rfl, j, p, z.pg, n, rfl, hj.mono k0, hpg.kd (Kd.same k0), fun H1 d k1 hd => ?_⟩
    walk_at "go"
    exact ⟨_, rfl, Nat.lt_trans (log_of (by decide) (pg_deg hpg hd)) (by decide), q1 H1 _ (Same.trans k0 k1) (.degree hd)⟩
  | roots =>
    refine ifF (tneq (l := .roots) (by decide) (by decide)) ?_
    walk_at "go"
    refine ifF (tneq (l := .roots) (by decide) (by decide)) ?_
    walk_at "go"
    refine ifF (tneq (l := .roots) (by decide) (by decide)) ?_
    walk_at "go"
    refine ifT tx_one.symm ?_
    walk_at "go"
    refine mkT fun e0 he0 => ?_
    have ke := same_new (o := .lst []) he0
    have k1 := Same.trans k0 ke
    obtain ⟨as, hpa, epg⟩ := id (hpg.kd (Kd.same k1))
    refine ⟨p, e0, _, rfl, rfl, .inr ⟨SqL.of hpa.lst, SqL.of upd_same⟩, ?_⟩
    have fin : ∀ H', Same _ H' → Q (.str (rootsTxt z.pg)) H' := fun H' k => q1 H' _ k .roots
    walk_at "go"
    by_cases hz : as = []
    · subst hz
      refine iteF ?_
      walk_at "go"
      have := fin _ k1
      rw [← epg] at this
      exact this
    · have hemp : (refsOf as).isEmpty = false := by
        cases as with
        | nil => exact absurd rfl hz
        | cons _ _ => rfl
      rw [hemp]
      refine iteT ?_
      walk_at "go"
      refine ⟨p, rfl, ⟨_, SqL.of hpa.lst⟩, fun D hD => lc_goL (as.map fun r => some (.str (rText r.2.1 r.2.2))) (SqL.of hpa.lst) (by rw [List.length_map, List.length_map]) hD (by rw [List.length_map]; have := hpa.len; omega) (fun i x o H3 hx hk k3 Rr hRr => ?_) (fun H3 k3 hD3 => ?_)⟩
      · obtain ⟨r, hr', rfl⟩ := refs_get hx
        rw [List.getElem?_map, hr'] at hk
        cases hk
        have rm := List.mem_of_getElem? hr'
        obtain ⟨lr, g1, g2, _⟩ := (hpa.rt r rm).kd (Kd.same k3)
        have okr := hpa.ok r rm
        walk_at "go"
        refine ⟨rfl, ?_⟩
        walk_at "go"
        refine iteT ?_
        walk_at "go"
        exact ⟨_, rfl, r.1, r.2.1, r.2.2, rfl, ⟨lr, g1, g2⟩, okr, fun H4 k4 => hRr H4 k4⟩
      · have e1 : (as.map fun r => some (V.str (rText r.2.1 r.2.2))).filterMap id = (as.map fun r => rText r.2.1 r.2.2).map V.str := by
          rw [List.filterMap_map, List.map_map]
          exact List.filterMap_eq_map (f := fun r : Addr × E4 × Nat => V.str (rText r.2.1 r.2.2)) ▸ rfl
        rw [e1] at hD3
        refine ⟨_, D, _, rfl, rfl, .inl (SqL.of hD3), ?_, ?_⟩
        · have hs := sum_le (l := (as.map fun r => rText r.2.1 r.2.2).map (·.length)) (B := 6000) fun x hx => by
            obtain ⟨y, hy, rfl⟩ := List.mem_map.mp hx
            obtain ⟨r, hr', rfl⟩ := List.mem_map.mp hy
            exact rText_len (hpa.ok r hr')
          have c2 : (Str.ofString "; ").length = 2 := by decide
          have l5 := hpa.len
          rw [List.length_map, List.length_map] at hs
          rw [List.length_map, c2]
          omega
        · have := fin H3 (Same.trans k1 k3)
          unfold rootsTxt at this
          have hne : z.pg ≠ [] := by
            rw [← epg]
            cases as with
            | nil => exact absurd rfl hz
            | cons _ _ => simp
          rw [if_neg hne, ← epg, List.map_map] at this
          exact this
  | undo =>
    refine ifF (tneq (l := .undo) (by decide) (by decide)) ?_
    walk_at "go"
    refine ifF (tneq (l := .undo) (by decide) (by decide)) ?_
    walk_at "go"
    refine ifF (tneq (l := .undo) (by decide) (by decide)) ?_
    walk_at "go"
    refine ifF (tneq (l := .undo) (by decide) (by decide)) ?_
    walk_at "go"
    refine ⟨wp, _, rfl, .inl (SqL.of hw), ?_⟩
    walk_at "go"
    refine ifF (by show ¬ ((1 : Nat) : Int) = 2; decide) ?_
    walk_at "go"
    refine iteF ?_
    walk_at "go"
    exact q2 (by simp [deedL]) _ k0
  | put n =>
    refine ifF (tneq (l := .put n) (by decide) (by simp [Ln.words])) ?_
    walk_at "go"
    refine ifF (tneq (l := .put n) (by decide) (by simp [Ln.words])) ?_
    walk_at "go"
    refine ifF (tneq (l := .put n) (by decide) (by simp [Ln.words])) ?_
    walk_at "go"
    refine ifF (tneq (l := .put n) (by decide) (by simp [Ln.words])) ?_
    walk_at "go"
    refine ⟨wp, _, rfl, .inl (SqL.of hw), ?_⟩
    walk_at "go"
    refine ifT rfl ?_
    walk_at "go"
    refine g_ixL (SqL.of hw) at0 ?_
    walk_at "go"
    refine mkT fun cl hcl => ?_
    have kc := same_new (o := .lst [.str "splits", .str "next"]) hcl
    refine ⟨cl, _, rfl, .inl (SqL.of upd_same), rfl, rfl, ?_⟩
    refine ⟨false, rfl, iteF ?_⟩
    walk_at "go"
    exact q2 (by simp [deedL]) _ (Same.trans k0 kc)
  | drop i =>
    refine ifF (tneq (l := .drop i) (by decide) (by simp [Ln.words])) ?_
    walk_at "go"
    refine ifF (tneq (l := .drop i) (by decide) (by simp [Ln.words])) ?_
    walk_at "go"
    refine ifF (tneq (l := .drop i) (by decide) (by simp [Ln.words])) ?_
    walk_at "go"
    refine ifF (tneq (l := .drop i) (by decide) (by simp [Ln.words])) ?_
    walk_at "go"
    refine ⟨wp, _, rfl, .inl (SqL.of hw), ?_⟩
    walk_at "go"
    refine ifT rfl ?_
    walk_at "go"
    refine g_ixL (SqL.of hw) at0 ?_
    walk_at "go"
    refine mkT fun cl hcl => ?_
    have kc := same_new (o := .lst [.str "splits", .str "next"]) hcl
    refine ⟨cl, _, rfl, .inl (SqL.of upd_same), rfl, rfl, ?_⟩
    refine ⟨false, rfl, iteF ?_⟩
    walk_at "go"
    exact q2 (by simp [deedL]) _ (Same.trans k0 kc)
  | turn i m =>
    refine ifF (tneq (l := .turn i m) (by decide) (by simp [Ln.words])) ?_
    walk_at "go"
    refine ifF (tneq (l := .turn i m) (by decide) (by simp [Ln.words])) ?_
    walk_at "go"
    refine ifF (tneq (l := .turn i m) (by decide) (by simp [Ln.words])) ?_
    walk_at "go"
    refine ifF (tneq (l := .turn i m) (by decide) (by simp [Ln.words])) ?_
    walk_at "go"
    refine ⟨wp, _, rfl, .inl (SqL.of hw), ?_⟩
    walk_at "go"
    refine ifF (by show ¬ ((3 : Nat) : Int) = 2; decide) ?_
    walk_at "go"
    refine iteF ?_
    walk_at "go"
    exact q2 (by simp [deedL]) _ k0
  | splits m =>
    refine ifF (tneq (l := .splits m) (by decide) (by simp [Ln.words])) ?_
    walk_at "go"
    refine ifF (tneq (l := .splits m) (by decide) (by simp [Ln.words])) ?_
    walk_at "go"
    refine ifF (tneq (l := .splits m) (by decide) (by simp [Ln.words])) ?_
    walk_at "go"
    refine ifF (tneq (l := .splits m) (by decide) (by simp [Ln.words])) ?_
    walk_at "go"
    refine ⟨wp, _, rfl, .inl (SqL.of hw), ?_⟩
    walk_at "go"
    refine ifT rfl ?_
    walk_at "go"
    refine g_ixL (SqL.of hw) at0 ?_
    walk_at "go"
    refine mkT fun cl hcl => ?_
    have kc := same_new (o := .lst [.str "splits", .str "next"]) hcl
    have k1 := Same.trans k0 kc
    refine ⟨cl, _, rfl, .inl (SqL.of upd_same), rfl, rfl, ?_⟩
    refine ⟨true, rfl, iteT ?_⟩
    walk_at "go"
    refine g_ixL (SqL.of (kc _ _ hw)) at1 ?_
    walk_at "go"
    obtain ⟨i1, i2⟩ := int_iS (i := m) hlo
    refine ⟨_, _, rfl, i1, i2, ?_⟩
    walk_at "go"
    refine ifd (fun m1 => ?_) (fun m1 => ?_)
    rotate_left
    · walk_at "go"
      refine iteT ?_
      walk_at "go"
      exact q1 _ _ k1 (.splits1 fun x => m1 x.1)
    walk_at "go"
    refine g_I ⟨by decide, by decide, by decide⟩ ?_
    walk_at "go"
    refine ifn (fun m2 => ?_) (fun m2 => ?_)
    · walk_at "go"
      exact q1 _ _ k1 (.splits1 fun x => m2 x.2)
    have m2' : m ≤ 10 ^ 30 := m2
    obtain ⟨mn, rfl⟩ := Int.eq_ofNat_of_zero_le (a := m) (by omega)
    walk_at "go"
    refine g_ixL (SqL.of (kc _ _ hw)) at0 ?_
    walk_at "go"
    refine ifF (by decide) ?_
    walk_at "go"
    refine ⟨_, _, rfl, pl, z.s, z.e, mn, rfl, rfl, hs, hpl.r.mono k1, (ok_sm ok).le (by decide), by omega, by omega, fun H2 k2 => ?_⟩
    have q' := q1 _ _ (Same.trans k1 k2) (.splits2 m1 m2')
    rw [Int.toNat_natCast] at q'
    walk_at "go"
    refine ifd (fun hb => ?_) (fun hb => ?_)
    · rw [if_pos hb] at q'
      walk_at "go"
      exact q'
    · rw [if_neg hb] at q'
      walk_at "go"
      exact q'
  | next m =>
    refine ifF (tneq (l := .next m) (by decide) (by simp [Ln.words])) ?_
    walk_at "go"
    refine ifF (tneq (l := .next m) (by decide) (by simp [Ln.words])) ?_
    walk_at "go"
    refine ifF (tneq (l := .next m) (by decide) (by simp [Ln.words])) ?_
    walk_at "go"
    refine ifF (tneq (l := .next m) (by decide) (by simp [Ln.words])) ?_
    walk_at "go"
    refine ⟨wp, _, rfl, .inl (SqL.of hw), ?_⟩
    walk_at "go"
    refine ifT rfl ?_
    walk_at "go"
    refine g_ixL (SqL.of hw) at0 ?_
    walk_at "go"
    refine mkT fun cl hcl => ?_
    have kc := same_new (o := .lst [.str "splits", .str "next"]) hcl
    have k1 := Same.trans k0 kc
    refine ⟨cl, _, rfl, .inl (SqL.of upd_same), rfl, rfl, ?_⟩
    refine ⟨true, rfl, iteT ?_⟩
    walk_at "go"
    refine g_ixL (SqL.of (kc _ _ hw)) at1 ?_
    walk_at "go"
    obtain ⟨i1, i2⟩ := int_iS (i := m) hlo
    refine ⟨_, _, rfl, i1, i2, ?_⟩
    walk_at "go"
    refine ifd (fun m1 => ?_) (fun m1 => ?_)
    rotate_left
    · walk_at "go"
      refine iteT ?_
      walk_at "go"
      exact q1 _ _ k1 (.next1 fun x => m1 x.1)
    walk_at "go"
    refine g_I ⟨by decide, by decide, by decide⟩ ?_
    walk_at "go"
    refine ifn (fun m2 => ?_) (fun m2 => ?_)
    · walk_at "go"
      exact q1 _ _ k1 (.next1 fun x => m2 x.2)
    have m2' : m ≤ 10 ^ 30 := m2
    obtain ⟨mn, rfl⟩ := Int.eq_ofNat_of_zero_le (a := m) (by omega)
    walk_at "go"
    refine g_ixL (SqL.of (kc _ _ hw)) at0 ?_
    walk_at "go"
    refine ifT rfl ?_
    walk_at "go"
    refine ⟨_, _, rfl, pl, z.s, z.e, mn, rfl, rfl, hs, hpl.r.mono k1, (ok_sm ok).le (by decide), ok_g ok, by omega, by omega, fun ha H2 k2 => ?_, fun ha H2 m2 k2 hm => ?_⟩
    · exact q1 _ _ (Same.trans k1 k2) (.next2 m1 m2' ha)
    · exact q1 _ _ (Same.trans k1 k2) (.next3 m1 m2' ha hm)
  | take s e => exact absurd rfl (ntk s e)
end
end PP
-- text WU
namespace PP
open PySem PySem.Spec PyProof.Rows L2 LamX TL
/-! o.m(b = e) -/
structure MetK (P : Program) (w : World) (K : PySem.W.Frag) (mg : Str → Option Value) (base : Heap) (CX : CXT) (k : Nat) (C : Addr) (m : Str) (sp : Sp) (a b : Str) : Prop where
  ex : ∃ (f : Addr) (fd : FuncData), Cls K C ∧ Meth K C m f ∧ FnOk P w K mg base CX k f fd [a, b] sp ∧ ∀ u v : Value, bindArgs fd ⟨[u], [(b, v)]⟩ = pure [(a, u), (b, v)]
section
variable {P : Program} {w : World} {K : PySem.W.Frag} {mg : Str → Option Value} {base : Heap} {CX : CXT} {k : Nat} {x name qual m a b : Str} {st : Stmt} {f C : Addr} {N : List Str} {sp : Sp} {p q : Pos}
theorem metK_of (F : FnP K name qual st f) (c : Cls K C) (hm : Meth K C m f) (S : FnScope N [a, b] (defScope st)) (len : ∀ vs H Q E, sp vs H Q E → vs.length = [a, b].length) (ha : defArgs st = argsOf [⟨a, none, p⟩, ⟨b, none, q⟩]) (hab : (b == a) = false) (h : BodyX P w K mg base CX k qual st f N sp) :
    MetK P w K mg base CX (k + 1) C m sp a b := by
  obtain ⟨fd, F⟩ := F
  refine ⟨f, fd, c, hm, F.ok S len h, fun u v => ?_⟩
  obtain ⟨oc, od, dV, kV, doc, pm, an, cdv, ct, osl, rfl, lk, hcd, hD, hK⟩ := F.ex
  rcases hD with ⟨_, rfl⟩ | ⟨e, _⟩
  · rw [ha]
    unfold bindArgs PySem.W.fnOf
    simp [sI0, look1, look0 hab]
  · exact absurd rfl e
end
section
variable {X : Cx} {CX : CXT} {k j : Nat} {C : Addr} {m a b : Str} {sp : Sp} {E : XK} {pos apos kpos : Pos} {e o : Expr} {ta te : TE}
theorem pe_mxk {pl : Sem Bool} (c : MetK X.prog X.w X.K X.mg X.base CX k C m sp a b) (hr : Room j X.A) (hx : Passes CX X E) (he : PE X o ta) (ha : PE X e te) (hk : k ≤ j := by decide)
    (ht : eval (.Call (.Attribute o m apos) [] [⟨some b, e, kpos⟩] pos) X.env = (do
      let ov ← eval o X.env
      standAt apos.atName
      let (f, first) ← holding [ov] (getMethod ov m pl)
      callWith pos f first (backTo pos (starEach [] X.env)) (backToKw pos (keywordEach [⟨some b, e, kpos⟩] X.env))) := by rfl) :
    PE X (.Call (.Attribute o m apos) [] [⟨some b, e, kpos⟩] pos) (tMeth C m sp [] E ta (tCons te tNil)) := by
  obtain ⟨f, fd, hc, hm, F, hb⟩ := c.ex
  refine ⟨fun pins s σ H Q I h => ?_⟩
  refine PySem.W.methodCall_KW (pl := pl) (thn (he.run pins s σ H _ I h) fun u s1 ⟨x, H1, I1, rx, a1, dx, fs, ex, ea, l, q⟩ => ?_) ht
  subst ex
  obtain rfl : u = Value.ref a1 := rx
  refine getmeth_ok I1 ea hc hm l ?_
  refine PySem.W.callWith_KW0 (first := [.ref a1]) (h₀ := X.base) I.ok.mod.kin hm.kp rfl (thn ((pk_cons (nm := some b) (kpos := kpos) ha pk_nil).run pos pins s1 σ H1 _ I1 q) fun ws s2 ⟨zs, H2, I2, rz, q2⟩ => ⟨I2.kIn, ?_⟩) rfl
  have q2 : sp (.ref a1 :: (zs ++ [])) H2 Q E := q2
  rw [List.append_nil] at q2
  have hl : zs.length = 1 := by
    have := F.len _ _ _ _ q2
    simpa using this
  cases rz with
  | nil => cases hl
  | cons r1 rz =>
    cases rz with
    | cons _ _ => cases hl
    | nil =>
      rename_i z wv _ _
      refine wpAny_call (codeAny_mono (F.run X.A X.stack s2 H2 ⟨[.ref a1], [(b, wv)]⟩ [.ref a1, wv] [.ref a1, z] Q E (hr.mono hk) I2.env0 (.of_eq (hb _ _)) (.cons rfl (.cons r1 .nil)) q2) fun r s' hq => ?_)
      cases r with
      | error e => exact hx pins σ H2 s2 e s' I2 hq
      | ok fl =>
        cases fl with
        | ret u => exact I2.after hq
        | next => exact False.elim hq
        | brk => exact False.elim hq
        | cont => exact False.elim hq
end
section
variable {P : Program} {w : World} {K : PySem.W.Frag} {mg : Str → Option Value} {base : Heap} {P1 P2 : Addr}
theorem c_Console_sayK (T : Tx K mg) (B : Tb K mg base P1 P2) : MetK P w K mg base CX0 16 (gaK K "Console") "say" (sp_Console_answer K P1 P2) "self" "line" := by
  refine metK_of (F_Console_say T) (cl_Console T) (me_Console_say T) sc_Console_say len2 rfl rfl (bodyX_of fun cdv A outer s H vs Q E hr h => ?_)
  obtain ⟨_, _, rfl, c, d, z, l, rfl, rfl, hl, hc, pl, ht, q⟩ := h
  obtain ⟨dx, tk, h1, h2, h3⟩ := id hc
  refine ⟨_, (pss_cons (ps_set (i := 2) sc_Console_say.nd rfl (Or.inl rfl) (pe_ifExp (pt_val (pe_callB call_isi (by rfl) (b_isinstance T) (by decide +kernel) (pa_cons (pv 1) (pa_cons (pe_bltn (v := .ty "str") rfl (b_str T) (by decide +kernel) rfl) pa_nil)))) (pe_mx (c_Console_answer T B) hr pass0 (pv 0) (pa_cons (pv 1) pa_nil)) pe_non))
      (pss_cons (ps_if (pt_cmpR op_isN (pv 2) pe_non (nomark _)) (pss_one ps_never) pss_nil)
      (pss_one (ps_ret (pv 2))))), ?_⟩
  walk_at "go"
  refine ⟨_, _, _, _, true, rfl, ClsV.ty "str", TyX.base (TyOf.str _), kit_ty (by decide +kernel), ?_⟩
  walk_at "go"
  refine iteT ?_
  walk_at "go"
  refine ⟨c, dx, _, rfl, h1, rfl, ?_⟩
  walk_at "go"
  refine ⟨_, _, rfl, c, d, z, l, rfl, rfl, hl, hc, pl, ht, fun H' a z' k t2 c2 s2 => ?_⟩
  walk_at "go"
  refine ⟨rfl, ?_⟩
  walk_at "go"
  refine ifF (fun z => by cases z) ?_
  walk_at "go"
  exact q H' a z' k t2 c2 s2
end
/-! a line's answer is one -/
theorem step_take {s : Int} {e : E4} {z z' : Sta} {a : Str} (h : Step (.take s e) z a z') : a = "ok" ∧ z' = { z with s := s, e := e } := by
  cases h
  exact ⟨rfl, rfl⟩
theorem step_one {l : Ln} {z z1 z2 : Sta} {a b : Str} (h1 : Step l z a z1) (h2 : Step l z b z2) : a = b ∧ z1 = z2 := by
  have ilt : ∀ {i : Int} {x : E4 × Nat}, 0 ≤ i → z.pg[i.toNat]? = some x → i < z.pg.length := fun h0 h => by
    have := (List.getElem?_eq_some_iff.mp h).1
    omega
  have two : ∀ {x y : E4 × Nat} {o : Option (E4 × Nat)}, o = some x → o = some y → x = y := fun h1 h2 => Option.some.inj (h1.symm.trans h2)
  cases h1
  case degree n hn =>
    cases h2
    rename_i m hm
    rw [TwrN.one hn hm]
    exact ⟨rfl, rfl⟩
  case undo1 ps p h =>
    cases h2
    case undo0 g => rw [g] at h; cases ps <;> cases h
    case undo1 ps' p' g =>
      rw [h] at g
      obtain ⟨e1, e2⟩ := List.append_inj' g rfl
      cases e1
      cases e2
      exact ⟨rfl, rfl⟩
  case undo0 h =>
    cases h2
    case undo0 g => exact ⟨rfl, rfl⟩
    case undo1 ps p g => rw [h] at g; cases ps <;> cases g
  case next3 n m g1 g2 g3 g4 =>
    cases h2
    case next1 g => exact absurd ⟨g1, g2⟩ g
    case next2 _ _ g => exact absurd g g3
    case next3 m' _ _ _ g => rw [Next.unique g4 g]; exact ⟨rfl, rfl⟩
  case next2 n g1 g2 g3 =>
    cases h2
    case next1 g => exact absurd ⟨g1, g2⟩ g
    case next2 => exact ⟨rfl, rfl⟩
    case next3 m' _ _ g _ => exact absurd g3 g
  case next1 n g =>
    cases h2
    case next1 => exact ⟨rfl, rfl⟩
    case next2 g1 g2 _ => exact absurd ⟨g1, g2⟩ g
    case next3 m' g1 g2 _ _ => exact absurd ⟨g1, g2⟩ g
  case splits1 n g =>
    cases h2
    case splits1 => exact ⟨rfl, rfl⟩
    case splits2 g1 g2 => exact absurd ⟨g1, g2⟩ g
  case splits2 n g1 g2 =>
    cases h2
    case splits1 g => exact absurd ⟨g1, g2⟩ g
    case splits2 => exact ⟨rfl, rfl⟩
  case turn1 i m g =>
    cases h2
    case turn1 => exact ⟨rfl, rfl⟩
    all_goals exact absurd ⟨by assumption, ilt (by assumption) (by assumption)⟩ g
  case turn2 i m e n g1 g3 g2 =>
    cases h2
    case turn2 => exact ⟨rfl, rfl⟩
    case turn1 g => exact absurd ⟨g1, ilt g1 g2⟩ g
    all_goals exact absurd ⟨by assumption, by assumption⟩ g3
  case turn3 i m e n g1 g3 g4 g5 g2 =>
    cases h2
    case turn1 g => exact absurd ⟨g1, ilt g1 g2⟩ g
    case turn2 => exact absurd (show -20 ≤ m ∧ m ≤ 20 from ⟨g3, g4⟩) (by assumption)
    case turn3 => exact ⟨rfl, rfl⟩
    case turn4 e' n' _ _ _ k5 k6 k2 =>
      cases two g2 k2
      exact absurd ⟨k5, k6⟩ g5
  case turn4 i m e n g1 g3 g4 g5 g6 g2 =>
    cases h2
    case turn1 g => exact absurd ⟨g1, ilt g1 g2⟩ g
    case turn2 => exact absurd (show -20 ≤ m ∧ m ≤ 20 from ⟨g3, g4⟩) (by assumption)
    case turn3 e' n' _ _ _ k5 k2 =>
      cases two g2 k2
      exact absurd ⟨g5, g6⟩ k5
    case turn4 e' n' _ _ _ k5 k6 k2 =>
      cases two g2 k2
      exact ⟨rfl, rfl⟩
  all_goals (cases h2 <;> first | exact ⟨rfl, rfl⟩ | (exfalso; omega))
end PP
-- text LR
namespace PP
open PySem PySem.Spec PyProof.Rows L2 LamX TL
section
variable {P : Program} {w : World} {K : PySem.W.Frag} {mg : Str → Option Value} {base : Heap} {P1 P2 : Addr}
/-- all but lists and tables stays -/
def Kt (H H' : Hp) : Prop := ∀ a o, (∀ xs, o ≠ .lst xs) → (∀ ps, o ≠ .tbl ps) → H a = some o → H' a = some o
theorem Kt.tup {H H' : Hp} (k : Kt H H') {a : Addr} {xs : List V} (e : H a = some (.tup xs)) : H' a = some (.tup xs) := k a _ (fun _ z => by cases z) (fun _ z => by cases z) e
theorem Kt.ins {H H' : Hp} (k : Kt H H') {a C dx : Addr} {fs : List (Str × V)} (e : H a = some (.ins C dx fs)) : H' a = some (.ins C dx fs) := k a _ (fun _ z => by cases z) (fun _ z => by cases z) e
theorem Kt.same {H H' : Hp} (k : Same H H') : Kt H H' := fun a o _ _ e => k a o e
theorem Kt.trans {H H' H'' : Hp} (k : Kt H H') (k2 : Kt H' H'') : Kt H H'' := fun a o n t e => k2 a o n t (k a o n t e)
theorem Kt.kp {H H' : Hp} {j : Addr} {xs : List V} (k : Kp [j] H H') (h : H j = some (.lst xs)) : Kt H H' := fun a o n _ e => k a o (fun z => by
  rw [List.mem_singleton.mp z, h] at e
  exact n _ (Option.some.inj e).symm) e
theorem RootAt.kt {H H' : Hp} {r : Addr} {e : E4} {d : Nat} (h : RootAt K H r e d) (k : Kt H H') : RootAt K H' r e d := by
  obtain ⟨dx, f, h1, nb, h2, h3⟩ := h
  exact ⟨dx, f, k.ins h1, nb, k.tup h2, k.tup h3⟩
theorem StAt.kt {H H' : Hp} {a : Addr} {pg : Rs} (h : StAt K H a pg) (k : Kt H H') : StAt K H' a pg := by
  obtain ⟨t, ts, m, h1, h2, h3, h4⟩ := h
  exact ⟨t, ts, m, k.tup h1, ⟨k.tup h2.tup, fun r hr => (h2.rts r hr).kt k, h2.ok, h2.len⟩, h3, h4⟩
theorem ConAt.kt {H H' : Hp} {c d : Addr} {z : Sta} (h : ConAt K H c d z) (k : Kt H H') : ConAt K H' c d z := by
  obtain ⟨dx, tk, h1, h2, dx2, st, pa, as, g1, g2, g3, g4, g5⟩ := h
  exact ⟨dx, tk, k.ins h1, ⟨k.tup h2.1, h2.2⟩, dx2, st, pa, as, k.ins g1, g2.kt k, k.tup g3, fun x hx => (g4 x hx).kt k, g5⟩
theorem ConAt.two {H : Hp} {c d : Addr} {z : Sta} (h : ConAt K H c d z) : ∀ x ∈ [c, d], ∃ C dx fs, H x = some (.ins C dx fs) := fun x hx => by
  obtain ⟨C, dx, fs, e, _⟩ := h.nort x hx
  exact ⟨C, dx, fs, e⟩
theorem Tabs.kj {T : List (Addr × Str)} {H H' : Hp} {j : Addr} {xs : List V} (t : Tabs T H) (k : Kp [j] H H') (h : H j = some (.lst xs)) : Tabs T H' := fun p hp => by
  obtain ⟨ps, h1, h2, h3⟩ := t p hp
  have nn : ∀ (a : Addr) (o : HO), H a = some o → (∀ xs, o ≠ .lst xs) → H' a = some o := fun a o e n => k a o (fun z => by
    rw [List.mem_singleton.mp z, h] at e
    exact n _ (Option.some.inj e).symm) e
  refine ⟨ps, nn _ _ h1 (fun _ z => by cases z), h2, fun pos cv hc => ?_⟩
  obtain ⟨c, e1, e2⟩ := h3 pos cv hc
  exact ⟨c, e1, nn _ _ e2 (fun _ z => by unfold CodeO at z; cases z)⟩
theorem JugAt.kx {H H' : Hp} {S : List Addr} {j : Addr} {n : Nat} (h : JugAt H j n) (k : Kx S H H') (hS : ∀ x ∈ S, ∃ C dx fs, H x = some (.ins C dx fs)) : JugAt H' j n := by
  obtain ⟨a, b, c, h1, h2⟩ := h
  exact ⟨a, b, c, k.lst (fun z => by
    obtain ⟨C, dx, fs, e⟩ := hS j z
    rw [h1] at e
    cases e) h1, h2⟩
/-- what stands between the lines -/
structure Rg (K : PySem.W.Frag) (P1 P2 j c d : Addr) (H : Hp) (z z2 : Sta) (pl q : Addr) (n : Nat) : Prop where
  con : ConAt K H c d z
  tab : Tabs (tabs P1 P2) H
  jug : JugAt H j n
  pln : PlanAt j H pl z2.s z2.e
  sg : z2.s = 1 ∨ z2.s = -1
  ok : Ok30 z2.e
  pgs : PgsA j H q (z2.pgs ++ [z2.pg])
theorem Rg.same {j c d pl q : Addr} {H H' : Hp} {z z2 : Sta} {n : Nat} (h : Rg K P1 P2 j c d H z z2 pl q n) (k : Same H H') : Rg K P1 P2 j c d H' z z2 pl q n :=
  ⟨h.con.kt (Kt.same k), Tabs.ext h.tab k, h.jug.mono k, h.pln.kd (Kd.same k), h.sg, h.ok, h.pgs.kd (Kd.same k)⟩
theorem Rg.kp {j c d pl q : Addr} {H H' : Hp} {z z2 : Sta} {n m : Nat} (h : Rg K P1 P2 j c d H z z2 pl q n) (k : Kp [j] H H') (hj : JugAt H' j m) : Rg K P1 P2 j c d H' z z2 pl q m := by
  have kd := Kd.jug k h.jug
  obtain ⟨a, b, e, h1, _⟩ := id h.jug
  exact ⟨h.con.kt (Kt.kp k h1), Tabs.kj h.tab k h1, hj, h.pln.kd kd, h.sg, h.ok, h.pgs.kd kd⟩
theorem Rg.less {j c d pl q : Addr} {H : Hp} {z z2 : Sta} {n m : Nat} (h : Rg K P1 P2 j c d H z z2 pl q n) (hm : m ≤ n) : Rg K P1 P2 j c d H z z2 pl q m := { h with jug := h.jug.less hm }
theorem Rg.said {j c d pl q : Addr} {H H' : Hp} {z z2 z' : Sta} {n : Nat} (h : Rg K P1 P2 j c d H z z2 pl q n) (k : Kx [c, d] H H') (ht : Tabs (tabs P1 P2) H') (hc : ConAt K H' c d z') : Rg K P1 P2 j c d H' z' z2 pl q n := by
  have kd : Kd j H H' := Kd.kx k h.con.two
  exact ⟨hc, ht, h.jug.kx k h.con.two, h.pln.kd kd, h.sg, h.ok, h.pgs.kd kd⟩
theorem ok_logs {e : E4} {s : Int} (ok : Ok30 e) (hs : s = 1 ∨ s = -1) : (s * (e.tp : Int)).natAbs.log2 < 1920 ∧ (e.bt : Int).natAbs.log2 < 1920 :=
  ⟨Nat.lt_trans (PySem.Flt.log2_lt_of (k := 120) (by decide) (by have := ok.t; rcases hs with h | h <;> rw [h] <;> omega)) (by decide), Nat.lt_trans (PySem.Flt.log2_lt_of (k := 120) (by decide) (by have := ok.b; omega)) (by decide)⟩
theorem tx_take {s : Int} {e : E4} : ("take " : Str) ++ nText (s * (e.tp : Int)) (e.bt : Int) = (Ln.take s e).text := by
  show _ = Txt.join " " ["take", nText (s * (e.tp : Int)) (e.bt : Int)]
  rw [join2]
  rfl
def sp_law_right (P1 P2 : Addr) : Sp := sp1 fun x H Q _ => ∃ (j : Addr), x = .ref j ∧ JugAt H j 10000 ∧ Tabs (tabs P1 P2) H ∧ ∀ H', Kx [j] H H' → Tabs (tabs P1 P2) H' → Q (.bl true) H'
theorem c_law_right (T : Tx K mg) (B : Tb K mg base P1 P2) (hdig : PySem.W.nsIn K cStatics "sys.int_max_str_digits" = some none) (hD : CalX P w K mg base CX0 5 "_law_degree" sp_law_degree []) : CalX P w K mg base CX0 17 "_law_right" (sp_law_right P1 P2) [] := by
  refine cal0_of (F_law_right T) (g_law_right T) bd_law_right sc_law_right len1 (fun cdv A outer s H vs Q E hr h => ?_)
  obtain ⟨_, rfl, j, rfl, hj, ht, q⟩ := h
  refine ⟨_, (pss_cons (ps_par3 (i := 1) (j := 2) (l := 3) (by rfl) sc_law_right.nd rfl rfl rfl (by decide) (by decide) (by decide) rfl rfl rfl (pa_cons (pe_mkx0 (c_Console_init T) hr pass0) (pa_cons (pe_tup (pa_cons pe_int (pa_cons (pe_lst (pa_cons pe_int (pa_cons pe_int (pa_cons pe_int (pa_cons pe_int pa_nil))))) pa_nil))) (pa_cons (pe_lst (pa_cons (pe_lst pa_nil) pa_nil)) pa_nil))) (by rfl))
      (pss_cons (ps_for PassesOwn.never rfl (pi_range1 rfl (b_range T) (pa_cons pe_int pa_nil)) (pg_name (i := 4) sc_law_right.nd rfl (Or.inl rfl)) (pss_cons (ps_if (pt_cmpR op_eq (pe_cx (c_law_pull T) hr pass0 (pa_cons (pv 0) (pa_cons pe_int pa_nil))) pe_int (nomark _)) (pss_cons (ps_set (i := 2) sc_law_right.nd rfl (Or.inl rfl) (pe_cx (c_law_plan T) hr pass0 (pa_cons (pv 0) pa_nil)))
      (pss_one (ps_par (i := 5) (j := 6) (by rfl) sc_law_right.nd rfl rfl (by decide) rfl rfl (pa_cons (pe_op op_add_str pe_str (pe_cx (c_law_text T) hr pass0 (pa_cons (pe_cx (c_law_pair T) hr pass0 (pa_cons (pe_ix ix_tup (pv 2) pe_int (fun _ _ => rfl)) (pa_cons (pe_ix ix_tup (pv 2) pe_int (fun _ _ => rfl)) pa_nil))) pa_nil))) (pa_cons pe_str pa_nil)) (by rfl)))) (pss_cons (ps_asg (pe_cx (c_law_line T) hr pass0 (pa_cons (pv 0) (pa_cons (pe_ix ix_list (pv 3) (pe_un un_neg pe_int) (fun _ _ => rfl)) pa_nil))) (pg_tup rfl (pgs_cons (pg_name (i := 5) sc_law_right.nd rfl (Or.inl rfl)) (pgs_cons (pg_name (i := 7) sc_law_right.nd rfl (Or.inl rfl)) pgs_nil))))
      (pss_cons (ps_set (i := 6) sc_law_right.nd rfl (Or.inl rfl) (pe_cx (c_law_state T hD) hr pass0 (pa_cons (pv 2) (pa_cons (pe_ix ix_list (pv 3) (pe_un un_neg pe_int) (fun _ _ => rfl)) (pa_cons (pv 5) pa_nil)))))
      (pss_one (ps_if (pt_cmpR (op_neE hr.units) (pv 7) (pe_lst pa_nil) (nomark _)) (pss_one (ps_asg (pe_cx (c_law_stepped T hdig) hr pass0 (pa_cons (pv 2) (pa_cons (pv 3) (pa_cons (pv 7) pa_nil)))) (pg_tup rfl (pgs_cons (pg_name (i := 6) sc_law_right.nd rfl (Or.inl rfl)) (pgs_cons (pg_name (i := 3) sc_law_right.nd rfl (Or.inl rfl)) pgs_nil))))) pss_nil)))))
      (pss_cons (ps_set (i := 8) sc_law_right.nd rfl (Or.inl rfl) (pe_ifExp (pt_cmpR op_eq (pe_op op_mod (pe_callTy call_int1 (by rfl) (b_int T) (by decide +kernel) (pa_cons (pv 4) pa_nil)) pe_int) pe_int (nomark _)) (pe_mxk (c_Console_sayK T B) hr pass0 (pv 1) (pv 5)) (pe_mx (c_Console_say T B) hr pass0 (pv 1) (pa_cons (pv 5) pa_nil))))
      (pss_cons (ps_if (pt_cmpR op_ne (pv 8) (pv 6) (nomark _)) (pss_one (ps_ret pe_bl)) pss_nil)
      (pss_one (ps_if (pt_cmpR op_ne (pe_mx (c_Console_say T B) hr pass0 (pv 1) (pa_cons pe_str pa_nil)) (pe_cx (c_law_state T hD) hr pass0 (pa_cons (pv 2) (pa_cons (pe_ix ix_list (pv 3) (pe_un un_neg pe_int) (fun _ _ => rfl)) (pa_cons pe_str pa_nil)))) (nomark _)) (pss_one (ps_ret pe_bl)) pss_nil))))))
      (pss_one (ps_ret (pe_cmpR op_eq (pe_mx (c_Console_say T B) hr pass0 (pv 1) (pa_cons pe_str pa_nil)) (pe_cx (c_law_text T) hr pass0 (pa_cons (pe_cx (c_law_pair T) hr pass0 (pa_cons (pe_ix ix_tup (pv 2) pe_int (fun _ _ => rfl)) (pa_cons (pe_ix ix_tup (pv 2) pe_int (fun _ _ => rfl)) pa_nil))) pa_nil)) (nomark _)))))), ?_⟩
  walk_at "go"
  intro x dx hx hdx hne
  refine ⟨_, rfl, x, dx, rfl, upd_same, fun H1 d hd nd kx hc => ⟨rfl, ?_⟩⟩
  have kk1 : Same H (upd (upd H dx (.own x)) x (.ins (gaK K "Console") dx [])) := fun a o e => by
    by_cases h1 : a = x
    · rw [h1, hx] at e; cases e
    · by_cases h2 : a = dx
      · rw [h2, hdx] at e; cases e
      · unfold upd
        rw [if_neg h1, if_neg h2]
        exact e
  have hd0 : H d = none := Decidable.byContradiction fun z => by
    cases e : H d with
    | none => exact z e
    | some o => have := hd.symm.trans (kk1 d o e); cases this
  have kc : ∀ {H' H5 : Hp}, Kx [j] H H' → Kx [x, d] H' H5 → Kx [j] H H5 := fun k k5 a o n t e => k5 a o (fun z => by
    rcases List.mem_cons.mp z with z | z
    · rw [z, hx] at e; cases e
    · rw [List.mem_singleton.mp z, hd0] at e; cases e) t (k a o n t e)
  have k1 : Same H H1 := fun a o e => kx a o (fun z => by rw [List.mem_singleton.mp z, hx] at e; cases e) (kk1 a o e)
  walk_at "go"
  refine mkT fun l0 hl0 => ?_
  have kl := same_new (o := .lst [.int 1, .int 0, .int 0, .int 0]) hl0
  walk_at "go"
  refine mkT fun pl hpl => ?_
  have kpl := same_new (o := .tup [.int 1, .ref l0]) hpl
  walk_at "go"
  refine mkT fun p0 hp0 => ?_
  have kp0 := same_new (o := .lst []) hp0
  walk_at "go"
  refine mkT fun q0 hq0 => ?_
  have kq0 := same_new (o := .lst [.ref p0]) hq0
  have hj1 := hj.mono k1
  have k14 := Same.trans kl (Same.trans kpl (Same.trans kp0 kq0))
  have k4 := Same.trans k1 k14
  have n0 : l0 ≠ j := jug_ne hj1 hl0
  have np : p0 ≠ j := jug_ne ((hj1.mono kl).mono kpl) hp0
  have nq : q0 ≠ j := jug_ne (((hj1.mono kl).mono kpl).mono kp0) hq0
  have z0ok : Ok30 e2 := ⟨by decide, by decide⟩
  have R0 : Rg K P1 P2 j x d _ ⟨1, e2, [], []⟩ ⟨1, e2, [], []⟩ pl q0 10000 := ⟨hc.kt (Kt.same k14), Tabs.ext ht k4, hj.mono k4, ⟨l0, kq0 _ _ (kp0 _ _ upd_same), kq0 _ _ (kp0 _ _ (kpl _ _ upd_same)), n0⟩, .inl rfl, z0ok,
    ⟨[(p0, [])], upd_same, nq, fun y hy => by
      rw [List.mem_singleton.mp hy]
      exact ⟨[], ⟨kq0 _ _ upd_same, np, fun _ h => absurd h (List.not_mem_nil), fun _ h => absurd h (List.not_mem_nil), by decide, fun _ h => absurd h (List.not_mem_nil)⟩, rfl⟩, rfl⟩⟩
  walk_at "go"
  have kd0 : Kx [j] H _ := Kx.same k4
  generalize upd (upd (upd (upd H1 l0 (.lst [.int 1, .int 0, .int 0, .int 0])) pl (.tup [.int 1, .ref l0])) p0 (.lst [])) q0 (.lst [.ref p0]) = H4 at R0 kd0
  refine ⟨30, rfl, by decide, by decide, forR (lo := 0) (n := 30) (fun i σ' H' => ∃ z pl q, ∃ v4 v5 v6 v7 v8 : Option V, σ' = [some (.ref j), some (.ref x), some (.ref pl), some (.ref q), v4, v5, v6, v7, v8] ∧ Rg K P1 P2 j x d H' z z pl q (10000 - 100 * i) ∧ Kx [j] H H' ∧ z.pgs.length ≤ i)
    ⟨_, pl, q0, none, none, none, none, none, rfl, R0, kd0, Nat.le_refl 0⟩ (fun i σ' H' hi h => ?_) (fun σ' H' h => ?_)⟩
  · obtain ⟨z, pl, q1, v4, v5, v6, v7, v8, rfl, R, kd, pgl⟩ := h
    refine g_name ?_
    refine g_seq ((fun (h : ∀ nx : L2.St → Hp → Prop, (∀ σ' H', (∃ z z2 l a pl q, ∃ v7 v8 : Option V, σ' = [some (.ref j), some (.ref x), some (.ref pl), some (.ref q), some (.int (0 + (i : Int))), some (.str l.text), some (.str a), v7, v8] ∧ LnOk l ∧ Step l z a z2 ∧ z.pgs.length ≤ i ∧ z2.pgs.length ≤ i + 1 ∧ Rg K P1 P2 j x d H' z z2 pl q (10000 - 100 * (i + 1)) ∧ Kx [j] H H') → nx σ' H') → tIfS _ _ _ ⟨nx, _, _, _⟩ _ _) => h _ ?_) ?_)
    · rintro σ' H' ⟨z, z2, l, a, pl, q2, v7, v8, rfl, hlo, hst, pl1, pl2, R, kd⟩
      refine g_seq (g_asg ((fun (h : ∀ R : VK, (∀ H5, Kx [x, d] H' H5 → Tabs (tabs P1 P2) H5 → ConAt K H5 x d z2 → R (.str a) H5) → tIf _ _ _ _ _ R) => h _ ?_) ?_))
      · intro H5 k5 t5 c5
        have R5 := R.said k5 t5 c5
        have kd5 : Kx [j] H H5 := kc kd k5
        walk_at "go"
        refine ifnF rfl ?_
        walk_at "go"
        obtain ⟨dx1, tk1, g1, g2, g3⟩ := id R5.con
        refine ⟨x, dx1, _, rfl, g1, rfl, ?_⟩
        walk_at "go"
        refine ⟨_, _, rfl, x, d, z2, .roots, rfl, congrArg V.str tx_one, trivial, R5.con, by omega, R5.tab, fun H6 a6 z6 k6 t6 c6 s6 => ?_⟩
        obtain ⟨rfl, rfl⟩ := step_one s6 .roots
        have R6 := R5.said k6 t6 c6
        have kd6 : Kx [j] H H6 := kc kd5 k6
        obtain ⟨as, p6, hq6, qj6, has6, hp6, eL6⟩ := R6.pgs.last
        walk_at "go"
        refine g_ixL (SqL.of hq6) (show _ = some (.ref p6) from atI_last _ _) ?_
        walk_at "go"
        refine ⟨_, _, _, rfl, j, pl, p6, z6, .roots, _, rfl, rfl, congrArg V.str tx_one, R6.jug, R6.pln, R6.sg, R6.ok, hp6, trivial, (fun _ _ => by simp), fun H7 a7 k7 s7 => ?_, fun hne => absurd rfl hne⟩
        obtain ⟨rfl, _⟩ := step_one s7 .roots
        walk_at "go"
        refine ifnF rfl ?_
        walk_at "go"
        exact ⟨z6, pl, q2, _, _, _, _, _, rfl, R6.same k7, Kx.trans kd6 (Kx.same k7), pl2⟩
      · intro Rr hR
        walk_at "go"
        refine .inl ⟨_, rfl, ?_⟩
        walk_at "go"
        refine g_I (by decide) ?_
        walk_at "go"
        obtain ⟨dx1, tk1, g1, g2, g3⟩ := id R.con
        refine ifd (fun _ => ?_) (fun _ => ?_)
        · walk_at "go"
          refine ⟨x, dx1, _, rfl, g1, rfl, ?_⟩
          walk_at "go"
          refine ⟨_, _, rfl, x, d, z, l, rfl, rfl, hlo, R.con, by omega, R.tab, fun H5 a5 z5 k5 t5 c5 s5 => ?_⟩
          obtain ⟨rfl, rfl⟩ := step_one s5 hst
          exact hR H5 k5 t5 c5
        · walk_at "go"
          refine ⟨x, dx1, _, rfl, g1, rfl, ?_⟩
          walk_at "go"
          refine ⟨_, _, rfl, x, d, z, l, rfl, rfl, hlo, R.con, by omega, R.tab, fun H5 a5 z5 k5 t5 c5 s5 => ?_⟩
          obtain ⟨rfl, rfl⟩ := step_one s5 hst
          exact hR H5 k5 t5 c5
    · intro nx hnx
      walk_at "go"
      refine ⟨_, _, rfl, j, 10000 - 100 * i - 1, 5, rfl, rfl, R.jug.less (by omega), by decide, by decide, fun v H5 v0 v1 k5 hj5 => ?_⟩
      have R5 := R.kp k5 hj5
      have kd5 : Kx [j] H H5 := Kx.trans kd (Kx.kp k5)
      walk_at "go"
      refine ifd (fun hv => ?_) (fun hv => ?_)
      · walk_at "go"
        refine ⟨_, rfl, j, 10000 - 100 * i - 41, rfl, R5.jug.less (by omega), fun H6 p6 s6 e6 hs6 ok6 sm6 k6 hj6 hp6 => ?_⟩
        have kd6 : Kx [j] H H6 := Kx.trans kd5 (Kx.kp k6)
        have R6' := R5.kp k6 hj6
        have R6 : Rg K P1 P2 j x d H6 z { z with s := s6, e := e6 } p6 q1 (10000 - 100 * i - 41) := ⟨R6'.con, R6'.tab, R6'.jug, hp6, hs6, ok6, R6'.pgs⟩
        obtain ⟨lp, m1, m2, m3⟩ := id hp6
        walk_at "go"
        refine g_ixT (SqT.of m1) at0 ?_
        walk_at "go"
        refine g_ixT (SqT.of m1) at1 ?_
        walk_at "go"
        refine ⟨_, _, rfl, s6, lp, e6, rfl, rfl, hs6, m2, (ok_sm ok6).le (by decide), fun H7 p7 k7 hp7 => ?_⟩
        walk_at "go"
        obtain ⟨lt, lb⟩ := ok_logs ok6 hs6
        refine ⟨_, rfl, p7, _, _, rfl, hp7, lt, lb, ?_⟩
        have c5 : (Str.ofString "take ").length = 5 := by decide
        have c6 := nText_len lt lb
        refine ⟨_, _, rfl, rfl, big_line (by omega), ?_⟩
        rw [show Str.ofString "take " ++ nText (s6 * (e6.tp : Int)) (e6.bt : Int) = (Ln.take s6 e6).text from tx_take]
        walk_at "go"
        exact hnx _ _ ⟨z, _, .take s6 e6, "ok", p6, q1, v7, v8, rfl, ⟨hs6, ok6⟩, .take, pgl, Nat.le_succ_of_le pgl, (R6.same k7).less (by omega), Kx.trans kd6 (Kx.same k7)⟩
      · walk_at "go"
        obtain ⟨as, p5, hq5, qj5, has5, hp5, eL5⟩ := R5.pgs.last
        refine g_ixL (SqL.of hq5) (show _ = some (.ref p5) from atI_last _ _) ?_
        walk_at "go"
        refine ⟨_, _, rfl, j, p5, z.pg, 10000 - 100 * i - 61, rfl, rfl, R5.jug.less (by omega), hp5, fun H6 t6 dq l hlo hdk ntk k6 hj6 ht6 hdq => ?_⟩
        have R6 := R5.kp k6 hj6
        have kd6 : Kx [j] H H6 := Kx.trans kd5 (Kx.kp k6)
        refine g_gtup (SqT.of ht6) rfl ?_
        walk_at "go"
        obtain ⟨as6, p6, hq6, qj6, has6, hp6, eL6⟩ := R6.pgs.last
        refine g_ixL (SqL.of hq6) (show _ = some (.ref p6) from atI_last _ _) ?_
        walk_at "go"
        refine (fun (h : ∀ R : VK, (∀ (a : Str) H7, Same H6 H7 → (deedL l = [] → Step l z a z) → R (.str a) H7) → sp_law_state _ _ R _) => h _ ?_) ?_
        rotate_left
        · intro Rr hR
          exact ⟨_, _, _, rfl, j, pl, p6, z, l, _, rfl, rfl, rfl, R6.jug, R6.pln, R6.sg, R6.ok, hp6, hlo, ntk, fun H7 a k s => hR a H7 k fun _ => s, fun hne H7 k => hR _ H7 k fun e => absurd e hne⟩
        intro a H7 k7 hs7
        have R7 := R6.same k7
        have kd7 : Kx [j] H H7 := Kx.trans kd6 (Kx.same k7)
        walk_at "go"
        refine mkT fun e0 he0 => ?_
        have ke := same_new (o := .lst []) he0
        have R8 := R7.same ke
        have kd8 := Kx.trans kd7 (Kx.same ke)
        have hdq8 := ke _ _ (k7 _ _ hdq)
        refine ⟨dq, e0, _, rfl, rfl, .inr ⟨SqL.of hdq8, SqL.of upd_same⟩, ?_⟩
        by_cases hde : deedL l = []
        · rw [hde]
          walk_at "go"
          refine iteF ?_
          walk_at "go"
          exact hnx _ _ ⟨z, z, l, a, pl, q1, _, v8, rfl, hlo, hs7 hde, pgl, Nat.le_succ_of_le pgl, R8.less (by omega), kd8⟩
        · have hem : (deedL l).isEmpty = false := by
            cases h : deedL l with
            | nil => exact absurd h hde
            | cons _ _ => rfl
          rw [hem]
          walk_at "go"
          refine iteT ?_
          walk_at "go"
          refine ⟨_, _, _, rfl, j, pl, q1, dq, z, l, _, rfl, rfl, rfl, R8.jug, R8.pln, R8.sg, R8.ok, R8.pgs, by omega, hdq8, hdk hde, fun H9 t9 q9 a9 z9 k9 ht9 hpg9 hs9 es ee len9 => ?_⟩
          refine g_gtup (SqT.of ht9) rfl ?_
          walk_at "go"
          have R9 := R8.same k9
          exact hnx _ _ ⟨z, z9, l, a9, pl, q9, _, v8, rfl, hlo, hs9, pgl, by omega, ⟨R9.con, R9.tab, R9.jug.less (by omega), by rw [es, ee]; exact R9.pln, by rw [es]; exact R9.sg, by rw [ee]; exact R9.ok, hpg9⟩, Kx.trans kd8 (Kx.same k9)⟩
  · obtain ⟨z, pl, q1, v4, v5, v6, v7, v8, rfl, R, kd, pgl⟩ := h
    walk_at "go"
    obtain ⟨dx1, tk1, g1, g2, g3⟩ := id R.con
    refine ⟨x, dx1, _, rfl, g1, rfl, ?_⟩
    walk_at "go"
    refine ⟨_, _, rfl, x, d, z, .number, rfl, congrArg V.str tx_one, trivial, R.con, by omega, R.tab, fun H5 a z5 k5 t5 c5 s5 => ?_⟩
    obtain ⟨rfl, rfl⟩ := step_one s5 .number
    have R5 := R.said k5 t5 c5
    have kd5 : Kx [j] H H5 := kc kd k5
    obtain ⟨lp, m1, m2, m3⟩ := id R5.pln
    walk_at "go"
    refine g_ixT (SqT.of m1) at0 ?_
    walk_at "go"
    refine g_ixT (SqT.of m1) at1 ?_
    walk_at "go"
    refine ⟨_, _, rfl, z5.s, lp, z5.e, rfl, rfl, R5.sg, m2, (ok_sm R5.ok).le (by decide), fun H6 p6 k6 hp6 => ?_⟩
    walk_at "go"
    obtain ⟨lt, lb⟩ := ok_logs R5.ok R5.sg
    refine ⟨_, rfl, p6, _, _, rfl, hp6, lt, lb, ?_⟩
    walk_at "go"
    rw [decide_eq_true rfl]
    exact q H6 (Kx.trans kd5 (Kx.same k6)) (Tabs.ext R5.tab k6)
end
end PP
-- text LS
namespace PP
open PySem PySem.Spec PyProof.Rows L2 LamX TL
section
variable {P : Program} {w : World} {K : PySem.W.Frag} {mg : Str → Option Value} {base : Heap} {P1 P2 : Addr}
theorem SqL.same {H H' : Hp} {a : Addr} {xs : List V} (h : SqL K H a xs) (k : Same H H') : SqL K H' a xs := by
  rcases h with (h | ⟨o, h⟩) | h
  · exact .inl (.inl (k _ _ h))
  · exact .inl (.inr ⟨o, k _ _ h⟩)
  · exact .inr h
theorem SqL.jk {H H1 H' : Hp} {a j : Addr} {xs : List V} (h : SqL K H a xs) (k1 : Same H H1) (hj : H j = none) (k : Kx [j] H1 H') : SqL K H' a xs := by
  have n : ∀ o, H a = some o → a ∉ [j] := fun o e z => by
    rw [List.mem_singleton.mp z, hj] at e
    cases e
  rcases h with (h | ⟨o, h⟩) | h
  · exact .inl (.inl (k _ _ (n _ h) (fun _ z => by cases z) (k1 _ _ h)))
  · exact .inl (.inr ⟨o, k _ _ (n _ h) (fun _ z => by cases z) (k1 _ _ h)⟩)
  · exact .inr h
theorem cut6 {zs : List Int} : ∃ ys : List Int, cutV (zs.map V.int) none (some 6) = ys.map V.int ∧ ys.length ≤ 6 := by
  refine ⟨(zs.take 6).take zs.length, ?_, ?_⟩
  · unfold cutV
    rw [HT.sIx_none, show (6 : Int) = ((6 : Nat) : Int) from rfl, HT.sIx_nat, List.drop_zero, Nat.sub_zero, List.length_map, List.map_take, List.map_take, List.take_take]
    rw [Nat.min_comm]
  · rw [List.length_take, List.length_take]
    omega
def sp_law_jug (K : PySem.W.Frag) : Sp := sp2 fun x y H Q _ => ∃ (a : Addr) (zs : List Int) (k : Nat), x = .ref a ∧ y = .int (k : Int) ∧ SqL K H a (zs.map V.int) ∧ k < 10 ∧ zs.length ≤ 1000 ∧ ∀ H' j, Same H H' → H j = none → JugAt H' j 10000 → Q (.ref j) H'
theorem c_law_jug (T : Tx K mg) : CalX P w K mg base CX0 1 "_law_jug" (sp_law_jug K) [] := by
  refine cal0_of (F_law_jug T) (g_law_jug T) bd_law_jug sc_law_jug len2 (fun cdv A outer s H vs Q E hr h => ?_)
  obtain ⟨_, _, rfl, a, zs, k, rfl, rfl, ha, k0, zl, q⟩ := h
  refine ⟨_, (pss_cons (ps_par (i := 2) (j := 3) (by rfl) sc_law_jug.nd rfl rfl (by decide) rfl rfl (pa_cons (pe_ifExp (pt_cmpR op_lt (pv 1) (pe_callB call_len_seq (by rfl) (b_len T) (by decide +kernel) (pa_cons (pv 0) pa_nil)) (nomark _)) (pe_callTy call_int1 (by rfl) (b_int T) (by decide +kernel) (pa_cons (pe_ix ix_list (pv 0) (pv 1) (fun _ _ => rfl)) pa_nil)) pe_int) (pa_cons (pe_op op_add (pe_op op_mulW pe_int (pe_op op_add (pv 1) pe_int)) pe_int) pa_nil)) (by rfl))
      (pss_cons (ps_for PassesOwn.never rfl (pi_list (pe_slice sl_list (pv 0) po_none (po_some pe_int))) (pg_name (i := 4) sc_law_jug.nd rfl (Or.inl rfl)) (pss_one (ps_set (i := 3) sc_law_jug.nd rfl (Or.inl rfl) (pe_op op_mod (pe_callTy call_int1 (by rfl) (b_int T) (by decide +kernel) (pa_cons (pe_op op_add (pe_op op_add (pe_op op_mulW (pv 3) pe_int) (pe_op op_mod (pe_callTy call_int1 (by rfl) (b_int T) (by decide +kernel) (pa_cons (pv 4) pa_nil)) pe_int)) (pe_op op_mulW pe_int (pv 1))) pa_nil)) pe_int))))
      (pss_cons (ps_set (i := 5) sc_law_jug.nd rfl (Or.inl rfl) (pe_ifExp (PW.pt (pw_or (pt_cmpR op_lt (pv 2) pe_int (nomark _)) (pw_or1 (pt_cmpR op_ge (pv 2) (pe_op op_pow pe_int pe_int) (nomark _))))) (pe_callB call_abs (by rfl) (b_abs T) (by decide +kernel) (pa_cons (pv 2) pa_nil)) pe_int))
      (pss_one (ps_ret (pe_lst (pa_cons (pv 5) (pa_cons (pe_op op_mod (pe_callTy call_int1 (by rfl) (b_int T) (by decide +kernel) (pa_cons (pe_op op_add (pv 3) (pe_op op_mulW pe_int (pe_op op_mod (pe_callTy call_int1 (by rfl) (b_int T) (by decide +kernel) (pa_cons (pv 2) pa_nil)) pe_int))) pa_nil)) pe_int) (pa_cons pe_int pa_nil))))))))), ?_⟩
  walk_at "go"
  refine ⟨a, _, rfl, .inl ha, ?_⟩
  walk_at "go"
  rw [List.length_map]
  refine (fun (h : ∀ R : VK, (∀ cell : Int, R (.int cell) H) → (if decide ((k : Int) < (zs.length : Int)) = true then _ else _ : Prop)) => h _ ?_) ?_
  · intro cell
    walk_at "go"
    refine g_I (wide_mul (a := 20) (b := 10) (by decide) (by omega) (by decide) (by decide) (by decide)) ?_
    walk_at "go"
    refine ⟨a, _, rfl, ha, fun sl hsl => ?_⟩
    obtain ⟨ys, ey, yl⟩ := cut6 (zs := zs)
    rw [ey]
    have ks := same_new (o := .lst (ys.map V.int)) hsl
    have hsL : (upd H sl (.lst (ys.map V.int))) sl = some (.lst (ys.map V.int)) := upd_same
    walk_at "go"
    refine ⟨sl, rfl, ⟨_, SqL.of hsL⟩, forL (xs := ys.map V.int) (fun i σ' H' => H' = upd H sl (.lst (ys.map V.int)) ∧ ∃ (m : Int) (v4 v5 : Option V), σ' = [some (.ref a), some (.int (k : Int)), some (.int cell), some (.int m), v4, v5] ∧ 0 ≤ m ∧ m < 2147483269)
      ⟨rfl, _, none, none, rfl, by omega, by omega⟩ (fun i σ' H' hi h => SqL.of (h.1 ▸ hsL)) (fun i x σ' H' hx h => ?_) (fun σ' H' h => ?_)⟩
    · obtain ⟨rfl, m, v4, v5, rfl, m0, m1⟩ := h
      rw [List.getElem?_map] at hx
      cases ez : ys[i]? with
      | none => rw [ez] at hx; cases hx
      | some y =>
        rw [ez] at hx
        cases hx
        walk_at "go"
        refine g_I (wide_mul (a := 40) (b := 20) (by omega) (by decide) (by decide) (by decide) (by decide)) ?_
        walk_at "go"
        refine .inl ⟨_, rfl, ?_⟩
        walk_at "go"
        refine g_I (by decide) ?_
        walk_at "go"
        refine g_I (wide_mul (a := 20) (b := 20) (by decide) (by omega) (by decide) (by decide) (by decide)) ?_
        walk_at "go"
        refine .inl ⟨_, rfl, ?_⟩
        walk_at "go"
        refine g_I (by decide) ?_
        walk_at "go"
        exact ⟨rfl, _, _, _, rfl, Int.emod_nonneg _ (by decide), Int.emod_lt_of_pos _ (by decide)⟩
    · obtain ⟨rfl, m, v4, v5, rfl, m0, m1⟩ := h
      refine g_seq (g_asg ((fun (h : ∀ R : VK, (∀ dg : Int, R (.int dg) (upd H sl (.lst (ys.map V.int)))) → tIf _ _ _ _ _ R) => h _ ?_) ?_))
      · intro dg
        walk_at "go"
        refine .inl ⟨_, rfl, ?_⟩
        walk_at "go"
        refine g_I (by decide) ?_
        walk_at "go"
        have w0 := Int.emod_nonneg cell (by decide : (999863 : Int) ≠ 0)
        have w1 := Int.emod_lt_of_pos cell (by decide : (0 : Int) < 999863)
        refine g_I (wide_mul (a := 20) (b := 20) (by decide) (by omega) (by decide) (by decide) (by decide)) ?_
        walk_at "go"
        refine .inl ⟨_, rfl, ?_⟩
        walk_at "go"
        refine g_I (by decide) ?_
        walk_at "go"
        refine mkT fun j hj => ?_
        have kj := same_new (o := .lst [.int dg, .int ((m + 48673 * (cell % 999863)) % 2147483269), .int 0]) hj
        refine q _ j (Same.trans ks kj) (Decidable.byContradiction fun z => ?_) ⟨dg, _, 0, upd_same, Int.emod_nonneg _ (by decide), Int.emod_lt_of_pos _ (by decide), by decide, by decide⟩
        cases e : H j with
        | none => exact z e
        | some o => have := hj.symm.trans (ks j o e); cases this
      · intro R hR
        walk_at "go"
        have fin : ∀ Q' : Prop, Q' → Q' := fun _ h => h
        refine ifd (fun hc => ?_) (fun hc => ?_)
        · walk_at "go"
          refine iteT ?_
          walk_at "go"
          exact ⟨_, rfl, hR _⟩
        · walk_at "go"
          refine g_I ⟨by decide, by decide, by decide⟩ ?_
          walk_at "go"
          refine ifd (fun hc2 => ?_) (fun hc2 => ?_)
          · walk_at "go"
            exact ⟨_, rfl, hR _⟩
          · walk_at "go"
            exact hR _
  · intro R hR
    refine ifd (fun hk => ?_) (fun hk => ?_)
    · walk_at "go"
      have kl : k < zs.length := by omega
      refine g_ixL ha (atI_nat (j := k) (v := V.int zs[k]) (by rw [List.getElem?_map, List.getElem?_eq_getElem kl]; rfl)) ?_
      refine .inl ⟨_, rfl, ?_⟩
      exact hR _
    · walk_at "go"
      exact hR 0
def sp_law (K : PySem.W.Frag) (P1 P2 : Addr) : Sp := sp1 fun x H Q _ => ∃ (a : Addr) (zs : List Int), x = .ref a ∧ SqL K H a (zs.map V.int) ∧ zs.length ≤ 1000 ∧ Tabs (tabs P1 P2) H ∧ ∀ H', Q (.bl true) H'
theorem body_law (T : Tx K mg) (B : Tb K mg base P1 P2) (hdig : PySem.W.nsIn K cStatics "sys.int_max_str_digits" = some none) (hD : CalX P w K mg base CX0 5 "_law_degree" sp_law_degree []) : BodyN P w K mg base 17 "law" s_law (He.ga K "law") N_law (sp_law K P1 P2) := by
  refine (fun cdv A outer s H vs Q E hr h => ?_)
  obtain ⟨_, rfl, a, zs, rfl, ha, zl, ht, q⟩ := h
  refine ⟨_, (pss_cons (ps_for PassesOwn.never rfl (pi_range1 rfl (b_range T) (pa_cons (pe_callB (call_max2 rfl) (by rfl) (b_max T) (by decide +kernel) (pa_cons pe_int (pa_cons (pe_callB (call_min2 rfl) (by rfl) (b_min T) (by decide +kernel) (pa_cons (pe_callB call_len_seq (by rfl) (b_len T) (by decide +kernel) (pa_cons (pv 0) pa_nil)) (pa_cons pe_int pa_nil))) pa_nil))) pa_nil)) (pg_name (i := 1) sc_law.nd rfl (Or.inl rfl)) (pss_one (ps_if (pt_not (pt_val (pe_cx (c_law_right T B hdig hD) hr pass0 (pa_cons (pe_cx (c_law_jug T) hr pass0 (pa_cons (pv 0) (pa_cons (pv 1) pa_nil))) pa_nil)))) (pss_one (ps_ret pe_bl)) pss_nil)))
      (pss_one (ps_ret pe_bl))), ?_⟩
  walk_at "go"
  refine ⟨a, _, rfl, .inl ha, ?_⟩
  walk_at "go"
  rw [List.length_map]
  refine ⟨_, _, rfl, ?_⟩
  walk_at "go"
  refine ⟨_, _, rfl, ?_⟩
  walk_at "go"
  obtain ⟨n, hn, n0, n1⟩ : ∃ n : Nat, (if (if (5 : Int) < (zs.length : Int) then (5 : Int) else (zs.length : Int)) > 1 then (if (5 : Int) < (zs.length : Int) then (5 : Int) else (zs.length : Int)) else 1) = (n : Int) ∧ 1 ≤ n ∧ n ≤ 5 := by
    by_cases h5 : (5 : Int) < (zs.length : Int)
    · rw [if_pos h5]
      exact ⟨5, rfl, by decide, by decide⟩
    · rw [if_neg h5]
      by_cases h1 : (zs.length : Int) > 1
      · rw [if_pos h1]
        exact ⟨zs.length, rfl, by omega, by omega⟩
      · rw [if_neg h1]
        exact ⟨1, rfl, by decide, by decide⟩
  rw [hn]
  refine ⟨_, rfl, by omega, by omega, ?_⟩
  rw [Int.toNat_natCast]
  refine forR (lo := 0) (n := n) (fun i σ' H' => SqL K H' a (zs.map V.int) ∧ Tabs (tabs P1 P2) H' ∧ ∃ v : Option V, σ' = [some (.ref a), v]) ⟨ha, ht, none, rfl⟩ (fun i σ' H' hi h => ?_) (fun σ' H' h => ?_)
  · obtain ⟨ha', ht', v, rfl⟩ := h
    walk_at "go"
    refine ⟨_, _, rfl, a, zs, i, rfl, by rw [Int.zero_add], ha', by omega, zl, fun H1 j k1 hj hjug => ?_⟩
    walk_at "go"
    refine ⟨_, rfl, j, rfl, hjug, Tabs.ext ht' k1, fun H2 k2 ht2 => ?_⟩
    walk_at "go"
    exact ⟨SqL.jk ha' k1 hj k2, ht2, _, rfl⟩
  · obtain ⟨ha', ht', v, rfl⟩ := h
    walk_at "go"
    exact q H'
theorem ok_law (T : Tx K mg) (B : Tb K mg base P1 P2) (hdig : PySem.W.nsIn K cStatics "sys.int_max_str_digits" = some none) (hD : CalX P w K mg base CX0 5 "_law_degree" sp_law_degree []) {fd : FuncData}
    (F : FunD K "law" "law" (defArgs s_law) (defBody s_law) (defScope s_law) [] [] (He.ga K "law") fd) : FnOk P w K mg base CX0 18 (He.ga K "law") fd ["_law_cells"] (sp_law K P1 P2) := F.ok sc_law len1 (bodyX_of (body_law T B hdig hD))
end
end PP
-- text SA
namespace PP
open PySem PySem.Spec PyProof.Rows L2
/-! tables of any of the masks that grow out of 7 -/
/-- the slots met from x on, as bits -/
def seenB (m : Nat) : Nat → Nat → Nat → Nat
  | 0, _, acc => acc
  | n + 1, x, acc => seenB m n ((x * 5 + 1) % (m + 1)) (acc ||| (1 <<< x))
def goB (m : Nat) : Nat → Nat → Nat
  | 0, x => x
  | n + 1, x => goB m n ((x * 5 + 1) % (m + 1))
theorem lcgI_back (m : Nat) : ∀ (k x : Nat), lcgI m x (k + 1) = lcgI m ((x * 5 + 1) % (m + 1)) k
  | 0, _ => rfl
  | k + 1, x => by
    have ih := lcgI_back m k x
    show (lcgI m x (k + 1) * 5 + 1) % (m + 1) = _
    rw [ih]
    rfl
theorem goB_eq (m : Nat) : ∀ (n x : Nat), goB m n x = lcgI m x n
  | 0, _ => rfl
  | n + 1, x => by rw [lcgI_back]; exact goB_eq m n _
theorem seenB_mem (m : Nat) : ∀ (n x acc j : Nat), (seenB m n x acc).testBit j = true → acc.testBit j = true ∨ ∃ k, k < n ∧ lcgI m x k = j
  | 0, _, _, _, h => .inl h
  | n + 1, x, acc, j, h => by
    rcases seenB_mem m n _ _ j h with z | ⟨k, h1, h2⟩
    · rw [Nat.testBit_or, Bool.or_eq_true] at z
      rcases z with z | z
      · exact .inl z
      · refine .inr ⟨0, Nat.succ_pos n, ?_⟩
        rw [Nat.one_shiftLeft, Nat.testBit_two_pow] at z
        exact of_decide_eq_true z
    · exact .inr ⟨k + 1, Nat.succ_lt_succ h1, by rw [lcgI_back]; exact h2⟩
theorem lcgI_add (m : Nat) : ∀ (a b x : Nat), lcgI m (lcgI m x a) b = lcgI m x (a + b)
  | _, 0, _ => rfl
  | a, b + 1, x => by
    show (lcgI m (lcgI m x a) b * 5 + 1) % (m + 1) = (lcgI m x (a + b) * 5 + 1) % (m + 1)
    rw [lcgI_add m a b x]
/-- a mask whose round is full -/
structure Full (m : Nat) : Prop where
  odd : m % 2 = 1
  all : ∀ i j, i ≤ m → j ≤ m → ∃ k, k ≤ m ∧ lcgI m i k = j
theorem full_of {m : Nat} (ho : m % 2 = 1) (h1 : seenB m (m + 1) 0 0 = 2 ^ (m + 1) - 1) (h2 : goB m (m + 1) 0 = 0) : Full m := by
  have cov : ∀ j, j ≤ m → ∃ b, b ≤ m ∧ lcgI m 0 b = j := fun j hj => by
    rcases seenB_mem m (m + 1) 0 0 j (by rw [h1, Nat.testBit_two_pow_sub_one]; exact decide_eq_true (Nat.lt_succ_of_le hj)) with z | ⟨k, hk, e⟩
    · rw [Nat.zero_testBit] at z
      cases z
    · exact ⟨k, Nat.le_of_lt_succ hk, e⟩
  have rnd : lcgI m 0 (m + 1) = 0 := (goB_eq m (m + 1) 0).symm.trans h2
  refine ⟨ho, fun i j hi hj => ?_⟩
  obtain ⟨a, ha, rfl⟩ := cov i hi
  obtain ⟨b, hb, rfl⟩ := cov j hj
  by_cases c : a ≤ b
  · exact ⟨b - a, by omega, by rw [lcgI_add]; congr 1; omega⟩
  · refine ⟨m + 1 - a + b, by omega, ?_⟩
    rw [lcgI_add, show a + (m + 1 - a + b) = m + 1 + b by omega, ← lcgI_add, rnd]
theorem full7 : Full 7 := full_of rfl (by decide +kernel) (by decide +kernel)
theorem full31 : Full 31 := full_of rfl (by decide +kernel) (by decide +kernel)
theorem full127 : Full 127 := full_of rfl (by decide +kernel) (by decide +kernel)
theorem full511 : Full 511 := full_of rfl (by decide +kernel) (by decide +kernel)
theorem full2047 : Full 2047 := full_of rfl (by decide +kernel) (by decide +kernel)
theorem full8191 : Full 8191 := full_of rfl (by decide +kernel) (by decide +kernel)
/-- the masks, one behind another -/
inductive Msk : Nat → Prop
  | a : Msk 7
  | b : Msk 31
  | c : Msk 127
  | d : Msk 511
  | e : Msk 2047
  | f : Msk 8191
theorem Msk.full {m : Nat} (h : Msk m) : Full m := by
  cases h
  · exact full7
  · exact full31
  · exact full127
  · exact full511
  · exact full2047
  · exact full8191
theorem Msk.le {m : Nat} (h : Msk m) : m ≤ 8191 := by cases h <;> decide
theorem sz5 : SetTable.sizeAbove (SetTable.grown 5) = 32 := by decide +kernel
theorem sz19 : SetTable.sizeAbove (SetTable.grown 19) = 128 := by decide +kernel
theorem sz77 : SetTable.sizeAbove (SetTable.grown 77) = 512 := by decide +kernel
theorem sz307 : SetTable.sizeAbove (SetTable.grown 307) = 2048 := by decide +kernel
theorem sz1229 : SetTable.sizeAbove (SetTable.grown 1229) = 8192 := by decide +kernel
/-- when one too many is in, the next mask has room for it -/
theorem Msk.next {m n : Nat} (h : Msk m) (h1 : n * 5 < m * 3) (h2 : m * 3 ≤ (n + 1) * 5) (hn : n ≤ 4000) : ∃ M, SetTable.sizeAbove (SetTable.grown (n + 1)) = M + 1 ∧ Msk M ∧ (n + 1) * 5 < M * 3 := by
  cases h
  · obtain rfl : n = 4 := by omega
    exact ⟨31, sz5, .b, by decide⟩
  · obtain rfl : n = 18 := by omega
    exact ⟨127, sz19, .c, by decide⟩
  · obtain rfl : n = 76 := by omega
    exact ⟨511, sz77, .d, by decide⟩
  · obtain rfl : n = 306 := by omega
    exact ⟨2047, sz307, .e, by decide⟩
  · obtain rfl : n = 1228 := by omega
    exact ⟨8191, sz1229, .f, by decide⟩
  · omega
/-! the way of a search -/
theorem bm_le {m b : Nat} : b % (m + 1) ≤ m := Nat.le_of_lt_succ (Nat.mod_lt b (Nat.succ_pos m))
theorem way_in {m k : Nat} {h : Int} : way m h k ≤ m := by
  have h1 := runEnd_bd (m := m) (bm_le (b := SetTable.bits h))
  exact Nat.le_trans (Nat.le_add_right _ _) (nth_in k _ (Nat.le_trans (Nat.le_of_eq (Nat.add_sub_cancel' h1.2.1)) h1.1))
theorem run_at {m j : Nat} (F : Full m) (h : Int) (hj : j ≤ m) : ∃ n, n ≤ 12 + m ∧ runI m (SetTable.bits h) n = j := by
  obtain ⟨k, k1, k2⟩ := F.all _ j (runI_le m (SetTable.bits h) 12) hj
  exact ⟨12 + k, Nat.add_le_add_left k1 12, (runI_tail (bits_lt h) k).trans k2⟩
theorem way_at {m j : Nat} (F : Full m) (h : Int) (hj : j ≤ m) : ∃ k, k < 10 * SetTable.turns m ∧ way m h k = j := by
  obtain ⟨n, n1, rfl⟩ := run_at F h hj
  obtain ⟨k, k1, k2⟩ := run_nth m (SetTable.bits h) n
  exact ⟨k, by show k < 10 * (m + 15); omega, congrArg SetTable.Probe.j k2⟩
end PP
-- text SB
namespace PP
open PySem PySem.Spec PyProof.Rows L2
/-- a table in which what is in is found: hs the hashes, in the slots' order -/
structure TabW (t : SetTable) (hs : List Int) : Prop where
  ris : Ris t.place.toList
  dm : t.dummies = #[]
  sz : t.place.toList.length = hs.length
  msk : Msk t.mask
  bd : ∀ x ∈ t.place.toList, x ≤ t.mask
  rea : ∀ (i : Nat) (h : Int) (j : Nat), hs[i]? = some h → t.place.toList[i]? = some j → ∃ k, way t.mask h k = j ∧ ∀ c, c < k → way t.mask h c ∈ t.place.toList
/-- K is the first step of the way of h that meets no one -/
structure FirstW (t : SetTable) (h : Int) (K : Nat) : Prop where
  out : way t.mask h K ∉ t.place.toList
  ins : ∀ c, c < K → way t.mask h c ∈ t.place.toList
theorem TabW.first {t : SetTable} {hs : List Int} (T : TabW t hs) (hl : hs.length ≤ t.mask) (h : Int) : ∃ K, K < 10 * SetTable.turns t.mask ∧ FirstW t h K := by
  obtain ⟨j, j1, j2⟩ := st_missing t.place.toList (t.mask + 1) (by have := T.sz; omega)
  obtain ⟨k, k1, k2⟩ := way_at T.msk.full h (Nat.le_of_lt_succ j1)
  obtain ⟨K, a, b, c⟩ := st_least (p := fun q => way t.mask h q ∉ t.place.toList) k (fun z => j2 (k2 ▸ z))
  exact ⟨K, Nat.lt_of_le_of_lt a k1, b, fun q hq => Decidable.byContradiction (c q hq)⟩
theorem TabW.before {t : SetTable} {hs : List Int} (T : TabW t hs) {h : Int} {K i j : Nat} (hK : FirstW t h K) (hi : hs[i]? = some h) (hj : t.place.toList[i]? = some j) : ∃ k, k < K ∧ way t.mask h k = j := by
  obtain ⟨k, e, b⟩ := T.rea i h j hi hj
  refine ⟨k, Nat.lt_of_not_le fun z => ?_, e⟩
  rcases Nat.lt_or_eq_of_le z with y | y
  · exact hK.out (b K y)
  · exact hK.out (by rw [y, e]; exact List.mem_of_getElem? hj)
/-- one more -/
structure PutW (t t' : SetTable) (hs : List Int) (h : Int) (p : Nat) : Prop where
  le : p ≤ hs.length
  tab : TabW t' (hs.take p ++ h :: hs.drop p)
  mask : t'.mask = t.mask
  led : t'.led = t.led
  plain : t'.plain = t.plain
  fill : t'.fill = hs.length + 1
theorem TabW.put {t : SetTable} {hs : List Int} (T : TabW t hs) {h : Int} {K : Nat} (hK : FirstW t h K) : PutW t (t.put (way t.mask h K)).1 hs h (t.put (way t.mask h K)).2 := by
  have jm : way t.mask h K ≤ t.mask := way_in
  have jo := hK.out
  obtain ⟨j, ej⟩ : ∃ j, way t.mask h K = j := ⟨_, rfl⟩
  rw [ej] at jm jo ⊢
  show PutW t (t.put j).1 hs h (SetTable.below t.place j)
  obtain ⟨cl, _, _⟩ := below_cut T.ris j
  have fresh : t.place[SetTable.below t.place j]? ≠ some j := fun z => jo (List.mem_of_getElem? ((Array.getElem?_toList ..).trans z))
  have rs := ris_insert T.ris fresh
  have ep := put_place t j
  have dm := put_dm T.dm j
  obtain ⟨p, hp⟩ : ∃ p, SetTable.below t.place j = p := ⟨_, rfl⟩
  rw [hp] at cl ep ⊢
  have pl : p ≤ t.place.toList.length := cl
  have ph : p ≤ hs.length := T.sz ▸ pl
  have ln : (t.put j).1.place.toList.length = hs.length + 1 := by rw [ep, len_ins _ pl, T.sz]
  have up : ∀ {x}, x ∈ t.place.toList → x ∈ (t.put j).1.place.toList := fun hx => by
    rw [ep]
    exact mem_ins.mpr (.inr hx)
  refine ⟨ph, ⟨rs, dm, ?_, T.msk, fun x hx => ?_, fun i g q h1 h2 => ?_⟩, rfl, rfl, rfl, ?_⟩
  · rw [ln, len_ins _ ph]
  · rw [ep] at hx
    rcases mem_ins.mp hx with rfl | z
    · exact jm
    · exact T.bd x z
  · have old : ∀ i', hs[i']? = some g → t.place.toList[i']? = some q → ∃ k, way (t.put j).1.mask g k = q ∧ ∀ c, c < k → way (t.put j).1.mask g c ∈ (t.put j).1.place.toList := fun i' a b => by
      obtain ⟨k, e, z⟩ := T.rea i' g q a b
      exact ⟨k, e, fun c hc => up (z c hc)⟩
    rw [tins_get hs ph] at h1
    rw [ep, tins_get _ pl] at h2
    split at h1
    · rename_i hc
      rw [if_pos hc] at h2
      exact old i h1 h2
    · rename_i hc
      rw [if_neg hc] at h2
      split at h1
      · rename_i hd
        rw [if_pos hd] at h2
        cases h1
        cases h2
        exact ⟨K, ej, fun c hc => up (hK.ins c hc)⟩
      · rename_i hd
        rw [if_neg hd] at h2
        exact old _ h1 h2
  · unfold SetTable.fill
    rw [dm, ← Array.length_toList, ln]
    rfl
/-! laid anew -/
theorem free_at {m : Nat} (F : Full m) (owner : Array (Option Nat)) (h : Int) {j : Nat} (hj : j ≤ m) (hf : oAt owner j = none) :
    ∃ K, SetTable.layClean.free m owner (SetTable.turns m) (SetTable.bits h % (m + 1)) (SetTable.bits h) = some (way m h K) ∧ oAt owner (way m h K) = none ∧ ∀ c, c < K → oAt owner (way m h c) ≠ none := by
  obtain ⟨n, n1, n2⟩ := run_at F h hj
  have hw : way m h (off m (SetTable.bits h % (m + 1)) (SetTable.bits h) n) = j := by
    unfold way
    rw [nth_off, itL_run]
    exact n2
  obtain ⟨K, a, b, c⟩ := st_least (p := fun q => oAt owner (way m h q) = none) _ ((congrArg (oAt owner) hw).trans hf)
  exact ⟨K, free_spec m owner (m + 15) n _ _ K (by omega) a (fun q hq => Option.isNone_eq_false_iff.mpr (Option.isSome_iff_ne_none.mpr (c q hq))) (Option.isNone_iff_eq_none.mpr b), b, c⟩
theorem own_step {m : Nat} (F : Full m) {done : List Int} {owner : Array (Option Nat)} (W : Own m done owner) (hl : done.length ≤ m) (h : Int) :
    ∃ j, SetTable.layClean.free m owner (SetTable.turns m) (SetTable.bits h % (m + 1)) (SetTable.bits h) = some j ∧ Own m (done ++ [h]) (owner.setIfInBounds j (some done.length)) := by
  obtain ⟨ps, pl, pin⟩ := W.ps
  obtain ⟨j0, a0, b0⟩ := st_missing ps (m + 1) (by omega)
  have f0 : oAt owner j0 = none := Decidable.byContradiction fun z => b0 (pin j0 (Nat.le_of_lt_succ a0) z)
  obtain ⟨K, e1, e2, e3⟩ := free_at F owner h (Nat.le_of_lt_succ a0) f0
  have jm : way m h K ≤ m := way_in
  generalize ew : way m h K = j at e1 e2 jm
  have self := oAt_set_self (owner := owner) (some done.length) (show j < owner.size by rw [W.sz]; omega)
  have ne := fun {i : Nat} (z : i ≠ j) => oAt_set_ne (owner := owner) (some done.length) z
  have up : ∀ {i}, oAt owner i ≠ none → oAt (owner.setIfInBounds j (some done.length)) i ≠ none := fun {i} z => by
    rcases Decidable.em (i = j) with rfl | y
    · exact absurd e2 z
    · rw [ne y]
      exact z
  refine ⟨j, e1, ⟨(Array.size_setIfInBounds ..).trans W.sz, fun i k hi e => ?_, fun k hk => ?_, j :: ps, ?_, fun i hi e => ?_⟩⟩
  · rcases Decidable.em (i = j) with rfl | y
    · rw [self] at e
      cases e
      exact ⟨h, K, List.getElem?_concat_length, ew, fun c hc => up (e3 c hc)⟩
    · rw [ne y] at e
      obtain ⟨g, L, x1, x2, x3⟩ := W.at_ i k hi e
      exact ⟨g, L, (List.getElem?_append_left (List.getElem?_eq_some_iff.mp x1).1).trans x1, x2, fun c hc => up (x3 c hc)⟩
  · rw [List.length_append, List.length_singleton] at hk
    rcases Nat.lt_or_eq_of_le (Nat.le_of_lt_succ hk) with z | rfl
    · obtain ⟨i, i1, i2⟩ := W.all k z
      exact ⟨i, i1, (ne fun y => by rw [y, e2] at i2; cases i2).trans i2⟩
    · exact ⟨j, jm, self⟩
  · rw [List.length_cons, pl, List.length_append, List.length_singleton]
  · rcases Decidable.em (i = j) with rfl | y
    · exact List.mem_cons_self
    · rw [ne y] at e
      exact List.mem_cons_of_mem _ (pin i hi e)
theorem own_all {m : Nat} (F : Full m) : ∀ (rest done : List Int) (owner : Array (Option Nat)), Own m done owner → done.length + rest.length ≤ m →
    ∃ o2, rest.foldl (stepF m) (some (owner, done.length)) = some (o2, done.length + rest.length) ∧ Own m (done ++ rest) o2
  | [], done, owner, W, _ => ⟨owner, rfl, (List.append_nil done).symm ▸ W⟩
  | h :: rest, done, owner, W, hl => by
    rw [List.length_cons] at hl
    obtain ⟨j, e, W1⟩ := own_step F W (by omega) h
    obtain ⟨o2, e2, W2⟩ := own_all F rest (done ++ [h]) _ W1 (by rw [List.length_append, List.length_singleton]; omega)
    rw [List.length_append, List.length_singleton] at e2
    refine ⟨o2, ?_, by rw [List.append_assoc] at W2; exact W2⟩
    rw [List.foldl_cons, stepF_some e, e2, List.length_cons, Nat.add_assoc, Nat.add_comm 1]
theorem relaid_w (t : SetTable) {hs : Array Int} {wanted M : Nat} (hw : SetTable.sizeAbove wanted = M + 1) (hM : Msk M) (hn : hs.size ≤ M) :
    ∃ t' order, t.relaid hs wanted = some (t', order) ∧ order.toList.Perm (List.range hs.size) ∧ TabW t' (order.toList.map fun i => hs.getD i 0) ∧ t'.mask = M ∧ t'.led = t.led ∧ t'.plain = t.plain := by
  obtain ⟨ow, e, W⟩ := own_all hM.full hs.toList [] _ (Own.init M) (by rw [Array.length_toList]; show 0 + hs.size ≤ M; omega)
  rw [List.nil_append] at W
  have lc : SetTable.layClean M hs = some ow := by
    rw [layClean_eq]
    exact congrArg (Option.map Prod.fst) e
  obtain ⟨r1, r2⟩ := ris_live (fun j => ow.getD j none) (List.range (M + 1)) List.pairwise_lt_range
  have r1 : Ris ((liveOf M ow).map (·.1)) := r1
  have r2 : ∀ x ∈ (liveOf M ow).map (·.1), x ∈ List.range (M + 1) := r2
  have inl : ∀ {j k}, (j, k) ∈ liveOf M ow ↔ j ≤ M ∧ oAt ow j = some k := mem_live W.sz
  have allk : ∀ k, k < hs.size → k ∈ (liveOf M ow).map (·.2) := fun k hk => by
    obtain ⟨j, a, b⟩ := W.all k hk
    exact List.mem_map_of_mem (f := Prod.snd) (inl.mpr ⟨a, b⟩)
  have len : (liveOf M ow).length = hs.size := by
    obtain ⟨ps, p1, p2⟩ := W.ps
    have a := nat_nodup_len _ ps (List.Pairwise.imp (fun h => Nat.ne_of_lt h) r1) fun x hx => by
      obtain ⟨⟨y, k⟩, hq, rfl⟩ := List.mem_map.mp hx
      obtain ⟨b1, b2⟩ := inl.mp hq
      exact p2 y b1 (by rw [b2]; exact Option.some_ne_none k)
    have b := nat_nodup_len (List.range hs.size) ((liveOf M ow).map (·.2)) List.nodup_range fun k hk => allk k (List.mem_range.mp hk)
    rw [List.length_map, p1, Array.length_toList] at a
    rw [List.length_map, List.length_range] at b
    exact Nat.le_antisymm a b
  refine ⟨tabOf t M ow, ((liveOf M ow).map (·.2)).toArray, ?_, perm_range _ _ ((List.length_map _).trans len) allk, ⟨r1, rfl, ?_, hM, fun x hx => Nat.le_of_lt_succ (List.mem_range.mp (r2 x hx)), fun i g j h1 h2 => ?_⟩, rfl, rfl, rfl⟩
  · rw [relaid_eq, hw]
    show (SetTable.layClean M hs).bind _ = _
    rw [lc]
    rfl
  · show ((liveOf M ow).map (·.1)).length = (((liveOf M ow).map (·.2)).map _).length
    simp only [List.length_map]
  · have h1' : ((liveOf M ow)[i]?.map (·.2)).map (fun k => hs.getD k 0) = some g := by
      rw [← List.getElem?_map, ← List.getElem?_map]
      exact h1
    have h2' : (liveOf M ow)[i]?.map (·.1) = some j := by
      rw [← List.getElem?_map]
      exact h2
    cases hq : (liveOf M ow)[i]? with
    | none => rw [hq] at h2'; cases h2'
    | some q =>
      obtain ⟨y, k⟩ := q
      rw [hq] at h1' h2'
      cases h2'
      cases h1'
      obtain ⟨b1, b2⟩ := inl.mp (List.mem_of_getElem? hq)
      obtain ⟨g, L, x1, x2, x3⟩ := W.at_ _ k b1 b2
      have eg : hs.getD k 0 = g := by
        rw [Array.getD_eq_getD_getElem?, ← Array.getElem?_toList, x1]
        rfl
      show ∃ q, way M (hs.getD k 0) q = y ∧ ∀ c, c < q → way M (hs.getD k 0) c ∈ (liveOf M ow).map (·.1)
      rw [eg]
      refine ⟨L, x2, fun c hc => ?_⟩
      obtain ⟨k2, e2⟩ := Option.ne_none_iff_exists'.mp (x3 c hc)
      exact List.mem_map_of_mem (f := Prod.fst) (inl.mpr ⟨way_in, e2⟩)
end PP
-- text SC
namespace PP
open PySem PySem.Spec PyProof.Rows L2
section
variable {P : Program} {w : World} {A : Around} {E : Value → Shared → Prop} {s : Shared}
/-- a set of tuples of ints: L the tuples, in the slots' order -/
structure SetW (P : Program) (w : World) (h : Heap) (a : Addr) (L : List (Addr × List Int)) (es : Array (Int × Value)) (ep : Nat) (t : SetTable) : Prop where
  ob : ∃ o, h.get? a = some o ∧ o.ExactSet ∧ o.data = .set es ep t
  rows : es.toList = rowsOf P w L
  tab : TabW t (L.map fun p => thash P w p.2)
  nd : (L.map (·.2)).Nodup
  tup : ∀ p ∈ L, IsT P w h p.2 p.1
  plain : t.plain = true
  led : w.params.followText "set-order" = true ∨ t.led = true
  room : L.length * 5 < t.mask * 3
  few : L.length ≤ 4000
variable {a : Addr} {L : List (Addr × List Int)} {es : Array (Int × Value)} {ep : Nat} {t : SetTable}
theorem rows_size (h : es.toList = rowsOf P w L) : es.size = L.length := by
  rw [← Array.length_toList, h]
  exact List.length_map _
theorem fits_of {n : Nat} (h1 : t.place.toList.length = n) (h2 : t.dummies = #[]) (h3 : n ≤ t.mask) : t.fits n = true := by
  unfold SetTable.fits SetTable.fill
  rw [h2, ← Array.length_toList, h1, beq_self_eq_true, Bool.true_and]
  exact decide_eq_true h3
theorem SetW.fits (R : SetW P w s.heap a L es ep t) : t.fits es.size = true := by
  rw [rows_size R.rows]
  exact fits_of (R.tab.sz.trans (List.length_map _)) R.tab.dm (by have := R.room; omega)
theorem SetW.row (R : SetW P w s.heap a L es ep t) {i : Nat} {p : Addr × List Int} (h : L[i]? = some p) : es[i]? = some (thash P w p.2, Value.ref p.1) := by
  rw [← Array.getElem?_toList, R.rows]
  exact (List.getElem?_map ..).trans (congrArg _ h)
theorem SetW.there (R : SetW P w s.heap a L es ep t) : ¬ t.gaveWay = true := by
  have := R.tab.msk.full.odd
  unfold SetTable.gaveWay
  rw [beq_iff_eq]
  omega
/-- the way, as states -/
def stW (m : Nat) (h : Int) (c : Nat) : SetTable.Probe := nth m (runAt m (SetTable.bits h % (m + 1)) (SetTable.bits h)) c
theorem stW_add {m c q : Nat} {h : Int} : nth m (stW m h c) q = stW m h (c + q) := (nth_add m c _ q).symm
theorem nth_dm {m : Nat} : ∀ (n : Nat) (p : SetTable.Probe), p.dummy = none → (nth m p n).dummy = none
  | 0, _, h => h
  | n + 1, p, h => nth_dm n (adv m p) (by
    unfold adv
    split
    · exact h
    · exact h)
/-- the search from the c-th step on -/
theorem SetW.search (R : SetW P w s.heap a L es ep t) {x : Addr} {k : List Int} (hx : IsT P w s.heap k x) (hu : A.units < cLine) {K : Nat} (hf : K < 10 * SetTable.turns t.mask) (hK : FirstW t (thash P w k) K) {Q : SetFound → Shared → Prop}
    (hin : k ∈ L.map (·.2) → Q (.there none) s) (hout : k ∉ L.map (·.2) → Q (.free (way t.mask (thash P w k) K) false) s) :
    ∀ (f c : Nat) (stand : Option SetTable.Probe), stand.getD (t.probeStart (thash P w k)) = stW t.mask (thash P w k) c → c ≤ K → K - c < f →
      (∀ (i : Nat) p, L[i]? = some p → p.2 = k → ∃ c', c ≤ c' ∧ c' < K ∧ t.place.toList[i]? = some (way t.mask (thash P w k) c')) →
      wpAny (model P w) A (setSearchFrom a (.ref x) (thash P w k) true f stand) Q E s
  | 0, _, _, _, _, z, _ => (Nat.not_lt_zero _ z).elim
  | f + 1, c, stand, e0, cK, hc, near => by
    obtain ⟨o, ho, hex, hd⟩ := R.ob
    generalize hH : thash P w k = hh at e0 hK near hout ⊢
    have ejs : ∀ q, (nth t.mask (stW t.mask hh c) q).j = way t.mask hh (c + q) := fun q => congrArg (·.j) stW_add
    rw [setSearchFrom_succ]
    refine wpAny_bind (wpAny_setState_of ho hd R.fits ?_)
    refine wp_if_neg R.there ?_
    try refine wpAny_bind (wpAny_pure ?_)
    have at_h : ∀ {i : Nat} {p : Addr × List Int}, L[i]? = some p → (es[i]?.map (·.1)).getD 0 = thash P w p.2 := fun e => by
      rw [R.row e]
      rfl
    rw [e0]
    rcases go_spec t R.tab.ris R.tab.dm (fun i => (es[i]?.map (·.1)).getD 0) hh (10 * SetTable.turns t.mask) (K - c) (stW t.mask hh c) (nth_dm c _ rfl) (by omega)
      (fun q hq => by rw [ejs]; exact hK.ins _ (by omega)) (by rw [ejs, Nat.add_sub_cancel' cK]; exact hK.out) with ⟨q, i, q1, q2, q3, q4, q5⟩ | ⟨q4, q5⟩
    · unfold SetTable.probe
      rw [q5]
      dsimp only
      rw [ejs] at q2 ⊢
      rw [stW_add]
      have il : i < L.length := by
        have z := (List.getElem?_eq_some_iff.mp q2).1
        rw [R.tab.sz, List.length_map] at z
        exact z
      obtain ⟨p, hp⟩ : ∃ p, L[i]? = some p := ⟨_, List.getElem?_eq_getElem il⟩
      have pm := List.mem_of_getElem? hp
      have main : wpAny (model P w) A (searchRest a (.ref x) hh true f es t (way t.mask hh (c + q)) i (stW t.mask hh (c + (q + 1)))) Q E s := by
        unfold searchRest
        rw [R.row hp]
        refine wpAny_bind (wpAny_holding (wpAny_eqBool_tuple hu (R.tup p pm) hx ?_))
        refine wpAny_bind (wpAny_setState_of ho hd R.fits ?_)
        dsimp only
        by_cases same : p.2 = k
        · exact wp_if_pos (by simp [same]) (wpAny_pure (hin (List.mem_map.mpr ⟨p, pm, same⟩)))
        · refine wp_if_neg (by simp [same]) ?_
          try refine wpAny_bind (wpAny_pure ?_)
          have live := slot_live R.tab.ris q2
          rw [sameMem]
          dsimp only
          simp only [if_true, live, R.row hp]
          refine wpAny_bind (wpAny_isSame_ref_self (wpAny_bind (wpAny_pure ?_)))
          simp only [if_true]
          refine wp_if_neg (by simp [same]) ?_
          subst hH
          refine R.search hx hu hf hK hin hout f (c + (q + 1)) _ rfl (by omega) (by omega) fun i0 p0 h0 k0 => ?_
          obtain ⟨d, d1, d2, d3⟩ := near i0 p0 h0 k0
          refine ⟨d, Nat.lt_of_not_le fun le => ?_, d2, d3⟩
          rcases Nat.lt_or_eq_of_le le with lt | rfl
          · have lt : d < c + q := lt
            refine q4 (d - c) i0 (by omega) ?_ ((at_h h0).trans (congrArg (thash P w) k0))
            rw [ejs, Nat.add_sub_cancel' d1]
            exact d3
          · have z := live.symm.trans (slot_live R.tab.ris d3)
            cases z
            rw [hp] at h0
            cases h0
            exact same k0
      by_cases hl : t.led = true
      · refine wp_if_neg (by simp [hl]) ?_
        try refine wpAny_bind (wpAny_pure ?_)
        exact main
      · refine wp_if_pos (by simp [hl]) (wpAny_bind (seen_tup hx (fun y hy => ?_) (wp_if_neg (by decide) ?_)))
        · obtain ⟨e, he, rfl⟩ := List.mem_map.mp hy
          have h2 : e ∈ es.toList := by
            have h3 : e ∈ es ∧ e.1 = hh := by simpa using he
            simpa using h3.1
          rw [R.rows] at h2
          obtain ⟨p2, m2, rfl⟩ := List.mem_map.mp h2
          exact ⟨p2.2, p2.1, rfl, R.tup p2 m2⟩
        · try refine wpAny_bind (wpAny_pure ?_)
          exact main
    · unfold SetTable.probe
      rw [q5, ejs, Nat.add_sub_cancel' cK]
      refine wpAny_pure (hout fun hm => ?_)
      obtain ⟨p0, m0, k0⟩ := List.mem_map.mp hm
      obtain ⟨i0, l0, e1⟩ := List.getElem_of_mem m0
      have h0 : L[i0]? = some p0 := (List.getElem?_eq_getElem l0).trans (congrArg some e1)
      obtain ⟨d, d1, d2, d3⟩ := near i0 p0 h0 k0
      refine q4 (d - c) i0 (by omega) ?_ ((at_h h0).trans ((congrArg (thash P w) k0).trans hH))
      rw [ejs, Nat.add_sub_cancel' d1]
      exact d3
end
end PP
-- text SD
namespace PP
open PySem PySem.Spec PyProof.Rows L2
section
variable {P : Program} {w : World} {A : Around} {E : Value → Shared → Prop} {s : Shared} {a : Addr} {L : List (Addr × List Int)} {es : Array (Int × Value)} {ep : Nat} {t : SetTable}
theorem SetW.ask (R : SetW P w s.heap a L es ep t) {x : Addr} {k : List Int} (hx : IsT P w s.heap k x) (hu : A.units < cLine) {Q : SetFound → Shared → Prop} (hin : k ∈ L.map (·.2) → Q (.there none) s)
    (hout : ∀ K, k ∉ L.map (·.2) → FirstW t (thash P w k) K → Q (.free (way t.mask (thash P w k) K) false) s) : wpAny (model P w) A (setSearch a (.ref x) (thash P w k) true) Q E s := by
  have rm := R.room
  obtain ⟨K, hf, hK⟩ := R.tab.first (by rw [List.length_map]; omega) (thash P w k)
  have mk := R.tab.msk.le
  have hf' : K < 10 * (t.mask + 15) := hf
  refine R.search hx hu hf hK hin (fun z => hout K z hK) 100000 0 none rfl (Nat.zero_le K) (by omega) fun i p hp e => ?_
  have il : i < t.place.toList.length := by
    rw [R.tab.sz, List.length_map]
    exact (List.getElem?_eq_some_iff.mp hp).1
  have ej := List.getElem?_eq_getElem il
  obtain ⟨c, c1, c2⟩ := R.tab.before hK (i := i) (by rw [List.getElem?_map, hp, ← e]; rfl) ej
  exact ⟨c, Nat.zero_le c, c1, ej.trans (congrArg some c2.symm)⟩
/-- laid anew -/
theorem relay_w {o : Obj} (ho : s.heap.get? a = some o) (hex : o.ExactSet) (hd : o.data = .set es ep t) (rows : es.toList = rowsOf P w L) (pz : t.place.toList.length = L.length) (dm : t.dummies = #[]) (fit : L.length ≤ t.mask)
    (nd : (L.map (·.2)).Nodup) (tup : ∀ p ∈ L, IsT P w s.heap p.2 p.1) (pl : t.plain = true) (ld : w.params.followText "set-order" = true ∨ t.led = true) (few : L.length ≤ 4000) {wanted M : Nat}
    (hw : SetTable.sizeAbove wanted = M + 1) (hM : Msk M) (room : L.length * 5 < M * 3) {Q : Unit → Shared → Prop}
    (hQ : ∀ h' L' es' ep' t', Heap.SameBut a s.heap h' → SetW P w h' a L' es' ep' t' → L'.Perm L → Q () { s with heap := h' }) : wpAny (model P w) A (setRelay a wanted) Q E s := by
  have zs := rows_size rows
  have fits : t.fits es.size = true := by
    rw [zs]
    exact fits_of pz dm fit
  obtain ⟨t', order, e1, e2, e3, e4, e5, e6⟩ := relaid_w t (hs := es.map (·.1)) hw hM (by rw [Array.size_map, zs]; omega)
  rw [Array.size_map, zs] at e2
  obtain ⟨L2, r1, r2, r3⟩ := order_rows L es order rows e2
  rw [← r3] at e3
  have z2 : (order.filterMap (es[·]?)).size = L.length := (rows_size r1).trans r2.length_eq
  have ml := hM.le
  rw [setRelay_eq]
  refine wpAny_bind (wpAny_setState_of ho hd fits (wp_if_neg (by rw [hw, sizeLine_eq]; omega) ?_))
  try refine wpAny_bind (wpAny_pure ?_)
  rw [e1]
  refine wpAny_bind (wp_if_neg (by rw [z2, zs]; simp) ?_)
  try refine wpAny_bind (wpAny_pure ?_)
  refine wpAny_pure (wpAny_storeSet_of ho hd ?_ (by rw [z2, sizeLine_eq]; omega))
  have sb := Heap.SameBut.update (h := s.heap) (a := a) (f := Obj.putSet (order.filterMap (es[·]?)) t')
  refine hQ _ L2 _ (ep + 1) t' sb ⟨⟨_, store_at ho hd, ⟨hex.1, hex.2.1, hex.2.2⟩, rfl⟩, r1, e3, (r2.map _).nodup_iff.mpr nd, fun p hp => isT_same (tup p (r2.mem_iff.mp hp)) ho hd sb, e6.trans pl, e5 ▸ ld, ?_, r2.length_eq.symm ▸ few⟩ r2
  rw [r2.length_eq, e4]
  exact room
/-- one more -/
theorem SetW.add (R : SetW P w s.heap a L es ep t) {x : Addr} {k : List Int} (hx : IsT P w s.heap k x) (hu : A.units < cLine) (few : L.length < 4000) {Q : Bool → Shared → Prop}
    (hQ : ∀ b h' L' es' ep' t', Heap.SameBut a s.heap h' → SetW P w h' a L' es' ep' t' → (k ∈ L.map (·.2) → L' = L) → (k ∉ L.map (·.2) → L'.Perm ((x, k) :: L)) → Q b { s with heap := h' }) :
    wpAny (model P w) A (setAddHashed a (.ref x) (thash P w k)) Q E s := by
  obtain ⟨o, ho, hex, hd⟩ := R.ob
  unfold setAddHashed
  refine wpAny_holding ?_
  rw [show (100000 : Nat) = 99999 + 1 from rfl, setAddHashedIn_succ]
  refine wpAny_bind (wpAny_setState_of ho hd R.fits ?_)
  refine wp_if_neg (by simp [byScan, Value.scannable]) ?_
  try refine wpAny_bind (wpAny_pure ?_)
  refine wpAny_bind (R.ask hx hu (fun hm => wpAny_pure (hQ false s.heap L es ep t (Heap.SameBut.refl a s.heap) R (fun _ => rfl) fun z => (z hm).elim)) fun K hm hK => ?_)
  refine wpAny_bind (wpAny_setState_of ho hd R.fits ?_)
  have pw := R.tab.put hK
  have lw := R.led
  have pw2 := R.plain
  have rm := R.room
  obtain ⟨⟨t1, p⟩, ept⟩ : ∃ q, t.put (way t.mask (thash P w k) K) = q := ⟨_, rfl⟩
  dsimp only
  rw [ept] at pw ⊢
  obtain ⟨ple, ptab, pmask, pled, pplain, pfill⟩ := pw
  rw [List.length_map] at ple pfill
  have pmask : t1.mask = t.mask := pmask
  have t1p : t1.plain = true := pplain.trans pw2
  dsimp only
  first
    | refine wp_if_pos t1p (wpAny_bind (hashBy_tup hx ?_))
    | refine wpAny_bind (wp_if_pos t1p (hashBy_tup hx ?_))
  simp only [if_true]
  have erow : (SetTable.insertAt es p (thash P w k, Value.ref x)).toList = rowsOf P w (L.take p ++ (x, k) :: L.drop p) := by
    rw [SetTable.toList_insertAt, R.rows, rows_put]
  have pm := put_perm L p (x, k)
  have etab : (L.take p ++ (x, k) :: L.drop p).map (fun q => thash P w q.2) = (L.map fun q => thash P w q.2).take p ++ thash P w k :: (L.map fun q => thash P w q.2).drop p := by
    rw [List.map_append, List.map_cons, List.map_take, List.map_drop]
  rw [← etab] at ptab
  generalize L.take p ++ (x, k) :: L.drop p = L1 at erow pm ptab
  generalize SetTable.insertAt es p (thash P w k, Value.ref x) = es1 at erow ⊢
  have ln1 : L1.length = L.length + 1 := pm.length_eq
  have nd1 : (L1.map (·.2)).Nodup := (pm.map _).nodup_iff.mpr (List.nodup_cons.mpr ⟨hm, R.nd⟩)
  refine wpAny_bind (wpAny_storeSet_of ho hd ?_ (by rw [rows_size erow, ln1, sizeLine_eq]; omega))
  have sb := Heap.SameBut.update (h := s.heap) (a := a) (f := Obj.putSet es1 t1)
  have ho1 := store_at (es' := es1) (t' := t1) ho hd
  generalize s.heap.update a (Obj.putSet es1 t1) = h1 at sb ho1 ⊢
  have tup1 : ∀ q ∈ L1, IsT P w h1 q.2 q.1 := fun q hq => by
    rcases List.mem_cons.mp (pm.mem_iff.mp hq) with rfl | z
    · exact isT_same hx ho hd sb
    · exact isT_same (R.tup q z) ho hd sb
  have ld1 : w.params.followText "set-order" = true ∨ t1.led = true := pled.symm ▸ lw
  have pz1 : t1.place.toList.length = L1.length := ptab.sz.trans (List.length_map _)
  have full : t1.tooFull = true ↔ t.mask * 3 ≤ (L.length + 1) * 5 := by
    unfold SetTable.tooFull
    rw [decide_eq_true_iff, pfill, pmask]
  by_cases hf : t1.tooFull = true
  · obtain ⟨M, m1, m2, m3⟩ := R.tab.msk.next rm (full.mp hf) (by omega)
    have go : wpAny (model P w) A (setRelay a (SetTable.grown (es.size + 1))) (fun _ s' => wpAny (model P w) A (pure true) Q E s') E { s with heap := h1 } := by
      rw [rows_size R.rows]
      exact relay_w (s := { s with heap := h1 }) ho1 ⟨hex.1, hex.2.1, hex.2.2⟩ rfl erow pz1 ptab.dm (by rw [ln1, pmask]; omega) nd1 tup1 t1p ld1 (by omega) m1 m2 (by rw [ln1]; exact m3)
        fun h2 L2 es2 ep2 t2 sb2 R2 pm2 => wpAny_pure (hQ true h2 L2 es2 ep2 t2 (sb.trans sb2) R2 (fun z => (hm z).elim) fun _ => pm2.trans pm)
    first
      | exact wpAny_bind (wp_if_pos (by simp [hf]) go)
      | exact wp_if_pos (by simp [hf]) (wpAny_bind go)
  · have hz : ¬ (t.mask * 3 ≤ (L.length + 1) * 5) := fun z => hf (full.mpr z)
    have fin := wpAny_pure (M := model P w) (A := A) (E := E) (hQ true h1 L1 es1 (ep + 1) t1 sb ⟨⟨_, ho1, ⟨hex.1, hex.2.1, hex.2.2⟩, rfl⟩, erow, ptab, nd1, tup1, t1p, ld1, by rw [ln1, pmask]; omega, by omega⟩ (fun z => (hm z).elim) fun _ => pm)
    first
      | exact wp_if_neg (by simp [hf]) fin
      | exact wpAny_bind (wp_if_neg (by simp [hf]) (wpAny_pure fin))
end
end PP
-- text SE
namespace PP
open PySem PySem.Spec PyProof.Rows L2
section
variable {P : Program} {w : World} {A : Around} {E : Value → Shared → Prop} {s : Shared}
def Keeps (h h' : Heap) : Prop := ∀ b o, h.get? b = some o → h'.get? b = some o
theorem SetW.keep {h h' : Heap} {a : Addr} {L : List (Addr × List Int)} {es : Array (Int × Value)} {ep : Nat} {t : SetTable} (R : SetW P w h a L es ep t) (ka : ∀ o, h.get? a = some o → h'.get? a = some o) (kt : ∀ p ∈ L, IsT P w h' p.2 p.1) : SetW P w h' a L es ep t := by
  obtain ⟨o, ho, rest⟩ := R.ob
  exact { R with ob := ⟨o, ka o ho, rest⟩, tup := kt }
abbrev newS (w : World) : Obj := { cls := .type "set", dict := none, data := .set #[] 0 (.fresh 0 0 (!w.params.followText "set-order")) }
theorem setW_new {h : Heap} {a : Addr} (ho : h.get? a = some (newS w)) : SetW P w h a [] #[] 0 (.fresh 0 0 (!w.params.followText "set-order")) where
  ob := ⟨_, ho, ⟨rfl, rfl, rfl⟩, rfl⟩
  rows := rfl
  tab := { ris := .nil, dm := rfl, sz := rfl, msk := .a, bd := fun _ z => (nomatch z), rea := fun _ _ _ z => (by simp at z) }
  nd := .nil
  tup := fun _ z => nomatch z
  plain := rfl
  led := by cases z : w.params.followText "set-order" <;> simp [SetTable.fresh]
  room := show 0 * 5 < 7 * 3 by decide
  few := by decide
/-- the loop of set.update -/
theorem update_w {I : Addr} {fp wr : List Addr} {G : Array GenState → Array GenState → Prop} {n : Nat} {Pv : Nat → Value → Prop} {St : Nat → Shared → Prop} {R : Result → Shared → Prop} (W : WalksS P w A.in1 I fp wr G n Pv St) {S : Addr} (hS : S ∉ fp)
    {ks : List (Addr × List Int)} (hn : n = ks.length) (few : ks.length ≤ 4000) (val : ∀ i v, Pv i v → ∃ p, ks[i]? = some p ∧ v = .ref p.1) {h0 : Heap} (tu : ∀ p ∈ ks, IsT P w h0 p.2 p.1) (S0 : h0.get? S = none) (w0 : ∀ b ∈ wr, h0.get? b = none) (hu : A.in1.units < cLine) :
    ∀ (k i : Nat) (s : Shared), i + k = n → St i s → Keeps h0 s.heap → (∃ L es ep t, SetW P w s.heap S L es ep t ∧ Got ks i L) →
      (∀ s' L es ep t, Moved (S :: wr) G s s' → SetW P w s'.heap S L es ep t → Got ks n L → Keeps h0 s'.heap → R (.ok (.ret .none)) s') → codeAny (model P w) A (.builtin "set.update.loop" ⟨[.ref S, .ref I], []⟩) R s := by
  have nS : S ∉ wr := fun z => hS (W.sub S z)
  have stay : ∀ {s s' : Shared}, Moved wr G s s' → Keeps h0 s.heap → Keeps h0 s'.heap := fun m kp b o e => m.heap b o (fun z => by rw [w0 b z] at e; cases e) (kp b o e)
  have wide : ∀ {s s' : Shared}, Moved wr G s s' → Moved (S :: wr) G s s' := fun m => m.mono fun b hb => List.mem_cons_of_mem S hb
  have told : ∀ {i : Nat} {L : List (Addr × List Int)}, Got ks i L → ∀ p ∈ L, p ∈ ks := fun g p hp => List.mem_of_mem_take (g.sub p hp)
  have set' : ∀ {i : Nat} {s s' : Shared} {L es ep t}, Moved wr G s s' → Keeps h0 s'.heap → Got ks i L → SetW P w s.heap S L es ep t → SetW P w s'.heap S L es ep t := fun m kp g R => R.keep (fun o e => m.heap S o nS e) fun p hp => isT_keep (tu p (told g p hp)) kp
  intro k
  induction k with
  | zero =>
    rintro i s rfl st kp ⟨L, es, ep, t, RS, g⟩ hR
    refine codeAny_builtin F.entry_set_update_loop ?_
    rw [Around.under_plainId F.plain_set_update_loop _]
    refine wpAny_bind (W.done s _ _ st fun s' m => ?_)
    exact wpAny_pure (hR s' L es ep t (wide m) (set' m (stay m kp) g RS) g (stay m kp))
  | succ k ih =>
    rintro i s hi st kp ⟨L, es, ep, t, RS, g⟩ hR
    refine codeAny_builtin F.entry_set_update_loop ?_
    rw [Around.under_plainId F.plain_set_update_loop _]
    refine wpAny_bind (W.item i s _ _ (by omega) st fun v s' pv st' m => ?_)
    obtain ⟨p, hp, rfl⟩ := val i v pv
    have kp' := stay m kp
    have RS' := set' m kp' g RS
    have ht : IsT P w s'.heap p.2 p.1 := isT_keep (tu p (List.mem_of_getElem? hp)) kp'
    have gl := g.len
    show wpAny _ A.in1 (holding [Value.ref p.1] (setAdd S (.ref p.1)) >>= _) _ _ s'
    refine wpAny_bind (wpAny_holding (wpAny_holding (wpAny_bind (wpAny_pyHash_tuple hu ht ?_))))
    refine SetW.add (s := { s' with toks := s'.toks + (p.2.length + 1) }) RS' ht hu (by omega) fun b h' L' es' ep' t' sb RS2 c1 c2 => ?_
    have off : ∀ {b : Addr} {o : Obj}, b ≠ S → s'.heap.get? b = some o → h'.get? b = some o := fun z e => (sb.2 _ z).trans e
    have kp2 : Keeps h0 h' := fun b o e => off (fun z => by rw [z, S0] at e; cases e) (kp' b o e)
    have g' : Got ks (i + 1) L' := by
      by_cases c : p.2 ∈ L.map (·.2)
      · exact c1 c ▸ g.same hp c
      · exact g.more hp (c2 c)
    refine wpAny_pure ⟨plainId_quiet F.plain_set_update_loop _, ih (i + 1) _ (by omega) (W.frame _ s' _ _ st' (Nat.le_add_right _ _) fun b hb o e => off (fun z => hS (z ▸ hb)) e) kp2 ⟨L', es', ep', t', RS2, g'⟩ fun s'' L2 es2 ep2 t2 m2 RS3 g3 kp3 => ?_⟩
    exact hR s'' L2 es2 ep2 t2 (Moved.trans W.gtrans ((wide m).then_heap (Nat.le_add_right _ _) fun b o hb e => off (fun z => hb (z ▸ List.mem_cons_self)) e) m2) RS3 g3 kp3
/-- what set(xs) leaves -/
def LeftS (P : Program) (w : World) (s : Shared) (ks : List (Addr × List Int)) (s2 : Shared) : Prop := ∃ (h' : Heap) (tk : Nat) (L : List (Addr × List Int)) (es : Array (Int × Value)) (ep : Nat) (t : SetTable), s2 = { s with heap := h', toks := tk } ∧ SetW P w h' s.heap.objs.size L es ep t ∧ Got ks ks.length L ∧ Keeps s.heap h'
set_option maxRecDepth 100000 in
set_option maxHeartbeats 3200000 in
theorem call_set_w {l : Addr} {items : Array Value} {ks : List (Addr × List Int)} {Q : Value → Shared → Prop} (hh : A.handled = none) (hl : s.heap.IsList l items) (hit : items.toList = ks.map fun p => Value.ref p.1) (tu : ∀ p ∈ ks, IsT P w s.heap p.2 p.1) (few : ks.length ≤ 4000) (hu : A.units + 3 < cLine)
    (hQ : ∀ s2, LeftS P w s ks s2 → Q (.ref s.heap.objs.size) s2) : wpAny (model P w) A (call (.type "set") [.ref l]) Q E s := by
  have sz : items.size = ks.length := by rw [← Array.length_toList, hit, List.length_map]
  have lS : l < s.heap.objs.size := by
    obtain ⟨_, e, _⟩ := hl
    exact Heap.lt_size e
  obtain ⟨c, tl, mro⟩ := F.called_set.mro
  have made := F.called_set.made
  have sub := F.called_set.sub
  have nt := F.called_set.notType
  have cc := F.called_set.canCreate
  have ct := F.typeCall_set_1 (.ref l)
  refine wpAny_call (codeAny_of_tree ?_)
  show wpAny _ _ (callAny (.type "set") _) _ _ _
  refine wpAny_pure ⟨Code.quiet_builtin _ (by decide +kernel), codeAny_builtin F.entry_type_call ?_⟩
  rw [Around.under_plain (weight_type_call_type "set" [.ref l] []) rfl]
  repeat (any_goals (first | assumption | wp_step))
  refine codeAny_mono (code_set_led1 (.ref l) (E := E) (Q₁ := fun u s1 => u = .ref s.heap.objs.size ∧ s1 = { s with heap := s.heap.push (newS w) }) ⟨rfl, rfl⟩) fun r s1 h1 => ?_
  rcases r with e | fl
  rotate_left
  · cases fl with
    | ret u =>
      obtain ⟨rfl, rfl⟩ := h1
      have atS : (s.heap.push (newS w)).get? s.heap.objs.size = some (newS w) := Heap.get?_push_size _ rfl
      have tyS : Shared.TypeIs { s with heap := s.heap.push (newS w) } (.ref s.heap.objs.size) "set" := ⟨_, atS, rfl⟩
      have il := F.called_set.init.lookup
      have ib := F.called_set.init.bind (.ref s.heap.objs.size)
      repeat (any_goals (first | assumption | wp_step))
      refine codeAny_mono (codeAny_call_builtin (R := wants (fun u s2 => u = .none ∧ LeftS P w s ks s2) E) F.called_set.init.plain F.entry_set_init (check_set_init_1 tyS ?_)) fun r2 s2 h2 => ?_
      · obtain ⟨⟨ocls, odict, odata, oslots⟩, hol, hcl, nl, hdl⟩ := hl
        simp only at hcl hdl
        subst hcl
        subst hdl
        have hol1 := Heap.get?_push_of_some (newS w) hol
        have lis1 : (s.heap.push (newS w)).IsList l items := ⟨_, hol1, rfl, nl, rfl⟩
        have f1 := F.sub_list_set
        have f2 := F.sub_list_frozenset
        have f3 : (Value.type "list" == Value.type "dict") = false := by decide
        unfold Builtin.«set.__init__» noKeywords Builtin.Frozenset.updateFrom
        generalize gI : pyIter = PI
        wp_walk
        subst gI
        refine wpAny_pyIter_list lis1 (wpAny_bind (wpAny_runValue ?_))
        have h3 : A.in1.in1.in1.handled = none := by simp [hh]
        have z1 : (s.heap.push (newS w)).objs.size = s.heap.objs.size + 1 := Heap.size_push ..
        have neI : l ≠ (s.heap.push (newS w)).objs.size := Nat.ne_of_lt (z1.symm ▸ Nat.lt_succ_of_lt lS)
        have nfp : s.heap.objs.size ∉ [(s.heap.push (newS w)).objs.size, l] := fun z => by
          rcases List.mem_cons.mp z with y | y
          · exact Nat.ne_of_lt (Nat.lt_succ_self _) (y.trans z1)
          · exact Nat.ne_of_gt lS (List.mem_singleton.mp y)
        have void : ∀ b, s.heap.objs.size ≤ b → s.heap.get? b = none := fun b hb => by
          cases q : s.heap.get? b with
          | none => rfl
          | some o => exact absurd (Heap.lt_size q) (Nat.not_lt.mpr hb)
        have val : ∀ (i : Nat) (v : Value), items[i]? = some v → ∃ p, ks[i]? = some p ∧ v = .ref p.1 := fun i v hv => by
          rw [← Array.getElem?_toList, hit, List.getElem?_map] at hv
          obtain ⟨p, e1, e2⟩ := Option.map_eq_some_iff.mp hv
          exact ⟨p, e1, e2.symm⟩
        refine update_w ((Walks.list h3 _ l neI items).toS) nfp sz few val tu (void _ (Nat.le_refl _)) (fun b hb => void b (by rw [List.mem_singleton.mp hb]; omega)) hu items.size 0 _ (Nat.zero_add _)
          ⟨⟨_, Heap.get?_push_size _ rfl, rfl, rfl⟩, lis1.push _⟩ (fun b o e => Heap.get?_push_of_some _ (Heap.get?_push_of_some _ e)) ⟨[], #[], 0, _, setW_new (Heap.get?_push_of_some _ atS), Got.zero ks⟩ fun s' L es ep t m RS g kp => ?_
        obtain ⟨h', g', d', tk, os'⟩ := s'
        cases (show g' = s.gens from m.gens)
        cases (show d' = s.drawn from m.drawn)
        cases (show os' = s.os from m.os)
        rw [sz] at g
        refine wpAny_pure ?_
        show wpAny _ _ (ret Value.none) _ _ _
        exact wpAny_pure ⟨rfl, h', tk, L, es, ep, t, rfl, RS, g, kp⟩
      · rcases r2 with e | fl
        rotate_left
        · cases fl with
          | ret u =>
            obtain ⟨rfl, h3⟩ := h2
            repeat (any_goals (first | assumption | wp_step))
            exact hQ _ h3
          | _ => exact h2.elim
        · exact h2
    | _ => exact h1.elim
  · exact h1
end
end PP
-- text SF
namespace PP
open PySem PySem.Spec PyProof.Rows L2
theorem perm_lift {α β : Type} {f : α → β} {l m : List β} (h : l.Perm m) : ∀ L : List α, m = L.map f → ∃ L1 : List α, L1.Perm L ∧ l = L1.map f := by
  induction h with
  | nil => intro L e; exact ⟨L, .refl L, e⟩
  | cons x _ ih =>
    intro L e
    cases L with
    | nil => cases e
    | cons y r =>
      rw [List.map_cons] at e
      obtain ⟨rfl, e2⟩ := List.cons.inj e
      obtain ⟨L1, p1, e1⟩ := ih r e2
      exact ⟨y :: L1, p1.cons y, by rw [List.map_cons, e1]⟩
  | swap x y l =>
    intro L e
    match L, e with
    | u :: v :: r, e =>
      simp only [List.map_cons] at e
      obtain ⟨e1, e2⟩ := List.cons.inj e
      obtain ⟨e3, e4⟩ := List.cons.inj e2
      exact ⟨v :: u :: r, .swap u v r, by rw [List.map_cons, List.map_cons, e1, e3, e4]⟩
  | trans _ _ ih1 ih2 =>
    intro L e
    obtain ⟨L2, p2, e2⟩ := ih2 L e
    obtain ⟨L1, p1, e1⟩ := ih1 L2 e2
    exact ⟨L1, p1.trans p2, e1⟩
/-- a tuple as data -/
def encT (b : Addr × List Int) : PyData := .tuple (b.2.map .int)
section
variable {P : Program} {w : World} {A : Around} {E : Value → Shared → Prop} {s : Shared}
theorem reads_items {h : Heap} : ∀ {k : List Int} {vs : List Value}, ItemsAre (intKind P w) k vs → ReadsAll h vs (k.map .int) []
  | _, _, .nil => .nil
  | _, _, .cons h1 r => by
    obtain ⟨t, rfl⟩ := Value.isInt_shape h1
    exact ReadsAll.cons (as := []) (bs := []) (.int _ t) (reads_items r)
theorem reads_tup {h : Heap} {b : Addr × List Int} (x : IsT P w h b.2 b.1) : Reads h (.ref b.1) (encT b) [] := by
  obtain ⟨o, items, n, ho, hc, hd, hi⟩ := x
  exact .tuple ho hc hd (reads_items hi)
theorem each_ref {R : Value → Addr × List Int → Prop} : ∀ {L : List (Addr × List Int)}, (∀ b ∈ L, R (.ref b.1) b) → PySem.W.EachIs R (L.map fun b => Value.ref b.1) L
  | [], _ => .nil
  | b :: r, h => .cons (h b List.mem_cons_self) (each_ref fun c hc => h c (List.mem_cons_of_mem b hc))
theorem each_back : ∀ {vs : List Value} {L : List (Addr × List Int)}, PySem.W.EachIs (fun v b => v = Value.ref b.1) vs L → vs = L.map fun b => Value.ref b.1
  | _, _, .nil => rfl
  | _, _, .cons h r => by rw [h, each_back r]; rfl
theorem alike_encT (b c : Addr × List Int) : PySem.W.alike (encT b) (encT c) = true := by
  unfold encT PySem.W.alike
  exact PySem.W.alike_ints _ _
theorem depth_encT (b : Addr × List Int) : (encT b).depth ≤ 1 := by
  unfold encT
  rw [PyData.depth, PySem.W.depth_ints]
  decide
theorem sorted_w {a : Addr} {L : List (Addr × List Int)} {es : Array (Int × Value)} {ep : Nat} {t : SetTable} {Q : Value → Shared → Prop} (R : SetW P w s.heap a L es ep t) (hh : A.handled = none) (ne : ∀ p ∈ L, p.2 ≠ []) (hu : A.units + 8 < cLine)
    (hQ : ∀ s' p (out : Array Value) (c : Nat) (L' : List (Addr × List Int)), Keeps s.heap s'.heap → s'.gens = s.gens → s'.os = s.os → s.heap.objs.size ≤ p → s'.heap.get? p = some (seqObj "list" out c) → out.toList = L'.map (fun q => Value.ref q.1) → L'.Perm L → Q (.ref p) s') :
    wpAny (model P w) A (call (.builtin "sorted") [.ref a]) Q E s := by
  obtain ⟨o, ho, hex, hd⟩ := R.ob
  have few := R.few
  have zs := rows_size R.rows
  refine Calls.call_function_entry kind_sorted plain_sorted entry_sorted (args_sorted1 _) ?_
  unfold Builtin.«sorted»
  refine wpAny_bind (m := checkCount "sorted" 1 1 _) (wpAny_pure ?_)
  refine wpAny_bind (collect_set (A := A.in1) hh ⟨o, ho, hex.1, hd⟩ R.fits (by unfold scanBound; omega) R.tab.ris R.led fun s1 vs k1 z1 g1 o1 pm => ?_)
  obtain ⟨L1, p1, rfl⟩ := perm_lift (f := fun b : Addr × List Int => Value.ref b.1) pm L (by
    rw [R.rows]
    exact List.map_map ..)
  have l1 := p1.length_eq
  refine wpAny_bind (wpAny_newList ?_ (by rw [List.length_map, sizeLine_eq]; omega))
  generalize ehp : s1.heap.push (seqObj "list" (L1.map fun b => Value.ref b.1).toArray 0) = h2
  have k2 : Keeps s1.heap h2 := fun b u e => ehp ▸ Heap.get?_push_of_some _ e
  have at2 : h2.get? s1.heap.objs.size = some (seqObj "list" (L1.map fun b => Value.ref b.1).toArray 0) := ehp ▸ Heap.get?_push_size _ rfl
  have z2 : h2.objs.size = s1.heap.objs.size + 1 := ehp ▸ Heap.size_push ..
  have tk : ∀ b ∈ L1, IsT P w h2 b.2 b.1 := fun b hb => isT_keep (R.tup b (p1.mem_iff.mp hb)) fun c u e => k2 c u (k1 c u e)
  refine wpAny_bind (wpAny_holding (PySem.W.list_sort_data (s := { s1 with heap := h2 }) (enc := encT) (bs := L1) (R := fun v b => v = .ref b.1) at2 (each_ref fun _ _ => rfl) (each_ref fun b hb => ⟨[], reads_tup (tk b hb), List.not_mem_nil⟩)
    (PySem.W.AllAlike.of alike_encT) (.inl fun q hq => ?_) (by rw [sizeLine_eq]; omega) (fun b _ => ?_) fun out e1 e2 => ?_))
  · obtain ⟨b, hb, rfl⟩ := List.mem_map.mp hq
    obtain ⟨i, r, e⟩ : ∃ i r, b.2 = i :: r := by
      cases e : b.2 with
      | nil => exact (ne b (p1.mem_iff.mp hb) e).elim
      | cons i r => exact ⟨i, r, rfl⟩
    unfold encT
    rw [e]
    exact ⟨_, _, rfl⟩
  · have := depth_encT b
    have e1 : A.in1.units ≤ A.units + 4 := by first | exact Nat.le_refl _ | simp [Around.in1]
    omega
  · obtain ⟨c, hc⟩ := sortedHeap_at (vs := L1.map fun b => Value.ref b.1) (out := out.toArray) at2
    refine wpAny_pure ⟨_, rfl, hQ _ s1.heap.objs.size out.toArray c (L1.mergeSort (PySem.W.dataLe false encT)) (fun b u e => ?_) g1 o1 z1 hc (each_back e2) ((List.mergeSort_perm _ _).trans p1)⟩
    have q := k1 b u e
    have lt := Heap.lt_size q
    show (sortedHeap h2 s1.heap.objs.size _ _).get? b = some u
    rw [sortedHeap_old (Nat.ne_of_lt lt) (z2.symm ▸ Nat.lt_succ_of_lt lt)]
    exact k2 b u q
end
end PP
-- text SG
namespace PP
open PySem PySem.Spec PyProof.Rows L2
section
variable {X : Cx}
/-- sorted(set(xs)), xs a list of tuples of ints -/
def tSS (K : PySem.W.Frag) (ta : TE) : TE := fun σ H Q => ta σ H fun x H1 => ∃ (l : Addr) (ks : List (Addr × List Int)), x = .ref l ∧ SqL K H1 l (ks.map fun p => V.ref p.1) ∧ (∀ p ∈ ks, SqT K H1 p.1 (p.2.map V.int)) ∧ (∀ p ∈ ks, p.2 ≠ []) ∧ ks.length ≤ 4000 ∧
  ∀ (L : List (Addr × List Int)) (p : Addr), (∀ q ∈ L, q ∈ ks) → (∀ q ∈ ks, q.2 ∈ L.map (·.2)) → (L.map (·.2)).Nodup → H1 p = none → Q (.ref p) (upd H1 p (.lst (L.map fun q => V.ref q.1)))
theorem g_ss {K : PySem.W.Frag} {ta : TE} {σ : L2.St} {H : Hp} {Q : VK} (q : ta σ H fun x H1 => ∃ (l : Addr) (ks : List (Addr × List Int)), x = .ref l ∧ SqL K H1 l (ks.map fun p => V.ref p.1) ∧ (∀ p ∈ ks, SqT K H1 p.1 (p.2.map V.int)) ∧ (∀ p ∈ ks, p.2 ≠ []) ∧ ks.length ≤ 4000 ∧
  ∀ (L : List (Addr × List Int)) (p : Addr), (∀ q ∈ L, q ∈ ks) → (∀ q ∈ ks, q.2 ∈ L.map (·.2)) → (L.map (·.2)).Nodup → H1 p = none → Q (.ref p) (upd H1 p (.lst (L.map fun q => V.ref q.1)))) : tSS K ta σ H Q := q
theorem pe_sortedSet {a : Expr} {ta : TE} {p p2 q pos : Pos} (hc : X.calm = true) (hu : X.A.units + 64 < cLine) (hg : Gl X "sorted") (hm : X.mg "sorted" = none) (hg2 : Gl X "set") (hm2 : X.mg "set" = none) (ha : PE X a ta)
    (na : starEach [a] X.env = (false, eval a X.env) :: starEach [] X.env := by rfl) : PE X (.Call (.Name "sorted" p) [.Call (.Name "set" p2) [a] [] q] [] pos) (tSS X.K ta) := by
  refine ⟨fun pins s σ H Q I h => ?_⟩
  refine Call_ (ld_blt I hg hm boot_sorted ?_)
  refine callWith_builtin1 (args_cons ?_ rfl) rfl rfl
  refine Call_ (ld_blt I hg2 hm2 boot_set ?_)
  refine callWith_type1 (args_cons (thn (ha.run pins s σ H _ I h) fun v s1 ⟨x, H1, I1, r1, q1⟩ => args_nil ?_) na) na rfl
  obtain ⟨l, ks, rfl, hl, hk, ne, few, q1⟩ := q1
  rw [show v = Value.ref l from r1]
  obtain ⟨its, rv, pl, hz⟩ := I1.list hl
  refine call_set_w (P := X.prog) (w := X.w) (ks := ks) (I1.ok.hd hc) pl.isList (by simpa using refs_of_vals rv) (fun b hb => I1.isT (hk b hb)) few (by omega) fun s2 h2 => ?_
  obtain ⟨h', tk, L, es, ep, t, rfl, RS, g, kp⟩ := h2
  have sub : ∀ b ∈ L, b ∈ ks := fun b hb => List.mem_of_mem_take (g.sub b hb)
  have I2 : Inv X pins σ H1 { s1 with heap := h', toks := tk } := I1.kept kp
  refine args_nil ?_
  refine sorted_w (P := X.prog) (w := X.w) (s := { s1 with heap := h', toks := tk }) RS (I1.ok.hd hc) (fun b hb => ne b (sub b hb)) (by omega) fun s' p out c L' k3 g3 o3 hp hg3 hout pm => ?_
  have ln : (L'.map fun b => V.ref b.1).length ≤ sizeLine := by
    rw [List.length_map, pm.length_eq, sizeLine_eq]
    have := RS.few
    omega
  have hn : H1 p = none := I2.hok.fresh hp
  have hv : Vals (L'.map fun b => V.ref b.1) out.toList := by
    rw [hout]
    exact vals_of_refs L'
  have J : Inv X pins σ (upd H1 p (.lst (L'.map fun b => V.ref b.1))) { ({ s1 with heap := h', toks := tk } : Shared) with heap := s'.heap, gens := s'.gens, drawn := s'.drawn, toks := s'.toks } :=
    I2.call (ch := []) (Un.laid k3 hp hn) (I2.hok.laid k3 hp ⟨ln, out.toList, c, hv, hg3⟩) (by rw [g3]; exact I2.bare) (fun _ z => nomatch z)
  obtain ⟨hp', gp, dp, tp, op⟩ := s'
  cases (show op = s1.os from o3)
  exact ⟨.ref p, _, J, rfl, q1 L' p (fun b hb => sub b (pm.mem_iff.mp hb)) (fun b hb => (pm.map (·.2)).mem_iff.mpr (g.all b (by rw [List.take_length]; exact hb))) ((pm.map (·.2)).nodup_iff.mpr RS.nd) hn⟩
end
end PP
-- text MD
namespace PP
theorem Sp0.snoc {w : Int} {m : Nat} {t : Vc} : ∀ {R : List Vc} {x : Vc}, Sp0 w m (R ++ [t]) x ↔ ∃ c : Int, Sp0 w m R fun i => x i - c * t i
  | [], _ => Iff.rfl
  | u :: R, x => by
    constructor
    · rintro ⟨d, h⟩
      obtain ⟨c, k⟩ := Sp0.snoc.mp h
      exact ⟨c, d, k.same fun i _ => by show x i - d * u i - c * t i = x i - c * t i - d * u i; omega⟩
    · rintro ⟨c, d, k⟩
      exact ⟨d, Sp0.snoc.mpr ⟨c, k.same fun i _ => by show x i - c * t i - d * u i = x i - d * u i - c * t i; omega⟩⟩
/-! the law's layers -/
def addR (w : Int) (g h : E4) : E4 := redE w fun j => g.fn j + h.fn j
def stepE (w : Nat) (r : E4 × Nat) : E4 := redE w (rowS w r)
def hereE (w : Int) (st : E4) : Nat → E4
  | 0 => ⟨0, 0, 0, 0⟩
  | t + 1 => addR w (hereE w st t) st
def layE (w : Int) (F : List E4) (st : E4) : Nat → List E4
  | 0 => F
  | t + 1 => layE w F st t ++ F.map fun g => addR w g (hereE w st (t + 1))
theorem zero_fn : ∀ j, (⟨0, 0, 0, 0⟩ : E4).fn j = 0
  | 0 => rfl
  | 1 => rfl
  | 2 => rfl
  | n + 3 => rfl
theorem addR_dvd {w : Int} {g h : E4} {j : Nat} (hj : j < 4) : w ∣ g.fn j + h.fn j - (addR w g h).fn j := redE_dvd (y := fun j => g.fn j + h.fn j) hj
theorem here_dvd {w : Int} {st : E4} {j : Nat} (hj : j < 4) : ∀ t : Nat, w ∣ (t : Int) * st.fn j - (hereE w st t).fn j
  | 0 => by
    rw [hereE, zero_fn]
    simp
  | t + 1 => by
    have h1 := here_dvd (w := w) (st := st) hj t
    have h2 := addR_dvd (w := w) (g := hereE w st t) (h := st) hj
    rw [hereE]
    have := Int.dvd_add h1 h2
    rw [show (t : Int) * st.fn j - (hereE w st t).fn j + ((hereE w st t).fn j + st.fn j - (addR w (hereE w st t) st).fn j) = ((t + 1 : Nat) : Int) * st.fn j - (addR w (hereE w st t) st).fn j by
      rw [Int.natCast_add, Int.add_mul]
      simp
      omega] at this
    exact this
theorem mem_lay {w : Int} {F : List E4} {st e : E4} : ∀ {n : Nat}, e ∈ layE w F st n ↔ e ∈ F ∨ ∃ t g, 1 ≤ t ∧ t ≤ n ∧ g ∈ F ∧ e = addR w g (hereE w st t)
  | 0 => ⟨.inl, fun h => h.elim id fun ⟨t, g, h1, h2, _⟩ => by omega⟩
  | n + 1 => by
    rw [layE, List.mem_append, mem_lay, List.mem_map]
    constructor
    · rintro ((h | ⟨t, g, h1, h2, h3⟩) | ⟨g, hg, rfl⟩)
      · exact .inl h
      · exact .inr ⟨t, g, h1, by omega, h3⟩
      · exact .inr ⟨n + 1, g, by omega, Nat.le_refl _, hg, rfl⟩
    · rintro (h | ⟨t, g, h1, h2, hg, rfl⟩)
      · exact .inl (.inl h)
      · rcases Nat.lt_or_eq_of_le h2 with z | rfl
        · exact .inl (.inr ⟨t, g, h1, by omega, hg, rfl⟩)
        · exact .inr ⟨g, hg, rfl⟩
theorem lay_len {w : Int} {F : List E4} {st : E4} : ∀ {n : Nat}, (layE w F st n).length = (n + 1) * F.length
  | 0 => by rw [layE]; omega
  | n + 1 => by
    rw [layE, List.length_append, lay_len, List.length_map, Nat.add_mul (n + 1) 1, Nat.one_mul]
def Grp (w : Int) (R : List Vc) (F : List E4) : Prop := ∀ e, e ∈ F ↔ Red w e ∧ Sp0 w 4 R e.fn
theorem grp_zero {w : Int} (hw : 0 < w) : Grp w [] [⟨0, 0, 0, 0⟩] := fun e => by
  rw [List.mem_singleton]
  constructor
  · rintro rfl
    exact ⟨fun j _ => by rw [zero_fn]; omega, fun j _ => by rw [zero_fn]; exact Int.dvd_zero w⟩
  · rintro ⟨h1, h2⟩
    refine h1.eq (fun j _ => by rw [zero_fn]; omega) fun j hj => ?_
    rw [zero_fn, Int.sub_zero]
    exact h2 j hj
theorem grp_lay {w : Nat} {R : List Vc} {F : List E4} {r : E4 × Nat} (hw : 0 < w) (hd : r.2 ∣ w) (h : Grp w R F) : Grp w (R ++ [rowS w r]) (layE w F (stepE w r) r.2) := fun e => by
  have hd0 : 0 < r.2 := Nat.pos_of_dvd_of_pos hd hw
  have hw' : (0 : Int) < (w : Int) := by omega
  -- a step is the row
  have hst : ∀ j, j < 4 → (w : Int) ∣ rowS w r j - (stepE w r).fn j := fun j hj => redE_dvd hj
  -- so often the degree, and it is gone
  have per : ∀ j, (w : Int) ∣ (r.2 : Int) * rowS w r j := fun j => by
    unfold rowS
    have : (r.2 : Int) * (r.1.fn j * ((w / r.2 : Nat) : Int)) = (w : Int) * r.1.fn j := by
      have e1 : (r.2 : Int) * ((w / r.2 : Nat) : Int) = (w : Int) := by
        rw [← Int.natCast_mul, Nat.mul_div_cancel' hd]
      rw [Int.mul_comm (r.1.fn j), ← Int.mul_assoc, e1]
    rw [this]
    exact ⟨_, rfl⟩
  have far : ∀ (t : Nat) j, j < 4 → (w : Int) ∣ (t : Int) * rowS w r j - (hereE w (stepE w r) t).fn j := fun t j hj => by
    have h1 := here_dvd (w := (w : Int)) (st := stepE w r) hj t
    have h2 : (w : Int) ∣ (t : Int) * (rowS w r j - (stepE w r).fn j) := Int.dvd_mul_of_dvd_right (hst j hj)
    have := Int.dvd_add h2 h1
    rw [Int.mul_sub] at this
    rw [show (t : Int) * rowS w r j - (t : Int) * (stepE w r).fn j + ((t : Int) * (stepE w r).fn j - (hereE w (stepE w r) t).fn j) = (t : Int) * rowS w r j - (hereE w (stepE w r) t).fn j by omega] at this
    exact this
  rw [mem_lay, Sp0.snoc]
  constructor
  · rintro (he | ⟨t, g, t1, t2, hg, rfl⟩)
    · obtain ⟨h1, h2⟩ := (h e).mp he
      exact ⟨h1, 0, h2.same fun i _ => by rw [Int.zero_mul, Int.sub_zero]⟩
    · obtain ⟨h1, h2⟩ := (h g).mp hg
      refine ⟨redE_red hw', t, h2.congr fun j hj => ?_⟩
      have h3 := addR_dvd (w := (w : Int)) (g := g) (h := hereE w (stepE w r) t) hj
      have h4 := Int.dvd_sub (far t j hj) h3
      have := Int.dvd_add (far t j hj) h3
      rw [show (t : Int) * rowS w r j - (hereE w (stepE w r) t).fn j + (g.fn j + (hereE w (stepE w r) t).fn j - (addR w g (hereE w (stepE w r) t)).fn j) = g.fn j - ((addR w g (hereE w (stepE w r) t)).fn j - (t : Int) * rowS w r j) by omega] at this
      exact this
  · rintro ⟨h1, c, h2⟩
    -- c within the degree
    have hd0' : (0 : Int) < (r.2 : Int) := by omega
    have c0 := Int.emod_nonneg c (show (r.2 : Int) ≠ 0 by omega)
    have c1 := Int.emod_lt_of_pos c hd0'
    obtain ⟨t, ht⟩ := Int.eq_ofNat_of_zero_le c0
    have hc : ∀ j, (w : Int) ∣ c * rowS w r j - (t : Int) * rowS w r j := fun j => by
      have e1 := Int.emod_add_mul_ediv c (r.2 : Int)
      have : c * rowS w r j - (t : Int) * rowS w r j = (c / (r.2 : Int)) * ((r.2 : Int) * rowS w r j) := by
        rw [← Int.sub_mul, ← ht, ← Int.mul_assoc]
        congr 1
        rw [Int.mul_comm]
        omega
      rw [this]
      exact Int.dvd_mul_of_dvd_right (per j)
    let y : Vc := fun j => e.fn j - (t : Int) * rowS w r j
    have hy : Sp0 w 4 R y := h2.congr fun j _ => by
      show (w : Int) ∣ e.fn j - c * rowS w r j - (e.fn j - (t : Int) * rowS w r j)
      have := Int.dvd_neg.mpr (hc j)
      rw [show -(c * rowS w r j - (t : Int) * rowS w r j) = e.fn j - c * rowS w r j - (e.fn j - (t : Int) * rowS w r j) by omega] at this
      exact this
    have hg : redE w y ∈ F := (h _).mpr ⟨redE_red hw', hy.congr fun j hj => redE_dvd hj⟩
    by_cases t0 : t = 0
    · have : e = redE w y := h1.eq (redE_red hw') fun j hj => by
        have := redE_dvd (w := (w : Int)) (y := y) hj
        rw [show y j = e.fn j by show e.fn j - (t : Int) * rowS w r j = e.fn j; rw [t0]; simp] at this
        exact this
      exact .inl (this ▸ hg)
    · refine .inr ⟨t, redE w y, by omega, by omega, hg, h1.eq (redE_red hw') fun j hj => ?_⟩
      have h3 := redE_dvd (w := (w : Int)) (y := y) hj
      have h4 := far t j hj
      have h5 := addR_dvd (w := (w : Int)) (g := redE w y) (h := hereE w (stepE w r) t) hj
      have := Int.dvd_add (Int.dvd_add h3 h4) h5
      have ey : y j = e.fn j - (t : Int) * rowS w r j := rfl
      rw [ey] at this
      generalize (redE (w : Int) y).fn j = u at this
      generalize (hereE (w : Int) (stepE w r) t).fn j = v at this
      generalize (t : Int) * rowS w r j = x at this
      rw [show e.fn j - x - u + (x - v) + (u + v - (addR (w : Int) (redE (w : Int) y) (hereE (w : Int) (stepE w r) t)).fn j) = e.fn j - (addR (w : Int) (redE (w : Int) y) (hereE (w : Int) (stepE w r) t)).fn j by omega] at this
      exact this
end PP
-- text LX
namespace PP
open PySem PySem.Spec PyProof.Rows L2 LamX TL RZ
section
variable {P : Program} {w : World} {K : PySem.W.Frag} {mg : Str → Option Value} {base : Heap}
theorem lcmR_snoc : ∀ {l : Rs} {w : Nat} {x : E4 × Nat}, lcmR w (l ++ [x]) = lcmR w l * x.2 / Nat.gcd (lcmR w l) x.2
  | [], _, _ => rfl
  | y :: l, w, x => lcmR_snoc (l := l)
theorem lcm_dvd {u d : Nat} : u ∣ u * d / Nat.gcd u d ∧ d ∣ u * d / Nat.gcd u d := ⟨Nat.dvd_lcm_left u d, Nat.dvd_lcm_right u d⟩
theorem lcmR_up : ∀ {l : Rs} {w : Nat}, w ∣ lcmR w l ∧ ∀ x ∈ l, x.2 ∣ lcmR w l
  | [], w => ⟨Nat.dvd_refl w, fun _ h => absurd h List.not_mem_nil⟩
  | y :: l, w => by
    obtain ⟨h1, h2⟩ := lcmR_up (l := l) (w := w * y.2 / Nat.gcd w y.2)
    obtain ⟨d1, d2⟩ := lcm_dvd (u := w) (d := y.2)
    refine ⟨Nat.dvd_trans d1 h1, fun x hx => ?_⟩
    rcases List.mem_cons.mp hx with rfl | z
    · exact Nat.dvd_trans d2 h1
    · exact h2 x z
def TupE (H : Hp) (p : Addr) (e : E4) : Prop := H p = some (.tup (e.row.map V.int))
def ofRow (l : List Int) : E4 := ⟨l.getD 0 0, l.getD 1 0, l.getD 2 0, l.getD 3 0⟩
theorem ofRow_row {e : E4} : ofRow e.row = e := rfl
theorem add_get {w : Int} {g h : E4} {i : Nat} {u v z : Int} (h1 : g.row[i]? = some u) (h2 : h.row[i]? = some v) (h3 : (addR w g h).row[i]? = some z) : z = (u + v) % w := by
  match i, h1, h2, h3 with
  | 0, h1, h2, h3 => cases h1; cases h2; cases h3; rfl
  | 1, h1, h2, h3 => cases h1; cases h2; cases h3; rfl
  | 2, h1, h2, h3 => cases h1; cases h2; cases h3; rfl
  | 3, h1, h2, h3 => cases h1; cases h2; cases h3; rfl
  | n + 4, h1, _, _ => cases h1
theorem step_get {w : Nat} {r : E4 × Nat} {i : Nat} {u z : Int} (h1 : r.1.row[i]? = some u) (h3 : (stepE w r).row[i]? = some z) : z = (u * ((w / r.2 : Nat) : Int)) % (w : Int) := by
  match i, h1, h3 with
  | 0, h1, h3 => cases h1; cases h3; rfl
  | 1, h1, h3 => cases h1; cases h3; rfl
  | 2, h1, h3 => cases h1; cases h3; rfl
  | 3, h1, h3 => cases h1; cases h3; rfl
  | n + 4, h1, _ => cases h1
theorem row_get {l : List Int} {i : Nat} {v : V} (h : (l.map V.int)[i]? = some v) : ∃ z, l[i]? = some z ∧ v = .int z := by
  rw [List.getElem?_map] at h
  obtain ⟨z, h1, h2⟩ := Option.map_eq_some_iff.mp h
  exact ⟨z, h1, h2.symm⟩
theorem row_red {w : Int} {e : E4} (h : Red w e) {i : Nat} {z : Int} (hz : e.row[i]? = some z) : 0 ≤ z ∧ z < w := by
  match i, hz with
  | 0, hz => cases hz; exact h 0 (by decide)
  | 1, hz => cases hz; exact h 1 (by decide)
  | 2, hz => cases hz; exact h 2 (by decide)
  | 3, hz => cases hz; exact h 3 (by decide)
  | n + 4, hz => cases hz
/-- [(one + two) % w for one, two in zip(x, y)] -/
theorem lc_add {x y : Addr} {a b : E4} {m : Int} {g : TG} {tt : TT} {te : TE} {vs : List Nat} {σ : L2.St} {D : Addr} {H1 : Hp} {Qd : Hp → Prop} (hx : TupE H1 x a) (hy : TupE H1 y b) (hD : H1 D = none)
    (hs : ∀ (u v : Int) (T : Addr) (H : Hp), Same H1 H → H T = none → ∀ R : Option V → Hp → Prop, (∀ H'', Same H H'' → R (some (.int ((u + v) % m))) H'') →
      g (.ref T) (wipe σ vs) (upd H T (.tup [.int u, .int v])) fun σ2 H2 => wipe σ2 vs = wipe σ vs ∧ tt σ2 H2 fun b H3 => if b = true then te σ2 H3 fun y H4 => R (some y) H4 else R none H3)
    (hd : ∀ H, Same H1 H → RowIs H D (addR m a b) → Qd H) : LcGo (ItzT K x y) g tt te vs σ D H1 Qd :=
  lc_goP ((addR m a b).row.map fun z => some (.int z)) (walk_zipT (xs := a.row.map V.int) (ys := b.row.map V.int) rfl) rfl ⟨SqT.of hx, SqT.of hy⟩ (fun H k => ⟨SqT.of (k _ _ hx), SqT.of (k _ _ hy)⟩) hD (by show (4 : Nat) ≤ 100000; decide) (fun i u v T k H eu ev hk kH hT R hR => by
    obtain ⟨u', e1, rfl⟩ := row_get eu
    obtain ⟨v', e2, rfl⟩ := row_get ev
    rw [List.getElem?_map] at hk
    obtain ⟨z, e3, rfl⟩ := Option.map_eq_some_iff.mp hk
    rw [add_get e1 e2 e3] at hR
    exact hs u' v' T H kH hT R hR) (fun H k h => hd H k (by rw [ks_row] at h; exact h))
def sp_law_group : Sp := sp1 fun x H Q _ => ∃ (j p : Addr) (pg : Rs) (n : Nat), x = .ref p ∧ JugAt H j n ∧ PgA j H p pg ∧ ∀ H' t fd xs v, Same H H' → H' t = some (.tup [.ref fd, v]) → H' fd = some (.lst xs) → TwrN pg xs.length → Q (.ref t) H'
theorem c_law_group (T : Tx K mg) : CalX P w K mg base CX0 3 "_law_group" sp_law_group [] := by
  refine cal0_of (F_law_group T) (g_law_group T) bd_law_group sc_law_group len1 (fun cdv A outer s H vs Q E hr h => ?_)
  obtain ⟨_, rfl, j, p, pg, n, rfl, hj, ⟨as, hpg, rfl⟩, q⟩ := h
  refine ⟨_, (pss_cons (ps_set (i := 1) sc_law_group.nd rfl (Or.inr rfl) pe_int)
      (pss_cons (ps_for PassesOwn.never rfl (pi_list (pv 0)) (pg_tup rfl (pgs_cons (pg_name (i := 2) sc_law_group.nd rfl (Or.inl rfl)) (pgs_cons (pg_name (i := 3) sc_law_group.nd rfl (Or.inr rfl)) pgs_nil))) (pss_one (ps_set (i := 1) sc_law_group.nd rfl (Or.inr rfl) (pe_op op_fdivW (pe_op op_mulW (pv 1) (pv 3)) (pe_cx (c_law_common T) hr pass0 (pa_cons (pv 1) (pa_cons (pv 3) pa_nil)))))))
      (pss_cons (ps_set (i := 4) sc_law_group.nd rfl (Or.inl rfl) (pe_lst (pa_cons (pe_tup (pa_cons pe_int (pa_cons pe_int (pa_cons pe_int (pa_cons pe_int pa_nil))))) pa_nil)))
      (pss_cons (ps_for PassesOwn.never rfl (pi_list (pv 0)) (pg_tup rfl (pgs_cons (pg_name (i := 2) sc_law_group.nd rfl (Or.inl rfl)) (pgs_cons (pg_name (i := 3) sc_law_group.nd rfl (Or.inr rfl)) pgs_nil))) (pss_cons (ps_par (i := 6) (j := 7) (by rfl) sc_law_group.nd rfl rfl (by decide) rfl rfl (pa_cons (pe_callTy call_tuple_of (by rfl) (b_tuple T) (by decide +kernel) (pa_cons (pe_lc (own := [("_law_each", 5)]) rfl sc_law_group.nd (pi_list (pv 2)) (blkOk_by (own := [("_law_each", 5)]) (N := N_law_group) (sc := defScope s_law_group) (by decide +kernel)) (fun _ _ _ _ _ => (pg_name (i := 5) sc_law_group.nd rfl (Or.inl rfl))) (fun _ _ _ _ _ => pts_nil) (fun _ _ _ _ _ => (pe_op op_mod (pe_callTy call_int1 (by rfl) (b_int T) (by decide +kernel) (pa_cons (pe_op op_mulW (pv 5) (pe_op op_fdivW (pv 1) (pv 3))) pa_nil)) (pv 1)))) pa_nil)) (pa_cons (pe_tup (pa_cons pe_int (pa_cons pe_int (pa_cons pe_int (pa_cons pe_int pa_nil))))) pa_nil)) (by rfl))
      (pss_cons (ps_set (i := 8) sc_law_group.nd rfl (Or.inl rfl) (pe_callTy call_list_of (by rfl) (b_list T) (by decide +kernel) (pa_cons (pv 4) pa_nil)))
      (pss_cons (ps_for PassesOwn.never rfl (pi_range1 rfl (b_range T) (pa_cons (pv 3) pa_nil)) (pg_name (i := 9) sc_law_group.nd rfl (Or.inl rfl)) (pss_cons (ps_set (i := 7) sc_law_group.nd rfl (Or.inl rfl) (pe_callTy call_tuple_of (by rfl) (b_tuple T) (by decide +kernel) (pa_cons (pe_lc (own := [("_law_one", 10), ("_law_two", 11)]) rfl sc_law_group.nd (RZ.pi_zipA (by rfl) (b_zip T) (pa_cons (pv 7) (pa_cons (pv 6) pa_nil))) (blkOk_by (own := [("_law_one", 10), ("_law_two", 11)]) (N := N_law_group) (sc := defScope s_law_group) (by decide +kernel)) (fun _ _ _ _ _ => (show PG _ _ (gTup K 2 _) from pg_tup rfl (pgs_cons (pg_name (i := 10) sc_law_group.nd rfl (Or.inl rfl)) (pgs_cons (pg_name (i := 11) sc_law_group.nd rfl (Or.inl rfl)) pgs_nil)))) (fun _ _ _ _ _ => pts_nil) (fun _ _ _ _ _ => (pe_op op_mod (pe_callTy call_int1 (by rfl) (b_int T) (by decide +kernel) (pa_cons (pe_op op_add (pv 10) (pv 11)) pa_nil)) (pv 1)))) pa_nil)))
      (pss_one (ps_for PassesOwn.never rfl (pi_list (pv 4)) (pg_name (i := 5) sc_law_group.nd rfl (Or.inl rfl)) (pss_one (ps_expr (pe_bm PySem.F.plainAttrs_list PySem.F.slot_list_append PySem.F.type_list_append mt_append (pv 8) (pa_cons (pe_callTy call_tuple_of (by rfl) (b_tuple T) (by decide +kernel) (pa_cons (pe_lc (own := [("_law_one", 10), ("_law_two", 11)]) rfl sc_law_group.nd (RZ.pi_zipA (by rfl) (b_zip T) (pa_cons (pv 5) (pa_cons (pv 7) pa_nil))) (blkOk_by (own := [("_law_one", 10), ("_law_two", 11)]) (N := N_law_group) (sc := defScope s_law_group) (by decide +kernel)) (fun _ _ _ _ _ => (show PG _ _ (gTup K 2 _) from pg_tup rfl (pgs_cons (pg_name (i := 10) sc_law_group.nd rfl (Or.inl rfl)) (pgs_cons (pg_name (i := 11) sc_law_group.nd rfl (Or.inl rfl)) pgs_nil)))) (fun _ _ _ _ _ => pts_nil) (fun _ _ _ _ _ => (pe_op op_mod (pe_callTy call_int1 (by rfl) (b_int T) (by decide +kernel) (pa_cons (pe_op op_add (pv 10) (pv 11)) pa_nil)) (pv 1)))) pa_nil)) pa_nil))))))))
      (pss_one (ps_set (i := 4) sc_law_group.nd rfl (Or.inl rfl) (pe_sortedSet rfl hr.units (by rfl) (b_sorted T) (by rfl) (b_set T) (pv 8))))))))
      (pss_one (ps_ret (pe_tup (pa_cons (pv 4) (pa_cons (pv 1) pa_nil))))))))), ?_⟩
  have bnd : ∀ i, 0 < lcmR 1 (rsOf (as.take i)) ∧ lcmR 1 (rsOf (as.take i)) < 2 ^ 40 := fun i => by
    have ok : OkRts (as.take i) := fun x hx => hpg.ok x (List.mem_of_mem_take hx)
    have ln : (as.take i).length ≤ 5 := Nat.le_trans (List.length_take_le' i as) hpg.len
    refine ⟨?_, lcmR_ok ok ln⟩
    rw [← lcmD_R]
    exact (lcmD_ok (w := 1) (B := 1) ok (by decide) (by decide)).1
  walk_at "go"
  refine ⟨p, rfl, ⟨_, SqL.of hpg.lst⟩, forL (xs := refsOf as) (fun i σ' H' => H' = H ∧ ∃ v2 v3 : Option V, σ' = [some (.ref p), some (.int (lcmR 1 (rsOf (as.take i)) : Nat)), v2, v3, none, none, none, none, none, none, none, none]) ⟨rfl, none, none, rfl⟩ (fun i σ' H' hi h => SqL.of (h.1 ▸ hpg.lst)) (fun i x σ' H' hx h => ?_) (fun σ' H' h => ?_)⟩
  · obtain ⟨rfl, v2, v3, rfl⟩ := h
    obtain ⟨r, hr', rfl⟩ := refs_get hx
    have rm := List.mem_of_getElem? hr'
    obtain ⟨lr, g1, g2, g3⟩ := hpg.rt r rm
    obtain ⟨o1, o2, o3, o4⟩ := hpg.ok r rm
    obtain ⟨b1, b2⟩ := bnd i
    have es : lcmR 1 (rsOf (as.take (i + 1))) = lcmR 1 (rsOf (as.take i)) * r.2.2 / Nat.gcd (lcmR 1 (rsOf (as.take i))) r.2.2 := by
      rw [List.take_add_one, hr', Option.toList_some, rsOf_app]
      exact lcmR_snoc
    generalize lcmR 1 (rsOf (as.take i)) = u at b1 b2 es ⊢
    refine g_gtup (SqT.of g1) rfl ?_
    walk_at "go"
    refine g_I (wide_mul (a := 41) (b := 7) (nat_bits (Nat.lt_trans b2 (by decide))) (nat_bits (by omega)) (by decide) (by decide) (by decide)) ?_
    walk_at "go"
    refine ⟨_, _, rfl, _, _, rfl, rfl, by rw [Int.natAbs_natCast]; exact Nat.lt_of_le_of_lt o3 (by decide), by rw [Int.natAbs_natCast]; exact Nat.lt_trans b2 (Nat.pow_lt_pow_right (by decide) (by decide)), ?_⟩
    rw [Int.natAbs_natCast, Int.natAbs_natCast]
    have gp : 0 < Nat.gcd u r.2.2 := Nat.gcd_pos_of_pos_left _ b1
    have gl : Nat.gcd u r.2.2 ≤ 60 := Nat.le_trans (Nat.le_of_dvd o2 (Nat.gcd_dvd_right _ _)) o3
    walk_at "go"
    refine g_I (wide_div (b := 7) (by omega) (nat_bits (by omega)) (by decide) (by decide)) ?_
    walk_at "go"
    refine ⟨rfl, some (.ref lr), some (.int (r.2.2 : Int)), ?_⟩
    rw [es, Int.natCast_ediv, Int.natCast_mul]
    rfl
  · obtain ⟨rfl, v2, v3, rfl⟩ := h
    have et : as.take (refsOf as).length = as := List.take_of_length_le (by rw [List.length_map]; exact Nat.le_refl _)
    rw [et]
    obtain ⟨w0, w1⟩ := bnd as.length
    rw [List.take_of_length_le (Nat.le_refl _)] at w0 w1
    obtain ⟨_, wd⟩ := lcmR_up (l := rsOf as) (w := 1)
    obtain ⟨W, hW⟩ : ∃ W, lcmR 1 (rsOf as) = W := ⟨_, rfl⟩
    rw [hW] at w0 w1 wd ⊢
    walk_at "go"
    refine mkT fun z0 hz0 => ?_
    have kz := same_new (o := .tup [.int 0, .int 0, .int 0, .int 0]) hz0
    walk_at "go"
    refine mkT fun fd0 hfd0 => ?_
    have kf := same_new (o := .lst [.ref z0]) hfd0
    walk_at "go"
    have wz : (0 : Int) < (W : Int) := by omega
    refine ⟨p, rfl, ⟨_, SqL.of (kf _ _ (kz _ _ hpg.lst))⟩, forL (xs := refsOf as) (fun i σ2 H2 => ∃ (fd : Addr) (ks : List (Addr × E4)), ∃ v2 v3 v5 v6 v7 v8 v9 v10 v11 : Option V, σ2 = [some (.ref p), some (.int (W : Int)), v2, v3, some (.ref fd), v5, v6, v7, v8, v9, v10, v11] ∧ Same H' H2 ∧ H2 fd = some (.lst (ks.map fun x => V.ref x.1)) ∧
        (∀ x ∈ ks, TupE H2 x.1 x.2) ∧ Grp W ((rsOf (as.take i)).map (rowS W)) (ks.map (·.2)) ∧ (ks.map (·.2)).Nodup ∧ ks.length ≤ 5 ^ i)
      ⟨fd0, [(z0, ⟨0, 0, 0, 0⟩)], _, _, _, _, _, _, _, _, _, rfl, Same.trans kz kf, upd_same, fun x hx => ?_, by exact grp_zero wz, by simp, by exact Nat.le_refl 1⟩ (fun i σ2 H2 hi h => ?_) (fun i x σ2 H2 hx h => ?_) (fun σ2 H2 h => ?_)⟩
    · rw [List.mem_singleton.mp hx]
      exact kf _ _ upd_same
    · obtain ⟨fd, ks, _, _, _, _, _, _, _, _, _, _, k2, _⟩ := h
      exact SqL.of (k2 _ _ hpg.lst)
    · obtain ⟨fd, ks, v2, v3, v5, v6, v7, v8, v9, v10, v11, rfl, k2, hfd, hks, grp, nd, len⟩ := h
      obtain ⟨r, hr', rfl⟩ := refs_get hx
      have rm := List.mem_of_getElem? hr'
      obtain ⟨lr, g1, g2, g3⟩ := hpg.rt r rm
      obtain ⟨o1, o2, o3, o4⟩ := hpg.ok r rm
      have o5 := hpg.four r rm
      have dW : r.2.2 ∣ W := wd (r.2.1, r.2.2) (List.mem_map.mpr ⟨r, rm, rfl⟩)
      have es : (rsOf (as.take (i + 1))).map (rowS W) = (rsOf (as.take i)).map (rowS W) ++ [rowS W (r.2.1, r.2.2)] := by
        rw [List.take_add_one, hr', Option.toList_some, rsOf_app, List.map_append]
        rfl
      have i5 : i < 5 := Nat.lt_of_lt_of_le (List.getElem?_eq_some_iff.mp hr').1 hpg.len
      have p5 : 5 ^ i ≤ 625 := Nat.le_trans (Nat.pow_le_pow_right (by decide) (show i ≤ 4 by omega)) (by decide)
      have lg := grp_lay (r := (r.2.1, r.2.2)) w0 dW grp
      obtain ⟨F, hF⟩ : ∃ F, ks.map (·.2) = F := ⟨_, rfl⟩
      obtain ⟨stp, hstp⟩ : ∃ st, stepE W (r.2.1, r.2.2) = st := ⟨_, rfl⟩
      rw [hF] at lg
      rw [hstp] at lg
      refine g_gtup (SqT.of (k2 _ _ g1)) rfl ?_
      walk_at "go"
      have hsm := ok_sm o1
      refine ⟨lr, rfl, ⟨_, SqL.of (k2 _ _ g2)⟩, fun D hD => lc_goL ((stepE W (r.2.1, r.2.2)).row.map fun z => some (.int z)) (SqL.of (k2 _ _ g2)) rfl hD (by show (4 : Nat) ≤ 100000; decide) (fun i x o H3 hx hk k3 Rr hRr => ?_) (fun H3 k3 hD3 => ?_)⟩
      · obtain ⟨z, ez, rfl⟩ := row_get hx
        rw [List.getElem?_map] at hk
        obtain ⟨y, ey, rfl⟩ := Option.map_eq_some_iff.mp hk
        have zb := hsm.row z (List.mem_of_getElem? ez)
        rw [step_get (r := (r.2.1, r.2.2)) ez ey] at hRr
        walk_at "go"
        refine ⟨rfl, ?_⟩
        walk_at "go"
        refine iteT ?_
        walk_at "go"
        refine g_I (wide_div (b := 7) (by omega) (nat_bits (by omega)) (by decide) (by decide)) ?_
        walk_at "go"
        have dl : W / r.2.2 < 2 ^ 41 := Nat.lt_of_le_of_lt (Nat.div_le_self _ _) (Nat.lt_trans w1 (by decide))
        rw [← Int.natCast_ediv]
        refine g_I (wide_mul (a := 10) (b := 41) (by omega) (nat_bits dl) (by decide) (by decide) (by decide)) ?_
        walk_at "go"
        refine .inl ⟨_, rfl, ?_⟩
        walk_at "go"
        refine g_I wz ?_
        exact hRr H3 (Same.refl H3)
      rw [ks_row, hstp] at hD3
      walk_at "go"
      refine ⟨D, _, rfl, .inl ⟨SqL.of hD3, fun st hst => ?_⟩⟩
      have kst := same_new (o := .tup (stp.row.map V.int)) hst
      walk_at "go"
      refine mkT fun h0 hh0 => ?_
      have kh0 := same_new (o := .tup [.int 0, .int 0, .int 0, .int 0]) hh0
      walk_at "go"
      have k23 := Same.trans k3 (Same.trans kst kh0)
      refine ⟨fd, _, rfl, .inl (SqL.of (k23 _ _ hfd)), fun lay hlay => ?_⟩
      have klay := same_new (o := .lst (ks.map fun x => V.ref x.1)) hlay
      have k24 := Same.trans k23 klay
      have t0 : TupE (upd (upd (upd H3 st (.tup (stp.row.map V.int))) h0 (.tup [.int 0, .int 0, .int 0, .int 0])) lay (.lst (ks.map fun x => V.ref x.1))) st stp := klay _ _ (kh0 _ _ upd_same)
      have t1 : TupE (upd (upd (upd H3 st (.tup (stp.row.map V.int))) h0 (.tup [.int 0, .int 0, .int 0, .int 0])) lay (.lst (ks.map fun x => V.ref x.1))) h0 ⟨0, 0, 0, 0⟩ := klay _ _ upd_same
      have t2 : (upd (upd (upd H3 st (.tup (stp.row.map V.int))) h0 (.tup [.int 0, .int 0, .int 0, .int 0])) lay (.lst (ks.map fun x => V.ref x.1))) lay = some (.lst (ks.map fun x => V.ref x.1)) := upd_same
      have nl : lay ≠ fd := fun z => by
        have := k23 _ _ hfd
        rw [← z, hlay] at this
        cases this
      have hnL : H2 lay = none := Decidable.byContradiction fun z => by
        cases e : H2 lay with
        | none => exact z e
        | some o => have := hlay.symm.trans (k23 _ _ e); cases this
      generalize upd (upd (upd H3 st (.tup (stp.row.map V.int))) h0 (.tup [.int 0, .int 0, .int 0, .int 0])) lay (.lst (ks.map fun x => V.ref x.1)) = H5 at k24 t0 t1 t2 ⊢
      walk_at "go"
      have tk : ∀ {Ha Hb : Hp} {a : Addr} {e : E4}, Kp [lay] Ha Hb → TupE Ha a e → (∃ xs, Ha lay = some (.lst xs)) → TupE Hb a e := fun k h hl => k _ _ (fun z => by
        obtain ⟨xs, e⟩ := hl
        rw [List.mem_singleton.mp z] at h
        have := e.symm.trans h
        cases this) h
      refine ⟨_, rfl, by omega, by omega, ?_⟩
      rw [Int.toNat_natCast]
      refine forR (lo := 0) (n := r.2.2) (fun t σ4 H4 => ∃ (hp : Addr) (ks2 : List (Addr × E4)), ∃ v5 v9 v10 v11 : Option V, σ4 = [some (.ref p), some (.int (W : Int)), some (.ref lr), some (.int (r.2.2 : Int)), some (.ref fd), v5, some (.ref st), some (.ref hp), some (.ref lay), v9, v10, v11] ∧
          Kp [lay] H5 H4 ∧ TupE H4 hp (hereE W stp t) ∧ H4 lay = some (.lst (ks2.map fun x => V.ref x.1)) ∧ (∀ x ∈ ks2, TupE H4 x.1 x.2) ∧ ks2.map (·.2) = layE W F stp t)
        ⟨h0, ks, _, _, _, _, rfl, Kp.refl, t1, t2, fun x hx => (k24 _ _ (hks x hx)), by exact hF⟩ (fun t σ4 H4 ht h => ?_) (fun σ4 H4 h => ?_)
      · obtain ⟨hp, ks2, v5, v9, v10, v11, rfl, k5, thp, hlay4, hks2, e2⟩ := h
        walk_at "go"
        have tst : TupE H4 st stp := tk k5 t0 ⟨_, t2⟩
        refine ⟨hp, st, _, _, rfl, .inr ⟨SqT.of thp, SqT.of tst, fun D2 hD2 => lc_add (m := (W : Int)) thp tst hD2 (fun u v T' H6 k6 hT R hR => ?_) (fun H6 k6 hD6 => ?_)⟩⟩
        · have kT := same_new (o := .tup [.int u, .int v]) hT
          refine g_gtup (SqT.of upd_same) rfl ?_
          walk_at "go"
          refine ⟨rfl, ?_⟩
          walk_at "go"
          refine iteT ?_
          walk_at "go"
          refine .inl ⟨_, rfl, ?_⟩
          walk_at "go"
          refine g_I wz ?_
          exact hR _ kT
        walk_at "go"
        refine ⟨D2, _, rfl, .inl ⟨SqL.of hD6, fun hp2 hhp2 => ?_⟩⟩
        have khp := same_new (o := .tup ((addR W (hereE W stp t) stp).row.map V.int)) hhp2
        have thp2 : TupE (upd H6 hp2 (.tup ((addR W (hereE W stp t) stp).row.map V.int))) hp2 (hereE W stp (t + 1)) := upd_same
        have k7 := Same.trans k6 khp
        generalize upd H6 hp2 (.tup ((addR W (hereE W stp t) stp).row.map V.int)) = H7 at k7 thp2 ⊢
        walk_at "go"
        have hfd7 := fun {H8 : Hp} (k : Kp [lay] H7 H8) => k _ _ (fun z => nl (List.mem_singleton.mp z).symm) (k7 _ _ (k5 _ _ (fun z => nl (List.mem_singleton.mp z).symm) (k24 _ _ hfd)))
        refine ⟨fd, rfl, ⟨_, SqL.of (hfd7 Kp.refl)⟩, forL (xs := ks.map fun x => V.ref x.1) (fun m σ8 H8 => ∃ (ks3 : List (Addr × E4)), ∃ v5 v10 v11 : Option V, σ8 = [some (.ref p), some (.int (W : Int)), some (.ref lr), some (.int (r.2.2 : Int)), some (.ref fd), v5, some (.ref st), some (.ref hp2), some (.ref lay), some (.int (0 + (t : Int))), v10, v11] ∧
            Kp [lay] H7 H8 ∧ H8 lay = some (.lst (ks3.map fun x => V.ref x.1)) ∧ (∀ x ∈ ks3, TupE H8 x.1 x.2) ∧ ks3.map (·.2) = layE W F stp t ++ (F.take m).map fun g => addR W g (hereE W stp (t + 1)))
          ⟨ks2, _, _, _, rfl, Kp.refl, k7 _ _ hlay4, fun x hx => k7 _ _ (hks2 x hx), by rw [e2, List.take_zero, List.map_nil, List.append_nil]⟩ (fun m σ8 H8 hm h => by
            obtain ⟨_, _, _, _, _, k8, _⟩ := h
            exact SqL.of (hfd7 k8)) (fun m x σ8 H8 hx h => ?_) (fun σ8 H8 h => ?_)⟩
        · obtain ⟨ks3, v5', v10', v11', rfl, k8, hlay8, hks3, e3⟩ := h
          rw [List.getElem?_map] at hx
          obtain ⟨y, ey, rfl⟩ := Option.map_eq_some_iff.mp hx
          have ym := List.mem_of_getElem? ey
          have ty : TupE H8 y.1 y.2 := tk k8 (k7 _ _ (tk k5 (k24 _ _ (hks y ym)) ⟨_, t2⟩)) ⟨_, k7 _ _ hlay4⟩
          have th : TupE H8 hp2 (hereE W stp (t + 1)) := tk k8 thp2 ⟨_, k7 _ _ hlay4⟩
          have l3 : ks3.length ≤ 4000 := by
            have z := congrArg List.length e3
            rw [List.length_map, List.length_append, lay_len, List.length_map, List.length_take] at z
            have zf : F.length = ks.length := by rw [← hF, List.length_map]
            have z1 : (t + 1) * F.length ≤ 5 * 625 := Nat.mul_le_mul (by omega) (by omega)
            omega
          walk_at "go"
          refine ⟨.ref lay, rfl, .inl ⟨rfl, _, SqL.of hlay8⟩, ?_⟩
          walk_at "go"
          refine ⟨y.1, hp2, _, _, rfl, .inr ⟨SqT.of ty, SqT.of th, fun D3 hD3 => lc_add (m := (W : Int)) ty th hD3 (fun u v T' H9 k9 hT R hR => ?_) (fun H9 k9 hD9 => ?_)⟩⟩
          · have kT := same_new (o := .tup [.int u, .int v]) hT
            refine g_gtup (SqT.of upd_same) rfl ?_
            walk_at "go"
            refine ⟨rfl, ?_⟩
            walk_at "go"
            refine iteT ?_
            walk_at "go"
            refine .inl ⟨_, rfl, ?_⟩
            walk_at "go"
            refine g_I wz ?_
            exact hR _ kT
          walk_at "go"
          refine ⟨D3, _, rfl, .inl ⟨SqL.of hD9, fun nt hnt => ?_⟩⟩
          have knt := same_new (o := .tup ((addR W y.2 (hereE W stp (t + 1))).row.map V.int)) hnt
          have tnt : TupE (upd H9 nt (.tup ((addR W y.2 (hereE W stp (t + 1))).row.map V.int))) nt (addR W y.2 (hereE W stp (t + 1))) := upd_same
          have k10 := Same.trans k9 knt
          generalize upd H9 nt (.tup ((addR W y.2 (hereE W stp (t + 1))).row.map V.int)) = H10 at k10 tnt ⊢
          walk_at "go"
          have hl10 := k10 _ _ hlay8
          refine ⟨lay, _, _, rfl, rfl, hl10, by rw [List.length_map]; exact Nat.lt_of_le_of_lt l3 (by decide), ?_⟩
          have kap : Kp [lay] H10 (upd H10 lay (.lst ((ks3.map fun x => V.ref x.1) ++ [.ref nt]))) := Kp.refl.upd (List.mem_singleton.mpr rfl)
          walk_at "go"
          refine ⟨ks3 ++ [(nt, addR W y.2 (hereE W stp (t + 1)))], _, _, _, rfl, Kp.trans k8 (Kp.trans (Kp.of k10) kap), ?_, fun x hx => ?_, ?_⟩
          · rw [List.map_append]
            exact upd_same
          · rcases List.mem_append.mp hx with z | z
            · exact tk kap (k10 _ _ (hks3 x z)) ⟨_, hl10⟩
            · rw [List.mem_singleton.mp z]
              exact tk kap tnt ⟨_, hl10⟩
          · have eF : F[m]? = some y.2 := by
              rw [← hF, List.getElem?_map, ey]
              rfl
            rw [List.map_append, e3, List.take_add_one, eF, Option.toList_some, List.map_append, List.append_assoc]
            rfl
        · obtain ⟨ks3, v5', v10', v11', rfl, k8, hlay8, hks3, e3⟩ := h
          refine ⟨hp2, ks3, _, _, _, _, rfl, Kp.trans k5 (Kp.trans (Kp.of k7) k8), tk k8 thp2 ⟨_, k7 _ _ hlay4⟩, hlay8, hks3, ?_⟩
          rw [e3, layE, List.take_of_length_le (by rw [← hF, List.length_map, List.length_map]; exact Nat.le_refl _)]
      · obtain ⟨hp, ks2, v5, v9, v10, v11, rfl, k5, thp, hlay4, hks2, e2⟩ := h
        walk_at "go"
        refine g_ss ?_
        walk_at "go"
        have lF : F.length = ks.length := by rw [← hF, List.length_map]
        have lay5 : (layE W F stp r.2.2).length ≤ 5 * 5 ^ i := by
          rw [lay_len]
          exact Nat.mul_le_mul (by omega) (by omega)
        have l2 : ks2.length = (layE W F stp r.2.2).length := by rw [← e2, List.length_map]
        refine ⟨lay, ks2.map fun x => (x.1, x.2.row), rfl, SqL.of (by rw [List.map_map]; exact hlay4), fun x hx => ?_, fun x hx => ?_, by rw [List.length_map]; omega, fun L p2 sub all ndL hp2 => ?_⟩
        · obtain ⟨y, hy, rfl⟩ := List.mem_map.mp hx
          exact SqT.of (hks2 y hy)
        · obtain ⟨y, hy, rfl⟩ := List.mem_map.mp hx
          simp [E4.row]
        have kn := same_new (o := .lst (L.map fun q => V.ref q.1)) hp2
        have from2 : ∀ q ∈ L, ∃ y ∈ ks2, q = (y.1, y.2.row) := fun q hq => by
          obtain ⟨y, hy, e⟩ := List.mem_map.mp (sub q hq)
          exact ⟨y, hy, e.symm⟩
        have kall : Same H' (upd H4 p2 (.lst (L.map fun q => V.ref q.1))) := fun a o e => kn _ _ (k5 _ _ (fun z => by
          have := k2 _ _ e
          rw [List.mem_singleton.mp z, hnL] at this
          cases this) (k24 _ _ (k2 _ _ e)))
        have ev : (L.map fun q => (q.1, ofRow q.2)).map (·.2) = L.map fun q => ofRow q.2 := List.map_map ..
        have nd3 : (L.map fun q => ofRow q.2).Nodup := by
          refine List.pairwise_map.mpr (List.Pairwise.imp_of_mem (fun {q q'} hq hq' hne e => hne ?_) (List.pairwise_map.mp ndL))
          obtain ⟨y, _, rfl⟩ := from2 q hq
          obtain ⟨y', _, rfl⟩ := from2 q' hq'
          rw [ofRow_row, ofRow_row] at e
          exact congrArg E4.row e
        have mem3 : ∀ e, e ∈ (L.map fun q => ofRow q.2) ↔ e ∈ layE W F stp r.2.2 := fun e => by
          rw [← e2]
          constructor
          · intro h
            obtain ⟨q, hq, rfl⟩ := List.mem_map.mp h
            obtain ⟨y, hy, rfl⟩ := from2 q hq
            exact List.mem_map.mpr ⟨y, hy, rfl⟩
          · intro h
            obtain ⟨y, hy, rfl⟩ := List.mem_map.mp h
            obtain ⟨q, hq, eq⟩ := List.mem_map.mp (all (y.1, y.2.row) (List.mem_map.mpr ⟨y, hy, rfl⟩))
            exact List.mem_map.mpr ⟨q, hq, by rw [eq, ofRow_row]⟩
        refine ⟨p2, L.map fun q => (q.1, ofRow q.2), _, _, _, _, _, _, _, _, _, rfl, kall, ?_, fun x hx => ?_, ?_, ?_, ?_⟩
        · rw [List.map_map]
          exact upd_same
        · obtain ⟨q, hq, rfl⟩ := List.mem_map.mp hx
          obtain ⟨y, hy, rfl⟩ := from2 q hq
          exact kn _ _ (hks2 y hy)
        · rw [ev, es]
          exact fun e => (mem3 e).trans (lg e)
        · rw [ev]
          exact nd3
        · have := nodup_le nd3 fun e he => (mem3 e).mp he
          rw [List.length_map] at this ⊢
          rw [Nat.pow_succ]
          omega
    · obtain ⟨fd, ks, v2, v3, v5, v6, v7, v8, v9, v10, v11, rfl, k2, hfd, hks, grp, nd, len⟩ := h
      rw [et] at grp
      walk_at "go"
      refine mkT fun t ht => ?_
      have kt := same_new (o := .tup [.ref fd, .int (W : Int)]) ht
      refine q _ t fd _ _ (Same.trans k2 kt) upd_same (kt _ _ hfd) ⟨ks.map (·.2), ⟨nd, ?_⟩, by rw [List.length_map, List.length_map]⟩
      rw [hW]
      exact grp
theorem c_law_degree (T : Tx K mg) : CalX P w K mg base CX0 5 "_law_degree" sp_law_degree [] := by
  refine cal0_of (F_law_degree T) (g_law_degree T) bd_law_degree sc_law_degree len1 (fun cdv A outer s H vs Q E hr h => ?_)
  obtain ⟨_, rfl, j, p, pg, n, rfl, hj, hpg, q⟩ := h
  refine ⟨_, (pss_one (ps_ret (pe_callB call_len_seq (by rfl) (b_len T) (by decide +kernel) (pa_cons (pe_ix ix_tup (pe_cx (c_law_group T) hr pass0 (pa_cons (pv 0) pa_nil)) pe_int (fun _ _ => rfl)) pa_nil)))), ?_⟩
  walk_at "go"
  refine ⟨_, rfl, j, p, pg, n, rfl, hj, hpg, fun H1 t fd xs v k1 ht hfd tw => ?_⟩
  walk_at "go"
  refine g_ixT (SqT.of ht) at0 ?_
  walk_at "go"
  refine ⟨fd, _, rfl, .inl (SqL.of hfd), ?_⟩
  exact q H1 _ k1 tw
end
end PP
-- text HZ
namespace PP
open PySem PySem.Spec PyProof.Rows L2 LamX TL
section
variable {P : Program} {w : World} {K : PySem.W.Frag} {mg : Str → Option Value} {h : Heap}
theorem codeT_of {base : Heap} {mg : Str → Option Value} {x q : Str} {st : Stmt} {f : Addr} (F : FnP K x q st f) (t : TabB base mg (cAt K f) (tAt K f)) : CodeT K mg base f (tAt K f) := by
  obtain ⟨fd0, F⟩ := F
  obtain ⟨oc, od, dV, kV, doc, pm, an, cdv, ct, osl, rfl, lk, hcd, hd, hk⟩ := F.ex
  obtain ⟨c, rfl⟩ := He.codeIn_ref hcd
  intro fd oc2 od2 osl2 lk2
  rw [lk] at lk2
  cases lk2
  refine ⟨c, rfl, ?_⟩
  have e : cAt K f = c := by
    unfold cAt
    rw [lk]
  rw [← e]
  exact t
theorem tabs_empty {P1 P2 : Addr} {H : Hp} (h1 : H P1 = some (.tbl #[])) (h2 : H P2 = some (.tbl #[])) : Tabs (tabs P1 P2) H := fun p hp => by
  have e : H p.1 = some (.tbl #[]) := by
    rcases List.mem_cons.mp hp with rfl | hp
    · exact h1
    · rw [List.mem_singleton.mp hp]
      exact h2
  exact ⟨#[], e, trivial, fun pos cv hc => by cases hc⟩
theorem law_at {l : PySem.W.OpenLaw} {fa : Addr} (hl : l.prog = P) (X : K.In h) (G : h.Ns mainGlobals mg) (L : Left K h) (gf : mg "law" = some (.ref fa)) : LawAtS l w K CX0 18 63 "_law_cells" mg fa h := by
  have T := Tx.of X G L
  obtain ⟨fd, F⟩ := F_law T
  have e : fa = He.ga K "law" := by
    have e1 := gf.symm.trans (g_law T)
    cases e1
    rfl
  subst e
  have hcs : ∀ p ∈ [(cAt K (He.ma K (gaK K "Console") "plain"), tAt K (He.ma K (gaK K "Console") "plain")), (cAt K (He.ma K (gaK K "Console") "answer"), tAt K (He.ma K (gaK K "Console") "answer"))], ∃ f ∈ lamF K, p = (cAt K f, tAt K f) := fun p hp => by
    rcases List.mem_cons.mp hp with rfl | hp
    · exact ⟨_, List.mem_cons_self .., rfl⟩
    · rw [List.mem_singleton.mp hp]
      exact ⟨_, List.mem_cons_of_mem _ (List.mem_cons_self ..), rfl⟩
  refine ⟨fd, [(cAt K (He.ma K (gaK K "Console") "plain"), tAt K (He.ma K (gaK K "Console") "plain")), (cAt K (He.ma K (gaK K "Console") "answer"), tAt K (He.ma K (gaK K "Console") "answer"))],
    sp_law K (tAt K (He.ma K (gaK K "Console") "plain")) (tAt K (He.ma K (gaK K "Console") "answer")), fun p hp => ?_, fun p hp => ?_, fun p hp => ?_, fun s u => F.bindsA bd_law s [u] rfl, fun H a ns hn hb hT hS => ?_, fun base KB GB TB => ?_⟩
  · obtain ⟨f, hf, rfl⟩ := hcs p hp
    exact (L.tab hf).2.2
  · obtain ⟨f, hf, rfl⟩ := hcs p hp
    exact (L.tab hf).2.1
  · obtain ⟨f, hf, rfl⟩ := hcs p hp
    exact PySem.W.codeHd_of_K X (L.tab hf).1
  · exact ⟨_, rfl, a, ns, rfl, hS, by omega, tabs_empty (hT _ (List.mem_cons_self ..)) (hT _ (List.mem_cons_of_mem _ (List.mem_cons_self ..))), fun _ => rfl⟩
  · rw [hl]
    exact ok_law T ⟨codeT_of (F_Console_plain T) (TB _ (List.mem_cons_self ..)), codeT_of (F_Console_answer T) (TB _ (List.mem_cons_of_mem _ (List.mem_cons_self ..))), L.ne, L.ask X G⟩ L.dig (c_law_degree T) F
end
end PP
theorem PySem.Challenge.cw_purepowers_k79_whole_consoles_led_holds : PySem.Challenge.rw_purepowers_k79_whole_consoles_led.Holds := by
  exact PP.holds_pre fun w mg fa h Y G hmg => by
    obtain ⟨K, KX, c⟩ := Y
    exact ⟨K, KX, PP.law_at rfl KX G c hmg⟩
