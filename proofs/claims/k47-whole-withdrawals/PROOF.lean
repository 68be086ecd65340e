import PyProof.Rows.All
import Wide.All
import OpenK.AllK
import Wide.FinOn
import HandS.ForSpec
import HandS.Defaults
import HandS.GenCall
import HandS.HeadHook2
import PySem.Challenge.RW_standingorders_k47_whole_withdrawals
import KE.KStateDown
import Lean
import HandS.Head0
import HandS.Head1
import HandS.Head2
import HandS.HeadHook4
import HandS.HeadNt
import HandS.ClsMeth
import HandS.Property
import KE.KSuper
import HandS.ExcInit
import HandS.ExcField
import HandS.ExcIs
import HandS.IsInst
import HandS.Lambda
import HandS.AnyAll
import PyProof.ConsumeS
import KE.GoesMore
import HandS.Iter
import HandS.TupLe
import PyProof.GenRules
import PyProof.GenQ
import HandS.GenOver
import HandS.GenList
import HandS.GenYield
import HandS.ForMost
import PyProof.GenComp
import PyProof.SumAny
import HandS.JoinGen
import HandS.TryOnly
import HandS.MakeKwOnly
import PyProof.CollectIter
import HandS.Conv
import HandS.Star
import HandS.Nested
import HandS.Text
import HandS.SetFor
import HandS.HeadWalk
set_option Elab.async false
set_option linter.all false
set_option maxRecDepth 100000
section
set_option maxHeartbeats 2000000
/-! The text: each def by its place, its names. -/
namespace So
open PySem PySem.Spec PyProof.Rows L2
def top (i : Nat) : Stmt := PySem.Challenge.pw_standingorders_k47_whole_withdrawals.main.body.getD i (.Pass ⟨0, 0, 0, 0⟩)
abbrev s_InvalidCalendar___init__ : Stmt := inClass (top 3) 0
theorem sc_InvalidCalendar___init__ : FnScope ["self", "index"] ["self", "index"] (defScope s_InvalidCalendar___init__) := ⟨rfl, rfl, rfl, by decide +kernel, rfl, by decide +kernel, by decide +kernel⟩
abbrev s_InvalidOrder___init__ : Stmt := inClass (top 4) 0
theorem sc_InvalidOrder___init__ : FnScope ["self", "index"] ["self", "index"] (defScope s_InvalidOrder___init__) := ⟨rfl, rfl, rfl, by decide +kernel, rfl, by decide +kernel, by decide +kernel⟩
abbrev s_InvalidPlan___init__ : Stmt := inClass (top 5) 0
theorem sc_InvalidPlan___init__ : FnScope ["self", "phase", "index"] ["self", "phase", "index"] (defScope s_InvalidPlan___init__) := ⟨rfl, rfl, rfl, by decide +kernel, rfl, by decide +kernel, by decide +kernel⟩
abbrev s_InvalidName___init__ : Stmt := inClass (top 8) 0
theorem sc_InvalidName___init__ : FnScope ["self", "name"] ["self", "name"] (defScope s_InvalidName___init__) := ⟨rfl, rfl, rfl, by decide +kernel, rfl, by decide +kernel, by decide +kernel⟩
abbrev s_Overdrawn___init__ : Stmt := inClass (top 11) 0
theorem sc_Overdrawn___init__ : FnScope ["self", "name", "day"] ["self", "name", "day"] (defScope s_Overdrawn___init__) := ⟨rfl, rfl, rfl, by decide +kernel, rfl, by decide +kernel, by decide +kernel⟩
abbrev s_DuplicateName___init__ : Stmt := inClass (top 12) 0
theorem sc_DuplicateName___init__ : FnScope ["self", "name"] ["self", "name"] (defScope s_DuplicateName___init__) := ⟨rfl, rfl, rfl, by decide +kernel, rfl, by decide +kernel, by decide +kernel⟩
abbrev s_UnknownAccount___init__ : Stmt := inClass (top 13) 0
theorem sc_UnknownAccount___init__ : FnScope ["self", "name"] ["self", "name"] (defScope s_UnknownAccount___init__) := ⟨rfl, rfl, rfl, by decide +kernel, rfl, by decide +kernel, by decide +kernel⟩
abbrev s_InvalidOperation___init__ : Stmt := inClass (top 20) 0
theorem sc_InvalidOperation___init__ : FnScope ["self", "index"] ["self", "index"] (defScope s_InvalidOperation___init__) := ⟨rfl, rfl, rfl, by decide +kernel, rfl, by decide +kernel, by decide +kernel⟩
abbrev s_InvalidText___init__ : Stmt := inClass (top 21) 0
theorem sc_InvalidText___init__ : FnScope ["self", "row"] ["self", "row"] (defScope s_InvalidText___init__) := ⟨rfl, rfl, rfl, by decide +kernel, rfl, by decide +kernel, by decide +kernel⟩
abbrev s_is_integer : Stmt := top 25
theorem sc_is_integer : FnScope ["value"] ["value"] (defScope s_is_integer) := ⟨rfl, rfl, rfl, by decide +kernel, rfl, by decide +kernel, by decide +kernel⟩
abbrev s_validate_calendar : Stmt := top 26
theorem sc_validate_calendar : FnScope ["calendar", "before", "index", "period"] ["calendar"] (defScope s_validate_calendar) := ⟨rfl, rfl, rfl, by decide +kernel, rfl, by decide +kernel, by decide +kernel⟩
abbrev s_is_order : Stmt := top 27
theorem sc_is_order : FnScope ["calendar", "order", "period", "day", "amount"] ["calendar", "order"] (defScope s_is_order) := ⟨rfl, rfl, rfl, by decide +kernel, rfl, by decide +kernel, by decide +kernel⟩
abbrev s_first_invalid_order : Stmt := top 28
theorem sc_first_invalid_order : FnScope ["calendar", "orders", "index", "order"] ["calendar", "orders"] (defScope s_first_invalid_order) := ⟨rfl, rfl, rfl, by decide +kernel, rfl, by decide +kernel, by decide +kernel⟩
abbrev s_validate_orders : Stmt := top 29
theorem sc_validate_orders : FnScope ["calendar", "orders", "index"] ["calendar", "orders"] (defScope s_validate_orders) := ⟨rfl, rfl, rfl, by decide +kernel, rfl, by decide +kernel, by decide +kernel⟩
abbrev s_days_due : Stmt := top 30
theorem sc_days_due : FnScope ["period", "day", "first", "last"] ["period", "day", "first", "last"] (defScope s_days_due) := ⟨rfl, rfl, rfl, by decide +kernel, rfl, by decide +kernel, by decide +kernel⟩
abbrev s_flow_list : Stmt := top 31
theorem sc_flow_list : FnScope ["calendar", "orders", "amounts", "period", "day", "amount", "residue"] ["calendar", "orders"] (defScope s_flow_list) := ⟨rfl, rfl, rfl, by decide +kernel, rfl, by decide +kernel, by decide +kernel⟩
abbrev s_is_amount : Stmt := top 36
theorem sc_is_amount : FnScope ["amount", "low", "high"] ["amount", "low", "high"] (defScope s_is_amount) := ⟨rfl, rfl, rfl, by decide +kernel, rfl, by decide +kernel, by decide +kernel⟩
abbrev s_Account___init__ : Stmt := inClass (top 37) 1
theorem sc_Account___init__ : FnScope ["self", "name", "limit", "amount", "cycle"] ["self", "name", "limit", "amount", "cycle"] (defScope s_Account___init__) := ⟨rfl, rfl, rfl, by decide +kernel, rfl, by decide +kernel, by decide +kernel⟩
abbrev s_Account_is_name : Stmt := inClass (top 37) 2
theorem sc_Account_is_name : FnScope ["name", "letter"] ["name"] (defScope s_Account_is_name) := ⟨rfl, rfl, rfl, by decide +kernel, rfl, by decide +kernel, by decide +kernel⟩
abbrev s_Account_made : Stmt := inClass (top 37) 3
theorem sc_Account_made : FnScope ["cls", "kind", "name", "limit", "balance", "cycle", "account"] ["cls", "kind", "name", "limit", "balance", "cycle"] (defScope s_Account_made) := ⟨rfl, rfl, rfl, by decide +kernel, rfl, by decide +kernel, by decide +kernel⟩
abbrev s_Account_kind : Stmt := inClass (top 37) 5
theorem sc_Account_kind : FnScope ["self"] ["self"] (defScope s_Account_kind) := ⟨rfl, rfl, rfl, by decide +kernel, rfl, by decide +kernel, by decide +kernel⟩
abbrev s_Account_limit : Stmt := inClass (top 37) 6
theorem sc_Account_limit : FnScope ["self"] ["self"] (defScope s_Account_limit) := ⟨rfl, rfl, rfl, by decide +kernel, rfl, by decide +kernel, by decide +kernel⟩
abbrev s_Account_floor : Stmt := inClass (top 37) 7
theorem sc_Account_floor : FnScope ["self"] ["self"] (defScope s_Account_floor) := ⟨rfl, rfl, rfl, by decide +kernel, rfl, by decide +kernel, by decide +kernel⟩
abbrev s_Account_balance : Stmt := inClass (top 37) 8
theorem sc_Account_balance : FnScope ["self"] ["self"] (defScope s_Account_balance) := ⟨rfl, rfl, rfl, by decide +kernel, rfl, by decide +kernel, by decide +kernel⟩
abbrev s_Account_allows : Stmt := inClass (top 37) 9
theorem sc_Account_allows : FnScope ["self", "amount"] ["self", "amount"] (defScope s_Account_allows) := ⟨rfl, rfl, rfl, by decide +kernel, rfl, by decide +kernel, by decide +kernel⟩
abbrev s_Account_may_withdraw : Stmt := inClass (top 37) 10
theorem sc_Account_may_withdraw : FnScope ["self", "day"] ["self", "day"] (defScope s_Account_may_withdraw) := ⟨rfl, rfl, rfl, by decide +kernel, rfl, by decide +kernel, by decide +kernel⟩
abbrev s_LimitedAccount_limit : Stmt := inClass (top 38) 1
theorem sc_LimitedAccount_limit : FnScope ["self"] ["self"] (defScope s_LimitedAccount_limit) := ⟨rfl, rfl, rfl, by decide +kernel, rfl, by decide +kernel, by decide +kernel⟩
abbrev s_LimitedAccount_floor : Stmt := inClass (top 38) 2
theorem sc_LimitedAccount_floor : FnScope ["self"] ["self"] (defScope s_LimitedAccount_floor) := ⟨rfl, rfl, rfl, by decide +kernel, rfl, by decide +kernel, by decide +kernel⟩
abbrev s_LimitedAccount_allows : Stmt := inClass (top 38) 3
theorem sc_LimitedAccount_allows : FnScope ["self", "amount"] ["self", "amount"] (defScope s_LimitedAccount_allows) := ⟨rfl, rfl, rfl, by decide +kernel, rfl, by decide +kernel, by decide +kernel⟩
abbrev s_SavingsAccount_limit : Stmt := inClass (top 39) 1
theorem sc_SavingsAccount_limit : FnScope ["self"] ["self"] (defScope s_SavingsAccount_limit) := ⟨rfl, rfl, rfl, by decide +kernel, rfl, by decide +kernel, by decide +kernel⟩
abbrev s_SavingsAccount_may_withdraw : Stmt := inClass (top 39) 2
abbrev s_Books___init__ : Stmt := inClass (top 41) 0
theorem sc_Books___init__ : FnScope ["self", "day", "accounts", "dues", "following"] ["self", "day", "accounts", "dues", "following"] (defScope s_Books___init__) := ⟨rfl, rfl, rfl, by decide +kernel, rfl, by decide +kernel, by decide +kernel⟩
abbrev s_Books_copied : Stmt := inClass (top 41) 1
theorem sc_Books_copied : FnScope ["self"] ["self"] (defScope s_Books_copied) := ⟨rfl, rfl, rfl, by decide +kernel, rfl, by decide +kernel, by decide +kernel⟩
abbrev s_Books_payments : Stmt := inClass (top 41) 2
theorem sc_Books_payments : FnScope ["self", "name", "found", "number", "parties", "period", "day", "amount"] ["self", "name"] (defScope s_Books_payments) := ⟨rfl, rfl, rfl, by decide +kernel, rfl, by decide +kernel, by decide +kernel⟩
abbrev s_Books_add_balance : Stmt := inClass (top 41) 3
theorem sc_Books_add_balance : FnScope ["self", "name", "amount", "kind", "limit", "balance"] ["self", "name", "amount"] (defScope s_Books_add_balance) := ⟨rfl, rfl, rfl, by decide +kernel, rfl, by decide +kernel, by decide +kernel⟩
abbrev s_validate_phases : Stmt := top 49
theorem sc_validate_phases : FnScope ["calendar", "phases", "phase", "start", "orders", "index"] ["calendar", "phases"] (defScope s_validate_phases) := ⟨rfl, rfl, rfl, by decide +kernel, rfl, by decide +kernel, by decide +kernel⟩
abbrev s_validate_plan : Stmt := top 50
theorem sc_validate_plan : FnScope ["plan"] ["plan"] (defScope s_validate_plan) := ⟨rfl, rfl, rfl, by decide +kernel, rfl, by decide +kernel, by decide +kernel⟩
abbrev s_spans_of : Stmt := top 51
theorem sc_spans_of : FnScope ["phases", "spans", "phase", "start", "orders", "last"] ["phases"] (defScope s_spans_of) := ⟨rfl, rfl, rfl, by decide +kernel, rfl, by decide +kernel, by decide +kernel⟩
abbrev s_totals_until : Stmt := top 52
theorem sc_totals_until : FnScope ["plan", "day", "found", "phase", "first", "last", "orders", "end", "index", "period", "residue", "amount", "times"] ["plan", "day"] (defScope s_totals_until) := ⟨rfl, rfl, rfl, by decide +kernel, rfl, by decide +kernel, by decide +kernel⟩
abbrev s_balance_at : Stmt := top 53
theorem sc_balance_at : FnScope ["plan", "opening", "day"] ["plan", "opening", "day"] (defScope s_balance_at) := ⟨rfl, rfl, rfl, by decide +kernel, rfl, by decide +kernel, by decide +kernel⟩
abbrev s_Stretch___init__ : Stmt := inClass (top 54) 0
theorem sc_Stretch___init__ : FnScope ["self", "first", "last", "amounts", "drift"] ["self", "first", "last", "amounts", "drift"] (defScope s_Stretch___init__) := ⟨rfl, rfl, rfl, by decide +kernel, rfl, by decide +kernel, by decide +kernel⟩
abbrev s_Stretch_rounds : Stmt := inClass (top 54) 1
theorem sc_Stretch_rounds : FnScope ["self", "residue"] ["self", "residue"] (defScope s_Stretch_rounds) := ⟨rfl, rfl, rfl, by decide +kernel, rfl, by decide +kernel, by decide +kernel⟩
abbrev s_Stretch_day_of : Stmt := inClass (top 54) 2
theorem sc_Stretch_day_of : FnScope ["self", "residue", "turn"] ["self", "residue", "turn"] (defScope s_Stretch_day_of) := ⟨rfl, rfl, rfl, by decide +kernel, rfl, by decide +kernel, by decide +kernel⟩
abbrev s_stretches : Stmt := top 55
theorem sc_stretches : GScope ["plan", "opening", "first", "last", "before", "phase", "start", "end", "orders", "begin", "finish", "changes", "amounts", "day"] ["plan", "opening", "first", "last"] (defScope s_stretches) := ⟨rfl, rfl, rfl, by decide +kernel, rfl, by decide +kernel, by decide +kernel⟩
abbrev s_first_turn : Stmt := top 57
theorem sc_first_turn : FnScope ["amount", "drift", "level"] ["amount", "drift", "level"] (defScope s_first_turn) := ⟨rfl, rfl, rfl, by decide +kernel, rfl, by decide +kernel, by decide +kernel⟩
abbrev s_low_turns : Stmt := top 58
theorem sc_low_turns : FnScope ["amount", "drift", "level", "rounds", "start", "end"] ["amount", "drift", "level", "rounds"] (defScope s_low_turns) := ⟨rfl, rfl, rfl, by decide +kernel, rfl, by decide +kernel, by decide +kernel⟩
abbrev s_first_low : Stmt := top 59
theorem sc_first_low : FnScope ["stretch", "level", "days", "residue", "amount", "start", "end"] ["stretch", "level"] (defScope s_first_low) := ⟨rfl, rfl, rfl, by decide +kernel, rfl, by decide +kernel, by decide +kernel⟩
abbrev s_last_low : Stmt := top 60
theorem sc_last_low : FnScope ["stretch", "level", "days", "residue", "amount", "start", "end"] ["stretch", "level"] (defScope s_last_low) := ⟨rfl, rfl, rfl, by decide +kernel, rfl, by decide +kernel, by decide +kernel⟩
abbrev s_least_of : Stmt := top 61
theorem sc_least_of : FnScope ["stretch", "found", "residue", "amount", "rounds", "turn"] ["stretch"] (defScope s_least_of) := ⟨rfl, rfl, rfl, by decide +kernel, rfl, by decide +kernel, by decide +kernel⟩
abbrev s_first_below : Stmt := top 62
theorem sc_first_below : FnScope ["plan", "opening", "level", "day", "stretch", "found"] ["plan", "opening", "level", "day"] (defScope s_first_below) := ⟨rfl, rfl, rfl, by decide +kernel, rfl, by decide +kernel, by decide +kernel⟩
abbrev s_last_below : Stmt := top 63
theorem sc_last_below : FnScope ["plan", "opening", "level", "day", "latest", "stretch", "found"] ["plan", "opening", "level", "day"] (defScope s_last_below) := ⟨rfl, rfl, rfl, by decide +kernel, rfl, by decide +kernel, by decide +kernel⟩
abbrev s_least_balance : Stmt := top 64
theorem sc_least_balance : FnScope ["plan", "opening", "first", "last"] ["plan", "opening", "first", "last"] (defScope s_least_balance) := ⟨rfl, rfl, rfl, by decide +kernel, rfl, by decide +kernel, by decide +kernel⟩
abbrev s_safe_amount : Stmt := top 66
theorem sc_safe_amount : FnScope ["plan", "opening", "level", "day"] ["plan", "opening", "level", "day"] (defScope s_safe_amount) := ⟨rfl, rfl, rfl, by decide +kernel, rfl, by decide +kernel, by decide +kernel⟩
abbrev s_safe_from : Stmt := top 67
theorem sc_safe_from : FnScope ["plan", "opening", "level", "amount", "day", "latest"] ["plan", "opening", "level", "amount", "day"] (defScope s_safe_from) := ⟨rfl, rfl, rfl, by decide +kernel, rfl, by decide +kernel, by decide +kernel⟩
abbrev s_validate_amount : Stmt := top 72
theorem sc_validate_amount : FnScope ["amount", "low", "high"] ["amount", "low", "high"] (defScope s_validate_amount) := ⟨rfl, rfl, rfl, by decide +kernel, rfl, by decide +kernel, by decide +kernel⟩
abbrev s_Ledger___init__ : Stmt := inClass (top 73) 0
theorem sc_Ledger___init__ : FnScope ["self", "calendar", "day"] ["self", "calendar", "day"] (defScope s_Ledger___init__) := ⟨rfl, rfl, rfl, by decide +kernel, rfl, by decide +kernel, by decide +kernel⟩
abbrev s_Ledger_ledger_calendar : Stmt := inClass (top 73) 4
theorem sc_Ledger_ledger_calendar : FnScope ["self"] ["self"] (defScope s_Ledger_ledger_calendar) := ⟨rfl, rfl, rfl, by decide +kernel, rfl, by decide +kernel, by decide +kernel⟩
abbrev s_Ledger_today : Stmt := inClass (top 73) 5
theorem sc_Ledger_today : FnScope ["self"] ["self"] (defScope s_Ledger_today) := ⟨rfl, rfl, rfl, by decide +kernel, rfl, by decide +kernel, by decide +kernel⟩
abbrev s_Ledger_names : Stmt := inClass (top 73) 6
theorem sc_Ledger_names : FnScope ["self"] ["self"] (defScope s_Ledger_names) := ⟨rfl, rfl, rfl, by decide +kernel, rfl, by decide +kernel, by decide +kernel⟩
abbrev s_Ledger_orders : Stmt := inClass (top 73) 7
theorem sc_Ledger_orders : FnScope ["self", "number"] ["self"] (defScope s_Ledger_orders) := ⟨rfl, rfl, rfl, by decide +kernel, rfl, by decide +kernel, by decide +kernel⟩
abbrev s_Ledger_text : Stmt := inClass (top 73) 9
theorem sc_Ledger_text : FnScope ["self"] ["self"] (defScope s_Ledger_text) := ⟨rfl, rfl, rfl, by decide +kernel, rfl, by decide +kernel, by decide +kernel⟩
abbrev s_Ledger_account_in : Stmt := inClass (top 73) 10
theorem sc_Ledger_account_in : FnScope ["self", "books", "name", "kind", "limit", "balance"] ["self", "books", "name"] (defScope s_Ledger_account_in) := ⟨rfl, rfl, rfl, by decide +kernel, rfl, by decide +kernel, by decide +kernel⟩
abbrev s_Ledger_account : Stmt := inClass (top 73) 11
theorem sc_Ledger_account : FnScope ["self", "name"] ["self", "name"] (defScope s_Ledger_account) := ⟨rfl, rfl, rfl, by decide +kernel, rfl, by decide +kernel, by decide +kernel⟩
abbrev s_Ledger_plan_for : Stmt := inClass (top 73) 12
theorem sc_Ledger_plan_for : FnScope ["self", "books", "name", "orders", "number", "period", "day", "amount"] ["self", "books", "name"] (defScope s_Ledger_plan_for) := ⟨rfl, rfl, rfl, by decide +kernel, rfl, by decide +kernel, by decide +kernel⟩
abbrev s_Ledger_commit : Stmt := inClass (top 73) 13
theorem sc_Ledger_commit : FnScope ["self", "operation", "books"] ["self", "operation", "books"] (defScope s_Ledger_commit) := ⟨rfl, rfl, rfl, by decide +kernel, rfl, by decide +kernel, by decide +kernel⟩
abbrev s_Ledger_open_books : Stmt := inClass (top 73) 14
theorem sc_Ledger_open_books : FnScope ["self", "books", "name", "kind", "limit", "balance"] ["self", "books", "name", "kind", "limit", "balance"] (defScope s_Ledger_open_books) := ⟨rfl, rfl, rfl, by decide +kernel, rfl, by decide +kernel, by decide +kernel⟩
abbrev s_Ledger_open_account : Stmt := inClass (top 73) 15
theorem sc_Ledger_open_account : FnScope ["self", "name", "kind", "limit", "balance", "books"] ["self", "name", "kind", "limit", "balance"] (defScope s_Ledger_open_account) := ⟨rfl, rfl, rfl, by decide +kernel, rfl, by decide +kernel, by decide +kernel⟩
abbrev s_Ledger_add_item : Stmt := inClass (top 73) 19
theorem sc_Ledger_add_item : FnScope ["self", "books", "parts", "parties", "period", "day", "amount", "name", "number"] ["self", "books", "parts"] (defScope s_Ledger_add_item) := ⟨rfl, rfl, rfl, by decide +kernel, rfl, by decide +kernel, by decide +kernel⟩
abbrev s_Ledger_validate_item : Stmt := inClass (top 73) 21
theorem sc_Ledger_validate_item : FnScope ["self", "parties", "amount"] ["self", "parties", "amount"] (defScope s_Ledger_validate_item) := ⟨rfl, rfl, rfl, by decide +kernel, rfl, by decide +kernel, by decide +kernel⟩
abbrev s_Ledger_add_order : Stmt := inClass (top 73) 22
theorem sc_Ledger_add_order : FnScope ["self", "name", "period", "day", "amount", "books", "number"] ["self", "name", "period", "day", "amount"] (defScope s_Ledger_add_order) := ⟨rfl, rfl, rfl, by decide +kernel, rfl, by decide +kernel, by decide +kernel⟩
abbrev s_Ledger_first_overdraft : Stmt := inClass (top 73) 27
theorem sc_Ledger_first_overdraft : FnScope ["self", "found", "name", "account", "day"] ["self"] (defScope s_Ledger_first_overdraft) := ⟨rfl, rfl, rfl, by decide +kernel, rfl, by decide +kernel, by decide +kernel⟩
abbrev s_Ledger_pass_days : Stmt := inClass (top 73) 28
theorem sc_Ledger_pass_days : FnScope ["self", "count", "overdraft", "last", "books", "name", "number", "period", "day", "amount"] ["self", "count"] (defScope s_Ledger_pass_days) := ⟨rfl, rfl, rfl, by decide +kernel, rfl, by decide +kernel, by decide +kernel⟩
abbrev s_Ledger_total : Stmt := inClass (top 73) 34
theorem sc_Ledger_total : FnScope ["self", "names", "chosen", "name"] ["self", "names"] (defScope s_Ledger_total) := ⟨rfl, rfl, rfl, by decide +kernel, rfl, by decide +kernel, by decide +kernel⟩
abbrev s_Ledger_largest_withdrawal : Stmt := inClass (top 73) 36
theorem sc_Ledger_largest_withdrawal : FnScope ["self", "name", "account"] ["self", "name"] (defScope s_Ledger_largest_withdrawal) := ⟨rfl, rfl, rfl, by decide +kernel, rfl, by decide +kernel, by decide +kernel⟩
abbrev s_Ledger_earliest_withdrawal : Stmt := inClass (top 73) 37
theorem sc_Ledger_earliest_withdrawal : FnScope ["self", "name", "amount", "account", "day"] ["self", "name", "amount"] (defScope s_Ledger_earliest_withdrawal) := ⟨rfl, rfl, rfl, by decide +kernel, rfl, by decide +kernel, by decide +kernel⟩
abbrev s__law_mix : Stmt := top 75
theorem sc__law_mix : FnScope ["_law_script", "_law_seed", "_law_mixed", "_law_cell"] ["_law_script", "_law_seed"] (defScope s__law_mix) := ⟨rfl, rfl, rfl, by decide +kernel, rfl, by decide +kernel, by decide +kernel⟩
abbrev s__law_next : Stmt := top 76
theorem sc__law_next : FnScope ["_law_h", "_law_bound", "_law_cell"] ["_law_h", "_law_bound"] (defScope s__law_next) := ⟨rfl, rfl, rfl, by decide +kernel, rfl, by decide +kernel, by decide +kernel⟩
abbrev s__law_outcome : Stmt := top 78
theorem sc__law_outcome : FnScope ["_law_call", "e", "_law_kinds", "_law_words", "_law_word"] ["_law_call"] (defScope s__law_outcome) := ⟨rfl, rfl, rfl, by decide +kernel, rfl, by decide +kernel, by decide +kernel⟩
abbrev s__law_calendar : Stmt := top 79
theorem sc__law_calendar : FnScope ["_law_h", "_law_found", "_law_k"] ["_law_h"] (defScope s__law_calendar) := ⟨rfl, rfl, rfl, by decide +kernel, rfl, by decide +kernel, by decide +kernel⟩
abbrev s__law_twin : Stmt := top 80
theorem sc__law_twin : FnScope ["_law_ledger", "_law_name", "_law_days", "_law_amount", "_law_account", "_law_low", "_law_other", "_law_number", "_law_holder", "_law_period", "_law_residue", "_law_change", "_law_rest", "_law_final"] ["_law_ledger", "_law_name", "_law_days", "_law_amount"] (defScope s__law_twin) := ⟨rfl, rfl, rfl, by decide +kernel, rfl, by decide +kernel, by decide +kernel⟩
abbrev s__law_found_right : Stmt := top 81
theorem sc__law_found_right : FnScope ["_law_ledger", "_law_account", "_law_found", "_law_soon", "_law_amount", "_law_moment", "_law_wheel", "_law_before", "_law_k"] ["_law_ledger", "_law_account", "_law_found", "_law_soon", "_law_amount"] (defScope s__law_found_right) := ⟨rfl, rfl, rfl, by decide +kernel, rfl, by decide +kernel, by decide +kernel⟩
abbrev s_law : Stmt := top 82
theorem sc_law : FnScope ["_law_script", "_law_h", "_law_turn", "_law_calendar_here", "_law_moment", "_law_ledger", "_law_kind", "_law_k", "_law_period", "_law_amount", "_law_account", "_law_found", "_law_soon", "_law_works", "_law_call"] ["_law_script"] (defScope s_law) := ⟨rfl, rfl, rfl, by decide +kernel, rfl, by decide +kernel, by decide +kernel⟩
end So
end
section
set_option maxHeartbeats 0
/-! The top, run in the kernel: what it leaves. -/
namespace Hd
open PySem PySem.W PySem.Calls PyProof.Rows
abbrev R : OpenRow := OpenLaw.row PySem.Challenge.rw_standingorders_k47_whole_withdrawals
abbrev qv : Program := view R.prog [82]
def loose0 : List PySem.Str := ["_wall", "OrderError", "InvalidCalendar", "InvalidOrder", "InvalidPlan", "InvalidCount", "Endless", "InvalidName", "UnknownKind", "InvalidAmount", "Overdrawn", "DuplicateName"]
def loose1 : List PySem.Str := ["UnknownAccount", "TooManyAccounts", "NotEmpty", "WrongDay", "SameAccount", "UnknownOrder", "TooManyOrders", "InvalidOperation", "InvalidText", "MAX_PERIODS", "MAX_PERIOD", "is_integer"]
def loose2 : List PySem.Str := ["validate_calendar", "is_order", "first_invalid_order", "validate_orders", "days_due", "flow_list", "LETTERS", "MAX_LETTERS", "MAX_AMOUNT", "is_amount", "Account", "LimitedAccount"]
def loose3 : List PySem.Str := ["SavingsAccount", "Books", "format_account", "format_item", "format_lines", "MAX_PHASES", "MAX_ORDERS_plans", "validate_phases", "validate_plan", "spans_of", "totals_until", "balance_at"]
def loose4 : List PySem.Str := ["Stretch", "stretches", "first_turn", "low_turns", "first_low", "last_low", "least_of", "first_below", "last_below", "least_balance", "safe_amount", "safe_from"]
def loose5 : List PySem.Str := ["MAX_ACCOUNTS", "MAX_ORDERS_ledger", "MAX_DAYS", "validate_amount", "Ledger", "_law_mix", "_law_next", "_law_alike", "_law_outcome", "_law_calendar", "_law_twin", "_law_found_right"]
def loose : List PySem.Str := loose0 ++ loose1 ++ loose2 ++ loose3 ++ loose4 ++ loose5
theorem join3 {σ α β γ δ : Type} {f : Option σ} {F1 : σ → α} {F2 : σ → β} {G : σ → γ × δ} {a : α} {b : β} {c : γ} {d : δ} (h1 : f.map (fun s => (F1 s, F2 s)) = some (a, b)) (h2 : f.map (fun s => (G s).1) = some c) (h3 : f.map (fun s => (G s).2) = some d) :
    f.map (fun s => (F1 s, F2 s, G s)) = some (a, b, (c, d)) := by
  cases f with
  | none => cases h1
  | some s =>
    have e1 : (F1 s, F2 s) = (a, b) := Option.some.inj h1
    have e2 : (G s).1 = c := Option.some.inj h2
    have e3 : (G s).2 = d := Option.some.inj h3
    obtain ⟨e4, e5⟩ := Prod.mk.inj e1
    show some (F1 s, F2 s, G s) = _
    rw [e4, e5, ← e2, ← e3]
noncomputable abbrev endQ (w : World) (os : OsState) : Option PySem.W.SharedT := HandSHeadRun.endF (HandSHeadRun.stepQ (HandSHeadRun.denQ HandSHeadRun.tabQ) R.prog w) 20000 R.prog w os
theorem runA (w : World) (os : OsState) : (endQ w os).map (fun s => (HandSHeadRun.looksF R.prog (boot_heap w.params) s.abs, HandSHeadRun.seenQ qv loose (importedModules R.prog.main.body) (fun s => xlAt qv [] s && recOk R.toRowW.records s) s.abs)) = some (true, openGood qv loose) := by
  kernel_rfl
end Hd
end
section
set_option maxHeartbeats 2000000
/-! What the walk asks of the top: facts by names. -/
namespace So
open PySem PySem.Spec PyProof.Rows L2 He
def gloL : List Str := (["is_integer", "validate_calendar", "is_order", "first_invalid_order", "validate_orders", "days_due", "flow_list", "is_amount", "validate_phases", "validate_plan"] : List Str) ++ ((["spans_of", "totals_until", "balance_at", "stretches", "first_turn", "low_turns", "first_low", "last_low", "least_of", "first_below"] : List Str) ++ ((["last_below", "least_balance", "safe_amount", "safe_from", "validate_amount", "_law_mix", "_law_next", "_law_outcome", "_law_calendar", "_law_twin"] : List Str) ++ ((["_law_found_right", "law", "OrderError", "InvalidCalendar", "InvalidOrder", "InvalidPlan", "InvalidCount", "Endless", "InvalidName", "UnknownKind"] : List Str) ++ ((["InvalidAmount", "Overdrawn", "DuplicateName", "UnknownAccount", "TooManyAccounts", "NotEmpty", "WrongDay", "SameAccount", "UnknownOrder", "TooManyOrders"] : List Str) ++ ((["InvalidOperation", "InvalidText", "Account", "LimitedAccount", "SavingsAccount", "Books", "Stretch", "Ledger"] : List Str))))))
def freeL : List Str := (["isinstance", "int", "bool", "len", "enumerate", "max", "min", "range", "sum", "sorted"] : List Str) ++ ((["tuple", "list", "dict", "all", "str", "property", "super", "ValueError"] : List Str))
def intL : List (Str × Int) := [("MAX_PERIODS", 5), ("MAX_PERIOD", 400), ("MAX_LETTERS", 8), ("MAX_AMOUNT", 1000000000000000000), ("MAX_PHASES", 20), ("MAX_ORDERS_plans", 60), ("MAX_ACCOUNTS", 20), ("MAX_ORDERS_ledger", 60), ("MAX_DAYS", 1000000000000000000)]
def strL : List (Str × Str) := [("LETTERS", "abcdefghijklmnopqrstuvwxyz")]
def clsL : List Str := ["Account", "LimitedAccount", "SavingsAccount", "Books", "Stretch", "Ledger"]
def noatL : List (Str × Str) := [("Account", "title"), ("Account", "credit"), ("Account", "amount"), ("Account", "cycle"), ("LimitedAccount", "title"), ("LimitedAccount", "credit"), ("LimitedAccount", "amount"), ("LimitedAccount", "cycle"), ("SavingsAccount", "title"), ("SavingsAccount", "credit"), ("SavingsAccount", "amount"), ("SavingsAccount", "cycle"), ("Books", "day_number"), ("Books", "accounts"), ("Books", "dues"), ("Books", "following"), ("Stretch", "first"), ("Stretch", "last"), ("Stretch", "amounts"), ("Stretch", "drift"), ("Ledger", "periods"), ("Ledger", "books"), ("Ledger", "past"), ("Ledger", "future")]
def methL : List (Str × Str) := [("Account", "allows"), ("Account", "may_withdraw"), ("LimitedAccount", "allows"), ("SavingsAccount", "may_withdraw"), ("Books", "copied"), ("Books", "payments"), ("Books", "add_balance"), ("Stretch", "rounds"), ("Stretch", "day_of"), ("Ledger", "account_in"), ("Ledger", "account"), ("Ledger", "plan_for"), ("Ledger", "commit"), ("Ledger", "open_books"), ("Ledger", "open_account"), ("Ledger", "add_item"), ("Ledger", "validate_item"), ("Ledger", "add_order"), ("Ledger", "first_overdraft"), ("Ledger", "pass_days"), ("Ledger", "total"), ("Ledger", "largest_withdrawal"), ("Ledger", "earliest_withdrawal"), ("LimitedAccount", "may_withdraw"), ("SavingsAccount", "allows")]
def mkrL : List Str := ["Account", "LimitedAccount", "SavingsAccount", "Books", "Stretch", "Ledger"]
def excL : List Str := ["Endless", "InvalidAmount"]
def fa : List Fa := gloL.map .glo ++ (freeL.map .free ++ (intL.map (fun p => .int p.1 p.2) ++ (strL.map (fun p => .str p.1 p.2) ++ (clsL.map .cls ++ (noatL.map (fun p => .noat p.1 p.2) ++ (methL.map (fun p => .meth p.1 p.2) ++ (mkrL.map .mkr ++ excL.map .exc)))))))
def fnD (x : Str) (st : Stmt) : DefD := ⟨(x, none), x, x, defArgs st, defBody st, defScope st, [], []⟩
def meD (C m : Str) (q : Str) (st : Stmt) : DefD := ⟨(C, some m), m, q, defArgs st, defBody st, defScope st, [], []⟩
def fnL : List DefD := [fnD "is_integer" s_is_integer, fnD "validate_calendar" s_validate_calendar, fnD "is_order" s_is_order, fnD "first_invalid_order" s_first_invalid_order, fnD "validate_orders" s_validate_orders, fnD "days_due" s_days_due, fnD "flow_list" s_flow_list, fnD "is_amount" s_is_amount, fnD "validate_phases" s_validate_phases, fnD "validate_plan" s_validate_plan, fnD "spans_of" s_spans_of, fnD "totals_until" s_totals_until, fnD "balance_at" s_balance_at, fnD "stretches" s_stretches, fnD "first_turn" s_first_turn, fnD "low_turns" s_low_turns, fnD "first_low" s_first_low, fnD "last_low" s_last_low, fnD "least_of" s_least_of, fnD "first_below" s_first_below, fnD "last_below" s_last_below, fnD "least_balance" s_least_balance, fnD "safe_amount" s_safe_amount, fnD "safe_from" s_safe_from, fnD "validate_amount" s_validate_amount, fnD "_law_mix" s__law_mix, fnD "_law_next" s__law_next, fnD "_law_outcome" s__law_outcome, fnD "_law_calendar" s__law_calendar, fnD "_law_twin" s__law_twin, fnD "_law_found_right" s__law_found_right, fnD "law" s_law]
def meL : List DefD := [meD "Account" "__init__" "Account.__init__" s_Account___init__, meD "Account" "allows" "Account.allows" s_Account_allows, meD "Account" "may_withdraw" "Account.may_withdraw" s_Account_may_withdraw, meD "LimitedAccount" "allows" "LimitedAccount.allows" s_LimitedAccount_allows, meD "Books" "__init__" "Books.__init__" s_Books___init__, meD "Books" "copied" "Books.copied" s_Books_copied, meD "Books" "payments" "Books.payments" s_Books_payments, meD "Books" "add_balance" "Books.add_balance" s_Books_add_balance, meD "Stretch" "__init__" "Stretch.__init__" s_Stretch___init__, meD "Stretch" "rounds" "Stretch.rounds" s_Stretch_rounds, meD "Stretch" "day_of" "Stretch.day_of" s_Stretch_day_of, meD "Ledger" "account_in" "Ledger.account_in" s_Ledger_account_in, meD "Ledger" "account" "Ledger.account" s_Ledger_account, meD "Ledger" "plan_for" "Ledger.plan_for" s_Ledger_plan_for, meD "Ledger" "commit" "Ledger.commit" s_Ledger_commit, meD "Ledger" "open_books" "Ledger.open_books" s_Ledger_open_books, meD "Ledger" "open_account" "Ledger.open_account" s_Ledger_open_account, meD "Ledger" "add_item" "Ledger.add_item" s_Ledger_add_item, meD "Ledger" "validate_item" "Ledger.validate_item" s_Ledger_validate_item, meD "Ledger" "add_order" "Ledger.add_order" s_Ledger_add_order, meD "Ledger" "first_overdraft" "Ledger.first_overdraft" s_Ledger_first_overdraft, meD "Ledger" "pass_days" "Ledger.pass_days" s_Ledger_pass_days, meD "Ledger" "total" "Ledger.total" s_Ledger_total, meD "Ledger" "largest_withdrawal" "Ledger.largest_withdrawal" s_Ledger_largest_withdrawal, meD "Ledger" "earliest_withdrawal" "Ledger.earliest_withdrawal" s_Ledger_earliest_withdrawal]
/-- what is known of the top -/
structure Kn (K : PySem.W.Frag) (mg : Str → Option Value) : Prop where
  facts : ∀ f ∈ fa, f.ok K = true
  defs : ∀ d ∈ fnL, ∃ fd, FunD K d.name d.qual d.params d.body d.scope (d.dvs K) (d.kws K) (fAd K d.at_) fd
  mets : ∀ d ∈ meL, ∃ fd, FunD K d.name d.qual d.params d.body d.scope (d.dvs K) (d.kws K) (fAd K d.at_) fd
  heap : ∃ h : Heap, K.In h ∧ h.Ns mainGlobals mg
section
variable {K : PySem.W.Frag} {mg : Str → Option Value}
theorem Kn.glo (kn : Kn K mg) (x : Str) (hx : x ∈ gloL := by decide +kernel) : mg x = some (.ref (ga K x)) := by
  obtain ⟨h, X, G⟩ := kn.heap
  exact glo_ok X G (kn.facts _ (by unfold fa; exact List.mem_append_left _ (List.mem_map.mpr ⟨x, hx, rfl⟩)))
theorem Kn.free (kn : Kn K mg) (x : Str) (hx : x ∈ freeL := by decide +kernel) : mg x = none := by
  obtain ⟨h, X, G⟩ := kn.heap
  exact free_ok X G (kn.facts _ (by unfold fa; exact List.mem_append_right _ (List.mem_append_left _ (List.mem_map.mpr ⟨x, hx, rfl⟩))))
theorem Kn.int (kn : Kn K mg) (x : Str) (i : Int) (hx : (x, i) ∈ intL := by decide +kernel) : ∃ t, mg x = some (.int i t) := by
  obtain ⟨h, X, G⟩ := kn.heap
  exact int_ok X G (kn.facts (.int x i) (by unfold fa; exact List.mem_append_right _ (List.mem_append_right _ (List.mem_append_left _ (List.mem_map.mpr ⟨(x, i), hx, rfl⟩)))))
theorem Kn.str (kn : Kn K mg) (x i : Str) (hx : (x, i) ∈ strL := by decide +kernel) : ∃ t, mg x = some (.str i t) := by
  obtain ⟨h, X, G⟩ := kn.heap
  exact str_ok X G (kn.facts (.str x i) (by unfold fa; exact List.mem_append_right _ (List.mem_append_right _ (List.mem_append_right _ (List.mem_append_left _ (List.mem_map.mpr ⟨(x, i), hx, rfl⟩))))))
theorem Kn.cls (kn : Kn K mg) (x : Str) (hx : x ∈ clsL := by decide +kernel) : Cls K (ga K x) := cls_ok (kn.facts (.cls x) (by unfold fa; exact List.mem_append_right _ (List.mem_append_right _ (List.mem_append_right _ (List.mem_append_right _ (List.mem_append_left _ (List.mem_map.mpr ⟨x, hx, rfl⟩)))))))
theorem Kn.noat (kn : Kn K mg) (x f : Str) (hx : (x, f) ∈ noatL := by decide +kernel) : NoAttr K (ga K x) f := noat_ok (kn.facts (.noat x f) (by unfold fa; exact List.mem_append_right _ (List.mem_append_right _ (List.mem_append_right _ (List.mem_append_right _ (List.mem_append_right _ (List.mem_append_left _ (List.mem_map.mpr ⟨(x, f), hx, rfl⟩))))))))
theorem Kn.meth (kn : Kn K mg) (x f : Str) (hx : (x, f) ∈ methL := by decide +kernel) : Meth K (ga K x) f (ma K (ga K x) f) := meth_ok (kn.facts (.meth x f) (by unfold fa; exact List.mem_append_right _ (List.mem_append_right _ (List.mem_append_right _ (List.mem_append_right _ (List.mem_append_right _ (List.mem_append_right _ (List.mem_append_left _ (List.mem_map.mpr ⟨(x, f), hx, rfl⟩)))))))))
theorem Kn.mkr (kn : Kn K mg) (x : Str) (hx : x ∈ mkrL := by decide +kernel) : Mk K (ga K x) (ma K (ga K x) "__init__") := mkr_ok (kn.facts (.mkr x) (by unfold fa; exact List.mem_append_right _ (List.mem_append_right _ (List.mem_append_right _ (List.mem_append_right _ (List.mem_append_right _ (List.mem_append_right _ (List.mem_append_right _ (List.mem_append_left _ (List.mem_map.mpr ⟨x, hx, rfl⟩))))))))))
theorem Kn.exc (kn : Kn K mg) (x : Str) (hx : x ∈ excL := by decide +kernel) : PySem.W.excIn K (ga K x) veBase "ValueError.__new__" = true ∧ PySem.W.keepIn K (.ref (ga K x)) = true ∧ PySem.W.subIn K (.ref (ga K x)) (.type "BaseException") = some true ∧ PySem.W.typeIn K (.ref (ga K x)) = some (.type "type") := exc_ok (kn.facts (.exc x) (by unfold fa; exact List.mem_append_right _ (List.mem_append_right _ (List.mem_append_right _ (List.mem_append_right _ (List.mem_append_right _ (List.mem_append_right _ (List.mem_append_right _ (List.mem_append_right _ (List.mem_map.mpr ⟨x, hx, rfl⟩))))))))))
theorem Kn.f_is_integer (kn : Kn K mg) : ∃ fd, FunD K "is_integer" "is_integer" (defArgs s_is_integer) (defBody s_is_integer) (defScope s_is_integer) [] [] (ga K "is_integer") fd := kn.defs (fnD "is_integer" s_is_integer) (List.mem_of_getElem? (i := 0) rfl)
theorem Kn.f_validate_calendar (kn : Kn K mg) : ∃ fd, FunD K "validate_calendar" "validate_calendar" (defArgs s_validate_calendar) (defBody s_validate_calendar) (defScope s_validate_calendar) [] [] (ga K "validate_calendar") fd := kn.defs (fnD "validate_calendar" s_validate_calendar) (List.mem_of_getElem? (i := 1) rfl)
theorem Kn.f_is_order (kn : Kn K mg) : ∃ fd, FunD K "is_order" "is_order" (defArgs s_is_order) (defBody s_is_order) (defScope s_is_order) [] [] (ga K "is_order") fd := kn.defs (fnD "is_order" s_is_order) (List.mem_of_getElem? (i := 2) rfl)
theorem Kn.f_first_invalid_order (kn : Kn K mg) : ∃ fd, FunD K "first_invalid_order" "first_invalid_order" (defArgs s_first_invalid_order) (defBody s_first_invalid_order) (defScope s_first_invalid_order) [] [] (ga K "first_invalid_order") fd := kn.defs (fnD "first_invalid_order" s_first_invalid_order) (List.mem_of_getElem? (i := 3) rfl)
theorem Kn.f_validate_orders (kn : Kn K mg) : ∃ fd, FunD K "validate_orders" "validate_orders" (defArgs s_validate_orders) (defBody s_validate_orders) (defScope s_validate_orders) [] [] (ga K "validate_orders") fd := kn.defs (fnD "validate_orders" s_validate_orders) (List.mem_of_getElem? (i := 4) rfl)
theorem Kn.f_days_due (kn : Kn K mg) : ∃ fd, FunD K "days_due" "days_due" (defArgs s_days_due) (defBody s_days_due) (defScope s_days_due) [] [] (ga K "days_due") fd := kn.defs (fnD "days_due" s_days_due) (List.mem_of_getElem? (i := 5) rfl)
theorem Kn.f_flow_list (kn : Kn K mg) : ∃ fd, FunD K "flow_list" "flow_list" (defArgs s_flow_list) (defBody s_flow_list) (defScope s_flow_list) [] [] (ga K "flow_list") fd := kn.defs (fnD "flow_list" s_flow_list) (List.mem_of_getElem? (i := 6) rfl)
theorem Kn.f_is_amount (kn : Kn K mg) : ∃ fd, FunD K "is_amount" "is_amount" (defArgs s_is_amount) (defBody s_is_amount) (defScope s_is_amount) [] [] (ga K "is_amount") fd := kn.defs (fnD "is_amount" s_is_amount) (List.mem_of_getElem? (i := 7) rfl)
theorem Kn.f_validate_phases (kn : Kn K mg) : ∃ fd, FunD K "validate_phases" "validate_phases" (defArgs s_validate_phases) (defBody s_validate_phases) (defScope s_validate_phases) [] [] (ga K "validate_phases") fd := kn.defs (fnD "validate_phases" s_validate_phases) (List.mem_of_getElem? (i := 8) rfl)
theorem Kn.f_validate_plan (kn : Kn K mg) : ∃ fd, FunD K "validate_plan" "validate_plan" (defArgs s_validate_plan) (defBody s_validate_plan) (defScope s_validate_plan) [] [] (ga K "validate_plan") fd := kn.defs (fnD "validate_plan" s_validate_plan) (List.mem_of_getElem? (i := 9) rfl)
theorem Kn.f_spans_of (kn : Kn K mg) : ∃ fd, FunD K "spans_of" "spans_of" (defArgs s_spans_of) (defBody s_spans_of) (defScope s_spans_of) [] [] (ga K "spans_of") fd := kn.defs (fnD "spans_of" s_spans_of) (List.mem_of_getElem? (i := 10) rfl)
theorem Kn.f_totals_until (kn : Kn K mg) : ∃ fd, FunD K "totals_until" "totals_until" (defArgs s_totals_until) (defBody s_totals_until) (defScope s_totals_until) [] [] (ga K "totals_until") fd := kn.defs (fnD "totals_until" s_totals_until) (List.mem_of_getElem? (i := 11) rfl)
theorem Kn.f_balance_at (kn : Kn K mg) : ∃ fd, FunD K "balance_at" "balance_at" (defArgs s_balance_at) (defBody s_balance_at) (defScope s_balance_at) [] [] (ga K "balance_at") fd := kn.defs (fnD "balance_at" s_balance_at) (List.mem_of_getElem? (i := 12) rfl)
theorem Kn.f_stretches (kn : Kn K mg) : ∃ fd, FunD K "stretches" "stretches" (defArgs s_stretches) (defBody s_stretches) (defScope s_stretches) [] [] (ga K "stretches") fd := kn.defs (fnD "stretches" s_stretches) (List.mem_of_getElem? (i := 13) rfl)
theorem Kn.f_first_turn (kn : Kn K mg) : ∃ fd, FunD K "first_turn" "first_turn" (defArgs s_first_turn) (defBody s_first_turn) (defScope s_first_turn) [] [] (ga K "first_turn") fd := kn.defs (fnD "first_turn" s_first_turn) (List.mem_of_getElem? (i := 14) rfl)
theorem Kn.f_low_turns (kn : Kn K mg) : ∃ fd, FunD K "low_turns" "low_turns" (defArgs s_low_turns) (defBody s_low_turns) (defScope s_low_turns) [] [] (ga K "low_turns") fd := kn.defs (fnD "low_turns" s_low_turns) (List.mem_of_getElem? (i := 15) rfl)
theorem Kn.f_first_low (kn : Kn K mg) : ∃ fd, FunD K "first_low" "first_low" (defArgs s_first_low) (defBody s_first_low) (defScope s_first_low) [] [] (ga K "first_low") fd := kn.defs (fnD "first_low" s_first_low) (List.mem_of_getElem? (i := 16) rfl)
theorem Kn.f_last_low (kn : Kn K mg) : ∃ fd, FunD K "last_low" "last_low" (defArgs s_last_low) (defBody s_last_low) (defScope s_last_low) [] [] (ga K "last_low") fd := kn.defs (fnD "last_low" s_last_low) (List.mem_of_getElem? (i := 17) rfl)
theorem Kn.f_least_of (kn : Kn K mg) : ∃ fd, FunD K "least_of" "least_of" (defArgs s_least_of) (defBody s_least_of) (defScope s_least_of) [] [] (ga K "least_of") fd := kn.defs (fnD "least_of" s_least_of) (List.mem_of_getElem? (i := 18) rfl)
theorem Kn.f_first_below (kn : Kn K mg) : ∃ fd, FunD K "first_below" "first_below" (defArgs s_first_below) (defBody s_first_below) (defScope s_first_below) [] [] (ga K "first_below") fd := kn.defs (fnD "first_below" s_first_below) (List.mem_of_getElem? (i := 19) rfl)
theorem Kn.f_last_below (kn : Kn K mg) : ∃ fd, FunD K "last_below" "last_below" (defArgs s_last_below) (defBody s_last_below) (defScope s_last_below) [] [] (ga K "last_below") fd := kn.defs (fnD "last_below" s_last_below) (List.mem_of_getElem? (i := 20) rfl)
theorem Kn.f_least_balance (kn : Kn K mg) : ∃ fd, FunD K "least_balance" "least_balance" (defArgs s_least_balance) (defBody s_least_balance) (defScope s_least_balance) [] [] (ga K "least_balance") fd := kn.defs (fnD "least_balance" s_least_balance) (List.mem_of_getElem? (i := 21) rfl)
theorem Kn.f_safe_amount (kn : Kn K mg) : ∃ fd, FunD K "safe_amount" "safe_amount" (defArgs s_safe_amount) (defBody s_safe_amount) (defScope s_safe_amount) [] [] (ga K "safe_amount") fd := kn.defs (fnD "safe_amount" s_safe_amount) (List.mem_of_getElem? (i := 22) rfl)
theorem Kn.f_safe_from (kn : Kn K mg) : ∃ fd, FunD K "safe_from" "safe_from" (defArgs s_safe_from) (defBody s_safe_from) (defScope s_safe_from) [] [] (ga K "safe_from") fd := kn.defs (fnD "safe_from" s_safe_from) (List.mem_of_getElem? (i := 23) rfl)
theorem Kn.f_validate_amount (kn : Kn K mg) : ∃ fd, FunD K "validate_amount" "validate_amount" (defArgs s_validate_amount) (defBody s_validate_amount) (defScope s_validate_amount) [] [] (ga K "validate_amount") fd := kn.defs (fnD "validate_amount" s_validate_amount) (List.mem_of_getElem? (i := 24) rfl)
theorem Kn.f__law_mix (kn : Kn K mg) : ∃ fd, FunD K "_law_mix" "_law_mix" (defArgs s__law_mix) (defBody s__law_mix) (defScope s__law_mix) [] [] (ga K "_law_mix") fd := kn.defs (fnD "_law_mix" s__law_mix) (List.mem_of_getElem? (i := 25) rfl)
theorem Kn.f__law_next (kn : Kn K mg) : ∃ fd, FunD K "_law_next" "_law_next" (defArgs s__law_next) (defBody s__law_next) (defScope s__law_next) [] [] (ga K "_law_next") fd := kn.defs (fnD "_law_next" s__law_next) (List.mem_of_getElem? (i := 26) rfl)
theorem Kn.f__law_outcome (kn : Kn K mg) : ∃ fd, FunD K "_law_outcome" "_law_outcome" (defArgs s__law_outcome) (defBody s__law_outcome) (defScope s__law_outcome) [] [] (ga K "_law_outcome") fd := kn.defs (fnD "_law_outcome" s__law_outcome) (List.mem_of_getElem? (i := 27) rfl)
theorem Kn.f__law_calendar (kn : Kn K mg) : ∃ fd, FunD K "_law_calendar" "_law_calendar" (defArgs s__law_calendar) (defBody s__law_calendar) (defScope s__law_calendar) [] [] (ga K "_law_calendar") fd := kn.defs (fnD "_law_calendar" s__law_calendar) (List.mem_of_getElem? (i := 28) rfl)
theorem Kn.f__law_twin (kn : Kn K mg) : ∃ fd, FunD K "_law_twin" "_law_twin" (defArgs s__law_twin) (defBody s__law_twin) (defScope s__law_twin) [] [] (ga K "_law_twin") fd := kn.defs (fnD "_law_twin" s__law_twin) (List.mem_of_getElem? (i := 29) rfl)
theorem Kn.f__law_found_right (kn : Kn K mg) : ∃ fd, FunD K "_law_found_right" "_law_found_right" (defArgs s__law_found_right) (defBody s__law_found_right) (defScope s__law_found_right) [] [] (ga K "_law_found_right") fd := kn.defs (fnD "_law_found_right" s__law_found_right) (List.mem_of_getElem? (i := 30) rfl)
theorem Kn.f_law (kn : Kn K mg) : ∃ fd, FunD K "law" "law" (defArgs s_law) (defBody s_law) (defScope s_law) [] [] (ga K "law") fd := kn.defs (fnD "law" s_law) (List.mem_of_getElem? (i := 31) rfl)
theorem Kn.m_Account___init__ (kn : Kn K mg) : ∃ fd, FunD K "__init__" "Account.__init__" (defArgs s_Account___init__) (defBody s_Account___init__) (defScope s_Account___init__) [] [] (ma K (ga K "Account") "__init__") fd := kn.mets (meD "Account" "__init__" "Account.__init__" s_Account___init__) (List.mem_of_getElem? (i := 0) rfl)
theorem Kn.m_Account_allows (kn : Kn K mg) : ∃ fd, FunD K "allows" "Account.allows" (defArgs s_Account_allows) (defBody s_Account_allows) (defScope s_Account_allows) [] [] (ma K (ga K "Account") "allows") fd := kn.mets (meD "Account" "allows" "Account.allows" s_Account_allows) (List.mem_of_getElem? (i := 1) rfl)
theorem Kn.m_Account_may_withdraw (kn : Kn K mg) : ∃ fd, FunD K "may_withdraw" "Account.may_withdraw" (defArgs s_Account_may_withdraw) (defBody s_Account_may_withdraw) (defScope s_Account_may_withdraw) [] [] (ma K (ga K "Account") "may_withdraw") fd := kn.mets (meD "Account" "may_withdraw" "Account.may_withdraw" s_Account_may_withdraw) (List.mem_of_getElem? (i := 2) rfl)
theorem Kn.m_LimitedAccount_allows (kn : Kn K mg) : ∃ fd, FunD K "allows" "LimitedAccount.allows" (defArgs s_LimitedAccount_allows) (defBody s_LimitedAccount_allows) (defScope s_LimitedAccount_allows) [] [] (ma K (ga K "LimitedAccount") "allows") fd := kn.mets (meD "LimitedAccount" "allows" "LimitedAccount.allows" s_LimitedAccount_allows) (List.mem_of_getElem? (i := 3) rfl)
theorem Kn.m_Books___init__ (kn : Kn K mg) : ∃ fd, FunD K "__init__" "Books.__init__" (defArgs s_Books___init__) (defBody s_Books___init__) (defScope s_Books___init__) [] [] (ma K (ga K "Books") "__init__") fd := kn.mets (meD "Books" "__init__" "Books.__init__" s_Books___init__) (List.mem_of_getElem? (i := 4) rfl)
theorem Kn.m_Books_copied (kn : Kn K mg) : ∃ fd, FunD K "copied" "Books.copied" (defArgs s_Books_copied) (defBody s_Books_copied) (defScope s_Books_copied) [] [] (ma K (ga K "Books") "copied") fd := kn.mets (meD "Books" "copied" "Books.copied" s_Books_copied) (List.mem_of_getElem? (i := 5) rfl)
theorem Kn.m_Books_payments (kn : Kn K mg) : ∃ fd, FunD K "payments" "Books.payments" (defArgs s_Books_payments) (defBody s_Books_payments) (defScope s_Books_payments) [] [] (ma K (ga K "Books") "payments") fd := kn.mets (meD "Books" "payments" "Books.payments" s_Books_payments) (List.mem_of_getElem? (i := 6) rfl)
theorem Kn.m_Books_add_balance (kn : Kn K mg) : ∃ fd, FunD K "add_balance" "Books.add_balance" (defArgs s_Books_add_balance) (defBody s_Books_add_balance) (defScope s_Books_add_balance) [] [] (ma K (ga K "Books") "add_balance") fd := kn.mets (meD "Books" "add_balance" "Books.add_balance" s_Books_add_balance) (List.mem_of_getElem? (i := 7) rfl)
theorem Kn.m_Stretch___init__ (kn : Kn K mg) : ∃ fd, FunD K "__init__" "Stretch.__init__" (defArgs s_Stretch___init__) (defBody s_Stretch___init__) (defScope s_Stretch___init__) [] [] (ma K (ga K "Stretch") "__init__") fd := kn.mets (meD "Stretch" "__init__" "Stretch.__init__" s_Stretch___init__) (List.mem_of_getElem? (i := 8) rfl)
theorem Kn.m_Stretch_rounds (kn : Kn K mg) : ∃ fd, FunD K "rounds" "Stretch.rounds" (defArgs s_Stretch_rounds) (defBody s_Stretch_rounds) (defScope s_Stretch_rounds) [] [] (ma K (ga K "Stretch") "rounds") fd := kn.mets (meD "Stretch" "rounds" "Stretch.rounds" s_Stretch_rounds) (List.mem_of_getElem? (i := 9) rfl)
theorem Kn.m_Stretch_day_of (kn : Kn K mg) : ∃ fd, FunD K "day_of" "Stretch.day_of" (defArgs s_Stretch_day_of) (defBody s_Stretch_day_of) (defScope s_Stretch_day_of) [] [] (ma K (ga K "Stretch") "day_of") fd := kn.mets (meD "Stretch" "day_of" "Stretch.day_of" s_Stretch_day_of) (List.mem_of_getElem? (i := 10) rfl)
theorem Kn.m_Ledger_account_in (kn : Kn K mg) : ∃ fd, FunD K "account_in" "Ledger.account_in" (defArgs s_Ledger_account_in) (defBody s_Ledger_account_in) (defScope s_Ledger_account_in) [] [] (ma K (ga K "Ledger") "account_in") fd := kn.mets (meD "Ledger" "account_in" "Ledger.account_in" s_Ledger_account_in) (List.mem_of_getElem? (i := 11) rfl)
theorem Kn.m_Ledger_account (kn : Kn K mg) : ∃ fd, FunD K "account" "Ledger.account" (defArgs s_Ledger_account) (defBody s_Ledger_account) (defScope s_Ledger_account) [] [] (ma K (ga K "Ledger") "account") fd := kn.mets (meD "Ledger" "account" "Ledger.account" s_Ledger_account) (List.mem_of_getElem? (i := 12) rfl)
theorem Kn.m_Ledger_plan_for (kn : Kn K mg) : ∃ fd, FunD K "plan_for" "Ledger.plan_for" (defArgs s_Ledger_plan_for) (defBody s_Ledger_plan_for) (defScope s_Ledger_plan_for) [] [] (ma K (ga K "Ledger") "plan_for") fd := kn.mets (meD "Ledger" "plan_for" "Ledger.plan_for" s_Ledger_plan_for) (List.mem_of_getElem? (i := 13) rfl)
theorem Kn.m_Ledger_commit (kn : Kn K mg) : ∃ fd, FunD K "commit" "Ledger.commit" (defArgs s_Ledger_commit) (defBody s_Ledger_commit) (defScope s_Ledger_commit) [] [] (ma K (ga K "Ledger") "commit") fd := kn.mets (meD "Ledger" "commit" "Ledger.commit" s_Ledger_commit) (List.mem_of_getElem? (i := 14) rfl)
theorem Kn.m_Ledger_open_books (kn : Kn K mg) : ∃ fd, FunD K "open_books" "Ledger.open_books" (defArgs s_Ledger_open_books) (defBody s_Ledger_open_books) (defScope s_Ledger_open_books) [] [] (ma K (ga K "Ledger") "open_books") fd := kn.mets (meD "Ledger" "open_books" "Ledger.open_books" s_Ledger_open_books) (List.mem_of_getElem? (i := 15) rfl)
theorem Kn.m_Ledger_open_account (kn : Kn K mg) : ∃ fd, FunD K "open_account" "Ledger.open_account" (defArgs s_Ledger_open_account) (defBody s_Ledger_open_account) (defScope s_Ledger_open_account) [] [] (ma K (ga K "Ledger") "open_account") fd := kn.mets (meD "Ledger" "open_account" "Ledger.open_account" s_Ledger_open_account) (List.mem_of_getElem? (i := 16) rfl)
theorem Kn.m_Ledger_add_item (kn : Kn K mg) : ∃ fd, FunD K "add_item" "Ledger.add_item" (defArgs s_Ledger_add_item) (defBody s_Ledger_add_item) (defScope s_Ledger_add_item) [] [] (ma K (ga K "Ledger") "add_item") fd := kn.mets (meD "Ledger" "add_item" "Ledger.add_item" s_Ledger_add_item) (List.mem_of_getElem? (i := 17) rfl)
theorem Kn.m_Ledger_validate_item (kn : Kn K mg) : ∃ fd, FunD K "validate_item" "Ledger.validate_item" (defArgs s_Ledger_validate_item) (defBody s_Ledger_validate_item) (defScope s_Ledger_validate_item) [] [] (ma K (ga K "Ledger") "validate_item") fd := kn.mets (meD "Ledger" "validate_item" "Ledger.validate_item" s_Ledger_validate_item) (List.mem_of_getElem? (i := 18) rfl)
theorem Kn.m_Ledger_add_order (kn : Kn K mg) : ∃ fd, FunD K "add_order" "Ledger.add_order" (defArgs s_Ledger_add_order) (defBody s_Ledger_add_order) (defScope s_Ledger_add_order) [] [] (ma K (ga K "Ledger") "add_order") fd := kn.mets (meD "Ledger" "add_order" "Ledger.add_order" s_Ledger_add_order) (List.mem_of_getElem? (i := 19) rfl)
theorem Kn.m_Ledger_first_overdraft (kn : Kn K mg) : ∃ fd, FunD K "first_overdraft" "Ledger.first_overdraft" (defArgs s_Ledger_first_overdraft) (defBody s_Ledger_first_overdraft) (defScope s_Ledger_first_overdraft) [] [] (ma K (ga K "Ledger") "first_overdraft") fd := kn.mets (meD "Ledger" "first_overdraft" "Ledger.first_overdraft" s_Ledger_first_overdraft) (List.mem_of_getElem? (i := 20) rfl)
theorem Kn.m_Ledger_pass_days (kn : Kn K mg) : ∃ fd, FunD K "pass_days" "Ledger.pass_days" (defArgs s_Ledger_pass_days) (defBody s_Ledger_pass_days) (defScope s_Ledger_pass_days) [] [] (ma K (ga K "Ledger") "pass_days") fd := kn.mets (meD "Ledger" "pass_days" "Ledger.pass_days" s_Ledger_pass_days) (List.mem_of_getElem? (i := 21) rfl)
theorem Kn.m_Ledger_total (kn : Kn K mg) : ∃ fd, FunD K "total" "Ledger.total" (defArgs s_Ledger_total) (defBody s_Ledger_total) (defScope s_Ledger_total) [] [] (ma K (ga K "Ledger") "total") fd := kn.mets (meD "Ledger" "total" "Ledger.total" s_Ledger_total) (List.mem_of_getElem? (i := 22) rfl)
theorem Kn.m_Ledger_largest_withdrawal (kn : Kn K mg) : ∃ fd, FunD K "largest_withdrawal" "Ledger.largest_withdrawal" (defArgs s_Ledger_largest_withdrawal) (defBody s_Ledger_largest_withdrawal) (defScope s_Ledger_largest_withdrawal) [] [] (ma K (ga K "Ledger") "largest_withdrawal") fd := kn.mets (meD "Ledger" "largest_withdrawal" "Ledger.largest_withdrawal" s_Ledger_largest_withdrawal) (List.mem_of_getElem? (i := 23) rfl)
theorem Kn.m_Ledger_earliest_withdrawal (kn : Kn K mg) : ∃ fd, FunD K "earliest_withdrawal" "Ledger.earliest_withdrawal" (defArgs s_Ledger_earliest_withdrawal) (defBody s_Ledger_earliest_withdrawal) (defScope s_Ledger_earliest_withdrawal) [] [] (ma K (ga K "Ledger") "earliest_withdrawal") fd := kn.mets (meD "Ledger" "earliest_withdrawal" "Ledger.earliest_withdrawal" s_Ledger_earliest_withdrawal) (List.mem_of_getElem? (i := 24) rfl)
end
/-- a def's promise, ready to be called -/
structure Okd (P : Program) (w : World) (K : PySem.W.Frag) (mg : Str → Option Value) (base : Heap) (CX : CXT) (k : Nat) (f : Addr) (ps : List Str) (sp : Sp) : Prop where
  ex : ∃ fd, PySem.W.keepIn K (.ref f) = true ∧ Binds K fd ps [] ∧ FnOk P w K mg base CX k f fd ps sp
end So
end
section
set_option maxHeartbeats 8000000
/-! What is looked at behind the top: the module's names, the defs' and classes' own parts, no more. -/
namespace So
open PySem PySem.Spec PyProof.Rows L2 He
def valsOf (o : Obj) : List Addr := match o.data with
  | .dict es _ => es.toList.flatMap fun e => refV e.val
  | _ => []
def kidsF (o : Obj) : List Addr := match o.data with
  | .func fd => refV fd.code ++ (refV fd.defaults ++ (refV fd.kwdefaults ++ fd.closure.map (·.2)))
  | .cls cd => [cd.ns]
  | _ => []
def kidsR (o : Obj) : List Addr := match o.data with
  | .func fd => refV fd.code ++ (refV fd.defaults ++ (refV fd.kwdefaults ++ fd.closure.map (·.2)))
  | .fields vs => vs.toList.flatMap refV
  | _ => []
def thru (g : Addr → Option Obj) (f : Obj → List Addr) (as : List Addr) : List Addr := as.flatMap fun a => match g a with
  | some o => f o
  | none => []
/-- numbers in hand -/
def frcN (n : Nat) {β : Type} (k : Nat → β) : β := match n with
  | 0 => k 0
  | m + 1 => k (m + 1)
theorem frcN_eq (n : Nat) {β : Type} (k : Nat → β) : frcN n k = k n := by cases n <;> rfl
def frc {β : Type} : List Nat → (List Nat → β) → β
  | [], k => k []
  | a :: r, k => frcN a fun a => frc r fun r => k (a :: r)
theorem frc_eq {β : Type} : ∀ (l : List Nat) (k : List Nat → β), frc l k = k l
  | [], k => rfl
  | a :: r, k => by
    show frcN a (fun a => frc r fun r => k (a :: r)) = _
    rw [frcN_eq, frc_eq r]
def asL (g : Addr → Option Obj) : List Addr :=
  frc (thru g valsOf [mainGlobals]) fun l1 => frc (thru g kidsF l1) fun l2 => frc (thru g valsOf l2) fun l3 => frc (thru g kidsR l3) fun l4 => frc (thru g kidsF l4) fun l5 =>
    mainGlobals :: (l1 ++ (l2 ++ (l3 ++ (l4 ++ (l5 ++ [cStatics])))))
end So
end
section
set_option maxHeartbeats 0
/-! .. the defs' function objects. -/
namespace Hd
open PySem PySem.W PySem.Calls PyProof.Rows
def ob1 (s : PySem.W.SharedT) : He.AlD := He.obsD So.fa (So.fnL ++ So.meL) (He.frG (HandSHeadRun.getT s) (So.asL (HandSHeadRun.getT s)))
theorem runB (w : World) (os : OsState) : (endQ w os).map ob1 = some (He.valD (So.fnL ++ So.meL)) := by
  kernel_rfl
end Hd
end
section
set_option maxHeartbeats 2000000
/-! Further facts of the top, as booleans of the fragment. -/
namespace So
open PySem PySem.Spec PyProof.Rows L2 He
/-- the kinds -/
inductive Kd where | op | li | sa
  deriving DecidableEq
def Kd.str : Kd → Str
  | .op => "open"
  | .li => "limited"
  | .sa => "savings"
def Kd.cn : Kd → Str
  | .op => "Account"
  | .li => "LimitedAccount"
  | .sa => "SavingsAccount"
def excN : List Str := ["Endless", "InvalidAmount", "UnknownAccount"]
def exStop (K : PySem.W.Frag) : Bool := decide (PySem.W.subIn K (.ref (ga K "Endless")) (.type "StopIteration") = some false)
def exEnd (K : PySem.W.Frag) : Bool := decide (PySem.W.exmOne K (.ref (ga K "Endless")) (.ref (ga K "Endless")) = some true)
def exOrd (K : PySem.W.Frag) : Bool := excN.all fun x => decide (PySem.W.exmOne K (.ref (ga K x)) (.ref (ga K "OrderError")) = some true)
def eqMa : List (Str × Str × Str) := [("LimitedAccount", "Account", "__init__"), ("SavingsAccount", "Account", "__init__"), ("SavingsAccount", "LimitedAccount", "allows"), ("LimitedAccount", "Account", "may_withdraw"), ("LimitedAccount", "Account", "balance"), ("SavingsAccount", "Account", "balance"), ("SavingsAccount", "LimitedAccount", "floor")]
def exMa (K : PySem.W.Frag) : Bool := eqMa.all fun p => decide (ma K (ga K p.1) p.2.2 = ma K (ga K p.2.1) p.2.2)
def propL : List (Str × Str) := [("Account", "floor"), ("LimitedAccount", "floor"), ("SavingsAccount", "floor"), ("Account", "balance"), ("LimitedAccount", "balance"), ("SavingsAccount", "balance"), ("Ledger", "ledger_calendar"), ("Ledger", "today"), ("Ledger", "names"), ("Ledger", "orders")]
def propB (K : PySem.W.Frag) (C : Addr) (f : Str) : Bool := eqO (PySem.W.findIn K (.ref C) f) (some (some (.ref (ma K C f)))) && (eqO (PySem.W.specialIn K (.ref (ma K C f)) "__get__") (some (some (.builtin "property.__get__"))) && (decide (PySem.W.takesIn K (.ref (ma K C f)) = some true) && (match PySem.W.recIn K (ma K C f) "property" with
  | some (.ref _ :: _) => true
  | _ => false)))
theorem propB_ok {K : PySem.W.Frag} {C : Addr} {f : Str} (h : propB K C f = true) : PropOf K C f (ma K C f) (He5.wf K C "property" f) := by
  obtain ⟨h1, h⟩ := ba h
  obtain ⟨h2, h⟩ := ba h
  obtain ⟨h3, h4⟩ := ba h
  refine ⟨eqO_ok h1, eqO_ok h2, of_decide_eq_true h3, ?_⟩
  unfold He5.wf
  split at h4
  · rename_i f r e
    exact ⟨r, by rw [e]⟩
  · cases h4
def exProp (K : PySem.W.Frag) : Bool := propL.all fun p => propB K (ga K p.1) p.2
def readB (K : PySem.W.Frag) (C : Addr) : Bool := PySem.W.readsIn K C (.type "type") && eqO (PySem.W.specialIn K (.ref C) "__getattribute__") (some (some (.builtin "type.__getattribute__")))
def kindB (K : PySem.W.Frag) (k : Kd) : Bool := readB K (ga K k.cn) && (match PySem.W.findCls K (.ref (ga K k.cn)) (.type "type") "KIND" with
  | some (.val (.str z _)) => decide (z = k.str)
  | _ => false)
def exKind (K : PySem.W.Frag) : Bool := kindB K .op && (kindB K .li && kindB K .sa)
def exWrap (K : PySem.W.Frag) : Bool := He5.wrapB K (ga K "Account") "staticmethod" "staticmethod.__get__" "is_name" && (He5.wrapB K (ga K "Account") "classmethod" "classmethod.__get__" "made" && PySem.W.fnIn K (He5.wf K (ga K "Account") "classmethod" "made"))
def kxB (K : PySem.W.Frag) : Bool := exStop K && (exEnd K && (exOrd K && (exMa K && (exProp K && (exKind K && exWrap K)))))
structure KindOk (K : PySem.W.Frag) (k : Kd) : Prop where
  rd : ClX.CRead K (ga K k.cn) (.type "type")
  val : ∃ t, PySem.W.findCls K (.ref (ga K k.cn)) (.type "type") "KIND" = some (.val (.str k.str t))
theorem kindB_ok {K : PySem.W.Frag} {k : Kd} (h : kindB K k = true) : KindOk K k := by
  obtain ⟨h1, h2⟩ := ba h
  obtain ⟨h3, h4⟩ := ba h1
  refine ⟨⟨h3, eqO_ok h4⟩, ?_⟩
  split at h2
  · rename_i z t e
    exact ⟨t, by rw [e, of_decide_eq_true h2]⟩
  · cases h2
/-- the defs behind records -/
def prD (c f qual : Str) (st : Stmt) : He5.DefA := { at_ := fun K => He5.wf K (ga K c) "property" f, name := f, qual := qual, params := defArgs st, body := defBody st, scope := defScope st }
def dfL : List He5.DefA := [{ at_ := fun K => He5.wf K (ga K "Account") "staticmethod" "is_name", name := "is_name", qual := "Account.is_name", params := defArgs s_Account_is_name, body := defBody s_Account_is_name, scope := defScope s_Account_is_name },
  { at_ := fun K => He5.wf K (ga K "Account") "classmethod" "made", name := "made", qual := "Account.made", params := defArgs s_Account_made, body := defBody s_Account_made, scope := defScope s_Account_made, kwd := [("limit", .int 0), ("balance", .int 0), ("cycle", .int 1)] },
  prD "Account" "floor" "Account.floor" s_Account_floor, prD "LimitedAccount" "floor" "LimitedAccount.floor" s_LimitedAccount_floor, prD "Account" "balance" "Account.balance" s_Account_balance,
  prD "Ledger" "ledger_calendar" "Ledger.ledger_calendar" s_Ledger_ledger_calendar, prD "Ledger" "today" "Ledger.today" s_Ledger_today, prD "Ledger" "names" "Ledger.names" s_Ledger_names, prD "Ledger" "orders" "Ledger.orders" s_Ledger_orders,
  { at_ := fun K => ma K (ga K "Ledger") "__init__", name := "__init__", qual := "Ledger.__init__", params := defArgs s_Ledger___init__, body := defBody s_Ledger___init__, scope := defScope s_Ledger___init__, kwd := [("day", .int 0)] }]
structure Kx (K : PySem.W.Frag) : Prop where
  stop : PySem.W.subIn K (.ref (ga K "Endless")) (.type "StopIteration") = some false
  end_ : PySem.W.exmOne K (.ref (ga K "Endless")) (.ref (ga K "Endless")) = some true
  ord : ∀ x ∈ excN, PySem.W.exmOne K (.ref (ga K x)) (.ref (ga K "OrderError")) = some true
  mas : ∀ p ∈ eqMa, ma K (ga K p.1) p.2.2 = ma K (ga K p.2.1) p.2.2
  prop : ∀ p ∈ propL, PropOf K (ga K p.1) p.2 (ma K (ga K p.1) p.2) (He5.wf K (ga K p.1) "property" p.2)
  kind : ∀ k : Kd, KindOk K k
  isn : PySem.W.findCls K (.ref (ga K "Account")) (.type "type") "is_name" = some (.get (.builtin "staticmethod.__get__") (.ref (ma K (ga K "Account") "is_name")) .none (.ref (ga K "Account"))) ∧ ∃ rest, PySem.W.recIn K (ma K (ga K "Account") "is_name") "staticmethod" = some (.ref (He5.wf K (ga K "Account") "staticmethod" "is_name") :: rest)
  made : ClX.CMet K (ga K "Account") (.type "type") "made" (ma K (ga K "Account") "made") (He5.wf K (ga K "Account") "classmethod" "made")
  defs : ∀ d ∈ dfL, ∃ fd, FunD K d.name d.qual d.params d.body d.scope (d.dvs K) (d.kws K) (d.at_ K) fd
theorem kx_of {K : PySem.W.Frag} (h : kxB K = true) (hd : ∀ d ∈ dfL, ∃ fd, FunD K d.name d.qual d.params d.body d.scope (d.dvs K) (d.kws K) (d.at_ K) fd) : Kx K := by
  unfold kxB at h
  simp only [Bool.and_eq_true] at h
  obtain ⟨h1, h2, h3, h4, h5, h6, h7⟩ := h
  obtain ⟨w1, w2⟩ := ba h7
  obtain ⟨w2, w3⟩ := ba w2
  obtain ⟨k1, k2⟩ := ba h6
  obtain ⟨k2, k3⟩ := ba k2
  refine ⟨of_decide_eq_true h1, of_decide_eq_true h2, fun x hx => of_decide_eq_true (List.all_eq_true.mp h3 x hx), fun p hp => of_decide_eq_true (List.all_eq_true.mp h4 p hp), fun p hp => propB_ok (List.all_eq_true.mp h5 p hp), fun k => ?_, He5.wrapB_ok w1, He5.cmet_of w2 w3, hd⟩
  cases k
  · exact kindB_ok k1
  · exact kindB_ok k2
  · exact kindB_ok k3
section
variable {K : PySem.W.Frag}
theorem Kx.f_is_name (kx : Kx K) : ∃ fd, FunD K "is_name" "Account.is_name" (defArgs s_Account_is_name) (defBody s_Account_is_name) (defScope s_Account_is_name) [] [] (He5.wf K (ga K "Account") "staticmethod" "is_name") fd := kx.defs _ (List.mem_of_getElem? (i := 0) rfl)
theorem Kx.f_made (kx : Kx K) : ∃ fd, FunD K "made" "Account.made" (defArgs s_Account_made) (defBody s_Account_made) (defScope s_Account_made) [] [("limit", .int 0), ("balance", .int 0), ("cycle", .int 1)] (He5.wf K (ga K "Account") "classmethod" "made") fd := kx.defs _ (List.mem_of_getElem? (i := 1) rfl)
theorem Kx.f_floorA (kx : Kx K) : ∃ fd, FunD K "floor" "Account.floor" (defArgs s_Account_floor) (defBody s_Account_floor) (defScope s_Account_floor) [] [] (He5.wf K (ga K "Account") "property" "floor") fd := kx.defs _ (List.mem_of_getElem? (i := 2) rfl)
theorem Kx.f_floorL (kx : Kx K) : ∃ fd, FunD K "floor" "LimitedAccount.floor" (defArgs s_LimitedAccount_floor) (defBody s_LimitedAccount_floor) (defScope s_LimitedAccount_floor) [] [] (He5.wf K (ga K "LimitedAccount") "property" "floor") fd := kx.defs _ (List.mem_of_getElem? (i := 3) rfl)
theorem Kx.f_balance (kx : Kx K) : ∃ fd, FunD K "balance" "Account.balance" (defArgs s_Account_balance) (defBody s_Account_balance) (defScope s_Account_balance) [] [] (He5.wf K (ga K "Account") "property" "balance") fd := kx.defs _ (List.mem_of_getElem? (i := 4) rfl)
theorem Kx.f_cal (kx : Kx K) : ∃ fd, FunD K "ledger_calendar" "Ledger.ledger_calendar" (defArgs s_Ledger_ledger_calendar) (defBody s_Ledger_ledger_calendar) (defScope s_Ledger_ledger_calendar) [] [] (He5.wf K (ga K "Ledger") "property" "ledger_calendar") fd := kx.defs _ (List.mem_of_getElem? (i := 5) rfl)
theorem Kx.f_today (kx : Kx K) : ∃ fd, FunD K "today" "Ledger.today" (defArgs s_Ledger_today) (defBody s_Ledger_today) (defScope s_Ledger_today) [] [] (He5.wf K (ga K "Ledger") "property" "today") fd := kx.defs _ (List.mem_of_getElem? (i := 6) rfl)
theorem Kx.f_names (kx : Kx K) : ∃ fd, FunD K "names" "Ledger.names" (defArgs s_Ledger_names) (defBody s_Ledger_names) (defScope s_Ledger_names) [] [] (He5.wf K (ga K "Ledger") "property" "names") fd := kx.defs _ (List.mem_of_getElem? (i := 7) rfl)
theorem Kx.f_orders (kx : Kx K) : ∃ fd, FunD K "orders" "Ledger.orders" (defArgs s_Ledger_orders) (defBody s_Ledger_orders) (defScope s_Ledger_orders) [] [] (He5.wf K (ga K "Ledger") "property" "orders") fd := kx.defs _ (List.mem_of_getElem? (i := 8) rfl)
theorem Kx.f_ledInit (kx : Kx K) : ∃ fd, FunD K "__init__" "Ledger.__init__" (defArgs s_Ledger___init__) (defBody s_Ledger___init__) (defScope s_Ledger___init__) [] [("day", .int 0)] (ma K (ga K "Ledger") "__init__") fd := kx.defs _ (List.mem_of_getElem? (i := 9) rfl)
end
end So
end
section
set_option maxHeartbeats 4000000
/-! What the head looks at, as booleans. -/
namespace So
open PySem PySem.Spec PyProof.Rows L2 He
abbrev Msa : Stmt := s_SavingsAccount_may_withdraw
def oexB (K : PySem.W.Frag) (C : Addr) : Bool := match K.lookup C with
  | some ⟨.type t, _, .cls cd, sl⟩ => decide (t = "type") && (match cd.mro, sl.toList with
    | .ref D :: bm, [_, _, _, _, some (.builtin n), _] => D == C && (n == "ValueError.__new__" && (!cd.hasDel && (cd.hasDict && PySem.HandSPX.refsVE bm)))
    | _, _ => false)
  | _ => false
def kindL : List Str := ["DuplicateName", "Endless", "InvalidAmount", "InvalidCount", "InvalidName", "InvalidOperation", "InvalidOrder", "InvalidText", "NotEmpty", "Overdrawn", "SameAccount", "TooManyAccounts", "TooManyOrders", "UnknownAccount", "UnknownKind", "UnknownOrder", "WrongDay"]
def uaD : He5.DefA := { at_ := fun K => ma K (ga K "UnknownAccount") "__init__", name := "__init__", qual := "UnknownAccount.__init__", params := defArgs s_UnknownAccount___init__, body := defBody s_UnknownAccount___init__, scope := defScope s_UnknownAccount___init__ }
def excB (K : PySem.W.Frag) (D : Addr) : Bool := eqO (PySem.W.findIn K (.ref D) "__getattribute__") (some (some (.builtin "BaseException.__getattribute__"))) && (eqO (PySem.W.findIn K (.ref D) "__getattr__") (some none) && (decide (PySem.W.subIn K (.ref D) (.type "BaseException") = some true) && (PySem.W.hasDictIn K D && (eqO (PySem.W.findIn K (.ref D) "__class__") (some (some (.builtin "object.__class__"))) &&
  (eqO (PySem.W.specialIn K (.builtin "object.__class__") "__get__") (some (some (.builtin "getset_descriptor.__get__"))) && (decide (PySem.W.takesIn K (.builtin "object.__class__") = some true) && decide (PySem.W.mroIn K D (.type "object") = some true)))))))
def kitB (K : PySem.W.Frag) (x : Str) : Bool := (kindL.all fun y => decide (PySem.W.kitOne K (.ref (ga K x)) (.ref (ga K y)) = some (decide (x = y)))) && decide (PySem.W.kitOne K (.ref (ga K x)) (.type "ValueError") = some true)
def oinB (K : PySem.W.Frag) : Bool := match PySem.W.findCls K (.ref (ga K "OrderError")) (.type "type") "__init__" with
  | some (.val (.builtin id)) => decide (id = "ValueError.__init__")
  | _ => false
def uaB (K : PySem.W.Frag) : Bool := oexB K (ga K "UnknownAccount") && (eqO (PySem.W.findIn K (.ref (ga K "UnknownAccount")) "__setattr__") (some (some (.builtin "object.__setattr__"))) && (decide (PySem.W.subIn K (.ref (ga K "UnknownAccount")) (.type "BaseException") = some true) && (decide (PySem.W.typeIn K (.ref (ga K "UnknownAccount")) = some (.type "type")) && (PySem.W.keepIn K (.ref (ga K "UnknownAccount")) &&
  (readB K (ga K "OrderError") && (oinB K && (eqO (PySem.W.findIn K (.ref (ga K "UnknownAccount")) "__init__") (some (some (.ref (ma K (ga K "UnknownAccount") "__init__")))) && (decide (PySem.W.typeIn K (.ref (ma K (ga K "UnknownAccount") "__init__")) = some (.type "function")) && (eqO (PySem.W.findIn K (.ref (ga K "UnknownAccount")) "name") (some none) && (xfB K (ga K "UnknownAccount") && excN.all fun x => excB K (ga K x) && kitB K x))))))))))
/-- the tables: where the code objects of their insides stand -/
def tfL : List Defn := [("balance_at", none), ("least_balance", none), ("law", none)]
def dfA : List He5.DefA := dfL ++ [uaD]
abbrev FnSa : Type := Option (Str × Str × Arguments × FuncBody × Scope × Addr × List Str × Value × Addr)
def saAt (K : PySem.W.Frag) : Addr := ma K (ga K "SavingsAccount") "may_withdraw"
def fnSa (K : PySem.W.Frag) : FnSa := match K.lookup (saAt K) with
  | some ⟨_, _, .func fd, _⟩ => some (fd.name, fd.qualname, fd.params, fd.body, fd.scope, fd.globals, fd.closure.map (·.1), fd.defaults, fd.builtins)
  | _ => none
def valSa : FnSa := some ("may_withdraw", "SavingsAccount.may_withdraw", defArgs Msa, .stmts (defBody Msa), defScope Msa, mainGlobals, ["__class__"], .none, builtinsNs)
/-- its code object, its cell -/
def saB (K : PySem.W.Frag) (file : Str) : Bool := match K.lookup (saAt K) with
  | some ⟨_, _, .func fd, _⟩ => PySem.W.codeIn K fd.code "SavingsAccount.may_withdraw" && ((match fd.code with
    | .ref cda => (match K.lookup cda with
      | some ⟨_, _, .fields vs, _⟩ => (match (vs[2]? : Option Value) with
        | some (Value.str f _) => file == f
        | _ => false)
      | _ => false)
    | _ => false) && (match fd.closure with
    | [(_, cc)] => (match K.lookup cc with
      | some ⟨_, _, .cell (some (.ref c)), _⟩ => decide (c = ga K "SavingsAccount")
      | _ => false)
    | _ => false))
  | _ => false
def smB (K : PySem.W.Frag) (file : Str) : Bool := saB K file && (PySem.W.keepIn K (.ref (saAt K)) && (decide (PySem.W.mroIn K (ga K "SavingsAccount") (.ref (ga K "SavingsAccount")) = some true) &&
  (eqO (PySem.W.ks_superIn K (ga K "SavingsAccount") (ga K "SavingsAccount") "may_withdraw") (some (some (.ref (ma K (ga K "Account") "may_withdraw")))) && (decide (PySem.W.typeIn K (.ref (ma K (ga K "Account") "may_withdraw")) = some (.type "function")) &&
  (PySem.W.fnIn K (ma K (ga K "Account") "may_withdraw") && (eqO (PySem.W.nsIn K cStatics "thirdparty.any") (some none) && (PySem.W.clsIn K (ga K "SavingsAccount")).isSome))))))
abbrev AlL : Type := He.AlD × List He.FnW × FnSa × Bool
def distB (K : PySem.W.Frag) : Bool := !decide ((cT K ("law", none)).2 = (cT K ("balance_at", none)).2) && !decide ((cT K ("law", none)).2 = (cT K ("least_balance", none)).2)
def restB (K : PySem.W.Frag) (file : Str) : Bool := (dfA.all fun d => d.ok K) && (kxB K && (uaB K && (smB K file && distB K)))
def tabL (g : Addr → Option Obj) (K : PySem.W.Frag) : Bool := tfL.all fun p => PySem.W.codeHdIn K (cT K p).1 (cT K p).2 && ((K.lookup (cT K p).2).isNone && (match g (cT K p).2 with
  | some o => emptyTab o
  | none => false))
def obsK (file : Str) (g : Addr → Option Obj) (K : PySem.W.Frag) : AlL := (obsD fa (fnL ++ meL) K, dfA.map fun d => He5.fnA K (d.at_ K), fnSa K, restB K file && tabL g K)
def obsL (file : Str) (g : Addr → Option Obj) : AlL := obsK file g (frG g (asL g))
def valL : AlL := (valD (fnL ++ meL), dfA.map He5.DefA.val, valSa, true)
end So
end
section
set_option maxHeartbeats 0
/-! .. the rest. -/
namespace Hd
open PySem PySem.W PySem.Calls PyProof.Rows
def ob (s : PySem.W.SharedT) : So.AlL := So.obsL R.prog.main.file (HandSHeadRun.getT s)
theorem runC (w : World) (os : OsState) : (endQ w os).map (fun s => (ob s).2) = some So.valL.2 := by
  kernel_rfl
end Hd
end
section
set_option maxHeartbeats 2000000
/-! Heaps that grow, tables kept; how a def's promise is shown and called. -/
namespace So
open PySem PySem.Spec PyProof.Rows L2 He
structure Wt where
  lam : List (Addr × Str)
  gen : List Addr
def Tbs (T : Wt) (H : Hp) : Prop := LamX.Tabs T.lam H ∧ ∀ P ∈ T.gen, GxR.TabG H P
/-- all but S stands; the tables are tables -/
structure GrB (T : Wt) (S : Addr → Prop) (H H' : Hp) : Prop where
  kp : ∀ b o, H b = some o → ¬ S b → (∀ ps, o ≠ .tbl ps) → H' b = some o
  tt : Tbs T H'
  th : ∀ b o, H b = some o → ∃ o', H' b = some o'
abbrev Gr (T : Wt) (H H' : Hp) : Prop := GrB T (fun _ => False) H H'
section
variable {T : Wt} {S S' : Addr → Prop} {H H1 H2 : Hp}
theorem GrB.at (g : GrB T S H H1) {b : Addr} {o : HO} (h : H b = some o) (hs : ¬ S b) (n : ∀ ps, o ≠ .tbl ps := by intro ps z; cases z) : H1 b = some o := g.1 b o h hs n
theorem GrB.get (g : Gr T H H1) {b : Addr} {o : HO} (h : H b = some o) (n : ∀ ps, o ≠ .tbl ps := by intro ps z; cases z) : H1 b = some o := g.1 b o h (fun z => z) n
theorem GrB.tb (g : GrB T S H H1) : Tbs T H1 := g.2
theorem Gr.refl (h : Tbs T H) : Gr T H H := ⟨fun _ _ e _ _ => e, h, fun _ o e => ⟨o, e⟩⟩
theorem GrB.refl (h : Tbs T H) : GrB T S H H := ⟨fun _ _ e _ _ => e, h, fun _ o e => ⟨o, e⟩⟩
theorem GrB.nn (g : GrB T S H H1) {b : Addr} (h : H1 b = none) : H b = none := by
  cases e : H b with
  | none => rfl
  | some o =>
    obtain ⟨o', e'⟩ := g.th b o e
    rw [h] at e'
    cases e'
theorem GrB.trans (a : GrB T S H H1) (b : GrB T S H1 H2) : GrB T S H H2 := ⟨fun c o h hs n => b.1 c o (a.1 c o h hs n) hs n, b.2, fun c o h => let ⟨o', e⟩ := a.3 c o h; b.3 c o' e⟩
theorem GrB.mono (a : GrB T S H H1) (h : ∀ b, S b → S' b) : GrB T S' H H1 := ⟨fun c o e hs n => a.1 c o e (fun z => hs (h c z)) n, a.2, a.3⟩
theorem Gr.to (a : Gr T H H1) : GrB T S H H1 := a.mono fun _ z => z.elim
theorem Tbs.ext (h : Tbs T H) (e : ∀ b o, H b = some o → H1 b = some o) : Tbs T H1 := ⟨h.1.ext e, fun P hP => by
  obtain ⟨ps, h1, h2⟩ := h.2 P hP
  exact ⟨ps, e _ _ h1, h2⟩⟩
theorem upd_ext {p : Addr} {o : HO} (h : H p = none) : ∀ b u, H b = some u → upd H p o b = some u := fun b u e => by
  rw [upd_ne (fun z => by rw [z, h] at e; cases e)]
  exact e
theorem Tbs.new {p : Addr} {o : HO} (h : Tbs T H) (hp : H p = none) : Tbs T (upd H p o) := h.ext (upd_ext hp)
theorem GrB.new {p : Addr} {o : HO} (g : GrB T S H H1) (hp : H1 p = none) : GrB T S H (upd H1 p o) := ⟨fun b u e hs n => upd_ext hp b u (g.1 b u e hs n), g.2.new hp, fun b u e => let ⟨u', e'⟩ := g.3 b u e; ⟨u', upd_ext hp b u' e'⟩⟩
/-- a tracked thing of S is changed; no table, no code object -/
theorem Tbs.set {p : Addr} {o o' : HO} (h : Tbs T H) (hp : H p = some o) (n1 : ∀ ps, o ≠ .tbl ps) (n2 : ∀ f, o ≠ .ext f) : Tbs T (upd H p o') := by
  have e : ∀ b u, H b = some u → u ≠ o → upd H p o' b = some u := fun b u q z => by
    rw [upd_ne (fun y => z (by rw [y, hp] at q; cases q; rfl))]
    exact q
  refine ⟨fun q hq => ?_, fun P hP => ?_⟩
  · obtain ⟨ps, h1, h2, h3⟩ := h.1 q hq
    refine ⟨ps, e _ _ h1 fun z => n1 _ z.symm, h2, fun pos cv hc => ?_⟩
    obtain ⟨c, e1, e2⟩ := h3 pos cv hc
    exact ⟨c, e1, e _ _ e2 fun z => n2 _ z.symm⟩
  · obtain ⟨ps, h1, h2⟩ := h.2 P hP
    exact ⟨ps, e _ _ h1 fun z => n1 _ z.symm, h2⟩
theorem upd_there {p : Addr} {o : HO} : ∀ b u, H b = some u → ∃ u', upd H p o b = some u' := fun b u e => by
  by_cases z : b = p
  · rw [z]; exact ⟨_, upd_same⟩
  · exact ⟨u, by rw [upd_ne z]; exact e⟩
theorem GrB.set {p : Addr} {o o' : HO} (g : GrB T S H H1) (hs : S p) (hp : H1 p = some o) (n1 : ∀ ps, o ≠ .tbl ps := by intro ps z; cases z) (n2 : ∀ f, o ≠ .ext f := by intro f z; cases z) : GrB T S H (upd H1 p o') :=
  ⟨fun b u e nb n => by
    rw [upd_ne (fun z => nb (by rw [z]; exact hs))]
    exact g.1 b u e nb n, g.2.set hp n1 n2, fun b u e => let ⟨u', e'⟩ := g.3 b u e; upd_there b u' e'⟩
end
/-- what was new is changed -/
theorem GrB.turn {T : Wt} {S : Addr → Prop} {H H1 : Hp} {p : Addr} {o o' : HO} (g : GrB T S H H1) (hn : H p = none) (hp : H1 p = some o) (n1 : ∀ ps, o ≠ .tbl ps := by intro ps z; cases z) (n2 : ∀ f, o ≠ .ext f := by intro f z; cases z) : GrB T S H (upd H1 p o') :=
  ⟨fun b u e nb n => by
    rw [upd_ne (fun z => by rw [z, hn] at e; cases e)]
    exact g.1 b u e nb n, g.2.set hp n1 n2, fun b u e => let ⟨u', e'⟩ := g.3 b u e; upd_there b u' e'⟩
theorem shaped_ints (ns : List Int) : SeqAt.shaped (.list (ns.map .int)) = true := by
  unfold SeqAt.shaped
  rw [Bool.and_eq_true]
  refine ⟨?_, decide_eq_true ?_⟩
  · simp only [PyData.canLay0, canLayAll_ints]
  · simp only [PyData.depth, depthAll_ints]
    decide
theorem dpAll_ints {K : PySem.W.Frag} {H : Hp} : ∀ ns : List Int, DpAll K H (ns.map V.int) (ns.map PyData.int)
  | [] => .nil
  | n :: r => .cons (.int n) (dpAll_ints r)
theorem dp_ints {K : PySem.W.Frag} {H : Hp} {a : Addr} {ns : List Int} (h : H a = some (.lst (ns.map V.int))) : Dp K H (.ref a) (.list (ns.map .int)) := .lst (.inl (.inl h)) (dpAll_ints ns)
theorem eqv_nil (ds : List PyData) : PyData.eqv (.list ds) (.list []) = ds.isEmpty := by
  cases ds <;> simp [PyData.eqv, PyData.eqvAll]
section
variable {P : Program} {w : World} {K : PySem.W.Frag} {mg : Str → Option Value} {base : Heap} {CX : CXT}
/-- THE RULE for a def without defaults -/
theorem okd_of {x qual : Str} {st : Stmt} {f : Addr} {N ps : List Str} {k : Nat} {sp : Sp} (F : ∃ fd, FunD K x qual (defArgs st) (defBody st) (defScope st) [] [] f fd) (S : FnScope N ps (defScope st)) (len : ∀ vs H Q E, sp vs H Q E → vs.length = ps.length)
    (hbind : ∀ (kV doc pm : Value) (an : Option Addr) (cdv ct : Value) (us : List Value), us.length = ps.length → bindArgs (PySem.W.fnOf x qual (defArgs st) (defBody st) (defScope st) .none kV doc pm an cdv ct) ⟨us, []⟩ = pure (ps.zip us))
    (hbody : ∀ (cdv : Value) (A : Around) (outer : List Env) (s : Shared) (H : Hp) (vs : List V) (Q : VK) (E : XK), Room k (A.deeper (envOfC qual (defScope st) s.heap.objs.size f cdv)) → sp vs H Q E →
      ∃ t, PSs (cxOf CX P w K mg base N qual (defScope st) f cdv A outer s H E) (defBody st) t ∧ t { nx := fun _ H' => Q .non H', rt := Q } (start N vs) H) : Okd P w K mg base CX (k + 1) f ps sp := by
  obtain ⟨fd, F⟩ := F
  exact ⟨fd, F.kp, F.bindsN hbind, F.ok S len hbody⟩
theorem Okd.mono {f : Addr} {ps : List Str} {j k : Nat} {sp : Sp} (o : Okd P w K mg base CX j f ps sp) (h : j ≤ k) : Okd P w K mg base CX k f ps sp := by
  obtain ⟨fd, a, b, c⟩ := o.ex
  exact ⟨fd, a, b, c.mono h⟩
end
section
variable {X : Cx} {CX : CXT} {k : Nat} {f C : Addr} {ps : List Str} {sp : Sp} {E : XK} {x m : Str} {p pos apos : Pos} {o e : Expr} {es : List Expr} {t : TA} {to : TE}
/-- f(e, ..) -/
theorem pf {e : Expr} {es : List Expr} {t : TA} (O : Okd X.prog X.w X.K X.mg X.base CX k f ps sp) (hr : Room k X.A) (hm : X.mg x = some (.ref f)) (hx : Passes CX X E) (ha : PA X (e :: es) t) (hg : Gl X x := by rfl) (hdb : (x == ("__debug__" : Str)) = false := by decide)
    (he : starEach (e :: es) X.env = (false, eval e X.env) :: starEach es X.env := by rfl) (hpl : (backTo pos (starEach es X.env)).any (·.1) = false := by rfl) : PE X (.Call (.Name x p) (e :: es) [] pos) (tCall sp [] E t) := by
  obtain ⟨fd, kp, b, F⟩ := O.ex
  exact pe_call F hr hg hm kp b .nil hx ha hdb he hpl
/-- f() -/
theorem pf0 (O : Okd X.prog X.w X.K X.mg X.base CX k f ps sp) (hr : Room k X.A) (hm : X.mg x = some (.ref f)) (hx : Passes CX X E) (hg : Gl X x := by rfl) (hdb : (x == ("__debug__" : Str)) = false := by decide) : PE X (.Call (.Name x p) [] [] pos) (tCall sp [] E tNil) := by
  obtain ⟨fd, kp, b, F⟩ := O.ex
  exact pe_call0 F hr hg hm kp b .nil hx hdb
/-- o.m(e, ..) -/
theorem pm {pl : Sem Bool} (O : Okd X.prog X.w X.K X.mg X.base CX k f ps sp) (c : Cls X.K C) (hm : Meth X.K C m f) (hr : Room k X.A) (hx : Passes CX X E) (he : PE X o to) (ha : PA X (e :: es) t)
    (hst : starEach (e :: es) X.env = (false, eval e X.env) :: starEach es X.env := by rfl) (hpl : (backTo pos (starEach es X.env)).any (·.1) = false := by rfl)
    (ht : eval (.Call (.Attribute o m apos) (e :: es) [] pos) X.env = (do
      let ov ← eval o X.env
      standAt apos.atName
      let (f, first) ← holding [ov] (getMethod ov m pl)
      callWith pos f first (backTo pos (starEach (e :: es) X.env)) (backToKw pos (keywordEach [] X.env))) := by rfl) :
    PE X (.Call (.Attribute o m apos) (e :: es) [] pos) (tMeth C m sp [] E to t) := by
  obtain ⟨fd, kp, b, F⟩ := O.ex
  exact pe_meth he c hm F hr b .nil hx ha hst hpl ht
/-- o.m() -/
theorem pm0 {pl : Sem Bool} (O : Okd X.prog X.w X.K X.mg X.base CX k f ps sp) (c : Cls X.K C) (hm : Meth X.K C m f) (hr : Room k X.A) (hx : Passes CX X E) (he : PE X o to)
    (ht : eval (.Call (.Attribute o m apos) [] [] pos) X.env = (do
      let ov ← eval o X.env
      standAt apos.atName
      let (f, first) ← holding [ov] (getMethod ov m pl)
      callWith pos f first (backTo pos (starEach [] X.env)) (backToKw pos (keywordEach [] X.env))) := by rfl) :
    PE X (.Call (.Attribute o m apos) [] [] pos) (tMeth C m sp [] E to tNil) := by
  obtain ⟨fd, kp, b, F⟩ := O.ex
  exact pe_meth0 he c hm F hr b .nil hx ht
/-- never come to -/
theorem pe_never {e : Expr} : PE X e (fun _ _ _ => False) := ⟨fun _ _ _ _ _ _ h => h.elim⟩
/-- a module's number -/
theorem pe_gi {i : Int} (h : ∃ t, X.mg x = some (.int i t)) (hg : Gl X x := by rfl) (hdb : (x == ("__debug__" : Str)) = false := by decide) : PE X (.Name x pos) (tC (.int i)) := by
  obtain ⟨t, h⟩ := h
  exact pe_glob hg h ⟨t, rfl⟩ hdb
/-- xs[i], to be stored back -/
def rGetL : V → V → Hp → VK → Prop := fun o i H Q => ∃ p xs k v, o = .ref p ∧ i = .int k ∧ H p = some (.lst xs) ∧ 0 ≤ k ∧ xs[k.toNat]? = some v ∧ Q v H
theorem get_list : PGet X rGetL := by
  intro pins s σ H o i ov iv Q I ro ri h
  obtain ⟨p, xs, k, v, rfl, rfl, hp, h0, hx, q⟩ := h
  cases ro
  obtain ⟨t, rfl⟩ := ri
  obtain ⟨hz, its, n, r, e0⟩ := I.hok p _ hp
  have pl : PlainL s.heap p its.toArray := ⟨_, n, e0, rfl, rfl, rfl⟩
  obtain ⟨u, hu, ru⟩ := r.get hx
  have hl : k.toNat < xs.length := (List.getElem?_eq_some_iff.mp hx).1
  have hn := line63
  exact wpAny_getItem_list pl.isList h0 (by omega) (by simpa using hu) ⟨v, H, I, ru, q⟩
end
end So
end
section
set_option maxHeartbeats 2000000
/-! Small defs. -/
namespace So
open PySem PySem.Spec PyProof.Rows L2 He
def spIsInt : Sp := fun vs H Q _ => ∃ i : Int, vs = [.int i] ∧ Q (.bl true) H
/-- the payments of one order from first to last -/
def dueN (p d f l : Int) : Int := max 0 ((l - d) / p - (f - 1 - d) / p)
def spDays : Sp := fun vs H Q _ => ∃ p d f l : Int, vs = [.int p, .int d, .int f, .int l] ∧ 0 < p ∧ p ≤ 400 ∧ Q (.int (dueN p d f l)) H
def spIsAm : Sp := fun vs H Q _ => ∃ a l h : Int, vs = [.int a, .int l, .int h] ∧ Q (.bl (decide (l ≤ a ∧ a ≤ h))) H
theorem max0 (a : Int) : (if a > 0 then a else 0) = max 0 a := by
  rw [Int.max_def]
  by_cases h : 0 < a
  · rw [if_pos h, if_pos (by omega)]
  · by_cases h2 : a = 0
    · subst h2; simp
    · rw [if_neg (by omega), if_neg (by omega)]
section
variable {P : Program} {w : World} {K : PySem.W.Frag} {mg : Str → Option Value} {base : Heap}
theorem ok_is_integer (kn : Kn K mg) : Okd P w K mg base CX0 1 (ga K "is_integer") ["value"] spIsInt := by
  refine okd_of kn.f_is_integer sc_is_integer (fun vs H Q E h => ?_) (fun _ _ _ _ _ _ us hl => match us, hl with | [_], _ => rfl) (fun cdv A outer s H vs Q E hr h => ?_)
  · obtain ⟨i, rfl, _⟩ := h
    rfl
  · obtain ⟨i, rfl, hq⟩ := h
    have mi := kn.free "isinstance"
    have mt := kn.free "int"
    have mb := kn.free "bool"
    refine ⟨_, PSs.nox (pss_one (ps_ret (pe_and (pe_callB call_isi rfl mi boot_isinstance (pa_cons (pv 0) (pa_cons (pe_bltn (v := .ty "int") rfl mt boot_int rfl) pa_nil)))
      (pe_one (pe_not (pe_callB call_isi rfl mi boot_isinstance (pa_cons (pv 0) (pa_cons (pe_bltn (v := .ty "bool") rfl mb boot_bool rfl) pa_nil)))))))), ?_⟩
    refine ⟨_, rfl, _, _, _, _, _, rfl, .ty "int", .base (.int i), rfl, _, rfl, ?_⟩
    refine ⟨_, rfl, _, _, _, _, _, rfl, .ty "bool", .base (.int i), rfl, _, rfl, hq⟩
theorem ok_days_due (kn : Kn K mg) : Okd P w K mg base CX0 1 (ga K "days_due") ["period", "day", "first", "last"] spDays := by
  refine okd_of kn.f_days_due sc_days_due (fun vs H Q E h => ?_) (fun _ _ _ _ _ _ us hl => match us, hl with | [_, _, _, _], _ => rfl) (fun cdv A outer s H vs Q E hr h => ?_)
  · obtain ⟨p, d, f, l, rfl, _⟩ := h
    rfl
  · obtain ⟨p, d, f, l, rfl, h0, h1, hq⟩ := h
    have mx := kn.free "max"
    refine ⟨_, PSs.nox (pss_one (ps_ret (pe_callB (call_max2 rfl) rfl mx boot_max (pa_cons pe_int (pa_cons (pe_op op_sub (pe_op op_fdiv (pe_op op_sub (pv 3) (pv 1)) (pv 0)) (pe_op op_fdiv (pe_op op_sub (pe_op op_sub (pv 2) pe_int) (pv 1)) (pv 0))) pa_nil))))), ?_⟩
    refine ⟨_, rfl, _, rfl, _, _, rfl, rfl, _, rfl, _, _, rfl, rfl, ⟨by omega, by omega⟩, ?_⟩
    refine ⟨_, rfl, _, _, rfl, rfl, _, rfl, _, _, rfl, rfl, _, rfl, _, _, rfl, rfl, ⟨by omega, by omega⟩, _, _, rfl, rfl, _, _, rfl, ?_⟩
    rw [max0]
    exact hq
theorem ok_is_amount (kn : Kn K mg) : Okd P w K mg base CX0 2 (ga K "is_amount") ["amount", "low", "high"] spIsAm := by
  refine okd_of kn.f_is_amount sc_is_amount (fun vs H Q E h => ?_) (fun _ _ _ _ _ _ us hl => match us, hl with | [_, _, _], _ => rfl) (fun cdv A outer s H vs Q E hr h => ?_)
  · obtain ⟨a, l, h, rfl, _⟩ := h
    rfl
  · obtain ⟨a, l, u, rfl, hq⟩ := h
    refine ⟨_, PSs.nox (pss_one (ps_ret (pe_and (pf (ok_is_integer kn) hr (kn.glo "is_integer") pass0 (pa_cons (pv 0) pa_nil)) (pe_one (pe_chain op_le op_le (pv 1) (pv 0) (pv 2)))))), ?_⟩
    refine ⟨_, rfl, _, rfl, _, rfl, ?_⟩
    refine ⟨_, rfl, _, rfl, _, _, rfl, rfl, _, rfl, ?_⟩
    refine ite2 (fun h => ?_) (fun h => ?_)
    · refine ⟨_, rfl, _, _, rfl, rfl, ?_⟩
      have h1 : l ≤ a := of_decide_eq_true h
      have e : decide (a ≤ u) = decide (l ≤ a ∧ a ≤ u) := by simp [h1]
      show Q (.bl (decide (a ≤ u))) H
      rw [e]
      exact hq
    · have h1 : ¬ l ≤ a := fun z => h (decide_eq_true z)
      have e : false = decide (l ≤ a ∧ a ≤ u) := by simp [h1]
      show Q (.bl false) H
      rw [e]
      exact hq
end
end So
end
section
set_option maxHeartbeats 2000000
/-! Turns below a level. -/
namespace So
open PySem PySem.Spec PyProof.Rows L2 He
def oi : Option Int → V
  | none => .non
  | some i => .int i
def firstT (a d l : Int) : Option Int := if a < l then some 0 else if d < 0 then some ((a - l) / (0 - d) + 1) else none
def blk (r : Option Int) (st : Int) : Bool := match r with
  | some n => decide (n ≤ st)
  | none => false
def cap (r : Option Int) (e : Int) : Int := match r with
  | none => e
  | some n => min e n
def lowT (a d l : Int) (r : Option Int) : Int × Option Int := match firstT a d l with
  | none => (0, some 0)
  | some st => if blk r st = true then (0, some 0) else if d ≤ 0 then (st, r) else (0, some (cap r ((l - a - 1) / d + 1)))
theorem lowT_none {a d l : Int} {r : Option Int} (e : firstT a d l = none) : lowT a d l r = (0, some 0) := by
  unfold lowT
  rw [e]
theorem lowT_some {a d l st : Int} {r : Option Int} (e : firstT a d l = some st) : lowT a d l r = if blk r st = true then (0, some 0) else if d ≤ 0 then (st, r) else (0, some (cap r ((l - a - 1) / d + 1))) := by
  unfold lowT
  rw [e]
abbrev Sm (d : Int) : Prop := -1000000 ≤ d ∧ d ≤ 1000000
def spFirstT : Sp := fun vs H Q _ => ∃ a d l : Int, vs = [.int a, .int d, .int l] ∧ Sm d ∧ Q (oi (firstT a d l)) H
def spLowT (T : Wt) : Sp := fun vs H Q _ => ∃ (a d l : Int) (r : Option Int), vs = [.int a, .int d, .int l, oi r] ∧ Sm d ∧ Tbs T H ∧ ∀ p H', Gr T H H' → H p = none → H' p = some (.tup [.int (lowT a d l r).1, oi (lowT a d l r).2]) → Q (.ref p) H'
theorem min_ite (a b : Int) : (if b < a then b else a) = min a b := by
  rw [Int.min_def]
  by_cases h : b < a
  · rw [if_pos h, if_neg (by omega)]
  · rw [if_neg h, if_pos (by omega)]
theorem oi_non (r : Option Int) : decide (oi r = .non) = r.isNone := by
  cases r <;> simp [oi]
section
variable {P : Program} {w : World} {K : PySem.W.Frag} {mg : Str → Option Value} {base : Heap} {T : Wt}
theorem ok_first_turn (kn : Kn K mg) : Okd P w K mg base CX0 1 (ga K "first_turn") ["amount", "drift", "level"] spFirstT := by
  refine okd_of kn.f_first_turn sc_first_turn (fun vs H Q E h => ?_) (fun _ _ _ _ _ _ us hl => match us, hl with | [_, _, _], _ => rfl) (fun cdv A outer s H vs Q E hr h => ?_)
  · obtain ⟨a, d, l, rfl, _⟩ := h
    rfl
  · obtain ⟨a, d, l, rfl, hd, hq⟩ := h
    refine ⟨_, PSs.nox (pss_cons (ps_if (pt_cmpR op_lt (pv 0) (pv 2) (nomark _)) (pss_one (ps_ret pe_int)) pss_nil)
      (pss_one (ps_ret (pe_ifExp (pt_cmpR op_lt (pv 1) pe_int (nomark _)) (pe_op op_add (pe_op op_fdiv (pe_op op_sub (pv 0) (pv 2)) (pe_op op_sub pe_int (pv 1))) pe_int) pe_non)))), ?_⟩
    refine ⟨_, rfl, _, rfl, _, _, rfl, rfl, _, rfl, ?_⟩
    unfold firstT at hq
    refine ite2 (fun h => ?_) (fun h => ?_)
    · rw [if_pos (of_decide_eq_true h)] at hq
      exact hq
    · rw [if_neg (fun z => h (decide_eq_true z))] at hq
      refine ⟨_, rfl, _, _, rfl, rfl, _, rfl, ?_⟩
      refine ite2 (fun h => ?_) (fun h => ?_)
      · have h1 : d < 0 := of_decide_eq_true h
        rw [if_pos h1] at hq
        exact ⟨_, rfl, _, rfl, _, _, rfl, rfl, _, rfl, _, _, rfl, rfl, _, _, rfl, rfl, ⟨by omega, by have := hd.1; omega⟩, _, _, rfl, rfl, hq⟩
      · rw [if_neg (fun z => h (decide_eq_true z))] at hq
        exact hq
theorem ok_low_turns (kn : Kn K mg) : Okd P w K mg base CX0 2 (ga K "low_turns") ["amount", "drift", "level", "rounds"] (spLowT T) := by
  refine okd_of kn.f_low_turns sc_low_turns (fun vs H Q E h => ?_) (fun _ _ _ _ _ _ us hl => match us, hl with | [_, _, _, _], _ => rfl) (fun cdv A outer s H vs Q E hr h => ?_)
  · obtain ⟨a, d, l, r, rfl, _⟩ := h
    rfl
  · obtain ⟨a, d, l, r, rfl, hd, tb, hq⟩ := h
    refine ⟨_, PSs.nox (pss_cons (ps_set (i := 4) sc_low_turns.nd rfl (.inl rfl) (pf (ok_first_turn kn) hr (kn.glo "first_turn") pass0 (pa_cons (pv 0) (pa_cons (pv 1) (pa_cons (pv 2) pa_nil)))))
      (pss_cons (ps_if (pw_or (pt_cmp (pc_isN (pv 4))) (pw_or1 (pw_and (pt_cmp (pc_notN (pv 3))) (pw_and1 (pt_cmpR op_ge (pv 4) (pv 3) (nomark _)))).pt)).pt (pss_one (ps_ret (pe_tup (pa_cons pe_int (pa_cons pe_int pa_nil))))) pss_nil)
      (pss_cons (ps_if (pt_cmpR op_le (pv 1) pe_int (nomark _)) (pss_one (ps_ret (pe_tup (pa_cons (pv 4) (pa_cons (pv 3) pa_nil))))) pss_nil)
      (pss_cons (ps_set (i := 5) sc_low_turns.nd rfl (.inl rfl) (pe_op op_add (pe_op op_fdiv (pe_op op_sub (pe_op op_sub (pv 2) (pv 0)) pe_int) (pv 1)) pe_int))
      (pss_one (ps_ret (pe_tup (pa_cons pe_int (pa_cons (pe_ifExp (pt_cmp (pc_isN (pv 3))) (pv 5) (pe_callB (call_min2 rfl) rfl (kn.free "min") boot_min (pa_cons (pv 5) (pa_cons (pv 3) pa_nil)))) pa_nil))))))))), ?_⟩
    -- start = first_turn(..)
    refine ⟨_, rfl, _, rfl, _, rfl, _, _, _, rfl, hd, ?_⟩
    have fin : ∀ xs : List V, xs = [.int (lowT a d l r).1, oi (lowT a d l r).2] → xs.length ≤ sizeLine ∧ ∀ p, H p = none → Q (.ref p) (upd H p (.tup xs)) := fun xs e => by
      subst e
      exact ⟨(by decide : 2 ≤ sizeLine), fun p hp => hq p _ ((Gr.refl tb).new hp) hp upd_same⟩
    refine ⟨_, rfl, _, rfl, ?_⟩
    cases e : firstT a d l with
    | none =>
      exact fin _ (by rw [lowT_none e] <;> rfl)
    | some st =>
      refine ⟨_, rfl, _, rfl, ?_⟩
      have le := lowT_some (r := r) e
      cases r with
      | none =>
        refine ⟨_, rfl, _, _, rfl, rfl, _, rfl, ?_⟩
        rw [if_neg (show ¬ blk none st = true from Bool.false_ne_true)] at le
        refine ite2 (fun h => ?_) (fun h => ?_)
        · rw [if_pos (of_decide_eq_true h)] at le
          refine ⟨_, rfl, _, rfl, ?_⟩
          exact fin _ (by rw [le]; rfl)
        · have hn : ¬ d ≤ 0 := fun z => h (decide_eq_true z)
          rw [if_neg hn] at le
          refine ⟨_, rfl, _, rfl, _, _, rfl, rfl, _, _, rfl, rfl, _, rfl, _, _, rfl, rfl, ⟨by omega, by have := hd.2; omega⟩, _, _, rfl, rfl, ?_⟩
          refine ⟨_, rfl, _, rfl, _, rfl, ?_⟩
          exact fin _ (by rw [le]; rfl)
      | some n =>
        refine ⟨_, rfl, _, rfl, _, _, rfl, rfl, _, rfl, ?_⟩
        refine ite2 (fun h => ?_) (fun h => ?_)
        · rw [if_pos (show blk (some n) st = true from decide_eq_true (of_decide_eq_true h))] at le
          exact fin _ (by rw [le]; rfl)
        · rw [if_neg (fun z : blk (some n) st = true => h (decide_eq_true (of_decide_eq_true z)))] at le
          refine ⟨_, rfl, _, _, rfl, rfl, _, rfl, ?_⟩
          refine ite2 (fun h => ?_) (fun h => ?_)
          · rw [if_pos (of_decide_eq_true h)] at le
            refine ⟨_, rfl, _, rfl, ?_⟩
            exact fin _ (by rw [le]; rfl)
          · have hn : ¬ d ≤ 0 := fun z => h (decide_eq_true z)
            rw [if_neg hn] at le
            refine ⟨_, rfl, _, rfl, _, _, rfl, rfl, _, _, rfl, rfl, _, rfl, _, _, rfl, rfl, ⟨by omega, by have := hd.2; omega⟩, _, _, rfl, rfl, ?_⟩
            refine ⟨_, rfl, _, rfl, _, rfl, _, rfl, _, _, rfl, ?_⟩
            exact fin _ (by rw [le, min_ite]; rfl)
end
end So
end
section
set_option maxHeartbeats 2000000
/-! min of what an iterator gives, one step at a time. -/
namespace So
open PySem PySem.Spec PyProof.Rows L2 He
abbrev mlO (xs : Array Value) (c : Nat) : Obj := { cls := .type "list", dict := none, data := .seq xs c, slots := #[] }
abbrev minC (I S : Addr) : Code := .builtin "min.loop" ⟨[.ref I, .none, .ref S], []⟩
section
variable {prog : Program} {w : World} {A : Around} {I S : Addr} {R : Result → Shared → Prop} {s : Shared} {c : Nat}
theorem min_first (hS : s.heap.get? S = some (mlO #[] c))
    (h : wpAny (model prog w) A.in1 (pyNext (.ref I)) (fun r s1 => ∃ v, r = some v ∧ s1.heap.get? S = some (mlO #[] c) ∧ ∀ h' c', (∀ b o, b ≠ S → s1.heap.get? b = some o → h'.get? b = some o) → h'.get? S = some (mlO #[v, v] c') → codeAny (model prog w) A (minC I S) R { s1 with heap := h' })
      (fun e s1 => s1.heap.get? S = some (mlO #[] c) ∧ ∀ h', (∀ b o, b ≠ S → s1.heap.get? b = some o → h'.get? b = some o) → R (.error e) { s1 with heap := h' }) s) : codeAny (model prog w) A (minC I S) R s := by
  have hname : (toString "min" ++ toString ".loop" : String) = "min.loop" := by decide
  refine codeAny_builtin F.entry_min_loop ?_
  rw [Around.under_plainId F.plain_min_loop _]
  show wpAny _ A.in1 (seqItems? (.ref S) >>= _) _ _ s
  refine wpAny_bind (wpAny_seqItems hS rfl ?_)
  show wpAny _ A.in1 (tryCatch (pyNext (.ref I)) _ >>= _) _ _ s
  refine wpAny_bind (wpAny_tryCatch (wpAny_mono h (fun r s1 z => ?_) fun e s1 z => ?_))
  · obtain ⟨v, rfl, hS1, k⟩ := z
    show wpAny _ A.in1 (updateSeq S (fun _ => #[v, v]) >>= _) _ _ _
    refine wpAny_bind ?_
    refine wpAny_updateSeq hS1 rfl ?_
    rw [hname]
    exact wpAny_pure ⟨plainId_quiet F.plain_min_loop _, k _ _ (fun b o hb e => (Heap.get?_update_other _ _ (Ne.symm hb)).trans e) (Heap.get?_update_self _ hS1 rfl)⟩
  · obtain ⟨hS1, k⟩ := z
    show wpAny _ A.in1 (updateSeq S (fun _ => #[]) >>= _) _ _ _
    refine wpAny_bind ?_
    refine wpAny_updateSeq hS1 rfl (wpAny_bind (wpAny_letGo (wpAny_throw ?_)))
    exact k _ fun b o hb e => (Heap.get?_update_other _ _ (Ne.symm hb)).trans e
theorem min_more {vb : Value} (hS : s.heap.get? S = some (mlO #[vb, vb] c))
    (h : wpAny (model prog w) A.in1 (pyNext (.ref I)) (fun r s1 => s1.heap.get? S = some (mlO #[vb, vb] c) ∧ match r with
      | none => ∀ h', (∀ b o, b ≠ S → s1.heap.get? b = some o → h'.get? b = some o) → R (.ok (.ret vb)) { s1 with heap := h' }
      | some v => ∃ b : Bool, (∀ (Q : Value → Shared → Prop) (E : Value → Shared → Prop), Q (.bool b) s1 → wpAny (model prog w) A.in1 (richCompare .Lt v vb) Q E s1) ∧
          ∀ h' c', (∀ b o, b ≠ S → s1.heap.get? b = some o → h'.get? b = some o) → h'.get? S = some (mlO (if b = true then #[v, v] else #[vb, vb]) c') → codeAny (model prog w) A (minC I S) R { s1 with heap := h' })
      (fun e s1 => s1.heap.get? S = some (mlO #[vb, vb] c) ∧ ∀ h', (∀ b o, b ≠ S → s1.heap.get? b = some o → h'.get? b = some o) → R (.error e) { s1 with heap := h' }) s) : codeAny (model prog w) A (minC I S) R s := by
  have hname : (toString "min" ++ toString ".loop" : String) = "min.loop" := by decide
  refine codeAny_builtin F.entry_min_loop ?_
  rw [Around.under_plainId F.plain_min_loop _]
  show wpAny _ A.in1 (seqItems? (.ref S) >>= _) _ _ s
  refine wpAny_bind (wpAny_seqItems hS rfl ?_)
  show wpAny _ A.in1 (tryCatch (pyNext (.ref I)) _ >>= _) _ _ s
  refine wpAny_bind (wpAny_tryCatch (wpAny_mono h (fun r s1 z => ?_) fun e s1 z => ?_))
  · obtain ⟨hS1, k⟩ := z
    cases r with
    | none =>
      show wpAny _ A.in1 (updateSeq S (fun _ => #[]) >>= _) _ _ _
      refine wpAny_bind ?_
      refine wpAny_updateSeq hS1 rfl (wpAny_bind (wpAny_letGo (wpAny_pure ?_)))
      exact k _ fun b o hb e => (Heap.get?_update_other _ _ (Ne.symm hb)).trans e
    | some v =>
      obtain ⟨b, hc, k⟩ := k
      show wpAny _ A.in1 (tryCatch (holding [v, v] (richCompare .Lt v vb >>= _)) _ >>= _) _ _ _
      refine wpAny_bind (wpAny_tryCatch (wpAny_holding (wpAny_bind (hc _ _ ?_))))
      refine wpAny_bind (wpAny_holding (wpAny_truthy_bool ?_))
      refine wpAny_bind (wpAny_letGo (wpAny_pure ?_))
      cases b with
      | true =>
        simp only [if_true]
        refine wpAny_bind ?_
        refine wpAny_updateSeq hS1 rfl (wpAny_bind (wpAny_letGo ?_))
        rw [hname]
        exact wpAny_pure ⟨plainId_quiet F.plain_min_loop _, k _ _ (fun b o hb e => (Heap.get?_update_other _ _ (Ne.symm hb)).trans e) (Heap.get?_update_self _ hS1 rfl)⟩
      | false =>
        simp only [Bool.false_eq_true, if_false]
        refine wpAny_bind (wpAny_letGo ?_)
        rw [hname]
        exact wpAny_pure ⟨plainId_quiet F.plain_min_loop _, k s1.heap c (fun b o hb e => e) hS1⟩
  · obtain ⟨hS1, k⟩ := z
    show wpAny _ A.in1 (updateSeq S (fun _ => #[]) >>= _) _ _ _
    refine wpAny_bind ?_
    refine wpAny_updateSeq hS1 rfl (wpAny_bind (wpAny_letGo (wpAny_throw ?_)))
    exact k _ fun b o hb e => (Heap.get?_update_other _ _ (Ne.symm hb)).trans e
/-- min(x) -/
theorem call_min_go {E : Value → Shared → Prop} {x : Value} {Q : Value → Shared → Prop}
    (h : wpAny (model prog w) A.in1 (pyIter x) (fun it s2 => ∃ I, it = .ref I ∧ ∀ c, codeAny (model prog w) A (minC I s2.heap.objs.size) (fun r s' => match r with
      | .ok (.ret v) => Q v s'
      | .error e => E e s'
      | _ => False) { s2 with heap := s2.heap.push (mlO #[] c) }) E s) : wpAny (model prog w) A (call (.builtin "min") [x]) Q E s := by
  have hname : (toString "min" ++ toString ".loop" : String) = "min.loop" := by decide
  refine call_function_tree F.kind_min F.plain_min F.entry_min (F.args_min1 _) ?_
  show wpAny _ A.in1 (Builtin.Builtins.bindParams "min" ["key", "default"] 0 ⟨[], []⟩ >>= _) _ _ s
  refine wpAny_bind (wpAny_of_eq (show Builtin.Builtins.bindParams "min" ["key", "default"] 0 ⟨[], []⟩ = pure [none, none] from rfl) ?_)
  refine wpAny_bind (wpAny_pure ?_)
  refine wpAny_bind (wpAny_mono h (fun it s2 h2 => ?_) fun _ _ e => e)
  obtain ⟨I, rfl, k⟩ := h2
  refine wpAny_bind (wpAny_newObj_type ?_)
  rw [hname]
  refine wpAny_pure ⟨plainId_quiet F.plain_min_loop _, codeAny_mono (k _) fun r s' z => ?_⟩
  cases r with
  | error e => exact z
  | ok f =>
    cases f with
    | ret v => exact z
    | _ => exact z.elim
end
end So
end
section
set_option maxHeartbeats 2000000
/-! enumerate over a tuple; loops over enumerate. -/
namespace PySem
open Sem (wp)
open AutoSeq1 (wpAny_loadPart')
theorem so_meets_enumT (l : Addr) (items : Array Value) :
    Meets (Builtin.«enumerate.__new__» ⟨[.type "enumerate", .ref l], []⟩) (fun _ R s => s.heap.IsTuple l items ∧
      R (.ok (.ret (.ref (s.heap.push { cls := .type "tuple_iterator", data := .fields #[.ref l, .int 0 0] }).objs.size)))
        { s with heap := (s.heap.push { cls := .type "tuple_iterator", data := .fields #[.ref l, .int 0 0] }).push { cls := .type "enumerate", data := .fields #[.none, .bool false, .ref s.heap.objs.size, rawInt 0, .none, .none] } }) :=
  .of_wp fun prog w A R s h => by
    obtain ⟨hp, g, d, tk, os⟩ := s; obtain ⟨hL, h⟩ := h
    have hsub := sub_enumerate
    have q1 : ∀ {A' : Around} {E : Value → Shared → Prop} {Q : Value → Shared → Prop}, Q (.ref hp.objs.size) ⟨(hp.push { cls := .type "tuple_iterator", data := .fields #[.ref l, .int 0 0] }), g, d, tk, os⟩ → wpAny (model prog w) A' (pyIter (.ref l)) Q E ⟨hp, g, d, tk, os⟩ :=
      fun q => wpAny_pyIter_tuple hL q
    wp_walk using q1
    refine wpAny_stack_any fun st => wpAny_pure ?_
    split
    · rename_i c _ _ _ _ _
      cases (c == Value.type "enumerate")
      · wp_walk using q1
        exact ⟨_, rfl, h⟩
      · wp_walk using q1
        exact ⟨_, rfl, h⟩
    · wp_walk using q1
      exact ⟨_, rfl, h⟩
theorem so_call_enumT {prog : Program} {w : World} {A : Around} {E : Value → Shared → Prop} {s : Shared} {l : Addr} {items : Array Value} {Q : Value → Shared → Prop} (hL : s.heap.IsTuple l items)
    (h : ∀ h', IsEnum h' (s.heap.objs.size + 1) s.heap.objs.size 0 .none → h'.IsTupleIter s.heap.objs.size l 0 → h'.objs.size = s.heap.objs.size + 2 →
      (∀ b o, s.heap.get? b = some o → h'.get? b = some o) → Q (.ref (s.heap.objs.size + 1)) { s with heap := h' }) :
    wpAny (model prog w) A (call (.type "enumerate") [.ref l]) Q E s := by
  refine callType_new F.called_enumerate (by decide) (F.typeCall_enumerate_1 _) (F.newCall_enumerate_1 _) (fun obj => F.args_object_init_2 obj _) F.entry_enumerate_new (so_meets_enumT l items) ⟨hL, ?_⟩
  have hz : (s.heap.push { cls := .type "tuple_iterator", data := .fields #[.ref l, .int 0 0] }).objs.size = s.heap.objs.size + 1 := Heap.size_push ..
  show _ ∧ _
  rw [hz]
  have he := Heap.get?_push_size (s.heap.push { cls := .type "tuple_iterator", data := .fields #[.ref l, .int 0 0] }) (o := { cls := .type "enumerate", data := .fields #[.none, .bool false, .ref s.heap.objs.size, rawInt 0, .none, .none] }) rfl
  rw [hz] at he
  exact ⟨⟨_, he, rfl⟩, h _ he ⟨_, Heap.get?_push_of_some _ (Heap.get?_push_size _ rfl), rfl, rfl⟩ (by rw [Heap.size_push, hz]) fun b o x => Heap.get?_push_of_some _ (Heap.get?_push_of_some _ x)⟩
end PySem
namespace So
open PySem PySem.Spec PyProof.Rows L2 He
/-- the tuple at a, each item in a new pair -/
def IteT (K : PySem.W.Frag) (a : Addr) : It :=
  ⟨fun i H => ∃ (xs : List V) (x : V), SqT K H a xs ∧ xs[i]? = some x, fun i H v H' => ∃ T x, v = .ref T ∧ H T = none ∧ H' = upd H T (.tup [.int (i : Nat), x]) ∧ ∀ xs, SqT K H a xs → xs[i]? = some x, fun i H => ∃ xs : List V, SqT K H a xs ∧ xs.length ≤ i⟩
theorem turn_enumT {P : Program} {w : World} {K : PySem.W.Frag} {elts : List Expr} {kk : Nat} {tpos : Pos} (a e it : Addr) :
    Turn P w K (.Tuple elts kk tpos) (IteT K a) [e, it] e (fun i h => (∃ old, IsEnum h e it ((i : Nat) : Int) old) ∧ h.IsTupleIter it a i ∧ e ≠ it ∧ a ≠ it ∧ a ≠ e) where
  mem := by simp
  obj := fun i h st b hb => by
    obtain ⟨⟨old, he⟩, ⟨o, ho, hc, hd⟩, _⟩ := st
    have e' : b = e ∨ b = it := by simpa using hb
    rcases e' with z | z
    · rw [z]; exact ⟨_, he, fun v q => nomatch q⟩
    · rw [z]; exact ⟨o, ho, fun v q => by rw [hd] at q; cases q⟩
  keep := fun i h h' st k => let ⟨⟨old, he⟩, hi, hne⟩ := st; ⟨⟨old, k e (by simp) _ he⟩, hi.at fun o q => k it (by simp) o q, hne⟩
  item := by
    intro X hP hw hK hc i pins s σ H E I hf st hg
    subst hP hw hK
    obtain ⟨⟨old, he⟩, hit, hne, hai, hae⟩ := st
    obtain ⟨xs, x, hq, hx⟩ := hg
    obtain ⟨its, rv, p, hz⟩ := I.tuple hq
    obtain ⟨u, hu, ru⟩ := rv.get hx
    have hlt : i < its.toArray.size := by
      have := (List.getElem?_eq_some_iff.mp hu).1
      simpa using this
    have hel : e < s.heap.objs.size := Heap.lt_size he
    have hil : it < s.heap.objs.size := by obtain ⟨_, q, _⟩ := hit; exact Heap.lt_size q
    have hT : s.heap.IsTuple a its.toArray := p
    refine wpAny_pyNext_enum_itemD (Draws.tuple (A := X.A.in1) (I.ok.hd hc) it a hai its.toArray) he ⟨hit, hT⟩ hlt hne (by simp [hne, Ne.symm hae]) fun x' h' tk hx' ho st' hTn hsz hk => ?_
    obtain rfl : u = x' := by
      rw [show its.toArray[i]? = some u by simpa using hu] at hx'
      exact Option.some.inj hx'
    refine ⟨_, rfl, wpAny_letOwnedTupleGo_enum (s := { s with heap := h', toks := tk + 1 }) ho fun h'' he' sb => ?_⟩
    have hT2 : h''.get? s.heap.objs.size = some { cls := .type "tuple", data := .seq #[.int i tk, u] } := (sb.2 _ (Nat.ne_of_gt hel)).trans hTn
    have new : ObjOk X.prog X.w (upd H s.heap.objs.size (.tup [.int (i : Nat), x])) h'' s.heap.objs.size (.tup [.int (i : Nat), x]) :=
      ⟨by show 2 ≤ sizeLine; decide, [.int i tk, u], .cons ⟨_, rfl⟩ (.cons ru .nil), ⟨_, hT2, rfl, _, rfl⟩⟩
    have I1 : Inv X pins σ (upd H s.heap.objs.size (.tup [.int (i : Nat), x])) { s with heap := h'', toks := tk + 1 } :=
      I.turnedNew (ch := [e, it]) (fun b ob hb q => (sb.2 b (fun z => hb (by simp [z]))).trans (hk b ob (fun z => hb (by simp [z])) (fun z => hb (by simp [z])) q)) hf (Nat.le_refl _) new
    refine ⟨.ref s.heap.objs.size, _, I1, rfl, ⟨_, x, rfl, I.hok.fresh (Nat.le_refl _), rfl, fun ys hy => by rw [I.tuple_inj hy hq]; exact hx⟩, ⟨⟨u, ?_⟩, st'.1.at fun o q => (sb.2 it (Ne.symm hne)).trans q, hne, hai, hae⟩, fun b hb => ?_⟩
    · have e1 : ((i + 1 : Nat) : Int) = (i : Int) + 1 := by omega
      rw [e1]; exact he'
    · have hb' : b < s.heap.objs.size := by
        have e' : b = e ∨ b = it := by simpa using hb
        rcases e' with z | z
        · rw [z]; exact hel
        · rw [z]; exact hil
      rw [upd_ne (Nat.ne_of_lt hb')]
      exact (hf b hb).1
  done := by
    intro X hP hw hK hc i pins s σ H E I hf st hg
    subst hP hw hK
    obtain ⟨⟨old, he⟩, hit, hne, hai, hae⟩ := st
    obtain ⟨xs, hq, hx⟩ := hg
    obtain ⟨its, rv, p, hz⟩ := I.tuple hq
    obtain ⟨f0, f1, f2, f3, f4, f5⟩ := hf it (by simp)
    have hl := rv.length
    have hT : s.heap.IsTuple a its.toArray := p
    have D : Draws X.prog X.w X.A.in1 it [it, a] 0 (fun _ _ => False) (fun _ h => h.IsTupleIter it a i ∧ h.IsTuple a its.toArray) := by
      refine ⟨fun _ _ st => let ⟨o, ho, _⟩ := st.1; ⟨o, ho⟩, fun _ _ _ st hk => ⟨st.1.at fun o e => hk it (by simp) o e, st.2.at fun o e => hk a (by simp) o e⟩, fun j s Q E hj st hQ => absurd hj (Nat.not_lt_zero _), fun s Q E st hE => ?_⟩
      exact wpAny_nextOf_tuple_end (I.ok.hd hc) st.1 st.2 (by simp; omega) hE
    exact wpAny_pyNext_enum_endD D he ⟨hit, hT⟩ fun h' eb => ⟨rfl, I.turned (t' := s.toks) (fun b o hb q => eb b o hb q) f0 f1 f3 f4 f5⟩
  self := fun A i s Q E st h => let ⟨⟨_, he⟩, _⟩ := st; wpAny_pyIter_enum he h
def iEnumT (K : PySem.W.Frag) (ta : TA) : TI := fun σ H R => ta σ H fun vs H1 => ∃ a xs, vs = [.ref a] ∧ SqT K H1 a xs ∧ R (IteT K a) H1
theorem pi_enumT {X : Cx} {e : Expr} {ta : TA} {p pos tpos : Pos} {elts : List Expr} {kk : Nat} (hg : Gl X "enumerate") (hm : X.mg "enumerate" = none) (ha : PA X [e] ta) (hs : starEach [e] X.env = [(false, eval e X.env)] := by rfl) :
    PI X (.Tuple elts kk tpos) (.Call (.Name "enumerate" p) [e] [] pos) (iEnumT X.K ta) := by
  refine ⟨fun pins s σ H R I h => ?_⟩
  refine Call_ (ld_blt I hg hm boot_enumerate (PyProof.Rows.callWith_type1 (thn (ha.run pos pins s σ H _ I h) fun us s1 ⟨vs, H1, I1, r1, q1⟩ => ?_) hs rfl))
  obtain ⟨a, xs, ex, hq, q⟩ := q1
  subst ex
  cases r1 with
  | cons r rr =>
    cases rr
    cases r
    obtain ⟨its, rv, p', hz⟩ := I1.tuple hq
    have hT : s1.heap.IsTuple a its.toArray := p'
    have hal : a < s1.heap.objs.size := by obtain ⟨o, ho, _⟩ := p'; exact Heap.lt_size ho
    refine so_call_enumT hT fun h' he hit hsz hk => wpAny_pyIter_enum he ?_
    have I2 : Inv X pins σ H1 { s1 with heap := h' } := I1.kept (t' := s1.toks) hk
    refine ⟨s1.heap.objs.size + 1, [s1.heap.objs.size + 1, s1.heap.objs.size], _, _, H1, rfl, I2, turn_enumT a (s1.heap.objs.size + 1) s1.heap.objs.size, ⟨⟨.none, he⟩, hit, Nat.succ_ne_self _, Nat.ne_of_lt hal, Nat.ne_of_lt (Nat.lt_succ_of_lt hal)⟩, fun b hb => ?_, q⟩
    have e' : b = s1.heap.objs.size + 1 ∨ b = s1.heap.objs.size := by simpa using hb
    have hle : s1.heap.objs.size ≤ b := by
      rcases e' with z | z
      · rw [z]; exact Nat.le_add_right _ _
      · rw [z]; exact Nat.le_refl _
    exact I1.fpOk hle (I1.hok.fresh hle)
/-- a loop over enumerate of a list -/
theorem for_enum {K : PySem.W.Frag} {a : Addr} {xs : List V} {g : TG} {tb : TS} {D : Ends} {σ : L2.St} {H : Hp} (Pv : Nat → L2.St → Hp → Prop) (h0 : Pv 0 σ H) (hl : ∀ i σ H, i ≤ xs.length → Pv i σ H → SqL K H a xs)
    (hs : ∀ (i : Nat) (x : V) (T : Addr) (σ : L2.St) (H : Hp), xs[i]? = some x → Pv i σ H → H T = none → g (.ref T) σ (upd H T (.tup [.int (i : Nat), x])) fun σ2 H2 => tb { D with nx := Pv (i + 1), ct := Pv (i + 1), bk := D.nx } σ2 H2) (hd : ∀ σ H, Pv xs.length σ H → D.nx σ H) :
    ∃ W : Nat → Nat → L2.St → Hp → Prop, (∃ m, W 0 m σ H) ∧ ∀ i m σ H, W i m σ H →
      ((Ite K a).stop i H ∧ D.nx σ H) ∨ ((Ite K a).go i H ∧ ∃ N : L2.St → Hp → Prop, (∀ σ' H', N σ' H' → ∃ m', m' < m ∧ W (i + 1) m' σ' H') ∧ ∀ v H', (Ite K a).yld i H v H' → g v σ H' fun σ2 H2 => tb { D with nx := N, ct := N, bk := D.nx } σ2 H2) := by
  refine ⟨fun i m σ H => m = xs.length - i ∧ i ≤ xs.length ∧ Pv i σ H, ⟨xs.length, rfl, Nat.zero_le _, h0⟩, ?_⟩
  rintro i m σ H ⟨rfl, hi, p⟩
  have q := hl i σ H hi p
  by_cases hlt : i < xs.length
  · have hx : xs[i]? = some xs[i] := List.getElem?_eq_getElem hlt
    refine .inr ⟨⟨xs, _, q, hx⟩, Pv (i + 1), fun σ' H' p' => ⟨xs.length - (i + 1), by omega, rfl, hlt, p'⟩, fun v H' y => ?_⟩
    obtain ⟨T, x, rfl, hT, rfl, f⟩ := y
    exact hs i x T σ H (f xs q) p hT
  · have e : i = xs.length := by omega
    subst e
    exact .inl ⟨⟨xs, q, Nat.le_refl _⟩, hd σ H p⟩
/-- a loop over enumerate of a tuple -/
theorem for_enumT {K : PySem.W.Frag} {a : Addr} {xs : List V} {g : TG} {tb : TS} {D : Ends} {σ : L2.St} {H : Hp} (Pv : Nat → L2.St → Hp → Prop) (h0 : Pv 0 σ H) (hl : ∀ i σ H, i ≤ xs.length → Pv i σ H → SqT K H a xs)
    (hs : ∀ (i : Nat) (x : V) (T : Addr) (σ : L2.St) (H : Hp), xs[i]? = some x → Pv i σ H → H T = none → g (.ref T) σ (upd H T (.tup [.int (i : Nat), x])) fun σ2 H2 => tb { D with nx := Pv (i + 1), ct := Pv (i + 1), bk := D.nx } σ2 H2) (hd : ∀ σ H, Pv xs.length σ H → D.nx σ H) :
    ∃ W : Nat → Nat → L2.St → Hp → Prop, (∃ m, W 0 m σ H) ∧ ∀ i m σ H, W i m σ H →
      ((IteT K a).stop i H ∧ D.nx σ H) ∨ ((IteT K a).go i H ∧ ∃ N : L2.St → Hp → Prop, (∀ σ' H', N σ' H' → ∃ m', m' < m ∧ W (i + 1) m' σ' H') ∧ ∀ v H', (IteT K a).yld i H v H' → g v σ H' fun σ2 H2 => tb { D with nx := N, ct := N, bk := D.nx } σ2 H2) := by
  refine ⟨fun i m σ H => m = xs.length - i ∧ i ≤ xs.length ∧ Pv i σ H, ⟨xs.length, rfl, Nat.zero_le _, h0⟩, ?_⟩
  rintro i m σ H ⟨rfl, hi, p⟩
  have q := hl i σ H hi p
  by_cases hlt : i < xs.length
  · have hx : xs[i]? = some xs[i] := List.getElem?_eq_getElem hlt
    refine .inr ⟨⟨xs, _, q, hx⟩, Pv (i + 1), fun σ' H' p' => ⟨xs.length - (i + 1), by omega, rfl, hlt, p'⟩, fun v H' y => ?_⟩
    obtain ⟨T, x, rfl, hT, rfl, f⟩ := y
    exact hs i x T σ H (f xs q) p hT
  · have e : i = xs.length := by omega
    subst e
    exact .inl ⟨⟨xs, q, Nat.le_refl _⟩, hd σ H p⟩
end So
end
section
set_option maxHeartbeats 2000000
/-! The least of a list of pairs of ints. -/
namespace So
open PySem PySem.Spec PyProof.Rows L2 He
def pLt (a b c d : Int) : Bool := if a = c then decide (b < d) else decide (a < c)
theorem pair_lt {A : Around} {s : Shared} {p q : Addr} {a b c d : Int} {t1 t2 t3 t4 : Tok} (hp : s.heap.IsTuple p #[.int a t1, .int b t2]) (hq : s.heap.IsTuple q #[.int c t3, .int d t4]) (hu : A.units < cLine) : Ob.RcOp .Lt A s (.ref p) (.ref q) (pLt a b c d) := by
  have z := Ob.RcOp.tuples_lt (A := A) (e := fun j => if j = 0 then decide (a = c) else decide (b = d)) (r := fun j => if j = 0 then decide (a < c) else decide (b < d)) hp hq hu (fun j h1 h2 => ?_) (fun j h1 h2 _ => ?_)
  · have e : Ob.lexAt (fun j => if j = 0 then decide (a = c) else decide (b = d)) (fun j => if j = 0 then decide (a < c) else decide (b < d)) (decide ((#[Value.int a t1, .int b t2] : Array Value).size < (#[Value.int c t3, .int d t4] : Array Value).size)) 0 (min (#[Value.int a t1, .int b t2] : Array Value).size (#[Value.int c t3, .int d t4] : Array Value).size) = pLt a b c d := by
      show Ob.lexAt _ _ (decide (2 < 2)) 0 2 = _
      rw [Ob.lexAt_succ, Ob.lexAt_succ, Ob.lexAt_zero]
      unfold pLt
      by_cases h : a = c
      · simp [h]
        by_cases h2 : b = d
        · simp [h2]
        · simp [h2]
      · simp [h]
    rw [← e]
    exact z
  · have h1' : j < 2 := h1
    match j, h1' with
    | 0, _ => exact SeqAt.EqAt.int_int a t1 c t3
    | 1, _ => exact SeqAt.EqAt.int_int b t2 d t4
  · have h1' : j < 2 := h1
    match j, h1' with
    | 0, _ => exact Ob.RcOp.lt_int a c t1 t3
    | 1, _ => exact Ob.RcOp.lt_int b d t2 t4
/-- the least of such a list: one of its items, none is less -/
def rMinP (K : PySem.W.Frag) : List V → Hp → VK → Prop := fun vs H Q => ∃ (a : Addr) (xs : List V) (k : V → Int × Int), vs = [V.ref a] ∧ SqL K H a xs ∧ 0 < xs.length ∧ (∀ x ∈ xs, ∃ t, x = V.ref t ∧ H t = some (.tup [.int (k x).1, .int (k x).2])) ∧
  ∀ m, m ∈ xs → (∀ y ∈ xs, pLt (k y).1 (k y).2 (k m).1 (k m).2 = false) → Q m H
theorem pLt_iff {a b c d : Int} : pLt a b c d = true ↔ a < c ∨ (a = c ∧ b < d) := by
  simp only [pLt]
  by_cases h : a = c
  · rw [if_pos h, decide_eq_true_iff]
    omega
  · rw [if_neg h, decide_eq_true_iff]
    omega
theorem pLt_irr (a b : Int) : pLt a b a b = false := by
  rw [Bool.eq_false_iff]
  intro z
  rw [pLt_iff] at z
  omega
/-- not less: kept when the best goes down -/
theorem pLt_down {a b c d e f : Int} (h1 : pLt a b c d = false) (h2 : pLt e f c d = true) : pLt a b e f = false := by
  rw [Bool.eq_false_iff] at h1 ⊢
  intro z
  rw [pLt_iff] at h2 z
  refine h1 (pLt_iff.mpr ?_)
  omega
theorem cr_minP {X : Cx} (hc : X.calm = true) (hu : X.A.units + 64 < cLine) : CallR X (.builtin "min") (rMinP X.K) := by
  intro pins s σ H vs us Q I r h
  obtain ⟨a, xs, k, rfl, hs, hn, hk, hq⟩ := h
  rw [Vals.ref1 r]
  obtain ⟨its, rv, hl, hz⟩ := I.list hs
  have hlen := rv.length
  have hd := I.ok.hd hc
  have hui : X.A.in1.units < cLine := by
    have z : X.A.in1.units ≤ X.A.units + 64 := by first | exact Nat.le_add_right _ _ | (show X.A.units + _ ≤ X.A.units + 64; omega)
    omega
  have hal : a < s.heap.objs.size := by obtain ⟨_, _, e, _⟩ := id hl; exact Heap.lt_size e
  -- the values as pairs
  have pairOf : ∀ (i : Nat) (u : Value), its[i]? = some u → ∃ x t t1 t2, xs[i]? = some x ∧ x = V.ref t ∧ u = .ref t ∧ s.heap.IsTuple t #[.int (k x).1 t1, .int (k x).2 t2] := fun i u hu' => by
    have hi : i < xs.length := by rw [hlen]; exact (List.getElem?_eq_some_iff.mp hu').1
    have hx : xs[i]? = some xs[i] := List.getElem?_eq_getElem hi
    obtain ⟨u', e, ru⟩ := rv.get hx
    rw [hu'] at e
    cases e
    obtain ⟨t, ht, hH⟩ := hk xs[i] (List.getElem_mem hi)
    obtain ⟨_, its2, rv2, pl⟩ := I.hok t _ hH
    rw [ht] at ru
    cases rv2 with
    | cons r1 rr => cases rr with
      | cons r2 rr => cases rr with
        | nil =>
          obtain ⟨t1, rfl⟩ := r1
          obtain ⟨t2, rfl⟩ := r2
          exact ⟨xs[i], t, t1, t2, hx, ht, ru, pl⟩
  have main : ∀ (n i : Nat) (m : V) (vb : Value) (c : Nat) (J S : Addr) (s' : Shared), its.length - i = n → i ≤ its.length → s.heap.objs.size ≤ J → J < S → (∀ b o, s.heap.get? b = some o → s'.heap.get? b = some o) → s'.os = s.os ∧ s'.gens = s.gens ∧ s'.drawn = s.drawn →
      s'.heap.get? S = some (mlO #[vb, vb] c) → s'.heap.IsListIter J a i → (∃ j : Nat, its[j]? = some vb ∧ xs[j]? = some m) → (∀ (j : Nat) (y : V), j < i → xs[j]? = some y → pLt (k y).1 (k y).2 (k m).1 (k m).2 = false) →
      codeAny (model X.prog X.w) X.A (minC J S) (fun r s' => match r with
        | .ok (.ret v) => EP X pins σ Q v s'
        | .error e => X.xe e s'
        | _ => False) s' := by
    intro n
    induction n with
    | zero =>
      intro i m vb c J S s' hni hi hJ hS hkp hsame hSo hit hm hbest
      have e : i = its.length := by omega
      subst e
      refine min_more hSo ?_
      have hl' : s'.heap.IsList a its.toArray := hl.isList.at fun o q => hkp _ o q
      refine wpAny_pyNext_list_end (A := X.A.in1) hd hit hl' (by simp) fun h' eb => ⟨eb S _ (Nat.ne_of_gt hS) hSo, fun h2 k2 => ?_⟩
      obtain ⟨o1, o2, o3⟩ := hsame
      obtain ⟨j, hj1, hj2⟩ := hm
      have kk : ∀ b o, s.heap.get? b = some o → h2.get? b = some o := fun b o q => by
        have hb : b < s.heap.objs.size := Heap.lt_size q
        exact k2 b o (Nat.ne_of_lt (Nat.lt_of_lt_of_le hb (Nat.le_trans hJ (Nat.le_of_lt hS)))) (eb b o (Nat.ne_of_lt (Nat.lt_of_lt_of_le hb hJ)) (hkp b o q))
      have I2 : Inv X pins σ H { s with heap := h2, toks := s'.toks } := I.kept kk
      have es : ({ s' with heap := h2 } : Shared) = { s with heap := h2, toks := s'.toks } := by
        cases s'
        cases o1; cases o2; cases o3
        rfl
      show EP X pins σ Q vb ({ s' with heap := h2 } : Shared)
      rw [es]
      have hxm : m ∈ xs := List.mem_of_getElem? hj2
      obtain ⟨u', e', ru⟩ := rv.get hj2
      rw [hj1] at e'
      cases e'
      refine ⟨m, H, I2, ru, hq m hxm fun y hy => ?_⟩
      obtain ⟨q, hq1, hq2⟩ := List.mem_iff_getElem.mp hy
      exact hbest q y (by omega) (by rw [List.getElem?_eq_getElem hq1, hq2])
    | succ n ih =>
      intro i m vb c J S s' hni hi hJ hS hkp hsame hSo hit hm hbest
      have hlt : i < its.length := by omega
      refine min_more hSo ?_
      have hl' : s'.heap.IsList a its.toArray := hl.isList.at fun o q => hkp _ o q
      have hu1 : its[i]? = some its[i] := List.getElem?_eq_getElem hlt
      refine wpAny_pyNext_list_item hit hl' (x := its[i]) (by simp [hlt]) fun h' hit' sb => ⟨(sb.2 S (Nat.ne_of_gt hS)).trans hSo, ?_⟩
      obtain ⟨x, t, t1, t2, hx, ex, eu, ht⟩ := pairOf i _ hu1
      obtain ⟨j, hj1, hj2⟩ := hm
      obtain ⟨xm, tm, t3, t4, hxm, exm, eum, htm⟩ := pairOf j _ hj1
      obtain rfl : m = xm := by rw [hj2] at hxm; exact Option.some.inj hxm
      have kk : ∀ b o, s.heap.get? b = some o → h'.get? b = some o := fun b o q => (sb.2 b (Nat.ne_of_lt (Nat.lt_of_lt_of_le (Heap.lt_size q) hJ))).trans (hkp b o q)
      have hx1 : x ∈ xs := List.mem_of_getElem? hx
      rw [eu, eum]
      refine ⟨pLt (k x).1 (k x).2 (k m).1 (k m).2, fun Q' E' q => pair_lt (A := X.A.in1) (s := { s' with heap := h' }) (ht.at fun o e => kk _ o e) (htm.at fun o e => kk _ o e) hui _ _ E' Q' q, fun h2 c' k2 hS2 => ?_⟩
      have hS2' : ∀ b o, b ≠ S → h'.get? b = some o → h2.get? b = some o := k2
      have kk2 : ∀ b o, s.heap.get? b = some o → h2.get? b = some o := fun b o q => k2 b o (Nat.ne_of_lt (Nat.lt_of_lt_of_le (Heap.lt_size q) (Nat.le_trans hJ (Nat.le_of_lt hS)))) (kk b o q)
      have hit2 : h2.IsListIter J a (i + 1) := hit'.at fun o e => k2 J o (Nat.ne_of_lt hS) e
      by_cases hb : pLt (k x).1 (k x).2 (k m).1 (k m).2 = true
      · rw [hb, if_pos rfl] at hS2
        refine ih (i + 1) x (.ref t) c' J S _ (by omega) hlt hJ hS kk2 hsame hS2 hit2 ⟨i, by rw [hu1, eu], hx⟩ fun q y hq1 hy => ?_
        by_cases hqi : q = i
        · subst hqi
          rw [hx] at hy
          cases hy
          exact pLt_irr _ _
        · exact pLt_down (hbest q y (by omega) hy) hb
      · rw [if_neg hb] at hS2
        refine ih (i + 1) m (.ref tm) c' J S _ (by omega) hlt hJ hS kk2 hsame hS2 hit2 ⟨j, by rw [hj1, eum], hj2⟩ fun q y hq1 hy => ?_
        by_cases hqi : q = i
        · subst hqi
          rw [hx] at hy
          cases hy
          simpa using hb
        · exact hbest q y (by omega) hy
  refine call_min_go ?_
  refine wpAny_pyIter_list hl.isList ?_
  refine ⟨_, rfl, fun c => ?_⟩
  have hlt : 0 < its.length := by omega
  have hu1 : its[0]? = some its[0] := List.getElem?_eq_getElem hlt
  obtain ⟨x, t, t1, t2, hx, ex, eu, ht⟩ := pairOf 0 _ hu1
  have z1 : (s.heap.push { cls := .type "list_iterator", data := .fields #[.ref a, .int 0 0] }).objs.size = s.heap.objs.size + 1 := Heap.size_push ..
  have hS0 := Heap.get?_push_size (s.heap.push { cls := .type "list_iterator", data := .fields #[.ref a, .int 0 0] }) (o := mlO #[] c) rfl
  refine min_first (c := c) hS0 ?_
  have k0 : ∀ b o, s.heap.get? b = some o → ((s.heap.push { cls := .type "list_iterator", data := .fields #[.ref a, .int 0 0] }).push (mlO #[] c)).get? b = some o := fun b o q => Heap.get?_push_of_some _ (Heap.get?_push_of_some _ q)
  have hit0 : ((s.heap.push { cls := .type "list_iterator", data := .fields #[.ref a, .int 0 0] }).push (mlO #[] c)).IsListIter s.heap.objs.size a 0 := ⟨_, Heap.get?_push_of_some _ (Heap.get?_push_size _ rfl), rfl, rfl⟩
  have hJS : s.heap.objs.size < (s.heap.push { cls := .type "list_iterator", data := .fields #[.ref a, .int 0 0] }).objs.size := by rw [z1]; exact Nat.lt_succ_self _
  refine wpAny_pyNext_list_item hit0 (hl.isList.at fun o q => k0 _ o q) (x := its[0]) (by simp [hlt]) fun h' hit' sb => ⟨_, rfl, (sb.2 _ (Nat.ne_of_gt hJS)).trans hS0, fun h2 c' k2 hS2 => ?_⟩
  have kk2 : ∀ b o, s.heap.get? b = some o → h2.get? b = some o := fun b o q => by
    have hb : b < s.heap.objs.size := Heap.lt_size q
    exact k2 b o (Nat.ne_of_lt (Nat.lt_trans hb hJS)) ((sb.2 b (Nat.ne_of_lt hb)).trans (k0 b o q))
  refine main _ 1 x its[0] c' s.heap.objs.size _ _ rfl hlt (Nat.le_refl _) hJS kk2 ⟨rfl, rfl, rfl⟩ hS2 (hit'.at fun o e => k2 _ o (Nat.ne_of_lt hJS) e) ⟨0, hu1, hx⟩ fun q y hq1 hy => ?_
  have : q = 0 := by omega
  subst this
  rw [hx] at hy
  cases hy
  exact pLt_irr _ _
end So
end
section
set_option maxHeartbeats 2000000
/-! Stretches: the object, its methods, the first low day. -/
namespace So
open PySem PySem.Spec PyProof.Rows L2 He
def strF (f : Int) (l : Option Int) (al : Addr) (d : Int) : List (Str × V) := [(("first" : Str), .int f), (("last" : Str), oi l), (("amounts" : Str), .ref al), (("drift" : Str), .int d)]
/-- a Stretch stands at p -/
def StrAt (C : Addr) (H : Hp) (p : Addr) (f : Int) (l : Option Int) (am : List Int) (d : Int) : Prop := ∃ dx al, H p = some (.ins C dx (strF f l al d)) ∧ H al = some (.lst (am.map V.int))
theorem StrAt.gr {T : Wt} {C : Addr} {H H' : Hp} {p : Addr} {f : Int} {l : Option Int} {am : List Int} {d : Int} (h : StrAt C H p f l am d) (g : Gr T H H') : StrAt C H' p f l am d := by
  obtain ⟨dx, al, h1, h2⟩ := h
  exact ⟨dx, al, g.get h1, g.get h2⟩
def rnd (f : Int) (l : Option Int) (res : Int) (n : Int) : Option Int := l.map fun l => max 0 ((l - f - res) / n + 1)
def spStrInit (C : Addr) : Sp := fun vs H Q _ => ∃ (p dx : Addr) (f : Int) (l : Option Int) (al : Addr) (d : Int), vs = [.ref p, .int f, oi l, .ref al, .int d] ∧ H p = some (.ins C dx []) ∧ Q .non (upd H p (.ins C dx (strF f l al d)))
def spRounds (C : Addr) : Sp := fun vs H Q _ => ∃ (p : Addr) (f : Int) (l : Option Int) (am : List Int) (d res : Int), vs = [.ref p, .int res] ∧ StrAt C H p f l am d ∧ 0 < am.length ∧ am.length ≤ 400 ∧ Q (oi (rnd f l res am.length)) H
def spDayOf (C : Addr) : Sp := fun vs H Q _ => ∃ (p : Addr) (f : Int) (l : Option Int) (am : List Int) (d res turn : Int), vs = [.ref p, .int res, .int turn] ∧ StrAt C H p f l am d ∧ am.length ≤ 400 ∧ Q (.int (f + res + turn * am.length)) H
section
variable {P : Program} {w : World} {K : PySem.W.Frag} {mg : Str → Option Value} {base : Heap} {T : Wt}
theorem ok_Stretch_init (kn : Kn K mg) : Okd P w K mg base CX0 1 (ma K (ga K "Stretch") "__init__") ["self", "first", "last", "amounts", "drift"] (spStrInit (ga K "Stretch")) := by
  refine okd_of kn.m_Stretch___init__ sc_Stretch___init__ (fun vs H Q E h => ?_) (fun _ _ _ _ _ _ us hl => match us, hl with | [_, _, _, _, _], _ => rfl) (fun cdv A outer s H vs Q E hr h => ?_)
  · obtain ⟨p, dx, f, l, al, d, rfl, _⟩ := h
    rfl
  · obtain ⟨p, dx, f, l, al, d, rfl, hp, hq⟩ := h
    have c := kn.cls "Stretch"
    refine ⟨_, PSs.nox (pss_cons (ps_fld (pv 0) (pv 1) rfl)
      (pss_cons (ps_fld (pv 0) (pv 2) rfl)
      (pss_cons (ps_fld (pv 0) (pv 3) rfl)
      (pss_one (ps_fld (pv 0) (pv 4) rfl))))), ?_⟩
    refine ⟨_, rfl, _, rfl, p, _, dx, _, rfl, hp, c, kn.noat "Stretch" "first", by decide, ?_⟩
    refine ⟨_, rfl, _, rfl, p, _, dx, _, rfl, upd_same, c, kn.noat "Stretch" "last", (by decide : 1 < 1000), ?_⟩
    refine ⟨_, rfl, _, rfl, p, _, dx, _, rfl, upd_same, c, kn.noat "Stretch" "amounts", (by decide : 2 < 1000), ?_⟩
    refine ⟨_, rfl, _, rfl, p, _, dx, _, rfl, upd_same, c, kn.noat "Stretch" "drift", (by decide : 3 < 1000), ?_⟩
    rw [upd_upd, upd_upd, upd_upd]
    exact hq
theorem ok_Stretch_rounds (kn : Kn K mg) : Okd P w K mg base CX0 1 (ma K (ga K "Stretch") "rounds") ["self", "residue"] (spRounds (ga K "Stretch")) := by
  refine okd_of kn.m_Stretch_rounds sc_Stretch_rounds (fun vs H Q E h => ?_) (fun _ _ _ _ _ _ us hl => match us, hl with | [_, _], _ => rfl) (fun cdv A outer s H vs Q E hr h => ?_)
  · obtain ⟨p, f, l, am, d, res, rfl, _⟩ := h
    rfl
  · obtain ⟨p, f, l, am, d, res, rfl, ⟨dx, al, hp, ha⟩, h0, h1, hq⟩ := h
    have c := kn.cls "Stretch"
    refine ⟨_, PSs.nox (pss_cons (ps_if (pt_cmp (pc_isN (pe_fld (pv 0) rfl))) (pss_one (ps_ret pe_non)) pss_nil)
      (pss_one (ps_ret (pe_callB (call_max2 rfl) rfl (kn.free "max") boot_max (pa_cons pe_int (pa_cons (pe_op op_add (pe_op op_fdiv (pe_op op_sub (pe_op op_sub (pe_fld (pv 0) rfl) (pe_fld (pv 0) rfl)) (pv 1)) (pe_callB (call_len_seq) rfl (kn.free "len") boot_len (pa_cons (pe_fld (pv 0) rfl) pa_nil))) pe_int) pa_nil)))))), ?_⟩
    refine ⟨_, rfl, p, _, dx, _, _, rfl, hp, c, kn.noat "Stretch" "last", rfl, _, rfl, ?_⟩
    cases l with
    | none => exact hq
    | some l =>
      refine ⟨_, rfl, p, _, dx, _, _, rfl, hp, c, kn.noat "Stretch" "last", rfl, ?_⟩
      refine ⟨_, rfl, p, _, dx, _, _, rfl, hp, c, kn.noat "Stretch" "first", rfl, _, _, rfl, rfl, _, rfl, _, _, rfl, rfl, ?_⟩
      refine ⟨_, rfl, p, _, dx, _, _, rfl, hp, c, kn.noat "Stretch" "amounts", rfl, al, _, rfl, .inl (.inl (.inl ha)), ?_⟩
      refine ⟨_, _, rfl, rfl, ⟨by rw [List.length_map]; omega, by rw [List.length_map]; omega⟩, _, _, rfl, rfl, _, _, rfl, ?_⟩
      rw [max0, List.length_map]
      exact hq
theorem ok_Stretch_day_of (kn : Kn K mg) : Okd P w K mg base CX0 1 (ma K (ga K "Stretch") "day_of") ["self", "residue", "turn"] (spDayOf (ga K "Stretch")) := by
  refine okd_of kn.m_Stretch_day_of sc_Stretch_day_of (fun vs H Q E h => ?_) (fun _ _ _ _ _ _ us hl => match us, hl with | [_, _, _], _ => rfl) (fun cdv A outer s H vs Q E hr h => ?_)
  · obtain ⟨p, f, l, am, d, res, turn, rfl, _⟩ := h
    rfl
  · obtain ⟨p, f, l, am, d, res, turn, rfl, ⟨dx, al, hp, ha⟩, h1, hq⟩ := h
    have c := kn.cls "Stretch"
    refine ⟨_, PSs.nox (pss_one (ps_ret (pe_op op_add (pe_op op_add (pe_fld (pv 0) rfl) (pv 1)) (pe_op op_mul (pv 2) (pe_callB (call_len_seq) rfl (kn.free "len") boot_len (pa_cons (pe_fld (pv 0) rfl) pa_nil)))))), ?_⟩
    refine ⟨_, rfl, p, _, dx, _, _, rfl, hp, c, kn.noat "Stretch" "first", rfl, _, rfl, _, _, rfl, rfl, _, rfl, ?_⟩
    refine ⟨_, rfl, p, _, dx, _, _, rfl, hp, c, kn.noat "Stretch" "amounts", rfl, al, _, rfl, .inl (.inl (.inl ha)), ?_⟩
    refine ⟨_, _, rfl, rfl, .inr ⟨by rw [List.length_map]; omega, by rw [List.length_map]; omega⟩, _, _, rfl, rfl, ?_⟩
    rw [List.length_map]
    exact hq
end
end So
end
section
set_option maxHeartbeats 2000000
/-! The first day below a level. -/
namespace So
open PySem PySem.Spec PyProof.Rows L2 He
def lowAt (f : Int) (l : Option Int) (am : List Int) (d lev : Int) (i : Nat) : Int × Option Int := lowT (am.getD i 0) d lev (rnd f l i am.length)
def hit (q : Int × Option Int) : Bool := match q.2 with
  | none => true
  | some e => decide (q.1 < e)
def fDay (f : Int) (l : Option Int) (am : List Int) (d lev : Int) (i : Nat) : Option Int := if hit (lowAt f l am d lev i) = true then some (f + i + (lowAt f l am d lev i).1 * am.length) else none
def fDays (f : Int) (l : Option Int) (am : List Int) (d lev : Int) (n : Nat) : List Int := (List.range n).filterMap (fDay f l am d lev)
theorem fDays_succ (f : Int) (l : Option Int) (am : List Int) (d lev : Int) (n : Nat) : fDays f l am d lev (n + 1) = fDays f l am d lev n ++ (fDay f l am d lev n).toList := by
  unfold fDays
  rw [List.range_succ, List.filterMap_append]
  congr 1
theorem filterMap_le {α β : Type} (g : α → Option β) : ∀ l : List α, (l.filterMap g).length ≤ l.length := fun l => List.length_filterMap_le g l
theorem fDays_len (f : Int) (l : Option Int) (am : List Int) (d lev : Int) (n : Nat) : (fDays f l am d lev n).length ≤ n := by
  unfold fDays
  have := filterMap_le (fDay f l am d lev) (List.range n)
  rw [List.length_range] at this
  exact this
def LeastOf (ds : List Int) : Option Int → Prop
  | none => ds = []
  | some m => m ∈ ds ∧ ∀ y ∈ ds, m ≤ y
def MostOf (ds : List Int) : Option Int → Prop
  | none => ds = []
  | some m => m ∈ ds ∧ ∀ y ∈ ds, y ≤ m
def spFirstLow (C : Addr) (T : Wt) : Sp := fun vs H Q _ => ∃ (p : Addr) (f : Int) (l : Option Int) (am : List Int) (d lev : Int), vs = [.ref p, .int lev] ∧ StrAt C H p f l am d ∧ 0 < am.length ∧ am.length ≤ 400 ∧ Sm d ∧ Tbs T H ∧
  ∀ r H', Gr T H H' → LeastOf (fDays f l am d lev am.length) r → Q (oi r) H'
theorem getD_map {am : List Int} {i : Nat} {x : V} (h : (am.map V.int)[i]? = some x) : x = .int (am.getD i 0) ∧ i < am.length := by
  rw [List.getElem?_map] at h
  cases e : am[i]? with
  | none => rw [e] at h; cases h
  | some z =>
    rw [e] at h
    cases h
    refine ⟨?_, (List.getElem?_eq_some_iff.mp e).1⟩
    rw [List.getD_eq_getElem?_getD, e]
    rfl
section
variable {P : Program} {w : World} {K : PySem.W.Frag} {mg : Str → Option Value} {base : Heap} {T : Wt}
theorem ok_first_low (kn : Kn K mg) : Okd P w K mg base CX0 3 (ga K "first_low") ["stretch", "level"] (spFirstLow (ga K "Stretch") T) := by
  refine okd_of kn.f_first_low sc_first_low (fun vs H Q E h => ?_) (fun _ _ _ _ _ _ us hl => match us, hl with | [_, _], _ => rfl) (fun cdv A outer s H vs Q E hr h => ?_)
  · obtain ⟨p, f, l, am, d, lev, rfl, _⟩ := h
    rfl
  · obtain ⟨p, f, l, am, d, lev, rfl, S, h0, h1, hd, tb, hq⟩ := h
    have c := kn.cls "Stretch"
    refine ⟨_, PSs.nox (pss_cons (ps_set (i := 2) sc_first_low.nd rfl (.inl rfl) (pe_lst pa_nil))
      (pss_cons (ps_for PassesOwn.never rfl (pi_enum rfl (kn.free "enumerate") (pa_cons (pe_fld (pv 0) rfl) pa_nil)) (pg_tup rfl (pgs_cons (pg_name (i := 3) sc_first_low.nd rfl (.inl rfl)) (pgs_cons (pg_name (i := 4) sc_first_low.nd rfl (.inl rfl)) pgs_nil))) (pss_cons (ps_asg (pf (ok_low_turns (T := T) kn) (hr.mono (by decide)) (kn.glo "low_turns") pass0 (pa_cons (pv 4) (pa_cons (pe_fld (pv 0) rfl) (pa_cons (pv 1) (pa_cons (pm (ok_Stretch_rounds kn) (kn.cls "Stretch") (kn.meth "Stretch" "rounds") (hr.mono (by decide)) pass0 (pv 0) (pa_cons (pv 3) pa_nil)) pa_nil))))) (pg_tup rfl (pgs_cons (pg_name (i := 5) sc_first_low.nd rfl (.inl rfl)) (pgs_cons (pg_name (i := 6) sc_first_low.nd rfl (.inl rfl)) pgs_nil))))
      (pss_one (ps_if (pw_or (pt_cmp (pc_isN (pv 6))) (pw_or1 (pt_cmpR op_lt (pv 5) (pv 6) (nomark _)))).pt (pss_one (ps_expr (pe_bm PySem.F.plainAttrs_list PySem.F.slot_list_append PySem.F.type_list_append mt_append (pv 2) (pa_cons (pm (ok_Stretch_day_of kn) (kn.cls "Stretch") (kn.meth "Stretch" "day_of") (hr.mono (by decide)) pass0 (pv 0) (pa_cons (pv 3) (pa_cons (pv 5) pa_nil))) pa_nil)))) pss_nil))))
      (pss_one (ps_ret (pe_ifExp (pt_cmpR (op_neD hr.units) (pv 2) (pe_lst pa_nil) (nomark _)) (pe_callB (cr_min rfl) rfl (kn.free "min") boot_min (pa_cons (pv 2) pa_nil)) pe_non))))), ?_⟩
    refine ⟨Nat.zero_le _, fun dl hdl => ?_⟩
    obtain ⟨dx, al, hp, ha⟩ := id S
    have g0 : Gr T H (upd H dl (.lst [])) := (Gr.refl tb).new hdl
    refine ⟨_, rfl, p, _, dx, _, _, rfl, g0.get hp, c, kn.noat "Stretch" "amounts", rfl, al, _, rfl, .inl (.inl (g0.get ha)), ?_⟩
    refine for_enum (xs := am.map V.int) (fun i σ H' => ∃ a b c e, σ = [some (.ref p), some (.int lev), some (.ref dl), a, b, c, e] ∧ Gr T H H' ∧ H' dl = some (.lst ((fDays f l am d lev i).map V.int))) ⟨_, _, _, _, rfl, g0, upd_same⟩ (fun i σ H' _ hi => ?_) (fun i x T' σ H' hx hi hT => ?_) (fun σ H' hi => ?_)
    · obtain ⟨_, _, _, _, _, g, _⟩ := hi
      exact .inl (.inl (g.get ha))
    · obtain ⟨a, b, c', e, rfl, g, hdl'⟩ := hi
      obtain ⟨rfl, hil⟩ := getD_map hx
      have g1 : Gr T H (upd H' T' (.tup [.int (i : Nat), .int (am.getD i 0)])) := g.new hT
      have S1 := S.gr g1
      obtain ⟨dx1, al1, hp1, ha1⟩ := id S1
      refine ⟨T', _, rfl, .inl (.inl upd_same), rfl, _, _, rfl, _, _, rfl, rfl, ?_⟩
      -- start, end = low_turns(..)
      refine ⟨_, rfl, _, rfl, p, _, dx1, _, _, rfl, hp1, c, kn.noat "Stretch" "drift", rfl, _, rfl, ?_⟩
      refine ⟨_, rfl, p, dx1, _, rfl, hp1, rfl, _, rfl, p, f, l, am, d, _, rfl, S1, h0, h1, ?_⟩
      refine ⟨_, _, _, _, rfl, hd, g1.tb, fun p2 H2 g2 n2 e2 => ?_⟩
      refine ⟨p2, _, rfl, .inl (.inl e2), rfl, _, _, rfl, _, _, rfl, rfl, ?_⟩
      have g3 : Gr T H H2 := g1.trans g2
      have hd1 : (upd H' T' (.tup [.int (i : Nat), .int (am.getD i 0)])) dl = some (.lst ((fDays f l am d lev i).map V.int)) := by
        rw [upd_ne (fun z => by rw [z, hT] at hdl'; cases hdl')]
        exact hdl'
      have hd2 := g2.get hd1
      have S2 := S.gr g3
      obtain ⟨dx2, al2, hp2, ha2⟩ := id S2
      -- the append
      have app : hit (lowAt f l am d lev i) = true → ∀ (σ : L2.St), σ = [some (.ref p), some (.int lev), some (.ref dl), some (.int (i : Nat)), some (.int (am.getD i 0)), some (.int (lowAt f l am d lev i).1), some (oi (lowAt f l am d lev i).2)] →
          ∃ v0, σ[2]? = some (some v0) ∧ tyV K "list" v0 H2 ∧ ∃ v, σ[0]? = some (some v) ∧ ∃ a dx fs, v = .ref a ∧ H2 a = some (.ins (ga K "Stretch") dx fs) ∧ fs.lookup ("day_of" : Str) = none ∧ ∃ w1, σ[3]? = some (some w1) ∧ ∃ w2, σ[5]? = some (some w2) ∧
            spDayOf (ga K "Stretch") [v, w1, w2] H2 (fun y H3 => rAppend v0 [y] H3 (fun _ H4 => ∃ a b c e, σ = [some (.ref p), some (.int lev), some (.ref dl), a, b, c, e] ∧ Gr T H H4 ∧ H4 dl = some (.lst ((fDays f l am d lev (i + 1)).map V.int)))) E0 := fun ht σ hσ => by
        subst hσ
        refine ⟨_, rfl, .inl ⟨rfl, _, .inl (.inl hd2)⟩, _, rfl, p, dx2, _, rfl, hp2, rfl, _, rfl, _, rfl, p, f, l, am, d, _, _, rfl, S2, h1, dl, _, _, rfl, rfl, hd2, ?_, _, _, _, _, rfl, g3.turn hdl hd2, ?_⟩
        · rw [List.length_map]
          exact Nat.lt_of_le_of_lt (fDays_len ..) (Nat.lt_of_lt_of_le hil (Nat.le_trans h1 (by decide)))
        · rw [upd_same, fDays_succ]
          unfold fDay
          rw [if_pos ht, List.map_append]
          rfl
      have skip : hit (lowAt f l am d lev i) = false → ∃ a b c e, ([some (.ref p), some (.int lev), some (.ref dl), some (.int (i : Nat)), some (.int (am.getD i 0)), some (.int (lowAt f l am d lev i).1), some (oi (lowAt f l am d lev i).2)] : L2.St) = [some (.ref p), some (.int lev), some (.ref dl), a, b, c, e] ∧ Gr T H H2 ∧ H2 dl = some (.lst ((fDays f l am d lev (i + 1)).map V.int)) := fun hf => by
        refine ⟨_, _, _, _, rfl, g3, ?_⟩
        rw [hd2, fDays_succ]
        unfold fDay
        rw [if_neg (by rw [hf]; exact Bool.false_ne_true)]
        simp
      refine ⟨_, rfl, _, rfl, ?_⟩
      cases e6 : (lowAt f l am d lev i).2 with
      | none =>
        have e7 : (lowT (am.getD i 0) d lev (rnd f l i am.length)).2 = none := e6
        rw [e7]
        have ht : hit (lowAt f l am d lev i) = true := by unfold hit; rw [e6]
        exact app ht [some (.ref p), some (.int lev), some (.ref dl), some (.int (i : Nat)), some (.int (am.getD i 0)), some (.int (lowAt f l am d lev i).1), some (oi none)] (by rw [e6])
      | some en =>
        have e7 : (lowT (am.getD i 0) d lev (rnd f l i am.length)).2 = some en := e6
        rw [e7]
        refine ⟨_, rfl, _, rfl, _, _, rfl, rfl, _, rfl, ?_⟩
        refine ite2 (fun h => ?_) (fun h => ?_)
        · have ht : hit (lowAt f l am d lev i) = true := by unfold hit; rw [e6]; exact h
          exact app ht [some (.ref p), some (.int lev), some (.ref dl), some (.int (i : Nat)), some (.int (am.getD i 0)), some (.int (lowAt f l am d lev i).1), some (oi (some en))] (by rw [e6])
        · have ht : hit (lowAt f l am d lev i) = false := by unfold hit; rw [e6]; exact Bool.eq_false_iff.mpr h
          have z := skip ht
          rw [e6] at z
          exact z
    · obtain ⟨a, b, c', e, rfl, g, hdl'⟩ := hi
      rw [List.length_map] at hdl'
      refine ⟨_, rfl, Nat.zero_le _, fun p' hp' => ?_⟩
      have g1 : Gr T H (upd H' p' (.lst [])) := g.new hp'
      have hd1 : (upd H' p' (.lst [])) dl = some (.lst ((fDays f l am d lev am.length).map V.int)) := by
        rw [upd_ne (fun z => by rw [z, hp'] at hdl'; cases hdl')]
        exact hdl'
      refine ⟨.list ((fDays f l am d lev am.length).map .int), .list [], dp_ints hd1, .lst (.inl (.inl upd_same)) .nil, shaped_ints _, shaped_ints [], _, rfl, ?_⟩
      rw [eqv_nil]
      cases e9 : fDays f l am d lev am.length with
      | nil => exact hq none _ g1 e9
      | cons y r =>
        rw [e9] at hd1
        refine ⟨_, rfl, dl, y :: r, rfl, .inl (.inl hd1), Nat.succ_pos _, fun m hm hle => hq (some m) _ g1 ?_⟩
        rw [e9]
        exact ⟨hm, hle⟩
end
end So
end
section
set_option maxHeartbeats 2000000
/-! The last day below a level. -/
namespace So
open PySem PySem.Spec PyProof.Rows L2 He
def endOf (q : Int × Option Int) : Int := q.2.getD 0
def lDay (f : Int) (l : Option Int) (am : List Int) (d lev : Int) (i : Nat) : Option Int := if (lowAt f l am d lev i).1 < endOf (lowAt f l am d lev i) then some (f + i + (endOf (lowAt f l am d lev i) - 1) * am.length) else none
def lDays (f : Int) (l : Option Int) (am : List Int) (d lev : Int) (n : Nat) : List Int := (List.range n).filterMap (lDay f l am d lev)
theorem lDays_succ (f : Int) (l : Option Int) (am : List Int) (d lev : Int) (n : Nat) : lDays f l am d lev (n + 1) = lDays f l am d lev n ++ (lDay f l am d lev n).toList := by
  unfold lDays
  rw [List.range_succ, List.filterMap_append]
  congr 1
theorem lDays_len (f : Int) (l : Option Int) (am : List Int) (d lev : Int) (n : Nat) : (lDays f l am d lev n).length ≤ n := by
  unfold lDays
  have := filterMap_le (lDay f l am d lev) (List.range n)
  rw [List.length_range] at this
  exact this
def spLastLow (K : PySem.W.Frag) (T : Wt) : Sp := fun vs H Q E => ∃ (p : Addr) (f : Int) (l : Option Int) (am : List Int) (d lev : Int), vs = [.ref p, .int lev] ∧ StrAt (ga K "Stretch") H p f l am d ∧ 0 < am.length ∧ am.length ≤ 400 ∧ Sm d ∧ Tbs T H ∧
  ((∃ i, i < am.length ∧ (lowAt f l am d lev i).2 = none) → ∀ H', Gr T H H' → E (.ref (ga K "Endless")) none H') ∧
  ((∀ i, i < am.length → (lowAt f l am d lev i).2 ≠ none) → ∀ r H', Gr T H H' → MostOf (lDays f l am d lev am.length) r → Q (oi r) H')
section
variable {P : Program} {w : World} {K : PySem.W.Frag} {mg : Str → Option Value} {base : Heap} {T : Wt}
theorem ok_last_low (kn : Kn K mg) : Okd P w K mg base (CX P w) 3 (ga K "last_low") ["stretch", "level"] (spLastLow K T) := by
  refine okd_of kn.f_last_low sc_last_low (fun vs H Q E h => ?_) (fun _ _ _ _ _ _ us hl => match us, hl with | [_, _], _ => rfl) (fun cdv A outer s H vs Q E hr h => ?_)
  · obtain ⟨p, f, l, am, d, lev, rfl, _⟩ := h
    rfl
  · obtain ⟨p, f, l, am, d, lev, rfl, S, h0, h1, hd, tb, hrs, hq⟩ := h
    have xE := kn.exc "Endless"
    have c := kn.cls "Stretch"
    refine ⟨_, (pss_cons (ps_set (i := 2) sc_last_low.nd rfl (.inl rfl) (pe_lst pa_nil))
      (pss_cons (ps_for (passes_of rfl) rfl (pi_enum rfl (kn.free "enumerate") (pa_cons (pe_fld (pv 0) rfl) pa_nil)) (pg_tup rfl (pgs_cons (pg_name (i := 3) sc_last_low.nd rfl (.inl rfl)) (pgs_cons (pg_name (i := 4) sc_last_low.nd rfl (.inl rfl)) pgs_nil))) (pss_cons (ps_asg (pf (ok_low_turns (T := T) kn) (hr.mono (by decide)) (kn.glo "low_turns") pass0 (pa_cons (pv 4) (pa_cons (pe_fld (pv 0) rfl) (pa_cons (pv 1) (pa_cons (pm (ok_Stretch_rounds kn) (kn.cls "Stretch") (kn.meth "Stretch" "rounds") (hr.mono (by decide)) pass0 (pv 0) (pa_cons (pv 3) pa_nil)) pa_nil))))) (pg_tup rfl (pgs_cons (pg_name (i := 5) sc_last_low.nd rfl (.inl rfl)) (pgs_cons (pg_name (i := 6) sc_last_low.nd rfl (.inl rfl)) pgs_nil))))
      (pss_cons (ps_if (pt_cmp (pc_isN (pv 6))) (pss_one (ps_raise rfl (takes_of (E := E) rfl rfl rfl rfl) (pmk_own PySem.F.excBase_ValueError xE.1 (kn.glo "Endless") xE.2.1 (raises_own xE.2.2.1 xE.2.2.2) rfl))) pss_nil)
      (pss_one (ps_if (pt_cmpR op_lt (pv 5) (pv 6) (nomark _)) (pss_one (ps_expr (pe_bm PySem.F.plainAttrs_list PySem.F.slot_list_append PySem.F.type_list_append mt_append (pv 2) (pa_cons (pm (ok_Stretch_day_of kn) (kn.cls "Stretch") (kn.meth "Stretch" "day_of") (hr.mono (by decide)) pass0 (pv 0) (pa_cons (pv 3) (pa_cons (pe_op op_sub (pv 6) pe_int) pa_nil))) pa_nil)))) pss_nil)))))
      (pss_one (ps_ret (pe_ifExp (pt_cmpR (op_neD hr.units) (pv 2) (pe_lst pa_nil) (nomark _)) (pe_callB (cr_max rfl) rfl (kn.free "max") boot_max (pa_cons (pv 2) pa_nil)) pe_non))))), ?_⟩
    refine ⟨Nat.zero_le _, fun dl hdl => ?_⟩
    obtain ⟨dx, al, hp, ha⟩ := id S
    have g0 : Gr T H (upd H dl (.lst [])) := (Gr.refl tb).new hdl
    refine ⟨_, rfl, p, _, dx, _, _, rfl, g0.get hp, c, kn.noat "Stretch" "amounts", rfl, al, _, rfl, .inl (.inl (g0.get ha)), ?_⟩
    refine for_enum (xs := am.map V.int) (fun i σ H' => ∃ a b c e, σ = [some (.ref p), some (.int lev), some (.ref dl), a, b, c, e] ∧ Gr T H H' ∧ H' dl = some (.lst ((lDays f l am d lev i).map V.int)) ∧ ∀ j, j < i → (lowAt f l am d lev j).2 ≠ none) ⟨_, _, _, _, rfl, g0, upd_same, fun j hj => absurd hj (Nat.not_lt_zero _)⟩ (fun i σ H' _ hi => ?_) (fun i x T' σ H' hx hi hT => ?_) (fun σ H' hi => ?_)
    · obtain ⟨_, _, _, _, _, g, _, _⟩ := hi
      exact .inl (.inl (g.get ha))
    · obtain ⟨a, b, c', e, rfl, g, hdl', hne⟩ := hi
      obtain ⟨rfl, hil⟩ := getD_map hx
      have g1 : Gr T H (upd H' T' (.tup [.int (i : Nat), .int (am.getD i 0)])) := g.new hT
      have S1 := S.gr g1
      obtain ⟨dx1, al1, hp1, ha1⟩ := id S1
      refine ⟨T', _, rfl, .inl (.inl upd_same), rfl, _, _, rfl, _, _, rfl, rfl, ?_⟩
      -- start, end = low_turns(..)
      refine ⟨_, rfl, _, rfl, p, _, dx1, _, _, rfl, hp1, c, kn.noat "Stretch" "drift", rfl, _, rfl, ?_⟩
      refine ⟨_, rfl, p, dx1, _, rfl, hp1, rfl, _, rfl, p, f, l, am, d, _, rfl, S1, h0, h1, ?_⟩
      refine ⟨_, _, _, _, rfl, hd, g1.tb, fun p2 H2 g2 n2 e2 => ?_⟩
      refine ⟨p2, _, rfl, .inl (.inl e2), rfl, _, _, rfl, _, _, rfl, rfl, ?_⟩
      have g3 : Gr T H H2 := g1.trans g2
      have hd1 : (upd H' T' (.tup [.int (i : Nat), .int (am.getD i 0)])) dl = some (.lst ((lDays f l am d lev i).map V.int)) := by
        rw [upd_ne (fun z => by rw [z, hT] at hdl'; cases hdl')]
        exact hdl'
      have hd2 := g2.get hd1
      have S2 := S.gr g3
      obtain ⟨dx2, al2, hp2, ha2⟩ := id S2
      refine ⟨_, rfl, _, rfl, ?_⟩
      cases e6 : (lowAt f l am d lev i).2 with
      | none =>
        have e7 : (lowT (am.getD i 0) d lev (rnd f l i am.length)).2 = none := e6
        rw [e7]
        exact hrs ⟨i, hil, e6⟩ H2 g3
      | some en =>
        have e7 : (lowT (am.getD i 0) d lev (rnd f l i am.length)).2 = some en := e6
        have e8 : endOf (lowAt f l am d lev i) = en := by unfold endOf; rw [e6]; rfl
        rw [e7]
        have hne' : ∀ j, j < i + 1 → (lowAt f l am d lev j).2 ≠ none := fun j hj => by
          by_cases z : j = i
          · rw [z, e6]
            exact fun q => by cases q
          · exact hne j (by omega)
        refine ⟨_, rfl, _, rfl, _, _, rfl, rfl, _, rfl, ?_⟩
        refine ite2 (fun h => ?_) (fun h => ?_)
        · have ht : (lowAt f l am d lev i).1 < endOf (lowAt f l am d lev i) := by rw [e8]; exact of_decide_eq_true h
          refine ⟨_, rfl, .inl ⟨rfl, _, .inl (.inl hd2)⟩, _, rfl, p, dx2, _, rfl, hp2, rfl, _, rfl, _, rfl, _, _, rfl, rfl, p, f, l, am, d, _, _, rfl, S2, h1, dl, _, _, rfl, rfl, hd2, ?_, _, _, _, _, rfl, g3.turn hdl hd2, ?_, hne'⟩
          · rw [List.length_map]
            exact Nat.lt_of_le_of_lt (lDays_len ..) (Nat.lt_of_lt_of_le hil (Nat.le_trans h1 (by decide)))
          · rw [upd_same, lDays_succ]
            unfold lDay
            rw [if_pos ht, List.map_append, e8]
            rfl
        · have ht : ¬ (lowAt f l am d lev i).1 < endOf (lowAt f l am d lev i) := by rw [e8]; exact fun z => h (decide_eq_true z)
          refine ⟨_, _, _, _, rfl, g3, ?_, hne'⟩
          rw [hd2, lDays_succ]
          unfold lDay
          rw [if_neg ht]
          simp
    · obtain ⟨a, b, c', e, rfl, g, hdl', hne⟩ := hi
      rw [List.length_map] at hdl' hne
      refine ⟨_, rfl, Nat.zero_le _, fun p' hp' => ?_⟩
      have g1 : Gr T H (upd H' p' (.lst [])) := g.new hp'
      have hd1 : (upd H' p' (.lst [])) dl = some (.lst ((lDays f l am d lev am.length).map V.int)) := by
        rw [upd_ne (fun z => by rw [z, hp'] at hdl'; cases hdl')]
        exact hdl'
      refine ⟨.list ((lDays f l am d lev am.length).map .int), .list [], dp_ints hd1, .lst (.inl (.inl upd_same)) .nil, shaped_ints _, shaped_ints [], _, rfl, ?_⟩
      rw [eqv_nil]
      cases e9 : lDays f l am d lev am.length with
      | nil => exact hq hne none _ g1 e9
      | cons y r =>
        rw [e9] at hd1
        refine ⟨_, rfl, dl, y :: r, rfl, .inl (.inl hd1), Nat.succ_pos _, fun m hm hle => hq hne (some m) _ g1 ?_⟩
        rw [e9]
        exact ⟨hm, hle⟩
end
end So
end
section
set_option maxHeartbeats 2000000
/-! The least balance of a stretch. -/
namespace So
open PySem PySem.Spec PyProof.Rows L2 He
def turnOf (r : Option Int) (d : Int) : Int := if d < 0 then r.getD 0 - 1 else 0
def liveR (r : Option Int) : Bool := match r with
  | none => true
  | some r => decide (0 < r)
def lsItem (f : Int) (l : Option Int) (am : List Int) (d : Int) (i : Nat) : Option (Int × Int) := if liveR (rnd f l i am.length) = true then some (am.getD i 0 + turnOf (rnd f l i am.length) d * d, f + i + turnOf (rnd f l i am.length) d * am.length) else none
def lsItems (f : Int) (l : Option Int) (am : List Int) (d : Int) (n : Nat) : List (Int × Int) := (List.range n).filterMap (lsItem f l am d)
theorem lsItems_succ (f : Int) (l : Option Int) (am : List Int) (d : Int) (n : Nat) : lsItems f l am d (n + 1) = lsItems f l am d n ++ (lsItem f l am d n).toList := by
  unfold lsItems
  rw [List.range_succ, List.filterMap_append]
  congr 1
theorem lsItems_len (f : Int) (l : Option Int) (am : List Int) (d : Int) (n : Nat) : (lsItems f l am d n).length ≤ n := by
  unfold lsItems
  have := filterMap_le (lsItem f l am d) (List.range n)
  rw [List.length_range] at this
  exact this
/-- the tuples at ts hold these pairs -/
def PairsAt (H : Hp) (ts : List Addr) (its : List (Int × Int)) : Prop := Paired (fun t it => H t = some (.tup [.int it.1, .int it.2])) ts its
theorem PairsAt.gr {T : Wt} {H H' : Hp} {ts : List Addr} {its : List (Int × Int)} (h : PairsAt H ts its) (g : Gr T H H') : PairsAt H' ts its := Paired.mapP h fun _ _ e => g.get e
theorem PairsAt.ext {H H' : Hp} {ts : List Addr} {its : List (Int × Int)} (h : PairsAt H ts its) (g : ∀ b xs, H b = some (.tup xs) → H' b = some (.tup xs)) : PairsAt H' ts its := Paired.mapP h fun _ _ e => g _ _ e
def kOf (H : Hp) (x : V) : Int × Int := match x with
  | .ref t => (match H t with
    | some (.tup [.int a, .int b]) => (a, b)
    | _ => (0, 0))
  | _ => (0, 0)
theorem kOf_eq {H : Hp} {t : Addr} {a b : Int} (h : H t = some (.tup [.int a, .int b])) : kOf H (.ref t) = (a, b) := by
  show (match H t with
    | some (.tup [.int a, .int b]) => (a, b)
    | _ => (0, 0)) = (a, b)
  rw [h]
theorem PairsAt.mem {H : Hp} {ts : List Addr} {its : List (Int × Int)} (h : PairsAt H ts its) : ∀ t ∈ ts, ∃ it ∈ its, H t = some (.tup [.int it.1, .int it.2]) := by
  induction h with
  | nil => intro t ht; cases ht
  | cons r _ ih =>
    intro t ht
    rcases List.mem_cons.mp ht with e | e
    · rw [e]; exact ⟨_, List.mem_cons_self, r⟩
    · obtain ⟨it, h1, h2⟩ := ih t e
      exact ⟨it, List.mem_cons_of_mem _ h1, h2⟩
theorem PairsAt.mem' {H : Hp} {ts : List Addr} {its : List (Int × Int)} (h : PairsAt H ts its) : ∀ it ∈ its, ∃ t ∈ ts, H t = some (.tup [.int it.1, .int it.2]) := by
  induction h with
  | nil => intro t ht; cases ht
  | cons r _ ih =>
    intro t ht
    rcases List.mem_cons.mp ht with e | e
    · rw [e]; exact ⟨_, List.mem_cons_self, r⟩
    · obtain ⟨it, h1, h2⟩ := ih t e
      exact ⟨it, List.mem_cons_of_mem _ h1, h2⟩
theorem Paired.len {α β : Type} {R : α → β → Prop} {l : List α} {m : List β} (h : Paired R l m) : l.length = m.length := by
  induction h with
  | nil => rfl
  | cons _ _ ih => simp [ih]
theorem Paired.app {α β : Type} {R : α → β → Prop} {l l' : List α} {m m' : List β} (h : Paired R l m) (h' : Paired R l' m') : Paired R (l ++ l') (m ++ m') := by
  induction h with
  | nil => exact h'
  | cons r _ ih => exact .cons r ih
def spLeastOf (K : PySem.W.Frag) (T : Wt) : Sp := fun vs H Q E => ∃ (p : Addr) (f : Int) (l : Option Int) (am : List Int) (d : Int), vs = [.ref p] ∧ StrAt (ga K "Stretch") H p f l am d ∧ 0 < am.length ∧ am.length ≤ 400 ∧ Sm d ∧ Tbs T H ∧ (∀ l', l = some l' → f ≤ l') ∧
  (l = none → d < 0 → ∀ H', Gr T H H' → E (.ref (ga K "Endless")) none H') ∧
  (¬ (l = none ∧ d < 0) → ∀ m v day H', Gr T H H' → H' m = some (.tup [.int v, .int day]) → (v, day) ∈ lsItems f l am d am.length → (∀ it ∈ lsItems f l am d am.length, pLt it.1 it.2 v day = false) → Q (.ref m) H')
theorem lsItem_zero {f : Int} {l : Option Int} {am : List Int} {d : Int} (h0 : 0 < am.length) (hl : ∀ l', l = some l' → f ≤ l') : lsItem f l am d 0 ≠ none := by
  unfold lsItem
  rw [if_pos]
  · exact fun z => by cases z
  · cases l with
    | none => rfl
    | some l' =>
      have := hl l' rfl
      show decide (0 < max 0 ((l' - f - ((0 : Nat) : Int)) / (am.length : Int) + 1)) = true
      have h1 : 0 ≤ (l' - f - ((0 : Nat) : Int)) / (am.length : Int) := Int.ediv_nonneg (by omega) (by omega)
      rw [decide_eq_true_iff]
      omega
theorem lsItems_ne {f : Int} {l : Option Int} {am : List Int} {d : Int} (h0 : 0 < am.length) (hl : ∀ l', l = some l' → f ≤ l') : 0 < (lsItems f l am d am.length).length := by
  have h := lsItem_zero (d := d) h0 hl
  cases e : lsItem f l am d 0 with
  | none => exact absurd e h
  | some it =>
    have hm : it ∈ lsItems f l am d am.length := by
      unfold lsItems
      exact List.mem_filterMap.mpr ⟨0, List.mem_range.mpr h0, e⟩
    exact List.length_pos_of_mem hm
section
variable {P : Program} {w : World} {K : PySem.W.Frag} {mg : Str → Option Value} {base : Heap} {T : Wt}
theorem ok_least_of (kn : Kn K mg) : Okd P w K mg base (CX P w) 3 (ga K "least_of") ["stretch"] (spLeastOf K T) := by
  refine okd_of kn.f_least_of sc_least_of (fun vs H Q E h => ?_) (fun _ _ _ _ _ _ us hl => match us, hl with | [_], _ => rfl) (fun cdv A outer s H vs Q E hr h => ?_)
  · obtain ⟨p, f, l, am, d, rfl, _⟩ := h
    rfl
  · obtain ⟨p, f, l, am, d, rfl, S, h0, h1, hd, tb, hfl, hrs, hq⟩ := h
    have c := kn.cls "Stretch"
    have xE := kn.exc "Endless"
    refine ⟨_, (pss_cons (ps_set (i := 1) sc_least_of.nd rfl (.inl rfl) (pe_lst pa_nil))
      (pss_cons (ps_for (passes_of rfl) rfl (pi_enum rfl (kn.free "enumerate") (pa_cons (pe_fld (pv 0) rfl) pa_nil)) (pg_tup rfl (pgs_cons (pg_name (i := 2) sc_least_of.nd rfl (.inl rfl)) (pgs_cons (pg_name (i := 3) sc_least_of.nd rfl (.inl rfl)) pgs_nil))) (pss_cons (ps_set (i := 4) sc_least_of.nd rfl (.inl rfl) (pm (ok_Stretch_rounds kn) (kn.cls "Stretch") (kn.meth "Stretch" "rounds") (hr.mono (by decide)) pass0 (pv 0) (pa_cons (pv 2) pa_nil)))
      (pss_cons (ps_if (pw_and (pt_cmp (pc_isN (pv 4))) (pw_and1 (pt_cmpR op_lt (pe_fld (pv 0) rfl) pe_int (nomark _)))).pt (pss_one (ps_raise rfl (takes_of (E := E) rfl rfl rfl rfl) (pmk_own PySem.F.excBase_ValueError xE.1 (kn.glo "Endless") xE.2.1 (raises_own xE.2.2.1 xE.2.2.2) rfl))) pss_nil)
      (pss_one (ps_if (pw_or (pt_cmp (pc_isN (pv 4))) (pw_or1 (pt_cmpR op_gt (pv 4) pe_int (nomark _)))).pt (pss_cons (ps_set (i := 5) sc_least_of.nd rfl (.inl rfl) (pe_ifExp (pt_cmpR op_lt (pe_fld (pv 0) rfl) pe_int (nomark _)) (pe_op op_sub (pv 4) pe_int) pe_int))
      (pss_one (ps_expr (pe_bm PySem.F.plainAttrs_list PySem.F.slot_list_append PySem.F.type_list_append mt_append (pv 1) (pa_cons (pe_tup (pa_cons (pe_op op_add (pv 3) (pe_op op_mul (pv 5) (pe_fld (pv 0) rfl))) (pa_cons (pm (ok_Stretch_day_of kn) (kn.cls "Stretch") (kn.meth "Stretch" "day_of") (hr.mono (by decide)) pass0 (pv 0) (pa_cons (pv 2) (pa_cons (pv 5) pa_nil))) pa_nil))) pa_nil))))) pss_nil)))))
      (pss_one (ps_ret (pe_callB (cr_minP rfl hr.units) rfl (kn.free "min") boot_min (pa_cons (pv 1) pa_nil)))))), ?_⟩
    refine ⟨Nat.zero_le _, fun dl hdl => ?_⟩
    obtain ⟨dx, al, hp, ha⟩ := id S
    have g0 : Gr T H (upd H dl (.lst [])) := (Gr.refl tb).new hdl
    refine ⟨_, rfl, p, _, dx, _, _, rfl, g0.get hp, c, kn.noat "Stretch" "amounts", rfl, al, _, rfl, .inl (.inl (g0.get ha)), ?_⟩
    refine for_enum (xs := am.map V.int) (fun i σ H' => (∃ a b c e, σ = [some (.ref p), some (.ref dl), a, b, c, e]) ∧ Gr T H H' ∧ (∃ ts : List Addr, H' dl = some (.lst (ts.map V.ref)) ∧ PairsAt H' ts (lsItems f l am d i)) ∧ (0 < i → ¬ (l = none ∧ d < 0))) ⟨⟨_, _, _, _, rfl⟩, g0, ⟨[], upd_same, .nil⟩, fun z => absurd z (Nat.lt_irrefl _)⟩ (fun i σ H' _ hi => ?_) (fun i x T' σ H' hx hi hT => ?_) (fun σ H' hi => ?_)
    · obtain ⟨_, g, _⟩ := hi
      exact .inl (.inl (g.get ha))
    · obtain ⟨⟨a, b, c', e, rfl⟩, g, ⟨ts, hdl', hts⟩, hnz⟩ := hi
      obtain ⟨rfl, hil⟩ := getD_map hx
      have g1 : Gr T H (upd H' T' (.tup [.int (i : Nat), .int (am.getD i 0)])) := g.new hT
      have S1 := S.gr g1
      obtain ⟨dx1, al1, hp1, ha1⟩ := id S1
      have hd1 : (upd H' T' (.tup [.int (i : Nat), .int (am.getD i 0)])) dl = some (.lst (ts.map V.ref)) := by
        rw [upd_ne (fun z => by rw [z, hT] at hdl'; cases hdl')]
        exact hdl'
      have hts1 : PairsAt (upd H' T' (.tup [.int (i : Nat), .int (am.getD i 0)])) ts (lsItems f l am d i) := hts.ext fun b xs e => by
        rw [upd_ne (fun z => by rw [z, hT] at e; cases e)]
        exact e
      refine ⟨T', _, rfl, .inl (.inl upd_same), rfl, _, _, rfl, _, _, rfl, rfl, ?_⟩
      -- rounds
      refine ⟨_, rfl, p, dx1, _, rfl, hp1, rfl, _, rfl, p, f, l, am, d, _, rfl, S1, h0, h1, ?_⟩
      -- the tail, where it does not raise
      have tail : ¬ (l = none ∧ d < 0) → ∀ (v4 : Option V) (t : Int), t = turnOf (rnd f l i am.length) d → liveR (rnd f l i am.length) = true → ∀ σ : L2.St, σ = [some (.ref p), some (.ref dl), some (.int (i : Nat)), some (.int (am.getD i 0)), v4, some (.int t)] →
          ∃ v0, σ[1]? = some (some v0) ∧ tyV K "list" v0 (upd H' T' (.tup [.int (i : Nat), .int (am.getD i 0)])) ∧ ∃ v3, σ[3]? = some (some v3) ∧ ∃ v5, σ[5]? = some (some v5) ∧ ∃ v, σ[0]? = some (some v) ∧ ∃ a C dx fs vd, v = .ref a ∧ (upd H' T' (.tup [.int (i : Nat), .int (am.getD i 0)])) a = some (.ins C dx fs) ∧ Cls K C ∧ NoAttr K C "drift" ∧ fs.lookup ("drift" : Str) = some vd ∧
            (rI CMul (fun i j => .int (i * j))) v5 vd (upd H' T' (.tup [.int (i : Nat), .int (am.getD i 0)])) (fun y H3 => rI0 (fun i j => .int (i + j)) v3 y H3 (fun z1 H4 => ∃ v, σ[0]? = some (some v) ∧ ∃ a dx fs, v = .ref a ∧ H4 a = some (.ins (ga K "Stretch") dx fs) ∧ fs.lookup ("day_of" : Str) = none ∧ ∃ w1, σ[2]? = some (some w1) ∧ ∃ w2, σ[5]? = some (some w2) ∧
              spDayOf (ga K "Stretch") [v, w1, w2] H4 (fun z2 H5 => [z1, z2].length ≤ sizeLine ∧ ∀ q, H5 q = none → rAppend v0 [.ref q] (upd H5 q (.tup [z1, z2])) (fun _ H6 => (∃ a b c e', σ = [some (.ref p), some (.ref dl), a, b, c, e']) ∧ Gr T H H6 ∧ (∃ ts : List Addr, H6 dl = some (.lst (ts.map V.ref)) ∧ PairsAt H6 ts (lsItems f l am d (i + 1))) ∧ (0 < i + 1 → ¬ (l = none ∧ d < 0)))) E0)) := fun hn v4 t ht hlv σ hσ => by
        subst hσ ht
        refine ⟨_, rfl, .inl ⟨rfl, _, .inl (.inl hd1)⟩, _, rfl, _, rfl, _, rfl, p, _, dx1, _, _, rfl, hp1, c, kn.noat "Stretch" "drift", rfl, _, _, rfl, rfl, .inr ⟨by have := hd.1; omega, by have := hd.2; omega⟩, _, _, rfl, rfl, ?_⟩
        refine ⟨_, rfl, p, dx1, _, rfl, hp1, rfl, _, rfl, _, rfl, p, f, l, am, d, _, _, rfl, S1, h1, (by decide : 2 ≤ sizeLine), fun q hqn => ?_⟩
        have hd2 : ∀ o, (upd (upd H' T' (.tup [.int (i : Nat), .int (am.getD i 0)])) q o) dl = some (.lst (ts.map V.ref)) := fun o => by
          rw [upd_ne (fun z => by rw [z, hqn] at hd1; cases hd1)]
          exact hd1
        refine ⟨dl, _, _, rfl, rfl, hd2 _, ?_, ⟨_, _, _, _, rfl⟩, (g1.new hqn).turn hdl (hd2 _), ⟨ts ++ [q], ?_, ?_⟩, fun _ => hn⟩
        · rw [List.length_map, hts.length]
          exact Nat.lt_of_le_of_lt (lsItems_len ..) (Nat.lt_of_lt_of_le hil (Nat.le_trans h1 (by decide)))
        · rw [upd_same, List.map_append]
          rfl
        · rw [lsItems_succ]
          have e2 : lsItem f l am d i = some (am.getD i 0 + turnOf (rnd f l i am.length) d * d, f + i + turnOf (rnd f l i am.length) d * am.length) := by
            unfold lsItem
            rw [if_pos hlv]
          rw [e2]
          refine Paired.app (hts1.ext fun b xs e => ?_) (.cons ?_ .nil)
          · rw [upd_ne (fun z => by rw [z, hd1] at e; cases e), upd_ne (fun z => by rw [z, hqn] at e; cases e)]
            exact e
          · rw [upd_ne (fun z => by rw [z, hd1] at hqn; cases hqn), upd_same]
      refine ⟨_, rfl, _, rfl, ?_⟩
      cases el : l with
      | none =>
        subst el
        refine ⟨_, rfl, p, _, dx1, _, _, rfl, hp1, c, kn.noat "Stretch" "drift", rfl, _, _, rfl, rfl, _, rfl, ?_⟩
        refine ite2 (fun h => ?_) (fun h => ?_)
        · exact hrs rfl (of_decide_eq_true h) _ g1
        · have hdn : ¬ d < 0 := fun z => h (decide_eq_true z)
          refine ⟨_, rfl, _, rfl, ?_⟩
          refine ⟨_, rfl, p, _, dx1, _, _, rfl, hp1, c, kn.noat "Stretch" "drift", rfl, _, _, rfl, rfl, _, rfl, ?_⟩
          refine ite2 (fun h' => absurd (of_decide_eq_true h') hdn) (fun h' => ?_)
          exact tail (fun z => hdn z.2) _ 0 (by unfold turnOf; rw [if_neg hdn]) rfl [some (.ref p), some (.ref dl), some (.int (i : Nat)), some (.int (am.getD i 0)), some .non, some (.int 0)] rfl
      | some l' =>
        subst el
        have hn : ¬ (some l' = none ∧ d < 0) := fun z => by cases z.1
        refine ⟨_, rfl, _, rfl, ?_⟩
        refine ⟨_, rfl, _, _, rfl, rfl, _, rfl, ?_⟩
        refine ite2 (fun h => ?_) (fun h => ?_)
        · have hlv : liveR (rnd f (some l') i am.length) = true := h
          refine ⟨_, rfl, p, _, dx1, _, _, rfl, hp1, c, kn.noat "Stretch" "drift", rfl, _, _, rfl, rfl, _, rfl, ?_⟩
          refine ite2 (fun h' => ?_) (fun h' => ?_)
          · refine ⟨_, rfl, _, _, rfl, rfl, ?_⟩
            exact tail hn _ _ (by unfold turnOf; rw [if_pos (of_decide_eq_true h')]; rfl) hlv [some (.ref p), some (.ref dl), some (.int (i : Nat)), some (.int (am.getD i 0)), some (oi (rnd f (some l') i am.length)), some (.int (max 0 ((l' - f - (i : Nat)) / (am.length : Int) + 1) - 1))] rfl
          · exact tail hn _ 0 (by unfold turnOf; rw [if_neg (fun z => h' (decide_eq_true z))]) hlv [some (.ref p), some (.ref dl), some (.int (i : Nat)), some (.int (am.getD i 0)), some (oi (rnd f (some l') i am.length)), some (.int 0)] rfl
        · have hlv : ¬ liveR (rnd f (some l') i am.length) = true := h
          refine ⟨⟨_, _, _, _, rfl⟩, g1, ⟨ts, hd1, ?_⟩, fun _ => hn⟩
          rw [lsItems_succ]
          have e2 : lsItem f (some l') am d i = none := by
            unfold lsItem
            rw [if_neg hlv]
          rw [e2]
          show PairsAt _ ts (_ ++ [])
          rw [List.append_nil]
          exact hts1
    · obtain ⟨⟨a, b, c', e, rfl⟩, g, ⟨ts, hdl', hts⟩, hnz⟩ := hi
      rw [List.length_map] at hts hnz
      have hn := hnz h0
      refine ⟨_, rfl, dl, ts.map V.ref, kOf H', rfl, .inl (.inl hdl'), ?_, fun x hx => ?_, fun m hm hle => ?_⟩
      · rw [List.length_map, hts.length]
        exact lsItems_ne h0 hfl
      · obtain ⟨t, ht, rfl⟩ := List.mem_map.mp hx
        obtain ⟨it, _, e1⟩ := hts.mem t ht
        exact ⟨t, rfl, by rw [kOf_eq e1]; exact e1⟩
      · obtain ⟨t, ht, rfl⟩ := List.mem_map.mp hm
        obtain ⟨it, hit, e1⟩ := hts.mem t ht
        refine hq hn t it.1 it.2 H' g e1 hit fun it2 hit2 => ?_
        obtain ⟨t2, ht2, e2⟩ := hts.mem' it2 hit2
        have z := hle (.ref t2) (List.mem_map.mpr ⟨t2, ht2, rfl⟩)
        rw [kOf_eq e1, kOf_eq e2] at z
        exact z
end
end So
end
section
set_option maxHeartbeats 2000000
/-! Plans: the flow of a cycle, spans, totals. -/
namespace So
open PySem PySem.Spec PyProof.Rows L2 He
/-- an order: period, day, amount -/
abbrev Ord := Int × Int × Int
structure OrdOk (c : Int) (o : Ord) : Prop where
  p0 : 1 ≤ o.1
  dv : o.1 ∣ c
  d0 : 0 ≤ o.2.1
  d1 : o.2.1 < o.1
  a0 : -1000 ≤ o.2.2
  a1 : o.2.2 ≤ 1000
/-- the orders stand in the tuple at a -/
def OrdsAt (H : Hp) (a : Addr) (os : List Ord) : Prop := ∃ ts : List Addr, H a = some (.tup (ts.map V.ref)) ∧ Paired (fun t o => H t = some (.tup [.int o.1, .int o.2.1, .int o.2.2])) ts os
theorem OrdsAt.ext {H H' : Hp} {a : Addr} {os : List Ord} (h : OrdsAt H a os) (g : ∀ b xs, H b = some (.tup xs) → H' b = some (.tup xs)) : OrdsAt H' a os := by
  obtain ⟨ts, h1, h2⟩ := h
  exact ⟨ts, g _ _ h1, Paired.mapP h2 fun _ _ e => g _ _ e⟩
theorem GrB.tups {T : Wt} {H H' : Hp} (g : Gr T H H') : ∀ b xs, H b = some (.tup xs) → H' b = some (.tup xs) := fun b xs e => g.get e
/-- the calendar stands in the tuple at a; its last period is c -/
def CalAt (H : Hp) (a : Addr) (ps : List Int) (c : Int) : Prop := H a = some (.tup ((ps ++ [c]).map V.int))
theorem Paired.at {α β : Type} {R : α → β → Prop} {l : List α} {m : List β} (h : Paired R l m) : ∀ {i : Nat} {x : α}, l[i]? = some x → ∃ y, m[i]? = some y ∧ R x y := by
  induction h with
  | nil => intro i x e; cases e
  | cons r _ ih =>
    intro i x e
    cases i with
    | zero => cases e; exact ⟨_, rfl, r⟩
    | succ i => exact ih e
theorem map_ref_at {ts : List Addr} {i : Nat} {x : V} (h : (ts.map V.ref)[i]? = some x) : ∃ t, ts[i]? = some t ∧ x = .ref t := by
  rw [List.getElem?_map] at h
  cases e : ts[i]? with
  | none => rw [e] at h; cases h
  | some t => rw [e] at h; cases h; exact ⟨t, rfl, rfl⟩
theorem ixN_natS {n j : Nat} (hj : j < n) : ixN n (j : Int) = some j := by
  unfold ixN
  rw [if_pos (by omega), if_pos (by omega)]
  simp
/-! ### the flow of one cycle -/
def addN (d p a : Int) (xs : List Int) : Nat → List Int
  | 0 => xs
  | m + 1 => (addN d p a xs m).set (d + m * p).toNat ((addN d p a xs m).getD (d + m * p).toNat 0 + a)
theorem addN_len (d p a : Int) (xs : List Int) (m : Nat) : (addN d p a xs m).length = xs.length := by
  induction m with
  | zero => rfl
  | succ m ih => show (List.set _ _ _).length = _; rw [List.length_set, ih]
def stepN (d c p : Int) : Nat := ((c - d - 1) / p + 1).toNat
def flowAdd (c : Int) (xs : List Int) (o : Ord) : List Int := addN o.2.1 o.1 o.2.2 xs (stepN o.2.1 c o.1)
def flows (c : Int) (os : List Ord) : List Int := os.foldl (flowAdd c) (List.replicate c.toNat 0)
theorem foldl_len (c : Int) (os : List Ord) (xs : List Int) : (os.foldl (flowAdd c) xs).length = xs.length := by
  induction os generalizing xs with
  | nil => rfl
  | cons o r ih => rw [List.foldl_cons, ih]; exact addN_len ..
theorem flows_len (c : Int) (os : List Ord) : (flows c os).length = c.toNat := by
  unfold flows
  rw [foldl_len, List.length_replicate]
theorem take_succ_foldl {α β : Type} (g : β → α → β) (l : List α) (b : β) (i : Nat) (x : α) (h : l[i]? = some x) : (l.take (i + 1)).foldl g b = g ((l.take i).foldl g b) x := by
  have e : l.take (i + 1) = l.take i ++ [x] := by
    rw [List.take_succ, h]
    rfl
  rw [e, List.foldl_append]
  rfl
def spFlowList (T : Wt) : Sp := fun vs H Q _ => ∃ (cal ords : Addr) (ps : List Int) (c : Int) (os : List Ord), vs = [.ref cal, .ref ords] ∧ CalAt H cal ps c ∧ OrdsAt H ords os ∧ 1 ≤ c ∧ c ≤ 400 ∧ (∀ o ∈ os, OrdOk c o) ∧ Tbs T H ∧
  ∀ l H', Gr T H H' → H l = none → H' l = some (.lst ((flows c os).map V.int)) → Q (.ref l) H'
theorem stepN_rg {c : Int} {o : Ord} (h : OrdOk c o) (h1 : 1 ≤ c) (h2 : c ≤ 400) : RgC o.2.1 c o.1 (stepN o.2.1 c o.1) := by
  have hp : o.1 ≤ c := Int.le_of_dvd (by omega) h.dv
  have hdc : o.2.1 < c := Int.lt_of_lt_of_le h.d1 hp
  have p0 := h.p0
  have d0 := h.d0
  have b0 : 0 ≤ (c - o.2.1 - 1) / o.1 := Int.ediv_nonneg (by omega) (by omega)
  have b1 : (c - o.2.1 - 1) / o.1 ≤ c - o.2.1 - 1 := Int.ediv_le_self _ (by omega)
  have sz : Builtin.Range.rangeSize o.2.1 c o.1 = (c - o.2.1 - 1) / o.1 + 1 := by
    unfold Builtin.Range.rangeSize
    rw [if_pos (by omega), if_pos hdc]
  refine ⟨by omega, by omega, ?_, ?_⟩
  · unfold Builtin.Range.small
    rw [sz]
    generalize (c - o.2.1 - 1) / o.1 = q at b0 b1
    have h0 : o.1 > 0 := by omega
    rw [if_pos h0]
    simp only [Builtin.Range.rangeFitsLong, Bool.and_eq_true, Bool.or_eq_true, decide_eq_true_eq, beq_iff_eq]
    omega
  · rw [sz]
    unfold stepN
    generalize (c - o.2.1 - 1) / o.1 = q at b0 b1
    omega
section
variable {P : Program} {w : World} {K : PySem.W.Frag} {mg : Str → Option Value} {base : Heap} {T : Wt}
theorem ok_flow_list (kn : Kn K mg) : Okd P w K mg base CX0 1 (ga K "flow_list") ["calendar", "orders"] (spFlowList T) := by
  refine okd_of kn.f_flow_list sc_flow_list (fun vs H Q E h => ?_) (fun _ _ _ _ _ _ us hl => match us, hl with | [_, _], _ => rfl) (fun cdv A outer s H vs Q E hr h => ?_)
  · obtain ⟨cal, ords, ps, c, os, rfl, _⟩ := h
    rfl
  · obtain ⟨cal, ords, ps, c, os, rfl, hcal, ⟨ts, hts, hps⟩, c1, c2, hos, tb, hq⟩ := h
    refine ⟨_, PSs.nox (pss_cons (ps_set (i := 2) sc_flow_list.nd rfl (.inl rfl) (pe_op op_rep (pe_lst (pa_cons pe_int pa_nil)) (pe_ix ix_tup (pv 0) (pe_un un_neg pe_int) (fun _ _ => rfl))))
      (pss_cons (ps_for PassesOwn.never rfl (pi_tup (pv 1)) (pg_tup rfl (pgs_cons (pg_name (i := 3) sc_flow_list.nd rfl (.inl rfl)) (pgs_cons (pg_name (i := 4) sc_flow_list.nd rfl (.inl rfl)) (pgs_cons (pg_name (i := 5) sc_flow_list.nd rfl (.inl rfl)) pgs_nil)))) (pss_one (ps_for PassesOwn.never rfl (pi_range3 rfl (kn.free "range") (pa_cons (pv 4) (pa_cons (pe_ix ix_tup (pv 0) (pe_un un_neg pe_int) (fun _ _ => rfl)) (pa_cons (pv 3) pa_nil)))) (pg_name (i := 6) sc_flow_list.nd rfl (.inl rfl)) (pss_one (ps_augS (pv 2) (pv 6) get_list (pv 5) ip_add set_list)))))
      (pss_one (ps_ret (pv 2))))), ?_⟩
    have hlast : ∀ H', Gr T H H' → SqT K H' cal ((ps ++ [c]).map V.int) := fun H' g => .inl (.inl (g.get hcal))
    have hat : atI ((ps ++ [c]).map V.int) (-1) = some (.int c) := by rw [List.map_append]; exact atI_last _ _
    refine ⟨(by decide : 1 ≤ sizeLine), fun q hq0 => ?_⟩
    have g0 : Gr T H (upd H q (.lst [.int 0])) := (Gr.refl tb).new hq0
    refine ⟨_, rfl, _, rfl, cal, _, _, _, rfl, rfl, hlast _ g0, hat, q, c, _, rfl, rfl, upd_same, by omega, by omega, ?_, fun dl hdl => ?_⟩
    · have : sizeLine = 16777216 := sizeLine_eq
      show 1 * c.toNat ≤ sizeLine
      omega
    have g1 : Gr T H (upd (upd H q (.lst [.int 0])) dl (.lst (List.replicate c.toNat [V.int 0]).flatten)) := g0.new hdl
    have hdlH : H dl = none := by
      by_cases z : dl = q
      · rw [z]; exact hq0
      · rw [upd_ne z] at hdl; exact hdl
    have e0 : (List.replicate c.toNat [V.int 0]).flatten = ((List.replicate c.toNat (0 : Int)).map V.int) := by
      generalize c.toNat = n
      induction n with
      | zero => rfl
      | succ n ih => rw [List.replicate_succ, List.flatten_cons, ih]; rfl
    rw [e0] at g1 ⊢
    refine ⟨_, rfl, ords, rfl, ⟨_, .inl (.inl (g1.get hts))⟩, ?_⟩
    refine for_tup (xs := ts.map V.ref) (fun i σ H' => (∃ a b c e, σ = [some (.ref cal), some (.ref ords), some (.ref dl), a, b, c, e]) ∧ Gr T H H' ∧ H' dl = some (.lst (((os.take i).foldl (flowAdd c) (List.replicate c.toNat 0)).map V.int))) ⟨⟨_, _, _, _, rfl⟩, g1, upd_same⟩ (fun i σ H' _ hi => ?_) (fun i x σ H' hx hi => ?_) (fun σ H' hi => ?_)
    · exact .inl (.inl (hi.2.1.get hts))
    · obtain ⟨⟨a, b, c', e, rfl⟩, g, hdl'⟩ := hi
      obtain ⟨t, ht, rfl⟩ := map_ref_at hx
      obtain ⟨o, ho, hto⟩ := Paired.at hps ht
      have hok := hos o (List.mem_of_getElem? ho)
      refine ⟨t, _, rfl, .inl (.inl (g.get hto)), rfl, _, _, rfl, _, _, rfl, _, _, rfl, rfl, ?_⟩
      refine ⟨_, rfl, _, rfl, _, rfl, cal, _, _, _, rfl, rfl, hlast _ g, hat, _, rfl, _, _, _, stepN o.2.1 c o.1, rfl, stepN_rg hok c1 c2, ?_⟩
      have hlen : ((os.take i).foldl (flowAdd c) (List.replicate c.toNat 0)).length = c.toNat := by rw [foldl_len, List.length_replicate]
      generalize hxs : (os.take i).foldl (flowAdd c) (List.replicate c.toNat 0) = xs at hdl' hlen
      refine for_rangeC (fun j σ H' => (∃ e, σ = [some (.ref cal), some (.ref ords), some (.ref dl), some (.int o.1), some (.int o.2.1), some (.int o.2.2), e]) ∧ Gr T H H' ∧ H' dl = some (.lst ((addN o.2.1 o.1 o.2.2 xs j).map V.int))) ⟨⟨_, rfl⟩, g, hdl'⟩ (fun j σ H' hj hi => ?_) (fun σ H' hi => ?_)
      · obtain ⟨⟨e, rfl⟩, g, hdl'⟩ := hi
        have p0 := hok.p0
        have d0 := hok.d0
        have hp : o.1 ≤ c := Int.le_of_dvd (by omega) hok.dv
        have hdc : o.2.1 < c := Int.lt_of_lt_of_le hok.d1 hp
        have hpos : 0 ≤ (j : Int) * o.1 := Int.mul_nonneg (by omega) (by omega)
        have hjb : (j : Int) * o.1 ≤ c - o.2.1 - 1 := by
          have b0 : 0 ≤ (c - o.2.1 - 1) / o.1 := Int.ediv_nonneg (by omega) (by omega)
          have h1 : (j : Int) ≤ (c - o.2.1 - 1) / o.1 := by unfold stepN at hj; omega
          have h2 : (c - o.2.1 - 1) / o.1 * o.1 ≤ c - o.2.1 - 1 := Int.ediv_mul_le _ (by omega)
          exact Int.le_trans (Int.mul_le_mul_of_nonneg_right h1 (by omega)) h2
        have hlt : (o.2.1 + (j : Int) * o.1).toNat < (addN o.2.1 o.1 o.2.2 xs j).length := by
          rw [addN_len, hlen]
          omega
        refine ⟨_, rfl, _, rfl, dl, _, _, V.int ((addN o.2.1 o.1 o.2.2 xs j).getD (o.2.1 + (j : Int) * o.1).toNat 0), rfl, rfl, hdl', by omega, ?_, ?_⟩
        · rw [List.getElem?_map, List.getD_eq_getElem?_getD, List.getElem?_eq_getElem hlt]
          rfl
        refine ⟨_, rfl, _, _, rfl, rfl, dl, _, _, (o.2.1 + (j : Int) * o.1).toNat, rfl, rfl, hdl', ?_, ?_⟩
        · have z := ixN_natS (n := ((addN o.2.1 o.1 o.2.2 xs j).map V.int).length) (j := (o.2.1 + (j : Int) * o.1).toNat) (by rw [List.length_map]; exact hlt)
          rw [Int.toNat_of_nonneg (by omega)] at z
          exact z
        · refine ⟨⟨_, rfl⟩, g.turn hdlH hdl', ?_⟩
          rw [upd_same]
          show _ = some (HO.lst (((addN o.2.1 o.1 o.2.2 xs j).set (o.2.1 + j * o.1).toNat ((addN o.2.1 o.1 o.2.2 xs j).getD (o.2.1 + j * o.1).toNat 0 + o.2.2)).map V.int))
          rw [List.map_set]
      · obtain ⟨⟨e, rfl⟩, g, hdl'⟩ := hi
        refine ⟨⟨_, _, _, _, rfl⟩, g, ?_⟩
        rw [take_succ_foldl _ _ _ _ _ ho, hxs]
        exact hdl'
    · obtain ⟨⟨a, b, c', e, rfl⟩, g, hdl'⟩ := hi
      rw [List.length_map, Paired.length hps, List.take_length] at hdl'
      exact ⟨_, rfl, hq dl H' g hdlH hdl'⟩
end
end So
end
section
set_option maxHeartbeats 2000000
/-! Plans: spans, totals. -/
namespace So
open PySem PySem.Spec PyProof.Rows L2 He
def PhAt (H : Hp) (phs : Addr) (s0 : Int) (ords : Addr) : Prop := ∃ ph, H phs = some (.tup [.ref ph]) ∧ H ph = some (.tup [.int s0, .ref ords])
/-- a plan of one phase -/
def PlanAt (H : Hp) (p : Addr) (ps : List Int) (c s0 : Int) (os : List Ord) : Prop := ∃ cal phs ords, H p = some (.tup [.ref cal, .ref phs]) ∧ CalAt H cal ps c ∧ PhAt H phs s0 ords ∧ OrdsAt H ords os
theorem PhAt.ext {H H' : Hp} {p : Addr} {s0 : Int} {a : Addr} (h : PhAt H p s0 a) (g : ∀ b xs, H b = some (.tup xs) → H' b = some (.tup xs)) : PhAt H' p s0 a := by
  obtain ⟨ph, h1, h2⟩ := h
  exact ⟨ph, g _ _ h1, g _ _ h2⟩
theorem PlanAt.ext {H H' : Hp} {p : Addr} {ps : List Int} {c s0 : Int} {os : List Ord} (h : PlanAt H p ps c s0 os) (g : ∀ b xs, H b = some (.tup xs) → H' b = some (.tup xs)) : PlanAt H' p ps c s0 os := by
  obtain ⟨cal, phs, ords, h1, h2, h3, h4⟩ := h
  exact ⟨cal, phs, ords, g _ _ h1, g _ _ h2, h3.ext g, h4.ext g⟩
def spSpans (T : Wt) : Sp := fun vs H Q _ => ∃ (phs ords : Addr) (s0 : Int), vs = [.ref phs] ∧ PhAt H phs s0 ords ∧ Tbs T H ∧
  ∀ l t H', Gr T H H' → H l = none → H' l = some (.lst [.ref t]) → H' t = some (.tup [.int 0, .int s0, .non, .ref ords]) → Q (.ref l) H'
def dueAt (o : Ord) (s0 day : Int) : Int := if s0 ≤ day then dueN o.1 o.2.1 s0 day else 0
def totItem (os : List Ord) (s0 day : Int) (i : Nat) : Option Int := match os[i]? with
  | some o => if 0 < dueAt o s0 day then some (dueAt o s0 day * o.2.2) else none
  | none => none
def totItems (os : List Ord) (s0 day : Int) (n : Nat) : List Int := (List.range n).filterMap (totItem os s0 day)
theorem totItems_succ (os : List Ord) (s0 day : Int) (n : Nat) : totItems os s0 day (n + 1) = totItems os s0 day n ++ (totItem os s0 day n).toList := by
  unfold totItems
  rw [List.range_succ, List.filterMap_append]
  congr 1
theorem totItems_len (os : List Ord) (s0 day : Int) (n : Nat) : (totItems os s0 day n).length ≤ n := by
  unfold totItems
  have := filterMap_le (totItem os s0 day) (List.range n)
  rw [List.length_range] at this
  exact this
/-- tuples of four, the last an int -/
def Tots (H : Hp) (ts : List Addr) (ns : List Int) : Prop := Paired (fun t n => ∃ a b c : V, H t = some (.tup [a, b, c, .int n])) ts ns
theorem Tots.ext {H H' : Hp} {ts : List Addr} {ns : List Int} (h : Tots H ts ns) (g : ∀ b xs, H b = some (.tup xs) → H' b = some (.tup xs)) : Tots H' ts ns := Paired.mapP h fun _ _ ⟨a, b, c, e⟩ => ⟨a, b, c, g _ _ e⟩
def spTotals (T : Wt) : Sp := fun vs H Q _ => ∃ (plan : Addr) (ps : List Int) (c s0 day : Int) (os : List Ord), vs = [.ref plan, .int day] ∧ PlanAt H plan ps c s0 os ∧ c ≤ 400 ∧ 1 ≤ c ∧ (∀ o ∈ os, OrdOk c o) ∧ os.length ≤ 1000 ∧ Tbs T H ∧
  ∀ l ts H', Gr T H H' → H l = none → H' l = some (.lst (ts.map V.ref)) → Tots H' ts (totItems os s0 day os.length) → Q (.ref l) H'
section
variable {P : Program} {w : World} {K : PySem.W.Frag} {mg : Str → Option Value} {base : Heap} {T : Wt}
theorem ok_spans_of (kn : Kn K mg) : Okd P w K mg base CX0 1 (ga K "spans_of") ["phases"] (spSpans T) := by
  refine okd_of kn.f_spans_of sc_spans_of (fun vs H Q E h => ?_) (fun _ _ _ _ _ _ us hl => match us, hl with | [_], _ => rfl) (fun cdv A outer s H vs Q E hr h => ?_)
  · obtain ⟨phs, ords, s0, rfl, _⟩ := h
    rfl
  · obtain ⟨phs, ords, s0, rfl, ⟨ph, h1, h2⟩, tb, hq⟩ := h
    refine ⟨_, PSs.nox (pss_cons (ps_set (i := 1) sc_spans_of.nd rfl (.inl rfl) (pe_lst pa_nil))
      (pss_cons (ps_for PassesOwn.never rfl (pi_enumT rfl (kn.free "enumerate") (pa_cons (pv 0) pa_nil)) (pg_tup rfl (pgs_cons (pg_name (i := 2) sc_spans_of.nd rfl (.inl rfl)) (pgs_cons (pg_tup rfl (pgs_cons (pg_name (i := 3) sc_spans_of.nd rfl (.inl rfl)) (pgs_cons (pg_name (i := 4) sc_spans_of.nd rfl (.inl rfl)) pgs_nil))) pgs_nil))) (pss_cons (ps_set (i := 5) sc_spans_of.nd rfl (.inl rfl) (pe_ifExp (pt_cmpR op_lt (pe_op op_add (pv 2) pe_int) (pe_callB (call_len_seq) rfl (kn.free "len") boot_len (pa_cons (pv 0) pa_nil)) (nomark _)) pe_never pe_non))
      (pss_one (ps_expr (pe_bm PySem.F.plainAttrs_list PySem.F.slot_list_append PySem.F.type_list_append mt_append (pv 1) (pa_cons (pe_tup (pa_cons (pv 2) (pa_cons (pv 3) (pa_cons (pv 5) (pa_cons (pv 4) pa_nil))))) pa_nil))))))
      (pss_one (ps_ret (pv 1))))), ?_⟩
    refine ⟨Nat.zero_le _, fun dl hdl => ?_⟩
    have g0 : Gr T H (upd H dl (.lst [])) := (Gr.refl tb).new hdl
    refine ⟨_, rfl, phs, [.ref ph], rfl, .inl (.inl (g0.get h1)), ?_⟩
    refine for_enumT (xs := [.ref ph]) (fun i σ H' => (∃ a b c e, σ = [some (.ref phs), some (.ref dl), a, b, c, e]) ∧ Gr T H H' ∧ ∃ xs, H' dl = some (.lst xs) ∧ ((i = 0 ∧ xs = []) ∨ (i = 1 ∧ ∃ t, xs = [.ref t] ∧ H' t = some (.tup [.int 0, .int s0, .non, .ref ords])))) ⟨⟨_, _, _, _, rfl⟩, g0, [], upd_same, .inl ⟨rfl, rfl⟩⟩ (fun i σ H' _ hi => .inl (.inl (hi.2.1.get h1))) (fun i x T' σ H' hx hi hT => ?_) (fun σ H' hi => ?_)
    · obtain ⟨⟨a, b, c', e, rfl⟩, g, xs, hdl', hxs⟩ := hi
      rcases hxs with ⟨rfl, rfl⟩ | ⟨rfl, _⟩
      · cases hx
        have g1 : Gr T H (upd H' T' (.tup [.int ((0 : Nat) : Int), .ref ph])) := g.new hT
        refine ⟨T', _, rfl, .inl (.inl upd_same), rfl, _, _, rfl, _, _, rfl, ⟨ph, _, rfl, .inl (.inl (g1.get h2)), rfl, _, _, rfl, _, _, rfl, rfl, rfl, ?_⟩⟩
        refine ⟨_, rfl, _, _, rfl, rfl, _, rfl, phs, _, rfl, .inr (.inl (.inl (g1.get h1))), _, _, rfl, rfl, _, rfl, ?_⟩
        have hd1 : (upd H' T' (.tup [.int ((0 : Nat) : Int), .ref ph])) dl = some (.lst []) := by
          rw [upd_ne (fun z => by rw [z, hT] at hdl'; cases hdl')]
          exact hdl'
        refine ⟨_, rfl, .inl ⟨rfl, _, .inl (.inl hd1)⟩, _, rfl, _, rfl, _, rfl, _, rfl, (by decide : 4 ≤ sizeLine), fun q hqn => ?_⟩
        have hd2 : ∀ o, (upd (upd H' T' (.tup [.int ((0 : Nat) : Int), .ref ph])) q o) dl = some (.lst []) := fun o => by
          rw [upd_ne (fun z => by rw [z, hqn] at hd1; cases hd1)]
          exact hd1
        refine ⟨dl, _, _, rfl, rfl, hd2 _, (by decide : 0 < sizeLine), ⟨_, _, _, _, rfl⟩, (g1.new hqn).turn hdl (hd2 _), _, upd_same, .inr ⟨rfl, q, rfl, ?_⟩⟩
        rw [upd_ne (fun z => by rw [z, hd1] at hqn; cases hqn), upd_same]
        rfl
      · cases hx
    · obtain ⟨⟨a, b, c', e, rfl⟩, g, xs, hdl', hxs⟩ := hi
      rcases hxs with ⟨z, _⟩ | ⟨_, t, rfl, ht⟩
      · cases z
      · exact ⟨_, rfl, hq dl t H' g hdl hdl' ht⟩
theorem ok_totals_until (kn : Kn K mg) : Okd P w K mg base CX0 2 (ga K "totals_until") ["plan", "day"] (spTotals T) := by
  refine okd_of kn.f_totals_until sc_totals_until (fun vs H Q E h => ?_) (fun _ _ _ _ _ _ us hl => match us, hl with | [_, _], _ => rfl) (fun cdv A outer s H vs Q E hr h => ?_)
  · obtain ⟨plan, ps, c, s0, day, os, rfl, _⟩ := h
    rfl
  · obtain ⟨plan, ps, c, s0, day, os, rfl, ⟨cal, phs, ords, h1, h2, h3, ⟨ots, h4, h5⟩⟩, c2, c1, hos, hol, tb, hq⟩ := h
    refine ⟨_, PSs.nox (pss_cons (ps_set (i := 2) sc_totals_until.nd rfl (.inl rfl) (pe_lst pa_nil))
      (pss_cons (ps_for PassesOwn.never rfl (pi_list (pf (ok_spans_of (T := T) kn) (hr.mono (by decide)) (kn.glo "spans_of") pass0 (pa_cons (pe_ix ix_tup (pv 0) pe_int (fun _ _ => rfl)) pa_nil))) (pg_tup rfl (pgs_cons (pg_name (i := 3) sc_totals_until.nd rfl (.inl rfl)) (pgs_cons (pg_name (i := 4) sc_totals_until.nd rfl (.inl rfl)) (pgs_cons (pg_name (i := 5) sc_totals_until.nd rfl (.inl rfl)) (pgs_cons (pg_name (i := 6) sc_totals_until.nd rfl (.inl rfl)) pgs_nil))))) (pss_cons (ps_set (i := 7) sc_totals_until.nd rfl (.inl rfl) (pe_ifExp (pt_cmp (pc_isN (pv 5))) (pv 1) pe_never))
      (pss_one (ps_for PassesOwn.never rfl (pi_enumT rfl (kn.free "enumerate") (pa_cons (pv 6) pa_nil)) (pg_tup rfl (pgs_cons (pg_name (i := 8) sc_totals_until.nd rfl (.inl rfl)) (pgs_cons (pg_tup rfl (pgs_cons (pg_name (i := 9) sc_totals_until.nd rfl (.inl rfl)) (pgs_cons (pg_name (i := 10) sc_totals_until.nd rfl (.inl rfl)) (pgs_cons (pg_name (i := 11) sc_totals_until.nd rfl (.inl rfl)) pgs_nil)))) pgs_nil))) (pss_cons (ps_set (i := 12) sc_totals_until.nd rfl (.inl rfl) (pe_ifExp (pt_cmpR op_ge (pv 7) (pv 4) (nomark _)) (pf (ok_days_due kn) (hr.mono (by decide)) (kn.glo "days_due") pass0 (pa_cons (pv 9) (pa_cons (pv 10) (pa_cons (pv 4) (pa_cons (pv 7) pa_nil))))) pe_int))
      (pss_one (ps_if (pt_cmpR op_gt (pv 12) pe_int (nomark _)) (pss_one (ps_expr (pe_bm PySem.F.plainAttrs_list PySem.F.slot_list_append PySem.F.type_list_append mt_append (pv 2) (pa_cons (pe_tup (pa_cons (pv 3) (pa_cons (pv 8) (pa_cons (pv 12) (pa_cons (pe_op op_mul (pv 12) (pv 11)) pa_nil))))) pa_nil)))) pss_nil)))))))
      (pss_one (ps_ret (pv 2))))), ?_⟩
    refine ⟨Nat.zero_le _, fun dl hdl => ?_⟩
    have g0 : Gr T H (upd H dl (.lst [])) := (Gr.refl tb).new hdl
    refine ⟨_, rfl, plan, _, _, .ref phs, rfl, rfl, .inl (.inl (g0.get h1)), rfl, phs, ords, s0, rfl, h3.ext g0.tups, g0.tb, fun sl st H1 g1 hsl e1 e2 => ?_⟩
    have gg : Gr T H H1 := g0.trans g1
    have hd1 := g1.get (upd_same (H := H) (a := dl) (o := HO.lst []))
    refine ⟨sl, rfl, ⟨_, .inl (.inl e1)⟩, ?_⟩
    refine for_list (xs := [.ref st]) (fun i σ H' => (∃ a3 a4 a5 a6 a7 a8 a9 a10 a11 a12, σ = [some (.ref plan), some (.int day), some (.ref dl), a3, a4, a5, a6, a7, a8, a9, a10, a11, a12]) ∧ Gr T H H' ∧ H' sl = some (.lst [.ref st]) ∧ H' st = some (.tup [.int 0, .int s0, .non, .ref ords]) ∧ ∃ ts : List Addr, H' dl = some (.lst (ts.map V.ref)) ∧ ((i = 0 ∧ ts = []) ∨ (i = 1 ∧ Tots H' ts (totItems os s0 day os.length)))) ⟨⟨_, _, _, _, _, _, _, _, _, _, rfl⟩, gg, e1, e2, [], hd1, .inl ⟨rfl, rfl⟩⟩ (fun i σ H' _ hi => .inl (.inl hi.2.2.1)) (fun i x σ H' hx hi => ?_) (fun σ H' hi => ?_)
    · obtain ⟨⟨a3, a4, a5, a6, a7, a8, a9, a10, a11, a12, rfl⟩, g, e1', e2', ts, hdl', hts⟩ := hi
      rcases hts with ⟨rfl, rfl⟩ | ⟨rfl, _⟩
      · cases hx
        refine ⟨st, _, rfl, .inl (.inl e2'), rfl, _, _, rfl, _, _, rfl, _, _, rfl, _, _, rfl, rfl, ?_⟩
        refine ⟨_, rfl, _, rfl, _, rfl, ?_⟩
        refine ⟨_, rfl, ords, _, rfl, .inl (.inl (g.get h4)), ?_⟩
        refine for_enumT (xs := ots.map V.ref) (fun i σ H' => (∃ a8 a9 a10 a11 a12, σ = [some (.ref plan), some (.int day), some (.ref dl), some (.int 0), some (.int s0), some .non, some (.ref ords), some (.int day), a8, a9, a10, a11, a12]) ∧ Gr T H H' ∧ H' sl = some (.lst [.ref st]) ∧ H' st = some (.tup [.int 0, .int s0, .non, .ref ords]) ∧ ∃ ts : List Addr, H' dl = some (.lst (ts.map V.ref)) ∧ Tots H' ts (totItems os s0 day i)) ⟨⟨_, _, _, _, _, rfl⟩, g, e1', e2', [], hdl', .nil⟩ (fun i σ H' _ hi => .inl (.inl (hi.2.1.get h4))) (fun i x T' σ H' hx hi hT => ?_) (fun σ H' hi => ?_)
        · obtain ⟨⟨a8, a9, a10, a11, a12, rfl⟩, g, e1', e2', ts, hdl', hts⟩ := hi
          obtain ⟨t, ht, rfl⟩ := map_ref_at hx
          obtain ⟨o, ho, hto⟩ := Paired.at h5 ht
          have hok := hos o (List.mem_of_getElem? ho)
          have g1 : Gr T H (upd H' T' (.tup [.int (i : Nat), .ref t])) := g.new hT
          have keep : ∀ b u, H' b = some u → (upd H' T' (.tup [.int (i : Nat), .ref t])) b = some u := upd_ext hT
          refine ⟨T', _, rfl, .inl (.inl upd_same), rfl, _, _, rfl, _, _, rfl, ⟨t, _, rfl, .inl (.inl (g1.get hto)), rfl, _, _, rfl, _, _, rfl, _, _, rfl, rfl, rfl, ?_⟩⟩
          have hil : i < os.length := (List.getElem?_eq_some_iff.mp ho).1
          have tail : ∀ tm : Int, tm = dueAt o s0 day → ∀ σ : L2.St, σ = [some (.ref plan), some (.int day), some (.ref dl), some (.int 0), some (.int s0), some .non, some (.ref ords), some (.int day), some (.int (i : Nat)), some (.int o.1), some (.int o.2.1), some (.int o.2.2), some (.int tm)] → 0 < tm →
              ∃ v0, σ[2]? = some (some v0) ∧ tyV K "list" v0 (upd H' T' (.tup [.int (i : Nat), .ref t])) ∧ ∃ w3, σ[3]? = some (some w3) ∧ ∃ w8, σ[8]? = some (some w8) ∧ ∃ w12, σ[12]? = some (some w12) ∧ ∃ w12', σ[12]? = some (some w12') ∧ ∃ w11, σ[11]? = some (some w11) ∧
                rI CMul (fun i j => .int (i * j)) w12' w11 (upd H' T' (.tup [.int (i : Nat), .ref t])) (fun z H3 => [w3, w8, w12, z].length ≤ sizeLine ∧ ∀ q, H3 q = none → rAppend v0 [.ref q] (upd H3 q (.tup [w3, w8, w12, z])) (fun _ H' => (∃ a8 a9 a10 a11 a12, σ = [some (.ref plan), some (.int day), some (.ref dl), some (.int 0), some (.int s0), some .non, some (.ref ords), some (.int day), a8, a9, a10, a11, a12]) ∧ Gr T H H' ∧ H' sl = some (.lst [.ref st]) ∧ H' st = some (.tup [.int 0, .int s0, .non, .ref ords]) ∧ ∃ ts : List Addr, H' dl = some (.lst (ts.map V.ref)) ∧ Tots H' ts (totItems os s0 day (i + 1)))) := fun tm htm σ hσ hpos => by
            subst hσ
            have hd1 := keep _ _ hdl'
            refine ⟨_, rfl, .inl ⟨rfl, _, .inl (.inl hd1)⟩, _, rfl, _, rfl, _, rfl, _, rfl, _, rfl, _, _, rfl, rfl, .inr ⟨by have := hok.a0; omega, by have := hok.a1; omega⟩, (by decide : 4 ≤ sizeLine), fun q hqn => ?_⟩
            have keep2 : ∀ b u o, (upd H' T' (.tup [.int (i : Nat), .ref t])) b = some u → (upd (upd H' T' (.tup [.int (i : Nat), .ref t])) q o) b = some u := fun b u o e => upd_ext hqn b u e
            have tupn : ∀ b xs, (upd H' T' (.tup [.int (i : Nat), .ref t])) b = some (.tup xs) → ∀ o o', (upd (upd (upd H' T' (.tup [.int (i : Nat), .ref t])) q o) dl o') b = some (.tup xs) := fun b xs e o o' => by
              rw [upd_ne (fun z => by rw [z, hd1] at e; cases e)]
              exact keep2 _ _ _ e
            have nsl : sl ≠ dl := fun z => by rw [z, hdl'] at e1'; cases ts <;> simp_all
            refine ⟨dl, _, _, rfl, rfl, keep2 _ _ _ hd1, ?_, ⟨_, _, _, _, _, rfl⟩, (g1.new hqn).turn hdl (keep2 _ _ _ hd1), ?_, ?_, ts ++ [q], ?_, ?_⟩
            · rw [List.length_map, Paired.length hts]
              exact Nat.lt_of_le_of_lt (totItems_len ..) (Nat.lt_of_lt_of_le hil (Nat.le_trans hol (by decide)))
            · rw [upd_ne nsl]
              exact keep2 _ _ _ (keep _ _ e1')
            · exact tupn _ _ (keep _ _ e2') _ _
            · rw [upd_same, List.map_append]
              rfl
            · rw [totItems_succ]
              have e3 : totItem os s0 day i = some (dueAt o s0 day * o.2.2) := by
                unfold totItem
                rw [ho]
                exact if_pos (by rw [← htm]; exact hpos)
              rw [e3, ← htm]
              refine Paired.app (Tots.ext hts fun b xs e => tupn _ _ (keep _ _ e) _ _) (.cons ⟨.int 0, .int (i : Nat), .int tm, ?_⟩ .nil)
              · rw [upd_ne (fun z => by rw [z, hd1] at hqn; cases hqn), upd_same]
          have rest : ∀ tm : Int, tm = dueAt o s0 day → ¬ 0 < tm → (∃ a8 a9 a10 a11 a12, ([some (.ref plan), some (.int day), some (.ref dl), some (.int 0), some (.int s0), some .non, some (.ref ords), some (.int day), some (.int (i : Nat)), some (.int o.1), some (.int o.2.1), some (.int o.2.2), some (.int tm)] : L2.St) = [some (.ref plan), some (.int day), some (.ref dl), some (.int 0), some (.int s0), some .non, some (.ref ords), some (.int day), a8, a9, a10, a11, a12]) ∧ Gr T H (upd H' T' (.tup [.int (i : Nat), .ref t])) ∧ (upd H' T' (.tup [.int (i : Nat), .ref t])) sl = some (.lst [.ref st]) ∧ (upd H' T' (.tup [.int (i : Nat), .ref t])) st = some (.tup [.int 0, .int s0, .non, .ref ords]) ∧ ∃ ts : List Addr, (upd H' T' (.tup [.int (i : Nat), .ref t])) dl = some (.lst (ts.map V.ref)) ∧ Tots (upd H' T' (.tup [.int (i : Nat), .ref t])) ts (totItems os s0 day (i + 1)) := fun tm htm hz => by
            refine ⟨⟨_, _, _, _, _, rfl⟩, g1, keep _ _ e1', keep _ _ e2', ts, keep _ _ hdl', ?_⟩
            rw [totItems_succ]
            have e3 : totItem os s0 day i = none := by
              unfold totItem
              rw [ho]
              exact if_neg (by rw [← htm]; exact hz)
            rw [e3]
            show Tots _ ts (_ ++ [])
            rw [List.append_nil]
            exact Tots.ext hts fun b xs e => keep _ _ e
          refine ⟨_, rfl, _, rfl, _, _, rfl, rfl, _, rfl, ?_⟩
          refine ite2 (fun h => ?_) (fun h => ?_)
          · have hle : s0 ≤ day := of_decide_eq_true h
            have hp : o.1 ≤ c := Int.le_of_dvd (by omega) hok.dv
            refine ⟨_, rfl, _, rfl, _, rfl, _, rfl, _, _, _, _, rfl, by have := hok.p0; omega, by omega, ?_⟩
            have htm : dueN o.1 o.2.1 s0 day = dueAt o s0 day := by unfold dueAt; rw [if_pos hle]
            refine ⟨_, rfl, _, _, rfl, rfl, _, rfl, ?_⟩
            refine ite2 (fun h' => ?_) (fun h' => ?_)
            · exact tail _ htm [some (.ref plan), some (.int day), some (.ref dl), some (.int 0), some (.int s0), some .non, some (.ref ords), some (.int day), some (.int (i : Nat)), some (.int o.1), some (.int o.2.1), some (.int o.2.2), some (.int (dueN o.1 o.2.1 s0 day))] rfl (of_decide_eq_true h')
            · exact rest _ htm (fun z => h' (decide_eq_true z))
          · have hle : ¬ s0 ≤ day := fun z => h (decide_eq_true z)
            have htm : (0 : Int) = dueAt o s0 day := by unfold dueAt; rw [if_neg hle]
            refine ⟨_, rfl, _, _, rfl, rfl, _, rfl, ?_⟩
            refine ite2 (fun h' => absurd (of_decide_eq_true h') (by decide)) (fun h' => ?_)
            exact rest 0 htm (by decide)
        · obtain ⟨⟨a8, a9, a10, a11, a12, rfl⟩, g, e1', e2', ts, hdl', hts⟩ := hi
          rw [List.length_map, Paired.length h5] at hts
          exact ⟨⟨_, _, _, _, _, _, _, _, _, _, rfl⟩, g, e1', e2', ts, hdl', .inr ⟨rfl, hts⟩⟩
      · cases hx
    · obtain ⟨⟨a3, a4, a5, a6, a7, a8, a9, a10, a11, a12, rfl⟩, g, e1', e2', ts, hdl', hts⟩ := hi
      rcases hts with ⟨z, _⟩ | ⟨_, hts⟩
      · cases z
      · exact ⟨_, rfl, hq dl ts H' g hdl hdl' hts⟩
end
end So
end
section
set_option maxHeartbeats 2000000
/-! Frozen generators: a run that is shown from a state in which every sleeping generator has lost its continuation never wakes one of them; it is a run of the true state too, and they sleep on unchanged. -/
namespace Frz
open PySem
open Sem (wp)
def lost : Resume → Sem PySem.Fin := fun _ => .unsupported "frozen"
def ice : GenState → GenState
  | .suspended _ l c p fs cl => .suspended lost l c p fs cl
  | x => x
def cold : Option GenState → Bool
  | some (.suspended ..) => true
  | _ => false
/-- the sleeping ones of G0 are put back -/
def thawA (G0 G : Array GenState) : Array GenState := (Array.range G.size).map fun i => if cold G0[i]? then (G0[i]?).getD .finished else (G[i]?).getD .finished
def thaw (G0 : Array GenState) (s : Shared) : Shared := { s with gens := thawA G0 s.gens }
def iceA (G0 : Array GenState) : Array GenState := G0.map ice
def iced (s : Shared) : Shared := { s with gens := iceA s.gens }
def flat : GenState → Prop
  | .suspended _ _ _ _ fs _ => splitAtGen fs = none
  | _ => True
structure Cold (G0 G : Array GenState) : Prop where
  sz : G0.size ≤ G.size
  at_ : ∀ (i : Nat) (x : GenState), G[i]? = some x → (cold G0[i]? = true → ∃ y, G0[i]? = some y ∧ x = ice y) ∧ (cold G0[i]? = false → flat x)
theorem thawA_size (G0 G : Array GenState) : (thawA G0 G).size = G.size := by simp [thawA]
theorem thawA_get (G0 G : Array GenState) (i : Nat) : (thawA G0 G)[i]? = if i < G.size then some (if cold G0[i]? then (G0[i]?).getD .finished else (G[i]?).getD .finished) else none := by
  unfold thawA
  by_cases h : i < G.size
  · simp [h]
  · simp [h]
theorem thawA_warm {G0 G : Array GenState} {i : Nat} {x : GenState} (h : G[i]? = some x) (c : cold G0[i]? = false) : (thawA G0 G)[i]? = some x := by
  have hi : i < G.size := (Array.getElem?_eq_some_iff.mp h).1
  rw [thawA_get, if_pos hi, c, h]
  rfl
theorem thawA_cold {G0 G : Array GenState} {i : Nat} {x : GenState} (h : G[i]? = some x) (c : cold G0[i]? = true) : (thawA G0 G)[i]? = G0[i]? := by
  have hi : i < G.size := (Array.getElem?_eq_some_iff.mp h).1
  rw [thawA_get, if_pos hi, c]
  cases e : G0[i]? with
  | none => rw [e] at c; cases c
  | some y => rfl
theorem ice_seen (x : GenState) : (ice x).seen = x.seen := by cases x <;> rfl
theorem ice_bare (x : GenState) : (ice x).bare = x.bare := by cases x <;> rfl
theorem cold_none (G0 : Array GenState) {i : Nat} (h : G0.size ≤ i) : cold G0[i]? = false := by
  rw [Array.getElem?_eq_none h]
  rfl
theorem thawA_set {G0 G : Array GenState} {i : Nat} {x : GenState} (c : cold G0[i]? = false) : thawA G0 (G.setIfInBounds i x) = (thawA G0 G).setIfInBounds i x := by
  apply Array.ext_getElem?
  intro j
  rw [thawA_get, Array.size_setIfInBounds, Array.getElem?_setIfInBounds, Array.getElem?_setIfInBounds, thawA_get, thawA_size]
  by_cases hj : j < G.size
  · by_cases e : i = j
    · subst e
      simp [hj, c]
    · simp [hj, e]
  · by_cases e : i = j
    · subst e
      simp [hj]
    · simp [hj, e]
theorem thawA_push {G0 G : Array GenState} {x : GenState} (h : G0.size ≤ G.size) : thawA G0 (G.push x) = (thawA G0 G).push x := by
  apply Array.ext_getElem?
  intro j
  rw [thawA_get, Array.size_push, Array.getElem?_push, Array.getElem?_push, thawA_get, thawA_size]
  by_cases e : j = G.size
  · subst e
    have c := cold_none G0 h
    simp [c]
  · by_cases hj : j < G.size
    · have h2 : j < G.size + 1 := by omega
      simp [hj, e, h2]
    · have h2 : ¬ j < G.size + 1 := by omega
      simp [hj, e, h2]
theorem Cold.set {G0 G : Array GenState} {i : Nat} {x : GenState} (C : Cold G0 G) (c : cold G0[i]? = false) (f : flat x) : Cold G0 (G.setIfInBounds i x) := by
  refine ⟨by rw [Array.size_setIfInBounds]; exact C.sz, fun j y h => ?_⟩
  rw [Array.getElem?_setIfInBounds] at h
  by_cases e : i = j
  · subst e
    by_cases hi : i < G.size
    · simp [hi] at h
      subst h
      exact ⟨fun q => (by rw [q] at c; cases c), fun _ => f⟩
    · simp [hi] at h
  · simp [e] at h
    exact C.at_ j y h
theorem Cold.push {G0 G : Array GenState} {x : GenState} (C : Cold G0 G) (f : flat x) : Cold G0 (G.push x) := by
  have sz := C.sz
  refine ⟨by rw [Array.size_push]; omega, fun j y h => ?_⟩
  rw [Array.getElem?_push] at h
  by_cases e : j = G.size
  · subst e
    simp at h
    subst h
    have c := cold_none G0 C.sz
    exact ⟨fun q => (by rw [q] at c; cases c), fun _ => f⟩
  · simp [e] at h
    exact C.at_ j y h
theorem Cold.of (G : Array GenState) : Cold G (iceA G) := by
  refine ⟨by simp [iceA], fun i x h => ?_⟩
  unfold iceA at h
  rw [Array.getElem?_map] at h
  cases e : G[i]? with
  | none => rw [e] at h; cases h
  | some y =>
    rw [e] at h
    have e2 : ice y = x := Option.some.inj h
    refine ⟨fun _ => ⟨y, rfl, e2.symm⟩, fun c => ?_⟩
    subst e2
    cases y with
    | suspended k l c p fs cl => cases c
    | fresh c => trivial
    | running => trivial
    | finished => trivial
theorem thaw_ice (G : Array GenState) : thawA G (iceA G) = G := by
  apply Array.ext_getElem?
  intro j
  have hs : (iceA G).size = G.size := by simp [iceA]
  rw [thawA_get, hs]
  by_cases hj : j < G.size
  · rw [if_pos hj]
    have e : G[j]? = some G[j] := Array.getElem?_eq_getElem hj
    unfold iceA
    rw [Array.getElem?_map, e]
    cases G[j] <;> rfl
  · rw [if_neg hj, Array.getElem?_eq_none (by omega)]
theorem no_lost {M : Model} {Γ : Ctx} {p : Pos} {t : Sem PySem.Fin} {fs : List Frame} {s s' : Shared} {e : End} (h : Runs M Γ p t fs s e s') : ∀ w, t = .unsupported w → False := by
  induction h with
  | segRet _ _ ih _ => exact ih
  | segGen _ _ ih _ => exact ih
  | segSuspOut _ _ ih => exact ih
  | segSuspGen _ _ _ _ ih _ => exact ih
  | _ => intro w q; cases q
def flatE : End → Prop
  | .susp _ _ _ _ _ _ fs => splitAtGen fs = none
  | _ => True
theorem split_app : ∀ {a b : List Frame}, splitAtGen a = none → splitAtGen b = none → splitAtGen (a ++ b) = none
  | [], b, _, h => h
  | .gen .. :: a, b, h, _ => by cases h
  | .ret k h0 g l c p kp :: a, b, h, h2 => by
    have h3 : splitAtGen a = none := by
      cases e : splitAtGen a with
      | none => rfl
      | some z =>
        have q : (splitAtGen a).map (fun (fs, b, r) => (Frame.ret k h0 g l c p kp :: fs, b, r)) = none := h
        rw [e] at q
        cases q
    show (splitAtGen (a ++ b)).map _ = none
    rw [split_app h3 h2]
    rfl
theorem split_tail {k h0 g l c p kp} {fs : List Frame} (h : splitAtGen (.ret k h0 g l c p kp :: fs) = none) : splitAtGen fs = none := by
  cases e : splitAtGen fs with
  | none => rfl
  | some z =>
    have q : (splitAtGen fs).map (fun (fs, b, r) => (Frame.ret k h0 g l c p kp :: fs, b, r)) = none := h
    rw [e] at q
    cases q
theorem flat_end {e : End} (h : flatE e) : flat e.genState := by
  cases e with
  | ret r => trivial
  | susp => exact h
/-- the true run -/
theorem runs {M : Model} {Γ : Ctx} {p : Pos} {t : Sem PySem.Fin} {fs : List Frame} {s s' : Shared} {e : End} (G0 : Array GenState) (h : Runs M Γ p t fs s e s') :
    splitAtGen fs = none → Cold G0 s.gens → Runs M Γ p t fs (thaw G0 s) e (thaw G0 s') ∧ Cold G0 s'.gens ∧ flatE e := by
  induction h with
  | done => exact fun _ C => ⟨.done, C, trivial⟩
  | raise => exact fun _ C => ⟨.raise, C, trivial⟩
  | again q _ ih => exact fun f C => let ⟨a, b⟩ := ih f C; ⟨.again q a, b⟩
  | rule _ ih => exact fun f C => let ⟨a, b⟩ := ih f C; ⟨.rule a, b⟩
  | «at» _ ih => exact fun f C => let ⟨a, b⟩ := ih f C; ⟨.at a, b⟩
  | load q _ ih => exact fun f C => let ⟨a, b⟩ := ih f C; ⟨.load q a, b⟩
  | update q _ ih => exact fun f C => let ⟨a, b⟩ := ih f C; ⟨.update q a, b⟩
  | loadIfAlive _ ih => exact fun f C => let ⟨a, b⟩ := ih f C; ⟨.loadIfAlive a, b⟩
  | point _ ih => exact fun f C => let ⟨a, b⟩ := ih f C; ⟨.point a, b⟩
  | alloc _ ih => exact fun f C => let ⟨a, b⟩ := ih f C; ⟨.alloc a, b⟩
  | fresh _ ih => exact fun f C => let ⟨a, b⟩ := ih f C; ⟨.fresh a, b⟩
  | ask _ ih => exact fun f C => let ⟨a, b⟩ := ih f C; ⟨.ask a, b⟩
  | choose q _ ih => exact fun f C => let ⟨a, b⟩ := ih f C; ⟨.choose q a, b⟩
  | os _ ih => exact fun f C => let ⟨a, b⟩ := ih f C; ⟨.os a, b⟩
  | handled _ ih => exact fun f C => let ⟨a, b⟩ := ih f C; ⟨.handled a, b⟩
  | stack _ ih => exact fun f C => let ⟨a, b⟩ := ih f C; ⟨.stack a, b⟩
  | thread _ ih => exact fun f C => let ⟨a, b⟩ := ih f C; ⟨.thread a, b⟩
  | @genState g st Γ p k s e s' q _ ih =>
    intro f C
    obtain ⟨a, b⟩ := ih f C
    cases c : cold G0[g]? with
    | false => exact ⟨.genState (thawA_warm q c) a, b⟩
    | true =>
      obtain ⟨y, hy, e1⟩ := (C.at_ g st q).1 c
      have h2 : (thaw G0 s).gens[g]? = some y := by
        show (thawA G0 s.gens)[g]? = _
        rw [thawA_cold q c, hy]
      refine ⟨.genState h2 ?_, b⟩
      rw [e1, ice_seen] at a
      exact a
  | @newGen Γ p k s e s' c _ ih =>
    intro f C
    obtain ⟨a, b⟩ := ih f (C.push trivial)
    refine ⟨.newGen ?_, b⟩
    have e1 : (thaw G0 s).gens.size = s.gens.size := thawA_size ..
    rw [e1]
    have e2 : thaw G0 { s with gens := s.gens.push (.fresh c) } = { thaw G0 s with gens := (thaw G0 s).gens.push (.fresh c) } := by
      show ({ s with gens := thawA G0 (s.gens.push (.fresh c)) } : Shared) = { s with gens := (thawA G0 s.gens).push (.fresh c) }
      rw [thawA_push C.sz]
    rw [e2] at a
    exact a
  | call _ _ ih1 ih2 =>
    intro f C
    obtain ⟨a1, b1, _⟩ := ih1 rfl C
    obtain ⟨a2, b2⟩ := ih2 f b1
    exact ⟨.call a1 a2, b2⟩
  | callSusp _ ih =>
    intro f C
    obtain ⟨a, b, d⟩ := ih rfl C
    exact ⟨.callSusp a, b, split_app d rfl⟩
  | yield => exact fun _ C => ⟨.yield, C, rfl⟩
  | @resumeFresh Γ p g l k s c e₁ s₁ e s' q _ hq _ ih1 ih2 =>
    intro f C
    cases c0 : cold G0[g]? with
    | true =>
      obtain ⟨y, hy, e1⟩ := (C.at_ g _ q).1 c0
      rw [hy] at c0
      cases y <;> first | (cases c0; done) | (cases e1; done)
    | false =>
      have e2 : ∀ (u : Shared) x, thaw G0 (u.setGen g x) = (thaw G0 u).setGen g x := fun u x => by
        show ({ u with gens := thawA G0 (u.gens.setIfInBounds g x) } : Shared) = { u with gens := (thawA G0 u.gens).setIfInBounds g x }
        rw [thawA_set c0]
      obtain ⟨a1, b1, d1⟩ := ih1 rfl (C.set c0 trivial)
      obtain ⟨a2, b2⟩ := ih2 f (b1.set c0 (flat_end d1))
      rw [e2] at a1 a2
      exact ⟨.resumeFresh (thawA_warm q c0) a1 hq a2, b2⟩
  | @resumeSuspended Γ p g r l k s k₀ l₀ c₀ p₀ fs cl e₁ s₁ e s' q h1 hq _ ih1 ih2 =>
    intro f C
    cases c0 : cold G0[g]? with
    | true =>
      obtain ⟨y, hy, e1⟩ := (C.at_ g _ q).1 c0
      cases y with
      | suspended k1 l1 c1 p1 fs1 cl1 =>
        have e3 : k₀ = lost := by
          injection e1
        subst e3
        exact (no_lost h1 _ rfl).elim
      | fresh _ => cases e1
      | running => cases e1
      | finished => cases e1
    | false =>
      have e2 : ∀ (u : Shared) x, thaw G0 (u.setGen g x) = (thaw G0 u).setGen g x := fun u x => by
        show ({ u with gens := thawA G0 (u.gens.setIfInBounds g x) } : Shared) = { u with gens := (thawA G0 u.gens).setIfInBounds g x }
        rw [thawA_set c0]
      have hf : splitAtGen fs = none := (C.at_ g _ q).2 c0
      obtain ⟨a1, b1, d1⟩ := ih1 hf (C.set c0 trivial)
      obtain ⟨a2, b2⟩ := ih2 f (b1.set c0 (flat_end d1))
      rw [e2] at a1 a2
      exact ⟨.resumeSuspended (thawA_warm q c0) a1 hq a2, b2⟩
  | @resumeJustStarted g v Γ p k s e s' l c q hv _ ih =>
    intro f C
    obtain ⟨a, b⟩ := ih f C
    cases c0 : cold G0[g]? with
    | true =>
      obtain ⟨y, hy, e1⟩ := (C.at_ g _ q).1 c0
      rw [hy] at c0
      cases y <;> first | (cases c0; done) | (cases e1; done)
    | false => exact ⟨.resumeJustStarted (thawA_warm q c0) hv a, b⟩
  | @resumeThrowFresh g Γ p k e s' x l s c q _ ih =>
    intro f C
    cases c0 : cold G0[g]? with
    | true =>
      obtain ⟨y, hy, e1⟩ := (C.at_ g _ q).1 c0
      rw [hy] at c0
      cases y <;> first | (cases c0; done) | (cases e1; done)
    | false =>
      have e2 : ∀ (u : Shared) x, thaw G0 (u.setGen g x) = (thaw G0 u).setGen g x := fun u x => by
        show ({ u with gens := thawA G0 (u.gens.setIfInBounds g x) } : Shared) = { u with gens := (thawA G0 u.gens).setIfInBounds g x }
        rw [thawA_set c0]
      obtain ⟨a, b⟩ := ih f (C.set c0 trivial)
      rw [e2] at a
      exact ⟨.resumeThrowFresh (thawA_warm q c0) a, b⟩
  | @resumeRunning g Γ p k s e s' r l q _ ih =>
    intro f C
    obtain ⟨a, b⟩ := ih f C
    cases c0 : cold G0[g]? with
    | true =>
      obtain ⟨y, hy, e1⟩ := (C.at_ g _ q).1 c0
      rw [hy] at c0
      cases y <;> first | (cases c0; done) | (cases e1; done)
    | false => exact ⟨.resumeRunning (thawA_warm q c0) a, b⟩
  | @resumeFinished g Γ p k s e s' r l q _ ih =>
    intro f C
    obtain ⟨a, b⟩ := ih f C
    cases c0 : cold G0[g]? with
    | true =>
      obtain ⟨y, hy, e1⟩ := (C.at_ g _ q).1 c0
      rw [hy] at c0
      cases y <;> first | (cases c0; done) | (cases e1; done)
    | false => exact ⟨.resumeFinished (thawA_warm q c0) a, b⟩
  | segRet _ _ ih1 ih2 =>
    intro f C
    obtain ⟨a1, b1, _⟩ := ih1 rfl C
    obtain ⟨a2, b2⟩ := ih2 (split_tail f) b1
    exact ⟨.segRet a1 a2, b2⟩
  | segGen _ _ _ _ => intro f C; cases f
  | segSuspOut q _ ih =>
    intro f C
    obtain ⟨a, b, d⟩ := ih rfl C
    exact ⟨.segSuspOut q a, b, split_app d q⟩
  | segSuspGen q _ _ _ _ _ => intro f C; rw [q] at f; cases f
end Frz
namespace Frz
open PySem PyProof.Rows
open Sem (wp)
/-- what a run leaves of the sleeping ones -/
def Slumber (G G' : Array GenState) : Prop := G.size ≤ G'.size ∧ ∀ (i : Nat), cold G[i]? = true → G'[i]? = G[i]?
theorem Slumber.refl (G : Array GenState) : Slumber G G := ⟨Nat.le_refl _, fun _ _ => rfl⟩
theorem Slumber.trans {A B C : Array GenState} (a : Slumber A B) (b : Slumber B C) : Slumber A C :=
  ⟨Nat.le_trans a.1 b.1, fun i h => (b.2 i (by rw [a.2 i h]; exact h)).trans (a.2 i h)⟩
theorem slumber_thaw {G0 G : Array GenState} (C : Cold G0 G) : Slumber G0 (thawA G0 G) := by
  refine ⟨by rw [thawA_size]; exact C.sz, fun i h => ?_⟩
  have hi : i < G0.size := by
    cases e : G0[i]? with
    | none => rw [e] at h; cases h
    | some y => exact (Array.getElem?_eq_some_iff.mp e).1
  have h2 : i < G.size := Nat.lt_of_lt_of_le hi C.sz
  exact thawA_cold (Array.getElem?_eq_getElem h2) h
/-- the same state but for the table of generators, which the first has thawed -/
structure Thawed (s s' t : Shared) : Prop where
  is_ : t = thaw s.gens s'
  cd : Cold s.gens s'.gens
  eq : ∃ G, t = { s' with gens := G }
  sl : Slumber s.gens t.gens
  bare : AllBare s.gens → AllBare s'.gens → AllBare t.gens
theorem thawed_of {s s' : Shared} (C : Cold s.gens s'.gens) : Thawed s s' (thaw s.gens s') where
  is_ := rfl
  cd := C
  eq := ⟨_, rfl⟩
  sl := slumber_thaw C
  bare := fun b b' y hy => by
    obtain ⟨i, hi, e⟩ := Array.mem_iff_getElem.mp hy
    have e2 : (thaw s.gens s').gens[i]? = some y := by rw [Array.getElem?_eq_getElem hi, e]
    have hi2 : i < s'.gens.size := by rw [← thawA_size s.gens s'.gens]; exact hi
    have e3 : s'.gens[i]? = some s'.gens[i] := Array.getElem?_eq_getElem hi2
    cases c : cold s.gens[i]? with
    | true =>
      have e4 : (thawA s.gens s'.gens)[i]? = s.gens[i]? := thawA_cold e3 c
      have e5 : s.gens[i]? = some y := e4.symm.trans e2
      exact b y (Array.mem_of_getElem? e5)
    | false =>
      have e4 : (thawA s.gens s'.gens)[i]? = some s'.gens[i] := thawA_warm e3 c
      have e5 : some y = some s'.gens[i] := e2.symm.trans e4
      rw [Option.some.inj e5]
      exact b' _ (Array.getElem_mem hi2)
theorem iced_bare {s : Shared} (b : AllBare s.gens) : AllBare (iced s).gens := fun y hy => by
  obtain ⟨x, hx, rfl⟩ := Array.mem_map.mp (show y ∈ s.gens.map ice from hy)
  rw [ice_bare]
  exact b x hx
theorem returns {M : Model} {Γ : Ctx} {p : Pos} {s s' : Shared} {r : Result} {G0 : Array GenState} (h : Returns M Γ p s r s') (C : Cold G0 s.gens) : Returns M Γ p (thaw G0 s) r (thaw G0 s') ∧ Cold G0 s'.gens :=
  let ⟨a, b, _⟩ := runs G0 h rfl C
  ⟨a, b⟩
/-- a call -/
theorem call_iced {M : Model} {A : Around} {c : Code} {R R' : Result → Shared → Prop} {s : Shared} (h : codeAny M A c R (iced s)) (hR : ∀ r s' t, R r s' → Thawed s s' t → R' r t) : codeAny M A c R' s := by
  intro Γ p hc hb
  obtain ⟨r, s', h1, h2⟩ := h Γ p hc hb
  obtain ⟨a, b⟩ := returns h1 (Cold.of s.gens)
  have e : thaw s.gens (iced s) = s := by
    show ({ s with gens := thawA s.gens (iceA s.gens) } : Shared) = s
    rw [thaw_ice]
  rw [e] at a
  exact ⟨r, _, a, hR r s' _ h2 (thawed_of b)⟩
theorem wakes {M : Model} {Γ : Ctx} {p : Pos} {g : Nat} {r : Resume} {s s' : Shared} {res : GenResult} {G0 : Array GenState} (h : Wakes M Γ p g r s res s') (C : Cold G0 s.gens) : Wakes M Γ p g r (thaw G0 s) res (thaw G0 s') ∧ Cold G0 s'.gens := by
  -- by a run of one row: resume, then its result at once
  unfold Wakes at h
  cases q : s.gens[g]? with
  | none => rw [q] at h; exact h.elim
  | some y =>
    rw [q] at h
    cases c0 : cold G0[g]? with
    | true =>
      obtain ⟨x, hx, e1⟩ := (C.at_ g _ q).1 c0
      rw [hx] at c0
      cases x with
      | suspended k1 l1 c1 p1 fs1 cl1 =>
        subst e1
        obtain ⟨e₁, s₁, h1, _⟩ := h
        exact (no_lost h1 _ rfl).elim
      | fresh _ => cases c0
      | running => cases c0
      | finished => cases c0
    | false =>
      have e2 : ∀ (u : Shared) x, thaw G0 (u.setGen g x) = (thaw G0 u).setGen g x := fun u x => by
        show ({ u with gens := thawA G0 (u.gens.setIfInBounds g x) } : Shared) = { u with gens := (thawA G0 u.gens).setIfInBounds g x }
        rw [thawA_set c0]
      have q' : (thaw G0 s).gens[g]? = some y := thawA_warm q c0
      unfold Wakes
      rw [q']
      cases y with
      | fresh c =>
        cases r with
        | throw x =>
          obtain ⟨h1, rfl⟩ := h
          exact ⟨⟨h1, e2 _ _⟩, C.set c0 trivial⟩
        | send v =>
          cases v with
          | none =>
            obtain ⟨e₁, s₁, h1, h2, h3, rfl⟩ := h
            obtain ⟨a, b, d⟩ := runs G0 h1 rfl (C.set c0 trivial)
            rw [e2] at a
            exact ⟨⟨e₁, _, a, h2, h3, e2 _ _⟩, b.set c0 (flat_end d)⟩
          | _ =>
            obtain ⟨h1, rfl⟩ := h
            exact ⟨⟨h1, rfl⟩, C⟩
      | suspended k1 l1 c1 p1 fs1 cl1 =>
        obtain ⟨e₁, s₁, h1, h2, h3, rfl⟩ := h
        have hf : splitAtGen fs1 = none := (C.at_ g _ q).2 c0
        obtain ⟨a, b, d⟩ := runs G0 h1 hf (C.set c0 trivial)
        rw [e2] at a
        exact ⟨⟨e₁, _, a, h2, h3, e2 _ _⟩, b.set c0 (flat_end d)⟩
      | running =>
        obtain ⟨h1, rfl⟩ := h
        exact ⟨⟨h1, rfl⟩, C⟩
      | finished =>
        obtain ⟨h1, rfl⟩ := h
        exact ⟨⟨h1, rfl⟩, C⟩
theorem wps {α : Type} (M : Model) (Γ : Ctx) (G0 : Array GenState) (t : Sem α) : ∀ (Q : α → Pos → Shared → Prop) (E : Value → Pos → Shared → Prop) (p : Pos) (s : Shared), Cold G0 s.gens → wp M Γ t Q E p s →
    wp M Γ t (fun a p' u => ∃ s', u = thaw G0 s' ∧ Cold G0 s'.gens ∧ Q a p' s') (fun e p' u => ∃ s', u = thaw G0 s' ∧ Cold G0 s'.gens ∧ E e p' s') p (thaw G0 s) := by
  induction t with
  | pure a => intro Q E p s C h; exact ⟨s, rfl, C, h⟩
  | raise e => intro Q E p s C h; exact ⟨s, rfl, C, h⟩
  | unsupported _ => intro Q E p s _ h; exact h
  | finish _ => intro Q E p s _ h; exact h
  | rule _ k ih => intro Q E p s C h; exact ih () Q E p s C h
  | «at» p' k ih => intro Q E p s C h; exact ih () Q E p' s C h
  | load a _ k ih => intro Q E p s C h; obtain ⟨o, ho, h⟩ := h; exact ⟨o, ho, ih o Q E p s C h⟩
  | update a _ f k ih => intro Q E p s C h; exact ⟨h.1, ih () Q E p { s with heap := s.heap.update a f } C h.2⟩
  | loadIfAlive a k ih => intro Q E p s C h; exact ih _ Q E p s C h
  | point _ k ih => intro Q E p s C h; exact ih () Q E p s C h
  | register _ _ => intro Q E p s _ h; exact h
  | alloc o k ih => intro Q E p s C h; exact ih _ Q E p { s with heap := s.heap.push o } C h
  | fresh k ih => intro Q E p s C h; exact ih _ Q E p { s with toks := s.toks + 1 } C h
  | ask k ih => intro Q E p s C h; exact ih _ Q E p s C h
  | choose src m k ih => intro Q E p s C h; exact ⟨h.1, ih _ Q E p { s with drawn := s.drawn.bump src } C h.2⟩
  | os q _ k ih => intro Q E p s C h; exact ih _ Q E p { s with os := (Os.step s.os q).1 } C h
  | call c hd _ _ k ih =>
    intro Q E p s C h
    obtain ⟨r, s', hr, h⟩ := h
    obtain ⟨a, b⟩ := returns hr C
    exact ⟨r, _, a, ih r Q E p s' b h⟩
  | handled own k ih => intro Q E p s C h; exact ih _ Q E p s C h
  | genState g k ih =>
    intro Q E p s C h
    obtain ⟨st, hs, h⟩ := h
    have a := ih _ Q E p s C h
    cases c : cold G0[g]? with
    | false => exact ⟨st, thawA_warm hs c, a⟩
    | true =>
      obtain ⟨y, hy, e1⟩ := (C.at_ g st hs).1 c
      rw [e1, ice_seen] at a
      exact ⟨y, (thawA_cold hs c).trans hy, a⟩
  | newGen c k ih =>
    intro Q E p s C h
    have a := ih _ Q E p { s with gens := s.gens.push (.fresh c) } (C.push (x := .fresh c) trivial) h
    have e2 : thaw G0 { s with gens := s.gens.push (.fresh c) } = { thaw G0 s with gens := (thaw G0 s).gens.push (.fresh c) } := by
      show ({ s with gens := thawA G0 (s.gens.push (.fresh c)) } : Shared) = { s with gens := (thawA G0 s.gens).push (.fresh c) }
      rw [thawA_push C.sz]
    rw [e2] at a
    have e1 : (thaw G0 s).gens.size = s.gens.size := thawA_size ..
    show wp M Γ (k (thaw G0 s).gens.size) _ _ _ _
    rw [e1]
    exact a
  | resume g r _ k ih =>
    intro Q E p s C h
    obtain ⟨res, s', hw, h⟩ := h
    obtain ⟨a, b⟩ := wakes hw C
    exact ⟨res, _, a, ih res Q E p s' b h⟩
  | yield _ _ _ _ => intro Q E p s _ h; exact h
  | stack k ih => intro Q E p s C h; exact ih _ Q E p s C h
  | fork _ _ => intro Q E p s _ h; exact h
  | thread k ih => intro Q E p s C h; exact ih _ Q E p s C h
  | await _ _ _ _ _ => intro Q E p s _ h; exact h
/-- any code -/
theorem any_iced {α : Type} {M : Model} {A : Around} {t : Sem α} {Q Q' : α → Shared → Prop} {E E' : Value → Shared → Prop} {s : Shared} (h : wpAny M A t Q E (iced s))
    (hQ : ∀ a s' u, Q a s' → Thawed s s' u → Q' a u) (hE : ∀ e s' u, E e s' → Thawed s s' u → E' e u) : wpAny M A t Q' E' s := by
  intro Γ p hΓ
  have a := wps M Γ s.gens t _ _ p (iced s) (Cold.of s.gens) (h Γ p hΓ)
  have e : thaw s.gens (iced s) = s := by
    show ({ s with gens := thawA s.gens (iceA s.gens) } : Shared) = s
    rw [thaw_ice]
  rw [e] at a
  refine Sem.wp_mono M Γ t ?_ ?_ p s a
  · rintro x p' u ⟨s', rfl, C, q⟩
    exact hQ x s' _ q (thawed_of C)
  · rintro x p' u ⟨s', rfl, C, q⟩
    exact hE x s' _ q (thawed_of C)
/-- what is run behind it -/
theorem Thawed.run {α : Type} {M : Model} {A : Around} {t : Sem α} {Q Q' : α → Shared → Prop} {E E' : Value → Shared → Prop} {s s' u : Shared} (T : Thawed s s' u) (h : wpAny M A t Q E s')
    (hQ : ∀ a s'' u', Q a s'' → Thawed s s'' u' → Q' a u') (hE : ∀ e s'' u', E e s'' → Thawed s s'' u' → E' e u') : wpAny M A t Q' E' u := by
  intro Γ p hΓ
  have a := wps M Γ s.gens t _ _ p s' T.cd (h Γ p hΓ)
  rw [← T.is_] at a
  refine Sem.wp_mono M Γ t ?_ ?_ p u a
  · rintro x p' v ⟨s'', rfl, C, q⟩
    exact hQ x s'' _ q (thawed_of C)
  · rintro x p' v ⟨s'', rfl, C, q⟩
    exact hE x s'' _ q (thawed_of C)
end Frz
end
section
set_option maxHeartbeats 2000000
/-! A generator's run, one leg at a time: from where it is woken to its next yield or its end. What is wanted at the end of a leg speaks of the sleeping state itself, so the next leg is told apart. -/
namespace Leg
open PySem PySem.Spec PyProof.Rows L2 GenW
/-- one leg -/
def Run (M : Model) (A : Around) (W : End → Shared → Prop) (c : Code) (t : Sem PySem.Fin) (fs : List Frame) (s : Shared) : Prop :=
  ∀ Γ p, Γ.code = c → Γ.Woken A → ∃ e s', Runs M Γ p t fs s e s' ∧ W e s'
section
variable {M : Model} {A : Around} {W : End → Shared → Prop} {c : Code} {fs : List Frame} {s : Shared}
theorem wrap {α : Type} {m : Sem α} {K : α → Sem PySem.Fin} {J : Value → Sem PySem.Fin} {gd lv}
    (h : wpAny M (A.over c fs) m (fun a s' => Run M A W c (K a) fs s') (fun x s' => Run M A W c (J x) fs s') s) : Run M A W c (m.wrap K J gd lv) fs s := by
  intro Γ p hc hw
  subst hc
  refine runs_wrap_of_wp K J gd lv m (h (Γ.over fs) p (hw.over fs)) ?_ ?_
  · intro a p' s' z
    exact z Γ p' rfl hw
  · intro x p' s' z
    exact z Γ p' rfl hw
theorem bind {α : Type} {m : Sem α} {K : α → Sem PySem.Fin}
    (h : wpAny M (A.over c fs) m (fun a s' => Run M A W c (K a) fs s') (fun x s' => Run M A W c (.raise x) fs s') s) : Run M A W c (m >>= K) fs s := by
  rw [Sem.bind_eq_wrap']
  exact wrap h
theorem imp {W' : End → Shared → Prop} {t : Sem PySem.Fin} (h : Run M A W c t fs s) (k : ∀ e s', W e s' → W' e s') : Run M A W' c t fs s := fun Γ p hc hw =>
  let ⟨e, s', a, b⟩ := h Γ p hc hw
  ⟨e, s', a, k e s' b⟩
theorem stand {p' : Pos} {k : Unit → Sem PySem.Fin} (h : Run M A W c (k ()) fs s) : Run M A W c (.at p' k) fs s :=
  wrap (m := standAt p') (K := k) (J := .raise) (gd := id) (lv := id) (wpAny_standAt h)
theorem poin {l : List Value} {k : Unit → Sem PySem.Fin} (h : Run M A W c (k ()) fs s) : Run M A W c (.point l k) fs s :=
  wrap (m := point) (K := k) (J := .raise) (gd := id) (lv := fun _ => l) (wpAny_point h)
theorem into {c' : Code} {h g l} {k : Result → Sem PySem.Fin} (z : ∀ p, Run M A W c' (M.den c') (.ret k h g l c p [] :: fs) s) : Run M A W c (.call c' h g l k) fs s := by
  intro Γ p hc hw
  subst hc
  obtain ⟨e, s', a, b⟩ := z p (Γ.goto c') p rfl (hw.goto c')
  exact ⟨e, s', runs_call_seg a, b⟩
theorem back {k h g l c1 p1 kp} (r : Result) (z : Run M A W c1 (k r) fs s) : Run M A W c (leafOf r) (.ret k h g l c1 p1 kp :: fs) s := by
  intro Γ p hc hw
  subst hc
  obtain ⟨e, s', a, b⟩ := z (Γ.goto c1) p1 rfl (hw.goto c1)
  exact ⟨e, s', Runs.pop r a, b⟩
theorem once {c' : Code} (q : c'.quiet = true) (z : Run M A W c' (M.den c') fs s) : Run M A W c (.pure (.again c')) fs s := by
  intro Γ p hc hw
  subst hc
  obtain ⟨e, s', a, b⟩ := z (Γ.goto c') p rfl (hw.goto c')
  exact ⟨e, s', Runs.head (c₁ := c') (fun _ _ x => .again q x) a, b⟩
theorem over_ (r : Result) (z : W (.ret r) s) : Run M A W c (leafOf r) [] s := by
  intro Γ p hc hw
  exact ⟨.ret r, s, Runs.leaf r, z⟩
theorem gives {v g l} {k : Resume → Sem PySem.Fin} (hfs : splitAtGen fs = none) (z : ∀ p, W (.susp v g l k c p fs) s) : Run M A W c (.yield v g l k) fs s := by
  intro Γ p hc hw
  subst hc
  exact ⟨_, s, Runs.yield' fs hfs, z p⟩
/-- what a sleeping (or a fresh) generator does when it is asked for its next -/
def Woke (M : Model) (A : Around) (W : End → Shared → Prop) (gs : GenState) (s : Shared) : Prop := match gs with
  | .fresh c => Run M A W c (M.den c) [] s
  | .suspended k _ c _ fs _ => Run M A W c (k (.send .none)) fs s
  | _ => False
theorem resume {g : Nat} {gs : GenState} {l : List Value} {α : Type} {k : GenResult → Sem α} {Q : α → Shared → Prop} {E : Value → Shared → Prop} (hg : s.gens[g]? = some gs) (h : Woke M A W gs (s.setGen g .running))
    (hW : ∀ e s1, W e s1 → e.quiet = true ∧ wpAny M A (k e.result) Q E (s1.setGen g e.genState)) : wpAny M A (.resume g (.send .none) l k) Q E s := by
  intro Γ p hΓ
  rw [Sem.wp_resume]
  cases gs with
  | fresh c =>
    obtain ⟨e, s1, a, b⟩ := h (Γ.wake c p) p rfl (hΓ.wake c p)
    obtain ⟨q, z⟩ := hW e s1 b
    exact ⟨_, _, (by unfold Wakes; rw [hg]; exact ⟨e, s1, a, q, rfl, rfl⟩), z Γ p hΓ⟩
  | suspended k0 l0 c0 p0 fs0 cl =>
    obtain ⟨e, s1, a, b⟩ := h (Γ.wake c0 p) p0 rfl (hΓ.wake c0 p)
    obtain ⟨q, z⟩ := hW e s1 b
    exact ⟨_, _, (by unfold Wakes; rw [hg]; exact ⟨e, s1, a, q, rfl, rfl⟩), z Γ p hΓ⟩
  | running => exact h.elim
  | finished => exact h.elim
end
/-- what next(g) makes of a leg's end -/
def Ends (P : Program) (w : World) (a : Addr) (g : Nat) (Q : Option Value → Shared → Prop) (E : Value → Shared → Prop) (e : End) (s1 : Shared) : Prop := match e with
  | .susp v .. => e.quiet = true ∧ Q (some v) (s1.setGen g e.genState)
  | .ret (.ok f) => (f = .ret .none ∨ f = .next) ∧ ∀ h', (∀ b o, s1.heap.get? b = some o → h'.get? b = some o) → s1.heap.objs.size ≤ h'.objs.size → Q none { s1.setGen g .finished with heap := h' }
  | .ret (.error x) => s1.heap.IsGen a g ∧ NotStop (model P w) x s1.heap ∧ E x (s1.setGen g .finished)
section
variable {P : Program} {w : World} {A : Around} {E : Value → Shared → Prop} {s : Shared}
theorem next_of {a : Addr} {g : Nat} {gs : GenState} {Q : Option Value → Shared → Prop} (hh : A.handled = none) (hl : s.heap.NoLimit) (hroom : A.depth < recursionLimit) (hg : s.heap.IsGen a g) (hgs : s.gens[g]? = some gs)
    (h : Woke (model P w) A.in1 (Ends P w a g Q E) gs (s.setGen g .running)) : wpAny (model P w) A (pyNext (.ref a)) Q E s := by
  unfold pyNext
  refine wpAny_bind (wpAny_attempt (wpAny_callSpecial?_slot (name := Str.ofString "__next__") hg.typeIs slot_gen_next (wpAny_call_entry slot_gen_next hg.typeIs entry_gen_next ?_ (args_gen_next _))))
  show wpAny _ A.in1 (Builtin.Generator.genWake (.ref a) (.send .none)) _ _ s
  unfold Builtin.Generator.genWake
  refine wpAny_bind (wpAny_holding (wpAny_genNumber hg (wpAny_bind (wpAny_genState hgs ?_))))
  cases gs with
  | running => exact h.elim
  | finished => exact h.elim
  | _ =>
    refine wpAny_bind (wpAny_roomToWake hl hroom ?_)
    show wpAny _ A.in1 (.resume g (.send .none) [] _) _ _ s
    refine resume hgs h fun e s1 he => ?_
    cases e with
    | susp v g0 l0 k0 c0 p0 fs0 =>
      obtain ⟨q, z⟩ := he
      exact ⟨q, wpAny_pure ⟨v, rfl, wpAny_pure z⟩⟩
    | ret r =>
      cases r with
      | ok f =>
        obtain ⟨hf, hq⟩ := he
        refine ⟨rfl, ?_⟩
        have hres : End.result (.ret (.ok f)) = .returned .none := by rcases hf with q | q <;> rw [q] <;> rfl
        rw [hres]
        show wpAny _ A.in1 (newExc (.type "StopIteration") [] >>= _) _ _ _
        refine wpAny_bind ?_
        simp only [newExc, newTuple]
        refine wpAny_bind (wpAny_newObj_type ?_ (by size_fits))
        refine wpAny_bind (m := firstArgMember _ _) (wpAny_of_eq (a := Value.none) (by first | rfl | (simp only [firstArgMember]; rfl)) ?_)
        refine wpAny_newObj_type ?_ (by size_fits)
        simp only [raiseNew]
        refine wpAny_bind (wpAny_bind (wpAny_handled ?_))
        rw [show A.in1.handled = none from hh]
        refine wpAny_throw (wpAny_bind (wpAny_isInstance (T := "StopIteration") (b := true) ⟨_, Heap.get?_push_size _ rfl, rfl⟩ isSubtype_stop (wpAny_pure (hq _ (fun b o hb => Heap.get?_push_of_some _ (Heap.get?_push_of_some _ hb)) (by rw [Heap.size_push, Heap.size_push]; exact Nat.le_trans (Nat.le_succ _) (Nat.le_succ _))))))
      | error x =>
        obtain ⟨hg1, hns, hq⟩ := he
        refine ⟨rfl, ?_⟩
        obtain ⟨o, nm, qn, ho, hc, hd, hsl⟩ := hg1
        show wpAny _ A.in1 (Builtin.Generator.genLeft (.ref a) x) _ _ _
        unfold Builtin.Generator.genLeft Builtin.Generator.madeByALambda
        refine wpAny_bind (wpAny_bind (wpAny_load (o := o) ho (wpAny_pure (wpAny_bind (hns _ _ _ _ rfl ?_)))))
        rw [Bool.and_false, if_neg Bool.false_ne_true]
        unfold Builtin.Generator.genEscaped
        first
          | refine wpAny_bind (hns _ _ _ _ rfl ?_)
          | refine wpAny_bind (wpAny_pure (wpAny_bind (hns _ _ _ _ rfl ?_)))
        rw [if_pos (show (!false) = true from rfl)]
        first
          | refine wpAny_throw (wpAny_bind (hns _ _ _ _ rfl ?_))
          | refine wpAny_bind (wpAny_throw (wpAny_bind (hns _ _ _ _ rfl ?_)))
        rw [if_neg Bool.false_ne_true]
        exact wpAny_throw hq
end
end Leg
end
section
set_option maxHeartbeats 2000000
/-! A generator's own frame, whatever the age of the frames above it: what holds of its names and of the heap between two of its steps. -/
namespace Zg
open PySem PySem.Spec PyProof.Rows L2 GenW
/-- the frame: own: what it alone writes (its names' object, its iterators); s0, H0: where the leg began -/
structure Zx where
  prog : Program
  w : World
  K : PySem.W.Frag
  mg : Str → Option Value
  base : Heap
  A : Around
  env : Env
  outer : List Env
  N : List Str
  own : List Addr
  s0 : Shared
  H0 : Hp
  k : Nat
abbrev Zx.stack (Z : Zx) : List Env := Z.env :: Z.outer
structure ZOk (Z : Zx) : Prop where
  kind : Z.env.scope.kind = .function
  glob : Z.env.globals = mainGlobals
  blt : Z.env.builtins = builtinsNs
  fr : Z.env.frame = some Z.env.locals
  room : Room Z.k Z.A
  nd : Z.N.Nodup
  nl : ∀ (i : Nat) (x : Str), Z.N[i]? = some x → Z.env.kindOf x = some .local
  bl : Z.base.objs.size ≤ Z.env.locals
  ownL : Z.env.locals ∈ Z.own
  ownB : ∀ b ∈ Z.own, Z.base.get? b = none
  ownS : ∀ b ∈ Z.own, b ∉ frs Z.outer
structure ZInv (Z : Zx) (pins : List (Addr × Obj)) (σ : L2.St) (H : Hp) (s : Shared) : Prop where
  ok : ZOk Z
  e0 : Env0 Z.prog Z.w Z.K Z.mg Z.base Z.A Z.stack s H
  os : s.os = Z.s0.os
  un : Un (frs Z.outer) Z.own Z.H0 H Z.s0.heap s.heap
  loc : ∃ m, s.heap.Ns Z.env.locals m ∧ ∀ (i : Nat) (x : Str) (v : V), Z.N[i]? = some x → σ[i]? = some (some v) → ∃ u, RelV v u ∧ m x = some u
  pin : ∀ p ∈ pins, s.heap.get? p.1 = some p.2 ∧ H p.1 = none ∧ p.1 ≠ Z.env.locals ∧ p.1 ∉ frs Z.outer
  ownF : ∀ b ∈ Z.own, H b = none ∧ ∃ o, s.heap.get? b = some o
  len : σ.length = Z.N.length
theorem frs_cons {env : Env} {outer : List Env} (h : env.frame = some env.locals) : frs (env :: outer) = env.locals :: frs outer := by
  unfold frs
  rw [List.filterMap_cons, h]
theorem funs_slots {h h' base : Heap} : ∀ {l : List Env}, h.FunFrames base l → (∀ b ∈ frs l, ∀ o, h.get? b = some o → ∃ sl, h'.get? b = some { o with slots := sl }) → h'.FunFrames base l
  | [], _, _ => trivial
  | env :: r, hl, k => by
    obtain ⟨hk, ⟨L, o, hf, hn, ho, hd⟩, hr⟩ := hl
    have e : frs (env :: r) = L :: frs r := by
      unfold frs
      rw [List.filterMap_cons, hf]
    obtain ⟨sl, z⟩ := k L (by rw [e]; exact List.mem_cons_self) o ho
    exact ⟨hk, ⟨L, _, hf, hn, z, hd⟩, funs_slots hr fun b hb => k b (by rw [e]; exact List.mem_cons_of_mem _ hb)⟩
theorem un_comp {fs fs' ch ex : List Addr} {H0 H H' : Hp} {h0 h h' : Heap} (a : Un fs' ex H0 H h0 h) (u : Un fs ch H H' h h') (f : ∀ b ∈ fs, b ∈ fs' ∨ b ∈ ex) (c : ∀ b ∈ ch, b ∈ ex ∨ h0.get? b = none) : Un fs' ex H0 H' h0 h' := by
  have nc : ∀ b o, h0.get? b = some o → b ∉ ex → b ∉ ch := fun b o e hx z => (c b z).elim hx fun q => by rw [q] at e; cases e
  refine ⟨fun b o e n hf hx => ?_, fun b o e n hf hx => ?_, fun b o e n hx => ?_, fun b o e hx => ?_, fun b xs e => u.tups b xs (a.tups b xs e), fun b o x e => u.frzs b o x (a.frzs b o x e), fun b ps e => ?_⟩
  · exact u.keep b o (a.keep b o e n hf hx) (a.free b o e n hx) (fun z => (f b z).elim hf hx) (nc b o e hx)
  · obtain ⟨sl, q⟩ := a.slot b o e n hf hx
    obtain ⟨sl', q'⟩ := u.any q (a.free b o e n hx) (nc b o e hx)
    exact ⟨sl', q'⟩
  · obtain ⟨o', q⟩ := a.there b o e hx
    exact u.free b o' q (a.free b o e n hx) (nc b o e hx)
  · obtain ⟨o', q⟩ := a.there b o e hx
    exact u.there b o' q (nc b o e hx)
  · obtain ⟨m1, e1⟩ := a.tbls b ps e
    obtain ⟨m2, e2⟩ := u.tbls b _ e1
    exact ⟨m1 ++ m2, by rw [e2, Array.append_assoc]⟩
section
variable {P : Program} {w : World} {K : PySem.W.Frag} {mg : Str → Option Value} {base : Heap} {A : Around} {stk : List Env} {s s' : Shared} {H H' : Hp} {ch : List Addr}
/-- the state at a call, after such a step -/
theorem env0_step (e : Env0 P w K mg base A stk s H) (u : Un (frs stk) ch H H' s.heap s'.heap) (hok : HOk P w H' s'.heap) (hb : AllBare s'.gens) (hz : base.objs.size ≤ s'.heap.objs.size) (hc : ∀ b ∈ ch, base.get? b = none ∧ b ∉ frs stk) :
    Env0 P w K mg base A stk s' H' where
  frames := e.frames
  mod := e.mod
  bs := fun b o z => by
    obtain ⟨z1, z2⟩ := e.bs b o z
    have nf : b ∉ frs stk := fun q => by
      obtain ⟨q1, _⟩ := e.funs.mem q
      rw [q1] at z
      cases z
    have nc : b ∉ ch := fun q => by
      rw [(hc b q).1] at z
      cases z
    exact ⟨u.keep b o z1 z2 nf nc, u.free b o z1 z2 nc⟩
  bsz := hz
  funs := funs_slots e.funs fun b hb' o ho => u.any ho (e.frf b hb') fun q => (hc b q).2 hb'
  frf := fun b hb' => by
    obtain ⟨_, o, ho, _⟩ := e.funs.mem hb'
    exact u.free b o ho (e.frf b hb') fun q => (hc b q).2 hb'
  hok := hok
  bare := hb
end
section
variable {Z : Zx} {pins : List (Addr × Obj)} {σ : L2.St} {H H' : Hp} {s s' : Shared}
theorem ZInv.frsE (I : ZInv Z pins σ H s) : frs Z.stack = Z.env.locals :: frs Z.outer := frs_cons I.ok.fr
theorem ZInv.lt (I : ZInv Z pins σ H s) : Z.env.locals < s.heap.objs.size := by
  obtain ⟨m, ⟨o, _, _, ho, _⟩, _⟩ := I.loc
  exact Heap.lt_size ho
/-- one step: the records at ch have turned, all else that is not tracked stands (the frames up to slots) -/
theorem ZInv.step {ch : List Addr} (I : ZInv Z pins σ H s) (u : Un (frs Z.stack) ch H H' s.heap s'.heap) (hok : HOk Z.prog Z.w H' s'.heap) (hb : AllBare s'.gens) (os : s'.os = s.os)
    (hc : ∀ b ∈ ch, ((b ∈ Z.own ∨ Z.s0.heap.get? b = none) ∧ Z.base.get? b = none ∧ b ∉ frs Z.outer) ∧ b ≠ Z.env.locals ∧ (b ∈ Z.own → H' b = none ∧ ∃ o, s'.heap.get? b = some o) ∧ ∀ p ∈ pins, p.1 ≠ b) : ZInv Z pins σ H' s' := by
  obtain ⟨m, ⟨oL, es, ep, hoL, r⟩, hl⟩ := I.loc
  have fL : H Z.env.locals = none := (I.ownF _ I.ok.ownL).1
  obtain ⟨sl, hL⟩ := u.any hoL fL fun z => (hc _ z).2.1 rfl
  have sub : ∀ b ∈ frs Z.stack, b ∈ frs Z.outer ∨ b ∈ Z.own := fun b hb' => by
    rw [I.frsE] at hb'
    rcases List.mem_cons.mp hb' with z | z
    · exact .inr (by rw [z]; exact I.ok.ownL)
    · exact .inl z
  refine ⟨I.ok, env0_step I.e0 u hok hb (Nat.le_trans I.ok.bl (Nat.le_of_lt (Heap.lt_size hL))) (fun b hb' => ⟨(hc b hb').1.2.1, fun z => ?_⟩), os.trans I.os, un_comp I.un u sub fun b z => (hc b z).1.1, ⟨m, ⟨_, es, ep, hL, r⟩, hl⟩, fun p hp => ?_, fun b hb' => ?_, I.len⟩
  · rw [I.frsE] at z
    rcases List.mem_cons.mp z with z | z
    · exact (hc b hb').2.1 z
    · exact (hc b hb').1.2.2 z
  · obtain ⟨e1, e2, e3, e4⟩ := I.pin p hp
    have nc : p.1 ∉ ch := fun z => (hc _ z).2.2.2 p hp rfl
    have nf : p.1 ∉ frs Z.stack := fun z => by
      rw [I.frsE] at z
      exact (List.mem_cons.mp z).elim e3 e4
    exact ⟨u.keep _ _ e1 e2 nf nc, u.free _ _ e1 e2 nc, e3, e4⟩
  · by_cases z : b ∈ ch
    · exact (hc b z).2.2.1 hb'
    · obtain ⟨e1, o, e2⟩ := I.ownF b hb'
      exact ⟨u.free b o e2 e1 z, u.there b o e2 z⟩
end
end Zg
end
section
set_option maxHeartbeats 2000000
/-! The rules of a generator's own frame: what HandS says of a def's frame, for the few words that are wanted here. No exception leaves these. -/
namespace Zg
open PySem PySem.Spec PyProof.Rows L2 GenW
section
variable {Z : Zx} {pins : List (Addr × Obj)} {σ : L2.St} {H H' : Hp} {s : Shared} {h' : Heap}
theorem ZInv.un_ {t' : Nat} (I : ZInv Z pins σ H s) (u : Un (frs Z.stack) [] H H' s.heap h') (hok : HOk Z.prog Z.w H' h') : ZInv Z pins σ H' { s with heap := h', toks := t' } :=
  I.step (ch := []) (s' := { s with heap := h', toks := t' }) u hok I.e0.bare rfl fun b z => nomatch z
theorem ZInv.kept {t' : Nat} (I : ZInv Z pins σ H s) (k : ∀ b u, s.heap.get? b = some u → h'.get? b = some u) : ZInv Z pins σ H { s with heap := h', toks := t' } := I.un_ (Un.kept k) (I.e0.hok.kept k)
theorem ZInv.tok (I : ZInv Z pins σ H s) (t : Nat) : ZInv Z pins σ H { s with toks := t } := I.kept (h' := s.heap) fun _ _ e => e
theorem ZInv.laid {a : Addr} {o : HO} {t' : Nat} (I : ZInv Z pins σ H s) (k : ∀ b u, s.heap.get? b = some u → h'.get? b = some u) (hp : s.heap.objs.size ≤ a) (new : ObjOk Z.prog Z.w (upd H a o) h' a o) :
    ZInv Z pins σ (upd H a o) { s with heap := h', toks := t' } := I.un_ (Un.laid k hp (I.e0.hok.fresh hp)) (I.e0.hok.laid k hp new)
theorem ZInv.wrote {x : Addr} {o : HO} {t' : Nat} (I : ZInv Z pins σ H s) (mu : Mut (H x)) (k : ∀ b u, b ≠ x → s.heap.get? b = some u → h'.get? b = some u) (heo : ∃ u, h'.get? x = some u) (new : ObjOk Z.prog Z.w (upd H x o) h' x o) :
    ZInv Z pins σ (upd H x o) { s with heap := h', toks := t' } := I.un_ (Un.write mu (.inl rfl) k heo) (I.e0.hok.write mu (.inl rfl) k heo new)
theorem ZInv.kin (I : ZInv Z pins σ H s) : Z.K.In s.heap := I.e0.mod.kin.keeps fun b o e => (I.e0.bs b o e).1
theorem ZInv.bk (I : ZInv Z pins σ H s) : ∀ b o, Z.base.get? b = some o → s.heap.get? b = some o := fun b o e => (I.e0.bs b o e).1
theorem ZInv.nolim (I : ZInv Z pins σ H s) : s.heap.NoLimit := I.e0.mod.nolimit.keeps I.bk
theorem ZInv.hd (I : ZInv Z pins σ H s) : Z.A.handled = none := I.ok.room.hd
/-- behind a def's call -/
theorem ZInv.after {Q : VK} {u : Value} {s' : Shared} (I : ZInv Z pins σ H s) (h : CE Z.stack Z.prog Z.w H s Q u s') : ∃ v H', ZInv Z pins σ H' s' ∧ RelV v u ∧ Q v H' := by
  obtain ⟨v, H', os, bare, un, hok, r, q⟩ := h
  exact ⟨v, H', I.step (ch := []) un hok bare os fun b z => (nomatch z), r, q⟩
/-- an iterator of ours has turned -/
theorem ZInv.turn {t' : Nat} {it : Addr} (I : ZInv Z pins σ H s) (k : ∀ b o, b ≠ it → s.heap.get? b = some o → h'.get? b = some o) (h1 : it ∈ Z.own → ∃ o, h'.get? it = some o) (h2 : H it = none) (h3 : it ≠ Z.env.locals) (h4 : (it ∈ Z.own ∨ Z.s0.heap.get? it = none) ∧ Z.base.get? it = none ∧ it ∉ frs Z.outer) (h5 : ∀ p ∈ pins, p.1 ≠ it) : ZInv Z pins σ H { s with heap := h', toks := t' } := by
  have nit : ∀ b u, H b = some u → b ≠ it := fun b u e z => by rw [z, h2] at e; cases e
  refine I.step (ch := [it]) (s' := { s with heap := h', toks := t' }) ⟨fun b o e n _ hx => k b o (fun z => hx (by simp [z])) e, fun b o e n _ hx => ⟨o.slots, k b o (fun z => hx (by simp [z])) e⟩, fun b o e n _ => n, fun b o e hx => ⟨o, k b o (fun z => hx (by simp [z])) e⟩, fun _ _ e => e, fun _ _ _ e => e, fun b ps e => ⟨#[], by rw [e]; simp⟩⟩
    (fun b u e => ?_) I.e0.bare rfl fun b hb => ?_
  · refine (I.e0.hok b u e).stay (fun c v hc q => k c v ?_ q) (fun _ q => q) fun _ _ q => q
    rcases hc with z | z
    · rw [z]; exact nit b u e
    · exact nit c _ z
  · have e : b = it := by simpa using hb
    subst e
    exact ⟨h4, h3, fun z => ⟨h2, h1 z⟩, h5⟩
theorem ZInv.pinned {pins' : List (Addr × Obj)} (I : ZInv Z pins σ H s) (h : ∀ p ∈ pins', s.heap.get? p.1 = some p.2 ∧ H p.1 = none ∧ p.1 ≠ Z.env.locals ∧ p.1 ∉ frs Z.outer) : ZInv Z pins' σ H s :=
  ⟨I.ok, I.e0, I.os, I.un, I.loc, h, I.ownF, I.len⟩
end
def ZP (Z : Zx) (pins : List (Addr × Obj)) (σ : L2.St) (Q : VK) (u : Value) (s' : Shared) : Prop := ∃ v H', ZInv Z pins σ H' s' ∧ RelV v u ∧ Q v H'
structure ZE (Z : Zx) (e : Expr) (t : TE) : Prop where
  run : ∀ (pins : List (Addr × Obj)) (s : Shared) (σ : L2.St) (H : Hp) (Q : VK) (E : Value → Shared → Prop), ZInv Z pins σ H s → t σ H Q → wpAny (model Z.prog Z.w) Z.A (eval e Z.env) (ZP Z pins σ Q) E s
structure ZT (Z : Zx) (e : Expr) (t : TT) : Prop where
  run : ∀ (wh : Sem Value) (pins : List (Addr × Obj)) (s : Shared) (σ : L2.St) (H : Hp) (Q : Bool → Hp → Prop) (E : Value → Shared → Prop), ZInv Z pins σ H s → t σ H Q → wpAny (model Z.prog Z.w) Z.A (isTrue e Z.env wh) (fun b s' => ∃ H', ZInv Z pins σ H' s' ∧ Q b H') E s
structure ZA (Z : Zx) (es : List Expr) (t : TA) : Prop where
  run : ∀ (pos : Pos) (pins : List (Addr × Obj)) (s : Shared) (σ : L2.St) (H : Hp) (Q : List V → Hp → Prop) (E : Value → Shared → Prop), ZInv Z pins σ H s → t σ H Q → wpAny (model Z.prog Z.w) Z.A (spliced (backTo pos (starEach es Z.env))) (fun us s' => ∃ vs H', ZInv Z pins σ H' s' ∧ Vals vs us ∧ Q vs H') E s
/-- a statement that only goes on -/
structure ZS (Z : Zx) (st : Stmt) (t : L2.St → Hp → (L2.St → Hp → Prop) → Prop) : Prop where
  run : ∀ (pins : List (Addr × Obj)) (s : Shared) (σ : L2.St) (H : Hp) (N : L2.St → Hp → Prop) (E : Value → Shared → Prop), ZInv Z pins σ H s → t σ H N → wpAny (model Z.prog Z.w) Z.A (exec st Z.env) (fun f s' => f = .next ∧ ∃ σ' H', ZInv Z pins σ' H' s' ∧ N σ' H') E s
/-- the value of a call by values -/
def ZC (Z : Zx) (f : Value) (r : List V → Hp → VK → Prop) : Prop :=
  ∀ (pins : List (Addr × Obj)) (s : Shared) (σ : L2.St) (H : Hp) (xs : List V) (us : List Value) (Q : VK) (E : Value → Shared → Prop), ZInv Z pins σ H s → Vals xs us → r xs H Q → wpAny (model Z.prog Z.w) Z.A (call f us) (ZP Z pins σ Q) E s
section
variable {Z : Zx} {a b c : Expr} {ta tb tc : TE} {pos : Pos}
theorem z_bin (ha : ZE Z a ta) (hb : ZE Z b tb) {pins : List (Addr × Obj)} {s : Shared} {σ : L2.St} {H : Hp} {R : V → V → Hp → Prop} (I : ZInv Z pins σ H s)
    (h : ta σ H fun x H1 => tb σ H1 fun y H2 => R x y H2) {α : Type} {Q : α → Shared → Prop} {E : Value → Shared → Prop} {f : Value → Value → Sem α}
    (hf : ∀ v u s2 x y H2, ZInv Z pins σ H2 s2 → RelV x v → RelV y u → R x y H2 → wpAny (model Z.prog Z.w) Z.A (f v u) Q E s2) :
    wpAny (model Z.prog Z.w) Z.A (eval a Z.env) (fun v s1 => wpAny (model Z.prog Z.w) Z.A (eval b Z.env) (fun u s2 => wpAny (model Z.prog Z.w) Z.A (f v u) Q E s2) E s1) E s := by
  refine thn (ha.run pins s σ H _ E I h) fun v s1 z => ?_
  obtain ⟨x, H1, I1, r1, q1⟩ := z
  refine thn (hb.run pins s1 σ H1 _ E I1 q1) fun u s2 z => ?_
  obtain ⟨y, H2, I2, r2, q2⟩ := z
  exact hf v u s2 x y H2 I2 r1 r2 q2
theorem z_var {i : Nat} {x : Str} (hN : Z.N[i]? = some x) (hd : (x == ("__debug__" : Str)) = false := by decide) : ZE Z (.Name x pos) (tVar i) := by
  refine ⟨fun pins s σ H Q E I h => ?_⟩
  obtain ⟨v, e, h⟩ := h
  obtain ⟨m, hn, hl⟩ := I.loc
  obtain ⟨u, r, hm⟩ := hl i x v hN e
  exact wpAny_Name (wpAny_loadName_local I.ok.kind (I.ok.nl i x hN) hn hm ⟨v, H, I, r, h⟩) hd
theorem z_int {i : Int} {j : Nat} : ZE Z (.Constant (.int i) j pos) (tC (.int i)) := ⟨fun _ _ _ H _ _ I h => wpAny_Constant_int ⟨.int i, H, I.tok _, ⟨_, rfl⟩, h⟩⟩
theorem z_non {j : Nat} : ZE Z (.Constant .none j pos) (tC .non) := ⟨fun _ _ _ H _ _ I h => wpAny_Constant_none ⟨.non, H, I, rfl, h⟩⟩
/-- never come to -/
def tDead : TE := fun _ _ _ => False
theorem z_dead : ZE Z a tDead := ⟨fun _ _ _ _ _ _ _ h => h.elim⟩
theorem z_opI {op : Operator} {C : Int → Int → Prop} {g : Int → Int → Int}
    (rule : ∀ (i j : Int) (t u : Tok) (s : Shared) (Q : Value → Shared → Prop) (E : Value → Shared → Prop), C i j → Q (.int (g i j) s.toks) { s with toks := s.toks + 1 } → wpAny (model Z.prog Z.w) Z.A (binaryOp op (.int i t) (.int j u)) Q E s)
    (ha : ZE Z a ta) (hb : ZE Z b tb) : ZE Z (.BinOp a op b pos) (tOp (rI C fun i j => .int (g i j)) ta tb) := by
  refine ⟨fun pins s σ H Q E I h => ?_⟩
  refine wpAny_BinOp (z_bin ha hb I h fun v u s2 x y H2 I2 rx ry q => ?_)
  obtain ⟨i, j, rfl, rfl, c, q⟩ := q
  obtain ⟨t, rfl⟩ := rx
  obtain ⟨t', rfl⟩ := ry
  exact rule i j t t' s2 _ _ c ⟨.int (g i j), H2, I2.tok _, ⟨_, rfl⟩, q⟩
theorem z_sub (ha : ZE Z a ta) (hb : ZE Z b tb) : ZE Z (.BinOp a .Sub b pos) (tOp (rI (fun _ _ => True) fun i j => .int (i - j)) ta tb) := z_opI (fun _ _ _ _ _ _ _ _ q => sub_int q) ha hb
theorem z_add (ha : ZE Z a ta) (hb : ZE Z b tb) : ZE Z (.BinOp a .Add b pos) (tOp (rI (fun _ _ => True) fun i j => .int (i + j)) ta tb) := z_opI (fun _ _ _ _ _ _ _ _ q => add_int q) ha hb
theorem z_mod (ha : ZE Z a ta) (hb : ZE Z b tb) : ZE Z (.BinOp a .Mod b pos) (tOp (rI (fun _ j => 0 < j) fun i j => .int (i % j)) ta tb) :=
  z_opI (fun i j t u s Q E hj q => by
    have e : i.fmod j = i % j := Int.fmod_eq_emod_of_nonneg i (Int.le_of_lt hj)
    exact mod_int (by omega) (by rw [e]; exact q)) ha hb
theorem z_le (ha : ZE Z a ta) (hb : ZE Z b tb) : ZT Z (.Compare a [.LtE] [b] pos) (tTest (tOp (rI0 fun i j => .bl (decide (i ≤ j))) ta tb)) := by
  refine ⟨fun wh pins s σ H Q E I h => ?_⟩
  refine wpAny_isTrue_Compare1 (z_bin ha hb I h fun v u s2 x y H2 I2 rx ry q => ?_) (nomark _)
  obtain ⟨i, j, rfl, rfl, k, e, q⟩ := q
  obtain ⟨t, rfl⟩ := rx
  obtain ⟨t', rfl⟩ := ry
  cases e
  exact PyProof.Rows.le_int (wpAny_truthy_bool ⟨H2, I2, q⟩)
theorem z_isN {j : Nat} {pos' : Pos} (ha : ZE Z a ta) : ZT Z (.Compare a [.Is] [.Constant .none j pos'] pos) (fun σ H Q => ta σ H fun x H1 => Q (decide (x = .non)) H1) := by
  refine ⟨fun wh pins s σ H Q E I h => ?_⟩
  refine wpAny_isTrue_Compare1 (thn (ha.run pins s σ H _ E I h) fun v s1 z => ?_) (nomark _)
  obtain ⟨x, H1, I1, r1, q1⟩ := z
  refine Constant_none (is_none_gen ?_)
  rw [r1.none_iff]
  exact wpAny_truthy_bool ⟨H1, I1, q1⟩
theorem z_or1 {t : TT} (ha : ZT Z a t) : ZT Z (.BoolOp .Or [a] pos) t := by
  refine ⟨fun wh pins s σ H Q E I h => ?_⟩
  refine isTrue_or (thn (ha.run _ pins s σ H Q E I h) fun d s1 z => ?_)
  cases d with
  | false => exact isTrue_or_nil z
  | true => exact z
theorem z_or {t u : TT} {rest : List Expr} (ha : ZT Z a t) (hb : ZT Z (.BoolOp .Or (b :: rest) pos) u) : ZT Z (.BoolOp .Or (a :: b :: rest) pos) (tOr t u) := by
  refine ⟨fun wh pins s σ H Q E I h => ?_⟩
  refine isTrue_or (thn (ha.run _ pins s σ H _ E I h) fun d s1 z => ?_)
  obtain ⟨H1, I1, q1⟩ := z
  cases d with
  | true => exact ⟨H1, I1, q1⟩
  | false => exact hb.run wh pins s1 σ H1 Q E I1 q1
def tDeadT : TT := fun _ _ _ => False
theorem z_deadT : ZT Z a tDeadT := ⟨fun _ _ _ _ _ _ _ _ h => h.elim⟩
theorem z_ife {t : TT} (hc : ZT Z c t) (ha : ZE Z a ta) (hb : ZE Z b tb) : ZE Z (.IfExp c a b pos) (tIf t ta tb) := by
  refine ⟨fun pins s σ H Q E I h => ?_⟩
  refine wpAny_IfExp (thn (hc.run _ pins s σ H _ E I h) fun d s1 z => ?_)
  obtain ⟨H1, I1, q1⟩ := z
  cases d with
  | true => exact ha.run pins s1 σ H1 Q E I1 q1
  | false => exact hb.run pins s1 σ H1 Q E I1 q1
/-! ### items -/
theorem z_ixT (ha : ZE Z a ta) (hb : ZE Z b tb) (hs : PlainIx b) : ZE Z (.Subscript a b pos) (tOp (fun x y H Q => ∃ p xs i v, x = .ref p ∧ y = .int i ∧ H p = some (.tup xs) ∧ atI xs i = some v ∧ Q v H) ta tb) := by
  refine ⟨fun pins s σ H Q E I h => ?_⟩
  refine Subscript_ (z_bin ha hb I h fun v u s2 x y H2 I2 rx ry q => ?_)
  obtain ⟨p, xs, i, z, rfl, rfl, hq, he, q⟩ := q
  cases rx
  obtain ⟨t, rfl⟩ := ry
  obtain ⟨hz, its, r, pl⟩ := I2.e0.hok p _ hq
  obtain ⟨j, h1, h2, h3, h4, h5⟩ := atI_get he
  obtain ⟨w', ew, rw'⟩ := r.get h2
  have hl := r.length
  have hn := line63
  exact subscriptTail_builtinR (x := w') pl.typeIs slot_tuple_getitem.lookup (getItem_tuple (j := j) (Q := fun r' s' => r' = w' ∧ ZP Z pins σ Q r' s') pl (by omega) (by omega) (by rw [List.size_toArray, ← hl]; exact h1) (by simpa using ew) ⟨rfl, _, H2, I2, rw', q⟩) (hs _ _)
theorem z_ixL (ha : ZE Z a ta) (hb : ZE Z b tb) (hs : PlainIx b) : ZE Z (.Subscript a b pos) (tOp (fun x y H Q => ∃ p xs i v, x = .ref p ∧ y = .int i ∧ H p = some (.lst xs) ∧ atI xs i = some v ∧ Q v H) ta tb) := by
  refine ⟨fun pins s σ H Q E I h => ?_⟩
  refine Subscript_ (z_bin ha hb I h fun v u s2 x y H2 I2 rx ry q => ?_)
  obtain ⟨p, xs, i, z, rfl, rfl, hq, he, q⟩ := q
  cases rx
  obtain ⟨t, rfl⟩ := ry
  obtain ⟨hz, its, n, r, e0⟩ := I2.e0.hok p _ hq
  have pl : PlainL s2.heap p its.toArray := ⟨_, n, e0, rfl, rfl, rfl⟩
  obtain ⟨j, h1, h2, h3, h4, h5⟩ := atI_get he
  obtain ⟨w', ew, rw'⟩ := r.get h2
  have hl := r.length
  have hn := line63
  have fin : ZP Z pins σ Q w' s2 := ⟨_, H2, I2, rw', q⟩
  by_cases h0 : 0 ≤ i
  · have hj : i.toNat = j := by
      rw [seqIndex_of h0 h5] at h1
      exact Option.some.inj h1
    exact item_listR pl.isList h0 (by omega) (by rw [hj]; simpa using ew) fin (hs _ _)
  · have hj : (i + (its.toArray.size : Int)).toNat = j := by
      rw [seqIndex_neg (by omega) h4] at h1
      rw [List.size_toArray, ← hl]
      exact Option.some.inj h1
    exact subscriptTail_builtinR (x := w') pl.isList.typeIs slot_list_getitem.lookup
      (wpAny_getItem_list_neg (Q := fun r' s' => r' = w' ∧ ZP Z pins σ Q r' s') pl.isList (by omega) (by rw [List.size_toArray]; omega) (by omega) (by rw [hj]; simpa using ew) ⟨rfl, fin⟩) (hs _ _)
/-! ### arguments, calls -/
theorem za_nil : ZA Z [] tNil := by
  refine ⟨fun pos pins s σ H Q E I h => ?_⟩
  exact Calls.spliced_nil ⟨[], H, I, .nil, h⟩
theorem za_cons {e : Expr} {es : List Expr} {te : TE} {t : TA} (ha : ZE Z e te) (hr : ZA Z es t) (hs : starEach (e :: es) Z.env = (false, eval e Z.env) :: starEach es Z.env := by rfl) : ZA Z (e :: es) (tCons te t) := by
  refine ⟨fun pos pins s σ H Q E I h => ?_⟩
  rw [hs]
  refine Calls.spliced_cons (thn (ha.run pins s σ H _ E I h) fun v s1 z => ?_)
  obtain ⟨x, H1, I1, r1, q1⟩ := z
  refine thn (hr.run pos pins s1 σ H1 _ E I1 q1) fun us s2 z => ?_
  obtain ⟨xs, H2, I2, r2, q2⟩ := z
  exact ⟨_, H2, I2, .cons r1 r2, q2⟩
theorem z_lst {es : List Expr} {t : TA} (h : ZA Z es t) : ZE Z (.List es pos) (tLst t) := by
  refine ⟨fun pins s σ H Q E I hq => ?_⟩
  refine wpAny_List_spliced (thn (h.run pos pins s σ H _ E I hq) fun us s1 z => ?_)
  obtain ⟨xs, H1, I1, r, z, q⟩ := z
  refine ⟨by rw [← r.length]; exact z, ?_⟩
  have hf : H1 s1.heap.objs.size = none := I1.e0.hok.fresh (Nat.le_refl _)
  refine ⟨.ref s1.heap.objs.size, upd H1 s1.heap.objs.size (.lst xs), I1.laid (t' := s1.toks) (fun b u e => Heap.get?_push_of_some _ e) (Nat.le_refl _) ?_, rfl, q _ hf⟩
  exact ⟨z, us, 0, r, Heap.get?_push_size _ rfl⟩
theorem z_ld {E : Value → Shared → Prop} {pins : List (Addr × Obj)} {s : Shared} {σ : L2.St} {H : Hp} {x : Str} {u : Value} {Q : Value → Shared → Prop} (I : ZInv Z pins σ H s) (hg : Z.env.kindOf x = some .globalImplicit) (hm : Z.mg x = some u) (h : Q u s)
    (hd : (x == ("__debug__" : Str)) = false := by decide) : wpAny (model Z.prog Z.w) Z.A (eval (.Name x pos) Z.env) Q E s :=
  Calls.Name_function_global I.ok.kind hg (Calls.loadGlobal_global (by rw [I.ok.glob]; exact I.e0.mod.glob.keeps I.bk) hm h) hd
theorem z_ldB {E : Value → Shared → Prop} {pins : List (Addr × Obj)} {s : Shared} {σ : L2.St} {H : Hp} {x : Str} {u : Value} {Q : Value → Shared → Prop} (I : ZInv Z pins σ H s) (hg : Z.env.kindOf x = some .globalImplicit) (hm : Z.mg x = none) (hv : bootBuiltins x = some u) (h : Q u s)
    (hn : x ≠ "__name__" := by decide) (hd : (x == ("__debug__" : Str)) = false := by decide) : wpAny (model Z.prog Z.w) Z.A (eval (.Name x pos) Z.env) Q E s := by
  obtain ⟨mb, h1, h2⟩ := I.e0.mod.blt
  exact Calls.Name_function_global I.ok.kind hg (Calls.loadGlobal_builtin (by rw [I.ok.glob]; exact I.e0.mod.glob.keeps I.bk) hm (by rw [I.ok.blt]; exact h1.keeps I.bk) ((h2 x hn).trans hv) h) hd
/-- a def that lets nothing out -/
theorem z_run {k : Nat} {f : Addr} {fd : FuncData} {ps : List Str} {sp : Sp} {pins : List (Addr × Obj)} {σ : L2.St} {H : Hp} {s : Shared} {Q : VK} {E : Value → Shared → Prop} {us : List Value} {vs : List V} (F : FnOk Z.prog Z.w Z.K Z.mg Z.base CX0 k f fd ps sp) (hk : k ≤ Z.k)
    (hb : Binds Z.K fd ps []) (I : ZInv Z pins σ H s) (r : Vals vs us) (h : sp vs H Q fun _ _ _ => False) : wpAny (model Z.prog Z.w) Z.A (call (.ref f) us) (ZP Z pins σ Q) E s := by
  have hl : (us ++ []).length = ps.length := by rw [List.append_nil, ← r.length]; exact F.len _ _ _ _ h
  have hb2 := hb s us I.kin hl
  rw [List.append_nil] at hb2
  refine wpAny_call (codeAny_mono (F.run Z.A Z.stack s H ⟨us, []⟩ us vs Q _ (I.ok.room.mono hk) I.e0 hb2 r h) fun r' s' hq => ?_)
  cases r' with
  | error e => exact hq.elim
  | ok fl =>
    cases fl with
    | ret u => exact I.after hq
    | next => exact hq.elim
    | brk => exact hq.elim
    | cont => exact hq.elim
theorem z_call {k : Nat} {f : Addr} {fd : FuncData} {ps : List Str} {sp : Sp} {x : Str} {p : Pos} {e : Expr} {es : List Expr} {t : TA} (F : FnOk Z.prog Z.w Z.K Z.mg Z.base CX0 k f fd ps sp) (hk : k ≤ Z.k) (hg : Z.env.kindOf x = some .globalImplicit) (hm : Z.mg x = some (.ref f)) (kp : PySem.W.keepIn Z.K (.ref f) = true)
    (hb : Binds Z.K fd ps []) (md : Z.K.In Z.base) (ha : ZA Z (e :: es) t) (hdb : (x == ("__debug__" : Str)) = false := by decide) (he : starEach (e :: es) Z.env = (false, eval e Z.env) :: starEach es Z.env := by rfl) (hpl : (backTo pos (starEach es Z.env)).any (·.1) = false := by rfl) :
    ZE Z (.Call (.Name x p) (e :: es) [] pos) (tCall sp [] (fun _ _ _ => False) t) := by
  refine ⟨fun pins s σ H Q E I h => ?_⟩
  refine wpAny_Call_Name_kw (z_ld I hg hm ?_ hdb)
  refine PySem.W.callWith_K (h₀ := Z.base) md kp (thn (ha.run pos pins s σ H _ E I h) fun us s1 z => ?_) he hpl
  obtain ⟨vs, H1, I1, r, q⟩ := z
  rw [List.append_nil] at q
  exact ⟨I1.kin, z_run F hk hb I1 r q⟩
end
end Zg
end
section
set_option maxHeartbeats 2000000
/-! Calls by values, plain statements, a loop over a range in a generator's own frame. -/
namespace Zg
open PySem PySem.Spec PyProof.Rows L2 GenW
section
variable {Z : Zx} {pins : List (Addr × Obj)} {σ : L2.St} {H H' : Hp} {s : Shared}
/-- a new address is nobody's -/
theorem ZInv.new_ (I : ZInv Z pins σ H s) {b : Addr} (h : s.heap.objs.size ≤ b) : b ∉ Z.own ∧ ((b ∈ Z.own ∨ Z.s0.heap.get? b = none) ∧ Z.base.get? b = none ∧ b ∉ frs Z.outer) ∧ b ≠ Z.env.locals ∧ H b = none ∧ ∀ p ∈ pins, p.1 ≠ b := by
  have no : ∀ o, s.heap.get? b ≠ some o := fun o e => absurd (Nat.lt_of_lt_of_le (Heap.lt_size e) h) (Nat.lt_irrefl _)
  have nown : b ∉ Z.own := fun z => by
    obtain ⟨_, o, e⟩ := I.ownF b z
    exact no o e
  refine ⟨nown, ⟨?_, ?_, fun z => ?_⟩, fun z => ?_, I.e0.hok.fresh h, fun p hp z => ?_⟩
  · cases e : Z.s0.heap.get? b with
    | none => exact .inr rfl
    | some o =>
      by_cases q : b ∈ Z.own
      · exact .inl q
      · obtain ⟨o', e'⟩ := I.un.there b o e q
        exact absurd e' (no o')
  · cases e : Z.base.get? b with
    | none => rfl
    | some o => exact absurd (I.bk b o e) (no o)
  · have z2 : b ∈ frs Z.stack := by rw [I.frsE]; exact List.mem_cons_of_mem _ z
    obtain ⟨_, o, e, _⟩ := I.e0.funs.mem z2
    exact no o e
  · rw [z] at h
    exact absurd (Nat.lt_of_lt_of_le I.lt h) (Nat.lt_irrefl _)
  · obtain ⟨e, _⟩ := I.pin p hp
    rw [z] at e
    exact no _ e
end
/-- a name is stored -/
theorem z_store {Z : Zx} {pins : List (Addr × Obj)} {σ : L2.St} {H : Hp} {s : Shared} {E : Value → Shared → Prop} {i : Nat} {x : Str} {v : V} {u : Value} {Q : Unit → Shared → Prop} (I : ZInv Z pins σ H s) (hi : Z.N[i]? = some x) (r : RelV v u)
    (h : ∀ s', ZInv Z pins (σ.set i (some v)) H s' → Q () s') : wpAny (model Z.prog Z.w) Z.A (storeName Z.env x u) Q E s := by
  obtain ⟨m, hn, hl⟩ := id I.loc
  have hcls : (Z.env.scope.kind == .class || (Z.env.scope.kind == .module && Z.env.locals != Z.env.globals)) = false := by rw [I.ok.kind]; rfl
  have hiσ : i < σ.length := by rw [I.len]; exact (List.getElem?_eq_some_iff.mp hi).1
  obtain ⟨fL, _⟩ := I.ownF _ I.ok.ownL
  refine wpAny_storeName_local (I.ok.nl i x hi) hn (fun h' hn' hs => ?_) hcls
  obtain ⟨oL', _, _, hoL', _⟩ := id hn'
  have keep : ∀ b o, b ≠ Z.env.locals → s.heap.get? b = some o → h'.get? b = some o := fun b o hb e => (hs.2 b hb).trans e
  have notL : ∀ b u, H b = some u → b ≠ Z.env.locals := fun b u e z => by rw [z, fL] at e; cases e
  have hok : HOk Z.prog Z.w H h' := fun b ob e => (I.e0.hok b ob e).stay (fun c w' hc q => keep c w' (by
    rcases hc with z | z
    · rw [z]; exact notL b ob e
    · exact notL c _ z) q) (fun _ q => q) fun _ _ q => q
  have fr0 : ∀ b ∈ frs Z.outer, b ≠ Z.env.locals := fun b hb z => I.ok.ownS _ I.ok.ownL (by rw [← z]; exact hb)
  have hk : Z.env.scope.kind ≠ .module := by rw [I.ok.kind]; decide
  have fo : s.heap.FunFrames Z.base Z.outer := I.e0.funs.2.2
  have e0' : Env0 Z.prog Z.w Z.K Z.mg Z.base Z.A Z.stack { s with heap := h', toks := s.toks + 1 } H := by
    refine ⟨I.e0.frames, I.e0.mod, fun b o e => ?_, Nat.le_trans I.ok.bl (Nat.le_of_lt (Heap.lt_size hoL')), ?_, I.e0.frf, hok, I.e0.bare⟩
    · obtain ⟨z1, z2⟩ := I.e0.bs b o e
      have nb : b ≠ Z.env.locals := fun z => by
        rw [z, I.ok.ownB _ I.ok.ownL] at e
        cases e
      exact ⟨keep b o nb z1, z2⟩
    · exact .cons hk I.ok.fr hn' (I.ok.ownB _ I.ok.ownL) (funs_slots fo fun b hb o ho => ⟨o.slots, keep b o (fr0 b hb) ho⟩)
  refine h _ ⟨I.ok, e0', I.os, un_comp (ch := [Z.env.locals]) (fs := []) I.un ⟨fun b o e n _ hx => keep b o (fun z => hx (by simp [z])) e, fun b o e n hb hx => (nomatch hb), fun b o e n _ => n, fun b o e hx => ⟨o, keep b o (fun z => hx (by simp [z])) e⟩, fun _ _ e => e, fun _ _ _ e => e, fun b ps e => ⟨#[], by rw [e]; simp⟩⟩ (fun b hb => nomatch hb) (fun b hb => ?_),
    ⟨_, hn', fun j y v' e1 e2 => ?_⟩, fun p hp => ?_, fun b hb => ?_, by rw [List.length_set]; exact I.len⟩
  · have e : b = Z.env.locals := by simpa using hb
    exact .inl (by rw [e]; exact I.ok.ownL)
  · by_cases hj : j = i
    · subst hj
      rw [hi] at e1; cases e1
      rw [List.getElem?_set_self hiσ] at e2
      cases e2
      exact ⟨u, r, by simp⟩
    · rw [List.getElem?_set_ne (Ne.symm hj)] at e2
      obtain ⟨u', r', q⟩ := hl j y v' e1 e2
      have ny : y ≠ x := fun e => hj (nodup_ix I.ok.nd e1 (e ▸ hi))
      exact ⟨u', r', by simp [ny, q]⟩
  · obtain ⟨e1, e2, e3, e4⟩ := I.pin p hp
    exact ⟨keep _ _ e3 e1, e2, e3, e4⟩
  · obtain ⟨z1, o, z2⟩ := I.ownF b hb
    refine ⟨z1, ?_⟩
    by_cases q : b = Z.env.locals
    · exact ⟨oL', by rw [q]; exact hoL'⟩
    · exact ⟨o, keep b o q z2⟩
section
variable {Z : Zx} {a b c : Expr} {ta tb tc : TE} {pos : Pos}
theorem zc_max2 : ZC Z (.builtin "max") (fun xs H Q => ∃ i j, xs = [.int i, .int j] ∧ Q (.int (if j > i then j else i)) H) := by
  intro pins s σ H xs us Q E I r h
  obtain ⟨i, j, rfl, q⟩ := h
  obtain ⟨u, w', rfl, ⟨t, rfl⟩, ⟨t', rfl⟩⟩ := vals2 r
  refine max_two_ints I.hd fun h' tk k => ⟨.int (if j > i then j else i), H, I.kept k, ?_, q⟩
  by_cases hj : j > i
  · rw [if_pos hj, if_pos hj]; exact ⟨_, rfl⟩
  · rw [if_neg hj, if_neg hj]; exact ⟨_, rfl⟩
theorem zc_len : ZC Z (.builtin "len") (fun vs H Q => ∃ p xs, vs = [.ref p] ∧ H p = some (.lst xs) ∧ Q (.int (xs.length : Nat)) H) := by
  intro pins s σ H vs us Q E I r h
  obtain ⟨p, xs, rfl, hq, q⟩ := h
  obtain ⟨u, rfl, rx⟩ := vals1 r
  cases rx
  obtain ⟨hz, its, n, r', e0⟩ := I.e0.hok p _ hq
  have pl : PlainL s.heap p its.toArray := ⟨_, n, e0, rfl, rfl, rfl⟩
  have hl := line63
  have hs : sizeLine = 16777216 := sizeLine_eq
  have hlen := r'.length
  exact Calls.call_len_list pl.isList (by simp only [List.size_toArray]; omega) ⟨.int xs.length, H, I.tok _, ⟨_, by simp only [List.size_toArray]; rw [hlen]⟩, q⟩
theorem zc_sum : ZC Z (.builtin "sum") (fun vs H Q => ∃ (p : Addr) (ns : List Int), vs = [.ref p] ∧ H p = some (.lst (ns.map V.int)) ∧ Q (.int ns.sum) H) := by
  intro pins s σ H vs us Q E I r h
  obtain ⟨p, ns, rfl, hq, q⟩ := h
  obtain ⟨u, rfl, rx⟩ := vals1 r
  cases rx
  obtain ⟨hz, its, n, r', e0⟩ := I.e0.hok p _ hq
  have pl : PlainL s.heap p its.toArray := ⟨_, n, e0, rfl, rfl, rfl⟩
  exact sum_raw I.hd pl.isList r'.ints fun h' tk t' hk => ⟨.int ns.sum, H, I.kept hk, ⟨_, rfl⟩, q⟩
theorem z_callB {id : String} {r : List V → Hp → VK → Prop} {x : Str} {p : Pos} {e : Expr} {es : List Expr} {t : TA} (hc : ZC Z (.builtin id) r) (hg : Z.env.kindOf x = some .globalImplicit) (hm : Z.mg x = none) (hv : bootBuiltins x = some (.builtin id)) (ha : ZA Z (e :: es) t) (hn : x ≠ "__name__" := by decide) (hdb : (x == ("__debug__" : Str)) = false := by decide)
    (he : starEach (e :: es) Z.env = (false, eval e Z.env) :: starEach es Z.env := by rfl) (hpl : (backTo pos (starEach es Z.env)).any (·.1) = false := by rfl) : ZE Z (.Call (.Name x p) (e :: es) [] pos) (tCB r t) := by
  refine ⟨fun pins s σ H Q E I h => ?_⟩
  refine wpAny_Call_Name_kw (z_ldB I hg hm hv ?_ hn hdb)
  refine PyProof.Rows.callWith_builtin1 (thn (ha.run pos pins s σ H _ E I h) fun us s1 z => ?_) he hpl
  obtain ⟨vs, H1, I1, r1, q1⟩ := z
  exact hc pins s1 σ H1 vs us Q E I1 r1 q1
/-- xs.append(e) -/
theorem z_append {o e : Expr} {to te : TE} {apos cpos : Pos} (ho : ZE Z o to) (ha : ZE Z e te) (hbase : attributeBase o "append" Z.env (eval o Z.env) = eval o Z.env := by rfl)
    (hfew : ((backTo cpos (starEach [e] Z.env)).all (fun x => !x.1) && (backToKw cpos (keywordEach [] Z.env)).all (fun x => x.1.isSome)
      && decide (([e] : List Expr).length + ([] : List Keyword).length + (if ([] : List Keyword).isEmpty then 0 else 1) < 30)) = true := by rfl)
    (hline : (apos.endLine == cpos.line) = true := by rfl) (hs : starEach [e] Z.env = (false, eval e Z.env) :: starEach [] Z.env := by rfl) (hplain : (backTo cpos (starEach [] Z.env)).any (·.1) = false := by rfl) :
    ZE Z (.Call (.Attribute o "append" apos) [e] [] cpos) (fun σ H Q => to σ H fun x H1 => ∃ l xs, x = .ref l ∧ H1 l = some (.lst xs) ∧ te σ H1 fun y H2 => ∃ ys, H2 l = some (.lst ys) ∧ ys.length < sizeLine ∧ Q .non (upd H2 l (.lst (ys ++ [y])))) := by
  refine ⟨fun pins s σ H Q E I h => ?_⟩
  refine wpAny_Call_method_late hbase hfew hline rfl (thn (ho.run pins s σ H _ E I h) fun v s1 z => ?_)
  obtain ⟨x, H1, I1, r1, l, xs, rfl, hl, q1⟩ := z
  cases r1
  obtain ⟨hz, its, n, r', e0⟩ := I1.e0.hok l _ hl
  have pl : PlainL s1.heap l its.toArray := ⟨_, n, e0, rfl, rfl, rfl⟩
  refine ⟨"list", "list.append", PySem.F.plainAttrs_list, PySem.F.slot_list_append, PySem.F.type_list_append, pl.isList.typeIs, fun a e => ?_, ?_⟩
  · cases e
    exact ⟨_, e0, rfl⟩
  rw [hs]
  refine Calls.callWith_builtin (by show (false || (backTo cpos (starEach [] Z.env)).any (·.1)) = false; rw [hplain] <;> rfl) (Calls.evalArgs_plain ?_)
  refine Calls.spliced_cons (thn (ha.run pins s1 σ H1 _ E I1 q1) fun u s2 z => ?_)
  obtain ⟨y, H2, I2, r2, ys, hy, hlt, q2⟩ := z
  refine Calls.spliced_nil ?_
  obtain ⟨hz2, its2, n2, r2', e2⟩ := I2.e0.hok l _ hy
  have hl2 := r2'.length
  show wpAny _ _ (call (.builtin "list.append") [.ref l, u]) _ _ _
  refine call_meets F.slot_list_append ⟨_, e2, rfl⟩ F.entry_list_append (F.args_list_append_2 _ _) (PySem.list_append l its2.toArray n2 u (by rw [List.size_toArray]; omega)) ⟨e2, ?_⟩
  have qe := PySem.IsL.update e2 (fun z => z.push u)
  refine ⟨.non, _, I2.wrote (x := l) (o := .lst (ys ++ [y])) (by rw [hy]; exact trivial) (fun b' o' hb hu => (Heap.get?_update_other s2.heap _ (Ne.symm hb)).trans hu) ⟨_, qe⟩ ⟨by rw [List.length_append, List.length_singleton]; omega, its2 ++ [u], _, r2'.append (.cons r2 .nil), by simpa using qe⟩, rfl, q2⟩
/-- C(e, ..) -/
theorem z_make {k : Nat} {f C : Addr} {fd : FuncData} {ps : List Str} {sp : Sp} {x : Str} {p : Pos} {e : Expr} {es : List Expr} {t : TA} (M : Mk Z.K C f) (F : FnOk Z.prog Z.w Z.K Z.mg Z.base CX0 k f fd ps sp) (hk : k + 1 ≤ Z.k) (hg : Z.env.kindOf x = some .globalImplicit) (hm : Z.mg x = some (.ref C))
    (hb : Binds Z.K fd ps []) (md : Z.K.In Z.base) (ha : ZA Z (e :: es) t) (hdb : (x == ("__debug__" : Str)) = false := by decide) (he : starEach (e :: es) Z.env = (false, eval e Z.env) :: starEach es Z.env := by rfl) (hpl : (backTo pos (starEach es Z.env)).any (·.1) = false := by rfl) :
    ZE Z (.Call (.Name x p) (e :: es) [] pos) (tMake C sp [] (fun _ _ _ => False) t) := by
  refine ⟨fun pins s σ H Q E I h => ?_⟩
  refine wpAny_Call_Name_kw (z_ld I hg hm ?_ hdb)
  refine PySem.W.callWith_K (h₀ := Z.base) md M.kp (thn (ha.run pos pins s σ H _ E I h) fun us s1 z => ?_) he hpl
  obtain ⟨vs, H1, I1, r, q⟩ := z
  refine ⟨I1.kin, ?_⟩
  have hq := q (s1.heap.objs.size + 1) s1.heap.objs.size (I1.e0.hok.fresh (Nat.le_succ _)) (I1.e0.hok.fresh (Nat.le_refl _)) (Nat.ne_of_lt (Nat.lt_succ_self _))
  rw [List.append_nil] at hq
  have hsz : (s1.heap.push PySem.W.emptyDict).objs.size = s1.heap.objs.size + 1 := Heap.size_push ..
  have ne : s1.heap.objs.size ≠ s1.heap.objs.size + 1 := Nat.ne_of_lt (Nat.lt_succ_self _)
  have e1 : (s1.heap.push PySem.W.emptyDict).get? s1.heap.objs.size = some PySem.W.emptyDict := Heap.get?_push_size s1.heap rfl
  have e2 := Heap.get?_push_size (s1.heap.push PySem.W.emptyDict) (o := PySem.W.instObj C s1.heap.objs.size) rfl
  rw [hsz] at e2
  have e3 : (s1.heap.push PySem.W.emptyDict).Ns s1.heap.objs.size (fun _ => none) := ⟨PySem.W.emptyDict, #[], _, e1, rfl, (fun _ q => absurd q (by simp)), fun _ => rfl⟩
  have J : ZInv Z pins σ (upd H1 s1.heap.objs.size (.own (s1.heap.objs.size + 1))) { s1 with heap := s1.heap.push PySem.W.emptyDict } := I1.laid (t' := s1.toks) (fun b u q => Heap.get?_push_of_some _ q) (Nat.le_refl _) ⟨_, e1⟩
  have I2 : ZInv Z pins σ (upd (upd H1 s1.heap.objs.size (.own (s1.heap.objs.size + 1))) (s1.heap.objs.size + 1) (.ins C s1.heap.objs.size [])) { s1 with heap := (s1.heap.push PySem.W.emptyDict).push (PySem.W.instObj C s1.heap.objs.size) } :=
    J.laid (t' := s1.toks) (fun b u q => Heap.get?_push_of_some _ q) (Nat.le_of_eq hsz) ⟨by rw [upd_ne ne, upd_same], Nat.zero_le _, ne, e2, fun _ => none, (Heap.Ns1.of_empty e3).at fun o q => Heap.get?_push_of_some _ q, fun _ => True.intro, fun y hy => absurd rfl hy⟩
  have hl : (Value.ref (s1.heap.objs.size + 1) :: us ++ []).length = ps.length := by
    have z := (F.len _ _ _ _ hq).symm
    rw [List.append_nil, z, List.length_cons, List.length_cons, r.length]
  have hb2 := hb _ (Value.ref (s1.heap.objs.size + 1) :: us) I2.kin hl
  rw [List.append_nil] at hb2
  refine wpAny_call (make_map (f := f) I1.kin M.makes M.init (beq_iff_eq.mp M.fn) (codeAny_mono (F.run _ Z.stack _ _ ⟨Value.ref (s1.heap.objs.size + 1) :: us, []⟩ (Value.ref (s1.heap.objs.size + 1) :: us) (V.ref (s1.heap.objs.size + 1) :: vs) _ _ ((I.ok.room.mono hk).make C us [])
    (I2.e0.make C us []) hb2 (.cons rfl r) hq) fun r' s' hq' => ?_))
  cases r' with
  | error e => exact hq'.elim
  | ok fl =>
    cases fl with
    | ret u =>
      obtain ⟨v, H', I3, rv, ev, q3⟩ := I2.after hq'
      subst ev
      exact ⟨rv, ⟨V.ref (s1.heap.objs.size + 1), H', I3, rfl, q3⟩⟩
    | next => exact hq'.elim
    | brk => exact hq'.elim
    | cont => exact hq'.elim
/-! ### statements -/
theorem zs_set {i : Nat} {x : Str} {e : Expr} {te : TE} {pos' : Pos} (hi : Z.N[i]? = some x) (he : ZE Z e te) (hs : swapsWith e (some (.Name x pos')) pos.line Z.env = pure false := by rfl) :
    ZS Z (.Assign [.Name x pos'] e pos) (fun σ H N => te σ H fun v H1 => N (σ.set i (some v)) H1) := by
  refine ⟨fun pins s σ H N E I h => ?_⟩
  refine wpAny_Assign_Name (thn (he.run pins s σ H _ E I h) fun v s1 z => ?_) hs
  obtain ⟨y, H1, I1, r1, q1⟩ := z
  exact z_store I1 hi r1 fun s2 I2 => ⟨rfl, _, H1, I2, q1⟩
theorem zs_expr {e : Expr} {te : TE} (he : ZE Z e te) (hs : swapsWith e none pos.line Z.env = pure false := by rfl) : ZS Z (.Expr e pos) (fun σ H N => te σ H fun _ H1 => N σ H1) := by
  refine ⟨fun pins s σ H N E I h => ?_⟩
  refine wpAny_Expr_any (thn (he.run pins s σ H _ E I h) fun v s1 z => ?_) (by simp [interactive, I.ok.kind]) hs
  obtain ⟨x, H1, I1, r1, q1⟩ := z
  exact ⟨rfl, σ, H1, I1, q1⟩
end
end Zg
end
section
set_option maxHeartbeats 2000000
/-! Blocks, a loop over a range, and the statements of a generator that hand out: leg by leg. -/
namespace Zg
open PySem PySem.Spec PyProof.Rows L2 GenW
abbrev TZ := L2.St → Hp → (L2.St → Hp → Prop) → Prop
structure ZSs (Z : Zx) (st : List Stmt) (t : TZ) : Prop where
  run : ∀ (pins : List (Addr × Obj)) (s : Shared) (σ : L2.St) (H : Hp) (N : L2.St → Hp → Prop) (E : Value → Shared → Prop), ZInv Z pins σ H s → t σ H N → wpAny (model Z.prog Z.w) Z.A (execs st Z.env) (fun f s' => f = .next ∧ ∃ σ' H', ZInv Z pins σ' H' s' ∧ N σ' H') E s
section
variable {Z : Zx} {pos : Pos}
theorem zss_nil : ZSs Z [] (fun σ H N => N σ H) := ⟨fun pins s σ H N E I h => wpAny_execs_nil ⟨rfl, σ, H, I, h⟩⟩
theorem zss_cons {st : Stmt} {rest : List Stmt} {t u : TZ} (a : ZS Z st t) (b : ZSs Z rest u) : ZSs Z (st :: rest) (fun σ H N => t σ H fun σ' H' => u σ' H' N) := by
  refine ⟨fun pins s σ H N E I h => ?_⟩
  refine wpAny_execs_cons (thn (a.run pins s σ H _ E I h) fun f s1 z => ?_)
  obtain ⟨rfl, σ1, H1, I1, q1⟩ := z
  exact b.run pins s1 σ1 H1 N E I1 q1
/-- for x in range(a, b): body -/
theorem zs_forR {x : Str} {px p rp : Pos} {a b : Expr} {ta : TA} {body : List Stmt} {tb : TZ} {i : Nat} (hi : Z.N[i]? = some x) (hg : Z.env.kindOf "range" = some .globalImplicit) (hm : Z.mg "range" = none) (ha : ZA Z [a, b] ta) (hb : ZSs Z body tb)
    (hs : starEach [a, b] Z.env = [(false, eval a Z.env), (false, eval b Z.env)] := by rfl) (hs2 : starEach [b] Z.env = [(false, eval b Z.env)] := by rfl) (hf : ∀ v, foldedSetIterable (.Call (.Name "range" p) [a, b] [] rp) Z.env v = pure v := by intro _; rfl) :
    ZS Z (.For (.Name x px) (.Call (.Name "range" p) [a, b] [] rp) body [] pos) (fun σ H N => ta σ H fun vs H1 => ∃ lo hi : Int, vs = [.int lo, .int hi] ∧ (-(2 ^ 62) ≤ lo ∧ lo < 2 ^ 62 ∧ -(2 ^ 62) ≤ hi ∧ hi < 2 ^ 62) ∧
      ∃ Pv : Nat → L2.St → Hp → Prop, Pv 0 σ H1 ∧ (∀ j σ H, j < (hi - lo).toNat → Pv j σ H → tb (σ.set i (some (.int (lo + j)))) H (Pv (j + 1))) ∧ ∀ σ H, Pv (hi - lo).toNat σ H → N σ H) := by
  refine ⟨fun pins s σ H N E I h => ?_⟩
  refine wpAny_For (Call_ (z_ldB I hg hm boot_range (PyProof.Rows.callWith_type1 (thn (ha.run rp pins s σ H _ E I h) fun us s1 z => ?_) (by rw [hs, hs2]) (by rw [hs2]; rfl)))) hf
  obtain ⟨vs, H1, I1, r1, lo, hi', e, ⟨q1, q2, q3, q4⟩, Pv, p0, ps, pd⟩ := z
  subst e
  cases r1 with
  | cons r rr =>
    cases rr with
    | cons r' rr =>
      cases rr
      obtain ⟨t, rfl⟩ := r
      obtain ⟨t', rfl⟩ := r'
      refine call_range_2 ?_
      refine wpAny_pyIter_range (IsRange.new ..) (small_one q1 q2 q3 q4) ?_
      generalize hn : (hi' - lo).toNat = n at p0 ps pd
      have I2 : ZInv Z pins σ H1 { s1 with heap := s1.heap.push { cls := .type "range", data := .fields #[.int lo t, .int hi' t', .int 1 s1.toks] }, toks := s1.toks + 1 } := I1.kept fun b o e => Heap.get?_push_of_some _ e
      generalize hh2 : (s1.heap.push { cls := .type "range", data := .fields #[.int lo t, .int hi' t', .int 1 s1.toks] } : Heap) = h2 at I2
      have nw := I2.new_ (b := h2.objs.size) (Nat.le_refl _)
      have I3 : ZInv Z pins σ H1 { s1 with heap := h2.push { cls := .type "range_iterator", data := .fields #[rawInt lo, rawInt (Builtin.Range.rangeSize lo hi' 1), rawInt 1] }, toks := s1.toks + 1 } := I2.kept fun b o e => Heap.get?_push_of_some _ e
      have e2 : ((n : Nat) : Int) - ((0 : Nat) : Int) = Builtin.Range.rangeSize lo hi' 1 := by rw [rangeSize_one, ← hn]; split <;> omega
      have e1 : lo + ((0 : Nat) : Int) * 1 = lo := by simp
      have it0 : IsRangeIter (h2.push { cls := .type "range_iterator", data := .fields #[rawInt lo, rawInt (Builtin.Range.rangeSize lo hi' 1), rawInt 1] }) h2.objs.size (lo + ((0 : Nat) : Int) * 1) (((n : Nat) : Int) - ((0 : Nat) : Int)) 1 := by
        rw [e1, e2]
        exact Heap.get?_push_size _ rfl
      generalize hit : h2.objs.size = it at nw it0
      refine codeAny_forLoop_any (fun m s' => ∃ j σ' H', j ≤ n ∧ m = n - j ∧ ZInv Z pins σ' H' s' ∧ H' it = none ∧ IsRangeIter s'.heap it (lo + (j : Int) * 1) ((n : Int) - (j : Int)) 1 ∧ Pv j σ' H') ?_ n ⟨0, σ, H1, Nat.zero_le _, rfl, I3, nw.2.2.2.1, it0, p0⟩
      rintro m s3 ⟨j, σ3, H3, hj, rfl, J, hn3, st3, p3⟩
      have hfree : ((it ∈ Z.own ∨ Z.s0.heap.get? it = none) ∧ Z.base.get? it = none ∧ it ∉ frs Z.outer) := nw.2.1
      by_cases hlt : j < n
      · have W := Walks.range (prog := Z.prog) (w := Z.w) J.hd it lo 1 n
        refine W.item j s3 _ _ hlt st3 fun v h' tk hv st' kk => ?_
        obtain ⟨tt, rfl⟩ := hv
        have kk' : ∀ b o, b ≠ it → s3.heap.get? b = some o → h'.get? b = some o := fun b o hb e => kk b o (by simpa using hb) e
        have J1 : ZInv Z pins σ3 H3 { s3 with heap := h', toks := tk } := J.turn kk' (fun _ => ⟨_, st'⟩) hn3 nw.2.2.1 hfree nw.2.2.2.2
        refine go_of (s := { s3 with heap := h', toks := tk }) (n := "range_iterator") st' rfl rfl (by decide) ?_
        have ob : ∃ o, h'.get? it = some o := ⟨_, st'⟩
        obtain ⟨ob, hob⟩ := ob
        have J2 : ZInv Z ((it, ob) :: pins) σ3 H3 { s3 with heap := h', toks := tk } := J1.pinned fun p hp => by
          rcases List.mem_cons.mp hp with e | e
          · rw [e]; exact ⟨hob, hn3, nw.2.2.1, nw.2.1.2.2⟩
          · exact J1.pin p e
        refine wpAny_assign_Name (z_store J2 hi (v := .int (lo + j)) ⟨tt, by rw [Int.mul_one]⟩ fun s4 J4 => ?_)
        refine thn (hb.run _ s4 _ H3 _ _ J4 (ps j σ3 H3 hlt p3)) fun f s5 z => ?_
        obtain ⟨rfl, σ5, H5, J5, p5⟩ := z
        obtain ⟨k1, k2, _⟩ := J5.pin _ List.mem_cons_self
        have st5 : IsRangeIter s5.heap it (lo + ((j + 1 : Nat) : Int) * 1) ((n : Int) - ((j + 1 : Nat) : Int)) 1 := by
          have z2 : h'.get? it = some _ := st'
          rw [hob] at z2
          have z3 := Option.some.inj z2
          show s5.heap.get? it = some _
          rw [k1, z3]
        exact ⟨n - (j + 1), by omega, j + 1, σ5, H5, hlt, rfl, J5.pinned (fun p hp => J5.pin p (List.mem_cons_of_mem _ hp)), k2, st5, p5⟩
      · have hjn : j = n := by omega
        subst hjn
        refine wpAny_pyNext_range_end J.hd st3 (by omega) fun h' eb => ?_
        exact wpAny_execs_nil ⟨rfl, σ3, H3, J.turn (t' := s3.toks) (fun b o hb e => eb b o hb e) (fun z => absurd z nw.1) hn3 nw.2.2.1 hfree nw.2.2.2.2, pd _ _ p3⟩
end
end Zg
end
section
set_option maxHeartbeats 2000000
/-! A generator's statements that hand out, as legs. -/
namespace Zg
open PySem PySem.Spec PyProof.Rows L2 GenW
/-- several plain names are stored in turn -/
def zput : List Nat → List V → L2.St → L2.St
  | i :: is, v :: vs, σ => zput is vs (σ.set i (some v))
  | _, _, σ => σ
inductive ZNames (Z : Zx) : List Expr → List Nat → Prop
  | nil : ZNames Z [] []
  | cons {x : Str} {p : Pos} {es : List Expr} {i : Nat} {is : List Nat} (h : Z.N[i]? = some x) (r : ZNames Z es is) (hs : (assignEach (.Name x p :: es) Z.env).map (·.2) = assign (.Name x p) Z.env :: (assignEach es Z.env).map (·.2)) : ZNames Z (.Name x p :: es) (i :: is)
theorem z_names {Z : Zx} {es : List Expr} {is : List Nat} (h : ZNames Z es is) : ∀ {pins : List (Addr × Obj)} {σ : L2.St} {H : Hp} {s : Shared} {E : Value → Shared → Prop} {vs : List V} {us : List Value} {Q : Unit → Shared → Prop}, ZInv Z pins σ H s → Vals vs us → vs.length = is.length →
    (∀ s', ZInv Z pins (zput is vs σ) H s' → Q () s') → wpAny (model Z.prog Z.w) Z.A (assignInOrder ((assignEach es Z.env).map (·.2)) us) Q E s := by
  induction h with
  | nil =>
    intro pins σ H s E vs us Q I r hl hq
    cases r with
    | nil => exact assignInOrder_nil (hq s I)
    | cons => cases hl
  | cons h r hs ih =>
    intro pins σ H s E vs us Q I rv hl hq
    cases rv with
    | nil => cases hl
    | cons r1 r2 =>
      rw [hs]
      exact assignInOrder_cons (wpAny_assign_Name (z_store I h r1 fun s' I' => ih I' r2 (by simpa using hl) hq))
theorem z_unpack {Z : Zx} {es : List Expr} {is : List Nat} {k : Nat} {pos : Pos} {pins : List (Addr × Obj)} {σ : L2.St} {H : Hp} {s : Shared} {E : Value → Shared → Prop} {t : Addr} {vs : List V} {Q : Unit → Shared → Prop} (h : ZNames Z es is) (I : ZInv Z pins σ H s) (ht : H t = some (.tup vs)) (hl : vs.length = is.length)
    (hn : (assignEach es Z.env).length = is.length) (hst : (assignEach es Z.env).findIdx? (·.1) = none) (hq : ∀ s', ZInv Z pins (zput is vs σ) H s' → Q () s') : wpAny (model Z.prog Z.w) Z.A (assign (.Tuple es k pos) Z.env (.ref t)) Q E s := by
  obtain ⟨hz, its, r, pl⟩ := I.e0.hok t _ ht
  refine assign_Tuple_tuple I.hd pl (by rw [hn, ← hl, r.length, List.size_toArray]) hst fun h' hx => ?_
  have I1 : ZInv Z pins σ H { s with heap := h' } := I.kept (t' := s.toks) fun b o e => hx b o (Nat.ne_of_lt (Heap.lt_size e)) e
  exact z_names h I1 (by simpa using r) hl hq
section
variable {Z : Zx} {B : Around} {W : End → Shared → Prop} {c : Code} {fs : List Frame} {K : Flow → Sem PySem.Fin} {J : Value → Sem PySem.Fin} {gd : Bool → Bool} {lv : List Value → List Value} {pins : List (Addr × Obj)} {σ : L2.St} {H : Hp} {s : Shared} {pos : Pos}
/-- one run's term -/
abbrev RunZ (Z : Zx) (B : Around) (W : End → Shared → Prop) (c : Code) (t : Sem PySem.Fin) (fs : List Frame) (s : Shared) : Prop := Leg.Run (model Z.prog Z.w) B W c t fs s
theorem lz_nil (h : RunZ Z B W c (K .next) fs s) : RunZ Z B W c ((execs [] Z.env).wrap K J gd lv) fs s := h
theorem lz_cons {st : Stmt} {rest : List Stmt} (h : RunZ Z B W c ((exec st Z.env).wrap (fun f => match f with | .next => (execs rest Z.env).wrap K J gd lv | f => K f) J gd lv) fs s) : RunZ Z B W c ((execs (st :: rest) Z.env).wrap K J gd lv) fs s := by
  show Leg.Run _ _ _ _ _ _ _
  rw [execs_cons_wrap]
  exact h
/-- a statement that hands out nothing -/
theorem lz_plain {st : Stmt} {t : TZ} {N : L2.St → Hp → Prop} (ov : B.over c fs = Z.A) (hs : ZS Z st t) (I : ZInv Z pins σ H s) (ht : t σ H N) (k : ∀ s' σ' H', ZInv Z pins σ' H' s' → N σ' H' → RunZ Z B W c (K .next) fs s') : RunZ Z B W c ((exec st Z.env).wrap K J gd lv) fs s := by
  refine Leg.wrap ?_
  rw [ov]
  refine thn (hs.run pins s σ H N _ I ht) fun f s' z => ?_
  obtain ⟨rfl, σ', H', I', q⟩ := z
  exact k s' σ' H' I' q
theorem lz_if {e : Expr} {a o : List Stmt} {t : TT} {Q : Bool → Hp → Prop} (ov : B.over c fs = Z.A) (hc : ZT Z e t) (I : ZInv Z pins σ H s) (ht : t σ H Q) (k : ∀ b s' H', ZInv Z pins σ H' s' → Q b H' → RunZ Z B W c ((execs (if b = true then a else o) Z.env).wrap K J gd lv) fs s') :
    RunZ Z B W c ((exec (.If e a o pos) Z.env).wrap K J gd lv) fs s := by
  show Leg.Run _ _ _ _ _ _ _
  rw [exec_If]
  show Leg.Run _ _ _ _ (.at pos fun _ => ((isTrue e Z.env (eval e Z.env) >>= fun b => if b = true then execs a Z.env else execs o Z.env).wrap K J gd lv)) fs s
  refine Leg.stand ?_
  rw [Sem.bind_eq_wrap', Sem.wrap_wrap]
  refine Leg.wrap ?_
  rw [ov]
  refine thn (hc.run _ pins s σ H Q _ I ht) fun b s' z => ?_
  obtain ⟨H', I', q⟩ := z
  have z := k b s' H' I' q
  cases b with
  | true => exact z
  | false => exact z
/-- yield e -/
theorem lz_yield {e : Expr} {te : TE} {yp : Pos} {Q : V → Hp → Prop} (ov : B.over c fs = Z.A) (sp : splitAtGen fs = none) (g0 : gd false = false) (he : ZE Z e te) (I : ZInv Z pins σ H s) (ht : te σ H Q)
    (k : ∀ v u s' H', ZInv Z pins σ H' s' → RelV v u → Q v H' → ∀ (g : Bool) (l : List Value) (kk : Resume → Sem PySem.Fin) (p : Pos), g = false → (∀ (M' : Model) (B' : Around) (W' : End → Shared → Prop) (s'' : Shared), Leg.Run M' B' W' c (K .next) fs s'' → Leg.Run M' B' W' c (kk (.send .none)) fs s'') → W (.susp u g l kk c p fs) s')
    (hco : Z.env.scope.isCoroutine = false) : RunZ Z B W c ((exec (.Expr (.Yield (some e) yp) pos) Z.env).wrap K J gd lv) fs s := by
  have hi : interactive Z.env = false := by simp [interactive, I.ok.kind]
  show Leg.Run _ _ _ _ _ _ _
  rw [exec_Expr Z.env _ pos hi rfl]
  show Leg.Run _ _ _ _ (.at pos fun _ => ((eval e Z.env >>= fun v => (standAt yp >>= fun _ => yieldOut Z.env v)) >>= fun x => dropValue (.Yield (some e) yp) pos x).wrap K J gd lv) fs s
  have hy : ∀ v, yieldOut Z.env v = yieldValue v := fun v => by simp only [yieldOut, hco, Bool.false_eq_true, if_false]
  simp only [hy]
  refine Leg.stand ?_
  rw [Sem.bind_eq_wrap', Sem.bind_eq_wrap', Sem.wrap_wrap, Sem.wrap_wrap]
  refine Leg.wrap ?_
  rw [ov]
  refine thn (he.run pins s σ H Q _ I ht) fun u s' z => ?_
  obtain ⟨v, H', I', r, q⟩ := z
  exact Leg.stand (Leg.gives sp fun p => k v u s' H' I' r q _ _ _ p g0 fun M' B' W' s'' z => z)
end
end Zg
end
section
set_option maxHeartbeats 2000000
/-! A loop over a list whose body hands out: leg by leg. -/
namespace Zg
open PySem PySem.Spec PyProof.Rows L2 GenW
/-- an iterator that the frame alone knows -/
structure ItOk (Z : Zx) (pins : List (Addr × Obj)) (H : Hp) (s : Shared) (it : Addr) : Prop where
  hn : H it = none
  ne : it ≠ Z.env.locals
  fr : (it ∈ Z.own ∨ Z.s0.heap.get? it = none) ∧ Z.base.get? it = none ∧ it ∉ frs Z.outer
  pn : ∀ p ∈ pins, p.1 ≠ it
/-- the end of a list's iterator; the iterator is still there -/
theorem list_end_there {prog : Program} {w : World} {A : Around} {E : Value → Shared → Prop} {s : Shared} {it l : Addr} {i : Nat} {items} {Q : Option Value → Shared → Prop} (hh : A.handled = none) (hit : s.heap.IsListIter it l i) (hl : s.heap.IsList l items) (hx : items[i]? = none)
    (hQ : ∀ h', Heap.ExtBut it s.heap h' → (∃ o, h'.get? it = some o) → Q none { s with heap := h' }) : wpAny (model prog w) A (pyNext (.ref it)) Q E s := by
  obtain ⟨o, ho, hc, hd⟩ := id hit
  obtain ⟨ol, hol, _, nl, hdl⟩ := hl
  have nf : (o.mapFields fun v => v.setIfInBounds 0 .none).isFreed = false := Obj.isFreed_of_fields (Obj.data_mapFields hd _)
  unfold pyNext
  refine wpAny_bind (wpAny_attempt (wpAny_callSpecial?_slot (name := Str.ofString "__next__") hit.typeIs slot_listiter_next (wpAny_call_entry slot_listiter_next hit.typeIs entry_listiter_next ?_ (args_listiter_next _))))
  show wpAny _ _ (field (.ref it) 0 >>= _) _ _ s
  refine wpAny_bind (wpAny_field ho hd (x := .ref l) rfl ?_)
  show wpAny _ _ (if (Value.ref l == Value.none) = true then _ else _) _ _ s
  rw [if_neg (show ¬ ((Value.ref l == Value.none) = true) from Bool.false_ne_true)]
  show wpAny _ _ (field (.ref it) 1 >>= _) _ _ s
  refine wpAny_bind (wpAny_field ho hd (x := .int i 0) rfl ?_)
  show wpAny _ _ (seqItems? (.ref l) >>= _) _ _ s
  refine wpAny_bind (wpAny_seqItems hol hdl ?_)
  simp only [Int.toNat_natCast, hx]
  refine wpAny_bind (wpAny_rule (wpAny_bind (wpAny_setField ho hd (by simp) ?_)))
  show wpAny _ _ (newExc (.type "StopIteration") [] >>= _) _ _ _
  refine wpAny_bind ?_
  simp only [newExc, newTuple]
  refine wpAny_bind (wpAny_newObj_type ?_ (by size_fits))
  refine wpAny_bind (m := firstArgMember _ _) (wpAny_of_eq (a := Value.none) (by first | rfl | (simp only [firstArgMember]; rfl)) ?_)
  refine wpAny_newObj_type ?_ (by size_fits)
  simp only [raiseNew]
  refine wpAny_bind (wpAny_handled ?_)
  rw [show A.in1.handled = none from hh]
  refine wpAny_bind (wpAny_pure (wpAny_throw ?_))
  refine wpAny_bind (wpAny_isInstance (T := "StopIteration") (b := true) ⟨_, Heap.get?_push_size _ rfl, rfl⟩ isSubtype_stop ?_)
  exact wpAny_pure (hQ _ (((Heap.SameBut.update ..).extBut.push _).push _) ⟨_, Heap.get?_push_of_some _ (Heap.get?_push_of_some _ (Heap.get?_update_self _ ho (Obj.isFreed_of_fields (Obj.data_mapFields hd _))))⟩)
/-- after the body of one turn -/
def turnK (c : Code) : Flow → Sem PySem.Fin := fun f => match f with
  | .next => .pure (.again c)
  | .cont => .pure (.again c)
  | .brk => .pure (.done .next)
  | .ret v => .pure (.done (.ret v))
section
variable {Z : Zx} {B : Around} {W : End → Shared → Prop} {fs : List Frame} {pins : List (Addr × Obj)} {σ : L2.St} {H : Hp} {s : Shared} {pos : Pos}
theorem lz_loop_item {es : List Expr} {is : List Nat} {n : Nat} {tp : Pos} {it l t : Addr} {j : Nat} {xs vs : List V} {body : List Stmt} {c : Code} (hc : c = .forLoop (.Tuple es n tp) (.ref it) body [] Z.env) (ov : B.over c fs = Z.A) (I : ZInv Z pins σ H s) (io : ItOk Z pins H s it)
    (li : s.heap.IsListIter it l j) (hl : H l = some (.lst xs)) (hx : xs[j]? = some (.ref t)) (ht : H t = some (.tup vs)) (hN : ZNames Z es is) (hv : vs.length = is.length) (hn : (assignEach es Z.env).length = is.length) (hst : (assignEach es Z.env).findIdx? (·.1) = none)
    (k : ∀ J s' ob, ZInv Z ((it, ob) :: pins) (zput is vs σ) H s' → ob.cls = .type "list_iterator" → ob.data = .fields #[.ref l, .int (j + 1 : Nat) 0] → RunZ Z B W c ((execs body Z.env).wrap (turnK c) J id id) fs s') :
    RunZ Z B W c ((model Z.prog Z.w).den c) fs s := by
  subst hc
  obtain ⟨hz, its, n0, r, e0⟩ := I.e0.hok l _ hl
  have pl : PlainL s.heap l its.toArray := ⟨_, n0, e0, rfl, rfl, rfl⟩
  obtain ⟨w', ew, rw'⟩ := r.get hx
  cases rw'
  show Leg.Run _ _ _ _ ((forTurn (.Tuple es n tp) (.ref it) body [] Z.env).onRaise (fun x => do noteFrame x Z.env; theTreesLotGoes x)) fs s
  unfold forTurn
  rw [Sem.onRaise_eq_wrap, Sem.bind_eq_wrap', Sem.wrap_wrap]
  refine Leg.wrap (wpAny_standAt ?_)
  show Leg.Run _ _ _ _ (Sem.wrap _ _ _ _ (_ >>= _)) fs s
  rw [Sem.bind_eq_wrap', Sem.wrap_wrap]
  refine Leg.wrap ?_
  rw [ov]
  refine wpAny_onRaise ?_
  refine wpAny_pyNext_list_item li pl.isList (x := .ref t) (by simpa using ew) fun h' li' hs => ?_
  obtain ⟨ob, hob, hcl, hdt⟩ := id li'
  have I1 : ZInv Z pins σ H { s with heap := h' } := I.turn (t' := s.toks) (it := it) (fun b o hb e => (hs.2 b hb).trans e) (fun _ => ⟨_, hob⟩) io.hn io.ne io.fr io.pn
  have I2 : ZInv Z ((it, ob) :: pins) σ H { s with heap := h' } := I1.pinned fun p hp => by
    rcases List.mem_cons.mp hp with e | e
    · rw [e]; exact ⟨hob, io.hn, io.ne, io.fr.2.2⟩
    · exact I1.pin p e
  show Leg.Run _ _ _ _ (Sem.wrap _ _ _ _ (letOwnedTupleGo _ _ _ >>= _)) fs _
  rw [Sem.bind_eq_wrap', Sem.wrap_wrap]
  refine Leg.wrap ?_
  refine go_of (s := { s with heap := h' }) (n := "list_iterator") hob hcl hdt (by decide) ?_
  show Leg.Run _ _ _ _ (Sem.wrap _ _ _ _ (assign _ _ _ >>= _)) fs _
  rw [Sem.bind_eq_wrap', Sem.wrap_wrap]
  refine Leg.wrap ?_
  rw [ov]
  refine z_unpack hN I2 ht hv hn hst fun s4 I4 => ?_
  show Leg.Run _ _ _ _ (Sem.wrap _ _ _ _ (execs body Z.env >>= _)) fs _
  rw [Sem.bind_eq_wrap', Sem.wrap_wrap]
  rw [Sem.wrap_congr (execs body Z.env) _ _ (K' := turnK (.forLoop (.Tuple es n tp) (.ref it) body [] Z.env)) (fun f => by cases f <;> rfl) (fun e => rfl)]
  exact k _ s4 ob I4 hcl hdt
theorem lz_loop_end {tg : Expr} {it l : Addr} {j : Nat} {xs : List V} {body : List Stmt} {c c1 : Code} {k : Result → Sem PySem.Fin} {h g lv p1 kp} (hc : c = .forLoop tg (.ref it) body [] Z.env) (ov : B.over c (.ret k h g lv c1 p1 kp :: fs) = Z.A) (I : ZInv Z pins σ H s) (io : ItOk Z pins H s it)
    (li : s.heap.IsListIter it l j) (hl : H l = some (.lst xs)) (hx : xs.length ≤ j)
    (kk : ∀ s', ZInv Z pins σ H s' → RunZ Z B W c1 (k (.ok .next)) fs s') : RunZ Z B W c ((model Z.prog Z.w).den c) (.ret k h g lv c1 p1 kp :: fs) s := by
  subst hc
  obtain ⟨hz, its, n0, r, e0⟩ := I.e0.hok l _ hl
  have hlen := r.length
  have pl : PlainL s.heap l its.toArray := ⟨_, n0, e0, rfl, rfl, rfl⟩
  show Leg.Run _ _ _ _ ((forTurn tg (.ref it) body [] Z.env).onRaise (fun x => do noteFrame x Z.env; theTreesLotGoes x)) _ s
  unfold forTurn
  rw [Sem.onRaise_eq_wrap, Sem.bind_eq_wrap', Sem.wrap_wrap]
  refine Leg.wrap (wpAny_standAt ?_)
  show Leg.Run _ _ _ _ (Sem.wrap _ _ _ _ (_ >>= _)) _ s
  rw [Sem.bind_eq_wrap', Sem.wrap_wrap]
  refine Leg.wrap ?_
  rw [ov]
  refine wpAny_onRaise ?_
  refine list_end_there I.hd li pl.isList (by simp; omega) fun h' eb th => ?_
  have I1 : ZInv Z pins σ H { s with heap := h' } := I.turn (t' := s.toks) (it := it) eb (fun _ => th) io.hn io.ne io.fr io.pn
  show Leg.Run _ _ _ _ (.pure (.again (.block [] Z.env))) _ _
  refine Leg.once rfl ?_
  show Leg.Run _ _ _ _ (.pure (.done .next)) _ _
  exact Leg.back (.ok .next) (kk _ I1)
/-- into the loop: k0 is what comes after it -/
theorem lz_for {tg iter : Expr} {te : TE} {body : List Stmt} {c : Code} {K : Flow → Sem PySem.Fin} {J : Value → Sem PySem.Fin} {gd : Bool → Bool} {lv : List Value → List Value} {Q : V → Hp → Prop} (ov : B.over c fs = Z.A) (he : ZE Z iter te) (hf : ∀ v, foldedSetIterable iter Z.env v = pure v) (g0 : gd false = false) (I : ZInv Z pins σ H s) (ht : te σ H Q)
    (hq : ∀ v H', Q v H' → ∃ l xs, v = .ref l ∧ H' l = some (.lst xs))
    (k : ∀ (l it : Addr) xs s' H', Q (.ref l) H' → H' l = some (.lst xs) → ZInv Z pins σ H' s' → ItOk Z pins H' s' it → it ∉ Z.own → (∀ b ∈ frs Z.outer, b < it) → s'.heap.IsListIter it l 0 → ∀ (kk : Result → Sem PySem.Fin) (l0 : List Value) (p0 : Pos),
      (∀ (M' : Model) (B' : Around) (W' : End → Shared → Prop) (s'' : Shared), Leg.Run M' B' W' c (K .next) fs s'' → Leg.Run M' B' W' c (kk (.ok .next)) fs s'') →
      RunZ Z B W (.forLoop tg (.ref it) body [] Z.env) ((model Z.prog Z.w).den (.forLoop tg (.ref it) body [] Z.env)) (.ret kk none false l0 c p0 [] :: fs) s') :
    RunZ Z B W c ((exec (.For tg iter body [] pos) Z.env).wrap K J gd lv) fs s := by
  show Leg.Run _ _ _ _ _ _ _
  rw [exec_For]
  rw [Sem.bind_eq_wrap', Sem.wrap_wrap]
  refine Leg.wrap (wpAny_standAt ?_)
  show Leg.Run _ _ _ _ (Sem.wrap _ _ _ _ (eval iter Z.env >>= _)) _ _
  rw [Sem.bind_eq_wrap', Sem.wrap_wrap]
  refine Leg.wrap ?_
  rw [ov]
  refine thn (he.run pins s σ H Q _ I ht) fun u s1 z => ?_
  obtain ⟨v, H1, I1, r1, q1⟩ := z
  obtain ⟨l, xs, rfl, hl⟩ := hq v H1 q1
  cases r1
  rw [hf]
  show Leg.Run _ _ _ _ (Sem.wrap _ _ _ _ (standAt iter.pos >>= _)) _ _
  rw [Sem.bind_eq_wrap', Sem.wrap_wrap]
  refine Leg.wrap (wpAny_standAt ?_)
  show Leg.Run _ _ _ _ (Sem.wrap _ _ _ _ (holding [.ref l] (pyIter (.ref l)) >>= _)) _ _
  rw [Sem.bind_eq_wrap', Sem.wrap_wrap]
  refine Leg.wrap (wpAny_holding ?_)
  rw [ov]
  obtain ⟨hz, its, n0, r, e0⟩ := I1.e0.hok l _ hl
  have pl : PlainL s1.heap l its.toArray := ⟨_, n0, e0, rfl, rfl, rfl⟩
  have nw := I1.new_ (b := s1.heap.objs.size) (Nat.le_refl _)
  refine wpAny_pyIter_list pl.isList ?_
  have I2 : ZInv Z pins σ H1 { s1 with heap := s1.heap.push { cls := .type "list_iterator", data := .fields #[.ref l, .int 0 0] } } := I1.kept (t' := s1.toks) fun b o e => Heap.get?_push_of_some _ e
  show Leg.Run _ _ _ _ (.call _ _ _ _ _) _ _
  refine Leg.into fun p0 => ?_
  rw [g0]
  refine k l _ xs _ H1 q1 hl I2 ⟨nw.2.2.2.1, nw.2.2.1, nw.2.1, nw.2.2.2.2⟩ nw.1 (fun b hb => by
    have z2 : b ∈ frs Z.stack := by rw [I1.frsE]; exact List.mem_cons_of_mem _ hb
    obtain ⟨_, o, e, _⟩ := I1.e0.funs.mem z2
    exact Heap.lt_size e) ⟨_, Heap.get?_push_size _ rfl, rfl, rfl⟩ _ _ p0 fun M' B' W' s'' z => ?_
  exact z
end
end Zg
end
section
set_option maxHeartbeats 2000000
/-! A generator expression's frame, leg by leg. -/
namespace Zg
open PySem PySem.Spec PyProof.Rows L2 GenW
section
variable {prog : Program} {w : World} {B : Around} {W : End → Shared → Prop} {s : Shared} {env : Env} {elt tg iter : Expr} {scope : Scope} {pos : Pos} {it : Addr}
/-- one turn: the next item is asked for, stored, the element is handed out -/
theorem lc_turn {c : Code} (hc : c = .compLoop (.GeneratorExp elt [⟨tg, iter, [], 0⟩] scope pos) 0 (.ref it) .none env) (hco : env.scope.isCoroutine = false)
    (h : wpAny (model prog w) (B.over c []) (pyNext (.ref it)) (fun r s1 => match r with
      | none => W (.ret (.ok .next)) s1
      | some v => wpAny (model prog w) (B.over c []) (letOwnedTupleGo tg (.ref it) v) (fun _ s2 => wpAny (model prog w) (B.over c []) (assign tg env v) (fun _ s3 => wpAny (model prog w) (B.over c []) (eval elt env)
          (fun u s4 => ∀ (kk : Resume → Sem PySem.Fin) (l : List Value) (p : Pos), (∀ (M' : Model) (B' : Around) (W' : End → Shared → Prop) (s'' : Shared), Leg.Run M' B' W' c (M'.den c) [] s'' → Leg.Run M' B' W' c (kk (.send .none)) [] s'') → W (.susp u false l kk c p []) s4)
          (fun e s' => Leg.Run (model prog w) B W c ((leaving env e).bind fun _ => .raise e) [] s') s3)
          (fun e s' => Leg.Run (model prog w) B W c ((leaving env e).bind fun _ => .raise e) [] s') s2)
          (fun e s' => Leg.Run (model prog w) B W c ((leaving env e).bind fun _ => .raise e) [] s') s1)
      (fun e s' => Leg.Run (model prog w) B W c ((leaving env e).bind fun _ => .raise e) [] s') s) : Leg.Run (model prog w) B W c ((model prog w).den c) [] s := by
  subst hc
  show Leg.Run _ _ _ _ ((compTurn (.GeneratorExp elt [⟨tg, iter, [], 0⟩] scope pos) 0 (.ref it) .none env).onRaise (leaving env)) [] s
  rw [compTurn_gen, Sem.onRaise_eq_wrap, Sem.bind_eq_wrap', Sem.wrap_wrap]
  refine Leg.wrap (wpAny_standAt ?_)
  show Leg.Run _ _ _ _ (Sem.wrap _ _ _ _ (_ >>= _)) _ s
  rw [Sem.bind_eq_wrap', Sem.wrap_wrap]
  refine Leg.wrap (wpAny_mono h (fun r s1 z => ?_) fun e s' z => z)
  cases r with
  | none => exact Leg.over_ (.ok .next) z
  | some v =>
    show Leg.Run _ _ _ _ (Sem.wrap _ _ _ _ (letOwnedTupleGo tg (.ref it) v >>= _)) _ s1
    rw [Sem.bind_eq_wrap', Sem.wrap_wrap]
    refine Leg.wrap (wpAny_mono z (fun _ s2 z => ?_) fun e s' z => z)
    show Leg.Run _ _ _ _ (Sem.wrap _ _ _ _ (assign tg env v >>= _)) _ s2
    rw [Sem.bind_eq_wrap', Sem.wrap_wrap]
    refine Leg.wrap (wpAny_mono z (fun _ s3 z => ?_) fun e s' z => z)
    simp only [List.forIn_nil]
    have hy : ∀ v, yieldOut env v = yieldValue v := fun v => by simp only [yieldOut, hco, Bool.false_eq_true, if_false]
    simp only [hy]
    show Leg.Run _ _ _ _ (Sem.wrap _ _ _ _ ((eval elt env >>= _) >>= _)) _ s3
    rw [Sem.bind_eq_wrap', Sem.bind_eq_wrap', Sem.wrap_wrap, Sem.wrap_wrap]
    refine Leg.wrap (wpAny_mono z (fun u s4 z => ?_) fun e s' z => z)
    refine Leg.stand (Leg.gives rfl fun p => z _ _ _ fun M' B' W' s'' q => ?_)
    exact Leg.once rfl q
/-- its first leg begins -/
theorem lc_start {c : Code} (hc : c = .compStart (.GeneratorExp elt [⟨tg, iter, [], 0⟩] scope pos) 0 (.ref it) .none env)
    (self : ∀ (A : Around) (Q : Value → Shared → Prop) (E : Value → Shared → Prop), Q (.ref it) s → wpAny (model prog w) A (pyIter (.ref it)) Q E s)
    (h : Leg.Run (model prog w) B W (.compLoop (.GeneratorExp elt [⟨tg, iter, [], 0⟩] scope pos) 0 (.ref it) .none env) ((model prog w).den (.compLoop (.GeneratorExp elt [⟨tg, iter, [], 0⟩] scope pos) 0 (.ref it) .none env)) [] s) :
    Leg.Run (model prog w) B W c ((model prog w).den c) [] s := by
  subst hc
  show Leg.Run _ _ _ _ ((compStart (.GeneratorExp elt [⟨tg, iter, [], 0⟩] scope pos) 0 (.ref it) .none env).onRaise (leaving env)) [] s
  unfold compStart
  rw [Sem.onRaise_eq_wrap]
  show Leg.Run _ _ _ _ ((ask >>= _).wrap _ _ _ _) [] s
  rw [Sem.bind_eq_wrap', Sem.wrap_wrap]
  refine Leg.wrap (wpAny_askSetting ?_)
  split
  · exact Leg.once rfl h
  · show Leg.Run _ _ _ _ ((rule _ >>= _).wrap _ _ _ _) [] s
    rw [Sem.bind_eq_wrap', Sem.wrap_wrap]
    refine Leg.wrap (wpAny_rule ?_)
    show Leg.Run _ _ _ _ ((standAt iter.pos >>= _).wrap _ _ _ _) [] s
    rw [Sem.bind_eq_wrap', Sem.wrap_wrap]
    refine Leg.wrap (wpAny_standAt ?_)
    show Leg.Run _ _ _ _ ((pyIter (.ref it) >>= _).wrap _ _ _ _) [] s
    rw [Sem.bind_eq_wrap', Sem.wrap_wrap]
    refine Leg.wrap (self _ _ _ ?_)
    exact Leg.once rfl h
end
end Zg
end
section
set_option maxHeartbeats 2000000
/-! A sleeping generator: what it still hands out, whatever its consumer does in between. -/
namespace Zg
open PySem PySem.Spec PyProof.Rows L2 GenW
structure GX where
  prog : Program
  w : World
  K : PySem.W.Frag
  mg : Str → Option Value
  base : Heap
  k : Nat
  tb : Hp → Prop
/-- things that no one changes (no tables) -/
def FactsOk (T : List (Addr × HO)) (H : Hp) : Prop := ∀ f ∈ T, H f.1 = some f.2 ∧ ∀ ps, f.2 ≠ .tbl ps
/-- from the heap ahead: the item and the heap behind -/
abbrev YSpec := Hp → V → Hp → Prop
structure PinsOk (G : GX) (outer : List Env) (pins : List (Addr × Obj)) (s : Shared) (H : Hp) : Prop where
  at_ : ∀ p ∈ pins, s.heap.get? p.1 = some p.2 ∧ H p.1 = none ∧ p.1 ∉ frs outer ∧ G.base.get? p.1 = none
  nc : ∀ p ∈ pins, ∀ v, p.2.data ≠ .cell v
structure LegPre (G : GX) (B : Around) (outer : List Env) (T : List (Addr × HO)) (pins : List (Addr × Obj)) (s : Shared) (H : Hp) : Prop where
  room : Room G.k B
  e0 : Env0 G.prog G.w G.K G.mg G.base B outer s H
  pins : PinsOk G outer pins s H
  facts : FactsOk T H
  tb : G.tb H
/-- what a leg has left -/
structure Went (G : GX) (outer : List Env) (own : List Addr) (s : Shared) (H : Hp) (s' : Shared) (H' : Hp) : Prop where
  os : s'.os = s.os
  bare : AllBare s'.gens
  un : Un (frs outer) own H H' s.heap s'.heap
  hok : HOk G.prog G.w H' s'.heap
  bsz : G.base.objs.size ≤ s'.heap.objs.size
  tb : G.tb H'
def Asleep (G : GX) : List YSpec → List (Addr × HO) → List (Addr × Obj) → GenState → Prop
  | [], T, pins, gs => ∀ (B : Around) (outer : List Env) (s : Shared) (H : Hp), LegPre G B outer T pins s H →
      Leg.Woke (model G.prog G.w) B (fun e s' => (e = .ret (.ok (.ret .none)) ∨ e = .ret (.ok .next)) ∧ Went G outer (pins.map (·.1)) s H s' H) gs s
  | Y :: Ys, T, pins, gs => ∀ (B : Around) (outer : List Env) (s : Shared) (H : Hp), LegPre G B outer T pins s H →
      Leg.Woke (model G.prog G.w) B (fun e s' => ∃ (v : V) (H' : Hp) (T' : List (Addr × HO)) (pins' : List (Addr × Obj)) (u : Value) (l : List Value) (k : Resume → Sem PySem.Fin) (c : Code) (p : Pos) (fs : List Frame), e = .susp u false l k c p fs ∧ e.quiet = true ∧ RelV v u ∧ Y H v H' ∧
        Went G outer (pins.map (·.1)) s H s' H' ∧ PinsOk G outer pins' s' H' ∧ (∀ p ∈ pins', p.1 ∈ pins.map (·.1) ∨ (s.heap.get? p.1 = none ∧ ∀ b ∈ frs outer, b < p.1)) ∧ FactsOk T' H' ∧ Asleep G Ys T' pins' e.genState) gs s
theorem env0_run {G : GX} {A : Around} {outer : List Env} {s : Shared} {H : Hp} {g : Nat} (e : Env0 G.prog G.w G.K G.mg G.base A outer s H) : Env0 G.prog G.w G.K G.mg G.base A outer (s.setGen g .running) H :=
  ⟨e.frames, e.mod, e.bs, e.bsz, e.funs, e.frf, e.hok, allBare_setGen e.bare rfl⟩
section
variable {G : GX} {A : Around} {outer : List Env} {T : List (Addr × HO)} {pins : List (Addr × Obj)} {s : Shared} {H : Hp} {a : Addr} {g : Nat} {gs : GenState} {Q : Option Value → Shared → Prop} {E : Value → Shared → Prop}
theorem LegPre.run (L : LegPre G A outer T pins s H) : LegPre G A outer T pins (s.setGen g .running) H := ⟨L.room, env0_run L.e0, ⟨L.pins.at_, L.pins.nc⟩, L.facts, L.tb⟩
theorem LegPre.in1 (L : LegPre G A outer T pins s H) {k : Nat} (h : Room G.k A.in1) : LegPre G A.in1 outer T pins s H := ⟨h, L.e0.in1, L.pins, L.facts, L.tb⟩
theorem isGen_kept {own : List Addr} {s' : Shared} {H' : Hp} (hg : s.heap.IsGen a g) (W : Went G outer own s H s' H') (h1 : H a = none) (h2 : a ∉ frs outer) (h3 : a ∉ own) : s'.heap.IsGen a g := by
  obtain ⟨o, nm, qn, ho, r⟩ := hg
  exact ⟨o, nm, qn, W.un.keep a o ho h1 h2 h3, r⟩
theorem next_some {Y : YSpec} {Ys : List YSpec} (L : LegPre G A.in1 outer T pins s H) (hdep : A.depth < recursionLimit) (hh : A.handled = none) (hg : s.heap.IsGen a g) (hgs : s.gens[g]? = some gs) (h : Asleep G (Y :: Ys) T pins gs) (h1 : H a = none) (h2 : a ∉ frs outer) (h3 : a ∉ pins.map (·.1))
    (k : ∀ (u : Value) (v : V) (s' : Shared) (H' : Hp) (T' : List (Addr × HO)) (pins' : List (Addr × Obj)) (gs' : GenState), RelV v u → Y H v H' → Went G outer (pins.map (·.1)) s H s' H' → s'.gens[g]? = some gs' → s'.heap.IsGen a g → PinsOk G outer pins' s' H' → (∀ p ∈ pins', p.1 ∈ pins.map (·.1) ∨ (s.heap.get? p.1 = none ∧ ∀ b ∈ frs outer, b < p.1)) →
      FactsOk T' H' → Asleep G Ys T' pins' gs' → Frz.cold (some gs') = true → Q (some u) s') : wpAny (model G.prog G.w) A (pyNext (.ref a)) Q E s := by
  have hl : s.heap.NoLimit := L.e0.mod.nolimit.keeps fun b o e => (L.e0.bs b o e).1
  have hlt : g < s.gens.size := (Array.getElem?_eq_some_iff.mp hgs).1
  refine wpAny_gsz (n := g + 1) hlt ?_
  refine Leg.next_of hh hl hdep hg hgs ?_
  have z := h A.in1 outer (s.setGen g .running) H L.run
  have imp : ∀ (e : End) (s1 : Shared), (∃ (v : V) (H' : Hp) (T' : List (Addr × HO)) (pins' : List (Addr × Obj)) (u : Value) (l : List Value) (k : Resume → Sem PySem.Fin) (c : Code) (p : Pos) (fs : List Frame), e = .susp u false l k c p fs ∧ e.quiet = true ∧ RelV v u ∧ Y H v H' ∧
        Went G outer (pins.map (·.1)) (s.setGen g .running) H s1 H' ∧ PinsOk G outer pins' s1 H' ∧ (∀ p ∈ pins', p.1 ∈ pins.map (·.1) ∨ ((s.setGen g .running).heap.get? p.1 = none ∧ ∀ b ∈ frs outer, b < p.1)) ∧ FactsOk T' H' ∧ Asleep G Ys T' pins' e.genState) →
      Leg.Ends G.prog G.w a g (fun a_1 s' => g + 1 ≤ s'.gens.size → Q a_1 s') (fun e s' => g + 1 ≤ s'.gens.size → E e s') e s1 := by
    rintro e s1 ⟨v, H', T', pins', u, l, kk, c, p, fs, rfl, q, r, y, Wn, po, fr, tf, sl⟩
    refine ⟨q, fun hsz => ?_⟩
    have hsz1 : g < s1.gens.size := by
      have e : (s1.setGen g (End.susp u false l kk c p fs).genState).gens.size = s1.gens.size := setGen_size _ _ _
      have hsz' : g + 1 ≤ (s1.setGen g (End.susp u false l kk c p fs).genState).gens.size := hsz
      omega
    have hb : AllBare (s1.setGen g (End.susp u false l kk c p fs).genState).gens := allBare_setGen Wn.bare (End.bare_of_quiet q)
    exact k u v _ H' T' pins' _ r y ⟨Wn.os, hb, Wn.un, Wn.hok, Wn.bsz, Wn.tb⟩ (setGen_at hsz1) (isGen_kept (s := s) hg ⟨Wn.os, hb, Wn.un, Wn.hok, Wn.bsz, Wn.tb⟩ h1 h2 h3) ⟨po.at_, po.nc⟩ fr tf sl rfl
  cases gs with
  | fresh c => exact Leg.imp z imp
  | suspended kk l c p fs cl => exact Leg.imp z imp
  | running => exact z.elim
  | finished => exact z.elim
theorem next_none (L : LegPre G A.in1 outer T pins s H) (hdep : A.depth < recursionLimit) (hh : A.handled = none) (hg : s.heap.IsGen a g) (hgs : s.gens[g]? = some gs) (h : Asleep G [] T pins gs)
    (k : ∀ (s' : Shared), Went G outer (pins.map (·.1)) s H s' H → Q none s') : wpAny (model G.prog G.w) A (pyNext (.ref a)) Q E s := by
  have hl : s.heap.NoLimit := L.e0.mod.nolimit.keeps fun b o e => (L.e0.bs b o e).1
  refine Leg.next_of hh hl hdep hg hgs ?_
  have z := h A.in1 outer (s.setGen g .running) H L.run
  have imp : ∀ (e : End) (s1 : Shared), ((e = .ret (.ok (.ret .none)) ∨ e = .ret (.ok .next)) ∧ Went G outer (pins.map (·.1)) (s.setGen g .running) H s1 H) → Leg.Ends G.prog G.w a g Q E e s1 := by
    rintro e s1 ⟨he, Wn⟩
    have fin : ∀ h', (∀ b o, s1.heap.get? b = some o → h'.get? b = some o) → s1.heap.objs.size ≤ h'.objs.size → Q none { s1.setGen g .finished with heap := h' } := fun h' hk hz => by
      refine k _ ⟨Wn.os, allBare_setGen Wn.bare rfl, Wn.un.trans (Un.kept hk), Wn.hok.kept hk, Nat.le_trans Wn.bsz hz, Wn.tb⟩
    rcases he with rfl | rfl
    · exact ⟨.inl rfl, fin⟩
    · exact ⟨.inr rfl, fin⟩
  cases gs with
  | fresh c => exact Leg.imp z imp
  | suspended kk l c p fs cl => exact Leg.imp z imp
  | running => exact z.elim
  | finished => exact z.elim
end
end Zg
end
section
set_option maxHeartbeats 2000000
/-! Consumers: the state between two items; sum of a generator. -/
namespace Zg
open PySem PySem.Spec PyProof.Rows L2 GenW
structure Sat (G : GX) (outer : List Env) (s0 : Shared) (H0 : Hp) (s : Shared) (H : Hp) : Prop where
  os : s.os = s0.os
  bare : AllBare s.gens
  un : Un (frs outer) [] H0 H s0.heap s.heap
  hok : HOk G.prog G.w H s.heap
  bsz : G.base.objs.size ≤ s.heap.objs.size
  tb : G.tb H
section
variable {G : GX} {A : Around} {outer : List Env} {s0 s s' : Shared} {H0 H H' : Hp}
theorem Sat.refl (e : Env0 G.prog G.w G.K G.mg G.base A outer s H) (t : G.tb H) : Sat G outer s H s H := ⟨rfl, e.bare, Un.kept fun _ _ q => q, e.hok, e.bsz, t⟩
theorem Sat.env0 (S : Sat G outer s0 H0 s H) (e : Env0 G.prog G.w G.K G.mg G.base A outer s0 H0) : Env0 G.prog G.w G.K G.mg G.base A outer s H :=
  env0_step (ch := []) e S.un S.hok S.bare S.bsz fun b hb => by cases hb
/-- an address that was free is nobody's -/
theorem Sat.went {own : List Addr} (S : Sat G outer s0 H0 s H) (W : Went G outer own s H s' H') (hf : ∀ b ∈ own, s0.heap.get? b = none) : Sat G outer s0 H0 s' H' :=
  ⟨W.os.trans S.os, W.bare, un_comp S.un W.un (fun b hb => .inl hb) fun b hb => .inr (hf b hb), W.hok, W.bsz, W.tb⟩
theorem Sat.poke {h' : Heap} {t' : Nat} {S0 : Addr} (S : Sat G outer s0 H0 s H) (hf : s0.heap.get? S0 = none) (hn : H S0 = none) (k : ∀ b o, b ≠ S0 → s.heap.get? b = some o → h'.get? b = some o) (z : s.heap.objs.size ≤ h'.objs.size) : Sat G outer s0 H0 { s with heap := h', toks := t' } H := by
  have nS : ∀ b u, H b = some u → b ≠ S0 := fun b u e q => by rw [q, hn] at e; cases e
  refine ⟨S.os, S.bare, un_comp (ch := [S0]) (fs := []) S.un ⟨fun b o e n _ hx => k b o (fun q => hx (by simp [q])) e, fun b o e n hb _ => (nomatch hb), fun b o e n _ => n, fun b o e hx => ⟨o, k b o (fun q => hx (by simp [q])) e⟩, fun _ _ e => e, fun _ _ _ e => e, fun b ps e => ⟨#[], by rw [e]; simp⟩⟩ (fun b hb => (nomatch hb)) (fun b hb => ?_), fun b u e => ?_, Nat.le_trans S.bsz z, S.tb⟩
  · have e : b = S0 := by simpa using hb
    exact .inr (by rw [e]; exact hf)
  · refine (S.hok b u e).stay (fun c v hc q => k c v ?_ q) (fun _ q => q) fun _ _ q => q
    rcases hc with z | z
    · rw [z]; exact nS b u e
    · exact nS c _ z
theorem Sat.grow {h' : Heap} {t' : Nat} (S : Sat G outer s0 H0 s H) (k : ∀ b o, s.heap.get? b = some o → h'.get? b = some o) (z : s.heap.objs.size ≤ h'.objs.size) : Sat G outer s0 H0 { s with heap := h', toks := t' } H :=
  ⟨S.os, S.bare, S.un.trans (Un.kept k), S.hok.kept k, Nat.le_trans S.bsz z, S.tb⟩
theorem Sat.toks {t' : Nat} (S : Sat G outer s0 H0 s H) : Sat G outer s0 H0 { s with toks := t' } H := S.grow (fun _ _ e => e) (Nat.le_refl _)
theorem Sat.free {b : Addr} (S : Sat G outer s0 H0 s H) (hb : s.heap.objs.size ≤ b) : s0.heap.get? b = none := by
  cases e : s0.heap.get? b with
  | none => rfl
  | some o =>
    obtain ⟨o', e'⟩ := S.un.there b o e (fun z => nomatch z)
    exact absurd (Nat.lt_of_lt_of_le (Heap.lt_size e') hb) (Nat.lt_irrefl _)
end
abbrev smO (v : Value) (c : Nat) : Obj := { cls := .type "list", dict := none, data := .seq #[v] c, slots := #[] }
abbrev smC (a S : Addr) (st : Int) : Code := .builtin "sum.loop" ⟨[.ref a, .ref S, rawInt st, rawInt 0], []⟩
/-- what the consumer holds of the generator at a -/
structure Held (G : GX) (outer : List Env) (s0 : Shared) (T : List (Addr × HO)) (pins : List (Addr × Obj)) (a : Addr) (g : Nat) (gs : GenState) (s : Shared) (H : Hp) : Prop where
  gen : s.heap.IsGen a g
  at_ : s.gens[g]? = some gs
  pok : PinsOk G outer pins s H
  free : ∀ p ∈ pins, s0.heap.get? p.1 = none
  facts : FactsOk T H
  aH : H a = none
  aO : a ∉ frs outer
  aP : a ∉ pins.map (·.1)
section
variable {G : GX} {A : Around} {outer : List Env} {s0 s : Shared} {H0 H : Hp} {T : List (Addr × HO)} {pins : List (Addr × Obj)} {a S : Addr} {g : Nat} {gs : GenState}
theorem Held.poke {h' : Heap} {t' : Nat} (h : Held G outer s0 T pins a g gs s H) (k : ∀ b o, b ≠ S → s.heap.get? b = some o → h'.get? b = some o) (ha : a ≠ S) (hp : ∀ p ∈ pins, p.1 ≠ S) : Held G outer s0 T pins a g gs { s with heap := h', toks := t' } H := by
  obtain ⟨o, nm, qn, ho, r⟩ := h.gen
  exact ⟨⟨o, nm, qn, k a o ha ho, r⟩, h.at_, ⟨fun p hp' => let ⟨e1, e2⟩ := h.pok.at_ p hp'; ⟨k _ _ (hp p hp') e1, e2⟩, h.pok.nc⟩, h.free, h.facts, h.aH, h.aO, h.aP⟩
def Yint (n : Int) : YSpec := fun H v H' => v = .int n ∧ H' = H
theorem sum_loop {R : Result → Shared → Prop} (e0 : Env0 G.prog G.w G.K G.mg G.base A outer s0 H0) (hr : Room (G.k + 3) A) (hSH : H S = none) (hS0 : s0.heap.get? S = none) (hSO : S ∉ frs outer) (haS : a ≠ S) :
    ∀ (ns : List Int) (s : Shared) (T : List (Addr × HO)) (pins : List (Addr × Obj)) (gs : GenState) (tot : Int) (t : Tok) (c : Nat) (st : Int), (st = 0 ∨ st = 2) → Sat G outer s0 H0 s H → Held G outer s0 T pins a g gs s H → (∀ p ∈ pins, p.1 ≠ S) → Asleep G (ns.map Yint) T pins gs →
      s.heap.get? S = some (smO (.int tot t) c) → (∀ s' t', Sat G outer s0 H0 s' H → R (.ok (.ret (.int (tot + ns.sum) t'))) s') → codeAny (model G.prog G.w) A (smC a S st) R s := by
  have hr1 : Room (G.k + 2) A.in1 := hr.in1
  have hr2 : Room (G.k + 1) A.in1.in1 := hr1.in1
  have hr3 : Room G.k A.in1.in1 := hr2.mono (Nat.le_succ _)
  have pre : ∀ {s : Shared} {T : List (Addr × HO)} {pins : List (Addr × Obj)} {gs : GenState}, Sat G outer s0 H0 s H → Held G outer s0 T pins a g gs s H → LegPre G A.in1.in1 outer T pins s H := fun S1 h1 =>
    ⟨hr3, (S1.env0 e0).in1.in1, h1.pok, h1.facts, S1.tb⟩
  intro ns
  induction ns with
  | nil =>
    intro s T pins gs tot t c st hst2 Sa h hp sl hS hR
    refine codeAny_builtin F.entry_sum_loop ?_
    rw [Around.under_plainId F.plain_sum_loop _]
    show wpAny _ A.in1 (seqItems? (.ref S) >>= _) _ _ s
    refine wpAny_bind (wpAny_seqItems hS rfl ?_)
    show wpAny _ A.in1 (tryCatch (pyNext (.ref a)) _ >>= _) _ _ s
    refine wpAny_bind (wpAny_tryCatch (next_none (pre Sa h) hr1.depth hr1.hd h.gen h.at_ sl fun s1 W => ?_))
    have z := hR s1 t (Sa.went W fun b hb => by
      obtain ⟨p, hp', rfl⟩ := List.mem_map.mp hb
      exact h.free p hp')
    rw [List.sum_nil, Int.add_zero] at z
    exact wpAny_pure z
  | cons n ns ih =>
    intro s T pins gs tot t c st hst2 Sa h hp sl hS hR
    refine codeAny_builtin F.entry_sum_loop ?_
    rw [Around.under_plainId F.plain_sum_loop _]
    show wpAny _ A.in1 (seqItems? (.ref S) >>= _) _ _ s
    refine wpAny_bind (wpAny_seqItems hS rfl ?_)
    show wpAny _ A.in1 (tryCatch (pyNext (.ref a)) _ >>= _) _ _ s
    refine wpAny_bind (wpAny_tryCatch (next_some (pre Sa h) hr1.depth hr1.hd h.gen h.at_ sl h.aH h.aO h.aP fun u v s1 H1 T1 pins1 gs1 ru y W hg1 hgen1 po1 fr1 tf1 sl1 _ => ?_))
    obtain ⟨rfl, rfl⟩ := y
    obtain ⟨tn, rfl⟩ := ru
    have fpins : ∀ b ∈ pins.map (·.1), s0.heap.get? b = none := fun b hb => by
      obtain ⟨p, hp', rfl⟩ := List.mem_map.mp hb
      exact h.free p hp'
    have Sa1 : Sat G outer s0 H0 s1 H1 := Sa.went W fpins
    have hS1 : s1.heap.get? S = some (smO (.int tot t) c) := W.un.keep S _ hS hSH hSO fun hb => by
      obtain ⟨p, hp', e⟩ := List.mem_map.mp hb
      exact hp p hp' e
    have agets : ∃ o, s.heap.get? a = some o := let ⟨o, _, _, ho, _⟩ := h.gen; ⟨o, ho⟩
    have h1 : Held G outer s0 T1 pins1 a g gs1 s1 H1 := by
      refine ⟨hgen1, hg1, po1, fun p hp' => ?_, tf1, h.aH, h.aO, fun hb => ?_⟩
      · rcases fr1 p hp' with q | q
        · exact fpins _ q
        · cases e : s0.heap.get? p.1 with
          | none => rfl
          | some o =>
            obtain ⟨o', e'⟩ := Sa.un.there _ o e (fun z => nomatch z)
            rw [q.1] at e'
            cases e'
      · obtain ⟨p, hp', e⟩ := List.mem_map.mp hb
        rcases fr1 p hp' with q | q
        · rw [e] at q; exact h.aP q
        · obtain ⟨o, ho⟩ := agets
          have q := q.1
          rw [e, ho] at q
          cases q
    have hp1 : ∀ p ∈ pins1, p.1 ≠ S := fun p hp' e => by
      rcases fr1 p hp' with q | q
      · obtain ⟨p2, hp2, e2⟩ := List.mem_map.mp q
        exact hp p2 hp2 (e2.trans e)
      · have q := q.1
        rw [e, hS] at q
        cases q
    have pk : ∀ {hh : Heap} {f : Obj → Obj}, ∀ b o, b ≠ S → hh.get? b = some o → (hh.update S f).get? b = some o := fun b o hb e => (Heap.get?_update_other _ _ (Ne.symm hb)).trans e
    have psz : ∀ {hh : Heap} {f : Obj → Obj}, hh.objs.size ≤ (hh.update S f).objs.size := fun {hh f} => Nat.le_of_eq (Heap.SameBut.update ..).1.symm
    have hR' : ∀ s' t', Sat G outer s0 H0 s' H1 → R (.ok (.ret (.int (tot + n + ns.sum) t'))) s' := fun s' t' q => by
      have z := hR s' t' q
      rw [List.sum_cons, ← Int.add_assoc] at z
      exact z
    rcases hst2 with rfl | rfl
    · show wpAny _ A.in1 (if (_ : Bool) = true then (mkInt (tot + n) >>= _) else _) _ _ _
      split
      · refine wpAny_bind (wpAny_mkInt ?_)
        show wpAny _ A.in1 (updateSeq S (fun _ => #[.int (tot + n) s1.toks]) >>= _) _ _ _
        refine wpAny_bind ?_
        refine wpAny_updateSeq hS1 rfl (wpAny_pure ⟨plainId_quiet F.plain_sum_loop _, ih _ T1 pins1 gs1 (tot + n) s1.toks c 0 (.inl rfl) (Sa1.toks.poke hS0 hSH pk psz) (h1.poke (t' := s1.toks + 1) pk haS hp1) hp1 sl1 (Heap.get?_update_self _ hS1 rfl) hR'⟩)
      · refine wpAny_bind (wpAny_rule ?_)
        refine wpAny_bind (wpAny_attempt (wpAny_holding (wpAny_add_int ?_)))
        show wpAny _ A.in1 (updateSeq S (fun _ => #[.int (tot + n) s1.toks]) >>= _) _ _ _
        refine wpAny_bind (wpAny_updateSeq hS1 rfl ?_)
        have hS2 := Heap.get?_update_self (Obj.mapSeq fun _ => #[Value.int (tot + n) s1.toks]) hS1 rfl
        refine wpAny_bind (wpAny_letGo ?_)
        refine wpAny_bind (wpAny_updateSeq hS2 rfl (wpAny_pure ⟨plainId_quiet F.plain_sum_loop _, ih _ T1 pins1 gs1 (tot + n) s1.toks c 2 (.inr rfl) ((Sa1.toks.poke (t' := s1.toks + 1) hS0 hSH pk psz).poke hS0 hSH pk psz) ((h1.poke (t' := s1.toks + 1) pk haS hp1).poke (t' := s1.toks + 1) pk haS hp1) hp1 sl1 (Heap.get?_update_self _ hS2 rfl) hR'⟩))
    · show wpAny _ A.in1 ((holding [Value.int n tn] (binaryOp .Add (.int tot t) (.int n tn))).attempt >>= _) _ _ _
      refine wpAny_bind (wpAny_attempt (wpAny_holding (wpAny_add_int ?_)))
      show wpAny _ A.in1 (updateSeq S (fun _ => #[.int (tot + n) s1.toks]) >>= _) _ _ _
      refine wpAny_bind (wpAny_updateSeq hS1 rfl ?_)
      have hS2 := Heap.get?_update_self (Obj.mapSeq fun _ => #[Value.int (tot + n) s1.toks]) hS1 rfl
      refine wpAny_bind (wpAny_letGo ?_)
      refine wpAny_bind (wpAny_updateSeq hS2 rfl (wpAny_pure ⟨plainId_quiet F.plain_sum_loop _, ih _ T1 pins1 gs1 (tot + n) s1.toks c 2 (.inr rfl) ((Sa1.toks.poke (t' := s1.toks + 1) hS0 hSH pk psz).poke hS0 hSH pk psz) ((h1.poke (t' := s1.toks + 1) pk haS hp1).poke (t' := s1.toks + 1) pk haS hp1) hp1 sl1 (Heap.get?_update_self _ hS2 rfl) hR'⟩))
/-- sum(g) -/
theorem call_sum_go {E : Value → Shared → Prop} {Q : Value → Shared → Prop} {ns : List Int} (e0 : Env0 G.prog G.w G.K G.mg G.base A outer s0 H0) (hr : Room (G.k + 3) A) (Sa : Sat G outer s0 H0 s H) (h : Held G outer s0 T pins a g gs s H) (sl : Asleep G (ns.map Yint) T pins gs)
    (hQ : ∀ s' t', Sat G outer s0 H0 s' H → Q (.int ns.sum t') s') : wpAny (model G.prog G.w) A (call (.builtin "sum") [.ref a]) Q E s := by
  refine call_function_tree F.kind_sum F.plain_sum F.entry_sum (F.args_sum1 _) ?_
  unfold Builtin.«sum»
  simp only [List.length_cons, List.length_nil]
  rw [if_neg (by decide)]
  refine wpAny_bind (wpAny_of_eq (show Builtin.Builtins.bindParams "sum" ["start"] 0 { } = pure [none] from rfl) ?_)
  refine wpAny_bind (wpAny_pyIter_gen h.gen ?_)
  refine wpAny_bind (wpAny_mkInt ?_)
  refine wpAny_bind (wpAny_pure ?_)
  simp only [List.forIn_cons, List.forIn_nil]
  refine wpAny_bind (wpAny_bind (wpAny_bind (wpAny_isInstance (T := "int") (b := false) (typeIs_int _ _ _) PySem.sub_int_str ?_)))
  simp only [Bool.false_eq_true, if_false]
  refine wpAny_pure (wpAny_bind (wpAny_bind (wpAny_isInstance (T := "int") (b := false) (typeIs_int _ _ _) PySem.sub_int_bytes ?_)))
  simp only [Bool.false_eq_true, if_false]
  refine wpAny_pure (wpAny_bind (wpAny_bind (wpAny_isInstance (T := "int") (b := false) (typeIs_int _ _ _) PySem.sub_int_bytearray ?_)))
  simp only [Bool.false_eq_true, if_false]
  refine wpAny_pure (wpAny_pure ?_)
  refine wpAny_bind (wpAny_newObj_type ?_)
  have hfree := Sa.free (Nat.le_refl s.heap.objs.size)
  have nS : ∀ b o, s.heap.get? b = some o → b ≠ s.heap.objs.size := fun b o e => Nat.ne_of_lt (Heap.lt_size e)
  have hSO : s.heap.objs.size ∉ frs outer := fun hb => by
    obtain ⟨_, o, ho, _⟩ := (Sa.env0 e0).funs.mem hb
    exact nS _ o ho rfl
  have haS : a ≠ s.heap.objs.size := let ⟨o, _, _, ho, _⟩ := h.gen; nS a o ho
  have hpS : ∀ p ∈ pins, p.1 ≠ s.heap.objs.size := fun p hp => nS _ _ (h.pok.at_ p hp).1
  refine wpAny_pure ⟨plainId_quiet F.plain_sum_loop _, ?_⟩
  refine sum_loop (S := s.heap.objs.size) (g := g) e0 hr (Sa.hok.fresh (Nat.le_refl _)) hfree hSO haS ns _ T pins gs 0 s.toks 0 0 (.inl rfl) (Sa.grow (fun b o e => Heap.get?_push_of_some _ e) (by rw [Heap.size_push]; exact Nat.le_succ _)) (h.poke (S := s.heap.objs.size) (fun b o _ e => Heap.get?_push_of_some _ e) haS hpS) hpS sl (Heap.get?_push_size _ rfl) fun s' t' q => ?_
  rw [Int.zero_add]
  exact hQ s' t' q
end
end Zg
end
section
set_option maxHeartbeats 2000000
/-! A frame begins a leg; a generator expression is made. -/
namespace Zg
open PySem PySem.Spec PyProof.Rows L2 GenW
/-- the frame's object o at L holds the names' values -/
def FrameAt (N : List Str) (L : Addr) (o : Obj) (σ : L2.St) : Prop := ∀ h : Heap, h.get? L = some o → ∃ m, h.Ns L m ∧ ∀ (i : Nat) (x : Str) (v : V), N[i]? = some x → σ[i]? = some (some v) → ∃ u, RelV v u ∧ m x = some u
structure EnvOk (G : GX) (env : Env) (N : List Str) : Prop where
  kind : env.scope.kind = .function
  glob : env.globals = mainGlobals
  blt : env.builtins = builtinsNs
  fr : env.frame = some env.locals
  nd : N.Nodup
  nl : ∀ (i : Nat) (x : Str), N[i]? = some x → env.kindOf x = some .local
  bl : G.base.objs.size ≤ env.locals
abbrev zOf (G : GX) (A : Around) (env : Env) (outer : List Env) (N : List Str) (pins : List (Addr × Obj)) (s : Shared) (H : Hp) (k : Nat) : Zx := ⟨G.prog, G.w, G.K, G.mg, G.base, A, env, outer, N, pins.map (·.1), s, H, k⟩
section
variable {G : GX} {A B : Around} {env : Env} {outer : List Env} {N : List Str} {T : List (Addr × HO)} {pins : List (Addr × Obj)} {σ : L2.St} {s s' : Shared} {H H' : Hp} {k : Nat}
theorem zinv_begin {oC : Obj} (L : LegPre G B outer T pins s H) (eo : EnvOk G env N) (ha : A.frames = some (env :: outer)) (hr : Room k A) (hC : (env.locals, oC) ∈ pins) (hf : FrameAt N env.locals oC σ) (hl : σ.length = N.length) : ZInv (zOf G A env outer N pins s H k) [] σ H s := by
  have mem : ∀ b ∈ pins.map (·.1), ∃ o, (b, o) ∈ pins := fun b hb => by
    obtain ⟨p, hp, rfl⟩ := List.mem_map.mp hb
    exact ⟨p.2, hp⟩
  obtain ⟨c1, c2, c3, c4⟩ := L.pins.at_ _ hC
  refine ⟨⟨eo.kind, eo.glob, eo.blt, eo.fr, hr, eo.nd, eo.nl, eo.bl, List.mem_map.mpr ⟨_, hC, rfl⟩, fun b hb => ?_, fun b hb => ?_⟩, ⟨ha, L.e0.mod, L.e0.bs, L.e0.bsz, ?_, fun b hb => ?_, L.e0.hok, L.e0.bare⟩, rfl, Un.kept fun _ _ e => e, hf _ c1, fun p hp => (nomatch hp), fun b hb => ?_, hl⟩
  · obtain ⟨o, ho⟩ := mem b hb
    exact (L.pins.at_ _ ho).2.2.2
  · obtain ⟨o, ho⟩ := mem b hb
    exact (L.pins.at_ _ ho).2.2.1
  · obtain ⟨m, hn, _⟩ := hf _ c1
    have hk : env.scope.kind ≠ .module := by rw [eo.kind]; decide
    exact .cons hk eo.fr hn c4 L.e0.funs
  · have e : frs (env :: outer) = env.locals :: frs outer := frs_cons eo.fr
    rw [e] at hb
    rcases List.mem_cons.mp hb with z | z
    · rw [z]; exact c2
    · exact L.e0.frf b z
  · obtain ⟨o, ho⟩ := mem b hb
    obtain ⟨e1, e2, _⟩ := L.pins.at_ _ ho
    exact ⟨e2, o, e1⟩
theorem zinv_went {ps : List (Addr × Obj)} (I : ZInv (zOf G A env outer N pins s H k) ps σ H' s') (t : G.tb H') : Went G outer (pins.map (·.1)) s H s' H' := ⟨I.os, I.e0.bare, I.un, I.e0.hok, I.e0.bsz, t⟩
/-- the frame as it stands at a leg's end -/
theorem zinv_frame {ps : List (Addr × Obj)} (I : ZInv (zOf G A env outer N pins s H k) ps σ H' s') : ∃ o, s'.heap.get? env.locals = some o ∧ FrameAt N env.locals o σ := by
  obtain ⟨m, hn, hl⟩ := I.loc
  obtain ⟨o, es, ep, ho, r⟩ := id hn
  refine ⟨o, ho, fun h e => ⟨m, ⟨o, es, ep, e, r⟩, hl⟩⟩
end
theorem frame_nc {N : List Str} {L : Addr} {o : Obj} {σ : L2.St} {h : Heap} (e : h.get? L = some o) (f : FrameAt N L o σ) : ∀ v, o.data ≠ .cell v := fun v q => by
  obtain ⟨m, ⟨o', es, ep, e', d, _⟩, _⟩ := f h e
  rw [e] at e'
  cases e'
  rw [d] at q
  cases q
section
variable {X : Cx} {pins : List (Addr × Obj)} {σ : L2.St} {s : Shared} {elt tg iter : Expr} {scope : Scope} {gpos : Pos} {c P : Addr} {k : Nat}
structure GScp (scope : Scope) : Prop where
  kind : scope.kind = .function
  co : scope.isCoroutine = false
  cell : ∀ y ∈ scope.names, y.2 ≠ .cell
  dot : scope.names.lookup (".0" : Str) = some NameKind.local
  nf : ∀ y ∈ scope.names, y.2 ≠ .free
/-- what the making of a generator expression leaves: its frame at C, its object at a, its number g; the table P has grown -/
structure GxMade (X : Cx) (pins : List (Addr × Obj)) (σ : L2.St) (scope : Scope) (elt tg iter : Expr) (gpos : Pos) (P : Addr) (itv : Value) (H1 : Hp) (s2 : Shared) (a : Addr) (s5 : Shared) (H2 : Hp) (C g : Nat) (code : Value) (oC : Obj) : Prop where
  tab : GxR.Tabbed P H1 H2
  ext : ∃ ps more, H1 P = some (.tbl ps) ∧ H2 = upd H1 P (.tbl (ps ++ more))
  inv : Inv X pins σ H2 s5
  keep : ∀ b o, b ≠ P → s2.heap.get? b = some o → s5.heap.get? b = some o
  un : Un (frs X.stack) [] H1 H2 s2.heap s5.heap
  sz : s2.heap.objs.size ≤ C ∧ C < a ∧ a < s5.heap.objs.size
  frm : s5.heap.get? C = some oC ∧ ∀ h : Heap, h.get? C = some oC → h.Ns C (fun y => if y = ".0" then some itv else none)
  gen : s5.heap.IsGen a g
  at_ : s5.gens[g]? = some (.fresh (.compStart (.GeneratorExp elt [⟨tg, iter, [], 0⟩] scope gpos) 0 itv .none (genEnv scope (cloFrom X.env.cells scope.names []) C code builtinsNs X.env)))
  gold : ∀ (i : Nat) (x : GenState), s2.gens[i]? = some x → s5.gens[i]? = some x
  gnew : s2.gens.size ≤ g
theorem gx_make {Q' : Value → Shared → Prop} {R : Value → Hp → Shared → Prop} (hr : Room k X.A) (TB : GxR.TabB X.base X.mg c P) (hcode : X.env.code = .ref c) (S : GScp scope)
    (hi : wpAny (model X.prog X.w) X.A (eval iter X.env) (fun xv s1 => wpAny (model X.prog X.w) X.A (pyIter xv) (fun itv s2 => ∃ H1, Inv X pins σ H1 s2 ∧ GxR.TabG H1 P ∧ R itv H1 s2) X.xe s1) X.xe s)
    (hs : ∀ v, genFold iter X.env v = pure v)
    (hQ : ∀ itv H1 s2 a s5 H2 C g code oC, R itv H1 s2 → GxMade X pins σ scope elt tg iter gpos P itv H1 s2 a s5 H2 C g code oC → Q' (.ref a) s5) :
    wpAny (model X.prog X.w) X.A (eval (.GeneratorExp elt [⟨tg, iter, [], 0⟩] scope gpos) X.env) Q' X.xe s := by
  refine wpAny_GeneratorExp_make S.co (closure_ok fun y hy e => absurd e (S.nf y hy)) S.cell S.dot S.kind (by have := hr.dp; omega) (wpAny_mono hi (fun xv s1 z => wpAny_mono z (fun itv s2 z => ?_) fun _ _ e => e) fun _ _ e => e) hs
  obtain ⟨H1, I1, ⟨ps, hP, ht⟩, hR⟩ := z
  have hPs : s2.heap.get? P = some { cls := .none, data := .fields ps } := I1.hok P _ hP
  have cd : PySem.W.CodeHd s2.heap c P := TB.code.keeps fun b u e => I1.bk b u e
  have cont : ∀ (code : Value) (h3 : Heap) (tk : Nat) (ps' : Array Value), Heap.ExtBut P s2.heap h3 → s2.heap.objs.size ≤ h3.objs.size → h3.get? P = some { cls := .none, data := .fields ps' } → (∃ more, ps' = ps ++ more) → TriplesOk ps'.toList →
      wpAny (model X.prog X.w) X.A (builtinsFor X.env.globals X.env.builtins) (fun bi s₄ =>
        ∀ h', h'.Ns s₄.heap.objs.size (fun y => if y = ".0" then some itv else none) → Heap.SameBut s₄.heap.objs.size (s₄.heap.push { cls := .type "frame", data := .dict #[] }) h' →
          Q' (.ref h'.objs.size) { s₄ with
            gens := s₄.gens.push (.fresh (.compStart (.GeneratorExp elt [⟨tg, iter, [], 0⟩] scope gpos) 0 itv .none (genEnv scope (cloFrom X.env.cells scope.names []) s₄.heap.objs.size code bi X.env))),
            toks := s₄.toks + 1 + 1 + 1,
            heap := h'.push { cls := .type "generator", data := .fields #[.int s₄.gens.size 0, .str "<genexpr>" (s₄.toks + 1), .str (X.env.qual ++ "<genexpr>") (s₄.toks + 1 + 1)] } }) X.xe { s2 with heap := h3, toks := tk } := by
    intro code h3 tk ps' hx hsz hP3 hmore ht3
    obtain ⟨bm, ob, e1, e2, e3, e4, e5, e6, e7, e8⟩ := TB.bm
    have keep3 : ∀ b u, b ≠ P → s2.heap.get? b = some u → h3.get? b = some u := fun b u hb e => hx b u hb e
    refine wpAny_builtinsFor (m := X.mg) (by rw [I1.ok.glob]; exact (I1.mod.glob.keeps I1.bk).extBut hx TB.gP) e1 e2 (keep3 _ _ e4 (I1.bk _ _ e5)) e6 e7 e8 ?_
    intro h' hn' hs'
    have hs'' : Heap.SameBut h3.objs.size (h3.push { cls := .type "frame", data := .dict #[] }) h' := hs'
    have hz' : h'.objs.size = h3.objs.size + 1 := by rw [hs''.1, Heap.size_push]
    have k3 : ∀ b o, h3.get? b = some o → h'.get? b = some o := fun b o e => hs''.extBut b o (Nat.ne_of_lt (Heap.lt_size e)) (Heap.get?_push_of_some _ e)
    generalize hgo : ({ cls := .type "generator", data := .fields #[.int s2.gens.size 0, .str "<genexpr>" (tk + 1), .str (X.env.qual ++ "<genexpr>") (tk + 1 + 1)] } : Obj) = go
    have hgp : (h'.push go).get? h'.objs.size = some go := by subst hgo; exact Heap.get?_push_size _ rfl
    have k5 : ∀ b o, b ≠ P → s2.heap.get? b = some o → (h'.push go).get? b = some o := fun b o hb e => Heap.get?_push_of_some _ (k3 b o (keep3 b o hb e))
    obtain ⟨more, em⟩ := hmore
    have hP5 : (h'.push go).get? P = some { cls := .none, data := .fields (ps ++ more) } := by
      rw [← em]
      exact Heap.get?_push_of_some _ (k3 P _ hP3)
    have J := GxR.inv_tab (more := more) (h' := h'.push go) (g' := s2.gens.push (.fresh (.compStart (.GeneratorExp elt [⟨tg, iter, [], 0⟩] scope gpos) 0 itv .none (genEnv scope (cloFrom X.env.cells scope.names []) h3.objs.size code builtinsNs X.env)))) (d' := s2.drawn) (t' := tk + 1 + 1 + 1) I1 hP k5 hP5 (I1.bare.push rfl)
    obtain ⟨oC, es, ep, hoC, rC⟩ := id hn'
    have ne : ∀ b, H1 b = none → b ≠ P := fun b e z => by rw [z, hP] at e; cases e
    have nt : ∀ b u, H1 b = some u → (∀ q, u ≠ .tbl q) → b ≠ P := fun b u e q z => by
      rw [z, hP] at e
      exact q ps (Option.some.inj e).symm
    refine hQ itv H1 s2 h'.objs.size _ (upd H1 P (.tbl (ps ++ more))) h3.objs.size s2.gens.size code oC hR ⟨⟨⟨ps ++ more, upd_same, by rw [← em]; exact ht3⟩, fun b hb => upd_ne hb⟩, ⟨ps, more, hP, rfl⟩, J, k5, ⟨fun b o e n _ _ => k5 b o (ne b n) e, fun b o e n _ _ => ⟨o.slots, k5 b o (ne b n) e⟩, fun b o e n _ => by rw [upd_ne (ne b n)]; exact n, fun b o e _ => ?_, fun b xs e => by rw [upd_ne (nt b _ e fun q z => by cases z)]; exact e, fun b o u e => by rw [upd_ne (nt b _ e fun q z => by cases z)]; exact e, fun b qs e => ?_⟩,
      ⟨hsz, by rw [hz']; exact Nat.lt_succ_self _, by show h'.objs.size < (h'.push go).objs.size; rw [Heap.size_push]; exact Nat.lt_succ_self _⟩, ⟨Heap.get?_push_of_some _ hoC, fun h e => ⟨oC, es, ep, e, rC⟩⟩, ⟨go, _, _, hgp, by rw [← hgo], by rw [← hgo], by rw [← hgo]⟩, Array.getElem?_push_size .., fun i x e => ?_, Nat.le_refl _⟩
    · by_cases z : b = P
      · rw [z]; exact ⟨_, hP5⟩
      · exact ⟨o, k5 b o z e⟩
    · by_cases z : b = P
      · subst z
        rw [hP] at e
        cases e
        exact ⟨more, upd_same⟩
      · exact ⟨#[], by rw [upd_ne z, e]; simp⟩
    · have hi2 : i < s2.gens.size := (Array.getElem?_eq_some_iff.mp e).1
      show (s2.gens.push _)[i]? = some x
      rw [Array.getElem?_push, if_neg (Nat.ne_of_lt hi2)]
      exact e
  refine ⟨I1.nolimit, ?_⟩
  cases hf : codeAmong gpos ps.toList with
  | none =>
    refine wpAny_genexprCodeX hcode (cd.code hPs ht) (cd.tab hPs) hf fun c' h' tk hx hge hlt hco' _ htab' _ => ?_
    obtain ⟨o1, vs, f1, tf, fl, tg, inF, tx, tt, op, _, _, _, _, _, _, _, _, _, htr, _⟩ := hco'
    exact cont _ h' tk _ hx (Nat.le_trans hge (Nat.le_of_lt hlt)) htab'.2 ⟨_, rfl⟩ htr
  | some cv =>
    refine wpAny_genexprCode_hit hcode (cd.code hPs ht) hf ?_
    exact cont cv s2.heap s2.toks ps (Heap.ExtBut.refl _ _) (Nat.le_refl _) hPs ⟨#[], by simp⟩ ht
end
end Zg
end
section
set_option maxHeartbeats 2000000
/-! sum of a generator expression over a list of tuples: (d for a, b, c, d in xs). -/
namespace Zg
open PySem PySem.Spec PyProof.Rows L2 GenW
def PostOf (G : GX) : List YSpec → List (Addr × HO) → List (Addr × Obj) → List Env → Shared → Hp → End → Shared → Prop
  | [], T, pins, outer, s, H => fun e s' => (e = .ret (.ok (.ret .none)) ∨ e = .ret (.ok .next)) ∧ Went G outer (pins.map (·.1)) s H s' H
  | Y :: Ys, T, pins, outer, s, H => fun e s' => ∃ (v : V) (H' : Hp) (T' : List (Addr × HO)) (pins' : List (Addr × Obj)) (u : Value) (l : List Value) (k : Resume → Sem PySem.Fin) (c : Code) (p : Pos) (fs : List Frame), e = .susp u false l k c p fs ∧ e.quiet = true ∧ RelV v u ∧ Y H v H' ∧
        Went G outer (pins.map (·.1)) s H s' H' ∧ PinsOk G outer pins' s' H' ∧ (∀ p ∈ pins', p.1 ∈ pins.map (·.1) ∨ (s.heap.get? p.1 = none ∧ ∀ b ∈ frs outer, b < p.1)) ∧ FactsOk T' H' ∧ Asleep G Ys T' pins' e.genState
theorem asleep_of {G : GX} {Ys : List YSpec} {T : List (Addr × HO)} {pins : List (Addr × Obj)} {gs : GenState} (h : ∀ (B : Around) (outer : List Env) (s : Shared) (H : Hp), LegPre G B outer T pins s H → Leg.Woke (model G.prog G.w) B (PostOf G Ys T pins outer s H) gs s) : Asleep G Ys T pins gs := by
  cases Ys with
  | nil => exact h
  | cons Y Ys => exact h
/-- a genexpr's code, run from its loop -/
theorem over_comp {B : Around} {elt tg iter : Expr} {scope : Scope} {gpos : Pos} {itv : Value} {env : Env} : B.over (.compLoop (.GeneratorExp elt [⟨tg, iter, [], 0⟩] scope gpos) 0 itv .none env) [] = B.deeper env := by
  first
    | rfl
    | (obtain ⟨hd, d, fr, gs, u⟩ := B; simp [Around.over, Around.deeper, marksOver, frameCount, unitsOf, envsOf, guardsOf, pushEnvs, pushGuards, Code.envs, Code.env?, Code.isFrame, Code.guards, Code.isGuard, Code.weight, Code.frames, Code.isCreation, Code.isCaller, Code.cUnits])
section
variable {G : GX} {k : Nat} {cenv : Env} {N : List Str} {es : List Expr} {x4 : Str} {kt : Nat} {tp p4 gpos : Pos} {iter : Expr} {scope : Scope} {it l : Addr} {ts : List Addr} {ns : List Int} {T : List (Addr × HO)}
/-- the tuple target of four names, the last one handed out -/
theorem gl_run {c : Code} (hc : c = .compLoop (.GeneratorExp (.Name x4 p4) [⟨.Tuple es kt tp, iter, [], 0⟩] scope gpos) 0 (.ref it) .none cenv) (hk : G.k = k + 1) (eo : EnvOk G cenv N) (hco : cenv.scope.isCoroutine = false)
    (hes : (assignEach es cenv).length = 4) (hst : (assignEach es cenv).findIdx? (·.1) = none) (hx : N[3]? = some x4) (hd : (x4 == ("__debug__" : Str)) = false) (hN4 : N.length = 4) (hNs : ∀ Z : Zx, Z.env = cenv → Z.N = N → ZNames Z es [0, 1, 2, 3])
    (hTl : (l, HO.lst (ts.map V.ref)) ∈ T) (hTt : ∀ (j : Nat) (t : Addr), ts[j]? = some t → ∃ (n : Int) (a b d : V), ns[j]? = some n ∧ (t, HO.tup [a, b, d, .int n]) ∈ T) (hln : ts.length = ns.length) (hiC : it ≠ cenv.locals) :
    ∀ (m j : Nat), ns.length - j = m → j ≤ ns.length → ∀ (oC oi : Obj) (σ : L2.St), FrameAt N cenv.locals oC σ → σ.length = 4 → oi.cls = .type "list_iterator" → oi.data = .fields #[.ref l, .int (j : Nat) 0] →
      ∀ (B : Around) (outer : List Env) (s : Shared) (H : Hp), LegPre G B outer T [(cenv.locals, oC), (it, oi)] s H → Leg.Run (model G.prog G.w) B (PostOf G ((ns.drop j).map Yint) T [(cenv.locals, oC), (it, oi)] outer s H) c ((model G.prog G.w).den c) [] s := by
  subst hc
  intro m
  induction m with
  | zero =>
    intro j hm hj oC oi σ hf hlen hcl hdt B outer s H L
    have e : j = ns.length := by omega
    subst e
    have hrB : Room k (B.deeper cenv) := by
      have z := L.room
      rw [hk] at z
      exact z.deeper cenv
    have I := zinv_begin (A := B.deeper cenv) L eo (Around.frames_deeper L.e0.frames) hrB (List.mem_cons_self ..) hf (by rw [hlen, hN4])
    obtain ⟨hz, its, n0, r, e0⟩ := I.e0.hok l _ (L.facts _ hTl).1
    have hlen2 := r.length
    have pl : PlainL s.heap l its.toArray := ⟨_, n0, e0, rfl, rfl, rfl⟩
    have hit := (L.pins.at_ (it, oi) (by simp)).1
    refine lc_turn rfl hco ?_
    rw [over_comp]
    refine list_end_there I.hd ⟨oi, hit, hcl, hdt⟩ pl.isList (by simp; rw [List.length_map] at hlen2; omega) fun h' eb th => ?_
    have I1 : ZInv _ [] σ H { s with heap := h' } := I.turn (t' := s.toks) (it := it) eb (fun _ => th) (L.pins.at_ (it, oi) (by simp)).2.1 hiC ⟨.inl (by simp), (L.pins.at_ (it, oi) (by simp)).2.2.2, (L.pins.at_ (it, oi) (by simp)).2.2.1⟩ (fun p hp => nomatch hp)
    rw [List.drop_length]
    exact ⟨.inr rfl, zinv_went I1 L.tb⟩
  | succ m ih =>
    intro j hm hj oC oi σ hf hlen hcl hdt B outer s H L
    have hlt : j < ns.length := by omega
    have hrB : Room k (B.deeper cenv) := by
      have z := L.room
      rw [hk] at z
      exact z.deeper cenv
    have I := zinv_begin (A := B.deeper cenv) L eo (Around.frames_deeper L.e0.frames) hrB (List.mem_cons_self ..) hf (by rw [hlen, hN4])
    obtain ⟨hz, its, n0, r, e0⟩ := I.e0.hok l _ (L.facts _ hTl).1
    have pl : PlainL s.heap l its.toArray := ⟨_, n0, e0, rfl, rfl, rfl⟩
    have hit := (L.pins.at_ (it, oi) (by simp)).1
    obtain ⟨t, ht⟩ : ∃ t, ts[j]? = some t := ⟨ts[j]'(by omega), List.getElem?_eq_getElem _⟩
    obtain ⟨n, va, vb, vd, hn, hTt'⟩ := hTt j t ht
    have hxs : (ts.map V.ref)[j]? = some (.ref t) := by rw [List.getElem?_map, ht] <;> rfl
    obtain ⟨w', ew, rw'⟩ := r.get hxs
    cases rw'
    refine lc_turn rfl hco ?_
    rw [over_comp]
    refine wpAny_pyNext_list_item ⟨oi, hit, hcl, hdt⟩ pl.isList (x := .ref t) (by simpa using ew) fun h' li' hs => ?_
    obtain ⟨ob, hob, hcl', hdt'⟩ := id li'
    have I1 : ZInv _ [] σ H { s with heap := h' } := I.turn (t' := s.toks) (it := it) (fun b o hb e => (hs.2 b hb).trans e) (fun _ => ⟨_, hob⟩) (L.pins.at_ (it, oi) (by simp)).2.1 hiC ⟨.inl (by simp), (L.pins.at_ (it, oi) (by simp)).2.2.2, (L.pins.at_ (it, oi) (by simp)).2.2.1⟩ (fun p hp => nomatch hp)
    have I2 : ZInv _ [(it, ob)] σ H { s with heap := h' } := I1.pinned fun p hp => by
      have e : p = (it, ob) := by simpa using hp
      rw [e]
      exact ⟨hob, (L.pins.at_ (it, oi) (by simp)).2.1, hiC, (L.pins.at_ (it, oi) (by simp)).2.2.1⟩
    refine go_of (s := { s with heap := h' }) (n := "list_iterator") hob hcl' hdt' (by decide) ?_
    refine z_unpack (hNs _ rfl rfl) I2 (L.facts _ hTt').1 rfl hes hst fun s4 I4 => ?_
    have h4 : ∃ a0 a1 a2 a3, σ = [a0, a1, a2, a3] := by
      match σ, hlen with
      | [a0, a1, a2, a3], _ => exact ⟨a0, a1, a2, a3, rfl⟩
    obtain ⟨a0, a1, a2, a3, rfl⟩ := h4
    refine thn ((z_var (i := 3) (pos := p4) hx hd).run _ s4 _ H (fun v H' => v = .int n ∧ H' = H) _ I4 ⟨.int n, rfl, rfl, rfl⟩) fun u s5 z => ?_
    obtain ⟨v, H5, I5, ru, rfl, rfl⟩ := z
    intro kk l0 p0 hkk
    have hdr : (ns.drop j).map Yint = Yint n :: (ns.drop (j + 1)).map Yint := by
      rw [List.drop_eq_getElem_cons hlt]
      have e : ns[j] = n := by
        have q := List.getElem?_eq_getElem hlt
        rw [hn] at q
        exact (Option.some.inj q).symm
      rw [e]
      rfl
    rw [hdr]
    obtain ⟨oC', hoC', hf'⟩ := zinv_frame I5
    have hob5 := (I5.pin (it, ob) (by simp))
    refine ⟨.int n, H5, T, [(cenv.locals, oC'), (it, ob)], u, l0, kk, _, p0, [], rfl, rfl, ru, ⟨rfl, rfl⟩, zinv_went I5 L.tb, ⟨fun p hp => ?_, fun p hp => ?_⟩, fun p hp => ?_, L.facts, ?_⟩
    · rcases List.mem_cons.mp hp with q | q
      · rw [q]
        obtain ⟨c1, c2, c3, c4⟩ := L.pins.at_ (cenv.locals, oC) (by simp)
        exact ⟨hoC', c2, c3, c4⟩
      · have e : p = (it, ob) := by simpa using q
        rw [e]
        obtain ⟨c1, c2, c3, c4⟩ := L.pins.at_ (it, oi) (by simp)
        exact ⟨hob5.1, c2, c3, c4⟩
    · rcases List.mem_cons.mp hp with q | q
      · rw [q]; exact frame_nc hoC' hf'
      · have e : p = (it, ob) := by simpa using q
        rw [e]
        exact fun v z => by rw [hdt'] at z; cases z
    · rcases List.mem_cons.mp hp with q | q
      · rw [q]; exact .inl (by simp)
      · have e : p = (it, ob) := by simpa using q
        rw [e]; exact .inl (by simp)
    · refine asleep_of fun B' outer' s' H' L' => ?_
      exact hkk _ _ _ _ (ih (j + 1) (by omega) hlt oC' ob _ hf' rfl hcl' hdt' B' outer' s' H' L')
end
end Zg
end
section
set_option maxHeartbeats 2000000
/-! sum(d for a, b, c, d in xs) in a def's body. -/
namespace Zg
open PySem PySem.Spec PyProof.Rows L2 GenW
def Tot4 (H : Hp) (ts : List Addr) (ns : List Int) : Prop := Paired (fun t n => ∃ a b c : V, H t = some (.tup [a, b, c, .int n])) ts ns
def tSumG (P : Addr) (te : TE) : TE := fun σ H Q => te σ H fun v H1 => ∃ (l : Addr) (ts : List Addr) (ns : List Int), v = .ref l ∧ H1 l = some (.lst (ts.map V.ref)) ∧ Tot4 H1 ts ns ∧ GxR.TabG H1 P ∧ ∀ H2, GxR.Tabbed P H1 H2 → Q (.int ns.sum) H2
theorem Tot4.at {H : Hp} {ts : List Addr} {ns : List Int} (h : Tot4 H ts ns) : ∀ (j : Nat) (t : Addr), ts[j]? = some t → ∃ (n : Int) (a b d : V), ns[j]? = some n ∧ H t = some (.tup [a, b, d, .int n]) := by
  unfold Tot4 at h
  induction h with
  | nil => intro j t e; cases e
  | cons r _ ih =>
    intro j t e
    cases j with
    | zero =>
      cases e
      obtain ⟨a, b, c, q⟩ := r
      exact ⟨_, a, b, c, rfl, q⟩
    | succ j => exact ih j t e
section
variable {X : Cx} {x4 : Str} {es : List Expr} {N : List Str} {p p4 tp pos gpos : Pos} {kt : Nat} {iter : Expr} {scope : Scope} {c P : Addr} {k : Nat} {te : TE}
theorem pe_sumG (hr : Room (k + 4) X.A) (hX : X.calm = true) (TB : GxR.TabB X.base X.mg c P) (hcode : X.env.code = .ref c) (S : GScp scope) (hi : PE X iter te) (hg : Gl X "sum") (hm : X.mg "sum" = none) (hs : ∀ v, genFold iter X.env v = pure v)
    (nd : N.Nodup) (nl : ∀ (i : Nat) (x : Str), N[i]? = some x → scope.names.lookup x = some .local) (hx : N[3]? = some x4) (hd : (x4 == ("__debug__" : Str)) = false) (hN4 : N.length = 4)
    (hes : ∀ cenv : Env, (assignEach es cenv).length = 4) (hst : ∀ cenv : Env, (assignEach es cenv).findIdx? (·.1) = none) (hNs : ∀ Z : Zx, Z.N = N → ZNames Z es [0, 1, 2, 3])
    (he : starEach [.GeneratorExp (.Name x4 p4) [⟨.Tuple es kt tp, iter, [], 0⟩] scope gpos] X.env = (false, eval (.GeneratorExp (.Name x4 p4) [⟨.Tuple es kt tp, iter, [], 0⟩] scope gpos) X.env) :: starEach [] X.env := by rfl)
    (hpl : (backTo pos (starEach [] X.env)).any (·.1) = false := by rfl) :
    PE X (.Call (.Name "sum" p) [.GeneratorExp (.Name x4 p4) [⟨.Tuple es kt tp, iter, [], 0⟩] scope gpos] [] pos) (tSumG P te) := by
  refine ⟨fun pins s σ H Q I h => ?_⟩
  refine wpAny_Call_Name_kw (ld_blt I hg hm boot_sum ?_ (by decide) (by decide))
  refine PyProof.Rows.callWith_builtin1 ?_ he hpl
  rw [he]
  show wpAny _ _ (spliced ((false, eval (.GeneratorExp (.Name x4 p4) [⟨.Tuple es kt tp, iter, [], 0⟩] scope gpos) X.env) :: backTo pos (starEach [] X.env))) _ _ s
  refine Calls.spliced_cons (gx_make (pins := pins) (σ := σ) (R := fun itv H1 s2 => ∃ (s1 : Shared) (l : Addr) (ts : List Addr) (ns : List Int), itv = .ref s1.heap.objs.size ∧ s2 = { s1 with heap := s1.heap.push { cls := .type "list_iterator", data := .fields #[.ref l, .int 0 0] } } ∧ Inv X pins σ H1 s1 ∧ H1 l = some (.lst (ts.map V.ref)) ∧ Tot4 H1 ts ns ∧
    ∀ H2, GxR.Tabbed P H1 H2 → Q (.int ns.sum) H2) hr TB hcode S ?_ hs fun itv H1 s2 a s5 H2 C g code oC hR M => ?_)
  · refine thn (hi.run pins s σ H _ I h) fun xv s1 ⟨v, H1, I1, r1, q1⟩ => ?_
    obtain ⟨l, ts, ns, rfl, hl, ht, htab, q⟩ := q1
    obtain rfl : xv = Value.ref l := r1
    obtain ⟨hz, its, n0, r, e0⟩ := I1.hok l _ hl
    have pl : PlainL s1.heap l its.toArray := ⟨_, n0, e0, rfl, rfl, rfl⟩
    refine wpAny_pyIter_list pl.isList ?_
    exact ⟨H1, I1.kept (t' := s1.toks) fun b o e => Heap.get?_push_of_some _ e, htab, s1, l, ts, ns, rfl, rfl, I1, hl, ht, q⟩
  · refine Calls.spliced_nil ?_
    obtain ⟨s1, l, ts, ns, rfl, rfl, I1, hl, ht, q⟩ := hR
    have k0 : ∀ b o, s1.heap.get? b = some o → (s1.heap.push { cls := .type "list_iterator", data := .fields #[.ref l, .int 0 0] }).get? b = some o := fun b o e => Heap.get?_push_of_some _ e
    have hsz : (s1.heap.push { cls := .type "list_iterator", data := .fields #[.ref l, .int 0 0] }).objs.size = s1.heap.objs.size + 1 := Heap.size_push ..
    obtain ⟨hC1, hC2, hC3⟩ := M.sz
    rw [hsz] at hC1
    have hC2 : @LT.lt Nat _ C a := hC2
    have hC3 : @LT.lt Nat _ a s5.heap.objs.size := hC3
    have hC1 : @LE.le Nat _ (s1.heap.objs.size + 1) C := hC1
    obtain ⟨hoC, hNsC⟩ := M.frm
    have hPs : ∃ o, s1.heap.get? P = some o := by
      obtain ⟨ps, more, hP, _⟩ := M.ext
      exact ⟨_, I1.hok P _ hP⟩
    have hPlt : @LT.lt Nat _ P s1.heap.objs.size := let ⟨_, e⟩ := hPs; Heap.lt_size e
    have hit5 : s5.heap.get? s1.heap.objs.size = some { cls := .type "list_iterator", data := .fields #[.ref l, .int 0 0] } := M.keep _ _ (Nat.ne_of_gt hPlt) (Heap.get?_push_size _ rfl)
    -- the generator's world
    generalize hG : (⟨X.prog, X.w, X.K, X.mg, X.base, k + 1, fun _ => True⟩ : GX) = G
    have e0 : Env0 X.prog X.w X.K X.mg X.base X.A X.stack s1 H1 := I1.env0
    have un5 : Un (frs X.stack) [] H1 H2 s1.heap s5.heap := (Un.kept k0).trans M.un
    have J := M.inv
    have bsz5 : X.base.objs.size ≤ s5.heap.objs.size := by
      have h9 := e0.bsz
      show @LE.le Nat _ X.base.objs.size s5.heap.objs.size
      omega
    have Sa : Sat G X.stack s1 H1 s5 H2 := by
      subst hG
      exact ⟨J.os.trans I1.os.symm, J.bare, un5, J.hok, bsz5, trivial⟩
    have fr1 : ∀ b : Addr, @LE.le Nat _ s1.heap.objs.size b → s1.heap.get? b = none := fun b hb => by
      cases e : s1.heap.get? b with
      | none => rfl
      | some o => exact absurd (Nat.lt_of_lt_of_le (Heap.lt_size e) hb) (Nat.lt_irrefl _)
    have new1 : ∀ b : Addr, @LE.le Nat _ s1.heap.objs.size b → H2 b = none ∧ b ∉ frs X.stack ∧ X.base.get? b = none := fun b hb => by
      have h1 : H1 b = none := I1.hok.fresh hb
      refine ⟨?_, fun z => ?_, ?_⟩
      · rw [M.tab.2 b (fun z => by rw [z] at hb; exact absurd (Nat.lt_of_lt_of_le hPlt hb) (Nat.lt_irrefl _))]
        exact h1
      · obtain ⟨_, o, ho, _⟩ := e0.funs.mem z
        rw [fr1 b hb] at ho
        cases ho
      · cases e : X.base.get? b with
        | none => rfl
        | some o =>
          have := (e0.bs b o e).1
          rw [fr1 b hb] at this
          cases this
    have H2l : H2 l = some (.lst (ts.map V.ref)) := by
      rw [M.tab.2 l (fun z => ?_)]
      · exact hl
      · obtain ⟨ps, more, hP, _⟩ := M.ext
        rw [z, hP] at hl
        cases hl
    have H2t : ∀ (j : Nat) (t : Addr), ts[j]? = some t → ∃ (n : Int) (a b d : V), ns[j]? = some n ∧ H2 t = some (.tup [a, b, d, .int n]) := fun j t e => by
      obtain ⟨n, a, b, d, e1, e2⟩ := ht.at j t e
      refine ⟨n, a, b, d, e1, ?_⟩
      rw [M.tab.2 t (fun z => ?_)]
      · exact e2
      · obtain ⟨ps, more, hP, _⟩ := M.ext
        rw [z, hP] at e2
        cases e2
    generalize hcenv : genEnv scope (cloFrom X.env.cells scope.names []) C code builtinsNs X.env = cenv
    have eC : cenv.locals = C := by rw [← hcenv]; rfl
    have eo : EnvOk G cenv N := by
      subst hG hcenv
      exact ⟨S.kind, I1.ok.glob, rfl, rfl, nd, fun i x e => nl i x e, by have h9 := e0.bsz; show @LE.le Nat _ X.base.objs.size C; omega⟩
    have fact : ∀ t ∈ ts, ∃ o, H2 t = some o := fun t ht' => by
      obtain ⟨j, hj, e⟩ := List.mem_iff_getElem.mp ht'
      obtain ⟨n, a, b, d, _, e2⟩ := H2t j t (by rw [List.getElem?_eq_getElem hj, e])
      exact ⟨_, e2⟩
    generalize hT : ((l, HO.lst (ts.map V.ref)) :: ts.filterMap fun t => (H2 t).map fun o => (t, o)) = T
    have hTl : (l, HO.lst (ts.map V.ref)) ∈ T := by rw [← hT]; exact List.mem_cons_self
    have hTf : FactsOk T H2 := fun f hf => by
      rw [← hT] at hf
      rcases List.mem_cons.mp hf with z | z
      · rw [z]; exact ⟨H2l, fun ps q => by cases q⟩
      · obtain ⟨t, htt, e⟩ := List.mem_filterMap.mp z
        obtain ⟨jt, hjt, ejt⟩ := List.mem_iff_getElem.mp htt
        obtain ⟨nt, at', bt, dt', _, e2t⟩ := H2t jt t (by rw [List.getElem?_eq_getElem hjt, ejt])
        cases q : H2 t with
        | none => rw [q] at e; cases e
        | some o =>
          rw [q] at e
          cases e
          refine ⟨q, fun ps z => ?_⟩
          rw [q] at e2t
          cases e2t
          cases z
    have hTt : ∀ (j : Nat) (t : Addr), ts[j]? = some t → ∃ (n : Int) (a b d : V), ns[j]? = some n ∧ (t, HO.tup [a, b, d, .int n]) ∈ T := fun j t e => by
      obtain ⟨n, a, b, d, e1, e2⟩ := H2t j t e
      refine ⟨n, a, b, d, e1, ?_⟩
      rw [← hT]
      exact List.mem_cons_of_mem _ (List.mem_filterMap.mpr ⟨t, List.mem_of_getElem? e, by rw [e2]; rfl⟩)
    have sl : Asleep G (ns.map Yint) T [(C, oC), (s1.heap.objs.size, { cls := .type "list_iterator", data := .fields #[.ref l, .int 0 0] })] (.fresh (.compStart (.GeneratorExp (.Name x4 p4) [⟨.Tuple es kt tp, iter, [], 0⟩] scope gpos) 0 (.ref s1.heap.objs.size) .none cenv)) := by
      refine asleep_of fun B outer s' H' L => ?_
      refine lc_start rfl (fun A' Q' E' z => ?_) ?_
      · exact wpAny_pyIter_listiter ⟨_, (L.pins.at_ _ (List.mem_cons_of_mem _ List.mem_cons_self)).1, rfl, rfl⟩ z
      · have z := gl_run (G := G) (k := k) (cenv := cenv) (N := N) (es := es) (x4 := x4) (kt := kt) (tp := tp) (p4 := p4) (gpos := gpos) (iter := iter) (scope := scope) (it := s1.heap.objs.size) (l := l) (ts := ts) (ns := ns) (T := T) rfl (by subst hG; rfl) eo (by rw [← hcenv]; exact S.co) (hes cenv) (hst cenv) hx hd hN4 (fun Z _ e => hNs Z e) hTl hTt (Paired.length ht)
          (by rw [eC]; exact Nat.ne_of_lt (show @LT.lt Nat _ s1.heap.objs.size C by omega)) ns.length 0 (Nat.sub_zero _) (Nat.zero_le _) oC { cls := .type "list_iterator", data := .fields #[.ref l, .int 0 0] } [none, none, none, none] (by rw [eC]; exact fun h e => ⟨_, hNsC h e, fun i x v e1 e2 => by
            match i with
            | 0 => cases e2
            | 1 => cases e2
            | 2 => cases e2
            | 3 => cases e2
            | i + 4 => cases e2⟩) rfl rfl rfl B outer s' H' (by rw [eC]; exact L)
        rw [List.drop_zero, eC] at z
        exact z
    have hld : Held G X.stack s1 T [(C, oC), (s1.heap.objs.size, { cls := .type "list_iterator", data := .fields #[.ref l, .int 0 0] })] a g (.fresh (.compStart (.GeneratorExp (.Name x4 p4) [⟨.Tuple es kt tp, iter, [], 0⟩] scope gpos) 0 (.ref s1.heap.objs.size) .none cenv)) s5 H2 := by
      have na := new1 a (by omega)
      refine ⟨M.gen, by rw [← hcenv]; exact M.at_, ⟨fun p hp => ?_, fun p hp => ?_⟩, fun p hp => ?_, hTf, na.1, na.2.1, fun z => ?_⟩
      · rcases List.mem_cons.mp hp with z | z
        · rw [z]
          obtain ⟨n1, n2, n3⟩ := new1 C (by omega)
          subst hG
          exact ⟨hoC, n1, n2, n3⟩
        · have e : p = (s1.heap.objs.size, { cls := .type "list_iterator", data := .fields #[.ref l, .int 0 0] }) := by simpa using z
          rw [e]
          obtain ⟨n1, n2, n3⟩ := new1 s1.heap.objs.size (Nat.le_refl _)
          subst hG
          exact ⟨hit5, n1, n2, n3⟩
      · rcases List.mem_cons.mp hp with z | z
        · rw [z]
          intro v q
          obtain ⟨o', es, ep, e', d, _⟩ := hNsC _ hoC
          rw [hoC] at e'
          cases e'
          rw [d] at q
          cases q
        · have e : p = (s1.heap.objs.size, { cls := .type "list_iterator", data := .fields #[.ref l, .int 0 0] }) := by simpa using z
          rw [e]
          exact fun v q => by cases q
      · rcases List.mem_cons.mp hp with z | z
        · rw [z]; exact fr1 _ (by show s1.heap.objs.size ≤ C; omega)
        · have e : p = (s1.heap.objs.size, { cls := .type "list_iterator", data := .fields #[.ref l, .int 0 0] }) := by simpa using z
          rw [e]; exact fr1 _ (Nat.le_refl _)
      · have z' : a = C ∨ a = s1.heap.objs.size := by simpa using z
        rcases z' with z' | z'
        · rw [z'] at hC2; exact absurd hC2 (Nat.lt_irrefl _)
        · have h9 : @LT.lt Nat _ s1.heap.objs.size a := by omega
          rw [z'] at h9; exact absurd h9 (Nat.lt_irrefl _)
    have fin := call_sum_go (G := G) (A := X.A) (outer := X.stack) (s0 := s1) (s := s5) (H0 := H1) (H := H2) (a := a) (g := g) (ns := ns) (E := X.xe) (Q := EP X pins σ Q) (by subst hG; exact e0) (by subst hG; exact hr) Sa hld sl fun s' t' Sa' => by
      subst hG
      exact ⟨.int ns.sum, H2, I1.call' (ch := []) Sa'.os Sa'.un Sa'.hok Sa'.bare (fun b z => nomatch z), ⟨t', rfl⟩, q H2 M.tab⟩
    subst hG
    exact fin
end
end Zg
end
section
set_option maxHeartbeats 2000000
/-! A plan's balance. -/
namespace So
open PySem PySem.Spec PyProof.Rows L2 He
/-- the tables of code objects -/
structure Kt (K : PySem.W.Frag) (mg : Str → Option Value) (base : Heap) (T : Wt) : Prop where
  tb : ∀ x ∈ (["balance_at", "least_balance", "law"] : List Str), GxR.TabB base mg (cT K (x, none)).1 (cT K (x, none)).2
  g1 : (cT K ("balance_at", none)).2 ∈ T.gen
  g2 : (cT K ("least_balance", none)).2 ∈ T.gen
  lam : ∀ p ∈ T.lam, p.1 ∉ T.gen
theorem tabbed_gr {T : Wt} {P : Addr} {H H1 H2 : Hp} (g : Gr T H H1) (hP : P ∈ T.gen) (lam : ∀ p ∈ T.lam, p.1 ∉ T.gen) (t : GxR.Tabbed P H1 H2) : Gr T H H2 := by
  have keep : ∀ b o, H1 b = some o → (∀ ps, o ≠ .tbl ps) → H2 b = some o := fun b o e n => by
    obtain ⟨⟨ps, e2, _⟩, k⟩ := t
    by_cases z : b = P
    · obtain ⟨ps1, e3, _⟩ := g.2.2 P hP
      rw [z, e3] at e
      cases e
      exact absurd rfl (n ps1)
    · rw [k b z]; exact e
  refine ⟨fun b o e nb n => keep b o (g.1 b o e nb n) n, ⟨fun p hp => ?_, fun Q hQ => ?_⟩, fun b o e => ?_⟩
  · obtain ⟨ps, h1, h2, h3⟩ := g.2.1 p hp
    have ne : p.1 ≠ P := fun z => lam p hp (by rw [z]; exact hP)
    refine ⟨ps, by rw [t.2 _ ne]; exact h1, h2, fun pos cv hc => ?_⟩
    obtain ⟨c, e1, e2⟩ := h3 pos cv hc
    exact ⟨c, e1, keep _ _ e2 fun ps z => by cases z⟩
  · by_cases z : Q = P
    · rw [z]; exact t.1
    · obtain ⟨ps, h1, h2⟩ := g.2.2 Q hQ
      exact ⟨ps, by rw [t.2 _ z]; exact h1, h2⟩
  · obtain ⟨o', e'⟩ := g.3 b o e
    by_cases z : b = P
    · obtain ⟨ps, h1, _⟩ := t.1
      rw [z]; exact ⟨_, h1⟩
    · exact ⟨o', by rw [t.2 _ z]; exact e'⟩
def balAt (os : List Ord) (s0 open_ day : Int) : Int := open_ + (totItems os s0 day os.length).sum
def spBal (T : Wt) : Sp := fun vs H Q _ => ∃ (plan : Addr) (ps : List Int) (c s0 op day : Int) (os : List Ord), vs = [.ref plan, .int op, .int day] ∧ PlanAt H plan ps c s0 os ∧ c ≤ 400 ∧ 1 ≤ c ∧ (∀ o ∈ os, OrdOk c o) ∧ os.length ≤ 1000 ∧ Tbs T H ∧
  ∀ H', Gr T H H' → Q (.int (balAt os s0 op day)) H'
section
variable {P : Program} {w : World} {K : PySem.W.Frag} {mg : Str → Option Value} {base : Heap} {T : Wt} {CX : CXT}
/-- THE RULE for a def whose code object is looked at -/
theorem okd_ofC {x : Str} {st : Stmt} {N ps : List Str} {k : Nat} {sp : Sp} (F : ∃ fd, FunD K x x (defArgs st) (defBody st) (defScope st) [] [] (ga K x) fd) (S : FnScope N ps (defScope st)) (len : ∀ vs H Q E, sp vs H Q E → vs.length = ps.length)
    (hbind : ∀ (kV doc pm : Value) (an : Option Addr) (cdv ct : Value) (us : List Value), us.length = ps.length → bindArgs (PySem.W.fnOf x x (defArgs st) (defBody st) (defScope st) .none kV doc pm an cdv ct) ⟨us, []⟩ = pure (ps.zip us))
    (hbody : ∀ (cdv : Value), cdv = .ref (cT K (x, none)).1 → ∀ (A : Around) (outer : List Env) (s : Shared) (H : Hp) (vs : List V) (Q : VK) (E : XK), Room k (A.deeper (envOfC x (defScope st) s.heap.objs.size (ga K x) cdv)) → sp vs H Q E →
      ∃ t, PSs (cxOf CX P w K mg base N x (defScope st) (ga K x) cdv A outer s H E) (defBody st) t ∧ t { nx := fun _ H' => Q .non H', rt := Q } (start N vs) H) : Okd P w K mg base CX (k + 1) (ga K x) ps sp := by
  obtain ⟨fd, F⟩ := F
  refine ⟨fd, F.kp, F.bindsN hbind, ?_⟩
  obtain ⟨oc, od, dV, kV, doc, pm, an, cdv, ct, osl, rfl, lk, hcd, _, _⟩ := F.ex
  obtain ⟨c, rfl⟩ := codeIn_ref hcd
  have e : codeOf K (x, none) = c := codeOf_eq (p := (x, none)) lk rfl
  exact fn_of lk hcd S len fun A outer s H vs Q E hr hsp => hbody _ (by show Value.ref c = Value.ref (codeOf K (x, none)); rw [e]) A outer s H vs Q E hr hsp
theorem ok_balance_at (kn : Kn K mg) (kt : Kt K mg base T) : Okd P w K mg base CX0 5 (ga K "balance_at") ["plan", "opening", "day"] (spBal T) := by
  refine okd_ofC kn.f_balance_at sc_balance_at (fun vs H Q E h => ?_) (fun _ _ _ _ _ _ us hl => match us, hl with | [_, _, _], _ => rfl) (fun cdv hcd A outer s H vs Q E hr h => ?_)
  · obtain ⟨plan, ps, c, s0, op, day, os, rfl, _⟩ := h
    rfl
  · obtain ⟨plan, ps, c, s0, op, day, os, rfl, hpl, c2, c1, hos, hol, tb, hq⟩ := h
    refine ⟨_, PSs.nox (pss_one (ps_ret (pe_op op_add (pv 1) (Zg.pe_sumG (N := ["phase", "index", "times", "total"]) (k := 0) (c := (cT K ("balance_at", none)).1) (P := (cT K ("balance_at", none)).2) hr rfl (kt.tb "balance_at" (by decide +kernel)) hcd
      ⟨rfl, rfl, by decide +kernel, rfl, by decide +kernel⟩
      (pf (ok_totals_until (T := T) kn) (hr.mono (by decide)) (kn.glo "totals_until") pass0 (pa_cons (pv 0) (pa_cons (pv 2) pa_nil))) rfl (kn.free "sum") (fun v => rfl)
      (by decide +kernel) (fun i x e => ?_) rfl (by decide) rfl (fun _ => rfl) (fun _ => rfl) (fun Z e => ?_))))), ?_⟩
    · match i with
      | 0 => cases e; rfl
      | 1 => cases e; rfl
      | 2 => cases e; rfl
      | 3 => cases e; rfl
      | i + 4 => cases e
    · have eN : ∀ i : Nat, Z.N[i]? = (["phase", "index", "times", "total"] : List Str)[i]? := fun i => by rw [e]
      exact .cons (by rw [eN]; rfl) (.cons (by rw [eN]; rfl) (.cons (by rw [eN]; rfl) (.cons (by rw [eN]; rfl) .nil rfl) rfl) rfl) rfl
    refine ⟨_, rfl, _, rfl, _, rfl, plan, ps, c, s0, day, os, rfl, hpl, c2, c1, hos, hol, tb, fun l ts H1 g1 hl e1 e2 => ?_⟩
    refine ⟨l, ts, _, rfl, e1, e2, g1.2.2 _ kt.g1, fun H2 ht => ?_⟩
    exact ⟨_, _, rfl, rfl, hq H2 (tabbed_gr g1 kt.g1 kt.lam ht)⟩
end
end So
end
section
set_option maxHeartbeats 2000000
/-! The stretches of a plan: a generator's legs. -/
namespace Zg
open PySem PySem.Spec PyProof.Rows L2 GenW
section
variable {Z : Zx} {a : Expr} {ta : TE} {pos : Pos}
theorem z_neg (ha : ZE Z a ta) : ZE Z (.UnaryOp .USub a pos) (tUn (rU fun i => .int (-i)) ta) := by
  refine ⟨fun pins s σ H Q E I h => ?_⟩
  refine UnaryOp_ (thn (ha.run pins s σ H _ E I h) fun v s1 z => ?_)
  obtain ⟨x, H1, I1, r1, i, rfl, q⟩ := z
  obtain ⟨t, rfl⟩ := r1
  exact neg_int ⟨.int (-i), H1, I1.tok _, ⟨_, rfl⟩, q⟩
end
/-- a generator def's code begins -/
theorem leg_func {prog : Program} {w : World} {B : Around} {W : End → Shared → Prop} {body : List Stmt} {env : Env} {s : Shared}
    (h : Leg.Run (model prog w) B W (.func body env) ((execs body env).wrap (fun f => .pure (.done (.ret (match f with | .ret v => v | _ => .none)))) (fun e => (leaving env e).wrap (fun _ => .raise e) .raise id id) id id) [] s) :
    Leg.Run (model prog w) B W (.func body env) ((model prog w).den (.func body env)) [] s := by
  show Leg.Run _ B W _ (.point [] fun _ => ((execs body env).onRaise (leaving env)) >>= _) [] s
  refine Leg.poin ?_
  rw [Sem.onRaise_eq_wrap, Sem.bind_eq_wrap', Sem.wrap_wrap]
  rw [Sem.wrap_congr (execs body env) _ _ (K' := fun f => .pure (.done (.ret (match f with | .ret v => v | _ => .none))))
    (H' := fun e => (leaving env e).wrap (fun _ => .raise e) .raise id id) (fun f => by cases f <;> rfl)
    (fun e => by rw [Sem.bind_eq_wrap, Sem.wrap_wrap]; rfl)]
  exact h
end Zg
namespace So
open PySem PySem.Spec PyProof.Rows L2 He Zg
section
variable {Z : Zx} {k : Nat} {f C : Addr} {ps : List Str} {sp : Sp} {x : Str} {p pos : Pos} {e : Expr} {es : List Expr} {t : TA}
theorem zf (O : Okd Z.prog Z.w Z.K Z.mg Z.base CX0 k f ps sp) (hk : k ≤ Z.k) (hm : Z.mg x = some (.ref f)) (md : Z.K.In Z.base) (ha : ZA Z (e :: es) t) (hg : Z.env.kindOf x = some .globalImplicit := by rfl) (hdb : (x == ("__debug__" : Str)) = false := by decide)
    (he : starEach (e :: es) Z.env = (false, eval e Z.env) :: starEach es Z.env := by rfl) (hpl : (backTo pos (starEach es Z.env)).any (·.1) = false := by rfl) : ZE Z (.Call (.Name x p) (e :: es) [] pos) (tCall sp [] (fun _ _ _ => False) t) := by
  obtain ⟨fd, kp, b, F⟩ := O.ex
  exact z_call F hk hg hm kp b md ha hdb he hpl
theorem zmk (M : Mk Z.K C f) (O : Okd Z.prog Z.w Z.K Z.mg Z.base CX0 k f ps sp) (hk : k + 1 ≤ Z.k) (hm : Z.mg x = some (.ref C)) (md : Z.K.In Z.base) (ha : ZA Z (e :: es) t) (hg : Z.env.kindOf x = some .globalImplicit := by rfl) (hdb : (x == ("__debug__" : Str)) = false := by decide)
    (he : starEach (e :: es) Z.env = (false, eval e Z.env) :: starEach es Z.env := by rfl) (hpl : (backTo pos (starEach es Z.env)).any (·.1) = false := by rfl) : ZE Z (.Call (.Name x p) (e :: es) [] pos) (tMake C sp [] (fun _ _ _ => False) t) := by
  obtain ⟨fd, kp, b, F⟩ := O.ex
  exact z_make M F hk hg hm b md ha hdb he hpl
end
/-! ### what it hands out -/
def amt (os : List Ord) (c s0 op begin_ : Int) : Nat → Int
  | 0 => balAt os s0 op begin_
  | i + 1 => amt os c s0 op begin_ i + (flows c os).getD ((begin_ + 1 + i) % c).toNat 0
def amts (os : List Ord) (c s0 op begin_ : Int) (n : Nat) : List Int := (List.range (n + 1)).map (amt os c s0 op begin_)
theorem amts_succ (os : List Ord) (c s0 op begin_ : Int) (n : Nat) : amts os c s0 op begin_ (n + 1) = amts os c s0 op begin_ n ++ [amt os c s0 op begin_ (n + 1)] := by
  unfold amts
  rw [List.range_succ, List.map_append]
  rfl
theorem amts_len (os : List Ord) (c s0 op begin_ : Int) (n : Nat) : (amts os c s0 op begin_ n).length = n + 1 := by
  unfold amts
  rw [List.length_map, List.length_range]
theorem amts_last (os : List Ord) (c s0 op begin_ : Int) (n : Nat) : atI ((amts os c s0 op begin_ n).map V.int) (-1) = some (.int (amt os c s0 op begin_ n)) := by
  cases n with
  | zero => exact atI_last [] _
  | succ n =>
    rw [amts_succ, List.map_append]
    exact atI_last _ _
def Y1 (C : Addr) (T : Wt) (s0 op first : Int) : YSpec := fun H v H' => ∃ p, v = .ref p ∧ Gr T H H' ∧ StrAt C H' p first (some (s0 - 1)) [op] 0
def Y2 (C : Addr) (T : Wt) (os : List Ord) (c s0 op first : Int) : YSpec := fun H v H' => ∃ p, v = .ref p ∧ Gr T H H' ∧ StrAt C H' p (max s0 first) none (amts os c s0 op (max s0 first) (c.toNat - 1)) (flows c os).sum
abbrev Nst : List Str := ["plan", "opening", "first", "last", "before", "phase", "start", "end", "orders", "begin", "finish", "changes", "amounts", "day"]
/-- the plan by facts of tuples that no one changes -/
structure PlanF (T : List (Addr × HO)) (plan : Addr) (ps : List Int) (c s0 : Int) (os : List Ord) (cal phs ph ords : Addr) (ots : List Addr) : Prop where
  f1 : (plan, HO.tup [.ref cal, .ref phs]) ∈ T
  f2 : (cal, HO.tup ((ps ++ [c]).map V.int)) ∈ T
  f3 : (phs, HO.tup [.ref ph]) ∈ T
  f4 : (ph, HO.tup [.int s0, .ref ords]) ∈ T
  f5 : (ords, HO.tup (ots.map V.ref)) ∈ T
  f6 : ∀ (j : Nat) (t : Addr), ots[j]? = some t → ∃ o, os[j]? = some o ∧ (t, HO.tup [.int o.1, .int o.2.1, .int o.2.2]) ∈ T
  f7 : ots.length = os.length
theorem Paired.of_at {α β : Type} {R : α → β → Prop} : ∀ {l : List α} {m : List β}, l.length = m.length → (∀ (j : Nat) (x : α), l[j]? = some x → ∃ y, m[j]? = some y ∧ R x y) → Paired R l m
  | [], [], _, _ => .nil
  | x :: l, y :: m, hl, h => by
    obtain ⟨y', e, r⟩ := h 0 x rfl
    cases e
    exact .cons r (Paired.of_at (by simpa using hl) fun j x' e => h (j + 1) x' e)
  | [], _ :: _, hl, _ => by cases hl
  | _ :: _, [], hl, _ => by cases hl
theorem PlanF.ords_at {T : List (Addr × HO)} {plan : Addr} {ps : List Int} {c s0 : Int} {os : List Ord} {cal phs ph ords : Addr} {ots : List Addr} {H : Hp} (F : PlanF T plan ps c s0 os cal phs ph ords ots) (h : FactsOk T H) : OrdsAt H ords os :=
  ⟨ots, (h _ F.f5).1, Paired.of_at F.f7 fun j t e => by
    obtain ⟨o, e1, e2⟩ := F.f6 j t e
    exact ⟨o, e1, (h _ e2).1⟩⟩
theorem PlanF.plan_at {T : List (Addr × HO)} {plan : Addr} {ps : List Int} {c s0 : Int} {os : List Ord} {cal phs ph ords : Addr} {ots : List Addr} {H : Hp} (F : PlanF T plan ps c s0 os cal phs ph ords ots) (h : FactsOk T H) : PlanAt H plan ps c s0 os :=
  ⟨cal, phs, ords, (h _ F.f1).1, (h _ F.f2).1, ⟨ph, (h _ F.f3).1, (h _ F.f4).1⟩, F.ords_at h⟩
end So
end
section
set_option maxHeartbeats 4000000
/-! The stretches of a plan: each leg. -/
namespace So
open PySem PySem.Spec PyProof.Rows L2 He Zg GenW
abbrev gSt (P : Program) (w : World) (K : PySem.W.Frag) (mg : Str → Option Value) (base : Heap) (T : Wt) : GX := ⟨P, w, K, mg, base, 6, Tbs T⟩
abbrev envSt (L f : Addr) (cdv : Value) : Env := envOfC "stretches" (defScope s_stretches) L f cdv
/-- how the def's code ends -/
abbrev kEnd : Flow → Sem PySem.Fin := fun f => .pure (.done (.ret (match f with | .ret v => v | _ => .none)))
section
variable {P : Program} {w : World} {K : PySem.W.Frag} {mg : Str → Option Value} {base : Heap} {T : Wt}
theorem st_env {L f : Addr} {cdv : Value} (h : base.objs.size ≤ L) : EnvOk (gSt P w K mg base T) (envSt L f cdv) Nst where
  kind := rfl
  glob := rfl
  blt := rfl
  fr := rfl
  nd := sc_stretches.nd
  nl := fun i x e => by
    match i with
    | 0 => cases e; rfl
    | 1 => cases e; rfl
    | 2 => cases e; rfl
    | 3 => cases e; rfl
    | 4 => cases e; rfl
    | 5 => cases e; rfl
    | 6 => cases e; rfl
    | 7 => cases e; rfl
    | 8 => cases e; rfl
    | 9 => cases e; rfl
    | 10 => cases e; rfl
    | 11 => cases e; rfl
    | 12 => cases e; rfl
    | 13 => cases e; rfl
    | i + 14 => cases e
  bl := h
theorem st_leg2 (kn : Kn K mg) (kt : Kt K mg base T) {L f : Addr} {cdv : Value} {plan cal phs ph ords : Addr} {ps : List Int} {c s0 op first : Int} {os : List Ord} {ots : List Addr} {Fs : List (Addr × HO)} (F : PlanF Fs plan ps c s0 os cal phs ph ords ots)
    (c1 : 1 ≤ c) (c2 : c ≤ 400) (hos : ∀ o ∈ os, OrdOk c o) (hol : os.length ≤ 1000) (b1 : -1000000000000 ≤ s0 ∧ s0 ≤ 1000000000000) (b2 : -1000000000000 ≤ first ∧ first ≤ 1000000000000)
    {B : Around} {outer : List Env} {s1 s : Shared} {H1 H : Hp} {pins : List (Addr × Obj)} {σ : L2.St} {J0 : Value → Sem PySem.Fin} {v4 : Option V} {a5 a6 a7 a8 a9 a10 a11 a12 a13 : Option V}
    (hσ : σ = [some (.ref plan), some (.int op), some (.int first), some .non, v4, a5, a6, a7, a8, a9, a10, a11, a12, a13]) (L0 : LegPre (gSt P w K mg base T) B outer Fs pins s1 H1)
    (I : ZInv (zOf (gSt P w K mg base T) (B.deeper (envSt L f cdv)) (envSt L f cdv) outer Nst pins s1 H1 5) [] σ H s) (g : Gr T H1 H) :
    RunZ (zOf (gSt P w K mg base T) (B.deeper (envSt L f cdv)) (envSt L f cdv) outer Nst pins s1 H1 5) B (PostOf (gSt P w K mg base T) [Y2 (ga K "Stretch") T os c s0 op first] Fs pins outer s1 H1) (.func (defBody s_stretches) (envSt L f cdv)) ((execs ((defBody s_stretches).drop 2) (envSt L f cdv)).wrap kEnd J0 id id) [] s := by
  subst hσ
  have md : K.In base := L0.e0.mod.kin
  have md' : (zOf (gSt P w K mg base T) (B.deeper (envSt L f cdv)) (envSt L f cdv) outer Nst pins s1 H1 5).K.In (zOf (gSt P w K mg base T) (B.deeper (envSt L f cdv)) (envSt L f cdv) outer Nst pins s1 H1 5).base := md
  have ov : B.over (.func (defBody s_stretches) (envSt L f cdv)) [] = B.deeper (envSt L f cdv) := over_func
  have fH : ∀ {H'}, Gr T H1 H' → ∀ q ∈ Fs, (∀ xs, q.2 = .tup xs → H' q.1 = some (.tup xs)) := fun {H'} g' q hq xs e => by
    have z := (L0.facts q hq).1
    rw [e] at z
    exact g'.get z
  refine lz_cons ?_
  refine lz_for (Q := fun v H' => ∃ l t, v = .ref l ∧ H' l = some (.lst [.ref t]) ∧ H' t = some (.tup [.int 0, .int s0, .non, .ref ords]) ∧ Gr T H1 H') ov (zf (ok_spans_of (T := T) kn) (by decide : (1 : Nat) ≤ 5) (kn.glo "spans_of") md' (za_cons (z_ixT (z_var (i := 0) rfl) z_int (fun _ _ => rfl)) za_nil)) (fun v => rfl) rfl I ?_ ?_ ?_
  · refine ⟨_, rfl, plan, _, _, .ref phs, rfl, rfl, fH g _ F.f1 _ rfl, rfl, phs, ords, s0, rfl, ⟨ph, fH g _ F.f3 _ rfl, fH g _ F.f4 _ rfl⟩, g.tb, fun l t H' g' hl e1 e2 => ⟨l, t, rfl, e1, e2, g.trans g'⟩⟩
  · rintro v H' ⟨l, t, rfl, e, _⟩
    exact ⟨l, _, rfl, e⟩
  · rintro l it xs s' H' ⟨l', t, e1, hl, ht, g'⟩ hxs I' io hown hgt li kk l0 p0 hkk
    cases e1
    have ov2 : ∀ (tg : Expr) (itv : Value) (body : List Stmt), B.over (.forLoop tg itv body [] (envSt L f cdv)) [.ret kk none false l0 (.func (defBody s_stretches) (envSt L f cdv)) p0 []] = B.deeper (envSt L f cdv) := fun tg itv body => (over_loop rfl rfl).trans ov
    refine lz_loop_item (is := [5, 6, 7, 8]) rfl (ov2 _ _ _) I' io li hl (t := t) rfl ht (.cons rfl (.cons rfl (.cons rfl (.cons rfl .nil rfl) rfl) rfl) rfl) rfl rfl rfl fun J s2 ob I2 hcl hdt => ?_
    -- begin
    refine lz_cons (lz_plain (N := fun σ' H'' => σ' = [some (.ref plan), some (.int op), some (.int first), some .non, v4, some (.int 0), some (.int s0), some .non, some (.ref ords), some (.int (max s0 first)), a10, a11, a12, a13] ∧ H'' = H') (ov2 _ _ _) (zs_set (i := 9) rfl (z_callB zc_max2 rfl (kn.free "max") boot_max (za_cons (z_var (i := 6) rfl) (za_cons (z_var (i := 2) rfl) za_nil)))) I2 ?_ ?_)
    · refine ⟨_, rfl, _, rfl, _, _, rfl, ?_, rfl⟩
      have e : (if first > s0 then first else s0) = max s0 first := by
        rw [Int.max_def]
        by_cases h : s0 ≤ first
        · rw [if_pos h]
          by_cases h2 : first > s0
          · rw [if_pos h2]
          · rw [if_neg h2]; omega
        · rw [if_neg h, if_neg (by omega)]
      show _ = _
      rw [e]
      rfl
    rintro s3 σ3 H3 I3 ⟨rfl, rfl⟩
    -- finish
    refine lz_cons (lz_plain (N := fun σ' H'' => σ' = [some (.ref plan), some (.int op), some (.int first), some .non, v4, some (.int 0), some (.int s0), some .non, some (.ref ords), some (.int (max s0 first)), some .non, a11, a12, a13] ∧ H'' = H3) (ov2 _ _ _) (zs_set (i := 10) rfl (z_ife (z_isN (z_var (i := 3) rfl)) (z_var (i := 7) rfl) z_dead)) I3 ?_ ?_)
    · exact ⟨_, rfl, _, rfl, rfl, rfl⟩
    rintro s4 σ4 H4 I4 ⟨rfl, rfl⟩
    refine lz_cons (lz_if (Q := fun b H'' => b = true ∧ H'' = H4) (ov2 _ _ _) (z_or (z_isN (z_var (i := 10) rfl)) (z_or1 z_deadT)) I4 ?_ ?_)
    · exact ⟨_, rfl, rfl, rfl⟩
    rintro b s5 H5 I5 ⟨rfl, rfl⟩
    rw [if_pos rfl]
    -- changes
    refine lz_cons (lz_plain (N := fun σ' H'' => ∃ lc, σ' = [some (.ref plan), some (.int op), some (.int first), some .non, v4, some (.int 0), some (.int s0), some .non, some (.ref ords), some (.int (max s0 first)), some .non, some (.ref lc), a12, a13] ∧ Gr T H1 H'' ∧ H'' lc = some (.lst ((flows c os).map V.int)) ∧ H'' l = some (.lst [.ref t])) (ov2 _ _ _)
      (zs_set (i := 11) rfl (zf (ok_flow_list (T := T) kn) (by decide : (1 : Nat) ≤ 5) (kn.glo "flow_list") md' (za_cons (z_ixT (z_var (i := 0) rfl) z_int (fun _ _ => rfl)) (za_cons (z_var (i := 8) rfl) za_nil)))) I5 ?_ ?_)
    · refine ⟨_, rfl, plan, _, _, .ref cal, rfl, rfl, fH g' _ F.f1 _ rfl, rfl, _, rfl, cal, ords, ps, c, os, rfl, fH g' _ F.f2 _ rfl, ?_, c1, c2, hos, g'.tb, fun lc H' gc hlc e => ⟨lc, rfl, g'.trans gc, e, gc.get hl⟩⟩
      exact (F.ords_at L0.facts).ext g'.tups
    rintro s6 σ6 H6 I6 ⟨lc, rfl, g6, hc6, hl6⟩
    -- amounts
    refine lz_cons (lz_plain (N := fun σ' H'' => ∃ la, σ' = [some (.ref plan), some (.int op), some (.int first), some .non, v4, some (.int 0), some (.int s0), some .non, some (.ref ords), some (.int (max s0 first)), some .non, some (.ref lc), some (.ref la), a13] ∧ Gr T H1 H'' ∧ H'' lc = some (.lst ((flows c os).map V.int)) ∧ H'' l = some (.lst [.ref t]) ∧ H'' la = some (.lst ((amts os c s0 op (max s0 first) 0).map V.int)) ∧ H1 la = none ∧ la ≠ lc ∧ la ≠ l) (ov2 _ _ _)
      (zs_set (i := 12) rfl (z_lst (za_cons (zf (ok_balance_at kn kt) (by decide : (5 : Nat) ≤ 5) (kn.glo "balance_at") md' (za_cons (z_var (i := 0) rfl) (za_cons (z_var (i := 1) rfl) (za_cons (z_var (i := 9) rfl) za_nil)))) za_nil))) I6 ?_ ?_)
    · refine ⟨_, rfl, _, rfl, _, rfl, plan, ps, c, s0, op, max s0 first, os, rfl, (F.plan_at L0.facts).ext g6.tups, c2, c1, hos, hol, g6.tb, fun H' gb => ⟨(by decide : 1 ≤ sizeLine), fun la hla => ?_⟩⟩
      have gg := g6.trans gb
      refine ⟨la, rfl, gg.new hla, ?_, ?_, upd_same, ?_, ?_, ?_⟩
      · rw [upd_ne (fun z => by rw [← z, gb.get hc6] at hla; cases hla)]
        exact gb.get hc6
      · rw [upd_ne (fun z => by rw [← z, gb.get hl6] at hla; cases hla)]
        exact gb.get hl6
      · exact gg.nn hla
      · exact fun z => by rw [z, gb.get hc6] at hla; cases hla
      · exact fun z => by rw [z, gb.get hl6] at hla; cases hla
    rintro s7 σ7 H7 I7 ⟨la, rfl, g7, hc7, hl7, ha7, hn7, nac, nal⟩
    -- the loop over the days of a cycle
    have flen : ((flows c os).map V.int).length = c.toNat := by rw [List.length_map, flows_len]
    refine lz_cons (lz_plain (N := fun σ' H'' => ∃ a13, σ' = [some (.ref plan), some (.int op), some (.int first), some .non, v4, some (.int 0), some (.int s0), some .non, some (.ref ords), some (.int (max s0 first)), some .non, some (.ref lc), some (.ref la), a13] ∧ Gr T H1 H'' ∧ H'' lc = some (.lst ((flows c os).map V.int)) ∧ H'' l = some (.lst [.ref t]) ∧ H'' la = some (.lst ((amts os c s0 op (max s0 first) (c.toNat - 1)).map V.int))) (ov2 _ _ _)
      (zs_forR (i := 13) rfl rfl (kn.free "range") (za_cons (z_add (z_var (i := 9) rfl) z_int) (za_cons (z_add (z_var (i := 9) rfl) (z_ixT (z_ixT (z_var (i := 0) rfl) z_int (fun _ _ => rfl)) (z_neg z_int) (fun _ _ => rfl))) za_nil))
        (zss_cons (zs_expr (z_append (z_var (i := 12) rfl) (z_add (z_ixL (z_var (i := 12) rfl) (z_neg z_int) (fun _ _ => rfl)) (z_ixL (z_var (i := 11) rfl) (z_mod (z_var (i := 13) rfl) (z_callB zc_len rfl (kn.free "len") boot_len (za_cons (z_var (i := 11) rfl) za_nil))) (fun _ _ => rfl))))) zss_nil)) I7 ?_ ?_)
    · have mx1 : -1000000000000 ≤ max s0 first ∧ max s0 first ≤ 1000000000000 := by omega
      refine ⟨_, rfl, _, _, rfl, rfl, trivial, _, rfl, _, rfl, plan, _, _, .ref cal, rfl, rfl, fH g7 _ F.f1 _ rfl, rfl, _, rfl, cal, _, _, .int c, rfl, rfl, fH g7 _ F.f2 _ rfl, ?_, _, _, rfl, rfl, trivial, ?_⟩
      · rw [List.map_append]
        exact atI_last _ _
      refine ⟨_, _, rfl, ⟨by omega, by omega, by omega, by omega⟩, fun j σ' H'' => ∃ a13, σ' = [some (.ref plan), some (.int op), some (.int first), some .non, v4, some (.int 0), some (.int s0), some .non, some (.ref ords), some (.int (max s0 first)), some .non, some (.ref lc), some (.ref la), a13] ∧ Gr T H1 H'' ∧ H'' lc = some (.lst ((flows c os).map V.int)) ∧ H'' l = some (.lst [.ref t]) ∧ H'' la = some (.lst ((amts os c s0 op (max s0 first) j).map V.int)), ⟨_, rfl, g7, hc7, hl7, ha7⟩, fun j σ' H'' hj hi => ?_, fun σ' H'' hi => ?_⟩
      · obtain ⟨a13', rfl, g8, hc8, hl8, ha8⟩ := hi
        have hcp : (0 : Int) < ((flows c os).map V.int).length := by rw [flen]; omega
        refine ⟨_, rfl, la, _, rfl, ha8, _, rfl, _, rfl, la, _, _, .int (amt os c s0 op (max s0 first) j), rfl, rfl, ha8, amts_last .., _, rfl, _, rfl, _, rfl, lc, _, rfl, hc8, _, _, rfl, rfl, hcp, ?_⟩
        rw [flen]
        have hcc : ((c.toNat : Nat) : Int) = c := Int.toNat_of_nonneg (by omega)
        have e1 : (max s0 first + 1 + (j : Int)) % ((c.toNat : Nat) : Int) = (max s0 first + 1 + (j : Int)) % c := by rw [hcc]
        have m0 : 0 ≤ (max s0 first + 1 + (j : Int)) % c := Int.emod_nonneg _ (by omega)
        have m1 : (max s0 first + 1 + (j : Int)) % c < c := Int.emod_lt_of_pos _ (by omega)
        have hlt : ((max s0 first + 1 + (j : Int)) % c).toNat < (flows c os).length := by rw [flows_len]; omega
        refine ⟨lc, _, _, .int ((flows c os).getD ((max s0 first + 1 + (j : Int)) % c).toNat 0), rfl, rfl, hc8, ?_, _, _, rfl, rfl, trivial, _, ha8, ?_, ?_⟩
        · rw [e1]
          have z := atI_nat (xs := (flows c os).map V.int) (j := ((max s0 first + 1 + (j : Int)) % c).toNat) (v := .int ((flows c os).getD ((max s0 first + 1 + (j : Int)) % c).toNat 0)) (by rw [List.getElem?_map, List.getD_eq_getElem?_getD, List.getElem?_eq_getElem hlt]; rfl)
          rw [Int.toNat_of_nonneg m0] at z
          exact z
        · rw [List.length_map, amts_len]
          have : sizeLine = 16777216 := sizeLine_eq
          omega
        · refine ⟨_, rfl, g8.turn hn7 ha8, ?_, ?_, ?_⟩
          · rw [upd_ne (Ne.symm nac)]
            exact hc8
          · rw [upd_ne (Ne.symm nal)]
            exact hl8
          · rw [upd_same, amts_succ, List.map_append]
            rfl
      · have e : (max s0 first + c - (max s0 first + 1)).toNat = c.toNat - 1 := by omega
        rw [e] at hi
        exact hi
    rintro s8 σ8 H8 I8 ⟨a13', rfl, g8, hc8, hl8, ha8⟩
    -- yield
    refine lz_cons (lz_yield (Q := fun v H'' => (∃ p, v = .ref p ∧ Gr T H1 H'' ∧ StrAt (ga K "Stretch") H'' p (max s0 first) none (amts os c s0 op (max s0 first) (c.toNat - 1)) (flows c os).sum) ∧ H'' l = some (.lst [.ref t])) (ov2 _ _ _) rfl rfl
      (zmk (kn.mkr "Stretch") (ok_Stretch_init kn) (by decide : (1 : Nat) + 1 ≤ 5) (kn.glo "Stretch") md' (za_cons (z_var (i := 9) rfl) (za_cons (z_var (i := 10) rfl) (za_cons (z_var (i := 12) rfl) (za_cons (z_callB zc_sum rfl (kn.free "sum") boot_sum (za_cons (z_var (i := 11) rfl) za_nil)) za_nil))))) I8 ?_ ?_ rfl)
    · refine ⟨_, rfl, _, rfl, _, rfl, _, rfl, lc, _, rfl, hc8, fun x dx hx hdx hne => ?_⟩
      refine ⟨x, dx, max s0 first, none, la, (flows c os).sum, rfl, upd_same, rfl, ⟨x, rfl, ?_, dx, la, upd_same, ?_⟩, ?_⟩
      · have gA : Gr T H1 (upd H8 dx (.own x)) := g8.new hdx
        have hx' : (upd H8 dx (.own x)) x = none := by rw [upd_ne (Ne.symm hne)]; exact hx
        have gb : Gr T H1 (upd (upd H8 dx (.own x)) x (.ins (ga K "Stretch") dx [])) := gA.new hx'
        exact gb.turn (g8.nn hx) upd_same
      · rw [upd_ne (fun z => by rw [z, hx] at ha8; cases ha8), upd_ne (fun z => by rw [z, hx] at ha8; cases ha8), upd_ne (fun z => by rw [z, hdx] at ha8; cases ha8)]
        exact ha8
      · rw [upd_ne (fun z => by rw [z, hx] at hl8; cases hl8), upd_ne (fun z => by rw [z, hx] at hl8; cases hl8), upd_ne (fun z => by rw [z, hdx] at hl8; cases hl8)]
        exact hl8
    rintro v u s9 H9 I9 rv ⟨⟨p, rfl, g9, S9⟩, hl9⟩ gd9 lv9 kk9 pp9 hg9 hk9
    subst hg9
    obtain ⟨oL', hoL', hfL'⟩ := zinv_frame I9
    obtain ⟨i1, i2, i3, i4⟩ := I9.pin (it, ob) List.mem_cons_self
    obtain ⟨f1, f2⟩ := I9.ownF _ I9.ok.ownL
    refine ⟨.ref p, H9, [(l, .lst [.ref t])], [(L, oL'), (it, ob)], u, lv9, kk9, _, pp9, _, rfl, rfl, rv, ⟨p, rfl, g9, S9⟩, zinv_went I9 g9.tb, ⟨fun q hq => ?_, fun q hq => ?_⟩, fun q hq => ?_, fun q hq => ?_, ?_⟩
    · rcases List.mem_cons.mp hq with z | z
      · rw [z]
        exact ⟨hoL', f1, I9.ok.ownS _ I9.ok.ownL, I9.ok.ownB _ I9.ok.ownL⟩
      · have e : q = (it, ob) := by simpa using z
        rw [e]
        exact ⟨i1, i2, i4, io.fr.2.1⟩
    · rcases List.mem_cons.mp hq with z | z
      · rw [z]
        exact frame_nc hoL' hfL'
      · have e : q = (it, ob) := by simpa using z
        rw [e]
        exact fun v y => by rw [hdt] at y; cases y
    · rcases List.mem_cons.mp hq with z | z
      · rw [z]
        exact .inl I9.ok.ownL
      · have e : q = (it, ob) := by simpa using z
        rw [e]
        rcases io.fr.1 with y | y
        · exact .inl y
        · exact .inr ⟨y, hgt⟩
    · have e : q = (l, HO.lst [.ref t]) := by simpa using hq
      rw [e]
      exact ⟨hl9, fun ps z => by cases z⟩
    · refine asleep_of fun B' outer' s' H' L' => ?_
      have hrB : Room 5 (B'.deeper (envSt L f cdv)) := L'.room.deeper _
      have I' := zinv_begin (A := B'.deeper (envSt L f cdv)) L' (st_env I9.ok.bl) (Around.frames_deeper L'.e0.frames) hrB (List.mem_cons_self ..) hfL' rfl
      refine hk9 _ B' _ s' ?_
      refine lz_nil (Z := zOf (gSt P w K mg base T) (B'.deeper (envSt L f cdv)) (envSt L f cdv) outer' Nst [(L, oL'), (it, ob)] s' H' 5) (lz_nil (Z := zOf (gSt P w K mg base T) (B'.deeper (envSt L f cdv)) (envSt L f cdv) outer' Nst [(L, oL'), (it, ob)] s' H' 5) ?_)
      refine Leg.once rfl ?_
      obtain ⟨p1, p2, p3, p4⟩ := L'.pins.at_ (it, ob) (by simp)
      refine lz_loop_end (Z := zOf (gSt P w K mg base T) (B'.deeper (envSt L f cdv)) (envSt L f cdv) outer' Nst [(L, oL'), (it, ob)] s' H' 5) (fs := []) rfl ((over_loop rfl rfl).trans over_func) I' ⟨p2, i3, ⟨.inl (by simp), p4, p3⟩, fun q hq => nomatch hq⟩ ⟨ob, p1, hcl, hdt⟩ (L'.facts (l, HO.lst [.ref t]) (by simp)).1 (Nat.le_refl 1) fun s'' I'' => ?_
      refine hkk _ B' _ s'' ?_
      refine lz_nil (Z := zOf (gSt P w K mg base T) (B'.deeper (envSt L f cdv)) (envSt L f cdv) outer' Nst [(L, oL'), (it, ob)] s' H' 5) ?_
      exact Leg.over_ (.ok (.ret .none)) ⟨.inl rfl, zinv_went I'' L'.tb⟩
end
end So
end
section
set_option maxHeartbeats 4000000
/-! The stretches of a plan: from the beginning. -/
namespace So
open PySem PySem.Spec PyProof.Rows L2 He Zg GenW
section
variable {P : Program} {w : World} {K : PySem.W.Frag} {mg : Str → Option Value} {base : Heap} {T : Wt}
theorem st_first (kn : Kn K mg) (kt : Kt K mg base T) {L f : Addr} {cdv : Value} {plan cal phs ph ords : Addr} {ps : List Int} {c s0 op first : Int} {os : List Ord} {ots : List Addr} {Fs : List (Addr × HO)} (F : PlanF Fs plan ps c s0 os cal phs ph ords ots)
    (c1 : 1 ≤ c) (c2 : c ≤ 400) (hos : ∀ o ∈ os, OrdOk c o) (hol : os.length ≤ 1000) (b1 : -1000000000000 ≤ s0 ∧ s0 ≤ 1000000000000) (b2 : -1000000000000 ≤ first ∧ first ≤ 1000000000000) (hbl : base.objs.size ≤ L)
    {oL : Obj} (hfL : FrameAt Nst L oL (start Nst [.ref plan, .int op, .int first, .non])) :
    Asleep (gSt P w K mg base T) (if first ≤ s0 - 1 then [Y1 (ga K "Stretch") T s0 op first, Y2 (ga K "Stretch") T os c s0 op first] else [Y2 (ga K "Stretch") T os c s0 op first]) Fs [(L, oL)] (.fresh (.func (defBody s_stretches) (envSt L f cdv))) := by
  refine asleep_of fun B outer s1 H1 L0 => ?_
  refine leg_func ?_
  have hrB : Room 5 (B.deeper (envSt L f cdv)) := L0.room.deeper _
  have I := zinv_begin (A := B.deeper (envSt L f cdv)) L0 (st_env hbl) (Around.frames_deeper L0.e0.frames) hrB (List.mem_cons_self ..) hfL rfl
  have ov : B.over (.func (defBody s_stretches) (envSt L f cdv)) [] = B.deeper (envSt L f cdv) := over_func
  have md' : (zOf (gSt P w K mg base T) (B.deeper (envSt L f cdv)) (envSt L f cdv) outer Nst [(L, oL)] s1 H1 5).K.In (zOf (gSt P w K mg base T) (B.deeper (envSt L f cdv)) (envSt L f cdv) outer Nst [(L, oL)] s1 H1 5).base := L0.e0.mod.kin
  have ff := L0.facts
  refine lz_cons (Z := zOf (gSt P w K mg base T) (B.deeper (envSt L f cdv)) (envSt L f cdv) outer Nst [(L, oL)] s1 H1 5) (lz_plain (N := fun σ' H'' => σ' = [some (.ref plan), some (.int op), some (.int first), some .non, some (.int (s0 - 1)), none, none, none, none, none, none, none, none, none] ∧ H'' = H1) ov (zs_set (i := 4) rfl (z_sub (z_ixT (z_ixT (z_ixT (z_var (i := 0) rfl) z_int (fun _ _ => rfl)) z_int (fun _ _ => rfl)) z_int (fun _ _ => rfl)) z_int)) I ?_ ?_)
  · exact ⟨_, rfl, plan, _, _, .ref phs, rfl, rfl, (ff _ F.f1).1, rfl, phs, _, _, .ref ph, rfl, rfl, (ff _ F.f3).1, rfl, ph, _, _, .int s0, rfl, rfl, (ff _ F.f4).1, rfl, _, _, rfl, rfl, trivial, rfl, rfl⟩
  rintro s2 σ2 H2 I2 ⟨rfl, rfl⟩
  refine lz_cons (Z := zOf (gSt P w K mg base T) (B.deeper (envSt L f cdv)) (envSt L f cdv) outer Nst [(L, oL)] s1 H2 5) (lz_if (Q := fun b H'' => b = decide (first ≤ s0 - 1) ∧ H'' = H2) ov (z_le (z_var (i := 2) rfl) (z_var (i := 4) rfl)) I2 ?_ ?_)
  · exact ⟨_, rfl, _, rfl, _, _, rfl, rfl, _, rfl, rfl, rfl⟩
  rintro b s3 H3 I3 ⟨rfl, rfl⟩
  by_cases hle : first ≤ s0 - 1
  · rw [decide_eq_true hle, if_pos rfl, if_pos hle]
    refine lz_cons (Z := zOf (gSt P w K mg base T) (B.deeper (envSt L f cdv)) (envSt L f cdv) outer Nst [(L, oL)] s1 H3 5) (lz_yield (Q := fun v H'' => ∃ p, v = .ref p ∧ Gr T H3 H'' ∧ StrAt (ga K "Stretch") H'' p first (some (s0 - 1)) [op] 0) ov rfl rfl
      (zmk (kn.mkr "Stretch") (ok_Stretch_init kn) (by decide : (1 : Nat) + 1 ≤ 5) (kn.glo "Stretch") md' (za_cons (z_var (i := 2) rfl) (za_cons (z_ife (z_isN (z_var (i := 3) rfl)) (z_var (i := 4) rfl) z_dead) (za_cons (z_lst (za_cons (z_var (i := 1) rfl) za_nil)) (za_cons z_int za_nil))))) I3 ?_ ?_ rfl)
    · refine ⟨_, rfl, _, rfl, _, rfl, _, rfl, (by decide : 1 ≤ sizeLine), fun al hal x dx hx hdx hne => ?_⟩
      have gA : Gr T H3 (upd H3 al (.lst [.int op])) := (Gr.refl L0.tb).new hal
      have hla : (upd H3 al (.lst [.int op])) al = some (.lst [.int op]) := upd_same
      generalize upd H3 al (.lst [.int op]) = Hx at gA hla hx hdx ⊢
      refine ⟨x, dx, first, some (s0 - 1), al, 0, rfl, upd_same, rfl, x, rfl, ?_, dx, al, upd_same, ?_⟩
      · have gB := gA.new (o := .own x) hdx
        have hx' : (upd Hx dx (.own x)) x = none := by rw [upd_ne (Ne.symm hne)]; exact hx
        have gC := gB.new (o := .ins (ga K "Stretch") dx []) hx'
        exact gC.turn (gA.nn hx) upd_same
      · rw [upd_ne (fun z => by rw [z, hx] at hla; cases hla), upd_ne (fun z => by rw [z, hx] at hla; cases hla), upd_ne (fun z => by rw [z, hdx] at hla; cases hla)]
        exact hla
    rintro v u s9 H9 I9 rv ⟨p, rfl, g9, S9⟩ gd9 lv9 kk9 pp9 hg9 hk9
    subst hg9
    obtain ⟨oL', hoL', hfL'⟩ := zinv_frame I9
    obtain ⟨f1, f2⟩ := I9.ownF _ I9.ok.ownL
    have F9 : ∀ q ∈ Fs, (∀ xs, q.2 = .tup xs → H9 q.1 = some (.tup xs)) := fun q hq xs e => by
      have z := (ff q hq).1
      rw [e] at z
      exact g9.get z
    -- the facts of tuples go on
    obtain ⟨Ft, hFt⟩ : ∃ Ft : List (Addr × HO), Ft = Fs.filter fun q => match q.2 with | .tup _ => true | _ => false := ⟨_, rfl⟩
    have mem : ∀ a xs, (a, HO.tup xs) ∈ Fs → (a, HO.tup xs) ∈ Ft := fun a xs h => by rw [hFt]; exact List.mem_filter.mpr ⟨h, rfl⟩
    have F' : PlanF Ft plan ps c s0 os cal phs ph ords ots := ⟨mem _ _ F.f1, mem _ _ F.f2, mem _ _ F.f3, mem _ _ F.f4, mem _ _ F.f5, fun j t e => let ⟨o, e1, e2⟩ := F.f6 j t e; ⟨o, e1, mem _ _ e2⟩, F.f7⟩
    refine ⟨.ref p, H9, Ft, [(L, oL')], u, lv9, kk9, _, pp9, _, rfl, rfl, rv, ⟨p, rfl, g9, S9⟩, zinv_went I9 g9.tb, ⟨fun q hq => ?_, fun q hq => ?_⟩, fun q hq => ?_, fun q hq => ?_, ?_⟩
    · have e : q = (L, oL') := by simpa using hq
      rw [e]
      exact ⟨hoL', f1, I9.ok.ownS _ I9.ok.ownL, I9.ok.ownB _ I9.ok.ownL⟩
    · have e : q = (L, oL') := by simpa using hq
      rw [e]
      exact frame_nc hoL' hfL'
    · have e : q = (L, oL') := by simpa using hq
      rw [e]
      exact .inl I9.ok.ownL
    · rw [hFt] at hq
      obtain ⟨h1, h2⟩ := List.mem_filter.mp hq
      cases e : q.2 with
      | tup xs => exact ⟨F9 q h1 xs e, fun ps z => by cases z⟩
      | _ => rw [e] at h2; cases h2
    · refine asleep_of fun B' outer' s' H' L' => ?_
      have hrB' : Room 5 (B'.deeper (envSt L f cdv)) := L'.room.deeper _
      have I' := zinv_begin (A := B'.deeper (envSt L f cdv)) L' (st_env hbl) (Around.frames_deeper L'.e0.frames) hrB' (List.mem_cons_self ..) hfL' rfl
      refine hk9 _ B' _ s' ?_
      refine lz_nil (Z := zOf (gSt P w K mg base T) (B'.deeper (envSt L f cdv)) (envSt L f cdv) outer' Nst [(L, oL')] s' H' 5) ?_
      exact st_leg2 kn kt F' c1 c2 hos hol b1 b2 rfl L' I' (Gr.refl L'.tb)
  · rw [decide_eq_false hle, if_neg Bool.false_ne_true, if_neg hle]
    refine lz_nil (Z := zOf (gSt P w K mg base T) (B.deeper (envSt L f cdv)) (envSt L f cdv) outer Nst [(L, oL)] s1 H3 5) ?_
    exact st_leg2 kn kt F c1 c2 hos hol b1 b2 rfl L0 I3 (Gr.refl L0.tb)
end
end So
end
section
set_option maxHeartbeats 4000000
/-! stretches(..): a generator that has not begun. -/
namespace So
open PySem PySem.Spec PyProof.Rows L2 He Zg GenW
/-- what the call leaves -/
structure StMade (P : Program) (w : World) (K : PySem.W.Frag) (mg : Str → Option Value) (base : Heap) (T : Wt) (outer : List Env) (Fs : List (Addr × HO)) (ys : List YSpec) (s : Shared) (H : Hp) (a g L : Addr) (oL : Obj) (gs : GenState) (s2 : Shared) : Prop where
  sat : Sat (gSt P w K mg base T) outer s H s2 H
  held : Held (gSt P w K mg base T) outer s Fs [(L, oL)] a g gs s2 H
  sl : Asleep (gSt P w K mg base T) ys Fs [(L, oL)] gs
  new : s.heap.objs.size ≤ L ∧ L < a ∧ a < s2.heap.objs.size
  keep : ∀ b o, s.heap.get? b = some o → s2.heap.get? b = some o
  gold : ∀ (i : Nat) (x : GenState), s.gens[i]? = some x → s2.gens[i]? = some x
section
variable {P : Program} {w : World} {K : PySem.W.Frag} {mg : Str → Option Value} {base : Heap} {T : Wt}
theorem st_call (kn : Kn K mg) (kt : Kt K mg base T) {plan cal phs ph ords : Addr} {ps : List Int} {c s0 op first : Int} {os : List Ord} {ots : List Addr} {Fs : List (Addr × HO)} (F : PlanF Fs plan ps c s0 os cal phs ph ords ots)
    (c1 : 1 ≤ c) (c2 : c ≤ 400) (hos : ∀ o ∈ os, OrdOk c o) (hol : os.length ≤ 1000) (b1 : -1000000000000 ≤ s0 ∧ s0 ≤ 1000000000000) (b2 : -1000000000000 ≤ first ∧ first ≤ 1000000000000)
    {A : Around} {outer : List Env} {s : Shared} {H : Hp} {k : Nat} (hr : Room k A) (e0 : Env0 P w K mg base A outer s H) (tb : Tbs T H) (hF : FactsOk Fs H) {us : List Value} (r : Vals [.ref plan, .int op, .int first, .non] us) :
    codeAny (model P w) A (.call (.ref (ga K "stretches")) ⟨us, []⟩) (fun rr s' => ∃ a g L oL gs, rr = .ok (.ret (.ref a)) ∧ StMade P w K mg base T outer Fs (if first ≤ s0 - 1 then [Y1 (ga K "Stretch") T s0 op first, Y2 (ga K "Stretch") T os c s0 op first] else [Y2 (ga K "Stretch") T os c s0 op first]) s H a g L oL gs s') s := by
  obtain ⟨fd, FD⟩ := kn.f_stretches
  obtain ⟨oc, od, dV, kV, doc, pm, an, cdv, ct, osl, rfl, lk, hcd, hdv, _⟩ := FD.ex
  have edv : dV = .none := by
    rcases hdv with z | z
    · exact z.2
    · exact absurd rfl z.1
  subst edv
  have KX : K.In s.heap := e0.mod.kin.keeps fun b o e => (e0.bs b o e).1
  have lim : s.heap.NoLimit := e0.mod.nolimit.keeps fun b o e => (e0.bs b o e).1
  obtain ⟨u1, u2, u3, u4, rfl, r1, r2, r3, r4⟩ : ∃ u1 u2 u3 u4, us = [u1, u2, u3, u4] ∧ RelV (.ref plan) u1 ∧ RelV (.int op) u2 ∧ RelV (.int first) u3 ∧ RelV .non u4 := by
    cases r with
    | cons r1 r => cases r with
      | cons r2 r => cases r with
        | cons r3 r => cases r with
          | cons r4 r => cases r with
            | nil => exact ⟨_, _, _, _, rfl, r1, r2, r3, r4⟩
  have S := sc_stretches
  have hkind : ∀ y ∈ (["plan", "opening", "first", "last"] : List Str).zip [u1, u2, u3, u4], (defScope s_stretches).names.lookup y.1 = some .local ∨ ((defScope s_stretches).names.lookup y.1 = some .cell ∧ ((cellsFrom (s.heap.objs.size + 1) (defScope s_stretches).names []).lookup y.1).isSome = true) := fun ⟨n, v⟩ hy => by
    rcases S.par n (List.of_mem_zip hy).1 with q | q
    · exact .inl q
    · exact .inr ⟨q, PySem.W.cellsFrom_some _ _ _ (.inl q)⟩
  have hb : bindArgs (PySem.W.fnOf "stretches" "stretches" (defArgs s_stretches) (defBody s_stretches) (defScope s_stretches) .none kV doc pm an cdv ct) ⟨[u1, u2, u3, u4], []⟩ = pure ((["plan", "opening", "first", "last"] : List Str).zip [u1, u2, u3, u4]) := by rfl
  refine codeAny_call_generator hr.depth (KX _ _ lk) rfl S.co S.gen rfl (PySem.W.codeRec_of KX hcd) (wpAny_of_eq hb ?_)
  refine wpAny_newFunctionEnv_cells S.kind hkind fun env he s1 x => ?_
  subst he
  have lim1 : s1.heap.NoLimit := lim.keeps x.toInCall.keep
  refine ⟨lim1, ?_⟩
  obtain ⟨h1, tk, es1, hk1⟩ := x.done
  have kp1 : ∀ b o, s.heap.get? b = some o → s1.heap.get? b = some o := x.toInCall.keep
  have lt1 : s.heap.objs.size < s1.heap.objs.size := x.toInCall.ns.lt
  have os1 : s1.os = s.os := by rw [es1]
  have gen1 : s1.gens = s.gens := by rw [es1]
  obtain ⟨oL, hoL, hfL⟩ : ∃ oL, s1.heap.get? s.heap.objs.size = some oL ∧ FrameAt Nst s.heap.objs.size oL (start Nst [.ref plan, .int op, .int first, .non]) := by
    have ns := x.toInCall.ns
    obtain ⟨oL, es, ep, ho, q⟩ := id ns
    refine ⟨oL, ho, fun h e => ⟨_, ⟨oL, es, ep, e, q⟩, fun i y v e1 e2 => ?_⟩⟩
    have ndP : (["plan", "opening", "first", "last"] : List Str).Nodup := by decide +kernel
    have hpl : ∀ y, y ∈ (["plan", "opening", "first", "last"] : List Str) → (envOfC "stretches" (defScope s_stretches) s.heap.objs.size (ga K "stretches") cdv).kindOf y = some .local := fun y hy => by
      have z : ∀ y ∈ (["plan", "opening", "first", "last"] : List Str), (defScope s_stretches).names.lookup y = some .local := by decide +kernel
      exact z y hy
    match i with
    | 0 => cases e1; cases e2; exact ⟨u1, r1, bindL_get ndP (i := 0) rfl rfl (hpl _ (by decide +kernel))⟩
    | 1 => cases e1; cases e2; exact ⟨u2, r2, bindL_get ndP (i := 1) rfl rfl (hpl _ (by decide +kernel))⟩
    | 2 => cases e1; cases e2; exact ⟨u3, r3, bindL_get ndP (i := 2) rfl rfl (hpl _ (by decide +kernel))⟩
    | 3 => cases e1; cases e2; exact ⟨u4, r4, bindL_get ndP (i := 3) rfl rfl (hpl _ (by decide +kernel))⟩
    | 4 => cases e2
    | 5 => cases e2
    | 6 => cases e2
    | 7 => cases e2
    | 8 => cases e2
    | 9 => cases e2
    | 10 => cases e2
    | 11 => cases e2
    | 12 => cases e2
    | 13 => cases e2
    | i + 14 => cases e1
  have young : ∀ b : Addr, s.heap.objs.size ≤ b → H b = none ∧ b ∉ frs outer ∧ base.get? b = none ∧ s.heap.get? b = none := fun b hb => by
    have h1 : s.heap.get? b = none := by
      cases e : s.heap.get? b with
      | none => rfl
      | some o => exact absurd (Nat.lt_of_lt_of_le (Heap.lt_size e) hb) (Nat.lt_irrefl _)
    refine ⟨e0.hok.fresh hb, fun z => ?_, ?_, h1⟩
    · obtain ⟨_, o, ho, _⟩ := e0.funs.mem z
      rw [h1] at ho
      cases ho
    · cases e : base.get? b with
      | none => rfl
      | some o =>
        have := (e0.bs b o e).1
        rw [h1] at this
        cases this
  refine ⟨s1.heap.objs.size, s1.gens.size, s.heap.objs.size, oL, .fresh (.func (defBody s_stretches) (envSt s.heap.objs.size (ga K "stretches") cdv)), rfl, ?_⟩
  have main : ∀ (go : Obj) (nm qn : Value) (tk2 : Nat), go.cls = .type "generator" → go.data = .fields #[.int s1.gens.size 0, nm, qn] → go.slots = #[] → (s1.heap.push go).get? s1.heap.objs.size = some go →
      StMade P w K mg base T outer Fs (if first ≤ s0 - 1 then [Y1 (ga K "Stretch") T s0 op first, Y2 (ga K "Stretch") T os c s0 op first] else [Y2 (ga K "Stretch") T os c s0 op first]) s H s1.heap.objs.size s1.gens.size s.heap.objs.size oL (.fresh (.func (defBody s_stretches) (envSt s.heap.objs.size (ga K "stretches") cdv)))
        { s1 with gens := s1.gens.push (.fresh (.func (defBody s_stretches) (envSt s.heap.objs.size (ga K "stretches") cdv))), toks := tk2, heap := s1.heap.push go } := fun go nm qn tk2 g1 g2 g3 g4 => by
    have kp2 : ∀ b o, s.heap.get? b = some o → (s1.heap.push go).get? b = some o := fun b o e => Heap.get?_push_of_some _ (kp1 b o e)
    have sz2 : (s1.heap.push go).objs.size = s1.heap.objs.size + 1 := Heap.size_push ..
    have bz : base.objs.size ≤ s1.heap.objs.size := Nat.le_trans e0.bsz (Nat.le_of_lt lt1)
    refine ⟨⟨os1, AllBare.push (by rw [gen1]; exact e0.bare) rfl, Un.kept kp2, e0.hok.kept kp2, Nat.le_trans bz (by rw [sz2]; exact Nat.le_succ _), tb⟩, ⟨⟨go, nm, qn, g4, g1, g2, g3⟩, Array.getElem?_push_size .., ⟨fun p hp => ?_, fun p hp => ?_⟩, fun p hp => ?_, hF, (young _ (Nat.le_of_lt lt1)).1, (young _ (Nat.le_of_lt lt1)).2.1, fun z => ?_⟩,
      st_first kn kt F c1 c2 hos hol b1 b2 e0.bsz hfL, ⟨Nat.le_refl _, lt1, by show s1.heap.objs.size < (s1.heap.push go).objs.size; rw [sz2]; exact Nat.lt_succ_self _⟩, kp2, fun i y e => ?_⟩
    · have e : p = (s.heap.objs.size, oL) := by simpa using hp
      rw [e]
      obtain ⟨y1, y2, y3, _⟩ := young _ (Nat.le_refl s.heap.objs.size)
      exact ⟨Heap.get?_push_of_some _ hoL, y1, y2, y3⟩
    · have e : p = (s.heap.objs.size, oL) := by simpa using hp
      rw [e]
      exact frame_nc hoL hfL
    · have e : p = (s.heap.objs.size, oL) := by simpa using hp
      rw [e]
      exact (young _ (Nat.le_refl s.heap.objs.size)).2.2.2
    · have e : s1.heap.objs.size = s.heap.objs.size := by simpa using z
      rw [e] at lt1
      exact absurd lt1 (Nat.lt_irrefl _)
    · have hi2 : i < s1.gens.size := by rw [gen1]; exact (Array.getElem?_eq_some_iff.mp e).1
      show (s1.gens.push _)[i]? = some y
      rw [Array.getElem?_push, if_neg (Nat.ne_of_lt hi2), gen1]
      exact e
  exact main _ _ _ _ rfl rfl rfl (Heap.get?_push_size _ rfl)
end
end So
end
section
set_option maxHeartbeats 2000000
/-! for x in (a generator): body, in a def's body. -/
namespace Zg
open PySem PySem.Spec PyProof.Rows L2 GenW
/-- what a body holds of a generator that it walks -/
structure HeldX (G : GX) (X : Cx) (pins : List (Addr × Obj)) (T : List (Addr × HO)) (gp : List (Addr × Obj)) (a : Addr) (g : Nat) (gs : GenState) (s : Shared) (H : Hp) : Prop where
  gen : s.heap.IsGen a g
  at_ : s.gens[g]? = some gs
  pok : PinsOk G X.stack gp s H
  facts : FactsOk T H
  aH : H a = none
  aO : a ∉ frs X.stack
  aP : a ∉ gp.map (·.1)
  own : ∀ b, (b = a ∨ b ∈ gp.map (·.1)) → X.s_0.heap.objs.size ≤ b ∧ b ≠ X.env.locals ∧ (∀ x c, X.env.cells.lookup x = some c → c ≠ b) ∧ ∀ p ∈ X.pn ++ pins, p.1 ≠ b
/-- the same world -/
structure GXof (G : GX) (X : Cx) : Prop where
  prog : G.prog = X.prog
  w : G.w = X.w
  K : G.K = X.K
  mg : G.mg = X.mg
  base : G.base = X.base
abbrev TIG := L2.St → Hp → (List YSpec → Hp → Prop) → Prop
structure PIG (G : GX) (X : Cx) (iter : Expr) (ti : TIG) : Prop where
  run : ∀ (pins : List (Addr × Obj)) (s : Shared) (σ : L2.St) (H : Hp) (R : List YSpec → Hp → Prop), Inv X pins σ H s → ti σ H R →
    wpAny (model X.prog X.w) X.A (eval iter X.env) (fun v s' => ∃ (a : Addr) (g : Nat) (gs : GenState) (gp : List (Addr × Obj)) (T : List (Addr × HO)) (Ys : List YSpec) (H' : Hp), v = .ref a ∧ Inv X pins σ H' s' ∧ HeldX G X pins T gp a g gs s' H' ∧ Asleep G Ys T gp gs ∧ G.tb H' ∧ R Ys H') X.xe s
def Keeps (H H' : Hp) : Prop := ∀ b o, H b = some o → (∀ ps, o ≠ .tbl ps) → H' b = some o
/-- the loop's reading -/
def tItems (G : GX) (g : TG) (tb : TS) (D : Ends) : List YSpec → L2.St → Hp → Prop
  | [], σ, H => D.nx σ H
  | Y :: Ys, σ, H => ∀ v H', Y H v H' → g v σ H' fun σ2 H2 => tb { D with nx := fun σ' H7 => Keeps H' H7 ∧ G.tb H7 ∧ tItems G g tb D Ys σ' H7, ct := fun σ' H7 => Keeps H' H7 ∧ G.tb H7 ∧ tItems G g tb D Ys σ' H7, bk := D.nx } σ2 H2
def tForG (G : GX) (ti : TIG) (g : TG) (tb : TS) : TS := fun D σ H => ti σ H fun Ys H1 => tItems G g tb D Ys σ H1
section
variable {G : GX} {X : Cx} {pins : List (Addr × Obj)} {σ : L2.St} {s s' : Shared} {H H' : Hp} {T : List (Addr × HO)} {gp : List (Addr × Obj)} {a : Addr} {g : Nat} {gs : GenState}
theorem inv_iced (I : Inv X pins σ H s) : Inv X pins σ H (Frz.iced s) := ⟨I.ok, I.os, Frz.iced_bare I.bare, I.base, I.loc, I.cell, I.free, I.freeC, I.pin, I.hok, I.len⟩
theorem inv_thaw {s0 u : Shared} (b : AllBare s0.gens) (T : Frz.Thawed s0 s u) (I : Inv X pins σ H s) : Inv X pins σ H u := by
  obtain ⟨G, e⟩ := T.eq
  have hb := T.bare b I.bare
  subst e
  exact ⟨I.ok, I.os, hb, I.base, I.loc, I.cell, I.free, I.freeC, I.pin, I.hok, I.len⟩
theorem fs_stk (ok : X.Ok) : ∀ b ∈ X.fs, b ∈ frs X.stack := fun b hb => by
  rcases ok.stk with e | ⟨e, hf⟩
  · rw [e]; exact hb
  · rw [e, frs_cons hf]; exact List.mem_cons_of_mem _ hb
theorem went_inv (W0 : GXof G X) (I : Inv X pins σ H s) (h : HeldX G X pins T gp a g gs s H) (W : Went G X.stack (gp.map (·.1)) s H s' H') : Inv X pins σ H' s' :=
  I.call' W.os W.un (by rw [← W0.prog, ← W0.w]; exact W.hok) W.bare fun b hb => let ⟨h1, h2, h3, h4⟩ := h.own b (.inr hb); ⟨.inr h1, h2, h3, h4⟩
theorem new_own (I : Inv X pins σ H s) {b : Addr} (hb : s.heap.get? b = none) (hs : X.s_0.heap.objs.size ≤ b) : b ≠ X.env.locals ∧ (∀ x c, X.env.cells.lookup x = some c → c ≠ b) ∧ ∀ p ∈ X.pn ++ pins, p.1 ≠ b := by
  refine ⟨fun z => ?_, fun x c e z => ?_, fun p hp z => ?_⟩
  · obtain ⟨m, ⟨o, _, _, ho, _⟩, _⟩ := I.loc
    rw [← z, hb] at ho
    cases ho
  · obtain ⟨v, o, ho, _⟩ := I.cell x c e
    rw [z, hb] at ho
    cases ho
  · have := (I.pin p hp).1
    rw [z, hb] at this
    cases this
end
section
variable {G : GX} {X : Cx}
theorem env0_of (W0 : GXof G X) {pins : List (Addr × Obj)} {σ : L2.St} {s : Shared} {H : Hp} (I : Inv X pins σ H s) : Env0 G.prog G.w G.K G.mg G.base X.A X.stack s H := by
  rw [W0.prog, W0.w, W0.K, W0.mg, W0.base]
  exact I.env0
theorem ps_forG {iter : Expr} {body : List Stmt} {ti : TIG} {tgx : Str} {tgp : Pos} {tgt : TG} {tb : TS} {pos : Pos} (W0 : GXof G X) (hr : Room (G.k + 1) X.A) (hp : PassesOwn (model X.prog X.w) X.A X.env X.xe) (hc : X.calm = true) (hst : X.env.locals ∈ frs X.stack)
    (hxe : ∀ s0 s' u e, AllBare s0.gens → Frz.Thawed s0 s' u → X.xe e s' → X.xe e u) (hi : PIG G X iter ti) (hg : PG X (.Name tgx tgp) tgt) (hb : PSs X body tb)
    (hs : ∀ x, foldedSetIterable iter X.env x = pure x := by intro _; rfl) : PS X (.For (.Name tgx tgp) iter body [] pos) (tForG G ti tgt tb) := by
  refine ⟨fun pins s σ H D I h => ?_⟩
  refine wpAny_For (thn (hi.run pins s σ H _ I h) fun v s1 h1 => ?_) hs
  obtain ⟨a, g, gs, gp, T, Ys, H1, rfl, I1, h1, sl1, tb1, q1⟩ := h1
  refine wpAny_pyIter_gen h1.gen ?_
  have hr1 : Room G.k X.A.in1 := hr.in1
  refine codeAny_forLoop_any (fun n s' => ∃ (Ys : List YSpec) (σ' : L2.St) (H' : Hp) (T : List (Addr × HO)) (gp : List (Addr × Obj)) (gs : GenState), Ys.length = n ∧ Inv X pins σ' H' s' ∧ HeldX G X pins T gp a g gs s' H' ∧ Asleep G Ys T gp gs ∧ G.tb H' ∧ tItems G tgt tb D Ys σ' H') ?_ Ys.length ⟨Ys, σ, H1, T, gp, gs, rfl, I1, h1, sl1, tb1, q1⟩
  rintro n s2 ⟨Ys, σ2, H2, T, gp, gs, rfl, I2, h2, sl2, tb2, q2⟩
  have L : LegPre G X.A.in1 X.stack T gp s2 H2 := ⟨hr1, (env0_of W0 I2).in1, h2.pok, h2.facts, tb2⟩
  have hdep : X.A.depth < recursionLimit := hr.depth
  have hhd : X.A.handled = none := I2.ok.hd hc
  cases Ys with
  | nil =>
    refine wpAny_passesOwn hp ?_
    have z := next_none (Q := fun r s' => r = none ∧ Inv X pins σ2 H2 s') (E := X.xe) L hdep hhd h2.gen h2.at_ sl2 (fun s' W => ⟨rfl, went_inv W0 I2 h2 W⟩)
    rw [W0.prog, W0.w] at z
    refine thn z fun r s4 ⟨hr', I4⟩ => ?_
    subst hr'
    exact wpAny_execs_nil ⟨σ2, H2, I4, q2⟩
  | cons Y Ys =>
    refine wpAny_passesOwn hp ?_
    have z := next_some (Q := fun r s' => ∃ u v H' T' gp' gs', r = some u ∧ RelV v u ∧ Y H2 v H' ∧ Inv X pins σ2 H' s' ∧ HeldX G X pins T' gp' a g gs' s' H' ∧ Asleep G Ys T' gp' gs' ∧ G.tb H' ∧ Frz.cold (some gs') = true) (E := X.xe) L hdep hhd h2.gen h2.at_ sl2 h2.aH h2.aO h2.aP
      (fun u v s' H' T' gp' gs' ru y W hg' hgen' pok' fr' tf' sl' cd' => by
        have I3 := went_inv W0 I2 h2 W
        have aown := h2.own a (.inl rfl)
        obtain ⟨oa, _, _, hoa, _⟩ := id h2.gen
        refine ⟨u, v, H', T', gp', gs', rfl, ru, y, I3, ⟨hgen', hg', pok', tf', W.un.free a oa hoa h2.aH h2.aP, h2.aO, fun hb => ?_, fun b hb => ?_⟩, sl', W.tb, cd'⟩
        · obtain ⟨p, hp', e⟩ := List.mem_map.mp hb
          rcases fr' p hp' with q | q
          · rw [e] at q; exact h2.aP q
          · have q := q.1
            rw [e, hoa] at q
            cases q
        · rcases hb with rfl | hb
          · exact aown
          · obtain ⟨p, hp', e⟩ := List.mem_map.mp hb
            rcases fr' p hp' with q | q
            · rw [e] at q; exact h2.own b (.inr q)
            · rw [e] at q
              have hz : X.s_0.heap.objs.size ≤ b := Nat.le_trans I2.ok.above (Nat.le_of_lt (q.2 _ hst))
              have z := new_own I2 q.1 hz
              exact ⟨hz, z.1, z.2.1, z.2.2⟩)
    rw [W0.prog, W0.w] at z
    refine thn z fun r s4 ⟨u, v, H3, T', gp', gs', hr', ru, y, I3, h3, sl3, tb3, cd3⟩ => ?_
    subst hr'
    refine wpAny_passesOwn hp (wpAny_pure ?_)
    obtain ⟨oa, nm, qn, hoa, rga⟩ := id h3.gen
    have I3' : Inv X (pins ++ ((a, oa) :: gp')) σ2 H3 s4 := I3.pins_of fun p hp' => by
      rcases List.mem_append.mp hp' with z | z
      · exact I3.pin p (List.mem_append_right _ z)
      · have hfs := fs_stk I3.ok
        rcases List.mem_cons.mp z with z | z
        · rw [z]
          exact ⟨hoa, h3.aH, (h3.own a (.inl rfl)).2.1, fun z => h3.aO (hfs _ z), fun v e => by rw [rga.2.1] at e; cases e⟩
        · obtain ⟨e1, e2, e3, e4⟩ := h3.pok.at_ p z
          exact ⟨e1, e2, (h3.own p.1 (.inr (List.mem_map.mpr ⟨p, z, rfl⟩))).2.1, fun z => e3 (hfs _ z), h3.pok.nc p z⟩
    refine wpAny_passesOwn hp ?_
    refine Frz.any_iced (thn (hg.run _ (Frz.iced s4) σ2 H3 v u _ (inv_iced I3') ru (q2 v H3 y)) fun _ s6 q6 => q6) (fun _ s6 u6 q6 T6 => ?_) fun e s6 u6 q6 T6 => hxe s4 s6 u6 e I3.bare T6 q6
    obtain ⟨σ6, H6, I6, q6⟩ := q6
    have I6' := inv_thaw I3.bare T6 I6
    refine wpAny_passesOwn hp ?_
    refine Frz.any_iced (thn (hb.run _ (Frz.iced u6) σ6 H6 _ (inv_iced I6') q6) fun _ s7 q7 => q7) (fun f s7 u7 q7 T7 => ?_) fun e s7 u7 q7 T7 => hxe u6 s7 u7 e I6'.bare T7 q7
    have g6 : u6.gens[g]? = some gs' := (T6.sl.2 g (by rw [h3.at_]; exact cd3)).trans h3.at_
    have g7 : u7.gens[g]? = some gs' := (T7.sl.2 g (by rw [g6]; exact cd3)).trans g6
    have again : ∀ {σ7 : L2.St} {H7 : Hp}, Inv X (pins ++ ((a, oa) :: gp')) σ7 H7 s7 → (Keeps H3 H7 ∧ G.tb H7 ∧ tItems G tgt tb D Ys σ7 H7) → ∃ m, m < (Y :: Ys).length ∧ ∃ (Ys : List YSpec) (σ' : L2.St) (H' : Hp) (T : List (Addr × HO)) (gp : List (Addr × Obj)) (gs : GenState), Ys.length = m ∧ Inv X pins σ' H' u7 ∧ HeldX G X pins T gp a g gs u7 H' ∧ Asleep G Ys T gp gs ∧ G.tb H' ∧ tItems G tgt tb D Ys σ' H' := fun {σ7 H7} I7 ⟨n1, n2, n3⟩ => by
      have I7' := inv_thaw I6'.bare T7 I7
      refine ⟨Ys.length, Nat.lt_succ_self _, Ys, σ7, H7, T', gp', gs', rfl, I7'.unpinned, ?_, sl3, n2, n3⟩
      have pa := I7'.pin (a, oa) (List.mem_append_right _ (List.mem_append_right _ List.mem_cons_self))
      refine ⟨⟨oa, nm, qn, pa.1, rga⟩, g7, ⟨fun p hp' => ?_, h3.pok.nc⟩, fun f hf => ?_, pa.2.1, h3.aO, h3.aP, h3.own⟩
      · have pp := I7'.pin p (List.mem_append_right _ (List.mem_append_right _ (List.mem_cons_of_mem _ hp')))
        obtain ⟨e1, e2, e3, e4⟩ := h3.pok.at_ p hp'
        exact ⟨pp.1, pp.2.1, e3, e4⟩
      · obtain ⟨f1, f2⟩ := h3.facts f hf
        exact ⟨n1 _ _ f1 f2, f2⟩
    cases f with
    | next => obtain ⟨σ7, H7, I7, n7⟩ := q7; exact again I7 n7
    | cont => obtain ⟨σ7, H7, I7, n7⟩ := q7; exact again I7 n7
    | brk => obtain ⟨σ7, H7, I7, q7⟩ := q7; exact ⟨σ7, H7, (inv_thaw I6'.bare T7 I7).unpinned, q7⟩
    | ret v => obtain ⟨x7, σ7, H7, I7, r7, q7⟩ := q7; exact ⟨x7, σ7, H7, (inv_thaw I6'.bare T7 I7).unpinned, r7, q7⟩
end
end Zg
end
section
set_option maxHeartbeats 2000000
/-! The validators, at what is valid. -/
namespace So
open PySem PySem.Spec PyProof.Rows L2 He
structure CalOk (cs : List Int) : Prop where
  l0 : 1 ≤ cs.length
  l1 : cs.length ≤ 5
  at_ : ∀ (i : Nat) (x : Int), cs[i]? = some x → 1 ≤ x ∧ x ≤ 400
  nx : ∀ (i : Nat) (x y : Int), cs[i]? = some x → cs[i + 1]? = some y → x < y ∧ y % x = 0
def bef (cs : List Int) : Nat → Int
  | 0 => 0
  | i + 1 => cs.getD i 0
def spVCal (T : Wt) : Sp := fun vs H Q _ => ∃ (cal : Addr) (cs : List Int), vs = [.ref cal] ∧ H cal = some (.tup (cs.map V.int)) ∧ CalOk cs ∧ Tbs T H ∧ ∀ H', Gr T H H' → Q .non H'
section
variable {P : Program} {w : World} {K : PySem.W.Frag} {mg : Str → Option Value} {base : Heap} {T : Wt}
theorem ok_validate_calendar (kn : Kn K mg) : Okd P w K mg base CX0 2 (ga K "validate_calendar") ["calendar"] (spVCal T) := by
  refine okd_of kn.f_validate_calendar sc_validate_calendar (fun vs H Q E h => ?_) (fun _ _ _ _ _ _ us hl => match us, hl with | [_], _ => rfl) (fun cdv A outer s H vs Q E hr h => ?_)
  · obtain ⟨cal, cs, rfl, _⟩ := h
    rfl
  · obtain ⟨cal, cs, rfl, hc, ok, tb, hq⟩ := h
    refine ⟨_, PSs.nox (pss_cons (ps_if (pt_not (pt_chain op_le op_le pe_int (pe_callB (call_len_seq) rfl (kn.free "len") boot_len (pa_cons (pv 0) pa_nil)) (pe_gi (kn.int "MAX_PERIODS" 5)))) (pss_one ps_never) pss_nil)
      (pss_cons (ps_set (i := 1) sc_validate_calendar.nd rfl (.inl rfl) pe_int)
      (pss_one (ps_for PassesOwn.never rfl (pi_enumT rfl (kn.free "enumerate") (pa_cons (pv 0) pa_nil)) (pg_tup rfl (pgs_cons (pg_name (i := 2) sc_validate_calendar.nd rfl (.inl rfl)) (pgs_cons (pg_name (i := 3) sc_validate_calendar.nd rfl (.inl rfl)) pgs_nil))) (pss_cons (ps_if (pw_or (pt_not (pt_val (pf (ok_is_integer kn) (hr.mono (by decide)) (kn.glo "is_integer") pass0 (pa_cons (pv 3) pa_nil)))) (pw_or (pt_not (pt_chain op_lt op_le (pv 1) (pv 3) (pe_gi (kn.int "MAX_PERIOD" 400)))) (pw_or1 (pw_and (pt_cmpR op_gt (pv 1) pe_int (nomark _)) (pw_and1 (pt_cmpR op_ne (pe_op op_mod (pv 3) (pv 1)) pe_int (nomark _)))).pt))).pt (pss_one ps_never) pss_nil)
      (pss_one (ps_set (i := 1) sc_validate_calendar.nd rfl (.inl rfl) (pv 3)))))))), ?_⟩
    have l0 := ok.l0
    have l1 := ok.l1
    refine ⟨_, rfl, cal, _, rfl, .inr (.inl (.inl hc)), _, _, rfl, rfl, _, rfl, ?_⟩
    rw [List.length_map]
    refine ite2 (fun h => ?_) (fun h => absurd (decide_eq_true (by omega)) h)
    refine ⟨_, _, rfl, rfl, _, rfl, ?_⟩
    refine ite2 (fun h => ?_) (fun h => ?_)
    · have : decide ((cs.length : Int) ≤ 5) = true := decide_eq_true (by omega)
      rw [this] at h
      cases h
    refine ⟨_, rfl, cal, _, rfl, .inl (.inl hc), ?_⟩
    refine for_enumT (xs := cs.map V.int) (fun i σ H' => (∃ a b, σ = [some (.ref cal), some (.int (bef cs i)), a, b]) ∧ Gr T H H') ⟨⟨_, _, rfl⟩, Gr.refl tb⟩ (fun i σ H' _ hi => .inl (.inl (hi.2.get hc))) (fun i x T' σ H' hx hi hT => ?_) (fun σ H' hi => ?_)
    · obtain ⟨⟨a, b, rfl⟩, g⟩ := hi
      obtain ⟨rfl, hil⟩ := getD_map hx
      have g1 : Gr T H (upd H' T' (.tup [.int (i : Nat), .int (cs.getD i 0)])) := g.new hT
      have hxi : cs[i]? = some (cs.getD i 0) := by rw [List.getElem?_eq_getElem hil, List.getD_eq_getElem?_getD, List.getElem?_eq_getElem hil]; rfl
      obtain ⟨b0, b1⟩ := ok.at_ i _ hxi
      have hb : bef cs i < cs.getD i 0 ∧ 0 ≤ bef cs i ∧ bef cs i ≤ 400 ∧ (0 < bef cs i → cs.getD i 0 % bef cs i = 0) := by
        cases i with
        | zero => exact ⟨by show (0 : Int) < _; omega, Int.le_refl _, by show (0 : Int) ≤ 400; omega, fun z => absurd z (by show ¬ (0 : Int) < 0; omega)⟩
        | succ i =>
          have hi1 : i < cs.length := by omega
          have hxp : cs[i]? = some (cs.getD i 0) := by rw [List.getElem?_eq_getElem hi1, List.getD_eq_getElem?_getD, List.getElem?_eq_getElem hi1]; rfl
          obtain ⟨q1, q2⟩ := ok.nx i _ _ hxp hxi
          obtain ⟨q3, q4⟩ := ok.at_ i _ hxp
          exact ⟨q1, by show 0 ≤ cs.getD i 0; omega, q4, fun _ => q2⟩
      obtain ⟨b2, b3, b4, b5⟩ := hb
      refine ⟨T', _, rfl, .inl (.inl upd_same), rfl, _, _, rfl, _, _, rfl, rfl, ?_⟩
      refine ⟨_, rfl, _, rfl, _, rfl, ?_⟩
      refine ite2 (fun h => by cases h) (fun _ => ?_)
      refine ⟨_, rfl, _, rfl, _, _, rfl, rfl, _, rfl, ?_⟩
      refine ite2 (fun h => ?_) (fun h => absurd (decide_eq_true b2) h)
      refine ⟨_, _, rfl, rfl, _, rfl, ?_⟩
      have e4 : decide (cs.getD i 0 ≤ 400) = true := decide_eq_true b1
      rw [e4]
      refine ite2 (fun h => by cases h) (fun _ => ?_)
      refine ⟨_, rfl, _, _, rfl, rfl, _, rfl, ?_⟩
      refine ite2 (fun h => ?_) (fun h => ?_)
      · have b6 : 0 < bef cs i := of_decide_eq_true h
        refine ⟨_, rfl, _, rfl, _, _, rfl, rfl, b6, rfl, _, rfl, ?_⟩
        refine ite2 (fun h => ?_) (fun _ => ?_)
        · have z : decide (V.int (cs.getD i 0 % bef cs i) = V.int 0) = true := decide_eq_true (by rw [b5 b6])
          have h2 : (!decide (V.int (cs.getD i 0 % bef cs i) = V.int 0)) = true := h
          rw [z] at h2
          cases h2
        exact ⟨_, rfl, ⟨_, _, rfl⟩, g1⟩
      · refine ite2 (fun h => by cases h) (fun _ => ?_)
        exact ⟨_, rfl, ⟨_, _, rfl⟩, g1⟩
    · exact hq H' hi.2
/-- an order that is valid -/
structure OrdV (cs : List Int) (o : Ord) : Prop where
  mem : o.1 ∈ cs
  d0 : 0 ≤ o.2.1
  d1 : o.2.1 < o.1
  a0 : o.2.2 ≠ 0
def spIsOrd : Sp := fun vs H Q _ => ∃ (cal ot : Addr) (cs : List Int) (o : Ord), vs = [.ref cal, .ref ot] ∧ H cal = some (.tup (cs.map V.int)) ∧ H ot = some (.tup [.int o.1, .int o.2.1, .int o.2.2]) ∧ OrdV cs o ∧ Q (.bl true) H
theorem ok_is_order (kn : Kn K mg) : Okd P w K mg base CX0 2 (ga K "is_order") ["calendar", "order"] spIsOrd := by
  refine okd_of kn.f_is_order sc_is_order (fun vs H Q E h => ?_) (fun _ _ _ _ _ _ us hl => match us, hl with | [_, _], _ => rfl) (fun cdv A outer s H vs Q E hr h => ?_)
  · obtain ⟨cal, ot, cs, o, rfl, _⟩ := h
    rfl
  · obtain ⟨cal, ot, cs, o, rfl, hc, ho, ok, hq⟩ := h
    refine ⟨_, PSs.nox (pss_cons (ps_asg (pv 1) (pg_tup rfl (pgs_cons (pg_name (i := 2) sc_is_order.nd rfl (.inl rfl)) (pgs_cons (pg_name (i := 3) sc_is_order.nd rfl (.inl rfl)) (pgs_cons (pg_name (i := 4) sc_is_order.nd rfl (.inl rfl)) pgs_nil)))))
      (pss_cons (ps_if (pw_or (pt_cmpR op_notIn_seq (pv 2) (pv 0) (by with_unfolding_all rfl)) (pw_or (pt_not (pt_val (pf (ok_is_integer kn) (hr.mono (by decide)) (kn.glo "is_integer") pass0 (pa_cons (pv 3) pa_nil)))) (pw_or1 (pt_not (pt_chain op_le op_lt pe_int (pv 3) (pv 2)))))).pt (pss_one (ps_ret pe_bl)) pss_nil)
      (pss_one (ps_ret (pe_and (pf (ok_is_integer kn) (hr.mono (by decide)) (kn.glo "is_integer") pass0 (pa_cons (pv 4) pa_nil)) (pe_one (pe_cmpR op_ne (pv 4) pe_int (nomark _)))))))), ?_⟩
    refine ⟨_, rfl, ot, _, rfl, .inl (.inl ho), rfl, _, _, rfl, _, _, rfl, _, _, rfl, rfl, ?_⟩
    refine ⟨_, rfl, _, rfl, cal, cs.map V.int, rfl, .inr (.inl (.inl hc)), rfl, ?_, _, rfl, ?_⟩
    · rw [List.all_map]
      exact List.all_eq_true.mpr fun _ _ => rfl
    have hin : inV (.int o.1) (cs.map V.int) = true := by
      unfold inV
      rw [List.any_map]
      exact List.any_eq_true.mpr ⟨o.1, ok.mem, by simp [eqV]⟩
    rw [if_pos rfl, hin]
    refine ite2 (fun h => by cases h) (fun _ => ?_)
    refine ⟨_, rfl, _, rfl, _, rfl, ?_⟩
    refine ite2 (fun h => by cases h) (fun _ => ?_)
    refine ⟨_, rfl, _, _, rfl, rfl, _, rfl, ?_⟩
    refine ite2 (fun h => ?_) (fun h => absurd (decide_eq_true ok.d0) h)
    refine ⟨_, rfl, _, _, rfl, rfl, _, rfl, ?_⟩
    have e4 : decide (o.2.1 < o.1) = true := decide_eq_true ok.d1
    rw [e4]
    refine ite2 (fun h => by cases h) (fun _ => ?_)
    refine ⟨_, rfl, _, rfl, _, rfl, ?_⟩
    refine ite2 (fun _ => ?_) (fun h => absurd rfl h)
    refine ⟨_, rfl, rfl, ?_⟩
    have e5 : decide (V.int o.2.2 = V.int 0) = false := decide_eq_false fun z => ok.a0 (V.int.inj z)
    rw [e5]
    exact hq
/-- orders that are valid; the sequence of their tuples -/
def SqOrds (K : PySem.W.Frag) (H : Hp) (a : Addr) (ts : List Addr) : Prop := SqL K H a (ts.map V.ref) ∨ SqT K H a (ts.map V.ref)
def spVOrdT (T : Wt) : Sp := fun vs H Q _ => ∃ (cal ords : Addr) (cs : List Int) (os : List Ord), vs = [.ref cal, .ref ords] ∧ H cal = some (.tup (cs.map V.int)) ∧ OrdsAt H ords os ∧ (∀ o ∈ os, OrdV cs o) ∧ Tbs T H ∧ ∀ H', Gr T H H' → Q .non H'
def spVOrdL (T : Wt) : Sp := fun vs H Q _ => ∃ (cal ords : Addr) (cs : List Int) (t : Addr) (o : Ord), vs = [.ref cal, .ref ords] ∧ H cal = some (.tup (cs.map V.int)) ∧ H ords = some (.lst [.ref t]) ∧ H t = some (.tup [.int o.1, .int o.2.1, .int o.2.2]) ∧ OrdV cs o ∧ Tbs T H ∧ ∀ H', Gr T H H' → Q .non H'
theorem ok_first_invalid_orderT (kn : Kn K mg) : Okd P w K mg base CX0 3 (ga K "first_invalid_order") ["calendar", "orders"] (spVOrdT T) := by
  refine okd_of kn.f_first_invalid_order sc_first_invalid_order (fun vs H Q E h => ?_) (fun _ _ _ _ _ _ us hl => match us, hl with | [_, _], _ => rfl) (fun cdv A outer s H vs Q E hr h => ?_)
  · obtain ⟨cal, ords, cs, os, rfl, _⟩ := h
    rfl
  · obtain ⟨cal, ords, cs, os, rfl, hc, ⟨ts, hts, hps⟩, ok, tb, hq⟩ := h
    refine ⟨_, PSs.nox (pss_cons (ps_for PassesOwn.never rfl (pi_enumT rfl (kn.free "enumerate") (pa_cons (pv 1) pa_nil)) (pg_tup rfl (pgs_cons (pg_name (i := 2) sc_first_invalid_order.nd rfl (.inl rfl)) (pgs_cons (pg_name (i := 3) sc_first_invalid_order.nd rfl (.inl rfl)) pgs_nil))) (pss_one (ps_if (pt_not (pt_val (pf (ok_is_order kn) (hr.mono (by decide)) (kn.glo "is_order") pass0 (pa_cons (pv 0) (pa_cons (pv 3) pa_nil))))) (pss_one (ps_ret (pv 2))) pss_nil)))
      (pss_one (ps_ret pe_non))), ?_⟩
    refine ⟨_, rfl, ords, _, rfl, .inl (.inl hts), ?_⟩
    refine for_enumT (xs := ts.map V.ref) (fun i σ H' => (∃ a b, σ = [some (.ref cal), some (.ref ords), a, b]) ∧ Gr T H H') ⟨⟨_, _, rfl⟩, Gr.refl tb⟩ (fun i σ H' _ hi => .inl (.inl (hi.2.get hts))) (fun i x T' σ H' hx hi hT => ?_) (fun σ H' hi => ?_)
    · obtain ⟨⟨a, b, rfl⟩, g⟩ := hi
      obtain ⟨t, ht, rfl⟩ := map_ref_at hx
      obtain ⟨o, ho, hto⟩ := Paired.at hps ht
      have g1 : Gr T H (upd H' T' (.tup [.int (i : Nat), .ref t])) := g.new hT
      refine ⟨T', _, rfl, .inl (.inl upd_same), rfl, _, _, rfl, _, _, rfl, rfl, ?_⟩
      refine ⟨_, rfl, _, rfl, cal, t, cs, o, rfl, g1.get hc, g1.get hto, ok o (List.mem_of_getElem? ho), _, rfl, ?_⟩
      refine ite2 (fun h => by cases h) (fun _ => ?_)
      exact ⟨⟨_, _, rfl⟩, g1⟩
    · exact hq H' hi.2
theorem ok_first_invalid_orderL (kn : Kn K mg) : Okd P w K mg base CX0 3 (ga K "first_invalid_order") ["calendar", "orders"] (spVOrdL T) := by
  refine okd_of kn.f_first_invalid_order sc_first_invalid_order (fun vs H Q E h => ?_) (fun _ _ _ _ _ _ us hl => match us, hl with | [_, _], _ => rfl) (fun cdv A outer s H vs Q E hr h => ?_)
  · obtain ⟨cal, ords, cs, t, o, rfl, _⟩ := h
    rfl
  · obtain ⟨cal, ords, cs, t, o, rfl, hc, hl, hto, ok, tb, hq⟩ := h
    refine ⟨_, PSs.nox (pss_cons (ps_for PassesOwn.never rfl (pi_enum rfl (kn.free "enumerate") (pa_cons (pv 1) pa_nil)) (pg_tup rfl (pgs_cons (pg_name (i := 2) sc_first_invalid_order.nd rfl (.inl rfl)) (pgs_cons (pg_name (i := 3) sc_first_invalid_order.nd rfl (.inl rfl)) pgs_nil))) (pss_one (ps_if (pt_not (pt_val (pf (ok_is_order kn) (hr.mono (by decide)) (kn.glo "is_order") pass0 (pa_cons (pv 0) (pa_cons (pv 3) pa_nil))))) (pss_one (ps_ret (pv 2))) pss_nil)))
      (pss_one (ps_ret pe_non))), ?_⟩
    refine ⟨_, rfl, ords, _, rfl, .inl (.inl hl), ?_⟩
    refine for_enum (xs := [V.ref t]) (fun i σ H' => (∃ a b, σ = [some (.ref cal), some (.ref ords), a, b]) ∧ Gr T H H') ⟨⟨_, _, rfl⟩, Gr.refl tb⟩ (fun i σ H' _ hi => .inl (.inl (hi.2.get hl))) (fun i x T' σ H' hx hi hT => ?_) (fun σ H' hi => ?_)
    · obtain ⟨⟨a, b, rfl⟩, g⟩ := hi
      have ex : x = .ref t := by
        cases i with
        | zero => cases hx; rfl
        | succ i => cases hx
      subst ex
      have g1 : Gr T H (upd H' T' (.tup [.int (i : Nat), .ref t])) := g.new hT
      refine ⟨T', _, rfl, .inl (.inl upd_same), rfl, _, _, rfl, _, _, rfl, rfl, ?_⟩
      refine ⟨_, rfl, _, rfl, cal, t, cs, o, rfl, g1.get hc, g1.get hto, ok, _, rfl, ?_⟩
      refine ite2 (fun h => by cases h) (fun _ => ?_)
      exact ⟨⟨_, _, rfl⟩, g1⟩
    · exact hq H' hi.2
/-- of a list of one order -/
def spVOrders (T : Wt) : Sp := fun vs H Q _ => ∃ (cal ords : Addr) (cs : List Int) (t : Addr) (o : Ord), vs = [.ref cal, .ref ords] ∧ H cal = some (.tup (cs.map V.int)) ∧ H ords = some (.lst [.ref t]) ∧ H t = some (.tup [.int o.1, .int o.2.1, .int o.2.2]) ∧ OrdV cs o ∧ CalOk cs ∧ Tbs T H ∧ ∀ H', Gr T H H' → Q .non H'
theorem ok_validate_orders (kn : Kn K mg) : Okd P w K mg base CX0 4 (ga K "validate_orders") ["calendar", "orders"] (spVOrders T) := by
  refine okd_of kn.f_validate_orders sc_validate_orders (fun vs H Q E h => ?_) (fun _ _ _ _ _ _ us hl => match us, hl with | [_, _], _ => rfl) (fun cdv A outer s H vs Q E hr h => ?_)
  · obtain ⟨cal, ords, cs, t, o, rfl, _⟩ := h
    rfl
  · obtain ⟨cal, ords, cs, t, o, rfl, hc, hl, hto, ok, okc, tb, hq⟩ := h
    refine ⟨_, PSs.nox (pss_cons (ps_expr (pf (ok_validate_calendar (T := T) kn) (hr.mono (by decide)) (kn.glo "validate_calendar") pass0 (pa_cons (pv 0) pa_nil)))
      (pss_cons (ps_set (i := 2) sc_validate_orders.nd rfl (.inl rfl) (pf (ok_first_invalid_orderL (T := T) kn) (hr.mono (by decide)) (kn.glo "first_invalid_order") pass0 (pa_cons (pv 0) (pa_cons (pv 1) pa_nil))))
      (pss_one (ps_if (pt_cmp (pc_notN (pv 2))) (pss_one ps_never) pss_nil)))), ?_⟩
    refine ⟨_, rfl, cal, cs, rfl, hc, okc, tb, fun H1 g1 => ?_⟩
    refine ⟨_, rfl, _, rfl, cal, ords, cs, t, o, rfl, g1.get hc, g1.get hl, g1.get hto, ok, g1.tb, fun H2 g2 => ?_⟩
    refine ⟨_, rfl, _, rfl, ?_⟩
    refine ite2 (fun h => by cases h) (fun _ => ?_)
    exact hq H2 (g1.trans g2)
def spVPhases (T : Wt) : Sp := fun vs H Q _ => ∃ (cal phs ords : Addr) (cs : List Int) (s0 : Int) (os : List Ord), vs = [.ref cal, .ref phs] ∧ H cal = some (.tup (cs.map V.int)) ∧ PhAt H phs s0 ords ∧ OrdsAt H ords os ∧ (∀ o ∈ os, OrdV cs o) ∧ os.length ≤ 60 ∧ Tbs T H ∧ ∀ H', Gr T H H' → Q .non H'
theorem ok_validate_phases (kn : Kn K mg) : Okd P w K mg base CX0 4 (ga K "validate_phases") ["calendar", "phases"] (spVPhases T) := by
  refine okd_of kn.f_validate_phases sc_validate_phases (fun vs H Q E h => ?_) (fun _ _ _ _ _ _ us hl => match us, hl with | [_, _], _ => rfl) (fun cdv A outer s H vs Q E hr h => ?_)
  · obtain ⟨cal, phs, ords, cs, s0, os, rfl, _⟩ := h
    rfl
  · obtain ⟨cal, phs, ords, cs, s0, os, rfl, hc, ⟨ph, hp1, hp2⟩, ⟨ots, ho1, ho2⟩, ok, hl, tb, hq⟩ := h
    refine ⟨_, PSs.nox (pss_cons (ps_if (pt_not (pt_chain op_le op_le pe_int (pe_callB (call_len_seq) rfl (kn.free "len") boot_len (pa_cons (pv 1) pa_nil)) (pe_gi (kn.int "MAX_PHASES" 20)))) (pss_one ps_never) pss_nil)
      (pss_one (ps_for PassesOwn.never rfl (pi_enumT rfl (kn.free "enumerate") (pa_cons (pv 1) pa_nil)) (pg_tup rfl (pgs_cons (pg_name (i := 2) sc_validate_phases.nd rfl (.inl rfl)) (pgs_cons (pg_tup rfl (pgs_cons (pg_name (i := 3) sc_validate_phases.nd rfl (.inl rfl)) (pgs_cons (pg_name (i := 4) sc_validate_phases.nd rfl (.inl rfl)) pgs_nil))) pgs_nil))) (pss_cons (ps_if (PW.pt (pw_or (pt_not (pt_val (pf (ok_is_integer kn) (hr.mono (by decide)) (kn.glo "is_integer") pass0 (pa_cons (pv 3) pa_nil)))) (pw_or (PW.pt (pw_and (pt_cmpR op_gt (pv 2) pe_int (nomark _)) (pw_and1 (pt_cmpR op_le (pv 3) pe_never (nomark _))))) (pw_or1 (pt_cmpR op_gt (pe_callB (call_len_seq) rfl (kn.free "len") boot_len (pa_cons (pv 4) pa_nil)) (pe_gi (kn.int "MAX_ORDERS_plans" 60)) (nomark _)))))) (pss_one ps_never) pss_nil)
      (pss_cons (ps_set (i := 5) sc_validate_phases.nd rfl (.inl rfl) (pf (ok_first_invalid_orderT (T := T) kn) (hr.mono (by decide)) (kn.glo "first_invalid_order") pass0 (pa_cons (pv 0) (pa_cons (pv 4) pa_nil))))
      (pss_one (ps_if (pt_cmp (pc_notN (pv 5))) (pss_one ps_never) pss_nil))))))), ?_⟩
    refine ⟨_, rfl, phs, _, rfl, .inr (.inl (.inl hp1)), _, _, rfl, rfl, _, rfl, ?_⟩
    refine ite2 (fun h => ?_) (fun h => absurd rfl h)
    refine ⟨_, _, rfl, rfl, _, rfl, ?_⟩
    refine ite2 (fun h => by cases h) (fun _ => ?_)
    refine ⟨_, rfl, phs, _, rfl, .inl (.inl hp1), ?_⟩
    refine for_enumT (xs := [V.ref ph]) (fun i σ H' => (∃ a b c d, σ = [some (.ref cal), some (.ref phs), a, b, c, d]) ∧ Gr T H H') ⟨⟨_, _, _, _, rfl⟩, Gr.refl tb⟩ (fun i σ H' _ hi => .inl (.inl (hi.2.get hp1))) (fun i x T' σ H' hx hi hT => ?_) (fun σ H' hi => ?_)
    · obtain ⟨⟨a, b, c, d, rfl⟩, g⟩ := hi
      have ei : i = 0 ∧ x = .ref ph := by
        cases i with
        | zero => cases hx; exact ⟨rfl, rfl⟩
        | succ i => cases hx
      obtain ⟨rfl, rfl⟩ := ei
      have g1 : Gr T H (upd H' T' (.tup [.int ((0 : Nat) : Int), .ref ph])) := g.new hT
      refine ⟨T', _, rfl, .inl (.inl upd_same), rfl, _, _, rfl, _, _, rfl, ⟨ph, _, rfl, .inl (.inl (g1.get hp2)), rfl, _, _, rfl, _, _, rfl, rfl, rfl, ?_⟩⟩
      refine ⟨_, rfl, _, rfl, _, rfl, ?_⟩
      refine ite2 (fun h => by cases h) (fun _ => ?_)
      refine ⟨_, rfl, _, _, rfl, rfl, _, rfl, ?_⟩
      refine ite2 (fun h => by cases h) (fun _ => ?_)
      refine ite2 (fun h => by cases h) (fun _ => ?_)
      refine ⟨_, rfl, ords, _, rfl, .inr (.inl (.inl (g1.get ho1))), _, _, rfl, rfl, _, rfl, ?_⟩
      rw [List.length_map, Paired.length ho2]
      refine ite2 (fun h => absurd (of_decide_eq_true h) (by omega)) (fun _ => ?_)
      refine ⟨_, rfl, _, rfl, cal, ords, cs, os, rfl, g1.get hc, ⟨ots, g1.get ho1, Paired.mapP ho2 fun _ _ e => g1.get e⟩, ok, g1.tb, fun H2 g2 => ?_⟩
      refine ⟨_, rfl, _, rfl, ?_⟩
      refine ite2 (fun h => by cases h) (fun _ => ?_)
      exact ⟨⟨_, _, _, _, rfl⟩, g1.trans g2⟩
    · exact hq H' hi.2
/-- a plan that is valid -/
structure PlanOk (ps : List Int) (c : Int) (os : List Ord) : Prop where
  cal : CalOk (ps ++ [c])
  ord : ∀ o ∈ os, OrdV (ps ++ [c]) o
  len : os.length ≤ 60
def spVPlan (T : Wt) : Sp := fun vs H Q _ => ∃ (plan : Addr) (ps : List Int) (c s0 : Int) (os : List Ord), vs = [.ref plan] ∧ PlanAt H plan ps c s0 os ∧ PlanOk ps c os ∧ Tbs T H ∧ ∀ H', Gr T H H' → Q .non H'
theorem ok_validate_plan (kn : Kn K mg) : Okd P w K mg base CX0 5 (ga K "validate_plan") ["plan"] (spVPlan T) := by
  refine okd_of kn.f_validate_plan sc_validate_plan (fun vs H Q E h => ?_) (fun _ _ _ _ _ _ us hl => match us, hl with | [_], _ => rfl) (fun cdv A outer s H vs Q E hr h => ?_)
  · obtain ⟨plan, ps, c, s0, os, rfl, _⟩ := h
    rfl
  · obtain ⟨plan, ps, c, s0, os, rfl, ⟨cal, phs, ords, h1, h2, h3, h4⟩, ok, tb, hq⟩ := h
    refine ⟨_, PSs.nox (pss_cons (ps_expr (pf (ok_validate_calendar (T := T) kn) (hr.mono (by decide)) (kn.glo "validate_calendar") pass0 (pa_cons (pe_ix ix_tup (pv 0) pe_int (fun _ _ => rfl)) pa_nil)))
      (pss_one (ps_expr (pf (ok_validate_phases (T := T) kn) (hr.mono (by decide)) (kn.glo "validate_phases") pass0 (pa_cons (pe_ix ix_tup (pv 0) pe_int (fun _ _ => rfl)) (pa_cons (pe_ix ix_tup (pv 0) pe_int (fun _ _ => rfl)) pa_nil)))))), ?_⟩
    refine ⟨_, rfl, plan, _, _, _, rfl, rfl, .inl (.inl h1), rfl, cal, _, rfl, h2, ok.cal, tb, fun H1 g1 => ?_⟩
    refine ⟨_, rfl, plan, _, _, .ref cal, rfl, rfl, .inl (.inl (g1.get h1)), rfl, _, rfl, plan, _, _, .ref phs, rfl, rfl, .inl (.inl (g1.get h1)), rfl, cal, phs, ords, _, s0, os, rfl, g1.get h2, h3.ext g1.tups, h4.ext g1.tups, ok.ord, ok.len, g1.tb, fun H2 g2 => ?_⟩
    exact hq H2 (g1.trans g2)
end
end So
end
section
set_option maxHeartbeats 2000000
/-! A body walks the stretches; first_below, last_below. -/
namespace So
open PySem PySem.Spec PyProof.Rows L2 He Zg GenW
/-- all that a plan keeps -/
structure PlanB (ps : List Int) (c s0 : Int) (os : List Ord) : Prop where
  ok : PlanOk ps c os
  ord : ∀ o ∈ os, OrdOk c o
  c1 : 1 ≤ c
  c2 : c ≤ 400
  sm : Sm (flows c os).sum
  s1 : -999999999999 ≤ s0
  s2 : s0 ≤ 1000000000000
theorem plan_facts {H : Hp} {plan : Addr} {ps : List Int} {c s0 : Int} {os : List Ord} (h : PlanAt H plan ps c s0 os) : ∃ (Fs : List (Addr × HO)) (cal phs ph ords : Addr) (ots : List Addr), FactsOk Fs H ∧ PlanF Fs plan ps c s0 os cal phs ph ords ots := by
  obtain ⟨cal, phs, ords, h1, h2, ⟨ph, h3, h4⟩, ⟨ots, h5, h6⟩⟩ := h
  refine ⟨(plan, .tup [.ref cal, .ref phs]) :: (cal, .tup ((ps ++ [c]).map V.int)) :: (phs, .tup [.ref ph]) :: (ph, .tup [.int s0, .ref ords]) :: (ords, .tup (ots.map V.ref)) :: ots.filterMap (fun t => (H t).map fun o => (t, o)), cal, phs, ph, ords, ots, fun f hf => ?_, ⟨by simp, by simp, by simp, by simp, by simp, fun j t e => ?_, Paired.length h6⟩⟩
  · rcases List.mem_cons.mp hf with z | hf
    · rw [z]; exact ⟨h1, fun ps q => by cases q⟩
    rcases List.mem_cons.mp hf with z | hf
    · rw [z]; exact ⟨h2, fun ps q => by cases q⟩
    rcases List.mem_cons.mp hf with z | hf
    · rw [z]; exact ⟨h3, fun ps q => by cases q⟩
    rcases List.mem_cons.mp hf with z | hf
    · rw [z]; exact ⟨h4, fun ps q => by cases q⟩
    rcases List.mem_cons.mp hf with z | hf
    · rw [z]; exact ⟨h5, fun ps q => by cases q⟩
    obtain ⟨t, ht, e⟩ := List.mem_filterMap.mp hf
    obtain ⟨j, hj, ej⟩ := List.mem_iff_getElem.mp ht
    obtain ⟨o, _, ho⟩ := Paired.at h6 (i := j) (x := t) (by rw [List.getElem?_eq_getElem hj, ej])
    rw [ho] at e
    cases e
    exact ⟨ho, fun ps q => by cases q⟩
  · obtain ⟨o, e1, e2⟩ := Paired.at h6 e
    exact ⟨o, e1, by
      refine List.mem_cons_of_mem _ (List.mem_cons_of_mem _ (List.mem_cons_of_mem _ (List.mem_cons_of_mem _ (List.mem_cons_of_mem _ (List.mem_filterMap.mpr ⟨t, List.mem_of_getElem? e, ?_⟩)))))
      rw [e2]
      rfl⟩
/-- what stretches(plan, op, first, None) hands out -/
def ysOf (C : Addr) (T : Wt) (os : List Ord) (c s0 op first : Int) : List YSpec := if first ≤ s0 - 1 then [Y1 C T s0 op first, Y2 C T os c s0 op first] else [Y2 C T os c s0 op first]
def tSt (C : Addr) (T : Wt) (t : TA) : TIG := fun σ H R => t σ H fun vs H1 => ∃ (plan : Addr) (ps : List Int) (c s0 op first : Int) (os : List Ord), vs = [.ref plan, .int op, .int first, .non] ∧ PlanAt H1 plan ps c s0 os ∧ PlanB ps c s0 os ∧ (-1000000000000 ≤ first ∧ first ≤ 1000000000000) ∧ Tbs T H1 ∧ R (ysOf C T os c s0 op first) H1
section
variable {X : Cx} {T : Wt} {k : Nat} {e : Expr} {es : List Expr} {t : TA} {p pos : Pos}
theorem pig_st {G : GX} (hG : G = gSt X.prog X.w X.K X.mg X.base T) (kn : Kn X.K X.mg) (kt : Kt X.K X.mg X.base T) (hr : Room k X.A) (ha : PA X (e :: es) t) (hg : Gl X "stretches" := by rfl)
    (he : starEach (e :: es) X.env = (false, eval e X.env) :: starEach es X.env := by rfl) (hpl : (backTo pos (starEach es X.env)).any (·.1) = false := by rfl) : PIG G X (.Call (.Name "stretches" p) (e :: es) [] pos) (tSt (ga X.K "Stretch") T t) := by
  subst hG
  refine ⟨fun pins s σ H R I h => ?_⟩
  obtain ⟨fd, FD⟩ := kn.f_stretches
  refine wpAny_Call_Name_kw (ld_glob I hg (kn.glo "stretches") ?_ (by decide))
  refine PySem.W.callWith_K (h₀ := X.base) I.ok.mod.kin FD.kp (thn (ha.run pos pins s σ H _ I h) fun us s1 ⟨vs, H1, I1, r, q⟩ => ⟨I1.kIn, ?_⟩) he hpl
  obtain ⟨plan, ps, c, s0, op, first, os, rfl, hpl', pb, hf, tb, hR⟩ := q
  obtain ⟨Fs, cal, phs, ph, ords, ots, fo, pf⟩ := plan_facts hpl'
  refine wpAny_call (codeAny_mono (st_call (P := X.prog) (w := X.w) (base := X.base) (T := T) kn kt pf pb.c1 pb.c2 pb.ord (Nat.le_trans pb.ok.len (by decide)) ⟨Int.le_trans (by decide) pb.s1, pb.s2⟩ hf hr I1.env0 tb fo r) fun rr s2 z => ?_)
  obtain ⟨a, g, L, oL, gs, rfl, M⟩ := z
  have I2 : Inv X pins σ H1 s2 := I1.call' (ch := []) M.sat.os M.sat.un M.sat.hok M.sat.bare fun b z => nomatch z
  obtain ⟨n1, n2, n3⟩ := M.new
  have own : ∀ b : Addr, @LE.le Nat _ s1.heap.objs.size b → X.s_0.heap.objs.size ≤ b ∧ b ≠ X.env.locals ∧ (∀ x c, X.env.cells.lookup x = some c → c ≠ b) ∧ ∀ p ∈ X.pn ++ pins, p.1 ≠ b := fun b hb => by
    have h0 : X.s_0.heap.objs.size ≤ b := Nat.le_trans I1.sz hb
    have hn : s1.heap.get? b = none := by
      cases e : s1.heap.get? b with
      | none => rfl
      | some o => exact absurd (Nat.lt_of_lt_of_le (Heap.lt_size e) hb) (Nat.lt_irrefl _)
    obtain ⟨o1, o2, o3⟩ := new_own I1 hn h0
    exact ⟨h0, o1, o2, o3⟩
  refine ⟨a, g, gs, [(L, oL)], Fs, _, H1, rfl, I2, ⟨M.held.gen, M.held.at_, M.held.pok, M.held.facts, M.held.aH, M.held.aO, M.held.aP, fun b hb => own b ?_⟩, M.sl, tb, hR⟩
  rcases hb with rfl | hb
  · exact Nat.le_trans n1 (Nat.le_of_lt n2)
  · have : b = L := by simpa using hb
    rw [this]; exact n1
/-- exceptions under other generators -/
theorem cx_thaw {P : Program} {w : World} {outer : List Env} {H : Hp} {s : Shared} {E : XK} {u : Value} {s0 s' t : Shared} (b : AllBare s0.gens) (Th : Frz.Thawed s0 s' t) (h : CX P w outer H s E u s') : CX P w outer H s E u t := by
  obtain ⟨a, B, H', cls, d, rfl, fl, hok, ub, na, os, ag, hE⟩ := h
  have hb := Th.bare b ag
  obtain ⟨G, e⟩ := Th.eq
  subst e
  exact ⟨a, B, H', cls, d, rfl, fl, hok, ub, na, os, hb, hE⟩
end
theorem bare_cx {P : Program} {w : World} {outer : List Env} {H : Hp} {s : Shared} {E : XK} {u : Value} {s' : Shared} (h : CX P w outer H s E u s') : AllBare s'.gens := let ⟨_, _, _, _, _, _, _, _, _, _, _, ag, _⟩ := h; ag
end So
end
section
set_option maxHeartbeats 2000000
/-! first_below, last_below. -/
namespace So
open PySem PySem.Spec PyProof.Rows L2 He Zg GenW
abbrev amA (os : List Ord) (c s0 op : Int) : List Int := amts os c s0 op s0 (c.toNat - 1)
abbrev drf (os : List Ord) (c : Int) : Int := (flows c os).sum
theorem amA_len {os : List Ord} {c s0 op : Int} (c1 : 1 ≤ c) : (amA os c s0 op).length = c.toNat := by
  show (amts _ _ _ _ _ _).length = _
  rw [amts_len]
  omega
section
variable {P : Program} {w : World} {K : PySem.W.Frag} {mg : Str → Option Value} {base : Heap} {N : List Str} {qual : Str} {scope : Scope} {f : Addr} {cd : Value} {A : Around} {outer : List Env} {s : Shared} {H : Hp} {E : XK}
theorem xe_thaw : ∀ s0 s' u e, AllBare s0.gens → Frz.Thawed s0 s' u → (cxOf (CX P w) P w K mg base N qual scope f cd A outer s H E).xe e s' → (cxOf (CX P w) P w K mg base N qual scope f cd A outer s H E).xe e u := fun s0 s' u e b Th h =>
  Th.run h (fun _ s'' u' q T' => cx_thaw b T' q) fun _ s'' u' q T' => cx_thaw b T' q
end
def spFirstBelow (T : Wt) : Sp := fun vs H Q _ => ∃ (plan : Addr) (ps : List Int) (c s0 op lev : Int) (os : List Ord), vs = [.ref plan, .int op, .int lev, .int s0] ∧ PlanAt H plan ps c s0 os ∧ PlanB ps c s0 os ∧ Tbs T H ∧
  ∀ r H', Gr T H H' → LeastOf (fDays s0 none (amA os c s0 op) (drf os c) lev c.toNat) r → Q (oi r) H'
def spLastBelow (K : PySem.W.Frag) (T : Wt) : Sp := fun vs H Q E => ∃ (plan : Addr) (ps : List Int) (c s0 op lev : Int) (os : List Ord), vs = [.ref plan, .int op, .int lev, .int (s0 - 1)] ∧ PlanAt H plan ps c s0 os ∧ PlanB ps c s0 os ∧ Tbs T H ∧
  ((∃ i, i < c.toNat ∧ (lowAt s0 none (amA os c s0 op) (drf os c) lev i).2 = none) → ∀ H', Gr T H H' → E (.ref (ga K "Endless")) none H') ∧
  ((∀ i, i < c.toNat → (lowAt s0 none (amA os c s0 op) (drf os c) lev i).2 ≠ none) → ∀ r H', Gr T H H' → MostOf (lDays s0 none (amA os c s0 op) (drf os c) lev c.toNat) r → Q (oi (r.or (if op < lev then some (s0 - 1) else none))) H')
/-- the days ahead of the plan -/
theorem low_y1 {s0 op lev : Int} : lowAt (s0 - 1) (some (s0 - 1)) [op] 0 lev 0 = if op < lev then (0, some 1) else (0, some 0) := by
  unfold lowAt
  have e : rnd (s0 - 1) (some (s0 - 1)) (0 : Nat) ([op] : List Int).length = some 1 := by
    unfold rnd
    simp only [Option.map_some, List.length_singleton]
    congr 1
    have : (s0 - 1 - (s0 - 1) - ((0 : Nat) : Int)) / ((1 : Nat) : Int) + 1 = 1 := by
      have : s0 - 1 - (s0 - 1) - ((0 : Nat) : Int) = 0 := by omega
      rw [this]
      rfl
    rw [this]
    rfl
  rw [e]
  show lowT op 0 lev (some 1) = _
  by_cases h : op < lev
  · rw [if_pos h, lowT_some (st := 0) (by unfold firstT; rw [if_pos h])]
    rw [if_neg (by unfold blk; simp), if_pos (Int.le_refl _)]
  · rw [if_neg h, lowT_none]
    unfold firstT
    rw [if_neg h, if_neg (by omega)]
theorem lDays_y1 {s0 op lev : Int} {r : Option Int} (h : MostOf (lDays (s0 - 1) (some (s0 - 1)) [op] 0 lev 1) r) : r = if op < lev then some (s0 - 1) else none := by
  have e : lDays (s0 - 1) (some (s0 - 1)) [op] 0 lev 1 = if op < lev then [s0 - 1] else [] := by
    show (List.filterMap _ (List.range 1)) = _
    have e1 : List.range 1 = [0] := rfl
    rw [e1]
    unfold lDay endOf
    rw [List.filterMap_cons, low_y1]
    by_cases h : op < lev
    · rw [if_pos h, if_pos h]
      simp
    · rw [if_neg h, if_neg h]
      simp
  rw [e] at h
  by_cases hl : op < lev
  · rw [if_pos hl] at h ⊢
    cases r with
    | none => cases h
    | some m =>
      have := h.1
      rw [List.mem_singleton.mp this]
  · rw [if_neg hl] at h ⊢
    cases r with
    | none => rfl
    | some m => exact absurd h.1 (fun z => nomatch z)
section
variable {P : Program} {w : World} {K : PySem.W.Frag} {mg : Str → Option Value} {base : Heap} {T : Wt}
theorem ok_first_below (kn : Kn K mg) (kt : Kt K mg base T) : Okd P w K mg base CX0 8 (ga K "first_below") ["plan", "opening", "level", "day"] (spFirstBelow T) := by
  refine okd_of kn.f_first_below sc_first_below (fun vs H Q E h => ?_) (fun _ _ _ _ _ _ us hl => match us, hl with | [_, _, _, _], _ => rfl) (fun cdv A outer s H vs Q E hr h => ?_)
  · obtain ⟨plan, ps, c, s0, op, lev, os, rfl, _⟩ := h
    rfl
  · obtain ⟨plan, ps, c, s0, op, lev, os, rfl, hpl, pb, tb, hq⟩ := h
    refine ⟨_, PSs.nox (pss_cons (ps_expr (pf (ok_validate_plan (T := T) kn) (hr.mono (by decide)) (kn.glo "validate_plan") pass0 (pa_cons (pv 0) pa_nil)))
      (pss_cons (ps_forG (G := gSt P w K mg base T) ⟨rfl, rfl, rfl, rfl, rfl⟩ hr PassesOwn.never rfl (List.mem_cons_self ..) (fun _ _ _ _ _ _ z => z.elim) (pig_st rfl kn kt hr (pa_cons (pv 0) (pa_cons (pv 1) (pa_cons (pv 3) (pa_cons pe_non pa_nil))))) (pg_name (i := 4) sc_first_below.nd rfl (.inl rfl)) (pss_cons (ps_set (i := 5) sc_first_below.nd rfl (.inl rfl) (pf (ok_first_low (T := T) kn) (hr.mono (by decide)) (kn.glo "first_low") pass0 (pa_cons (pv 4) (pa_cons (pv 2) pa_nil))))
      (pss_one (ps_if (pt_cmp (pc_notN (pv 5))) (pss_one (ps_ret (pv 5))) pss_nil))))
      (pss_one (ps_ret pe_non)))), ?_⟩
    refine ⟨_, rfl, plan, ps, c, s0, os, rfl, hpl, pb.ok, tb, fun H1 g1 => ?_⟩
    refine ⟨_, rfl, _, rfl, _, rfl, plan, ps, c, s0, op, s0, os, rfl, hpl.ext g1.tups, pb, ⟨Int.le_trans (by decide) pb.s1, pb.s2⟩, g1.tb, ?_⟩
    have eY : ysOf (ga K "Stretch") T os c s0 op s0 = [Y2 (ga K "Stretch") T os c s0 op s0] := by
      unfold ysOf
      rw [if_neg (by omega)]
    show tItems _ _ _ _ (ysOf (ga K "Stretch") T os c s0 op s0) _ _
    rw [eY]
    rintro v H2 ⟨p, rfl, g2, S⟩
    rw [show max s0 s0 = s0 from Int.max_self s0] at S
    have hl := amA_len (os := os) (s0 := s0) (op := op) pb.c1
    have c1 := pb.c1
    have c2 := pb.c2
    refine ⟨_, rfl, _, rfl, p, s0, none, amA os c s0 op, drf os c, lev, rfl, S, by rw [hl]; omega, by rw [hl]; omega, pb.sm, g2.tb, fun r H3 g3 hL => ?_⟩
    rw [hl] at hL
    refine ⟨_, rfl, _, rfl, ?_⟩
    cases r with
    | none =>
      exact ⟨fun b o e n => g3.get e n, g3.tb, hq none H3 ((g1.trans g2).trans g3) hL⟩
    | some m => exact ⟨_, rfl, hq (some m) H3 ((g1.trans g2).trans g3) hL⟩
theorem ok_last_below (kn : Kn K mg) (kt : Kt K mg base T) : Okd P w K mg base (CX P w) 8 (ga K "last_below") ["plan", "opening", "level", "day"] (spLastBelow K T) := by
  refine okd_of kn.f_last_below sc_last_below (fun vs H Q E h => ?_) (fun _ _ _ _ _ _ us hl => match us, hl with | [_, _, _, _], _ => rfl) (fun cdv A outer s H vs Q E hr h => ?_)
  · obtain ⟨plan, ps, c, s0, op, lev, os, rfl, _⟩ := h
    rfl
  · obtain ⟨plan, ps, c, s0, op, lev, os, rfl, hpl, pb, tb, hrs, hq⟩ := h
    refine ⟨_, (pss_cons (ps_expr (pf (ok_validate_plan (T := T) kn) (hr.mono (by decide)) (kn.glo "validate_plan") pass0 (pa_cons (pv 0) pa_nil)))
      (pss_cons (ps_set (i := 4) sc_last_below.nd rfl (.inl rfl) pe_non)
      (pss_cons (ps_forG (G := gSt P w K mg base T) ⟨rfl, rfl, rfl, rfl, rfl⟩ hr (passes_of rfl) rfl (List.mem_cons_self ..) xe_thaw (pig_st rfl kn kt hr (pa_cons (pv 0) (pa_cons (pv 1) (pa_cons (pv 3) (pa_cons pe_non pa_nil))))) (pg_name (i := 5) sc_last_below.nd rfl (.inl rfl)) (pss_cons (ps_set (i := 6) sc_last_below.nd rfl (.inl rfl) (pf (ok_last_low (T := T) kn) (hr.mono (by decide)) (kn.glo "last_low") (passes_call (takes_of (E := E) rfl rfl rfl rfl) (fun _ _ _ _ h => h)) (pa_cons (pv 5) (pa_cons (pv 2) pa_nil))))
      (pss_one (ps_set (i := 4) sc_last_below.nd rfl (.inl rfl) (pe_ifExp (pt_cmp (pc_isN (pv 6))) (pv 4) (pv 6))))))
      (pss_one (ps_ret (pv 4)))))), ?_⟩
    refine ⟨_, rfl, plan, ps, c, s0, os, rfl, hpl, pb.ok, tb, fun H1 g1 => ?_⟩
    have c1 := pb.c1
    have c2 := pb.c2
    have s1 := pb.s1
    have s2 := pb.s2
    refine ⟨_, rfl, _, rfl, _, rfl, plan, ps, c, s0, op, s0 - 1, os, rfl, hpl.ext g1.tups, pb, ⟨by omega, by omega⟩, g1.tb, ?_⟩
    have eY : ysOf (ga K "Stretch") T os c s0 op (s0 - 1) = [Y1 (ga K "Stretch") T s0 op (s0 - 1), Y2 (ga K "Stretch") T os c s0 op (s0 - 1)] := by
      unfold ysOf
      rw [if_pos (by omega)]
    show tItems _ _ _ _ (ysOf (ga K "Stretch") T os c s0 op (s0 - 1)) _ _
    rw [eY]
    rintro v H2 ⟨p, rfl, g2, S⟩
    refine ⟨_, rfl, _, rfl, p, s0 - 1, some (s0 - 1), [op], 0, lev, rfl, S, Nat.zero_lt_one, (by show 1 ≤ 400; decide), ⟨by decide, by decide⟩, g2.tb, fun hN => ?_, fun _ r H3 g3 hL => ?_⟩
    · obtain ⟨i, hi, e⟩ := hN
      have e0 : i = 0 := Nat.lt_one_iff.mp hi
      subst e0
      rw [low_y1] at e
      by_cases hl : op < lev
      · rw [if_pos hl] at e; cases e
      · rw [if_neg hl] at e; cases e
    have er := lDays_y1 hL
    have gg := (g1.trans g2).trans g3
    have hl := amA_len (os := os) (s0 := s0) (op := op) pb.c1
    refine ⟨_, rfl, _, rfl, ?_⟩
    have second : ∀ (p2 : Addr) (H4 : Hp) (r2 : Option Int), Gr T H H4 → MostOf (lDays s0 none (amA os c s0 op) (drf os c) lev c.toNat) r2 → (∀ i, i < c.toNat → (lowAt s0 none (amA os c s0 op) (drf os c) lev i).2 ≠ none) → Q (oi (r2.or r)) H4 := fun p2 H4 r2 g4 hm hn => by
      rw [er]
      exact hq hn r2 H4 g4 hm
    cases r
    all_goals
      refine ⟨_, rfl, fun b o e n => g3.get e n, g3.tb, fun v H4 y => ?_⟩
      obtain ⟨p2, rfl, g4, S2⟩ := y
      rw [show max s0 (s0 - 1) = s0 from Int.max_eq_left (by omega)] at S2
      refine ⟨_, rfl, _, rfl, p2, s0, none, amA os c s0 op, drf os c, lev, rfl, S2, by rw [hl]; omega, by rw [hl]; omega, pb.sm, g4.tb, fun hN H5 g5 => ?_, fun hN r2 H5 g5 hL2 => ?_⟩
      · rw [hl] at hN
        exact hrs hN H5 ((gg.trans g4).trans g5)
      · rw [hl] at hN hL2
        have fin := second p2 H5 r2 ((gg.trans g4).trans g5) hL2 hN
        refine ⟨_, rfl, _, rfl, ?_⟩
        cases r2 with
        | none => exact ⟨_, rfl, fun b o e n => g5.get e n, g5.tb, _, rfl, fin⟩
        | some m => exact ⟨_, rfl, fun b o e n => g5.get e n, g5.tb, _, rfl, fin⟩
end
end So
end
section
set_option maxHeartbeats 4000000
/-! A generator expression over a generator: one turn, from its consumer. -/
namespace Zg
open PySem PySem.Spec PyProof.Rows L2 GenW
section
variable {Z : Zx} {pins : List (Addr × Obj)} {σ : L2.St} {H H' : Hp} {s s' : Shared} {pos : Pos}
theorem zinv_iced (I : ZInv Z pins σ H s) : ZInv Z pins σ H (Frz.iced s) :=
  ⟨I.ok, ⟨I.e0.frames, I.e0.mod, I.e0.bs, I.e0.bsz, I.e0.funs, I.e0.frf, I.e0.hok, Frz.iced_bare I.e0.bare⟩, I.os, I.un, I.loc, I.pin, I.ownF, I.len⟩
theorem zinv_thaw {s0 u : Shared} (b : AllBare s0.gens) (T : Frz.Thawed s0 s u) (I : ZInv Z pins σ H s) : ZInv Z pins σ H u := by
  obtain ⟨G, e⟩ := T.eq
  have hb := T.bare b I.e0.bare
  subst e
  exact ⟨I.ok, ⟨I.e0.frames, I.e0.mod, I.e0.bs, I.e0.bsz, I.e0.funs, I.e0.frf, I.e0.hok, hb⟩, I.os, I.un, I.loc, I.pin, I.ownF, I.len⟩
/-- a def that may let an exception out -/
theorem z_runX {k : Nat} {f : Addr} {fd : FuncData} {ps : List Str} {sp : Sp} {Q : VK} {Es : XK} {us : List Value} {vs : List V} (F : FnOk Z.prog Z.w Z.K Z.mg Z.base (CX Z.prog Z.w) k f fd ps sp) (hk : k ≤ Z.k)
    (hb : Binds Z.K fd ps []) (I : ZInv Z pins σ H s) (r : Vals vs us) (h : sp vs H Q Es) : wpAny (model Z.prog Z.w) Z.A (call (.ref f) us) (ZP Z pins σ Q) (fun e s' => CX Z.prog Z.w Z.stack H s Es e s') s := by
  have hl : (us ++ []).length = ps.length := by rw [List.append_nil, ← r.length]; exact F.len _ _ _ _ h
  have hb2 := hb s us I.kin hl
  rw [List.append_nil] at hb2
  refine wpAny_call (codeAny_mono (F.run Z.A Z.stack s H ⟨us, []⟩ us vs Q _ (I.ok.room.mono hk) I.e0 hb2 r h) fun r' s' hq => ?_)
  cases r' with
  | error e => exact hq
  | ok fl =>
    cases fl with
    | ret u => exact I.after hq
    | next => exact hq.elim
    | brk => exact hq.elim
    | cont => exact hq.elim
theorem z_callX {k : Nat} {f : Addr} {fd : FuncData} {ps : List Str} {sp : Sp} {x : Str} {p : Pos} {e : Expr} {es : List Expr} {t : TA} {Q : VK} {Es : XK} (F : FnOk Z.prog Z.w Z.K Z.mg Z.base (CX Z.prog Z.w) k f fd ps sp) (hk : k ≤ Z.k) (hg : Z.env.kindOf x = some .globalImplicit) (hm : Z.mg x = some (.ref f)) (kp : PySem.W.keepIn Z.K (.ref f) = true)
    (hb : Binds Z.K fd ps []) (md : Z.K.In Z.base) (ha : ZA Z (e :: es) t) (hdb : (x == ("__debug__" : Str)) = false) (he : starEach (e :: es) Z.env = (false, eval e Z.env) :: starEach es Z.env) (hpl : (backTo pos (starEach es Z.env)).any (·.1) = false)
    (I : ZInv Z pins σ H s) (h : t σ H fun vs H1 => sp vs H1 Q Es) : wpAny (model Z.prog Z.w) Z.A (eval (.Call (.Name x p) (e :: es) [] pos) Z.env) (ZP Z pins σ Q) (fun e s' => ∃ sI H1, ZInv Z pins σ H1 sI ∧ CX Z.prog Z.w Z.stack H1 sI Es e s') s := by
  refine wpAny_Call_Name_kw (z_ld I hg hm ?_ hdb)
  refine PySem.W.callWith_K (h₀ := Z.base) md kp (thn (ha.run pos pins s σ H _ _ I h) fun us s1 z => ?_) he hpl
  obtain ⟨vs, H1, I1, r, q⟩ := z
  exact ⟨I1.kin, wpAny_mono (z_runX F hk hb I1 r q) (fun _ _ z => z) fun e s' z => ⟨s1, H1, I1, z⟩⟩
end
/-- records of ours forgotten ahead -/
theorem un_unhide {fs ex l : List Addr} {H H' : Hp} {h h' : Heap} (u : Un fs ex H H' (PySem.W.hideAll h l) h') : Un fs (ex ++ l) H H' h h' := by
  have hid : ∀ b o, h.get? b = some o → b ∉ ex ++ l → (PySem.W.hideAll h l).get? b = some o ∧ b ∉ ex := fun b o e hx =>
    ⟨PySem.W.hideAll_get l e fun z => hx (List.mem_append_right _ z), fun z => hx (List.mem_append_left _ z)⟩
  exact ⟨fun b o e n hf hx => let ⟨a, c⟩ := hid b o e hx; u.keep b o a n hf c, fun b o e n hf hx => let ⟨a, c⟩ := hid b o e hx; u.slot b o a n hf c, fun b o e n hx => let ⟨a, c⟩ := hid b o e hx; u.free b o a n c,
    fun b o e hx => let ⟨a, c⟩ := hid b o e hx; u.there b o a c, u.tups, u.frzs, u.tbls⟩
/-- what the consumer of a generator expression over a generator holds: a1 the inner one, a2 the expression's, S the consumer's own record -/
structure MH (G : GX) (outer : List Env) (s0 : Shared) (H0 : Hp) (ex : List Addr) (cenv : Env) (cl : Code) (x : Str) (a1 : Addr) (g1 : Nat) (a2 : Addr) (g2 : Nat) (S : Addr) (oS : Obj) (Ys : List YSpec) (T : List (Addr × HO)) (gp : List (Addr × Obj)) (gs1 gs2 : GenState) (s : Shared) (H : Hp) : Prop where
  os : s.os = s0.os
  bare : AllBare s.gens
  un : Un (frs outer) ex H0 H s0.heap s.heap
  hok : HOk G.prog G.w H s.heap
  bsz : G.base.objs.size ≤ s.heap.objs.size
  tb : G.tb H
  gen1 : s.heap.IsGen a1 g1
  at1 : s.gens[g1]? = some gs1
  gen2 : s.heap.IsGen a2 g2
  at2 : s.gens[g2]? = some gs2
  ng : g1 ≠ g2
  pok : PinsOk G (cenv :: outer) gp s H
  free : ∀ p ∈ gp, p.1 ∈ ex ∨ s0.heap.get? p.1 = none
  facts : FactsOk T H
  one1 : H a1 = none ∧ a1 ≠ cenv.locals ∧ a1 ∉ frs outer ∧ a1 ∉ gp.map (·.1)
  one2 : H a2 = none ∧ a2 ≠ cenv.locals ∧ a2 ∉ frs outer ∧ a2 ∉ gp.map (·.1)
  one3 : H S = none ∧ S ≠ cenv.locals ∧ S ∉ frs outer ∧ S ∉ gp.map (·.1)
  hS : s.heap.get? S = some oS
  frm : ∃ oC σ, s.heap.get? cenv.locals = some oC ∧ FrameAt [x] cenv.locals oC σ ∧ σ.length = 1
  frN : H cenv.locals = none ∧ cenv.locals ∈ ex ∧ cenv.locals ∉ frs outer
  sl : Asleep G Ys T gp gs1
  wk : ∀ (B : Around) (W : End → Shared → Prop) (s : Shared), s.heap.IsGen a1 g1 → Leg.Run (model G.prog G.w) B W cl ((model G.prog G.w).den cl) [] s → Leg.Woke (model G.prog G.w) B W gs2 s
/-- an exception on its way, whatever the consumer does with its record S -/
def XM (G : GX) (outer : List Env) (s0 : Shared) (H0 : Hp) (ex : List Addr) (Es : XK) (e : Value) (s' : Shared) : Prop := ∃ (H3 : Hp) (sI : Shared), sI.os = s0.os ∧ AllBare sI.gens ∧ Un (frs outer) ex H0 H3 s0.heap sI.heap ∧ HOk G.prog G.w H3 sI.heap ∧ CX G.prog G.w outer H3 sI Es e s'
section
variable {G : GX} {A : Around} {outer : List Env} {s0 s : Shared} {H0 H : Hp} {ex : List Addr} {cenv : Env} {x f : Str} {a1 a2 S : Addr} {g1 g2 : Nat} {oS : Obj} {Y : YSpec} {Ys : List YSpec} {T : List (Addr × HO)} {gp : List (Addr × Obj)} {gs1 gs2 : GenState}
  {scope : Scope} {gpos px fp xp cp : Pos} {iter : Expr} {Q : Option Value → Shared → Prop} {E : Value → Shared → Prop}
abbrev elF (f x : Str) (fp xp cp : Pos) : Expr := .Call (.Name f fp) [.Name x xp] [] cp
abbrev clF (f x : Str) (fp xp cp px : Pos) (iter : Expr) (scope : Scope) (gpos : Pos) (a1 : Addr) (cenv : Env) : Code := .compLoop (.GeneratorExp (elF f x fp xp cp) [⟨.Name x px, iter, [], 0⟩] scope gpos) 0 (.ref a1) .none cenv
/-- the frame begins a turn -/
theorem MH.zinv {cl : Code} (M : MH G outer s0 H0 ex cenv cl x a1 g1 a2 g2 S oS Ys T gp gs1 gs2 s H) (e0 : Env0 G.prog G.w G.K G.mg G.base A outer s0 H0) (hex : ∀ b ∈ ex, G.base.get? b = none ∧ b ∉ frs outer) (hr : Room (G.k + 2) A) (eo : EnvOk G cenv [x]) :
    ∃ σ : L2.St, σ.length = 1 ∧ ZInv ⟨G.prog, G.w, G.K, G.mg, G.base, A.deeper cenv, cenv, outer, [x], [cenv.locals], { s with heap := PySem.W.hideAll s.heap (gp.map (·.1)) }, H, G.k + 1⟩ [(a1, (s.heap.get? a1).getD oS), (a2, (s.heap.get? a2).getD oS), (S, oS)] σ H (s.setGen g2 .running) := by
  obtain ⟨oC, σ, hC, hf, hl⟩ := M.frm
  obtain ⟨m, hn, hloc⟩ := hf _ hC
  obtain ⟨n1, n2, n3⟩ := M.frN
  have e1 : Env0 G.prog G.w G.K G.mg G.base A outer s H := env0_step (s := s0) (H := H0) (ch := ex) e0 M.un M.hok M.bare M.bsz hex
  have hk : cenv.scope.kind ≠ .module := by rw [eo.kind]; decide
  have bn := (hex _ n2).1
  have es : frs (cenv :: outer) = cenv.locals :: frs outer := frs_cons eo.fr
  refine ⟨σ, hl, ⟨eo.kind, eo.glob, eo.blt, eo.fr, hr.deeper cenv, eo.nd, eo.nl, eo.bl, List.mem_singleton.mpr rfl, fun b hb => ?_, fun b hb => ?_⟩, ⟨Around.frames_deeper e1.frames, e1.mod, e1.bs, e1.bsz, .cons hk eo.fr hn bn e1.funs, fun b hb => ?_, e1.hok, allBare_setGen e1.bare rfl⟩, rfl,
    Un.kept fun b o e => PySem.W.of_hideAll _ e, ⟨m, hn, hloc⟩, fun p hp => ?_, fun b hb => ?_, hl⟩
  · rw [List.mem_singleton.mp hb]; exact bn
  · rw [List.mem_singleton.mp hb]; exact n3
  · have hb' : b ∈ cenv.locals :: frs outer := by rw [← es]; exact hb
    rcases List.mem_cons.mp hb' with z | z
    · rw [z]; exact n1
    · exact e1.frf b z
  · have q : ∀ (a : Addr) (g : Nat), s.heap.IsGen a g → s.heap.get? a = some ((s.heap.get? a).getD oS) := fun a g hg => by
      obtain ⟨o, _, _, ho, _⟩ := hg
      rw [ho]; rfl
    have hp' : p = (a1, (s.heap.get? a1).getD oS) ∨ p = (a2, (s.heap.get? a2).getD oS) ∨ p = (S, oS) := by simpa using hp
    rcases hp' with z | z | z
    · rw [z]; exact ⟨q a1 g1 M.gen1, M.one1.1, M.one1.2.1, M.one1.2.2.1⟩
    · rw [z]; exact ⟨q a2 g2 M.gen2, M.one2.1, M.one2.2.1, M.one2.2.2.1⟩
    · rw [z]; exact ⟨M.hS, M.one3.1, M.one3.2.1, M.one3.2.2.1⟩
  · rw [List.mem_singleton.mp hb]; exact ⟨n1, oC, hC⟩
end
end Zg
end
section
set_option maxHeartbeats 4000000
/-! One turn of a generator expression over a generator. -/
namespace Zg
open PySem PySem.Spec PyProof.Rows L2 GenW
/-- an exception leaves the expression's frame; its consumer's record S may still change -/
theorem xm_of {G : GX} {A : Around} {outer : List Env} {s0 s1 : Shared} {H0 H1 : Hp} {ex : List Addr} {cenv : Env} {S : Addr} {oS : Obj} {Es : XK} {e : Value} {s' : Shared} {Q : Shared → Prop} {E1 : Value → Shared → Prop} {a2 : Addr} {g2 : Nat} {kin : G.K.In s1.heap}
    (hfr : A.frames = some (cenv :: outer)) (hf : cenv.frame = some cenv.locals) (hc : CX G.prog G.w (cenv :: outer) H1 s1 Es e s') (os : s1.os = s0.os) (bare : AllBare s1.gens) (un : Un (frs outer) ex H0 H1 s0.heap s1.heap) (hok : HOk G.prog G.w H1 s1.heap)
    (hC : H1 cenv.locals = none ∧ cenv.locals ∈ ex ∧ cenv.locals ∉ frs outer) (hCe : ∃ o, s1.heap.get? cenv.locals = some o) (hS : s1.heap.get? S = some oS) (hSd : ∀ vs, oS.data ≠ .fields vs) (hS1 : H1 S = none ∧ S ≠ cenv.locals ∧ S ∉ frs outer) (hS0 : S ∈ ex ∨ s0.heap.get? S = none)
    (hg : s1.heap.IsGen a2 g2) (ha2 : H1 a2 = none ∧ a2 ≠ cenv.locals ∧ a2 ∉ frs outer) (hns : NoStop G.K Es) (hb : ∀ b o, G.base.get? b = some o → s1.heap.get? b = some o ∧ H1 b = none) (hbf : ∀ b o, G.base.get? b = some o → b ∉ frs (cenv :: outer)) (hki : G.K.In G.base)
    (k : ∀ s'', AllBare s''.gens → s''.heap.IsGen a2 g2 → NotStop (model G.prog G.w) e s''.heap → s''.heap.get? S = some oS → (∀ h' g', (∀ b o, b ≠ S → s''.heap.get? b = some o → h'.get? b = some o) → AllBare g' → XM G outer s0 H0 ex Es e { s'' with heap := h', gens := g' }) → Q s'') :
    wpAny (model G.prog G.w) A (leaving cenv e) (fun _ s'' => Q s'') E1 s' := by
  obtain ⟨a, B, H', cls, d, rfl, fl, hokB, ub, na, os', ag, hE⟩ := id hc
  have es : frs (cenv :: outer) = cenv.locals :: frs outer := frs_cons hf
  refine HandSPX.leaves_onZ Zc.steady hfr hf fl fun h1 fl1 up => ?_
  have inB : ∀ b o, s1.heap.get? b = some o → H1 b = none → b ≠ cenv.locals → b ∉ frs outer → B.get? b = some o := fun b o e n n1 n2 => ub.keep b o e n fun z => by
    rw [es] at z
    exact (List.mem_cons.mp z).elim n1 n2
  have kinB : G.K.In h1 := hki.keeps fun b o e => by
    obtain ⟨q1, q2⟩ := hb b o e
    exact fl1.1 b o (ub.keep b o q1 q2 (hbf b o e))
  obtain ⟨o2, nm, qn, ho2, r2⟩ := hg
  have hSB := inB S oS hS hS1.1 hS1.2.1 hS1.2.2
  refine k _ ag ⟨o2, nm, qn, fl1.1 _ _ (inB a2 o2 ho2 ha2.1 ha2.2.1 ha2.2.2), r2⟩ ?_ (fl1.1 _ _ hSB) fun h' g' hk bg => ?_
  · obtain ⟨oe, vs, he, hz, hd⟩ := fl1.there
    have L := PySem.W.looks_subIn (M := model G.prog G.w) kinB (hns cls d H' hE)
    intro A Q E' s2 hs hq
    simp only [isInstance]
    refine wpAny_bind (wpAny_typeOf_ref (o := oe) (by rw [hs]; exact he) ?_)
    rw [hz.1]
    exact L A Q E' s2 (fun b o z => by rw [hs]; exact z) hq
  · have hl : ∀ b, b ∈ ([cenv.locals, S] : List Addr) → b = cenv.locals ∨ b = S := fun b hb => by simpa using hb
    have nin : ∀ b, b ≠ cenv.locals → b ≠ S → b ∉ ([cenv.locals, S] : List Addr) := fun b n1 n2 hb => (hl b hb).elim n1 n2
    have hid : ∀ {h : Heap} b o, (PySem.W.hideAll h [cenv.locals, S]).get? b = some o → h.get? b = some o ∧ b ≠ cenv.locals ∧ b ≠ S := fun {h} b o e => by
      refine ⟨PySem.W.of_hideAll _ e, fun z => ?_, fun z => ?_⟩
      · rw [PySem.W.hideAll_none [cenv.locals, S] (by rw [z]; exact List.mem_cons_self)] at e; cases e
      · rw [PySem.W.hideAll_none [cenv.locals, S] (by rw [z]; exact List.mem_cons_of_mem _ List.mem_cons_self)] at e; cases e
    have hidn : ∀ {h : Heap} b, h.get? b = none → (PySem.W.hideAll h [cenv.locals, S]).get? b = none := fun {h} b e => by
      cases q : (PySem.W.hideAll h [cenv.locals, S]).get? b with
      | none => rfl
      | some o => rw [PySem.W.of_hideAll _ q] at e; cases e
    have noC : ∀ b u, H1 b = some u → b ≠ cenv.locals := fun b u e z => by rw [z, hC.1] at e; cases e
    have noS : ∀ b u, H1 b = some u → b ≠ S := fun b u e z => by rw [z, hS1.1] at e; cases e
    have H'S : H' S = none := ub.free S oS hS hS1.1
    have H'C : ∀ b u, H' b = some u → b ≠ S := fun b u e z => by rw [z, H'S] at e; cases e
    have exC : cenv.locals ∈ frs (cenv :: outer) := by rw [es]; exact List.mem_cons_self
    obtain ⟨f1, f2, f3, oe, vs, Tt, oT, ts, he, hz, hd, h1e, hnT, hTe, hT, hdT, h3⟩ := fl1
    have oSd : oS.data ≠ .fields vs := hSd vs
    have eS : a ≠ S := fun z => by
      have q := f1 S oS hSB
      rw [← z, he] at q
      cases q
      exact hSd vs hd
    have TS : Tt ≠ S := fun z => by
      have q := f1 S oS hSB
      rw [← z, hT] at q
      cases q
      exact hSd ts hdT
    have H'L : ∀ b u, H' b = some u → b ≠ cenv.locals := fun b u e z => by
      obtain ⟨oc, q⟩ := hCe
      rw [z, ub.free _ oc q hC.1] at e
      cases e
    refine ⟨H1, { s1 with heap := PySem.W.hideAll s1.heap [cenv.locals, S] }, os, bare, ⟨fun b o e n hb' hx => ?_, fun b o e n hb' hx => ?_, fun b o e n hx => un.free b o e n hx, fun b o e hx => ?_, un.tups, un.frzs, un.tbls⟩, fun b u e => ?_, a, PySem.W.hideAll B [cenv.locals, S], H', cls, d, rfl, ⟨fun b o e => ?_, hidn _ f2, ?_, oe, vs, Tt, oT, ts, hk _ _ eS he, hz, hd, h1e, hidn _ hnT, hTe, hk _ _ TS hT, hdT, h3⟩, fun b u e => ?_, ⟨fun b o e n hb' => ?_, fun b o e hb' => ?_, fun b o e n => ?_, fun b o e hb' => ?_, ub.tups, ub.frzs, ub.tbls⟩, na, os', bg, hE⟩
    · have nb : b ≠ cenv.locals ∧ b ≠ S := ⟨fun z => hx (by rw [z]; exact hC.2.1), fun z => by
        rcases hS0 with q | q
        · exact hx (by rw [z]; exact q)
        · rw [z, q] at e; cases e⟩
      exact PySem.W.hideAll_get _ (un.keep b o e n hb' hx) (nin b nb.1 nb.2)
    · have nb : b ≠ cenv.locals ∧ b ≠ S := ⟨fun z => hx (by rw [z]; exact hC.2.1), fun z => hS1.2.2 (by rw [← z]; exact hb')⟩
      obtain ⟨sl, q⟩ := un.slot b o e n hb' hx
      exact ⟨sl, PySem.W.hideAll_get _ q (nin b nb.1 nb.2)⟩
    · have nb : b ≠ cenv.locals ∧ b ≠ S := ⟨fun z => hx (by rw [z]; exact hC.2.1), fun z => by
        rcases hS0 with q | q
        · exact hx (by rw [z]; exact q)
        · rw [z, q] at e; cases e⟩
      obtain ⟨o', q⟩ := un.there b o e hx
      exact ⟨o', PySem.W.hideAll_get _ q (nin b nb.1 nb.2)⟩
    · refine (hok b u e).stay (fun c v hc q => PySem.W.hideAll_get _ q (nin c ?_ ?_)) (fun _ q => q) fun _ _ q => q
      · rcases hc with z | z
        · rw [z]; exact noC b u e
        · exact noC c _ z
      · rcases hc with z | z
        · rw [z]; exact noS b u e
        · exact noS c _ z
    · obtain ⟨q, n1, n2⟩ := hid b o e
      exact hk b o n2 (f1 b o q)
    · have all : ∀ (l : List Env), (∀ b ∈ frs l, b ∈ frs outer) → h1.FunFrames B l → h'.FunFrames (PySem.W.hideAll B [cenv.locals, S]) l := by
        intro l
        induction l with
        | nil => intro _ _; trivial
        | cons env r ih =>
          intro hs hl
          obtain ⟨hk1, ⟨L, o, hf1, hn, ho, hd1⟩, hr⟩ := hl
          have hL : L ∈ frs outer := hs L (by unfold frs; rw [List.filterMap_cons, hf1]; exact List.mem_cons_self)
          exact ⟨hk1, ⟨L, o, hf1, hidn _ hn, hk _ _ (fun z => hS1.2.2 (by rw [← z]; exact hL)) ho, hd1⟩, ih (fun b hb => hs b (by unfold frs; rw [List.filterMap_cons, hf1]; exact List.mem_cons_of_mem _ hb)) hr⟩
      exact all outer (fun _ hb => hb) f3
    · refine (hokB b u e).stay (fun c v hc q => PySem.W.hideAll_get _ q (nin c ?_ ?_)) (fun _ q => q) fun _ _ q => q
      · rcases hc with z | z
        · rw [z]; exact H'L b u e
        · exact H'L c _ z
      · rcases hc with z | z
        · rw [z]; exact H'C b u e
        · exact H'C c _ z
    · obtain ⟨q, n1, n2⟩ := hid b o e
      exact PySem.W.hideAll_get _ (inB b o q n n1 hb') (nin b n1 n2)
    · obtain ⟨q, n1, n2⟩ := hid b o e
      obtain ⟨sl, e1⟩ := ub.slot b o q (by rw [es]; exact List.mem_cons_of_mem _ hb')
      have hnf : ∀ vs, o.data ≠ .fields vs := by
        obtain ⟨_, o₀, e₀, hnf⟩ := fl.2.2.1.mem (b := b) (by show b ∈ frs (cenv :: outer); rw [es]; exact List.mem_cons_of_mem _ hb')
        rw [e1] at e₀
        cases e₀
        exact hnf
      obtain ⟨sl2, e2⟩ := up b _ e1 hnf
      exact ⟨sl2, hk _ _ n2 e2⟩
    · obtain ⟨q, n1, n2⟩ := hid b o e
      exact ub.free b o q n
    · obtain ⟨q, n1, n2⟩ := hid b o e
      obtain ⟨o', e1⟩ := ub.there b o q (fun z => by
        rw [es] at z
        exact (List.mem_cons.mp z).elim n1 hb')
      exact ⟨o', PySem.W.hideAll_get _ e1 (nin b n1 n2)⟩
end Zg
end
section
set_option maxHeartbeats 4000000
/-! One turn of a generator expression over a generator: an item, the end. -/
namespace Zg
open PySem PySem.Spec PyProof.Rows L2 GenW
section
variable {G : GX} {A : Around} {outer : List Env} {s0 s : Shared} {H0 H : Hp} {ex : List Addr} {cenv : Env} {x f : Str} {a1 a2 S fa : Addr} {g1 g2 k : Nat} {oS : Obj} {Y : YSpec} {Ys : List YSpec} {T : List (Addr × HO)} {gp : List (Addr × Obj)} {gs1 gs2 : GenState}
  {scope : Scope} {gpos px fp xp cp : Pos} {iter : Expr} {Q : Option Value → Shared → Prop} {E : Value → Shared → Prop} {fd : FuncData} {ps : List Str} {sp : Sp} {Qs : VK} {Es : XK}
theorem gm_some (F : FnOk G.prog G.w G.K G.mg G.base (CX G.prog G.w) k fa fd ps sp) (hk : k ≤ G.k + 1) (hm : G.mg f = some (.ref fa)) (kp : PySem.W.keepIn G.K (.ref fa) = true) (hb : Binds G.K fd ps []) (hg : cenv.kindOf f = some .globalImplicit)
    (hdb : (f == ("__debug__" : Str)) = false) (hdx : (x == ("__debug__" : Str)) = false) (hco : cenv.scope.isCoroutine = false) (he : starEach [.Name x xp] cenv = (false, eval (.Name x xp) cenv) :: starEach [] cenv) (hpl : (backTo cp (starEach [] cenv)).any (·.1) = false)
    (M : MH G outer s0 H0 ex cenv (clF f x fp xp cp px iter scope gpos a1 cenv) x a1 g1 a2 g2 S oS (Y :: Ys) T gp gs1 gs2 s H) (e0 : Env0 G.prog G.w G.K G.mg G.base A outer s0 H0) (hex : ∀ b ∈ ex, G.base.get? b = none ∧ b ∉ frs outer) (hr : Room (G.k + 3) A) (eo : EnvOk G cenv [x])
    (hns : NoStop G.K Es) (hsp : ∀ v H1, Y H v H1 → sp [v] H1 (fun y H2 => Keeps H1 H2 ∧ G.tb H2 ∧ Qs y H2) Es) (hSd : ∀ vs, oS.data ≠ .fields vs) (hS0 : S ∈ ex ∨ s0.heap.get? S = none)
    (kQ : ∀ u y s' H' T' gp' gs1' gs2', RelV y u → Qs y H' → MH G outer s0 H0 ex cenv (clF f x fp xp cp px iter scope gpos a1 cenv) x a1 g1 a2 g2 S oS Ys T' gp' gs1' gs2' s' H' → Q (some u) s')
    (kE : ∀ e s'', s''.heap.get? S = some oS → (∀ h', (∀ b o, b ≠ S → s''.heap.get? b = some o → h'.get? b = some o) → XM G outer s0 H0 ex Es e { s'' with heap := h' }) → E e s'') :
    wpAny (model G.prog G.w) A (pyNext (.ref a2)) Q E s := by
  have e1 : Env0 G.prog G.w G.K G.mg G.base A outer s H := env0_step (s := s0) (H := H0) (ch := ex) e0 M.un M.hok M.bare M.bsz hex
  have hl : s.heap.NoLimit := e1.mod.nolimit.keeps fun b o e => (e1.bs b o e).1
  have hlt : g2 < s.gens.size := (Array.getElem?_eq_some_iff.mp M.at2).1
  refine wpAny_gsz (n := g2 + 1) hlt ?_
  refine Leg.next_of hr.hd hl hr.depth M.gen2 M.at2 ?_
  refine M.wk _ _ _ M.gen1 ?_
  refine lc_turn rfl hco ?_
  rw [over_comp]
  have hr1 : Room (G.k + 2) A.in1 := hr.in1
  have hr2 : Room (G.k + 1) (A.in1.deeper cenv) := hr1.deeper cenv
  have hr3 : Room G.k (A.in1.deeper cenv).in1 := hr2.in1
  obtain ⟨σ, hσ, I⟩ := M.zinv (A := A.in1) e0.in1 hex hr1 eo
  generalize hZ : (⟨G.prog, G.w, G.K, G.mg, G.base, A.in1.deeper cenv, cenv, outer, [x], [cenv.locals], { s with heap := PySem.W.hideAll s.heap (gp.map (·.1)) }, H, G.k + 1⟩ : Zx) = Z at I
  obtain ⟨o1, _, _, ho1, hc1, hd1, _⟩ := id M.gen1
  obtain ⟨o2, _, _, ho2, hc2, hd2, _⟩ := id M.gen2
  have eo1 : (s.heap.get? a1).getD oS = o1 := by rw [ho1]; rfl
  have eo2 : (s.heap.get? a2).getD oS = o2 := by rw [ho2]; rfl
  rw [eo1, eo2] at I
  have es : frs (cenv :: outer) = cenv.locals :: frs outer := frs_cons eo.fr
  have nfr : ∀ b, b ≠ cenv.locals → b ∉ frs outer → b ∉ frs (cenv :: outer) := fun b n1 n2 z => by
    rw [es] at z
    exact (List.mem_cons.mp z).elim n1 n2
  have L1 : LegPre G (A.in1.deeper cenv).in1 (cenv :: outer) T gp (s.setGen g2 .running) H := by
    refine ⟨hr3, ?_, ⟨M.pok.at_, M.pok.nc⟩, M.facts, M.tb⟩
    have z := I.e0
    subst hZ
    exact z.in1
  have at1' : (s.setGen g2 .running).gens[g1]? = some gs1 := by
    show (s.gens.setIfInBounds g2 .running)[g1]? = _
    rw [Array.getElem?_setIfInBounds_ne (Ne.symm M.ng)]
    exact M.at1
  refine next_some L1 hr2.depth hr2.hd M.gen1 at1' M.sl M.one1.1 (nfr _ M.one1.2.1 M.one1.2.2.1) M.one1.2.2.2 fun u v s1 H1 T1 gp1 gs1' ru y W hg1 hgen1 pok1 fr1 tf1 sl1 cd1 => ?_
  -- the inner item has come
  have gpl : ∀ b ∈ gp.map (·.1), ∃ o, (b, o) ∈ gp := fun b hb => by
    obtain ⟨p, hp, rfl⟩ := List.mem_map.mp hb
    exact ⟨p.2, hp⟩
  have I1 : ZInv Z [(a1, o1), (a2, o2), (S, oS)] σ H1 s1 := by
    refine I.step (ch := gp.map (·.1)) (by subst hZ; exact W.un) (by subst hZ; exact W.hok) W.bare W.os fun b hb => ?_
    obtain ⟨o, ho⟩ := gpl b hb
    obtain ⟨q1, q2, q3, q4⟩ := M.pok.at_ _ ho
    have nb : b ≠ cenv.locals ∧ b ∉ frs outer := by
      rw [es] at q3
      exact ⟨fun z => q3 (by rw [z]; exact List.mem_cons_self), fun z => q3 (List.mem_cons_of_mem _ z)⟩
    subst hZ
    refine ⟨⟨.inr (PySem.W.hideAll_none _ hb), q4, nb.2⟩, nb.1, fun z => absurd (List.mem_singleton.mp z) nb.1, fun p hp => ?_⟩
    have hp' : p = (a1, o1) ∨ p = (a2, o2) ∨ p = (S, oS) := by simpa using hp
    rcases hp' with z | z | z
    · rw [z]; exact fun e => M.one1.2.2.2 (by rw [show a1 = b from e]; exact hb)
    · rw [z]; exact fun e => M.one2.2.2.2 (by rw [show a2 = b from e]; exact hb)
    · rw [z]; exact fun e => M.one3.2.2.2 (by rw [show S = b from e]; exact hb)
  have I2 : ZInv Z ([(a1, o1), (a2, o2), (S, oS)] ++ gp1) σ H1 s1 := I1.pinned fun p hp => by
    rcases List.mem_append.mp hp with z | z
    · exact I1.pin p z
    · obtain ⟨q1, q2, q3, q4⟩ := pok1.at_ p z
      rw [es] at q3
      subst hZ
      exact ⟨q1, q2, fun e => q3 (by rw [e]; exact List.mem_cons_self), fun e => q3 (List.mem_cons_of_mem _ e)⟩
  refine wpAny_pure ?_
  have hx : Z.N[0]? = some x := by subst hZ; rfl
  -- the target is stored
  have st := z_store (Z := Z) (E := fun _ _ => False) (Q := fun _ s' => ZInv Z ([(a1, o1), (a2, o2), (S, oS)] ++ gp1) (σ.set 0 (some v)) H1 s') (zinv_iced I2) hx ru fun _ I => I
  have eA : Z.A = A.in1.deeper cenv := by subst hZ; rfl
  have eE : Z.env = cenv := by subst hZ; rfl
  have eP : Z.prog = G.prog := by subst hZ; rfl
  have eW : Z.w = G.w := by subst hZ; rfl
  have eK : Z.K = G.K := by subst hZ; rfl
  have eM : Z.mg = G.mg := by subst hZ; rfl
  have eB : Z.base = G.base := by subst hZ; rfl
  have eS : Z.stack = cenv :: outer := by subst hZ; rfl
  have eO : Z.outer = outer := by subst hZ; rfl
  rw [eA, eE, eP, eW] at st
  refine Frz.any_iced (wpAny_assign_Name st) (fun _ s2 u2 I3 T2 => ?_) (fun _ _ _ z _ => z.elim)
  have I3' := zinv_thaw I2.e0.bare T2 I3
  have hσ1 : (σ.set 0 (some v))[0]? = some (some v) := by
    rw [List.getElem?_set_self (by omega)]
  have at1u : u2.gens[g1]? = some gs1' := (T2.sl.2 g1 (by rw [hg1]; exact cd1)).trans hg1
  -- the element
  have F' : FnOk Z.prog Z.w Z.K Z.mg Z.base (CX Z.prog Z.w) k fa fd ps sp := by rw [eP, eW, eK, eM, eB]; exact F
  have kE0 : Z.k = G.k + 1 := by subst hZ; rfl
  have el := z_callX (Z := Z) (x := f) (p := fp) (pos := cp) (Q := fun y H2 => Keeps H1 H2 ∧ G.tb H2 ∧ Qs y H2) (Es := Es) F' (by rw [kE0]; exact hk) (by rw [eE]; exact hg) (by rw [eM]; exact hm) (by rw [eK]; exact kp) (by rw [eK]; exact hb) (by rw [eK, eB]; exact e0.mod.kin)
    (za_cons (z_var hx hdx) za_nil (by rw [eE]; exact he)) hdb (by rw [eE]; exact he) (by rw [eE]; exact hpl) (zinv_iced I3') ⟨v, hσ1, hsp v H1 y⟩
  rw [eA, eE, eP, eW, eS] at el
  refine Frz.any_iced el (fun uy s4 u4 z T4 => ?_) fun e s4 u4 z T4 => ?_
  · obtain ⟨yv, H2, I4, ry, hkp, htb, hqs⟩ := z
    have I4' := zinv_thaw I3'.e0.bare T4 I4
    have at14 : u4.gens[g1]? = some gs1' := (T4.sl.2 g1 (by rw [at1u]; exact cd1)).trans at1u
    intro kk l p hkk
    refine ⟨rfl, fun hsz => ?_⟩
    have hsz1 : g2 < u4.gens.size := by
      have e : (u4.setGen g2 (End.susp uy false l kk (clF f x fp xp cp px iter scope gpos a1 cenv) p []).genState).gens.size = u4.gens.size := setGen_size _ _ _
      have hsz' : g2 + 1 ≤ (u4.setGen g2 (End.susp uy false l kk (clF f x fp xp cp px iter scope gpos a1 cenv) p []).genState).gens.size := hsz
      omega
    have pinOf := I4'.pin
    have pa1 := pinOf (a1, o1) (by simp)
    have pa2 := pinOf (a2, o2) (by simp)
    have pS := pinOf (S, oS) (by simp)
    have e4 := I4'.e0
    have un4 : Un (frs outer) ex H0 H2 s0.heap u4.heap := by
      have z := I4'.un
      subst hZ
      have z2 := un_unhide z
      refine un_comp (ch := [cenv.locals] ++ gp.map (·.1)) M.un z2 (fun b hb => .inl hb) fun b hb => ?_
      rcases List.mem_append.mp hb with q | q
      · rw [List.mem_singleton.mp q]; exact .inl M.frN.2.1
      · obtain ⟨o, ho⟩ := gpl b q
        exact M.free _ ho
    refine kQ uy yv _ H2 T1 gp1 gs1' (End.susp uy false l kk (clF f x fp xp cp px iter scope gpos a1 cenv) p []).genState ry hqs ?_
    obtain ⟨oC, hoC, hfC⟩ : ∃ oC, u4.heap.get? cenv.locals = some oC ∧ FrameAt [x] cenv.locals oC (σ.set 0 (some v)) := by
      obtain ⟨m, hn, hloc⟩ := I4'.loc
      obtain ⟨o, es', ep, ho, r⟩ := id hn
      subst hZ
      exact ⟨o, ho, fun h e => ⟨m, ⟨o, es', ep, e, r⟩, hloc⟩⟩
    have alive : ∀ b, b ∈ gp1.map (·.1) → b ∈ gp.map (·.1) ∨ s.heap.get? b = none := fun b hb => by
      obtain ⟨p, hp, rfl⟩ := List.mem_map.mp hb
      rcases fr1 p hp with q | q
      · exact .inl q
      · exact .inr q.1
    have nin1 : ∀ (b : Addr) (o : Obj), s.heap.get? b = some o → b ∉ gp.map (·.1) → b ∉ gp1.map (·.1) := fun b o e n hb => by
      rcases alive b hb with q | q
      · exact n q
      · rw [e] at q; cases q
    refine ⟨?_, allBare_setGen e4.bare rfl, un4, by rw [← eP, ← eW]; exact e4.hok, by rw [← eB]; exact e4.bsz, htb, ⟨o1, _, _, pa1.1, hc1, hd1, ‹_›⟩, ?_, ⟨o2, _, _, pa2.1, hc2, hd2, ‹_›⟩, setGen_at hsz1, M.ng, ⟨fun p hp => ?_, pok1.nc⟩, fun p hp => ?_, fun ft hf => ?_, ⟨pa1.2.1, M.one1.2.1, M.one1.2.2.1, nin1 _ _ ho1 M.one1.2.2.2⟩, ⟨pa2.2.1, M.one2.2.1, M.one2.2.2.1, nin1 _ _ ho2 M.one2.2.2.2⟩, ⟨pS.2.1, M.one3.2.1, M.one3.2.2.1, nin1 _ _ M.hS M.one3.2.2.2⟩, pS.1, ⟨oC, _, hoC, hfC, by rw [List.length_set]; exact hσ⟩, ⟨?_, M.frN.2.1, M.frN.2.2⟩, sl1, fun B W s' _ hrun => hkk _ _ _ _ hrun⟩
    · have z := I4'.os
      subst hZ
      exact z.trans M.os
    · show (u4.gens.setIfInBounds g2 _)[g1]? = _
      rw [Array.getElem?_setIfInBounds_ne (Ne.symm M.ng)]
      exact at14
    · obtain ⟨q1, q2, q3, q4⟩ := pok1.at_ p hp
      have pp := pinOf p (List.mem_append_right _ hp)
      exact ⟨pp.1, pp.2.1, q3, q4⟩
    · rcases alive p.1 (List.mem_map.mpr ⟨p, hp, rfl⟩) with q | q
      · obtain ⟨o, ho⟩ := gpl _ q
        exact M.free (p.1, o) ho
      · by_cases hx' : p.1 ∈ ex
        · exact .inl hx'
        · right
          cases e : s0.heap.get? p.1 with
          | none => rfl
          | some o =>
            obtain ⟨o', e'⟩ := M.un.there _ o e hx'
            rw [q] at e'
            cases e'
    · obtain ⟨f1, f2⟩ := tf1 ft hf
      exact ⟨hkp _ _ f1 f2, f2⟩
    · have z := I4'.ownF cenv.locals (by subst hZ; exact List.mem_singleton.mpr rfl)
      exact z.1
  · obtain ⟨sI, HI, II, hcx⟩ := z
    have hcx := So.cx_thaw I3'.e0.bare T4 hcx
    have pa2 := II.pin (a2, o2) (by simp)
    have pS := II.pin (S, oS) (by simp)
    have e4 := II.e0
    have unI : Un (frs outer) ex H0 HI s0.heap sI.heap := by
      have z := II.un
      subst hZ
      have z2 := un_unhide z
      refine un_comp (ch := [cenv.locals] ++ gp.map (·.1)) M.un z2 (fun b hb => .inl hb) fun b hb => ?_
      rcases List.mem_append.mp hb with q | q
      · rw [List.mem_singleton.mp q]; exact .inl M.frN.2.1
      · obtain ⟨o, ho⟩ := gpl b q
        exact M.free _ ho
    have oC := II.ownF cenv.locals (by subst hZ; exact List.mem_singleton.mpr rfl)
    have hfrm : (A.in1.deeper cenv).frames = some (cenv :: outer) := by
      have z := e4.frames
      subst hZ
      exact z
    have hosI : sI.os = s0.os := by
      have z := II.os
      subst hZ
      exact z.trans M.os
    rw [eP, eW, eK, eM, eB, eS, eA] at e4
    show Leg.Run _ _ _ _ (leaving cenv e >>= fun _ => .raise e) [] u4
    refine Leg.bind ?_
    rw [over_comp]
    refine xm_of (G := G) (s0 := s0) (H0 := H0) (ex := ex) (s1 := sI) (H1 := HI) (S := S) (oS := oS) (Es := Es) (a2 := a2) (g2 := g2) (kin := e4.mod.kin.keeps fun b o z => (e4.bs b o z).1) hfrm eo.fr hcx hosI e4.bare unI e4.hok ⟨oC.1, M.frN.2.1, M.frN.2.2⟩ oC.2 pS.1 hSd ⟨pS.2.1, M.one3.2.1, M.one3.2.2.1⟩ hS0 ⟨o2, _, _, pa2.1, hc2, hd2, ‹_›⟩ ⟨pa2.2.1, M.one2.2.1, M.one2.2.2.1⟩ hns e4.bs (fun b o z q => by rw [(e4.funs.mem q).1] at z; cases z) e0.mod.kin fun s'' hb2 hgen hnst hS2 hx2 => ?_
    refine Leg.over_ (.error e) ⟨hgen, hnst, fun _ => kE e _ hS2 fun h' hk' => ?_⟩
    exact hx2 h' _ hk' (allBare_setGen hb2 rfl)
/-- the end -/
theorem gm_none (hco : cenv.scope.isCoroutine = false)
    (M : MH G outer s0 H0 ex cenv (clF f x fp xp cp px iter scope gpos a1 cenv) x a1 g1 a2 g2 S oS [] T gp gs1 gs2 s H) (e0 : Env0 G.prog G.w G.K G.mg G.base A outer s0 H0) (hex : ∀ b ∈ ex, G.base.get? b = none ∧ b ∉ frs outer) (hr : Room (G.k + 3) A) (eo : EnvOk G cenv [x])
    (kQ : ∀ s', s'.os = s0.os → AllBare s'.gens → Un (frs outer) ex H0 H s0.heap s'.heap → HOk G.prog G.w H s'.heap → G.tb H → s'.heap.get? S = some oS → Q none s') : wpAny (model G.prog G.w) A (pyNext (.ref a2)) Q E s := by
  have e1 : Env0 G.prog G.w G.K G.mg G.base A outer s H := env0_step (s := s0) (H := H0) (ch := ex) e0 M.un M.hok M.bare M.bsz hex
  have hl : s.heap.NoLimit := e1.mod.nolimit.keeps fun b o e => (e1.bs b o e).1
  refine Leg.next_of hr.hd hl hr.depth M.gen2 M.at2 ?_
  refine M.wk _ _ _ M.gen1 ?_
  refine lc_turn rfl hco ?_
  rw [over_comp]
  have hr1 : Room (G.k + 2) A.in1 := hr.in1
  have hr2 : Room (G.k + 1) (A.in1.deeper cenv) := hr1.deeper cenv
  have hr3 : Room G.k (A.in1.deeper cenv).in1 := hr2.in1
  obtain ⟨σ, hσ, I⟩ := M.zinv (A := A.in1) e0.in1 hex hr1 eo
  have es : frs (cenv :: outer) = cenv.locals :: frs outer := frs_cons eo.fr
  have L1 : LegPre G (A.in1.deeper cenv).in1 (cenv :: outer) T gp (s.setGen g2 .running) H := ⟨hr3, I.e0.in1, ⟨M.pok.at_, M.pok.nc⟩, M.facts, M.tb⟩
  have at1' : (s.setGen g2 .running).gens[g1]? = some gs1 := by
    show (s.gens.setIfInBounds g2 .running)[g1]? = _
    rw [Array.getElem?_setIfInBounds_ne (Ne.symm M.ng)]
    exact M.at1
  refine next_none L1 hr2.depth hr2.hd M.gen1 at1' M.sl fun s1 W => ?_
  have unI : Un (frs outer) ex H0 H s0.heap s1.heap := un_comp (ch := gp.map (·.1)) M.un W.un (fun b hb => by
    rw [es] at hb
    rcases List.mem_cons.mp hb with z | z
    · rw [z]; exact .inr M.frN.2.1
    · exact .inl z) fun b hb => by
      obtain ⟨p, hp, rfl⟩ := List.mem_map.mp hb
      exact M.free p hp
  have hS1 : s1.heap.get? S = some oS := W.un.keep S oS M.hS M.one3.1 (fun z => by
    rw [es] at z
    exact (List.mem_cons.mp z).elim M.one3.2.1 M.one3.2.2.1) M.one3.2.2.2
  refine ⟨.inr rfl, fun h' hk hz => ?_⟩
  exact kQ _ (W.os.trans M.os) (allBare_setGen W.bare rfl) (unI.trans (Un.kept hk)) (W.hok.kept hk) W.tb (hk _ _ hS1)
end
end Zg
end
section
set_option maxHeartbeats 4000000
/-! min of a generator expression over a generator of two items. -/
namespace Zg
open PySem PySem.Spec PyProof.Rows L2 GenW So
section
variable {G : GX} {A : Around} {outer : List Env} {s0 s : Shared} {H0 H : Hp} {ex : List Addr} {cenv : Env} {cl : Code} {x : Str} {a1 a2 S : Addr} {g1 g2 : Nat} {oS oS' : Obj} {Ys : List YSpec} {T : List (Addr × HO)} {gp : List (Addr × Obj)} {gs1 gs2 : GenState}
theorem un_poke {fs ex : List Addr} {H0 H : Hp} {h0 h h' : Heap} {S : Addr} (u : Un fs ex H0 H h0 h) (hS0 : h0.get? S = none) (k : ∀ b o, b ≠ S → h.get? b = some o → h'.get? b = some o) : Un fs ex H0 H h0 h' :=
  un_comp (ch := [S]) (fs := []) u ⟨fun b o e n _ hx => k b o (fun q => hx (by simp [q])) e, fun b o e n hb _ => (nomatch hb), fun b o e n _ => n, fun b o e hx => ⟨o, k b o (fun q => hx (by simp [q])) e⟩, fun _ _ e => e, fun _ _ _ e => e, fun b ps e => ⟨#[], by rw [e]; simp⟩⟩ (fun b hb => (nomatch hb)) fun b hb => .inr (by
    have e : b = S := by simpa using hb
    rw [e]; exact hS0)
theorem hok_poke {P : Program} {w : World} {H : Hp} {h h' : Heap} {S : Addr} (hok : HOk P w H h) (hn : H S = none) (k : ∀ b o, b ≠ S → h.get? b = some o → h'.get? b = some o) : HOk P w H h' := fun b u e => by
  have nS : ∀ b u, H b = some u → b ≠ S := fun b u e q => by rw [q, hn] at e; cases e
  refine (hok b u e).stay (fun c v hc q => k c v ?_ q) (fun _ q => q) fun _ _ q => q
  rcases hc with z | z
  · rw [z]; exact nS b u e
  · exact nS c _ z
/-- the consumer writes its record -/
theorem MH.poke {h' : Heap} (M : MH G outer s0 H0 ex cenv cl x a1 g1 a2 g2 S oS Ys T gp gs1 gs2 s H) (hS0 : s0.heap.get? S = none) (hd : ∀ vs, oS.data ≠ .fields vs) (k : ∀ b o, b ≠ S → s.heap.get? b = some o → h'.get? b = some o) (hS' : h'.get? S = some oS') (bz : G.base.objs.size ≤ S) :
    MH G outer s0 H0 ex cenv cl x a1 g1 a2 g2 S oS' Ys T gp gs1 gs2 { s with heap := h' } H := by
  obtain ⟨o1, n1, q1, ho1, hc1, hd1, hs1⟩ := id M.gen1
  obtain ⟨o2, n2, q2, ho2, hc2, hd2, hs2⟩ := id M.gen2
  have ne1 : a1 ≠ S := fun z => by
    have q := M.hS
    rw [← z, ho1] at q
    cases q
    exact hd _ hd1
  have ne2 : a2 ≠ S := fun z => by
    have q := M.hS
    rw [← z, ho2] at q
    cases q
    exact hd _ hd2
  obtain ⟨oC, σ, hC, hf, hl⟩ := M.frm
  refine ⟨M.os, M.bare, un_poke M.un hS0 k, hok_poke M.hok M.one3.1 k, Nat.le_trans bz (Nat.le_of_lt (Heap.lt_size hS')), M.tb, ⟨o1, n1, q1, k _ _ ne1 ho1, hc1, hd1, hs1⟩, M.at1, ⟨o2, n2, q2, k _ _ ne2 ho2, hc2, hd2, hs2⟩, M.at2, M.ng, ⟨fun p hp => ?_, M.pok.nc⟩, M.free, M.facts, M.one1, M.one2, M.one3, hS', ⟨oC, σ, k _ _ (Ne.symm M.one3.2.1) hC, hf, hl⟩, M.frN, M.sl, M.wk⟩
  obtain ⟨e1, e2, e3, e4⟩ := M.pok.at_ p hp
  exact ⟨k _ _ (fun z => M.one3.2.2.2 (by rw [← z]; exact List.mem_map.mpr ⟨p, hp, rfl⟩)) e1, e2, e3, e4⟩
end
/-- a pair of ints at t -/
theorem pair_at {P : Program} {w : World} {H : Hp} {h : Heap} {t : Addr} {a b : Int} (hok : HOk P w H h) (e : H t = some (.tup [.int a, .int b])) : ∃ t1 t2, h.IsTuple t #[.int a t1, .int b t2] := by
  obtain ⟨_, its, rv, pl⟩ := hok t _ e
  cases rv with
  | cons r1 rr => cases rr with
    | cons r2 rr => cases rr with
      | nil =>
        obtain ⟨t1, rfl⟩ := r1
        obtain ⟨t2, rfl⟩ := r2
        exact ⟨t1, t2, pl⟩
/-- the reading: two items, each a pair; the less of them -/
def tMin2 (G : GX) (P : Addr) (sp : Sp) (Es : XK) (ti : TIG) : TE := fun σ H Q => ti σ H fun Ys H1 => ∃ Y1 Y2, Ys = [Y1, Y2] ∧ ∀ H2, GxR.Tabbed P H1 H2 → ∀ v1 H3, Y1 H2 v1 H3 → sp [v1] H3 (fun y1 H4 => Keeps H3 H4 ∧ G.tb H4 ∧ ∃ (t1 : Addr) (a b : Int), y1 = .ref t1 ∧ H4 t1 = some (.tup [.int a, .int b]) ∧
  ∀ v2 H5, Y2 H4 v2 H5 → sp [v2] H5 (fun y2 H6 => Keeps H5 H6 ∧ G.tb H6 ∧ ∃ (t2 : Addr) (c d : Int), y2 = .ref t2 ∧ H6 t2 = some (.tup [.int c, .int d]) ∧ H6 t1 = some (.tup [.int a, .int b]) ∧ Q (.ref (if pLt c d a b = true then t2 else t1)) H6) Es) Es
section
variable {G : GX} {X : Cx} {f x : Str} {p fp xp cp px pos gpos : Pos} {iter : Expr} {scope : Scope} {c P fa : Addr} {ti : TIG} {k : Nat} {fd : FuncData} {ps : List Str} {sp : Sp} {Es : XK}
theorem pe_min2 (W0 : GXof G X) (hr : Room (G.k + 5) X.A) (hX : X.calm = true) (hst : X.env.locals ∈ frs X.stack) (TB : GxR.TabB X.base X.mg c P) (hcode : X.env.code = .ref c) (S : GScp scope) (hi : PIG G X iter ti) (hg : Gl X "min") (hm : X.mg "min" = none) (hs : ∀ v, genFold iter X.env v = pure v)
    (F : FnOk G.prog G.w G.K G.mg G.base (CX G.prog G.w) k fa fd ps sp) (hk : k ≤ G.k + 1) (hmf : G.mg f = some (.ref fa)) (kp : PySem.W.keepIn G.K (.ref fa) = true) (hb : Binds G.K fd ps []) (hgf : ∀ C code, (genEnv scope (cloFrom X.env.cells scope.names []) C code builtinsNs X.env).kindOf f = some .globalImplicit)
    (hdb : (f == ("__debug__" : Str)) = false) (hdx : (x == ("__debug__" : Str)) = false) (nl : scope.names.lookup x = some .local)
    (he1 : ∀ cenv : Env, starEach [.Name x xp] cenv = (false, eval (.Name x xp) cenv) :: starEach [] cenv) (hpl1 : ∀ cenv : Env, (backTo cp (starEach [] cenv)).any (·.1) = false)
    (hns : NoStop G.K Es) (hx : Passes (CX X.prog X.w) X Es) (htab : ∀ H1 H2, G.tb H1 → GxR.Tabbed P H1 H2 → G.tb H2) (htg : ∀ H, G.tb H → GxR.TabG H P)
    (he : starEach [.GeneratorExp (elF f x fp xp cp) [⟨.Name x px, iter, [], 0⟩] scope gpos] X.env = (false, eval (.GeneratorExp (elF f x fp xp cp) [⟨.Name x px, iter, [], 0⟩] scope gpos) X.env) :: starEach [] X.env := by rfl)
    (hpl : (backTo pos (starEach [] X.env)).any (·.1) = false := by rfl) :
    PE X (.Call (.Name "min" p) [.GeneratorExp (elF f x fp xp cp) [⟨.Name x px, iter, [], 0⟩] scope gpos] [] pos) (tMin2 G P sp Es ti) := by
  refine ⟨fun pins s σ H Q I h => ?_⟩
  refine wpAny_Call_Name_kw (ld_blt I hg hm boot_min ?_ (by decide) (by decide))
  refine PyProof.Rows.callWith_builtin1 ?_ he hpl
  rw [he]
  show wpAny _ _ (spliced ((false, eval (.GeneratorExp (elF f x fp xp cp) [⟨.Name x px, iter, [], 0⟩] scope gpos) X.env) :: backTo pos (starEach [] X.env))) _ _ s
  refine Calls.spliced_cons (gx_make (pins := pins) (σ := σ) (R := fun itv H1 s2 => ∃ (a1 : Addr) (g1 : Nat) (gs1 : GenState) (gp : List (Addr × Obj)) (T : List (Addr × HO)) (Y1 Y2 : YSpec), itv = .ref a1 ∧ HeldX G X pins T gp a1 g1 gs1 s2 H1 ∧ Asleep G [Y1, Y2] T gp gs1 ∧ G.tb H1 ∧ Inv X pins σ H1 s2 ∧
    ∀ H2, GxR.Tabbed P H1 H2 → ∀ v1 H3, Y1 H2 v1 H3 → sp [v1] H3 (fun y1 H4 => Keeps H3 H4 ∧ G.tb H4 ∧ ∃ (t1 : Addr) (a b : Int), y1 = .ref t1 ∧ H4 t1 = some (.tup [.int a, .int b]) ∧
      ∀ v2 H5, Y2 H4 v2 H5 → sp [v2] H5 (fun y2 H6 => Keeps H5 H6 ∧ G.tb H6 ∧ ∃ (t2 : Addr) (c d : Int), y2 = .ref t2 ∧ H6 t2 = some (.tup [.int c, .int d]) ∧ H6 t1 = some (.tup [.int a, .int b]) ∧ Q (.ref (if pLt c d a b = true then t2 else t1)) H6) Es) Es) hr TB hcode S ?_ hs fun itv H1 s2 a2 s5 H2 C g2 code oC hR M => ?_)
  · refine thn (hi.run pins s σ H _ I h) fun xv s1 z => ?_
    obtain ⟨a1, g1, gs1, gp, T, Ys, H1, rfl, I1, hd, sl, tb, Y1, Y2, rfl, q⟩ := z
    exact wpAny_pyIter_gen hd.gen ⟨H1, I1, htg _ tb, a1, g1, gs1, gp, T, Y1, Y2, rfl, hd, sl, tb, I1, q⟩
  · refine Calls.spliced_nil ?_
    obtain ⟨a1, g1, gs1, gp, T, Y1, Y2, rfl, hd, sl, tb, I1, q⟩ := hR
    have J := M.inv
    obtain ⟨hoC, hNsC⟩ := M.frm
    obtain ⟨hC1, hC2, hC3⟩ := M.sz
    have hC1 : @LE.le Nat _ s2.heap.objs.size C := hC1
    have hC2 : @LT.lt Nat _ C a2 := hC2
    have hC3 : @LT.lt Nat _ a2 s5.heap.objs.size := hC3
    obtain ⟨pt, mt, hP, hH2⟩ := M.ext
    have e0 : Env0 G.prog G.w G.K G.mg G.base X.A X.stack s2 H1 := env0_of W0 I1
    have e5 : Env0 G.prog G.w G.K G.mg G.base X.A X.stack s5 H2 := env0_of W0 J
    have nP : ∀ b, H1 b = none → b ≠ P := fun b e z => by rw [z, hP] at e; cases e
    have keepN : ∀ b o, H1 b = none → s2.heap.get? b = some o → s5.heap.get? b = some o := fun b o n e => M.keep b o (nP b n) e
    have H2n : ∀ b, H1 b = none → H2 b = none := fun b n => by rw [M.tab.2 b (nP b n)]; exact n
    have fr2 : ∀ b : Addr, @LE.le Nat _ s2.heap.objs.size b → s2.heap.get? b = none := fun b hb => by
      cases e : s2.heap.get? b with
      | none => rfl
      | some o => exact absurd (Nat.lt_of_lt_of_le (Heap.lt_size e) hb) (Nat.lt_irrefl _)
    have new2 : ∀ b : Addr, @LE.le Nat _ s2.heap.objs.size b → H2 b = none ∧ b ∉ frs X.stack ∧ G.base.get? b = none := fun b hb => by
      refine ⟨H2n b (I1.hok.fresh hb), fun z => ?_, ?_⟩
      · obtain ⟨_, o, ho, _⟩ := e0.funs.mem z
        rw [fr2 b hb] at ho
        cases ho
      · cases e : G.base.get? b with
        | none => rfl
        | some o =>
          have := (e0.bs b o e).1
          rw [fr2 b hb] at this
          cases this
    have gpl : ∀ b ∈ gp.map (·.1), ∃ o, (b, o) ∈ gp := fun b hb => by
      obtain ⟨p, hp, rfl⟩ := List.mem_map.mp hb
      exact ⟨p.2, hp⟩
    have gplt : ∀ b ∈ gp.map (·.1), @LT.lt Nat _ b s2.heap.objs.size := fun b hb => by
      obtain ⟨o, ho⟩ := gpl b hb
      exact Heap.lt_size (hd.pok.at_ _ ho).1
    have nC := new2 C hC1
    have nA := new2 a2 (Nat.le_trans hC1 (Nat.le_of_lt hC2))
    have nS := new2 s5.heap.objs.size (Nat.le_trans hC1 (Nat.le_of_lt (Nat.lt_trans hC2 hC3)))
    generalize hcenv : genEnv scope (cloFrom X.env.cells scope.names []) C code builtinsNs X.env = cenv
    have hkf : cenv.kindOf f = some .globalImplicit := by rw [← hcenv]; exact hgf C code
    have eC : cenv.locals = C := by rw [← hcenv]; rfl
    have eF : cenv.frame = some cenv.locals := by rw [← hcenv]; rfl
    have hco : cenv.scope.isCoroutine = false := by rw [← hcenv]; exact S.co
    have eo : EnvOk G cenv [x] := by
      have hbl : @LE.le Nat _ G.base.objs.size C := by have := e0.bsz; exact Nat.le_trans this hC1
      rw [← hcenv]
      refine ⟨S.kind, I1.ok.glob, rfl, rfl, by simp, fun i y e => ?_, hbl⟩
      match i with
      | 0 => cases e; exact nl
      | i + 1 => cases e
    have hat2 := M.at_
    rw [hcenv] at hat2
    have ex0 : ∀ b ∈ (C :: gp.map (·.1)), G.base.get? b = none ∧ b ∉ frs X.stack := fun b hb => by
      rcases List.mem_cons.mp hb with z | z
      · rw [z]; exact ⟨nC.2.2, nC.2.1⟩
      · obtain ⟨o, ho⟩ := gpl b z
        obtain ⟨q1, q2, q3, q4⟩ := hd.pok.at_ _ ho
        exact ⟨q4, q3⟩
    have pushk : ∀ (o : Obj) b u, s5.heap.get? b = some u → (s5.heap.push o).get? b = some u := fun o b u e => Heap.get?_push_of_some _ e
    obtain ⟨o1, n1, q1, ho1, hc1, hd1, hs1⟩ := id hd.gen
    obtain ⟨o2, n2, q2, ho2, hc2, hd2, hs2⟩ := id M.gen
    have a1lt : @LT.lt Nat _ a1 s2.heap.objs.size := Heap.lt_size ho1
    have g1lt : g1 < s2.gens.size := (Array.getElem?_eq_some_iff.mp hd.at_).1
    have S0n : s5.heap.get? s5.heap.objs.size = none := by
      cases e : s5.heap.get? s5.heap.objs.size with
      | none => rfl
      | some o => exact absurd (Heap.lt_size e) (Nat.lt_irrefl _)
    have main : ∀ c, MH G X.stack s5 H2 (C :: gp.map (·.1)) cenv (clF f x fp xp cp px iter scope gpos a1 cenv) x a1 g1 a2 g2 s5.heap.objs.size (mlO #[] c) [Y1, Y2] T gp gs1 (.fresh (.compStart (.GeneratorExp (elF f x fp xp cp) [⟨.Name x px, iter, [], 0⟩] scope gpos) 0 (.ref a1) .none cenv)) { s5 with heap := s5.heap.push (mlO #[] c) } H2 := fun c => by
      refine ⟨rfl, J.bare, Un.kept (pushk _), e5.hok.kept (pushk _), Nat.le_trans e5.bsz (by show s5.heap.objs.size ≤ (s5.heap.push _).objs.size; rw [Heap.size_push]; exact Nat.le_succ _), htab _ _ tb M.tab, ⟨o1, n1, q1, pushk _ _ _ (keepN a1 o1 hd.aH ho1), hc1, hd1, hs1⟩, M.gold _ _ hd.at_, ⟨o2, n2, q2, pushk _ _ _ ho2, hc2, hd2, hs2⟩, hat2, Nat.ne_of_lt (Nat.lt_of_lt_of_le g1lt M.gnew), ⟨fun p hp => ?_, hd.pok.nc⟩, fun p hp => .inl (List.mem_cons_of_mem _ (List.mem_map.mpr ⟨p, hp, rfl⟩)), fun ft hf => ?_, ⟨H2n _ hd.aH, by rw [eC]; exact Nat.ne_of_lt (Nat.lt_of_lt_of_le a1lt hC1), hd.aO, hd.aP⟩, ⟨nA.1, by rw [eC]; exact Nat.ne_of_gt hC2, nA.2.1, fun z => ?_⟩, ⟨nS.1, by rw [eC]; exact Nat.ne_of_gt (Nat.lt_trans hC2 hC3), nS.2.1, fun z => ?_⟩, Heap.get?_push_size _ rfl, ⟨oC, [none], by rw [eC]; exact pushk _ _ _ hoC, ?_, rfl⟩, ?_, sl, fun B W s' hg' hrun => ?_⟩
      · obtain ⟨q1, q2, q3, q4⟩ := hd.pok.at_ p hp
        refine ⟨pushk _ _ _ (keepN _ _ q2 q1), H2n _ q2, fun z => ?_, q4⟩
        rw [frs_cons eF, eC] at z
        rcases List.mem_cons.mp z with z | z
        · have := Heap.lt_size q1
          rw [z] at this
          exact absurd (Nat.lt_of_lt_of_le this hC1) (Nat.lt_irrefl _)
        · exact q3 z
      · obtain ⟨f1, f2⟩ := hd.facts ft hf
        refine ⟨?_, f2⟩
        rw [M.tab.2 ft.1 (fun z => ?_)]
        · exact f1
        · rw [z, hP] at f1
          exact f2 pt (Option.some.inj f1).symm
      · exact absurd (Nat.lt_of_lt_of_le (gplt _ z) (Nat.le_trans hC1 (Nat.le_of_lt hC2))) (Nat.lt_irrefl _)
      · exact absurd (Nat.lt_of_lt_of_le (gplt _ z) (Nat.le_trans hC1 (Nat.le_of_lt (Nat.lt_trans hC2 hC3)))) (Nat.lt_irrefl _)
      · rw [eC]
        refine fun h e => ⟨_, hNsC h e, fun i y v e1 e2 => ?_⟩
        match i with
        | 0 => cases e2
        | i + 1 => cases e2
      · rw [eC]
        exact ⟨nC.1, List.mem_cons_self, nC.2.1⟩
      · exact lc_start rfl (fun A' Q' E' z => wpAny_pyIter_gen hg' z) hrun
    have hrA : Room (G.k + 3) X.A.in1 := hr.in1.mono (Nat.le_succ _)
    have hd0 : ∀ (xs : Array Value) (c : Nat) (vs : Array Value), (mlO xs c).data ≠ .fields vs := fun xs c vs z => by cases z
    have bzS : G.base.objs.size ≤ s5.heap.objs.size := e5.bsz
    -- what becomes of an exception
    have hexc : ∀ e (s'' : Shared) (xs : Array Value) (c : Nat), s''.heap.get? s5.heap.objs.size = some (mlO xs c) → (∀ h', (∀ b o, b ≠ s5.heap.objs.size → s''.heap.get? b = some o → h'.get? b = some o) → XM G X.stack s5 H2 (C :: gp.map (·.1)) Es e { s'' with heap := h' }) →
        ∀ h', (∀ b o, b ≠ s5.heap.objs.size → s''.heap.get? b = some o → h'.get? b = some o) → X.xe e { s'' with heap := h' } := fun e s'' xs c hS hX' h' hk' => by
      obtain ⟨H3, sI, o3, b3, u3, k3, c3⟩ := hX' h' hk'
      have own : ∀ b ∈ (C :: gp.map (·.1)), (b ∈ X.ex ∨ X.s_0.heap.objs.size ≤ b) ∧ b ≠ X.env.locals ∧ (∀ x c, X.env.cells.lookup x = some c → c ≠ b) ∧ ∀ p ∈ X.pn ++ pins, p.1 ≠ b := fun b hb => by
        rcases List.mem_cons.mp hb with z | z
        · have h0 : X.s_0.heap.objs.size ≤ b := by rw [z]; exact Nat.le_trans I1.sz hC1
          have z2 := new_own I1 (b := b) (by rw [z]; exact fr2 C hC1) h0
          exact ⟨.inr h0, z2.1, z2.2.1, z2.2.2⟩
        · obtain ⟨h1, h2, h3, h4⟩ := hd.own b (.inr z)
          exact ⟨.inr h1, h2, h3, h4⟩
      have I3 : Inv X pins σ H3 sI := J.call' (ch := C :: gp.map (·.1)) o3 u3 (by rw [← W0.prog, ← W0.w]; exact k3) b3 own
      rw [W0.prog, W0.w] at c3
      exact hx pins σ H3 sI e _ I3 c3
    rw [← W0.prog, ← W0.w]
    refine call_min_go (wpAny_pyIter_gen M.gen ⟨a2, rfl, fun c => ?_⟩)
    refine min_first (c := c) (main c).hS ?_
    refine gm_some F hk hmf kp hb hkf hdb hdx hco (he1 cenv) (hpl1 cenv) (main c) e5.in1 ex0 hrA eo hns (q H2 M.tab) (hd0 _ _) (.inr S0n) (fun u1 y1 s6 H4 T4 gp4 gs4 gs4' ru1 hq1 M4 => ?_) (fun e s'' hS hX' => ⟨hS, hexc e s'' _ _ hS hX'⟩)
    obtain ⟨t1, a, b, rfl, ht1, hq2⟩ := hq1
    obtain rfl : u1 = Value.ref t1 := ru1
    refine ⟨_, rfl, M4.hS, fun h' c' hk' hS' => ?_⟩
    have M5 := M4.poke S0n (hd0 _ _) hk' hS' bzS
    refine min_more (vb := .ref t1) M5.hS ?_
    refine gm_some F hk hmf kp hb hkf hdb hdx hco (he1 cenv) (hpl1 cenv) M5 e5.in1 ex0 hrA eo hns hq2 (hd0 _ _) (.inr S0n) (fun u2 y2 s8 H6 T6 gp6 gs6 gs6' ru2 hq3 M6 => ?_) (fun e s'' hS hX' => ⟨hS, hexc e s'' _ _ hS hX'⟩)
    obtain ⟨t2, cc, d, rfl, ht2, ht1', hQ⟩ := hq3
    obtain rfl : u2 = Value.ref t2 := ru2
    obtain ⟨k1, k2, p1⟩ := pair_at M6.hok ht2
    obtain ⟨k3, k4, p2⟩ := pair_at M6.hok ht1'
    have hui : X.A.in1.in1.units < cLine := by
      have z := hr.in1.in1.un
      omega
    have hui1 : X.A.in1.units < cLine := by
      have z := hr.in1.un
      omega
    refine ⟨M6.hS, pLt cc d a b, fun Q' E' z => pair_lt (A := X.A.in1) p1 p2 hui1 _ _ E' Q' z, fun h2 c2 hk2 hS2 => ?_⟩
    have fin : ∀ (t : Addr), h2.get? s5.heap.objs.size = some (mlO #[.ref t, .ref t] c2) → Q (.ref t) H6 → codeAny (model G.prog G.w) X.A (minC a2 s5.heap.objs.size) (fun r s' => match r with
        | .ok (.ret v) => EP X pins σ Q v s'
        | .error e => X.xe e s'
        | _ => False) { s8 with heap := h2 } := fun t hS3 hQt => by
      have M7 := M6.poke S0n (hd0 _ _) hk2 hS3 bzS
      refine min_more (vb := .ref t) M7.hS ?_
      refine gm_none hco M7 e5.in1 ex0 hrA eo fun s9 os9 b9 un9 hok9 tb9 hS9 => ⟨hS9, fun h3 hk3 => ?_⟩
      have own : ∀ b ∈ (C :: gp.map (·.1)), (b ∈ X.ex ∨ X.s_0.heap.objs.size ≤ b) ∧ b ≠ X.env.locals ∧ (∀ x c, X.env.cells.lookup x = some c → c ≠ b) ∧ ∀ p ∈ X.pn ++ pins, p.1 ≠ b := fun b hb => by
        rcases List.mem_cons.mp hb with z | z
        · have h0 : X.s_0.heap.objs.size ≤ b := by rw [z]; exact Nat.le_trans I1.sz hC1
          have z2 := new_own I1 (b := b) (by rw [z]; exact fr2 C hC1) h0
          exact ⟨.inr h0, z2.1, z2.2.1, z2.2.2⟩
        · obtain ⟨h1, h2, h3, h4⟩ := hd.own b (.inr z)
          exact ⟨.inr h1, h2, h3, h4⟩
      exact ⟨.ref t, H6, J.call' (s' := { s9 with heap := h3 }) (ch := C :: gp.map (·.1)) os9 (un_poke un9 S0n hk3) (by rw [← W0.prog, ← W0.w]; exact hok_poke hok9 M6.one3.1 hk3) b9 own, rfl, hQt⟩
    by_cases hb' : pLt cc d a b = true
    · rw [hb', if_pos rfl] at hS2
      rw [if_pos hb'] at hQ
      exact fin t2 hS2 hQ
    · rw [if_neg hb'] at hS2 hQ
      exact fin t1 hS2 hQ
end
end Zg
end
section
set_option maxHeartbeats 4000000
/-! least_balance, safe_amount. -/
namespace So
open PySem PySem.Spec PyProof.Rows L2 He Zg GenW
/-- v is the least of what the plan comes to from s0 on -/
def LeastV (os : List Ord) (c s0 op v : Int) : Prop := ∃ m day, (m, day) ∈ lsItems s0 none (amA os c s0 op) (drf os c) c.toNat ∧ (∀ it ∈ lsItems s0 none (amA os c s0 op) (drf os c) c.toNat, m ≤ it.1) ∧ v = min op m
def spLeastBal (K : PySem.W.Frag) (T : Wt) : Sp := fun vs H Q E => ∃ (plan : Addr) (ps : List Int) (c s0 op : Int) (os : List Ord), vs = [.ref plan, .int op, .int (s0 - 1), .non] ∧ PlanAt H plan ps c s0 os ∧ PlanB ps c s0 os ∧ Tbs T H ∧
  (drf os c < 0 → ∀ H', Gr T H H' → E (.ref (ga K "Endless")) none H') ∧
  (¬ drf os c < 0 → ∀ t v day H', Gr T H H' → H' t = some (.tup [.int v, .int day]) → LeastV os c s0 op v → Q (.ref t) H')
theorem ls_y1 {s0 op v day : Int} (h : (v, day) ∈ lsItems (s0 - 1) (some (s0 - 1)) [op] 0 1) : v = op := by
  have e : lsItems (s0 - 1) (some (s0 - 1)) [op] 0 1 = [(op, s0 - 1)] := by
    show (List.filterMap _ (List.range 1)) = _
    have e1 : List.range 1 = [0] := rfl
    rw [e1, List.filterMap_cons]
    unfold lsItem
    have er : rnd (s0 - 1) (some (s0 - 1)) (0 : Nat) ([op] : List Int).length = some 1 := by
      unfold rnd
      simp only [Option.map_some, List.length_singleton]
      congr 1
      have : (s0 - 1 - (s0 - 1) - ((0 : Nat) : Int)) / ((1 : Nat) : Int) + 1 = 1 := by
        have : s0 - 1 - (s0 - 1) - ((0 : Nat) : Int) = 0 := by omega
        rw [this]
        rfl
      rw [this]
      rfl
    rw [er]
    unfold turnOf
    simp [liveR]
  rw [e] at h
  have := List.mem_singleton.mp h
  exact (Prod.mk.inj this).1
section
variable {P : Program} {w : World} {K : PySem.W.Frag} {mg : Str → Option Value} {base : Heap} {T : Wt}
theorem ok_least_balance (kn : Kn K mg) (kx : Kx K) (kt : Kt K mg base T) : Okd P w K mg base (CX P w) 12 (ga K "least_balance") ["plan", "opening", "first", "last"] (spLeastBal K T) := by
  refine okd_ofC kn.f_least_balance sc_least_balance (fun vs H Q E h => ?_) (fun _ _ _ _ _ _ us hl => match us, hl with | [_, _, _, _], _ => rfl) (fun cdv hcd A outer s H vs Q E hr h => ?_)
  · obtain ⟨plan, ps, c, s0, op, os, rfl, _⟩ := h
    rfl
  · obtain ⟨plan, ps, c, s0, op, os, rfl, hpl, pb, tb, hrs, hq⟩ := h
    obtain ⟨fd, kp, b, F⟩ := (ok_least_of (P := P) (w := w) (base := base) (T := T) kn).ex
    refine ⟨_, (pss_one (ps_ret (Zg.pe_min2 (G := gSt P w K mg base T) (c := (cT K ("least_balance", none)).1) (P := (cT K ("least_balance", none)).2) (f := "least_of") (x := "stretch") (fa := ga K "least_of") (sp := spLeastOf K T) (Es := fun cls d H' => cls = .ref (ga K "Endless") ∧ E cls d H')
      ⟨rfl, rfl, rfl, rfl, rfl⟩ hr rfl (List.mem_cons_self ..) (kt.tb "least_balance" (by decide +kernel)) hcd ⟨rfl, rfl, by decide +kernel, rfl, by decide +kernel⟩ (pig_st rfl kn kt hr (pa_cons (pv 0) (pa_cons (pv 1) (pa_cons (pv 2) (pa_cons (pv 3) pa_nil)))))
      rfl (kn.free "min") (fun v => rfl) F (by show 3 ≤ 7; decide) (kn.glo "least_of") kp b (fun C code => rfl) (by decide) (by decide) rfl (fun cenv => rfl) (fun cenv => rfl)
      (fun cls d H' h => by rw [h.1]; exact kx.stop) (passes_call (takes_of (E := E) rfl rfl rfl rfl) (fun _ _ _ _ h => h.2)) (fun H1 H2 t1 t2 => (tabbed_gr (Gr.refl t1) kt.g2 kt.lam t2).tb) (fun H1 t1 => t1.2 _ kt.g2)))), ?_⟩
    have c1 := pb.c1
    have c2 := pb.c2
    have s1 := pb.s1
    have s2 := pb.s2
    refine ⟨_, rfl, _, rfl, _, rfl, _, rfl, plan, ps, c, s0, op, s0 - 1, os, rfl, hpl, pb, ⟨by omega, by omega⟩, tb, ?_⟩
    have eY : ysOf (ga K "Stretch") T os c s0 op (s0 - 1) = [Y1 (ga K "Stretch") T s0 op (s0 - 1), Y2 (ga K "Stretch") T os c s0 op (s0 - 1)] := by
      unfold ysOf
      rw [if_pos (by omega)]
    refine ⟨_, _, eY, fun H2 ht v1 H3 y1 => ?_⟩
    have g2 : Gr T H H2 := tabbed_gr (Gr.refl tb) kt.g2 kt.lam ht
    obtain ⟨p1, rfl, g3, S1⟩ := y1
    refine ⟨p1, s0 - 1, some (s0 - 1), [op], 0, rfl, S1, Nat.zero_lt_one, (by show 1 ≤ 400; decide), ⟨by decide, by decide⟩, g3.tb, (fun l' e => by cases e; exact Int.le_refl _), (fun z => by cases z), fun _ m v day H4 g4 hm hmem _ => ?_⟩
    have ev := ls_y1 hmem
    subst ev
    refine ⟨fun b o e n => g4.get e n, g4.tb, m, v, day, rfl, hm, fun v2 H5 y2 => ?_⟩
    obtain ⟨p2, rfl, g5, S2⟩ := y2
    rw [show max s0 (s0 - 1) = s0 from Int.max_eq_left (by omega)] at S2
    have hl := amA_len (os := os) (s0 := s0) (op := v) pb.c1
    have gg := ((g2.trans g3).trans g4).trans g5
    refine ⟨p2, s0, none, amA os c s0 v, drf os c, rfl, S2, by rw [hl]; omega, by rw [hl]; omega, pb.sm, g5.tb, fun l' e => (nomatch e), fun _ hneg H6 g6 => ⟨rfl, hrs hneg H6 (gg.trans g6)⟩, fun hn m2 v2 day2 H6 g6 hm2 hmem2 hbest => ?_⟩
    rw [hl] at hmem2 hbest
    have hd : ¬ drf os c < 0 := fun z => hn ⟨rfl, z⟩
    refine ⟨fun b o e n => g6.get e n, g6.tb, m2, v2, day2, rfl, hm2, g6.get (g5.get hm), ?_⟩
    have hle : ∀ it ∈ lsItems s0 none (amA os c s0 v) (drf os c) c.toNat, v2 ≤ it.1 := fun it hit => by
      have z := hbest it hit
      rw [Bool.eq_false_iff] at z
      have z2 : ¬ (it.1 < v2 ∨ (it.1 = v2 ∧ it.2 < day2)) := fun q => z (pLt_iff.mpr q)
      omega
    by_cases hb' : pLt v2 day2 v day = true
    · rw [if_pos hb']
      refine hq hd m2 v2 day2 H6 (gg.trans g6) hm2 ⟨v2, day2, hmem2, hle, ?_⟩
      have := pLt_iff.mp hb'
      rw [Int.min_def]
      by_cases h : v ≤ v2
      · rw [if_pos h]; omega
      · rw [if_neg h]
    · rw [if_neg hb']
      refine hq hd m v day H6 (gg.trans g6) (g6.get (g5.get hm)) ⟨v2, day2, hmem2, hle, ?_⟩
      have : ¬ (v2 < v ∨ (v2 = v ∧ day2 < day)) := fun q => hb' (pLt_iff.mpr q)
      rw [Int.min_def, if_pos (by omega)]
end
end So
end
section
set_option maxHeartbeats 4000000
/-! safe_amount, safe_from. -/
namespace So
open PySem PySem.Spec PyProof.Rows L2 He Zg GenW
def spSafeAmt (K : PySem.W.Frag) (T : Wt) : Sp := fun vs H Q E => ∃ (plan : Addr) (ps : List Int) (c s0 op lev : Int) (os : List Ord), vs = [.ref plan, .int op, .int lev, .int (s0 - 1)] ∧ PlanAt H plan ps c s0 os ∧ PlanB ps c s0 os ∧ Tbs T H ∧
  (drf os c < 0 → ∀ H', Gr T H H' → E (.ref (ga K "Endless")) none H') ∧
  (¬ drf os c < 0 → ∀ v H', Gr T H H' → LeastV os c s0 op v → Q (.int (v - lev)) H')
/-- the last day that is too low, from s0 - 1 on -/
def lastOf (os : List Ord) (c s0 op lev : Int) (r : Option Int) : Prop := (∀ i, i < c.toNat → (lowAt s0 none (amA os c s0 op) (drf os c) lev i).2 ≠ none) ∧ ∃ r0, MostOf (lDays s0 none (amA os c s0 op) (drf os c) lev c.toNat) r0 ∧ r = r0.or (if op < lev then some (s0 - 1) else none)
def everLow (os : List Ord) (c s0 op lev : Int) : Prop := ∃ i, i < c.toNat ∧ (lowAt s0 none (amA os c s0 op) (drf os c) lev i).2 = none
def fromOf (s0 : Int) (r : Option Int) : Int := match r with
  | none => s0 - 1
  | some d => d + 1
def spSafeFrom (T : Wt) : Sp := fun vs H Q _ => ∃ (plan : Addr) (ps : List Int) (c s0 op lev am : Int) (os : List Ord), vs = [.ref plan, .int op, .int lev, .int am, .int (s0 - 1)] ∧ PlanAt H plan ps c s0 os ∧ PlanB ps c s0 os ∧ Tbs T H ∧
  (everLow os c s0 op (lev + am) → ∀ H', Gr T H H' → Q .non H') ∧
  (∀ r H', Gr T H H' → lastOf os c s0 op (lev + am) r → Q (.int (fromOf s0 r)) H')
section
variable {P : Program} {w : World} {K : PySem.W.Frag} {mg : Str → Option Value} {base : Heap} {T : Wt}
theorem ok_safe_amount (kn : Kn K mg) (kx : Kx K) (kt : Kt K mg base T) : Okd P w K mg base (CX P w) 13 (ga K "safe_amount") ["plan", "opening", "level", "day"] (spSafeAmt K T) := by
  refine okd_of kn.f_safe_amount sc_safe_amount (fun vs H Q E h => ?_) (fun _ _ _ _ _ _ us hl => match us, hl with | [_, _, _, _], _ => rfl) (fun cdv A outer s H vs Q E hr h => ?_)
  · obtain ⟨plan, ps, c, s0, op, lev, os, rfl, _⟩ := h
    rfl
  · obtain ⟨plan, ps, c, s0, op, lev, os, rfl, hpl, pb, tb, hrs, hq⟩ := h
    refine ⟨_, (pss_cons (ps_expr (pf (ok_validate_plan (T := T) kn) (hr.mono (by decide)) (kn.glo "validate_plan") pass0 (pa_cons (pv 0) pa_nil)))
      (pss_one (ps_ret (pe_op op_sub (pe_ix ix_tup (pf (ok_least_balance kn kx kt) hr (kn.glo "least_balance") (passes_call (takes_of (E := E) rfl rfl rfl rfl) (fun _ _ _ _ h => h)) (pa_cons (pv 0) (pa_cons (pv 1) (pa_cons (pv 3) (pa_cons pe_non pa_nil))))) pe_int (fun _ _ => rfl)) (pv 2))))), ?_⟩
    refine ⟨_, rfl, plan, ps, c, s0, os, rfl, hpl, pb.ok, tb, fun H1 g1 => ?_⟩
    refine ⟨_, rfl, _, rfl, _, rfl, plan, ps, c, s0, op, os, rfl, hpl.ext g1.tups, pb, g1.tb, fun hd H2 g2 => hrs hd H2 (g1.trans g2), fun hd t v day H2 g2 ht hL => ?_⟩
    exact ⟨t, _, _, .int v, rfl, rfl, .inl (.inl ht), rfl, _, rfl, _, _, rfl, rfl, hq hd v H2 (g1.trans g2) hL⟩
theorem ok_safe_from (kn : Kn K mg) (kx : Kx K) (kt : Kt K mg base T) : Okd P w K mg base CX0 9 (ga K "safe_from") ["plan", "opening", "level", "amount", "day"] (spSafeFrom T) := by
  refine okd_of kn.f_safe_from sc_safe_from (fun vs H Q E h => ?_) (fun _ _ _ _ _ _ us hl => match us, hl with | [_, _, _, _, _], _ => rfl) (fun cdv A outer s H vs Q E hr h => ?_)
  · obtain ⟨plan, ps, c, s0, op, lev, am, os, rfl, _⟩ := h
    rfl
  · obtain ⟨plan, ps, c, s0, op, lev, am, os, rfl, hpl, pb, tb, hn, hq⟩ := h
    refine ⟨_, PSs.nox (pss_cons (ps_try_only (c := .ref (ga K "Endless")) (Wout := fun _ _ _ _ => False) rfl rfl ⟨rfl, by decide, .inl (kn.glo "Endless")⟩ (fun u s' x => by obtain ⟨_, _, _, _, _, _, _, _, _, _, _, _, _, _, _, _, z⟩ := x; exact z.elim)
        (fun W pn xe tk hp => pss_one (ps_set (i := 5) sc_safe_from.nd rfl (.inl rfl) (pf (E := fun cls d H' => ∀ σ, W cls d σ H') (ok_last_below kn kt) hr (kn.glo "last_below") (passes_call tk (fun _ _ _ _ h => h _)) (pa_cons (pv 0) (pa_cons (pv 1) (pa_cons (pe_op op_add (pv 2) (pv 3)) (pa_cons (pv 4) pa_nil)))))))
        (fun a oe cls d pn hz hd => pss_one (ps_ret pe_non)))
      (pss_one (ps_ret (pe_ifExp (pt_cmp (pc_isN (pv 5))) (pv 4) (pe_op op_add (pv 5) pe_int))))), ?_⟩
    refine ⟨_, rfl, _, rfl, _, rfl, _, rfl, _, _, rfl, rfl, _, rfl, plan, ps, c, s0, op, lev + am, os, rfl, hpl, pb, tb, fun he H1 g1 σ => ⟨true, kx.end_, fun _ a ha => hn he H1 g1, fun z => by cases z⟩, fun hne r H1 g1 hm => ?_⟩
    have fin := hq _ H1 g1 ⟨hne, r, hm, rfl⟩
    refine ⟨_, rfl, _, rfl, ?_⟩
    generalize r.or (if op < lev + am then some (s0 - 1) else none) = q at fin ⊢
    cases q with
    | none => exact ⟨_, rfl, fin⟩
    | some d => exact ⟨_, rfl, _, _, rfl, rfl, fin⟩
end
end So
end
section
set_option maxHeartbeats 4000000
/-! Accounts: made, asked. -/
namespace So
open PySem PySem.Spec PyProof.Rows L2 He
def accF (nm : Str) (lim bal cyc : Int) : List (Str × V) := [(("title" : Str), .str nm), (("credit" : Str), .int lim), (("amount" : Str), .int bal), (("cycle" : Str), .int cyc)]
/-- an account object stands at a -/
def AccAt (K : PySem.W.Frag) (H : Hp) (a : Addr) (k : Kd) (nm : Str) (lim bal cyc : Int) : Prop := ∃ dx, H a = some (.ins (ga K k.cn) dx (accF nm lim bal cyc))
theorem AccAt.gr {K : PySem.W.Frag} {T : Wt} {H H' : Hp} {a : Addr} {k : Kd} {nm : Str} {lim bal cyc : Int} (h : AccAt K H a k nm lim bal cyc) (g : Gr T H H') : AccAt K H' a k nm lim bal cyc := by
  obtain ⟨dx, e⟩ := h
  exact ⟨dx, g.get e⟩
section
variable {K : PySem.W.Frag} {mg : Str → Option Value}
theorem Kd.cls (kn : Kn K mg) (k : Kd) : Cls K (ga K k.cn) := by
  cases k
  · exact kn.cls "Account"
  · exact kn.cls "LimitedAccount"
  · exact kn.cls "SavingsAccount"
theorem Kd.at1 (kn : Kn K mg) (k : Kd) : NoAttr K (ga K k.cn) "title" := by
  cases k
  · exact kn.noat "Account" "title"
  · exact kn.noat "LimitedAccount" "title"
  · exact kn.noat "SavingsAccount" "title"
theorem Kd.at2 (kn : Kn K mg) (k : Kd) : NoAttr K (ga K k.cn) "credit" := by
  cases k
  · exact kn.noat "Account" "credit"
  · exact kn.noat "LimitedAccount" "credit"
  · exact kn.noat "SavingsAccount" "credit"
theorem Kd.at3 (kn : Kn K mg) (k : Kd) : NoAttr K (ga K k.cn) "amount" := by
  cases k
  · exact kn.noat "Account" "amount"
  · exact kn.noat "LimitedAccount" "amount"
  · exact kn.noat "SavingsAccount" "amount"
theorem Kd.at4 (kn : Kn K mg) (k : Kd) : NoAttr K (ga K k.cn) "cycle" := by
  cases k
  · exact kn.noat "Account" "cycle"
  · exact kn.noat "LimitedAccount" "cycle"
  · exact kn.noat "SavingsAccount" "cycle"
end
def spAccInit (K : PySem.W.Frag) : Sp := fun vs H Q _ => ∃ (p dx : Addr) (k : Kd) (nm : Str) (lim bal cyc : Int), vs = [.ref p, .str nm, .int lim, .int bal, .int cyc] ∧ H p = some (.ins (ga K k.cn) dx []) ∧ Q .non (upd H p (.ins (ga K k.cn) dx (accF nm lim bal cyc)))
/-- the floor's getter of an account that has one -/
def spFloorL (K : PySem.W.Frag) : Sp := fun vs H Q _ => ∃ (a : Addr) (k : Kd) (nm : Str) (lim bal cyc : Int), vs = [.ref a] ∧ AccAt K H a k nm lim bal cyc ∧ Q (.int (0 - lim)) H
def spNon1 : Sp := fun vs H Q _ => ∃ (a : Addr), vs = [.ref a] ∧ Q .non H
def spBalance (K : PySem.W.Frag) : Sp := fun vs H Q _ => ∃ (a : Addr) (k : Kd) (nm : Str) (lim bal cyc : Int), vs = [.ref a] ∧ AccAt K H a k nm lim bal cyc ∧ Q (.int bal) H
def spTrue2 : Sp := fun vs H Q _ => ∃ (a : Addr) (i : Int), vs = [.ref a, .int i] ∧ Q (.bl true) H
def spAllowsL (K : PySem.W.Frag) : Sp := fun vs H Q _ => ∃ (a : Addr) (k : Kd) (nm : Str) (lim bal cyc am : Int), vs = [.ref a, .int am] ∧ AccAt K H a k nm lim bal cyc ∧ Q (.bl (decide (0 - lim ≤ am))) H
section
variable {P : Program} {w : World} {K : PySem.W.Frag} {mg : Str → Option Value} {base : Heap} {T : Wt}
theorem ok_Account_init (kn : Kn K mg) : Okd P w K mg base CX0 1 (ma K (ga K "Account") "__init__") ["self", "name", "limit", "amount", "cycle"] (spAccInit K) := by
  refine okd_of kn.m_Account___init__ sc_Account___init__ (fun vs H Q E h => ?_) (fun _ _ _ _ _ _ us hl => match us, hl with | [_, _, _, _, _], _ => rfl) (fun cdv A outer s H vs Q E hr h => ?_)
  · obtain ⟨p, dx, k, nm, lim, bal, cyc, rfl, _⟩ := h
    rfl
  · obtain ⟨p, dx, k, nm, lim, bal, cyc, rfl, hp, hq⟩ := h
    have c := Kd.cls kn k
    refine ⟨_, PSs.nox (pss_cons (ps_fld (pv 0) (pv 1) rfl)
      (pss_cons (ps_fld (pv 0) (pv 2) rfl)
      (pss_cons (ps_fld (pv 0) (pv 3) rfl)
      (pss_one (ps_fld (pv 0) (pv 4) rfl))))), ?_⟩
    refine ⟨_, rfl, _, rfl, p, _, dx, _, rfl, hp, c, Kd.at1 kn k, by decide, ?_⟩
    refine ⟨_, rfl, _, rfl, p, _, dx, _, rfl, upd_same, c, Kd.at2 kn k, (by decide : 1 < 1000), ?_⟩
    refine ⟨_, rfl, _, rfl, p, _, dx, _, rfl, upd_same, c, Kd.at3 kn k, (by decide : 2 < 1000), ?_⟩
    refine ⟨_, rfl, _, rfl, p, _, dx, _, rfl, upd_same, c, Kd.at4 kn k, (by decide : 3 < 1000), ?_⟩
    rw [upd_upd, upd_upd, upd_upd]
    exact hq
theorem ok_LimitedAccount_floor {f : Addr} (F : ∃ fd, FunD K "floor" "LimitedAccount.floor" (defArgs s_LimitedAccount_floor) (defBody s_LimitedAccount_floor) (defScope s_LimitedAccount_floor) [] [] f fd) (kn : Kn K mg) : Okd P w K mg base CX0 1 f ["self"] (spFloorL K) := by
  refine okd_of F sc_LimitedAccount_floor (fun vs H Q E h => ?_) (fun _ _ _ _ _ _ us hl => match us, hl with | [_], _ => rfl) (fun cdv A outer s H vs Q E hr h => ?_)
  · obtain ⟨a, k, nm, lim, bal, cyc, rfl, _⟩ := h
    rfl
  · obtain ⟨a, k, nm, lim, bal, cyc, rfl, ⟨dx, ha⟩, hq⟩ := h
    refine ⟨_, PSs.nox (pss_one (ps_ret (pe_op op_sub pe_int (pe_fld (pv 0) rfl)))), ?_⟩
    exact ⟨_, rfl, a, _, dx, _, _, rfl, ha, Kd.cls kn k, Kd.at2 kn k, rfl, _, _, rfl, rfl, hq⟩
theorem ok_Account_floor {f : Addr} (F : ∃ fd, FunD K "floor" "Account.floor" (defArgs s_Account_floor) (defBody s_Account_floor) (defScope s_Account_floor) [] [] f fd) : Okd P w K mg base CX0 1 f ["self"] spNon1 := by
  refine okd_of F sc_Account_floor (fun vs H Q E h => ?_) (fun _ _ _ _ _ _ us hl => match us, hl with | [_], _ => rfl) (fun cdv A outer s H vs Q E hr h => ?_)
  · obtain ⟨a, rfl, _⟩ := h
    rfl
  · obtain ⟨a, rfl, hq⟩ := h
    exact ⟨_, PSs.nox (pss_one (ps_ret pe_non)), hq⟩
theorem ok_Account_balance {f : Addr} (F : ∃ fd, FunD K "balance" "Account.balance" (defArgs s_Account_balance) (defBody s_Account_balance) (defScope s_Account_balance) [] [] f fd) (kn : Kn K mg) : Okd P w K mg base CX0 1 f ["self"] (spBalance K) := by
  refine okd_of F sc_Account_balance (fun vs H Q E h => ?_) (fun _ _ _ _ _ _ us hl => match us, hl with | [_], _ => rfl) (fun cdv A outer s H vs Q E hr h => ?_)
  · obtain ⟨a, k, nm, lim, bal, cyc, rfl, _⟩ := h
    rfl
  · obtain ⟨a, k, nm, lim, bal, cyc, rfl, ⟨dx, ha⟩, hq⟩ := h
    refine ⟨_, PSs.nox (pss_one (ps_ret (pe_fld (pv 0) rfl))), ?_⟩
    exact ⟨_, rfl, a, _, dx, _, _, rfl, ha, Kd.cls kn k, Kd.at3 kn k, rfl, hq⟩
theorem ok_Account_allows (kn : Kn K mg) : Okd P w K mg base CX0 1 (ma K (ga K "Account") "allows") ["self", "amount"] spTrue2 := by
  refine okd_of kn.m_Account_allows sc_Account_allows (fun vs H Q E h => ?_) (fun _ _ _ _ _ _ us hl => match us, hl with | [_, _], _ => rfl) (fun cdv A outer s H vs Q E hr h => ?_)
  · obtain ⟨a, i, rfl, _⟩ := h
    rfl
  · obtain ⟨a, i, rfl, hq⟩ := h
    exact ⟨_, PSs.nox (pss_one (ps_ret pe_bl)), hq⟩
theorem ok_Account_may (kn : Kn K mg) : Okd P w K mg base CX0 1 (ma K (ga K "Account") "may_withdraw") ["self", "day"] spTrue2 := by
  refine okd_of kn.m_Account_may_withdraw sc_Account_may_withdraw (fun vs H Q E h => ?_) (fun _ _ _ _ _ _ us hl => match us, hl with | [_, _], _ => rfl) (fun cdv A outer s H vs Q E hr h => ?_)
  · obtain ⟨a, i, rfl, _⟩ := h
    rfl
  · obtain ⟨a, i, rfl, hq⟩ := h
    exact ⟨_, PSs.nox (pss_one (ps_ret pe_bl)), hq⟩
theorem ok_Limited_allows (kn : Kn K mg) : Okd P w K mg base CX0 1 (ma K (ga K "LimitedAccount") "allows") ["self", "amount"] (spAllowsL K) := by
  refine okd_of kn.m_LimitedAccount_allows sc_LimitedAccount_allows (fun vs H Q E h => ?_) (fun _ _ _ _ _ _ us hl => match us, hl with | [_, _], _ => rfl) (fun cdv A outer s H vs Q E hr h => ?_)
  · obtain ⟨a, k, nm, lim, bal, cyc, am, rfl, _⟩ := h
    rfl
  · obtain ⟨a, k, nm, lim, bal, cyc, am, rfl, ⟨dx, ha⟩, hq⟩ := h
    refine ⟨_, PSs.nox (pss_one (ps_ret (pe_cmpR op_ge (pv 1) (pe_op op_sub pe_int (pe_fld (pv 0) rfl)) (nomark _)))), ?_⟩
    exact ⟨_, rfl, _, rfl, a, _, dx, _, _, rfl, ha, Kd.cls kn k, Kd.at2 kn k, rfl, _, _, rfl, rfl, _, _, rfl, rfl, hq⟩
end
end So
end
section
set_option maxHeartbeats 4000000
/-! A name's check. -/
namespace So
open PySem PySem.Spec PyProof.Rows L2 He
/-- over a text -/
theorem lc_str {x : Str} {g : TG} {tt : TT} {te : TE} {vs : List Nat} {σ : L2.St} {H1 : Hp} {D : Addr} {Qd : Hp → Prop} (Pv : Nat → Hp → Prop) (h0 : Pv 0 (upd H1 D (.lst [])))
    (hs : ∀ i c H, x.cps[i]? = some c → Pv i H → g (.str ⟨#[c]⟩) (wipe σ vs) H fun σ2 H2 => wipe σ2 vs = wipe σ vs ∧ tt σ2 H2 fun b H3 =>
      if b = true then te σ2 H3 fun y H4 => ∃ acc, H4 D = some (.lst acc) ∧ acc.length < sizeLine ∧ Pv (i + 1) (upd H4 D (.lst (acc ++ [y]))) else Pv (i + 1) H3) (hd : ∀ H, Pv x.cps.size H → Qd H) :
    ∃ W : Nat → Nat → Hp → Prop, (∃ m, W 0 m (upd H1 D (.lst []))) ∧ ∀ i m H, W i m H →
      ((Its x).stop i H ∧ Qd H) ∨ ((Its x).go i H ∧ ∃ Nx : Hp → Prop, (∀ H', Nx H' → ∃ m', m' < m ∧ W (i + 1) m' H') ∧ ∀ v H', (Its x).yld i H v H' → g v (wipe σ vs) H' fun σ2 H2 => wipe σ2 vs = wipe σ vs ∧ tt σ2 H2 fun b H3 =>
        if b = true then te σ2 H3 fun y H4 => ∃ acc, H4 D = some (.lst acc) ∧ acc.length < sizeLine ∧ Nx (upd H4 D (.lst (acc ++ [y]))) else Nx H3) := by
  refine ⟨fun i m H => m = x.cps.size - i ∧ i ≤ x.cps.size ∧ Pv i H, ⟨x.cps.size, rfl, Nat.zero_le _, h0⟩, ?_⟩
  rintro i m H ⟨rfl, hi, p⟩
  by_cases hlt : i < x.cps.size
  · refine .inr ⟨hlt, Pv (i + 1), fun H' p' => ⟨x.cps.size - (i + 1), by omega, rfl, hlt, p'⟩, fun v H' y => ?_⟩
    obtain ⟨rfl, c, hc, rfl⟩ := y
    exact hs i c _ hc p
  · have e : i = x.cps.size := by omega
    subst e
    exact .inl ⟨Nat.le_refl _, hd H p⟩
def bobS : Str := "bob"
def spIsName (T : Wt) : Sp := fun vs H Q _ => vs = [.str bobS] ∧ Tbs T H ∧ ∀ H', Gr T H H' → Q (.bl true) H'
section
variable {P : Program} {w : World} {K : PySem.W.Frag} {mg : Str → Option Value} {base : Heap} {T : Wt}
theorem ok_is_name {f : Addr} (F : ∃ fd, FunD K "is_name" "Account.is_name" (defArgs s_Account_is_name) (defBody s_Account_is_name) (defScope s_Account_is_name) [] [] f fd) (kn : Kn K mg) : Okd P w K mg base CX0 1 f ["name"] (spIsName T) := by
  refine okd_of F sc_Account_is_name (fun vs H Q E h => ?_) (fun _ _ _ _ _ _ us hl => match us, hl with | [_], _ => rfl) (fun cdv A outer s H vs Q E hr h => ?_)
  · obtain ⟨rfl, _⟩ := h
    rfl
  · obtain ⟨rfl, tb, hq⟩ := h
    refine ⟨_, PSs.nox (pss_one (ps_ret (pe_and (pe_chain op_le op_le pe_int (pe_callB (call_len_str) rfl (kn.free "len") boot_len (pa_cons (pv 0) pa_nil)) (pe_gi (kn.int "MAX_LETTERS" 8)))
      (pe_one (pe_callB (cr_all rfl) rfl (kn.free "all") boot_all (pa_cons (pe_lc (own := [("letter", 1)]) rfl sc_Account_is_name.nd (pi_str (pv 0)) (blkOk_by rfl) (fun _ _ _ _ _ => pg_name (i := 1) sc_Account_is_name.nd rfl (.inl rfl)) (fun _ _ _ _ _ => pts_nil)
        (fun _ _ _ _ _ => pe_cmpR op_in_sign (pv 1) (pe_glob (v := .str "abcdefghijklmnopqrstuvwxyz") rfl (Classical.choose_spec (kn.str "LETTERS" "abcdefghijklmnopqrstuvwxyz")) ⟨_, rfl⟩) (by with_unfolding_all rfl))) pa_nil)))))), ?_⟩
    have hb : bobS.cps = #[98, 111, 98] := by decide +kernel
    have hl : bobS.length = 3 := by decide +kernel
    refine ⟨_, rfl, bobS, rfl, by rw [hl]; decide, _, _, rfl, rfl, _, rfl, ?_⟩
    rw [hl]
    refine ite2 (fun _ => ?_) (fun h => absurd (show decide ((1 : Int) ≤ ((3 : Nat) : Int)) = true from rfl) h)
    refine ⟨_, _, rfl, rfl, _, rfl, ?_⟩
    refine ite2 (fun _ => ?_) (fun h => absurd (show decide (((3 : Nat) : Int) ≤ 8) = true from rfl) h)
    refine ⟨_, rfl, bobS, rfl, fun D hD => ?_⟩
    refine lc_str (fun i H' => Gr T H H' ∧ H' D = some (.lst ((List.replicate i true).map V.bl))) ⟨(Gr.refl tb).new hD, upd_same⟩ (fun i c H' hc hi => ?_) (fun H' hi => ?_)
    · obtain ⟨g, hd⟩ := hi
      rw [hb] at hc
      have hm : c ∈ ((("abcdefghijklmnopqrstuvwxyz" : Str).cps).toList) ∧ i < 3 := by
        have hi3 : i < 3 := (Array.getElem?_eq_some_iff.mp hc).1
        match i, hi3 with
        | 0, _ => cases hc; exact ⟨by decide +kernel, by decide⟩
        | 1, _ => cases hc; exact ⟨by decide +kernel, by decide⟩
        | 2, _ => cases hc; exact ⟨by decide +kernel, by decide⟩
      refine ⟨rfl, ?_⟩
      refine ⟨_, rfl, c, _, rfl, rfl, _, hd, ?_, g.turn hD hd, ?_⟩
      · rw [List.length_map, List.length_replicate]
        exact Nat.lt_trans hm.2 (by decide)
      · rw [upd_same, decide_eq_true hm.1, List.replicate_succ', List.map_append]
        rfl
    · obtain ⟨g, hd⟩ := hi
      rw [hb] at hd
      refine ⟨D, [true, true, true], rfl, .inl (.inl hd), hq H' g⟩
end
end So
end
section
set_option maxHeartbeats 4000000
/-! A staticmethod's call, a classmethod's with keywords; an account is made. -/
namespace So
open PySem PySem.Spec PyProof.Rows L2 He
section
variable {X : Cx} {CX : CXT} {k : Nat} {C p g q : Addr} {mc : Value} {ps ks : List Str} {sp : Sp} {E : XK} {o e : Expr} {es : List Expr} {f m : Str} {pos apos : Pos} {ta : TE} {t tk : TA} {pl : Sem Bool} {kws : List Keyword}
/-- C.m(e, ..), m a staticmethod of the class at C -/
def tSMeth (C : Addr) (sp : Sp) (E : XK) (ta : TE) (t : TA) : TE := fun σ H Q => ta σ H fun x H1 => x = .ref C ∧ t σ H1 fun vs H2 => sp vs H2 Q E
theorem pe_smeth (he : PE X o ta) (r : ClX.CRead X.K C mc) (at_ : PySem.W.findCls X.K (.ref C) mc m = some (.get (.builtin "staticmethod.__get__") (.ref p) .none (.ref C))) (rc : ∃ rest, PySem.W.recIn X.K p "staticmethod" = some (.ref g :: rest))
    (O : Okd X.prog X.w X.K X.mg X.base CX k g ps sp) (hr : Room k X.A) (hx : Passes CX X E) (ha : PA X (e :: es) t)
    (hst : starEach (e :: es) X.env = (false, eval e X.env) :: starEach es X.env := by rfl) (hpl : (backTo pos (starEach es X.env)).any (·.1) = false := by rfl)
    (ht : eval (.Call (.Attribute o m apos) (e :: es) [] pos) X.env = (do
      let ov ← eval o X.env
      standAt apos.atName
      let (f, first) ← holding [ov] (getMethod ov m pl)
      callWith pos f first (backTo pos (starEach (e :: es) X.env)) (backToKw pos (keywordEach [] X.env))) := by rfl) :
    PE X (.Call (.Attribute o m apos) (e :: es) [] pos) (tSMeth C sp E ta t) := by
  obtain ⟨fd, kp, b, F⟩ := O.ex
  refine ⟨fun pins s σ H Q I h => ?_⟩
  refine PySem.W.methodCall_KW (pl := pl) (thn (he.run pins s σ H _ I h) fun u s1 ⟨x, H1, I1, rx, ex, q⟩ => ?_) ht
  subst ex
  obtain rfl : u = Value.ref C := rx
  obtain ⟨rest, hp⟩ := rc
  refine PySem.W.method_cls I1.kIn r.ga (PySem.W.cls_bind I1.kIn r.rd at_ (wpAny_call (PySem.W.sm_get (s := { s1 with toks := s1.toks + 1 }) I1.kIn hp (PySem.W.handed_on rfl ?_))))
  refine PySem.W.callWith_K (h₀ := X.base) I.ok.mod.kin kp (thn (ha.run pos pins _ σ H1 _ (I1.tok (s1.toks + 1)) q) fun us s2 ⟨vs, H2, I2, rv, q2⟩ => ⟨I2.kIn, ?_⟩) hst hpl
  exact run_fn (dvs := []) (ds := []) F hr b .nil hx I2 rv (by rw [List.append_nil]; exact q2)
/-- C.m(e, .., k = v, ..), m a classmethod of the class at C -/
def tCMethK (C : Addr) (n : Nat) (nk : Nat) (sp : Sp) (gV : List V → List V → List V) (E : XK) (ta : TE) (t tk : TA) : TE := fun σ H Q => ta σ H fun x H1 => x = .ref C ∧ t σ H1 fun vs H2 => tk σ H2 fun zs H3 => vs.length = n ∧ zs.length = nk ∧ sp (gV (.ref C :: vs) zs) H3 Q E
theorem pe_cmethK {n : Nat} {fd : FuncData} {gV : List V → List V → List V} {gU : List Value → List Value → List Value} (he : PE X o ta) (r : ClX.CRead X.K C mc) (c : ClX.CMet X.K C mc m p g) (F : FnOk X.prog X.w X.K X.mg X.base CX k g fd ps sp) (hb : KBn X.K fd ps (n + 1) ks gU gV) (hr : Room k X.A) (hx : Passes CX X E)
    (ha : PA X (e :: es) t) (hkw : PK X kws tk)
    (hall : (backToKw pos (keywordEach kws X.env)).all (·.1.isSome) = true := by rfl) (hks : (backToKw pos (keywordEach kws X.env)).filterMap (·.1) = ks := by rfl)
    (hst : starEach (e :: es) X.env = (false, eval e X.env) :: starEach es X.env := by rfl) (hpl : ((backTo pos (starEach (e :: es) X.env)).any (·.1) || (backToKw pos (keywordEach kws X.env)).any (·.1.isNone)) = false := by rfl)
    (ht : eval (.Call (.Attribute o m apos) (e :: es) kws pos) X.env = (do
      let ov ← eval o X.env
      standAt apos.atName
      let (f, first) ← holding [ov] (getMethod ov m pl)
      callWith pos f first (backTo pos (starEach (e :: es) X.env)) (backToKw pos (keywordEach kws X.env))) := by rfl) :
    PE X (.Call (.Attribute o m apos) (e :: es) kws pos) (tCMethK C n ks.length sp gV E ta t tk) := by
  refine ⟨fun pins s σ H Q I h => ?_⟩
  refine PySem.W.methodCall_KW (pl := pl) (thn (he.run pins s σ H _ I h) fun u s1 ⟨x, H1, I1, rx, ex, q⟩ => ?_) ht
  subst ex
  obtain rfl : u = Value.ref C := rx
  refine ClX.getmethcm_ok I1 r c fun s2 I2 => ?_
  refine PySem.W.callWith_of (P := PySem.W.MethP X.K s1.heap.objs.size g (.ref C)) hpl (PySem.W.keeps_M c.fi) (evalArgs_kw2 hall (thn (ha.run pos _ s2 σ H1 _ I2 q) fun us s3 ⟨vs, H2, I3, rv, q2⟩ => ?_) hst)
  refine thn (hkw.run pos _ s3 σ H2 _ I3 q2) fun ws s4 ⟨zs, H3, I4, rz, l1, l2, q3⟩ => ⟨⟨ClX.pin_at I4, I4.kIn⟩, ?_⟩
  rw [hks]
  have r1 : Vals (V.ref C :: vs) (Value.ref C :: us) := .cons rfl rv
  have n1 : (Value.ref C :: us).length = n + 1 := by rw [List.length_cons, ← rv.length, l1]
  have z : wpAny (model X.prog X.w) X.A (call (.ref s1.heap.objs.size) us (ks.zip ws)) (EP X ((s1.heap.objs.size, PySem.W.methodObj (.ref g) (.ref C)) :: pins) σ Q) X.xe s4 :=
    wpAny_call (PySem.W.method_call (ClX.pin_at I4) (codeAny_mono (F.run X.A X.stack s4 H3 ⟨.ref C :: us, ks.zip ws⟩ (gU (.ref C :: us) ws) (gV (.ref C :: vs) zs) Q E hr I4.env0 (hb.to s4 (.ref C :: us) ws I4.kIn n1 (rz.length.symm.trans l2)) (hb.rel r1 rz) q3) fun r s' hq => by
      cases r with
      | error e => exact hx _ σ H3 s4 e s' I4 hq
      | ok fl =>
        cases fl with
        | ret u => exact I4.after hq
        | next => exact False.elim hq
        | brk => exact False.elim hq
        | cont => exact False.elim hq))
  exact thn z fun _ _ y => ClX.unpinE y
/-- C(e, ..) -/
theorem pmk {x : Str} {p' : Pos} {f : Addr} (M : Mk X.K C f) (O : Okd X.prog X.w X.K X.mg X.base CX k f ps sp) (hr : Room (k + 1) X.A) (hm : X.mg x = some (.ref C)) (hx : Passes CX X E) (ha : PA X (e :: es) t) (hg : Gl X x := by rfl) (hdb : (x == ("__debug__" : Str)) = false := by decide)
    (he : starEach (e :: es) X.env = (false, eval e X.env) :: starEach es X.env := by rfl) (hpl : (backTo pos (starEach es X.env)).any (·.1) = false := by rfl) : PE X (.Call (.Name x p') (e :: es) [] pos) (tMake C sp [] E t) := by
  obtain ⟨fd, kp, b, F⟩ := O.ex
  exact pe_make M F hr hg hm b .nil hx ha hdb he hpl
end
end So
end
section
set_option maxHeartbeats 4000000
/-! An account is made. -/
namespace So
open PySem PySem.Spec PyProof.Rows L2 He
/-- what an account may be made of -/
def AccOk (k : Kd) (lim bal : Int) : Prop := match k with
  | .op => lim = 0
  | .li => 0 ≤ lim ∧ lim ≤ 1000000000000000000 ∧ 0 - lim ≤ bal
  | .sa => lim = 0 ∧ 0 ≤ bal
def spMade (K : PySem.W.Frag) (T : Wt) : Sp := fun vs H Q _ => ∃ (k : Kd) (lim bal cyc : Int), vs = [.ref (ga K "Account"), .str k.str, .str bobS, .int lim, .int bal, .int cyc] ∧ AccOk k lim bal ∧ Tbs T H ∧
  ∀ a H', Gr T H H' → AccAt K H' a k bobS lim bal cyc → Q (.ref a) H'
section
variable {P : Program} {w : World} {K : PySem.W.Frag} {mg : Str → Option Value} {base : Heap} {T : Wt}
theorem ok_is_nameK (kn : Kn K mg) (kx : Kx K) : Okd P w K mg base CX0 1 (He5.wf K (ga K "Account") "staticmethod" "is_name") ["name"] (spIsName T) := ok_is_name kx.f_is_name kn
theorem ok_Limited_init (kn : Kn K mg) (kx : Kx K) : Okd P w K mg base CX0 1 (ma K (ga K "LimitedAccount") "__init__") ["self", "name", "limit", "amount", "cycle"] (spAccInit K) := by
  rw [kx.mas ("LimitedAccount", "Account", "__init__") (by decide +kernel)]
  exact ok_Account_init kn
theorem ok_Savings_init (kn : Kn K mg) (kx : Kx K) : Okd P w K mg base CX0 1 (ma K (ga K "SavingsAccount") "__init__") ["self", "name", "limit", "amount", "cycle"] (spAccInit K) := by
  rw [kx.mas ("SavingsAccount", "Account", "__init__") (by decide +kernel)]
  exact ok_Account_init kn
theorem ok_Savings_allows (kn : Kn K mg) (kx : Kx K) : Okd P w K mg base CX0 1 (ma K (ga K "SavingsAccount") "allows") ["self", "amount"] (spAllowsL K) := by
  rw [kx.mas ("SavingsAccount", "LimitedAccount", "allows") (by decide +kernel)]
  exact ok_Limited_allows kn
/-- Account.KIND and the like -/
theorem cval (kx : Kx K) (k : Kd) : ∃ u, ClX.CVal K (ga K k.cn) (.type "type") "KIND" (.str k.str) u := by
  obtain ⟨t, e⟩ := (kx.kind k).val
  exact ⟨_, e, t, rfl⟩
/-- a class, as a value -/
theorem pgo {X : Cx} {x : Str} {a : Addr} {pos : Pos} (hm : X.mg x = some (.ref a)) (hg : Gl X x := by rfl) (hd : (x == ("__debug__" : Str)) = false := by decide) : PE X (.Name x pos) (tC (.ref a)) := pe_glob hg hm rfl hd
/-- the body, by the kind -/
structure MadeK (P : Program) (w : World) (K : PySem.W.Frag) (mg : Str → Option Value) (base : Heap) (T : Wt) (k : Kd) : Prop where
  run : ∀ (cdv : Value) (A : Around) (outer : List Env) (s : Shared) (H : Hp) (lim bal cyc : Int) (Q : VK) (E : XK), Room 3 (A.deeper (envOfC "Account.made" (defScope s_Account_made) s.heap.objs.size (He5.wf K (ga K "Account") "classmethod" "made") cdv)) → AccOk k lim bal → Tbs T H → (∀ a H', Gr T H H' → AccAt K H' a k bobS lim bal cyc → Q (.ref a) H') →
    ∃ t, PSs (cxOf CX0 P w K mg base ["cls", "kind", "name", "limit", "balance", "cycle", "account"] "Account.made" (defScope s_Account_made) (He5.wf K (ga K "Account") "classmethod" "made") cdv A outer s H E) (defBody s_Account_made) t ∧ t { nx := fun _ H' => Q .non H', rt := Q } (start ["cls", "kind", "name", "limit", "balance", "cycle", "account"] [.ref (ga K "Account"), .str k.str, .str bobS, .int lim, .int bal, .int cyc]) H
theorem made_op (kn : Kn K mg) (kx : Kx K) : MadeK P w K mg base T .op := by
  refine ⟨fun cdv A outer s H lim bal cyc Q E hr hok tb hq => ?_⟩
  obtain ⟨u1, c1⟩ := cval kx .op
  obtain ⟨u2, c2⟩ := cval kx .li
  obtain ⟨u3, c3⟩ := cval kx .sa
  refine ⟨_, PSs.nox (pss_cons (ps_if (pt_cmpR op_notIn_seq (pv 1) (pe_tup (pa_cons (ClX.pe_cval (pgo (kn.glo "Account"))) (pa_cons (ClX.pe_cval (pgo (kn.glo "LimitedAccount"))) (pa_cons (ClX.pe_cval (pgo (kn.glo "SavingsAccount"))) pa_nil)))) (by with_unfolding_all rfl)) (pss_one ps_never) pss_nil)
    (pss_cons (ps_if (pt_not (pt_val (pe_smeth (pgo (kn.glo "Account")) (kx.kind .op).rd kx.isn.1 kx.isn.2 (ok_is_nameK (T := T) kn kx) (hr.mono (by decide)) pass0 (pa_cons (pv 2) pa_nil)))) (pss_one ps_never) pss_nil)
    (pss_cons (ps_if (pt_not (pt_val (pf (ok_is_amount kn) (hr.mono (by decide)) (kn.glo "is_amount") pass0 (pa_cons (pv 3) (pa_cons pe_int (pa_cons (pe_ifExp (pt_cmpR op_eq (pv 1) (ClX.pe_cval (pgo (kn.glo "LimitedAccount"))) (nomark _)) (pe_gi (kn.int "MAX_AMOUNT" 1000000000000000000)) pe_int) pa_nil)))))) (pss_one ps_never) pss_nil)
    (pss_cons (ps_if (pt_cmpR op_eq (pv 1) (ClX.pe_cval (pgo (kn.glo "LimitedAccount"))) (nomark _)) (pss_one (ps_set (i := 6) sc_Account_made.nd rfl (.inl rfl) pe_never)) (pss_one (ps_if (pt_cmpR op_eq (pv 1) (ClX.pe_cval (pgo (kn.glo "SavingsAccount"))) (nomark _)) (pss_one (ps_set (i := 6) sc_Account_made.nd rfl (.inl rfl) pe_never)) (pss_one (ps_set (i := 6) sc_Account_made.nd rfl (.inl rfl) (pmk (kn.mkr "Account") (ok_Account_init kn) (hr.mono (by decide)) (kn.glo "Account") pass0 (pa_cons (pv 2) (pa_cons (pv 3) (pa_cons (pv 4) (pa_cons (pv 5) pa_nil))))))))))
    (pss_cons (ps_if (pt_not (pt_val (pm (ok_Account_allows kn) (kn.cls "Account") (kn.meth "Account" "allows") (hr.mono (by decide)) pass0 (pv 6) (pa_cons (pv 4) pa_nil)))) (pss_one ps_never) pss_nil)
    (pss_one (ps_ret (pv 6)))))))), ?_⟩
  refine ⟨_, rfl, _, _, _, _, rfl, (kx.kind .op).rd, c1, _, _, _, _, rfl, (kx.kind .li).rd, c2, _, _, _, _, rfl, (kx.kind .sa).rd, c3, (by decide : 3 ≤ sizeLine), fun q0 hq0 => ?_⟩
  have g0 := (Gr.refl tb).new (T := T) (o := HO.tup [.str Kd.op.str, .str Kd.li.str, .str Kd.sa.str]) hq0
  refine ⟨q0, [.str Kd.op.str, .str Kd.li.str, .str Kd.sa.str], rfl, .inr (.inl (.inl upd_same)), rfl, rfl, _, rfl, ?_⟩
  refine ite2 (fun h => absurd h (by rw [show inV (.str Kd.op.str) [.str Kd.op.str, .str Kd.li.str, .str Kd.sa.str] = true by decide +kernel]; decide)) (fun _ => ?_)
  refine ⟨rfl, _, rfl, rfl, g0.tb, fun H1 g1 => ⟨_, rfl, ?_⟩⟩
  refine ite2 (fun h => by cases h) (fun _ => ?_)
  refine ⟨_, rfl, _, rfl, _, _, _, _, rfl, (kx.kind .li).rd, c2, rfl, _, rfl, ?_⟩
  rw [show decide (V.str Kd.op.str = V.str Kd.li.str) = false by decide +kernel]
  refine ⟨lim, 0, 0, rfl, _, rfl, ?_⟩
  rw [show decide ((0 : Int) ≤ lim ∧ lim ≤ 0) = true from decide_eq_true (by have : lim = 0 := hok; omega)]
  refine ite2 (fun h => by cases h) (fun _ => ?_)
  refine ⟨_, rfl, _, _, _, _, rfl, (kx.kind .li).rd, c2, rfl, _, rfl, ?_⟩
  rw [show decide (V.str Kd.op.str = V.str Kd.li.str) = false by decide +kernel]
  refine ⟨_, rfl, _, _, _, _, rfl, (kx.kind .sa).rd, c3, rfl, _, rfl, ?_⟩
  rw [show decide (V.str Kd.op.str = V.str Kd.sa.str) = false by decide +kernel]
  refine ⟨_, rfl, _, rfl, _, rfl, _, rfl, fun x dx hx hdx hne => ?_⟩
  refine ⟨x, dx, .op, bobS, lim, bal, cyc, rfl, upd_same, rfl, ?_⟩
  have g2 : Gr T H1 (upd (upd (upd H1 dx (.own x)) x (.ins (ga K Kd.op.cn) dx [])) x (.ins (ga K Kd.op.cn) dx (accF bobS lim bal cyc))) := by
    rw [upd_upd]
    have hx' : upd H1 dx (.own x) x = none := by rw [upd_ne (Ne.symm hne)]; exact hx
    exact ((Gr.refl g1.tb).new hdx).new hx'
  have ha : AccAt K (upd (upd (upd H1 dx (.own x)) x (.ins (ga K Kd.op.cn) dx [])) x (.ins (ga K Kd.op.cn) dx (accF bobS lim bal cyc))) x .op bobS lim bal cyc := ⟨dx, upd_same⟩
  have fin := hq x _ ((g0.trans g1).trans g2) ha
  refine ⟨_, rfl, x, dx, _, rfl, upd_same, rfl, _, rfl, x, bal, rfl, _, rfl, ?_⟩
  refine ite2 (fun h => by cases h) (fun _ => ?_)
  exact ⟨_, rfl, fin⟩

theorem made_li (kn : Kn K mg) (kx : Kx K) : MadeK P w K mg base T .li := by
  refine ⟨fun cdv A outer s H lim bal cyc Q E hr hok tb hq => ?_⟩
  obtain ⟨u1, c1⟩ := cval kx .op
  obtain ⟨u2, c2⟩ := cval kx .li
  obtain ⟨u3, c3⟩ := cval kx .sa
  refine ⟨_, PSs.nox (pss_cons (ps_if (pt_cmpR op_notIn_seq (pv 1) (pe_tup (pa_cons (ClX.pe_cval (pgo (kn.glo "Account"))) (pa_cons (ClX.pe_cval (pgo (kn.glo "LimitedAccount"))) (pa_cons (ClX.pe_cval (pgo (kn.glo "SavingsAccount"))) pa_nil)))) (by with_unfolding_all rfl)) (pss_one ps_never) pss_nil)
    (pss_cons (ps_if (pt_not (pt_val (pe_smeth (pgo (kn.glo "Account")) (kx.kind .op).rd kx.isn.1 kx.isn.2 (ok_is_nameK (T := T) kn kx) (hr.mono (by decide)) pass0 (pa_cons (pv 2) pa_nil)))) (pss_one ps_never) pss_nil)
    (pss_cons (ps_if (pt_not (pt_val (pf (ok_is_amount kn) (hr.mono (by decide)) (kn.glo "is_amount") pass0 (pa_cons (pv 3) (pa_cons pe_int (pa_cons (pe_ifExp (pt_cmpR op_eq (pv 1) (ClX.pe_cval (pgo (kn.glo "LimitedAccount"))) (nomark _)) (pe_gi (kn.int "MAX_AMOUNT" 1000000000000000000)) pe_int) pa_nil)))))) (pss_one ps_never) pss_nil)
    (pss_cons (ps_if (pt_cmpR op_eq (pv 1) (ClX.pe_cval (pgo (kn.glo "LimitedAccount"))) (nomark _)) (pss_one (ps_set (i := 6) sc_Account_made.nd rfl (.inl rfl) (pmk (kn.mkr "LimitedAccount") (ok_Limited_init kn kx) (hr.mono (by decide)) (kn.glo "LimitedAccount") pass0 (pa_cons (pv 2) (pa_cons (pv 3) (pa_cons (pv 4) (pa_cons (pv 5) pa_nil))))))) (pss_one (ps_if (pt_cmpR op_eq (pv 1) (ClX.pe_cval (pgo (kn.glo "SavingsAccount"))) (nomark _)) (pss_one (ps_set (i := 6) sc_Account_made.nd rfl (.inl rfl) pe_never)) (pss_one (ps_set (i := 6) sc_Account_made.nd rfl (.inl rfl) pe_never)))))
    (pss_cons (ps_if (pt_not (pt_val (pm (ok_Limited_allows kn) (kn.cls "LimitedAccount") (kn.meth "LimitedAccount" "allows") (hr.mono (by decide)) pass0 (pv 6) (pa_cons (pv 4) pa_nil)))) (pss_one ps_never) pss_nil)
    (pss_one (ps_ret (pv 6)))))))), ?_⟩
  refine ⟨_, rfl, _, _, _, _, rfl, (kx.kind .op).rd, c1, _, _, _, _, rfl, (kx.kind .li).rd, c2, _, _, _, _, rfl, (kx.kind .sa).rd, c3, (by decide : 3 ≤ sizeLine), fun q0 hq0 => ?_⟩
  have g0 := (Gr.refl tb).new (T := T) (o := HO.tup [.str Kd.op.str, .str Kd.li.str, .str Kd.sa.str]) hq0
  refine ⟨q0, [.str Kd.op.str, .str Kd.li.str, .str Kd.sa.str], rfl, .inr (.inl (.inl upd_same)), rfl, rfl, _, rfl, ?_⟩
  refine ite2 (fun h => absurd h (by rw [show inV (.str Kd.li.str) [.str Kd.op.str, .str Kd.li.str, .str Kd.sa.str] = true by decide +kernel]; decide)) (fun _ => ?_)
  refine ⟨rfl, _, rfl, rfl, g0.tb, fun H1 g1 => ⟨_, rfl, ?_⟩⟩
  refine ite2 (fun h => by cases h) (fun _ => ?_)
  refine ⟨_, rfl, _, rfl, _, _, _, _, rfl, (kx.kind .li).rd, c2, rfl, _, rfl, ?_⟩
  rw [show decide (V.str Kd.li.str = V.str Kd.li.str) = true by decide +kernel]
  refine ⟨lim, 0, 1000000000000000000, rfl, _, rfl, ?_⟩
  rw [show decide ((0 : Int) ≤ lim ∧ lim ≤ 1000000000000000000) = true from decide_eq_true (by exact ⟨hok.1, hok.2.1⟩)]
  refine ite2 (fun h => by cases h) (fun _ => ?_)
  refine ⟨_, rfl, _, _, _, _, rfl, (kx.kind .li).rd, c2, rfl, _, rfl, ?_⟩
  rw [show decide (V.str Kd.li.str = V.str Kd.li.str) = true by decide +kernel]
  refine ⟨_, rfl, _, rfl, _, rfl, _, rfl, fun x dx hx hdx hne => ?_⟩
  refine ⟨x, dx, .li, bobS, lim, bal, cyc, rfl, upd_same, rfl, ?_⟩
  have g2 : Gr T H1 (upd (upd (upd H1 dx (.own x)) x (.ins (ga K Kd.li.cn) dx [])) x (.ins (ga K Kd.li.cn) dx (accF bobS lim bal cyc))) := by
    rw [upd_upd]
    have hx' : upd H1 dx (.own x) x = none := by rw [upd_ne (Ne.symm hne)]; exact hx
    exact ((Gr.refl g1.tb).new hdx).new hx'
  have ha : AccAt K (upd (upd (upd H1 dx (.own x)) x (.ins (ga K Kd.li.cn) dx [])) x (.ins (ga K Kd.li.cn) dx (accF bobS lim bal cyc))) x .li bobS lim bal cyc := ⟨dx, upd_same⟩
  have fin := hq x _ ((g0.trans g1).trans g2) ha
  refine ⟨_, rfl, x, dx, _, rfl, upd_same, rfl, _, rfl, x, .li, bobS, lim, bal, cyc, bal, rfl, ha, _, rfl, ?_⟩
  rw [show decide (0 - lim ≤ bal) = true from decide_eq_true (by have := hok.2.2; omega)]
  refine ite2 (fun h => by cases h) (fun _ => ?_)
  exact ⟨_, rfl, fin⟩

theorem made_sa (kn : Kn K mg) (kx : Kx K) : MadeK P w K mg base T .sa := by
  refine ⟨fun cdv A outer s H lim bal cyc Q E hr hok tb hq => ?_⟩
  obtain ⟨u1, c1⟩ := cval kx .op
  obtain ⟨u2, c2⟩ := cval kx .li
  obtain ⟨u3, c3⟩ := cval kx .sa
  refine ⟨_, PSs.nox (pss_cons (ps_if (pt_cmpR op_notIn_seq (pv 1) (pe_tup (pa_cons (ClX.pe_cval (pgo (kn.glo "Account"))) (pa_cons (ClX.pe_cval (pgo (kn.glo "LimitedAccount"))) (pa_cons (ClX.pe_cval (pgo (kn.glo "SavingsAccount"))) pa_nil)))) (by with_unfolding_all rfl)) (pss_one ps_never) pss_nil)
    (pss_cons (ps_if (pt_not (pt_val (pe_smeth (pgo (kn.glo "Account")) (kx.kind .op).rd kx.isn.1 kx.isn.2 (ok_is_nameK (T := T) kn kx) (hr.mono (by decide)) pass0 (pa_cons (pv 2) pa_nil)))) (pss_one ps_never) pss_nil)
    (pss_cons (ps_if (pt_not (pt_val (pf (ok_is_amount kn) (hr.mono (by decide)) (kn.glo "is_amount") pass0 (pa_cons (pv 3) (pa_cons pe_int (pa_cons (pe_ifExp (pt_cmpR op_eq (pv 1) (ClX.pe_cval (pgo (kn.glo "LimitedAccount"))) (nomark _)) (pe_gi (kn.int "MAX_AMOUNT" 1000000000000000000)) pe_int) pa_nil)))))) (pss_one ps_never) pss_nil)
    (pss_cons (ps_if (pt_cmpR op_eq (pv 1) (ClX.pe_cval (pgo (kn.glo "LimitedAccount"))) (nomark _)) (pss_one (ps_set (i := 6) sc_Account_made.nd rfl (.inl rfl) pe_never)) (pss_one (ps_if (pt_cmpR op_eq (pv 1) (ClX.pe_cval (pgo (kn.glo "SavingsAccount"))) (nomark _)) (pss_one (ps_set (i := 6) sc_Account_made.nd rfl (.inl rfl) (pmk (kn.mkr "SavingsAccount") (ok_Savings_init kn kx) (hr.mono (by decide)) (kn.glo "SavingsAccount") pass0 (pa_cons (pv 2) (pa_cons (pv 3) (pa_cons (pv 4) (pa_cons (pv 5) pa_nil))))))) (pss_one (ps_set (i := 6) sc_Account_made.nd rfl (.inl rfl) pe_never)))))
    (pss_cons (ps_if (pt_not (pt_val (pm (ok_Savings_allows kn kx) (kn.cls "SavingsAccount") (kn.meth "SavingsAccount" "allows") (hr.mono (by decide)) pass0 (pv 6) (pa_cons (pv 4) pa_nil)))) (pss_one ps_never) pss_nil)
    (pss_one (ps_ret (pv 6)))))))), ?_⟩
  refine ⟨_, rfl, _, _, _, _, rfl, (kx.kind .op).rd, c1, _, _, _, _, rfl, (kx.kind .li).rd, c2, _, _, _, _, rfl, (kx.kind .sa).rd, c3, (by decide : 3 ≤ sizeLine), fun q0 hq0 => ?_⟩
  have g0 := (Gr.refl tb).new (T := T) (o := HO.tup [.str Kd.op.str, .str Kd.li.str, .str Kd.sa.str]) hq0
  refine ⟨q0, [.str Kd.op.str, .str Kd.li.str, .str Kd.sa.str], rfl, .inr (.inl (.inl upd_same)), rfl, rfl, _, rfl, ?_⟩
  refine ite2 (fun h => absurd h (by rw [show inV (.str Kd.sa.str) [.str Kd.op.str, .str Kd.li.str, .str Kd.sa.str] = true by decide +kernel]; decide)) (fun _ => ?_)
  refine ⟨rfl, _, rfl, rfl, g0.tb, fun H1 g1 => ⟨_, rfl, ?_⟩⟩
  refine ite2 (fun h => by cases h) (fun _ => ?_)
  refine ⟨_, rfl, _, rfl, _, _, _, _, rfl, (kx.kind .li).rd, c2, rfl, _, rfl, ?_⟩
  rw [show decide (V.str Kd.sa.str = V.str Kd.li.str) = false by decide +kernel]
  refine ⟨lim, 0, 0, rfl, _, rfl, ?_⟩
  rw [show decide ((0 : Int) ≤ lim ∧ lim ≤ 0) = true from decide_eq_true (by have := hok.1; omega)]
  refine ite2 (fun h => by cases h) (fun _ => ?_)
  refine ⟨_, rfl, _, _, _, _, rfl, (kx.kind .li).rd, c2, rfl, _, rfl, ?_⟩
  rw [show decide (V.str Kd.sa.str = V.str Kd.li.str) = false by decide +kernel]
  refine ⟨_, rfl, _, _, _, _, rfl, (kx.kind .sa).rd, c3, rfl, _, rfl, ?_⟩
  rw [show decide (V.str Kd.sa.str = V.str Kd.sa.str) = true by decide +kernel]
  refine ⟨_, rfl, _, rfl, _, rfl, _, rfl, fun x dx hx hdx hne => ?_⟩
  refine ⟨x, dx, .sa, bobS, lim, bal, cyc, rfl, upd_same, rfl, ?_⟩
  have g2 : Gr T H1 (upd (upd (upd H1 dx (.own x)) x (.ins (ga K Kd.sa.cn) dx [])) x (.ins (ga K Kd.sa.cn) dx (accF bobS lim bal cyc))) := by
    rw [upd_upd]
    have hx' : upd H1 dx (.own x) x = none := by rw [upd_ne (Ne.symm hne)]; exact hx
    exact ((Gr.refl g1.tb).new hdx).new hx'
  have ha : AccAt K (upd (upd (upd H1 dx (.own x)) x (.ins (ga K Kd.sa.cn) dx [])) x (.ins (ga K Kd.sa.cn) dx (accF bobS lim bal cyc))) x .sa bobS lim bal cyc := ⟨dx, upd_same⟩
  have fin := hq x _ ((g0.trans g1).trans g2) ha
  refine ⟨_, rfl, x, dx, _, rfl, upd_same, rfl, _, rfl, x, .sa, bobS, lim, bal, cyc, bal, rfl, ha, _, rfl, ?_⟩
  rw [show decide (0 - lim ≤ bal) = true from decide_eq_true (by have := hok.1; have := hok.2; omega)]
  refine ite2 (fun h => by cases h) (fun _ => ?_)
  exact ⟨_, rfl, fin⟩

theorem ok_made (kn : Kn K mg) (kx : Kx K) : ∃ fd, FnOk P w K mg base CX0 4 (He5.wf K (ga K "Account") "classmethod" "made") fd ["cls", "kind", "name", "limit", "balance", "cycle"] (spMade K T) ∧ KBn K fd ["cls", "kind", "name", "limit", "balance", "cycle"] 3 ["limit", "balance", "cycle"] (fun us ws => us ++ ws) (fun vs zs => vs ++ zs) := by
  obtain ⟨fd, F⟩ := kx.f_made
  refine ⟨fd, F.ok sc_Account_made (fun vs H Q E h => ?_) (fun cdv A outer s H vs Q E hr h => ?_), ?_⟩
  · obtain ⟨k, lim, bal, cyc, rfl, _⟩ := h
    rfl
  · obtain ⟨k, lim, bal, cyc, rfl, hok, tb, hq⟩ := h
    cases k
    · exact (made_op kn kx).run cdv A outer s H lim bal cyc Q E hr hok tb hq
    · exact (made_li kn kx).run cdv A outer s H lim bal cyc Q E hr hok tb hq
    · exact (made_sa kn kx).run cdv A outer s H lim bal cyc Q E hr hok tb hq
  · obtain ⟨mv, h⟩ := F.kbinds0 (ps := ["cls", "kind", "name", "limit", "balance", "cycle"]) 3 ["limit", "balance", "cycle"] [] (fun vs _ zs => vs ++ zs) (by simp) (fun q hq => by cases hq) (fun r1 _ r3 => r1.append r3) (fun D doc pm an cdv ct us mv ws l1 l2 l3 => by
      match us, l1, ws, l3 with
      | [_, _, _], _, [_, _, _], _ => rfl)
    exact h
end
end So
end
section
set_option maxHeartbeats 4000000
/-! Books: what stands, made, copied. -/
namespace So
open PySem PySem.Spec PyProof.Rows L2 He
/-- an account's entry: kind, limit, balance -/
abbrev AccE := Kd × Int × Int
def AccsAt (H : Hp) (ad : Addr) : Option AccE → Prop
  | none => H ad = some (.dK [])
  | some (k, lim, bal) => ∃ t, H ad = some (.dK [(.inr bobS, .ref t)]) ∧ H t = some (.tup [.str k.str, .int lim, .int bal])
def duesL : Nat → List Addr → List (Key × V)
  | _, [] => []
  | n, t :: ts => (.inl (n + 1 : Nat), .ref t) :: duesL (n + 1) ts
def DueP (H : Hp) (ts : List Addr) (os : List Ord) : Prop := Paired (fun t o => H t = some (.tup [.str bobS, .int o.1, .int o.2.1, .int o.2.2])) ts os
def DuesAt (H : Hp) (dd : Addr) (os : List Ord) : Prop := ∃ ts : List Addr, H dd = some (.dK (duesL 0 ts)) ∧ DueP H ts os
def bookF (day : Int) (ad dd : Addr) (fo : Int) : List (Str × V) := [(("day_number" : Str), .int day), (("accounts" : Str), .ref ad), (("dues" : Str), .ref dd), (("following" : Str), .int fo)]
structure BookP (K : PySem.W.Frag) (H : Hp) (b dx ad dd : Addr) (day : Int) (acc : Option AccE) (os : List Ord) : Prop where
  obj : H b = some (.ins (ga K "Books") dx (bookF day ad dd ((os.length : Int) + 1)))
  acc : AccsAt H ad acc
  due : DuesAt H dd os
  ne : ad ≠ dd
section
variable {T : Wt} {S : Addr → Prop} {K : PySem.W.Frag} {H H' H1 : Hp} {b dx ad dd : Addr} {day : Int} {acc : Option AccE} {os : List Ord}
theorem AccsAt.gr (h : AccsAt H ad acc) (g : GrB T S H H') (n : ¬ S ad) (hs : ∀ t xs, H t = some (.tup xs) → ¬ S t) : AccsAt H' ad acc := by
  cases acc with
  | none => exact g.at h n
  | some p =>
    obtain ⟨k, lim, bal⟩ := p
    obtain ⟨t, h1, h2⟩ := h
    exact ⟨t, g.at h1 n, g.at h2 (hs _ _ h2)⟩
theorem DuesAt.gr (h : DuesAt H dd os) (g : GrB T S H H') (n : ¬ S dd) (hs : ∀ t xs, H t = some (.tup xs) → ¬ S t) : DuesAt H' dd os := by
  obtain ⟨ts, h1, h2⟩ := h
  exact ⟨ts, g.at h1 n, Paired.mapP h2 fun t o e => g.at e (hs _ _ e)⟩
theorem BookP.gr (h : BookP K H b dx ad dd day acc os) (g : GrB T S H H') (nb : ¬ S b) (na : ¬ S ad) (nd : ¬ S dd) (hs : ∀ t xs, H t = some (.tup xs) → ¬ S t) : BookP K H' b dx ad dd day acc os :=
  ⟨g.at h.obj nb, h.acc.gr g na hs, h.due.gr g nd hs, h.ne⟩
theorem BookP.gr0 (h : BookP K H b dx ad dd day acc os) (g : Gr T H H') : BookP K H' b dx ad dd day acc os := h.gr g (fun z => z) (fun z => z) (fun z => z) fun _ _ _ z => z
/-- changes at new things are no changes -/
theorem GrB.news {H2 : Hp} (g : Gr T H H1) (h : GrB T S H1 H2) (hn : ∀ b, S b → H b = none) : Gr T H H2 :=
  ⟨fun b o e _ n => h.1 b o (g.1 b o e (fun z => z) n) (fun z => by rw [hn b z] at e; cases e) n, h.2, fun b o e => let ⟨o', e'⟩ := g.3 b o e; h.3 b o' e'⟩
theorem duesL_len : ∀ (n : Nat) (ts : List Addr), (duesL n ts).length = ts.length
  | _, [] => rfl
  | n, t :: ts => by show (duesL (n + 1) ts).length + 1 = _; rw [duesL_len (n + 1) ts]; rfl
theorem duesL_keys : ∀ (n : Nat) (ts : List Addr), (duesL n ts).map (·.1) = ((List.range' (n + 1) ts.length).map fun i => ((i : Nat) : Int)).map Sum.inl
  | _, [] => rfl
  | n, t :: ts => by
    show Sum.inl ((n + 1 : Nat) : Int) :: (duesL (n + 1) ts).map (·.1) = _
    rw [duesL_keys (n + 1) ts]
    rfl
theorem duesL_val : ∀ (n : Nat) (ts : List Addr) (i : Nat) (t : Addr), ts[i]? = some t → valV (duesL n ts) (Sum.inl ((n + 1 + i : Nat) : Int)) = some (.ref t)
  | _, [], _, _, h => by cases h
  | n, t0 :: ts, 0, t, h => by
    cases h
    exact valV_pos rfl
  | n, t0 :: ts, i + 1, t, h => by
    have e : n + 1 + (i + 1) = n + 1 + 1 + i := by omega
    show valV ((.inl ((n + 1 : Nat) : Int), .ref t0) :: duesL (n + 1) ts) _ = _
    rw [valV_neg (by
      intro z
      have z' := Sum.inl.inj z
      omega), e]
    exact duesL_val (n + 1) ts i t h
theorem duesL_none : ∀ (n : Nat) (ts : List Addr) (i : Int), (i < (n : Int) + 1 ∨ (n : Int) + ts.length < i) → valV (duesL n ts) (Sum.inl i) = none
  | _, [], _, _ => rfl
  | n, t0 :: ts, i, h => by
    show valV ((.inl ((n + 1 : Nat) : Int), .ref t0) :: duesL (n + 1) ts) _ = _
    rw [List.length_cons] at h
    rw [valV_neg (by
      intro z
      have z' := Sum.inl.inj z
      omega)]
    exact duesL_none (n + 1) ts i (by omega)
theorem duesL_snoc : ∀ (n : Nat) (ts : List Addr) (t : Addr), duesL n ts ++ [(.inl ((n + ts.length + 1 : Nat) : Int), .ref t)] = duesL n (ts ++ [t])
  | n, [], t => by simp [duesL]
  | n, t0 :: ts, t => by
    show (.inl ((n + 1 : Nat) : Int), .ref t0) :: (duesL (n + 1) ts ++ _) = (.inl ((n + 1 : Nat) : Int), .ref t0) :: duesL (n + 1) (ts ++ [t])
    rw [← duesL_snoc (n + 1) ts t]
    have e : n + (t0 :: ts).length + 1 = n + 1 + ts.length + 1 := by rw [List.length_cons]; omega
    rw [e]
end
def spBookInit (K : PySem.W.Frag) : Sp := fun vs H Q _ => ∃ (p dx ad dd : Addr) (day fo : Int), vs = [.ref p, .int day, .ref ad, .ref dd, .int fo] ∧ H p = some (.ins (ga K "Books") dx []) ∧ Q .non (upd H p (.ins (ga K "Books") dx (bookF day ad dd fo)))
/-- a copy, all of it new -/
def spCopied (K : PySem.W.Frag) (T : Wt) : Sp := fun vs H Q _ => ∃ (b dx ad dd : Addr) (day : Int) (acc : Option AccE) (os : List Ord), vs = [.ref b] ∧ BookP K H b dx ad dd day acc os ∧ Tbs T H ∧
  ∀ b' dx' ad' dd' H', Gr T H H' → H b' = none → H ad' = none → H dd' = none → BookP K H' b' dx' ad' dd' day acc os → Q (.ref b') H'
section
variable {P : Program} {w : World} {K : PySem.W.Frag} {mg : Str → Option Value} {base : Heap} {T : Wt}
theorem ok_Books_init (kn : Kn K mg) : Okd P w K mg base CX0 1 (ma K (ga K "Books") "__init__") ["self", "day", "accounts", "dues", "following"] (spBookInit K) := by
  refine okd_of kn.m_Books___init__ sc_Books___init__ (fun vs H Q E h => ?_) (fun _ _ _ _ _ _ us hl => match us, hl with | [_, _, _, _, _], _ => rfl) (fun cdv A outer s H vs Q E hr h => ?_)
  · obtain ⟨p, dx, ad, dd, day, fo, rfl, _⟩ := h
    rfl
  · obtain ⟨p, dx, ad, dd, day, fo, rfl, hp, hq⟩ := h
    have c := kn.cls "Books"
    refine ⟨_, PSs.nox (pss_cons (ps_fld (pv 0) (pv 1) rfl)
      (pss_cons (ps_fld (pv 0) (pv 2) rfl)
      (pss_cons (ps_fld (pv 0) (pv 3) rfl)
      (pss_one (ps_fld (pv 0) (pv 4) rfl))))), ?_⟩
    refine ⟨_, rfl, _, rfl, p, _, dx, _, rfl, hp, c, kn.noat "Books" "day_number", by decide, ?_⟩
    refine ⟨_, rfl, _, rfl, p, _, dx, _, rfl, upd_same, c, kn.noat "Books" "accounts", (by decide : 1 < 1000), ?_⟩
    refine ⟨_, rfl, _, rfl, p, _, dx, _, rfl, upd_same, c, kn.noat "Books" "dues", (by decide : 2 < 1000), ?_⟩
    refine ⟨_, rfl, _, rfl, p, _, dx, _, rfl, upd_same, c, kn.noat "Books" "following", (by decide : 3 < 1000), ?_⟩
    rw [upd_upd, upd_upd, upd_upd]
    exact hq
theorem ok_copied (kn : Kn K mg) : Okd P w K mg base CX0 3 (ma K (ga K "Books") "copied") ["self"] (spCopied K T) := by
  refine okd_of kn.m_Books_copied sc_Books_copied (fun vs H Q E h => ?_) (fun _ _ _ _ _ _ us hl => match us, hl with | [_], _ => rfl) (fun cdv A outer s H vs Q E hr h => ?_)
  · obtain ⟨b, dx, ad, dd, day, acc, os, rfl, _⟩ := h
    rfl
  · obtain ⟨b, dx, ad, dd, day, acc, os, rfl, B, tb, hq⟩ := h
    have c := kn.cls "Books"
    obtain ⟨ob, ac, du, ne⟩ := id B
    obtain ⟨ts, hd1, hd2⟩ := id du
    refine ⟨_, PSs.nox (pss_one (ps_ret (pmk (kn.mkr "Books") (ok_Books_init kn) hr (kn.glo "Books") pass0 (pa_cons (pe_fld (pv 0) rfl) (pa_cons (pe_callTy call_dictD rfl (kn.free "dict") boot_dict (pa_cons (pe_fld (pv 0) rfl) pa_nil)) (pa_cons (pe_callTy call_dictD rfl (kn.free "dict") boot_dict (pa_cons (pe_fld (pv 0) rfl) pa_nil)) (pa_cons (pe_fld (pv 0) rfl) pa_nil))))))), ?_⟩
    have acd : ∃ kvs, H ad = some (.dK kvs) ∧ (∀ H' p, (∀ b xs, H b = some (.tup xs) → H' b = some (.tup xs)) → H' p = some (.dK kvs) → AccsAt H' p acc) := by
      cases acc with
      | none => exact ⟨[], ac, fun H' p _ e => e⟩
      | some q =>
        obtain ⟨k, lim, bal⟩ := q
        obtain ⟨t, h1, h2⟩ := ac
        exact ⟨_, h1, fun H' p hk e => ⟨t, e, hk _ _ h2⟩⟩
    obtain ⟨kvs, ha, hacc⟩ := acd
    refine ⟨_, rfl, b, _, dx, _, _, rfl, ob, c, kn.noat "Books" "day_number", rfl, ?_⟩
    refine ⟨_, rfl, b, _, dx, _, _, rfl, ob, c, kn.noat "Books" "accounts", rfl, ad, kvs, rfl, .inl ha, fun ad' ha' => ?_⟩
    have g1 : Gr T H (upd H ad' (.dK kvs)) := (Gr.refl tb).new ha'
    refine ⟨_, rfl, b, _, dx, _, _, rfl, g1.get ob, c, kn.noat "Books" "dues", rfl, dd, _, rfl, .inl (g1.get hd1), fun dd' hd' => ?_⟩
    have g2 : Gr T H (upd (upd H ad' (.dK kvs)) dd' (.dK (duesL 0 ts))) := g1.new hd'
    refine ⟨_, rfl, b, _, dx, _, _, rfl, g2.get ob, c, kn.noat "Books" "following", rfl, fun x dx' hx hdx hne => ?_⟩
    refine ⟨x, dx', ad', dd', day, _, rfl, upd_same, rfl, ?_⟩
    rw [upd_upd]
    have hx' : upd (upd (upd H ad' (.dK kvs)) dd' (.dK (duesL 0 ts))) dx' (.own x) x = none := by rw [upd_ne (Ne.symm hne)]; exact hx
    have g3 := (g2.new (o := .own x) hdx).new (o := .ins (ga K "Books") dx' (bookF day ad' dd' ((os.length : Int) + 1))) hx'
    have nad : ad' ≠ dd' := fun z => by rw [← z, upd_same] at hd'; cases hd'
    have e1 : upd (upd H ad' (.dK kvs)) dd' (.dK (duesL 0 ts)) ad' = some (.dK kvs) := by rw [upd_ne nad]; exact upd_same
    have e2 : upd (upd H ad' (.dK kvs)) dd' (.dK (duesL 0 ts)) dd' = some (.dK (duesL 0 ts)) := upd_same
    have k1 : ∀ a o, upd (upd H ad' (.dK kvs)) dd' (.dK (duesL 0 ts)) a = some o → upd (upd (upd (upd H ad' (.dK kvs)) dd' (.dK (duesL 0 ts))) dx' (.own x)) x (.ins (ga K "Books") dx' (bookF day ad' dd' ((os.length : Int) + 1))) a = some o := fun a o e => upd_ext hx' _ _ (upd_ext hdx _ _ e)
    have hn1 : H x = none := g2.nn hx
    have hn3 : H dd' = none := g1.nn hd'
    refine hq x dx' ad' dd' _ g3 hn1 ha' hn3 ⟨upd_same, hacc _ _ (fun b xs e => g3.get e) (k1 _ _ e1), ⟨ts, k1 _ _ e2, Paired.mapP hd2 fun t o e => g3.get e⟩, nad⟩
end
end So
end
section
set_option maxHeartbeats 4000000
/-! *a, b, c = a tuple. -/
namespace So
open PySem PySem.Spec PyProof.Rows L2 He
section
variable {prog : Program} {w : World} {A : Around} {E : Value → Shared → Prop} {s : Shared}
theorem unpack_star0 {t : Addr} {items : Array Value} {m : Nat} {Q : List Value → Shared → Prop} (hh : A.handled = none) (ht : s.heap.IsTuple t items) (hm : m ≤ items.size) (hz : items.size ≤ sizeLine)
    (hQ : ∀ (h1 : Heap) (tk : Nat), (∀ b o, s.heap.get? b = some o → h1.get? b = some o) → Q (.ref h1.objs.size :: items.toList.drop (items.size - m)) { s with heap := h1.push { cls := .type "list", data := .seq (items.toList.take (items.size - m)).toArray }, toks := tk }) :
    wpAny (model prog w) A (unpackItems (.ref t) (m + 1) (some 0)) Q E s := by
  have hlt : t ≠ s.heap.objs.size := by obtain ⟨o, ho, _⟩ := ht; exact Nat.ne_of_lt (Heap.lt_size ho)
  unfold unpackItems
  refine wpAny_bind ?_
  unfold notIterableAtAll
  refine wpAny_bind (wpAny_specialOf ht.typeIs F.slot_tuple_iter.lookup ?_)
  refine wpAny_pure ?_
  simp only [Bool.false_eq_true, if_false]
  refine wpAny_bind (wpAny_holding (wpAny_pyIter_tuple ht ?_))
  have hit : (s.heap.push { cls := .type "tuple_iterator", data := .fields #[.ref t, .int 0 0] }).IsTupleIter s.heap.objs.size t 0 := ⟨_, Heap.get?_push_size _ rfl, rfl, rfl⟩
  refine wpAny_bind (wpAny_holding (wpAny_draw_tuple hlt 0 0 _ _ hit (ht.push _) (Nat.zero_le _) fun h₁ hit₁ hs₁ => ?_))
  rw [List.take_zero]
  rw [if_neg (by simp)]
  have W := (Walks.tuple (prog := prog) (w := w) (A := A.in1) hh s.heap.objs.size t hlt items).toS
  have ht₁ : h₁.IsTuple t items := (ht.push _).extBut hs₁.extBut hlt
  have hfp : ∀ b ∈ [s.heap.objs.size, t], b < h₁.objs.size := fun b hb => by
    have e : b = s.heap.objs.size ∨ b = t := by simpa using hb
    rcases e with z | z
    · rw [z]; obtain ⟨o, ho, _⟩ := id hit₁; exact Heap.lt_size ho
    · rw [z]; obtain ⟨o, ho, _⟩ := id ht₁; exact Heap.lt_size ho
  refine wpAny_bind (wpAny_holding (wpAny_collect_iter (.inr (.inr (.inr rfl))) W (fun i s st => let ⟨o, ho, hc, _⟩ := st.1; ⟨o, ho, hc⟩) ⟨hit₁, ht₁⟩ hfp (by simp) (fun s' acc mv ia => ?_) hz))
  have ea : acc.toList = items.toList := by
    have e2 : acc = items := by
      refine Array.ext (by rw [ia.1]) fun j h1 h2 => ?_
      have z : items[j]? = some acc[j] := ia.2 j acc[j] (Array.getElem?_eq_getElem h1)
      rw [Array.getElem?_eq_getElem h2] at z
      exact (Option.some.inj z).symm
    rw [e2]
  rw [ea]
  have elen : items.toList.length = items.size := by simp
  have esub : m + 1 - 1 - 0 = m := by omega
  simp only [esub, elen]
  rw [if_neg (by omega)]
  refine wpAny_bind (wpAny_newObj_type (wpAny_pure ?_) (by
    show ((items.toList.take (items.size - m)).toArray).size ≤ sizeLine
    simp
    omega))
  have keep : ∀ b o, s.heap.get? b = some o → s'.heap.get? b = some o := fun b o e => by
    have nb : b ≠ s.heap.objs.size := Nat.ne_of_lt (Heap.lt_size e)
    exact mv.heap b o (by simpa using nb) ((hs₁.2 b nb).trans (Heap.get?_push_of_some _ e))
  have z := hQ s'.heap s'.toks keep
  obtain ⟨h', g', d', t', o'⟩ := s'
  have e1 : g' = s.gens := mv.gens
  have e2 : d' = s.drawn := mv.drawn
  have e3 : o' = s.os := mv.os
  subst e1 e2 e3
  exact z
theorem assign_star0 {env : Env} {elts : List Expr} {x1} {pos : Pos} {t : Addr} {items : Array Value} {m : Nat} {Q : Unit → Shared → Prop} (hh : A.handled = none) (ht : s.heap.IsTuple t items) (hm : m ≤ items.size) (hz : items.size ≤ sizeLine)
    (hn : (assignEach elts env).length = m + 1) (hstar : (assignEach elts env).findIdx? (·.1) = some 0)
    (h : ∀ (h1 : Heap) (tk : Nat), (∀ b o, s.heap.get? b = some o → h1.get? b = some o) → wpAny (model prog w) A (assignInOrder ((assignEach elts env).map (·.2)) (.ref h1.objs.size :: items.toList.drop (items.size - m))) Q E { s with heap := h1.push { cls := .type "list", data := .seq (items.toList.take (items.size - m)).toArray }, toks := tk }) :
    wpAny (model prog w) A (assign (.Tuple elts x1 pos) env (.ref t)) Q E s := by
  rw [arm_assign_Tuple]
  refine wpAny_bind (wpAny_standAt ?_)
  unfold unpack
  rw [hn, hstar]
  exact wpAny_bind (wpAny_holding (unpack_star0 hh ht hm hz h))
end
section
variable {X : Cx} {pos sp : Pos}
/-- *a, b, .. = a tuple -/
def gStar (K : PySem.W.Frag) (m : Nat) (t : TGs) : TG := fun v σ H Q => ∃ a xs, v = .ref a ∧ SqT K H a xs ∧ m ≤ xs.length ∧ ∀ q, H q = none → t (.ref q :: xs.drop (xs.length - m)) σ (upd H q (.lst (xs.take (xs.length - m)))) Q
theorem pgs_star {e : Expr} {es : List Expr} {t : TG} {u : TGs} (h1 : PG X e t) (h2 : PGs X es u) : PGs X (.Starred e sp :: es) (gCons t u) := by
  refine ⟨fun pins s σ H vs us Q I r h => ?_⟩
  obtain ⟨v, vr, e1, h⟩ := h
  subst e1
  cases r with
  | cons r rr =>
    rw [show (assignEach (.Starred e sp :: es) X.env).map (·.2) = assign e X.env :: (assignEach es X.env).map (·.2) by rw [arm_assignEach_Starred]; rfl]
    exact assignInOrder_cons (thn (h1.run pins s σ H v _ _ I r h) fun _ s1 ⟨σ1, H1, I1, q1⟩ => h2.run pins s1 σ1 H1 vr _ Q I1 rr q1)
theorem pg_star {es : List Expr} {k m : Nat} {t : TGs} (hc : X.calm = true) (h : PGs X es t)
    (hn : (assignEach es X.env).length = m + 1 := by rfl) (hst : (assignEach es X.env).findIdx? (·.1) = some 0 := by rfl) : PG X (.Tuple es k pos) (gStar X.K m t) := by
  refine ⟨fun pins s σ H v u Q I r hw => ?_⟩
  obtain ⟨a, xs, e1, hq, hm, hw⟩ := hw
  subst e1
  cases r
  obtain ⟨its, rv, ht, hz⟩ := I.tuple hq
  have hl := rv.length
  refine assign_star0 (I.ok.hd hc) ht (by simp; omega) (by rw [hl] at hz; simpa using hz) hn hst fun h1 tk hk => ?_
  have I1 : Inv X pins σ H { s with heap := h1, toks := tk } := I.kept hk
  have rt : Vals (xs.take (xs.length - m)) (its.take (its.length - m)) := by rw [hl]; exact Vals.take _ rv
  have I2 := I1.laid (a := h1.objs.size) (o := .lst (xs.take (xs.length - m))) (h' := h1.push { cls := .type "list", data := .seq (its.take (its.length - m)).toArray }) (t' := tk) (fun b o e => Heap.get?_push_of_some _ e) (Nat.le_refl _) (by
    refine ⟨?_, _, _, rt, Heap.get?_push_size _ rfl⟩
    rw [List.length_take]
    omega)
  have z := h.run pins _ σ _ (.ref h1.objs.size :: xs.drop (xs.length - m)) (.ref h1.objs.size :: its.drop (its.length - m)) Q I2 (.cons rfl (by rw [hl]; exact Vals.drop _ rv)) (hw _ (I1.hok.fresh (Nat.le_refl _)))
  simpa using z
end
end So
end
section
set_option maxHeartbeats 4000000
/-! The payments of a name. -/
namespace So
open PySem PySem.Spec PyProof.Rows L2 He
def PayP (H : Hp) (ts : List Addr) (os : List Ord) (n : Nat) : Prop := ts.length = n ∧ ∀ (i : Nat) (t : Addr), ts[i]? = some t → ∃ o, os[i]? = some o ∧ H t = some (.tup [.int ((i + 1 : Nat) : Int), .int o.1, .int o.2.1, .int o.2.2])
theorem PayP.ext {H H' : Hp} {ts : List Addr} {os : List Ord} {n : Nat} (h : PayP H ts os n) (g : ∀ b xs, H b = some (.tup xs) → H' b = some (.tup xs)) : PayP H' ts os n :=
  ⟨h.1, fun i t e => let ⟨o, e1, e2⟩ := h.2 i t e; ⟨o, e1, g _ _ e2⟩⟩
def spPayments (K : PySem.W.Frag) (T : Wt) : Sp := fun vs H Q _ => ∃ (b dx ad dd : Addr) (day : Int) (acc : Option AccE) (os : List Ord), vs = [.ref b, .str bobS] ∧ BookP K H b dx ad dd day acc os ∧ os.length ≤ 60 ∧ (∀ o ∈ os, -1000 ≤ o.2.2 ∧ o.2.2 ≤ 1000) ∧ Tbs T H ∧
  ∀ l ts H', Gr T H H' → H l = none → H' l = some (.lst (ts.map V.ref)) → PayP H' ts os os.length → Q (.ref l) H'
theorem sorted_is {n : Nat} {ys : List Int} (hp : ys.Perm ((List.range' 1 n).map fun i => ((i : Nat) : Int))) (hs : ys.Pairwise (· ≤ ·)) : ys = (List.range' 1 n).map fun i => ((i : Nat) : Int) := by
  refine List.Perm.eq_of_pairwise (le := fun a b : Int => a ≤ b) (fun a b _ _ h1 h2 => Int.le_antisymm h1 h2) hs ?_ hp
  rw [List.pairwise_map]
  refine List.Pairwise.imp (fun {a b} h => ?_) (List.pairwise_lt_range' (s := 1) (n := n))
  show (a : Int) ≤ b
  omega
section
variable {P : Program} {w : World} {K : PySem.W.Frag} {mg : Str → Option Value} {base : Heap} {T : Wt}
theorem ok_payments (kn : Kn K mg) : Okd P w K mg base CX0 1 (ma K (ga K "Books") "payments") ["self", "name"] (spPayments K T) := by
  refine okd_of kn.m_Books_payments sc_Books_payments (fun vs H Q E h => ?_) (fun _ _ _ _ _ _ us hl => match us, hl with | [_, _], _ => rfl) (fun cdv A outer s H vs Q E hr h => ?_)
  · obtain ⟨b, dx, ad, dd, day, acc, os, rfl, _⟩ := h
    rfl
  · obtain ⟨b, dx, ad, dd, day, acc, os, rfl, B, hol, hos, tb, hq⟩ := h
    have c := kn.cls "Books"
    obtain ⟨ob, ac, ⟨ts, hd1, hd2⟩, ne⟩ := id B
    have hlen : ts.length = os.length := Paired.length hd2
    have hu : ∀ {env}, (A.deeper env).units + 1 < cLine := fun {env} => by have z := hr.un; have e : (A.deeper env).units = A.units + 3 := rfl; rw [e]; have e2 : (A.deeper (envOfC "Books.payments" (defScope s_Books_payments) s.heap.objs.size (ma K (ga K "Books") "payments") cdv)).units = A.units + 3 := rfl; rw [e2] at z; omega
    refine ⟨_, PSs.nox (pss_cons (ps_set (i := 2) sc_Books_payments.nd rfl (.inl rfl) (pe_lst pa_nil))
      (pss_cons (ps_for PassesOwn.never rfl (pi_list (pe_callB (call_sortedDI rfl) rfl (kn.free "sorted") boot_sorted (pa_cons (pe_fld (pv 0) rfl) pa_nil))) (pg_name (i := 3) sc_Books_payments.nd rfl (.inl rfl)) (pss_cons (ps_asg (pe_dget hu (pe_fld (pv 0) rfl) (pv 3) (fun _ _ => rfl)) (pg_star rfl (pgs_star (pg_name (i := 4) sc_Books_payments.nd rfl (.inl rfl)) (pgs_cons (pg_name (i := 5) sc_Books_payments.nd rfl (.inl rfl)) (pgs_cons (pg_name (i := 6) sc_Books_payments.nd rfl (.inl rfl)) (pgs_cons (pg_name (i := 7) sc_Books_payments.nd rfl (.inl rfl)) pgs_nil))))))
      (pss_one (ps_if (pt_cmpR op_eq (pe_ix ix_list (pv 4) pe_int (fun _ _ => rfl)) (pv 1) (nomark _)) (pss_one (ps_expr (pe_bm PySem.F.plainAttrs_list PySem.F.slot_list_append PySem.F.type_list_append mt_append (pv 2) (pa_cons (pe_tup (pa_cons (pv 3) (pa_cons (pv 5) (pa_cons (pv 6) (pa_cons (pe_ifExp (pt_cmpR op_eq (pe_callB (call_len_seq) rfl (kn.free "len") boot_len (pa_cons (pv 4) pa_nil)) pe_int (nomark _)) (pv 7) pe_never) pa_nil))))) pa_nil)))) (pss_one ps_never)))))
      (pss_one (ps_ret (pv 2))))), ?_⟩
    refine ⟨Nat.zero_le _, fun dl hdl => ?_⟩
    have g0 : Gr T H (upd H dl (.lst [])) := (Gr.refl tb).new hdl
    refine ⟨_, rfl, b, _, dx, _, _, rfl, g0.get ob, c, kn.noat "Books" "dues", rfl, dd, duesL 0 ts, _, rfl, .inl (g0.get hd1), duesL_keys 0 ts, ?_, fun ys sl hp hs hsl => ?_⟩
    · rw [List.length_map, List.length_range']
      omega
    have ey := sorted_is hp hs
    subst ey
    have g1 : Gr T H (upd (upd H dl (.lst [])) sl (.lst (((List.range' 1 ts.length).map fun i => ((i : Nat) : Int)).map V.int))) := g0.new hsl
    have hdl1 : (upd (upd H dl (.lst [])) sl (.lst (((List.range' 1 ts.length).map fun i => ((i : Nat) : Int)).map V.int))) dl = some (.lst []) := by
      rw [upd_ne (fun z => by rw [← z, upd_same] at hsl; cases hsl)]
      exact upd_same
    have hslH : H sl = none := g0.nn hsl
    refine ⟨sl, rfl, ⟨_, .inl (.inl upd_same)⟩, ?_⟩
    refine for_list (xs := (((List.range' 1 ts.length).map fun i => ((i : Nat) : Int)).map V.int)) (fun i σ H' => (∃ a3 a4 a5 a6 a7, σ = [some (.ref b), some (.str bobS), some (.ref dl), a3, a4, a5, a6, a7]) ∧ Gr T H H' ∧ H' sl = some (.lst (((List.range' 1 ts.length).map fun i => ((i : Nat) : Int)).map V.int)) ∧ ∃ us : List Addr, H' dl = some (.lst (us.map V.ref)) ∧ PayP H' us os i) ⟨⟨_, _, _, _, _, rfl⟩, g1, upd_same, [], hdl1, rfl, fun i t e => by cases e⟩ (fun i σ H' _ hi => .inl (.inl hi.2.2.1)) (fun i x σ H' hx hi => ?_) (fun σ H' hi => ?_)
    · obtain ⟨⟨a3, a4, a5, a6, a7, rfl⟩, g, hsl', us, hdl', hpay⟩ := hi
      have hx2 : i < ts.length ∧ x = .int ((i + 1 : Nat) : Int) := by
        rw [List.getElem?_map, List.getElem?_map] at hx
        cases e : (List.range' 1 ts.length)[i]? with
        | none => rw [e] at hx; cases hx
        | some j =>
          rw [e] at hx
          cases hx
          have hi' : i < ts.length := by
            have := (List.getElem?_eq_some_iff.mp e).1
            rwa [List.length_range'] at this
          refine ⟨hi', ?_⟩
          rw [List.getElem?_range' hi'] at e
          have e' := Option.some.inj e
          have e2 : j = i + 1 := by omega
          rw [e2]
      obtain ⟨hil, rfl⟩ := hx2
      obtain ⟨o, ho, hto⟩ := Paired.at hd2 (List.getElem?_eq_getElem hil)
      obtain ⟨b1, b2⟩ := hos o (List.mem_of_getElem? ho)
      have hv := duesL_val 0 ts i _ (List.getElem?_eq_getElem hil)
      have ev : (0 + 1 + i : Nat) = i + 1 := by omega
      rw [ev] at hv
      refine ⟨_, rfl, b, _, dx, _, _, rfl, g.get ob, c, kn.noat "Books" "dues", rfl, _, rfl, dd, .ref ts[i], rfl, ?_, ?_⟩
      · have z := DGet.k (k := Sum.inl ((i + 1 : Nat) : Int)) (g.get hd1)
        rw [hv] at z
        exact z
      refine ⟨ts[i], _, rfl, .inl (.inl (g.get hto)), (by decide : 3 ≤ 4), fun q hqn => ?_⟩
      have g2 : Gr T H (upd H' q (.lst [.str bobS])) := g.new hqn
      refine ⟨_, _, rfl, _, _, rfl, _, _, rfl, _, _, rfl, rfl, ?_⟩
      refine ⟨_, rfl, q, _, _, .str bobS, rfl, rfl, .inl (.inl upd_same), rfl, _, rfl, rfl, _, rfl, ?_⟩
      refine ite2 (fun _ => ?_) (fun h => absurd (decide_eq_true rfl) h)
      have hdl2 : (upd H' q (.lst [.str bobS])) dl = some (.lst (us.map V.ref)) := upd_ext hqn _ _ hdl'
      refine ⟨_, rfl, .inl ⟨rfl, _, .inl (.inl hdl2)⟩, _, rfl, _, rfl, _, rfl, _, rfl, q, _, rfl, .inl (.inl (.inl upd_same)), rfl, _, rfl, ?_⟩
      refine ite2 (fun _ => ?_) (fun h => absurd (decide_eq_true rfl) h)
      refine ⟨_, rfl, (by decide : 4 ≤ sizeLine), fun t htn => ?_⟩
      have g3 := g2.new (o := .tup [.int ((i + 1 : Nat) : Int), .int o.1, .int o.2.1, .int o.2.2]) htn
      have hdl3 : (upd (upd H' q (.lst [.str bobS])) t (.tup [.int ((i + 1 : Nat) : Int), .int o.1, .int o.2.1, .int o.2.2])) dl = some (.lst (us.map V.ref)) := upd_ext htn _ _ hdl2
      have tupk : ∀ a xs o', (upd (upd H' q (.lst [.str bobS])) t (.tup [.int ((i + 1 : Nat) : Int), .int o.1, .int o.2.1, .int o.2.2])) a = some (.tup xs) → (upd (upd (upd H' q (.lst [.str bobS])) t (.tup [.int ((i + 1 : Nat) : Int), .int o.1, .int o.2.1, .int o.2.2])) dl o') a = some (.tup xs) := fun a xs o' e => by
        rw [upd_ne (fun z => by rw [z, hdl3] at e; cases e)]
        exact e
      refine ⟨dl, _, _, rfl, rfl, hdl3, ?_, ⟨_, _, _, _, _, rfl⟩, g3.turn hdl hdl3, ?_, us ++ [t], ?_, ?_⟩
      · rw [List.length_map, hpay.1]
        exact Nat.lt_trans hil (Nat.lt_of_le_of_lt (by omega : ts.length ≤ 60) (by decide))
      · have nsl : sl ≠ dl := fun z => by
          rw [← z, upd_same] at hdl1
          cases e9 : ts.length with
          | zero => omega
          | succ n =>
            rw [e9] at hdl1
            have := Option.some.inj hdl1
            injection this with h9
            cases h9
        rw [upd_ne nsl]
        exact upd_ext htn _ _ (upd_ext hqn _ _ hsl')
      · rw [upd_same, List.map_append]
        rfl
      · refine ⟨by rw [List.length_append, hpay.1]; rfl, fun j t' e => ?_⟩
        by_cases hj : j < us.length
        · rw [List.getElem?_append_left hj] at e
          obtain ⟨o', h1, h2⟩ := hpay.2 j t' e
          exact ⟨o', h1, tupk _ _ _ (upd_ext htn _ _ (upd_ext hqn _ _ h2))⟩
        · rw [List.getElem?_append_right (by omega)] at e
          have ej : j = us.length := by
            have := (List.getElem?_eq_some_iff.mp e).1
            simp at this
            omega
          subst ej
          simp at e
          subst e
          rw [hpay.1]
          exact ⟨o, ho, tupk _ _ _ upd_same⟩
    · obtain ⟨⟨a3, a4, a5, a6, a7, rfl⟩, g, hsl', us, hdl', hpay⟩ := hi
      rw [List.length_map, List.length_map, List.length_range', hlen] at hpay
      exact ⟨_, rfl, hq dl us H' g hdl hdl' hpay⟩
end
end So
end
section
set_option maxHeartbeats 4000000
/-! A ledger: its plan, its commit. -/
namespace So
open PySem PySem.Spec PyProof.Rows L2 He
def ledF (cal b pl fl : Addr) : List (Str × V) := [(("periods" : Str), .ref cal), (("books" : Str), .ref b), (("past" : Str), .ref pl), (("future" : Str), .ref fl)]
def spPlanFor (K : PySem.W.Frag) (T : Wt) : Sp := fun vs H Q _ => ∃ (l dxl cal b0 pl fl b dx ad dd : Addr) (ps : List Int) (c day : Int) (acc : Option AccE) (os : List Ord), vs = [.ref l, .ref b, .str bobS] ∧ H l = some (.ins (ga K "Ledger") dxl (ledF cal b0 pl fl)) ∧ CalAt H cal ps c ∧ BookP K H b dx ad dd day acc os ∧ os.length ≤ 60 ∧ (∀ o ∈ os, -1000 ≤ o.2.2 ∧ o.2.2 ≤ 1000) ∧ Tbs T H ∧
  ∀ plan H', Gr T H H' → PlanAt H' plan ps c (day + 1) os → Q (.ref plan) H'
section
variable {P : Program} {w : World} {K : PySem.W.Frag} {mg : Str → Option Value} {base : Heap} {T : Wt}
theorem ok_plan_for (kn : Kn K mg) : Okd P w K mg base CX0 2 (ma K (ga K "Ledger") "plan_for") ["self", "books", "name"] (spPlanFor K T) := by
  refine okd_of kn.m_Ledger_plan_for sc_Ledger_plan_for (fun vs H Q E h => ?_) (fun _ _ _ _ _ _ us hl => match us, hl with | [_, _, _], _ => rfl) (fun cdv A outer s H vs Q E hr h => ?_)
  · obtain ⟨l, dxl, cal, b0, pl, fl, b, dx, ad, dd, ps, c, day, acc, os, rfl, _⟩ := h
    rfl
  · obtain ⟨l, dxl, cal, b0, pl, fl, b, dx, ad, dd, ps, c, day, acc, os, rfl, hl, hcal, B, hol, hos, tb, hq⟩ := h
    have cL := kn.cls "Ledger"
    have cB := kn.cls "Books"
    refine ⟨_, PSs.nox (pss_cons (ps_set (i := 3) sc_Ledger_plan_for.nd rfl (.inl rfl) (pe_tupleOf rfl (kn.free "tuple") (pe_lc (g := gTup K 4 (gCons (gName 4) (gCons (gName 5) (gCons (gName 6) (gCons (gName 7) gNil))))) (own := [("number", 4), ("period", 5), ("day", 6), ("amount", 7)]) rfl sc_Ledger_plan_for.nd (pi_list (pm (ok_payments (T := T) kn) (kn.cls "Books") (kn.meth "Books" "payments") (hr.mono (by decide)) pass0 (pv 1) (pa_cons (pv 2) pa_nil))) (blkOk_by rfl)
        (fun _ _ _ _ _ => pg_tup rfl (pgs_cons (pg_name (i := 4) sc_Ledger_plan_for.nd rfl (.inl rfl) (.inr rfl)) (pgs_cons (pg_name (i := 5) sc_Ledger_plan_for.nd rfl (.inl rfl) (.inr rfl)) (pgs_cons (pg_name (i := 6) sc_Ledger_plan_for.nd rfl (.inl rfl) (.inr rfl)) (pgs_cons (pg_name (i := 7) sc_Ledger_plan_for.nd rfl (.inl rfl) (.inr rfl)) pgs_nil))))) (fun _ _ _ _ _ => pts_nil) (fun _ _ _ _ _ => pe_tup (pa_cons (pv 5) (pa_cons (pv 6) (pa_cons (pv 7) pa_nil)))))))
      (pss_one (ps_ret (pe_tup (pa_cons (pe_fld (pv 0) rfl) (pa_cons (pe_tup (pa_cons (pe_tup (pa_cons (pe_op op_add (pe_fld (pv 1) rfl) pe_int) (pa_cons (pv 3) pa_nil))) pa_nil)) pa_nil)))))), ?_⟩
    refine ⟨_, rfl, b, dx, _, rfl, B.obj, rfl, _, rfl, b, dx, ad, dd, day, acc, os, rfl, B, hol, hos, tb, fun pl1 ts H1 g1 hpl1 e1 hpay => ?_⟩
    refine ⟨pl1, rfl, ⟨_, .inl (.inl e1)⟩, fun D hD => ?_⟩
    have hDH : H D = none := g1.nn hD
    refine lc_list (xs := ts.map V.ref) (fun i H' => Gr T H H' ∧ H' pl1 = some (.lst (ts.map V.ref)) ∧ PayP H' ts os os.length ∧ ∃ us : List Addr, H' D = some (.lst (us.map V.ref)) ∧ us.length = i ∧ ∀ (j : Nat) (u : Addr), us[j]? = some u → ∃ o, os[j]? = some o ∧ H' u = some (.tup [.int o.1, .int o.2.1, .int o.2.2])) ⟨g1.new hD, upd_ext hD _ _ e1, hpay.ext (fun a xs e => upd_ext hD _ _ e), [], upd_same, rfl, fun j u e => by cases e⟩ (fun i H' _ hi => .inl (.inl hi.2.1)) (fun i x H' hx hi => ?_) (fun H' hi => ?_)
    · obtain ⟨g, e1', hpay', us, hD', hul, hus⟩ := hi
      obtain ⟨t, ht, rfl⟩ := map_ref_at hx
      obtain ⟨o, ho, hto⟩ := hpay'.2 i t ht
      have hil : i < os.length := (List.getElem?_eq_some_iff.mp ho).1
      refine ⟨t, _, rfl, .inl (.inl hto), rfl, _, _, rfl, _, _, rfl, _, _, rfl, _, _, rfl, rfl, rfl, ?_⟩
      refine ⟨_, rfl, _, rfl, _, rfl, (by decide : 3 ≤ sizeLine), fun q hqn => ?_⟩
      have hD2 : (upd H' q (.tup [.int o.1, .int o.2.1, .int o.2.2])) D = some (.lst (us.map V.ref)) := upd_ext hqn _ _ hD'
      have tupk : ∀ a xs o', (upd H' q (.tup [.int o.1, .int o.2.1, .int o.2.2])) a = some (.tup xs) → (upd (upd H' q (.tup [.int o.1, .int o.2.1, .int o.2.2])) D o') a = some (.tup xs) := fun a xs o' e => by
        rw [upd_ne (fun z => by rw [z, hD2] at e; cases e)]
        exact e
      refine ⟨_, hD2, ?_, (g.new hqn).turn hDH hD2, ?_, hpay'.ext (fun a xs e => tupk _ _ _ (upd_ext hqn _ _ e)), us ++ [q], ?_, by rw [List.length_append, hul]; rfl, fun j u e => ?_⟩
      · rw [List.length_map, hul]
        exact Nat.lt_trans hil (Nat.lt_of_le_of_lt hol (by decide))
      · have npl : pl1 ≠ D := fun z => by
          rw [z, hD] at e1
          cases e1
        rw [upd_ne npl]
        exact upd_ext hqn _ _ e1'
      · rw [upd_same, List.map_append]
        rfl
      · by_cases hj : j < us.length
        · rw [List.getElem?_append_left hj] at e
          obtain ⟨o', h1, h2⟩ := hus j u e
          exact ⟨o', h1, tupk _ _ _ (upd_ext hqn _ _ h2)⟩
        · rw [List.getElem?_append_right (by omega)] at e
          have ej : j = us.length := by
            have := (List.getElem?_eq_some_iff.mp e).1
            simp at this
            omega
          subst ej
          simp at e
          subst e
          rw [hul]
          exact ⟨o, ho, tupk _ _ _ upd_same⟩
    · obtain ⟨g, e1', hpay', us, hD', hul, hus⟩ := hi
      rw [List.length_map, hpay.1] at hul
      refine .inl ⟨D, us.map V.ref, rfl, .inl (.inl hD'), fun q hqn => ?_⟩
      have g2 := g.new (o := .tup (us.map V.ref)) hqn
      refine ⟨_, rfl, l, _, dxl, _, _, rfl, g2.get hl, cL, kn.noat "Ledger" "periods", rfl, ?_⟩
      refine ⟨_, rfl, b, _, dx, _, _, rfl, g2.get B.obj, cB, kn.noat "Books" "day_number", rfl, _, _, rfl, rfl, _, rfl, (by decide : 2 ≤ sizeLine), fun ph hph => ?_⟩
      refine ⟨(by decide : 1 ≤ sizeLine), fun phs hphs => ⟨(by decide : 2 ≤ sizeLine), fun plan hplan => ?_⟩⟩
      have g3 := g2.new (o := .tup [.int (day + 1), .ref q]) hph
      have g4 := g3.new (o := .tup [.ref ph]) hphs
      have g5 := g4.new (o := .tup [.ref cal, .ref phs]) hplan
      refine hq plan _ g5 ⟨cal, phs, q, upd_same, g5.get hcal, ⟨ph, upd_ext hplan _ _ upd_same, upd_ext hplan _ _ (upd_ext hphs _ _ upd_same)⟩, ⟨us, upd_ext hplan _ _ (upd_ext hphs _ _ (upd_ext hph _ _ upd_same)), Paired.of_at hul fun j u e => ?_⟩⟩
      obtain ⟨o', h1, h2⟩ := hus j u e
      exact ⟨o', h1, upd_ext hplan _ _ (upd_ext hphs _ _ (upd_ext hph _ _ (upd_ext hqn _ _ h2)))⟩
end
end So
end
section
set_option maxHeartbeats 4000000
/-! A ledger: commit, properties. -/
namespace So
open PySem PySem.Spec PyProof.Rows L2 He
/-- a ledger -/
structure LedP (K : PySem.W.Frag) (H : Hp) (l pl dxl cal fl b dx ad dd : Addr) (ps : List Int) (c day : Int) (acc : Option AccE) (os : List Ord) (n : Nat) : Prop where
  obj : H l = some (.ins (ga K "Ledger") dxl (ledF cal b pl fl))
  cal : CalAt H cal ps c
  past : ∃ xs, H pl = some (.lst xs) ∧ xs.length = n
  book : BookP K H b dx ad dd day acc os
theorem LedP.gr0 {K : PySem.W.Frag} {T : Wt} {H H' : Hp} {l pl dxl cal fl b dx ad dd : Addr} {ps : List Int} {c day : Int} {acc : Option AccE} {os : List Ord} {n : Nat} (L : LedP K H l pl dxl cal fl b dx ad dd ps c day acc os n) (g : Gr T H H') : LedP K H' l pl dxl cal fl b dx ad dd ps c day acc os n :=
  ⟨g.get L.obj, g.get L.cal, let ⟨xs, e, h⟩ := L.past; ⟨xs, g.get e, h⟩, L.book.gr0 g⟩
/-- the ledger's own object and its past may change -/
abbrev SL (l pl : Addr) : Addr → Prop := fun a => a = l ∨ a = pl
def spCommit (K : PySem.W.Frag) (T : Wt) : Sp := fun vs H Q _ => ∃ (l dxl cal b pl fl op b' : Addr) (xs : List V), vs = [.ref l, .ref op, .ref b'] ∧ H l = some (.ins (ga K "Ledger") dxl (ledF cal b pl fl)) ∧ H pl = some (.lst xs) ∧ xs.length < 1000 ∧ Tbs T H ∧
  ∀ fl' xs' H', GrB T (SL l pl) H H' → H' l = some (.ins (ga K "Ledger") dxl (ledF cal b' pl fl')) → H' pl = some (.lst xs') → xs'.length = xs.length + 1 → Q .non H'
def spLedGet (K : PySem.W.Frag) (f : Str) : Sp := fun vs H Q _ => ∃ (l dxl : Addr) (fs : List (Str × V)) (v : V), vs = [.ref l] ∧ H l = some (.ins (ga K "Ledger") dxl fs) ∧ fs.lookup f = some v ∧ Q v H
def spToday (K : PySem.W.Frag) : Sp := fun vs H Q _ => ∃ (l dxl cal b pl fl dx ad dd : Addr) (day : Int) (acc : Option AccE) (os : List Ord), vs = [.ref l] ∧ H l = some (.ins (ga K "Ledger") dxl (ledF cal b pl fl)) ∧ BookP K H b dx ad dd day acc os ∧ Q (.int day) H
/-- sorted names: bob alone -/
def spNames (K : PySem.W.Frag) (T : Wt) : Sp := fun vs H Q _ => ∃ (l dxl cal b pl fl dx ad dd : Addr) (day : Int) (e : AccE) (os : List Ord), vs = [.ref l] ∧ H l = some (.ins (ga K "Ledger") dxl (ledF cal b pl fl)) ∧ BookP K H b dx ad dd day (some e) os ∧ Tbs T H ∧
  ∀ p H', Gr T H H' → H p = none → H' p = some (.lst [.str bobS]) → Q (.ref p) H'
section
variable {P : Program} {w : World} {K : PySem.W.Frag} {mg : Str → Option Value} {base : Heap} {T : Wt}
theorem ok_commit (kn : Kn K mg) : Okd P w K mg base CX0 1 (ma K (ga K "Ledger") "commit") ["self", "operation", "books"] (spCommit K T) := by
  refine okd_of kn.m_Ledger_commit sc_Ledger_commit (fun vs H Q E h => ?_) (fun _ _ _ _ _ _ us hl => match us, hl with | [_, _, _], _ => rfl) (fun cdv A outer s H vs Q E hr h => ?_)
  · obtain ⟨l, dxl, cal, b, pl, fl, op, b', xs, rfl, _⟩ := h
    rfl
  · obtain ⟨l, dxl, cal, b, pl, fl, op, b', xs, rfl, hl, hp, hn, tb, hq⟩ := h
    have c := kn.cls "Ledger"
    have nlp : l ≠ pl := fun z => by rw [z, hp] at hl; cases hl
    refine ⟨_, PSs.nox (pss_cons (ps_expr (pe_bm PySem.F.plainAttrs_list PySem.F.slot_list_append PySem.F.type_list_append mt_append (pe_fld (pv 0) rfl) (pa_cons (pe_tup (pa_cons (pv 1) (pa_cons (pe_fld (pv 0) rfl) pa_nil))) pa_nil)))
      (pss_cons (ps_fld (pv 0) (pe_lst pa_nil) rfl)
      (pss_one (ps_fld (pv 0) (pv 2) rfl)))), ?_⟩
    refine ⟨_, rfl, l, _, dxl, _, _, rfl, hl, c, kn.noat "Ledger" "past", rfl, .inl ⟨rfl, _, .inl (.inl hp)⟩, ?_⟩
    refine ⟨_, rfl, _, rfl, l, _, dxl, _, _, rfl, hl, c, kn.noat "Ledger" "books", rfl, (by decide : 2 ≤ sizeLine), fun q hqn => ?_⟩
    have g0 : GrB T (SL l pl) H (upd H q (.tup [.ref op, .ref b])) := (GrB.refl tb).new hqn
    have hp0 := upd_ext (o := .tup [.ref op, .ref b]) hqn _ _ hp
    have hl0 := upd_ext (o := .tup [.ref op, .ref b]) hqn _ _ hl
    refine ⟨pl, xs, _, rfl, rfl, hp0, Nat.lt_trans hn (by decide), ?_⟩
    have g1 : GrB T (SL l pl) H (upd (upd H q (.tup [.ref op, .ref b])) pl (.lst (xs ++ [.ref q]))) := g0.set (.inr rfl) hp0
    have hl1 : (upd (upd H q (.tup [.ref op, .ref b])) pl (.lst (xs ++ [.ref q]))) l = some (.ins (ga K "Ledger") dxl (ledF cal b pl fl)) := by rw [upd_ne nlp]; exact hl0
    have hp1 : (upd (upd H q (.tup [.ref op, .ref b])) pl (.lst (xs ++ [.ref q]))) pl = some (.lst (xs ++ [.ref q])) := upd_same
    generalize (upd (upd H q (.tup [.ref op, .ref b])) pl (.lst (xs ++ [.ref q]))) = H1 at g1 hl1 hp1 ⊢
    refine ⟨Nat.zero_le _, fun fl' hfl => ?_⟩
    have g2 := g1.new (o := .lst []) hfl
    have hl2 := upd_ext (o := .lst []) hfl _ _ hl1
    have hp2 := upd_ext (o := .lst []) hfl _ _ hp1
    refine ⟨_, rfl, l, _, dxl, _, rfl, hl2, c, kn.noat "Ledger" "future", (by decide : 4 < 1000), ?_⟩
    refine ⟨_, rfl, _, rfl, l, _, dxl, _, rfl, upd_same, c, kn.noat "Ledger" "books", (by decide : 4 < 1000), ?_⟩
    rw [upd_upd]
    have g3 := g2.set (o' := .ins (ga K "Ledger") dxl (ledF cal b' pl fl')) (.inl rfl) hl2
    refine hq fl' (xs ++ [.ref q]) _ g3 upd_same ?_ (by rw [List.length_append]; rfl)
    rw [upd_ne (Ne.symm nlp)]
    exact hp2
theorem ok_led_cal (kn : Kn K mg) (kx : Kx K) : Okd P w K mg base CX0 1 (He5.wf K (ga K "Ledger") "property" "ledger_calendar") ["self"] (spLedGet K "periods") := by
  refine okd_of kx.f_cal sc_Ledger_ledger_calendar (fun vs H Q E h => ?_) (fun _ _ _ _ _ _ us hl => match us, hl with | [_], _ => rfl) (fun cdv A outer s H vs Q E hr h => ?_)
  · obtain ⟨l, dxl, fs, v, rfl, _⟩ := h
    rfl
  · obtain ⟨l, dxl, fs, v, rfl, hl, hf, hq⟩ := h
    refine ⟨_, PSs.nox (pss_one (ps_ret (pe_fld (pv 0) rfl))), ?_⟩
    exact ⟨_, rfl, l, _, dxl, _, _, rfl, hl, kn.cls "Ledger", kn.noat "Ledger" "periods", hf, hq⟩
theorem ok_led_today (kn : Kn K mg) (kx : Kx K) : Okd P w K mg base CX0 1 (He5.wf K (ga K "Ledger") "property" "today") ["self"] (spToday K) := by
  refine okd_of kx.f_today sc_Ledger_today (fun vs H Q E h => ?_) (fun _ _ _ _ _ _ us hl => match us, hl with | [_], _ => rfl) (fun cdv A outer s H vs Q E hr h => ?_)
  · obtain ⟨l, dxl, cal, b, pl, fl, dx, ad, dd, day, acc, os, rfl, _⟩ := h
    rfl
  · obtain ⟨l, dxl, cal, b, pl, fl, dx, ad, dd, day, acc, os, rfl, hl, B, hq⟩ := h
    refine ⟨_, PSs.nox (pss_one (ps_ret (pe_fld (pe_fld (pv 0) rfl) rfl))), ?_⟩
    exact ⟨_, rfl, l, _, dxl, _, _, rfl, hl, kn.cls "Ledger", kn.noat "Ledger" "books", rfl, b, _, dx, _, _, rfl, B.obj, kn.cls "Books", kn.noat "Books" "day_number", rfl, hq⟩
theorem ok_led_names (kn : Kn K mg) (kx : Kx K) : Okd P w K mg base CX0 1 (He5.wf K (ga K "Ledger") "property" "names") ["self"] (spNames K T) := by
  refine okd_of kx.f_names sc_Ledger_names (fun vs H Q E h => ?_) (fun _ _ _ _ _ _ us hl => match us, hl with | [_], _ => rfl) (fun cdv A outer s H vs Q E hr h => ?_)
  · obtain ⟨l, dxl, cal, b, pl, fl, dx, ad, dd, day, e, os, rfl, _⟩ := h
    rfl
  · obtain ⟨l, dxl, cal, b, pl, fl, dx, ad, dd, day, ⟨k, lim, bal⟩, os, rfl, hl, B, tb, hq⟩ := h
    obtain ⟨t, h1, h2⟩ := B.acc
    refine ⟨_, PSs.nox (pss_one (ps_ret (pe_callB (call_sortedD rfl) rfl (kn.free "sorted") boot_sorted (pa_cons (pe_fld (pe_fld (pv 0) rfl) rfl) pa_nil)))), ?_⟩
    refine ⟨_, rfl, l, _, dxl, _, _, rfl, hl, kn.cls "Ledger", kn.noat "Ledger" "books", rfl, b, _, dx, _, _, rfl, B.obj, kn.cls "Books", kn.noat "Books" "accounts", rfl, ad, _, [bobS], rfl, .inl h1, rfl, (by decide : 1 < 64), fun ys p hp _ hn => ?_⟩
    have ey : ys = [bobS] := List.perm_singleton.mp hp
    subst ey
    exact hq p _ ((Gr.refl tb).new hn) hn upd_same
end
end So
end
section
set_option maxHeartbeats 4000000
/-! A ledger: its accounts. -/
namespace So
open PySem PySem.Spec PyProof.Rows L2 He
def spAccIn (K : PySem.W.Frag) (T : Wt) : Sp := fun vs H Q _ => ∃ (l dxl cal b0 pl fl b dx ad dd : Addr) (ps : List Int) (c day : Int) (k : Kd) (lim bal : Int) (os : List Ord), vs = [.ref l, .ref b, .str bobS] ∧ H l = some (.ins (ga K "Ledger") dxl (ledF cal b0 pl fl)) ∧ CalAt H cal ps c ∧ BookP K H b dx ad dd day (some (k, lim, bal)) os ∧ AccOk k lim bal ∧ Tbs T H ∧
  ∀ a H', Gr T H H' → AccAt K H' a k bobS lim bal c → Q (.ref a) H'
def spAccount (K : PySem.W.Frag) (T : Wt) : Sp := fun vs H Q _ => ∃ (l dxl cal pl fl b dx ad dd : Addr) (ps : List Int) (c day : Int) (k : Kd) (lim bal : Int) (os : List Ord), vs = [.ref l, .str bobS] ∧ H l = some (.ins (ga K "Ledger") dxl (ledF cal b pl fl)) ∧ CalAt H cal ps c ∧ BookP K H b dx ad dd day (some (k, lim, bal)) os ∧ AccOk k lim bal ∧ Tbs T H ∧
  ∀ a H', Gr T H H' → AccAt K H' a k bobS lim bal c → Q (.ref a) H'
def spVAmount : Sp := fun vs H Q _ => ∃ a l h : Int, vs = [.int a, .int l, .int h] ∧ l ≤ a ∧ a ≤ h ∧ Q .non H
section
variable {P : Program} {w : World} {K : PySem.W.Frag} {mg : Str → Option Value} {base : Heap} {T : Wt}
theorem hu_of {k : Nat} {A : Around} (hr : Room k A) : A.units + 1 < cLine := by have := hr.un; omega
theorem ok_account_in (kn : Kn K mg) (kx : Kx K) : Okd P w K mg base CX0 5 (ma K (ga K "Ledger") "account_in") ["self", "books", "name"] (spAccIn K T) := by
  refine okd_of kn.m_Ledger_account_in sc_Ledger_account_in (fun vs H Q E h => ?_) (fun _ _ _ _ _ _ us hl => match us, hl with | [_, _, _], _ => rfl) (fun cdv A outer s H vs Q E hr h => ?_)
  · obtain ⟨l, dxl, cal, b0, pl, fl, b, dx, ad, dd, ps, c, day, k, lim, bal, os, rfl, _⟩ := h
    rfl
  · obtain ⟨l, dxl, cal, b0, pl, fl, b, dx, ad, dd, ps, c, day, k, lim, bal, os, rfl, hl, hcal, B, hok, tb, hq⟩ := h
    obtain ⟨t, h1, h2⟩ := B.acc
    obtain ⟨fd, F, hb⟩ := ok_made (P := P) (w := w) (base := base) (T := T) kn kx
    have cB := kn.cls "Books"
    have cL := kn.cls "Ledger"
    have hdg : DGet H ad (.str bobS) (some (.ref t)) := DGet.k (k := Sum.inr bobS) h1
    refine ⟨_, PSs.nox (pss_cons (ps_if (pt_cmp (pc_dnotin (hu_of hr) (pv 2) (pe_fld (pv 1) rfl))) (pss_one ps_never) pss_nil)
      (pss_cons (ps_asg (pe_dget (hu_of hr) (pe_fld (pv 1) rfl) (pv 2) (fun _ _ => rfl)) (pg_tup rfl (pgs_cons (pg_name (i := 3) sc_Ledger_account_in.nd rfl (.inl rfl)) (pgs_cons (pg_name (i := 4) sc_Ledger_account_in.nd rfl (.inl rfl)) (pgs_cons (pg_name (i := 5) sc_Ledger_account_in.nd rfl (.inl rfl)) pgs_nil)))))
      (pss_one (ps_ret (pe_cmethK (n := 2) (pgo (kn.glo "Account")) (kx.kind .op).rd kx.made F hb hr pass0 (pa_cons (pv 3) (pa_cons (pv 2) pa_nil)) (pk_cons (pv 4) (pk_cons (pv 5) (pk_cons (pe_ix ix_tup (pe_fld (pv 0) rfl) (pe_un un_neg pe_int) (fun _ _ => rfl)) pk_nil)))))))), ?_⟩
    refine ⟨_, rfl, _, rfl, b, _, dx, _, _, rfl, B.obj, cB, kn.noat "Books" "accounts", rfl, ad, _, rfl, hdg, _, rfl, ?_⟩
    refine ite2 (fun h => by cases h) (fun _ => ?_)
    refine ⟨_, rfl, b, _, dx, _, _, rfl, B.obj, cB, kn.noat "Books" "accounts", rfl, _, rfl, ad, _, rfl, hdg, t, _, rfl, .inl (.inl h2), rfl, _, _, rfl, _, _, rfl, _, _, rfl, rfl, ?_⟩
    have hat : atI ((ps ++ [c]).map V.int) (-1) = some (.int c) := by rw [List.map_append]; exact atI_last _ _
    refine ⟨rfl, _, rfl, _, rfl, _, rfl, _, rfl, _, rfl, l, _, dxl, _, _, rfl, hl, cL, kn.noat "Ledger" "periods", rfl, _, rfl, cal, _, _, _, rfl, rfl, .inl (.inl hcal), hat, rfl, rfl, k, lim, bal, c, rfl, hok, tb, fun a H' g ha => hq a H' g ha⟩
theorem ok_account (kn : Kn K mg) (kx : Kx K) : Okd P w K mg base CX0 6 (ma K (ga K "Ledger") "account") ["self", "name"] (spAccount K T) := by
  refine okd_of kn.m_Ledger_account sc_Ledger_account (fun vs H Q E h => ?_) (fun _ _ _ _ _ _ us hl => match us, hl with | [_, _], _ => rfl) (fun cdv A outer s H vs Q E hr h => ?_)
  · obtain ⟨l, dxl, cal, pl, fl, b, dx, ad, dd, ps, c, day, k, lim, bal, os, rfl, _⟩ := h
    rfl
  · obtain ⟨l, dxl, cal, pl, fl, b, dx, ad, dd, ps, c, day, k, lim, bal, os, rfl, hl, hcal, B, hok, tb, hq⟩ := h
    refine ⟨_, PSs.nox (pss_one (ps_ret (pm (ok_account_in (T := T) kn kx) (kn.cls "Ledger") (kn.meth "Ledger" "account_in") hr pass0 (pv 0) (pa_cons (pe_fld (pv 0) rfl) (pa_cons (pv 1) pa_nil))))), ?_⟩
    exact ⟨_, rfl, l, dxl, _, rfl, hl, rfl, _, rfl, l, _, dxl, _, _, rfl, hl, kn.cls "Ledger", kn.noat "Ledger" "books", rfl, _, rfl, l, dxl, cal, b, pl, fl, b, dx, ad, dd, ps, c, day, k, lim, bal, os, rfl, hl, hcal, B, hok, tb, hq⟩
theorem ok_validate_amount (kn : Kn K mg) : Okd P w K mg base CX0 3 (ga K "validate_amount") ["amount", "low", "high"] spVAmount := by
  refine okd_of kn.f_validate_amount sc_validate_amount (fun vs H Q E h => ?_) (fun _ _ _ _ _ _ us hl => match us, hl with | [_, _, _], _ => rfl) (fun cdv A outer s H vs Q E hr h => ?_)
  · obtain ⟨a, l, u, rfl, _⟩ := h
    rfl
  · obtain ⟨a, l, u, rfl, h1, h2, hq⟩ := h
    refine ⟨_, PSs.nox (pss_one (ps_if (pt_not (pt_val (pf (ok_is_amount kn) hr (kn.glo "is_amount") pass0 (pa_cons (pv 0) (pa_cons (pv 1) (pa_cons (pv 2) pa_nil)))))) (pss_one ps_never) pss_nil)), ?_⟩
    refine ⟨_, rfl, _, rfl, _, rfl, a, l, u, rfl, _, rfl, ?_⟩
    rw [decide_eq_true (show l ≤ a ∧ a ≤ u from ⟨h1, h2⟩)]
    refine ite2 (fun h => by cases h) (fun _ => ?_)
    exact hq
end
end So
end
section
set_option maxHeartbeats 4000000
/-! A ledger: made, an account opened. -/
namespace So
open PySem PySem.Spec PyProof.Rows L2 He
/-- changes at new things, or at what may change -/
theorem GrB.andThen {T : Wt} {S S' : Addr → Prop} {H H1 H2 : Hp} (g : GrB T S H H1) (h : GrB T S' H1 H2) (hn : ∀ b, S' b → H b = none ∨ S b) : GrB T S H H2 :=
  ⟨fun b o e ns n => h.1 b o (g.1 b o e ns n) (fun z => (hn b z).elim (fun q => by rw [q] at e; cases e) ns) n, h.2, fun b o e => let ⟨o', e'⟩ := g.3 b o e; h.3 b o' e'⟩
def spOpenBooks (K : PySem.W.Frag) (T : Wt) : Sp := fun vs H Q _ => ∃ (l dxl cal b0 pl fl b dx ad dd : Addr) (ps : List Int) (c day : Int) (k : Kd) (lim bal : Int) (os : List Ord), vs = [.ref l, .ref b, .str bobS, .str k.str, .int lim, .int bal] ∧ H l = some (.ins (ga K "Ledger") dxl (ledF cal b0 pl fl)) ∧ CalAt H cal ps c ∧ BookP K H b dx ad dd day none os ∧ AccOk k lim bal ∧
  (-1000000000000000000 ≤ bal ∧ bal ≤ 1000000000000000000) ∧ Tbs T H ∧ ∀ H', GrB T (fun a => a = ad) H H' → BookP K H' b dx ad dd day (some (k, lim, bal)) os → Q .non H'
def spOpenAcc (K : PySem.W.Frag) (T : Wt) : Sp := fun vs H Q _ => ∃ (l pl dxl cal fl b dx ad dd : Addr) (ps : List Int) (c day : Int) (k : Kd) (lim bal : Int) (os : List Ord) (n : Nat), vs = [.ref l, .str bobS, .str k.str, .int lim, .int bal] ∧ LedP K H l pl dxl cal fl b dx ad dd ps c day none os n ∧ n < 1000 ∧ AccOk k lim bal ∧
  (-1000000000000000000 ≤ bal ∧ bal ≤ 1000000000000000000) ∧ Tbs T H ∧ ∀ fl' b' dx' ad' dd' H', GrB T (SL l pl) H H' → LedP K H' l pl dxl cal fl' b' dx' ad' dd' ps c day (some (k, lim, bal)) os (n + 1) → Q .non H'
section
variable {P : Program} {w : World} {K : PySem.W.Frag} {mg : Str → Option Value} {base : Heap} {T : Wt}
theorem ok_open_books (kn : Kn K mg) (kx : Kx K) : Okd P w K mg base CX0 5 (ma K (ga K "Ledger") "open_books") ["self", "books", "name", "kind", "limit", "balance"] (spOpenBooks K T) := by
  refine okd_of kn.m_Ledger_open_books sc_Ledger_open_books (fun vs H Q E h => ?_) (fun _ _ _ _ _ _ us hl => match us, hl with | [_, _, _, _, _, _], _ => rfl) (fun cdv A outer s H vs Q E hr h => ?_)
  · obtain ⟨l, dxl, cal, b0, pl, fl, b, dx, ad, dd, ps, c, day, k, lim, bal, os, rfl, _⟩ := h
    rfl
  · obtain ⟨l, dxl, cal, b0, pl, fl, b, dx, ad, dd, ps, c, day, k, lim, bal, os, rfl, hl, hcal, B, hok, ⟨b1, b2⟩, tb, hq⟩ := h
    obtain ⟨fd, F, hb⟩ := ok_made (P := P) (w := w) (base := base) (T := T) kn kx
    have cB := kn.cls "Books"
    have cL := kn.cls "Ledger"
    have ha : H ad = some (.dK []) := B.acc
    refine ⟨_, PSs.nox (pss_cons (ps_if (pt_cmpR op_eq (pe_callB call_lenD rfl (kn.free "len") boot_len (pa_cons (pe_fld (pv 1) rfl) pa_nil)) (pe_gi (kn.int "MAX_ACCOUNTS" 20)) (nomark _)) (pss_one ps_never) pss_nil)
      (pss_cons (ps_if (pt_cmp (pc_din (hu_of hr) (pv 2) (pe_fld (pv 1) rfl))) (pss_one ps_never) pss_nil)
      (pss_cons (ps_try_thru0 (pss_one (ps_expr (pe_cmethK (n := 2) (pgo (kn.glo "Account")) (kx.kind .op).rd kx.made F hb hr pass0 (pa_cons (pv 3) (pa_cons (pv 2) pa_nil)) (pk_cons (pv 4) (pk_cons (pv 5) (pk_cons (pe_ix ix_tup (pe_fld (pv 0) rfl) (pe_un un_neg pe_int) (fun _ _ => rfl)) pk_nil)))))))
      (pss_cons (ps_expr (pf (ok_validate_amount kn) (hr.mono (by decide)) (kn.glo "validate_amount") pass0 (pa_cons (pv 5) (pa_cons (pe_op op_sub pe_int (pe_gi (kn.int "MAX_AMOUNT" 1000000000000000000))) (pa_cons (pe_gi (kn.int "MAX_AMOUNT" 1000000000000000000)) pa_nil)))))
      (pss_one (ps_dput (hu_of hr) (pe_fld (pv 1) rfl) (pv 2) (pe_tup (pa_cons (pv 3) (pa_cons (pv 4) (pa_cons (pv 5) pa_nil)))) rfl)))))), ?_⟩
    refine ⟨_, rfl, b, _, dx, _, _, rfl, B.obj, cB, kn.noat "Books" "accounts", rfl, ad, [], rfl, ha, rfl, _, rfl, ?_⟩
    refine ite2 (fun h => by cases h) (fun _ => ?_)
    refine ⟨_, rfl, _, rfl, b, _, dx, _, _, rfl, B.obj, cB, kn.noat "Books" "accounts", rfl, ad, none, rfl, DGet.k (k := Sum.inr bobS) ha, _, rfl, ?_⟩
    refine ite2 (fun h => by cases h) (fun _ => ?_)
    have hat : atI ((ps ++ [c]).map V.int) (-1) = some (.int c) := by rw [List.map_append]; exact atI_last _ _
    refine ⟨rfl, _, rfl, _, rfl, _, rfl, _, rfl, _, rfl, l, _, dxl, _, _, rfl, hl, cL, kn.noat "Ledger" "periods", rfl, _, rfl, cal, _, _, _, rfl, rfl, .inl (.inl hcal), hat, rfl, rfl, k, lim, bal, c, rfl, hok, tb, fun a H1 g1 _ => ?_⟩
    refine ⟨_, rfl, _, _, rfl, rfl, bal, _, _, rfl, by omega, b2, ?_⟩
    refine ⟨_, rfl, _, rfl, _, rfl, (by decide : 3 ≤ sizeLine), fun t ht => ?_⟩
    have g2 := g1.new (o := .tup [.str k.str, .int lim, .int bal]) ht
    have ha2 := g2.get ha
    have hob := g2.get B.obj
    refine ⟨_, rfl, b, _, dx, _, _, rfl, hob, cB, kn.noat "Books" "accounts", rfl, _, rfl, ad, _, rfl, DPut.k (k := Sum.inr bobS) ha2 (by decide), ?_⟩
    have g3 : GrB T (fun a => a = ad) H (upd (upd H1 t (.tup [.str k.str, .int lim, .int bal])) ad (.dK (putK [] (Sum.inr bobS) (.ref t)))) := (Gr.to (S := fun a => a = ad) g2).set rfl ha2
    have nba : b ≠ ad := fun z => by
      have e1 := B.obj
      rw [z, ha] at e1
      cases e1
    obtain ⟨ts, hd1, hd2⟩ := B.due
    have tupk : ∀ a xs, (upd H1 t (.tup [.str k.str, .int lim, .int bal])) a = some (.tup xs) → (upd (upd H1 t (.tup [.str k.str, .int lim, .int bal])) ad (.dK (putK [] (Sum.inr bobS) (.ref t)))) a = some (.tup xs) := fun a xs e => by
      rw [upd_ne (fun z => by rw [z, ha2] at e; cases e)]
      exact e
    exact hq _ g3 ⟨by rw [upd_ne nba]; exact hob, ⟨t, upd_same, tupk _ _ upd_same⟩, ⟨ts, by rw [upd_ne (Ne.symm B.ne)]; exact g2.get hd1, Paired.mapP hd2 fun u o e => tupk _ _ (g2.get e)⟩, B.ne⟩
theorem ok_open_account (kn : Kn K mg) (kx : Kx K) : Okd P w K mg base CX0 6 (ma K (ga K "Ledger") "open_account") ["self", "name", "kind", "limit", "balance"] (spOpenAcc K T) := by
  refine okd_of kn.m_Ledger_open_account sc_Ledger_open_account (fun vs H Q E h => ?_) (fun _ _ _ _ _ _ us hl => match us, hl with | [_, _, _, _, _], _ => rfl) (fun cdv A outer s H vs Q E hr h => ?_)
  · obtain ⟨l, pl, dxl, cal, fl, b, dx, ad, dd, ps, c, day, k, lim, bal, os, n, rfl, _⟩ := h
    rfl
  · obtain ⟨l, pl, dxl, cal, fl, b, dx, ad, dd, ps, c, day, k, lim, bal, os, n, rfl, L, hn, hok, hbd, tb, hq⟩ := h
    have cL := kn.cls "Ledger"
    obtain ⟨xs, hp, hxs⟩ := L.past
    refine ⟨_, PSs.nox (pss_cons (ps_set (i := 5) sc_Ledger_open_account.nd rfl (.inl rfl) (pm0 (ok_copied (T := T) kn) (kn.cls "Books") (kn.meth "Books" "copied") (hr.mono (by decide)) pass0 (pe_fld (pv 0) rfl)))
      (pss_cons (ps_expr (pm (ok_open_books (T := T) kn kx) (kn.cls "Ledger") (kn.meth "Ledger" "open_books") hr pass0 (pv 0) (pa_cons (pv 5) (pa_cons (pv 1) (pa_cons (pv 2) (pa_cons (pv 3) (pa_cons (pv 4) pa_nil)))))))
      (pss_one (ps_expr (pm (ok_commit (T := T) kn) (kn.cls "Ledger") (kn.meth "Ledger" "commit") (hr.mono (by decide)) pass0 (pv 0) (pa_cons (pe_tup (pa_cons pe_str (pa_cons (pv 1) (pa_cons (pv 2) (pa_cons (pv 3) (pa_cons (pv 4) pa_nil)))))) (pa_cons (pv 5) pa_nil))))))), ?_⟩
    refine ⟨_, rfl, l, _, dxl, _, _, rfl, L.obj, cL, kn.noat "Ledger" "books", rfl, b, dx, _, rfl, L.book.obj, rfl, b, dx, ad, dd, day, none, os, rfl, L.book, tb, fun b' dx' ad' dd' H1 g1 nb na nd B1 => ?_⟩
    have L1 := L.gr0 g1
    refine ⟨_, rfl, l, dxl, _, rfl, L1.obj, rfl, _, rfl, _, rfl, _, rfl, _, rfl, _, rfl, l, dxl, cal, b, pl, fl, b', dx', ad', dd', ps, c, day, k, lim, bal, os, rfl, L1.obj, L1.cal, B1, hok, hbd, g1.tb, fun H2 g2 B2 => ?_⟩
    have lne : ∀ {a o}, H a = some o → a ≠ ad' := fun {a o} e z => by rw [z, na] at e; cases e
    have g12 : GrB T (SL l pl) H H2 := (g1.to (S := SL l pl)).andThen g2 fun a h => .inl (by rw [h]; exact na)
    have hl2 : H2 l = some (.ins (ga K "Ledger") dxl (ledF cal b pl fl)) := g2.at L1.obj (lne L.obj)
    have hp2 : H2 pl = some (.lst xs) := g2.at (g1.get hp) (lne hp)
    have hc2 : CalAt H2 cal ps c := g2.at L1.cal (lne L.cal)
    refine ⟨_, rfl, l, dxl, _, rfl, hl2, rfl, _, rfl, _, rfl, _, rfl, _, rfl, (by decide : 5 ≤ sizeLine), fun q hqn => ?_⟩
    have g3 : Gr T H2 (upd H2 q (.tup [.str "open_account", .str bobS, .str k.str, .int lim, .int bal])) := (Gr.refl g2.tb).new hqn
    refine ⟨_, rfl, l, dxl, cal, b, pl, fl, q, b', xs, rfl, g3.get hl2, g3.get hp2, by omega, g3.tb, fun fl' xs' H4 g4 e1 e2 e3 => ?_⟩
    have nl : ∀ {a}, H a = none → ¬ SL l pl a := fun {a} h z => by
      rcases z with z | z
      · rw [z, L.obj] at h; cases h
      · rw [z, hp] at h; cases h
    have tupn : ∀ (t : Addr) xs', (upd H2 q (.tup [.str "open_account", .str bobS, .str k.str, .int lim, .int bal])) t = some (.tup xs') → ¬ SL l pl t := fun t ys e z => by
      rcases z with z | z
      · rw [z, g3.get hl2] at e; cases e
      · rw [z, g3.get hp2] at e; cases e
    have g14 : GrB T (SL l pl) H H4 := (g12.trans g3.to).trans g4
    refine hq fl' b' dx' ad' dd' H4 g14 ⟨e1, g4.at (g3.get hc2) (tupn _ _ (g3.get hc2)), ⟨xs', e2, by rw [e3, hxs]⟩, (B2.gr0 g3).gr g4 (nl nb) (nl na) (nl nd) tupn⟩
end
end So
end
section
set_option maxHeartbeats 4000000
/-! A ledger is made. -/
namespace So
open PySem PySem.Spec PyProof.Rows L2 He
def spLedInit (K : PySem.W.Frag) (T : Wt) : Sp := fun vs H Q _ => ∃ (p dx cal : Addr) (ps : List Int) (c day : Int), vs = [.ref p, .ref cal, .int day] ∧ H p = some (.ins (ga K "Ledger") dx []) ∧ CalAt H cal ps c ∧ CalOk (ps ++ [c]) ∧ Tbs T H ∧
  ∀ pl fl b dxb ad dd H', GrB T (fun a => a = p) H H' → H pl = none → H b = none → LedP K H' p pl dx cal fl b dxb ad dd ps c day none [] 0 → Q .non H'
def spVItem : Sp := fun vs H Q _ => ∃ (a : V) (am : Int), vs = [a, .int 1, .int am] ∧ -1000000000000000000 ≤ am ∧ am ≤ 1000000000000000000 ∧ am ≠ 0 ∧ Q .non H
section
variable {P : Program} {w : World} {K : PySem.W.Frag} {mg : Str → Option Value} {base : Heap} {T : Wt}
theorem ok_led_init (kn : Kn K mg) (kx : Kx K) : ∃ fd, FnOk P w K mg base CX0 3 (ma K (ga K "Ledger") "__init__") fd ["self", "calendar", "day"] (spLedInit K T) ∧ KBn K fd ["self", "calendar", "day"] 2 ["day"] (fun us ws => us ++ ws) (fun vs zs => vs ++ zs) := by
  obtain ⟨fd, F⟩ := kx.f_ledInit
  refine ⟨fd, F.ok sc_Ledger___init__ (fun vs H Q E h => ?_) (fun cdv A outer s H vs Q E hr h => ?_), ?_⟩
  · obtain ⟨p, dx, cal, ps, c, day, rfl, _⟩ := h
    rfl
  · obtain ⟨p, dx, cal, ps, c, day, rfl, hp, hcal, hok, tb, hq⟩ := h
    have cL := kn.cls "Ledger"
    refine ⟨_, PSs.nox (pss_cons (ps_expr (pf (ok_validate_calendar (T := T) kn) (hr.mono (by decide)) (kn.glo "validate_calendar") pass0 (pa_cons (pv 1) pa_nil)))
      (pss_cons (ps_fld (pv 0) (pv 1) rfl)
      (pss_cons (ps_fld (pv 0) (pmk (kn.mkr "Books") (ok_Books_init kn) (hr.mono (by decide)) (kn.glo "Books") pass0 (pa_cons (pv 2) (pa_cons pe_dnewK (pa_cons pe_dnewK (pa_cons pe_int pa_nil))))) rfl)
      (pss_cons (ps_fld (pv 0) (pe_lst pa_nil) rfl)
      (pss_one (ps_fld (pv 0) (pe_lst pa_nil) rfl)))))), ?_⟩
    refine ⟨_, rfl, cal, _, rfl, hcal, hok, tb, fun H1 g1 => ?_⟩
    have hp1 := g1.get hp
    refine ⟨_, rfl, _, rfl, p, _, dx, _, rfl, hp1, cL, kn.noat "Ledger" "periods", by decide, ?_⟩
    have g2 : GrB T (fun a => a = p) H (upd H1 p (.ins (ga K "Ledger") dx [(("periods" : Str), .ref cal)])) := (Gr.to (S := fun a => a = p) g1).set rfl hp1
    refine ⟨_, rfl, fun ad had => fun dd hdd => fun b dxb hb hdxb hne => ?_⟩
    refine ⟨b, dxb, ad, dd, day, 1, rfl, upd_same, rfl, ?_⟩
    rw [upd_upd]
    have hcal2 : (upd H1 p (.ins (ga K "Ledger") dx [(("periods" : Str), .ref cal)])) cal = some (.tup ((ps ++ [c]).map V.int)) := by
      rw [upd_ne (fun z => by have e := g1.get hcal; rw [z, hp1] at e; cases e)]
      exact g1.get hcal
    have hp2 : (upd H1 p (.ins (ga K "Ledger") dx [(("periods" : Str), .ref cal)])) p = some (.ins (ga K "Ledger") dx [(("periods" : Str), .ref cal)]) := upd_same
    rw [show putF ("periods" : Str) (V.ref cal) [] = [(("periods" : Str), V.ref cal)] from rfl] at had hdd hb hdxb ⊢
    generalize (upd H1 p (.ins (ga K "Ledger") dx [(("periods" : Str), .ref cal)])) = H2 at g2 hcal2 hp2 had hdd hb hdxb ⊢
    have nad : ad ≠ dd := fun z => by rw [← z, upd_same] at hdd; cases hdd
    have g3 := g2.new (o := .dK []) had
    have g4 := g3.new (o := .dK []) hdd
    have g5 := g4.new (o := .own b) hdxb
    have hb' : upd (upd (upd H2 ad (.dK [])) dd (.dK [])) dxb (.own b) b = none := by rw [upd_ne (Ne.symm hne)]; exact hb
    have g6 := g5.new (o := .ins (ga K "Books") dxb (bookF day ad dd 1)) hb'
    have k0 : ∀ a o, H2 a = some o → upd (upd (upd (upd H2 ad (.dK [])) dd (.dK [])) dxb (.own b)) b (.ins (ga K "Books") dxb (bookF day ad dd 1)) a = some o := fun a o e => upd_ext hb' _ _ (upd_ext hdxb _ _ (upd_ext hdd _ _ (upd_ext had _ _ e)))
    have had6 : upd (upd (upd (upd H2 ad (.dK [])) dd (.dK [])) dxb (.own b)) b (.ins (ga K "Books") dxb (bookF day ad dd 1)) ad = some (.dK []) := upd_ext hb' _ _ (upd_ext hdxb _ _ (upd_ext hdd _ _ upd_same))
    have hdd6 : upd (upd (upd (upd H2 ad (.dK [])) dd (.dK [])) dxb (.own b)) b (.ins (ga K "Books") dxb (bookF day ad dd 1)) dd = some (.dK []) := upd_ext hb' _ _ (upd_ext hdxb _ _ upd_same)
    have hbn : H b = none := g4.nn hb
    have hb6 : upd (upd (upd (upd H2 ad (.dK [])) dd (.dK [])) dxb (.own b)) b (.ins (ga K "Books") dxb (bookF day ad dd 1)) b = some (.ins (ga K "Books") dxb (bookF day ad dd 1)) := upd_same
    have hp6 := k0 _ _ hp2
    have hc6 := k0 _ _ hcal2
    have nbp : b ≠ p := fun z => by rw [z, hp] at hbn; cases hbn
    have stp : ∀ (fs : List (Str × V)) a o, (upd (upd (upd (upd H2 ad (.dK [])) dd (.dK [])) dxb (.own b)) b (.ins (ga K "Books") dxb (bookF day ad dd 1))) a = some o → a ≠ p → upd (upd (upd (upd (upd H2 ad (.dK [])) dd (.dK [])) dxb (.own b)) b (.ins (ga K "Books") dxb (bookF day ad dd 1))) p (.ins (ga K "Ledger") dx fs) a = some o := fun fs a o e n => by rw [upd_ne n]; exact e
    have np : ∀ {a o}, (upd (upd (upd (upd H2 ad (.dK [])) dd (.dK [])) dxb (.own b)) b (.ins (ga K "Books") dxb (bookF day ad dd 1))) a = some o → (∀ C d fs, o ≠ .ins C d fs) → a ≠ p := fun {a o} e n z => by
      rw [z, hp6] at e
      exact n _ _ _ (Option.some.inj e).symm
    refine ⟨_, rfl, p, _, dx, _, rfl, hp6, cL, kn.noat "Ledger" "books", (by decide : 1 < 1000), ?_⟩
    have g7 : GrB T (fun a => a = p) H (upd (upd (upd (upd (upd H2 ad (.dK [])) dd (.dK [])) dxb (.own b)) b (.ins (ga K "Books") dxb (bookF day ad dd 1))) p (.ins (ga K "Ledger") dx [(("periods" : Str), .ref cal), (("books" : Str), .ref b)])) := g6.set rfl hp6
    have had7 := stp [(("periods" : Str), .ref cal), (("books" : Str), .ref b)] _ _ had6 (np had6 fun _ _ _ z => by cases z)
    have hdd7 := stp [(("periods" : Str), .ref cal), (("books" : Str), .ref b)] _ _ hdd6 (np hdd6 fun _ _ _ z => by cases z)
    have hb7 := stp [(("periods" : Str), .ref cal), (("books" : Str), .ref b)] _ _ hb6 nbp
    have hc7 := stp [(("periods" : Str), .ref cal), (("books" : Str), .ref b)] _ _ hc6 (np hc6 fun _ _ _ z => by cases z)
    rw [show putF ("books" : Str) (V.ref b) [(("periods" : Str), V.ref cal)] = [(("periods" : Str), V.ref cal), (("books" : Str), V.ref b)] from rfl]
    refine ⟨Nat.zero_le _, fun pl hpl => ⟨_, rfl, p, _, dx, _, rfl, upd_ext hpl _ _ upd_same, cL, kn.noat "Ledger" "past", (by decide : 2 < 1000), ?_⟩⟩
    have g8 := g7.new (o := .lst []) hpl
    have hpln : H pl = none := g7.nn hpl
    have e8 : upd (upd (upd (upd (upd (upd H2 ad (.dK [])) dd (.dK [])) dxb (.own b)) b (.ins (ga K "Books") dxb (bookF day ad dd 1))) p (.ins (ga K "Ledger") dx [(("periods" : Str), .ref cal), (("books" : Str), .ref b)])) pl (.lst []) p = some (.ins (ga K "Ledger") dx [(("periods" : Str), .ref cal), (("books" : Str), .ref b)]) := upd_ext hpl _ _ upd_same
    have had8 := upd_ext (o := .lst []) hpl _ _ had7
    have hdd8 := upd_ext (o := .lst []) hpl _ _ hdd7
    have hb8 := upd_ext (o := .lst []) hpl _ _ hb7
    have hc8 := upd_ext (o := .lst []) hpl _ _ hc7
    have hpl8 : upd (upd (upd (upd (upd (upd H2 ad (.dK [])) dd (.dK [])) dxb (.own b)) b (.ins (ga K "Books") dxb (bookF day ad dd 1))) p (.ins (ga K "Ledger") dx [(("periods" : Str), .ref cal), (("books" : Str), .ref b)])) pl (.lst []) pl = some (.lst []) := upd_same
    have npp : pl ≠ p := fun z => by rw [z, upd_same] at hpl; cases hpl
    have np8 : ∀ {a o}, (upd (upd (upd (upd (upd (upd H2 ad (.dK [])) dd (.dK [])) dxb (.own b)) b (.ins (ga K "Books") dxb (bookF day ad dd 1))) p (.ins (ga K "Ledger") dx [(("periods" : Str), .ref cal), (("books" : Str), .ref b)])) pl (.lst [])) a = some o → (∀ C d fs, o ≠ .ins C d fs) → a ≠ p := fun {a o} e n z => by
      rw [z, e8] at e
      exact n _ _ _ (Option.some.inj e).symm
    have g9 : GrB T (fun a => a = p) H (upd (upd (upd (upd (upd (upd (upd H2 ad (.dK [])) dd (.dK [])) dxb (.own b)) b (.ins (ga K "Books") dxb (bookF day ad dd 1))) p (.ins (ga K "Ledger") dx [(("periods" : Str), .ref cal), (("books" : Str), .ref b)])) pl (.lst [])) p (.ins (ga K "Ledger") dx [(("periods" : Str), .ref cal), (("books" : Str), .ref b), (("past" : Str), .ref pl)])) := g8.set rfl e8
    have s9 : ∀ a o, (upd (upd (upd (upd (upd (upd H2 ad (.dK [])) dd (.dK [])) dxb (.own b)) b (.ins (ga K "Books") dxb (bookF day ad dd 1))) p (.ins (ga K "Ledger") dx [(("periods" : Str), .ref cal), (("books" : Str), .ref b)])) pl (.lst [])) a = some o → a ≠ p → upd (upd (upd (upd (upd (upd (upd H2 ad (.dK [])) dd (.dK [])) dxb (.own b)) b (.ins (ga K "Books") dxb (bookF day ad dd 1))) p (.ins (ga K "Ledger") dx [(("periods" : Str), .ref cal), (("books" : Str), .ref b)])) pl (.lst [])) p (.ins (ga K "Ledger") dx [(("periods" : Str), .ref cal), (("books" : Str), .ref b), (("past" : Str), .ref pl)]) a = some o := fun a o e n => by rw [upd_ne n]; exact e
    rw [show putF ("past" : Str) (V.ref pl) [(("periods" : Str), V.ref cal), (("books" : Str), V.ref b)] = [(("periods" : Str), V.ref cal), (("books" : Str), V.ref b), (("past" : Str), V.ref pl)] from rfl]
    refine ⟨Nat.zero_le _, fun fl hfl => ⟨_, rfl, p, _, dx, _, rfl, upd_ext hfl _ _ upd_same, cL, kn.noat "Ledger" "future", (by decide : 3 < 1000), ?_⟩⟩
    have g10 := g9.new (o := .lst []) hfl
    have e10 : upd (upd (upd (upd (upd (upd (upd (upd H2 ad (.dK [])) dd (.dK [])) dxb (.own b)) b (.ins (ga K "Books") dxb (bookF day ad dd 1))) p (.ins (ga K "Ledger") dx [(("periods" : Str), .ref cal), (("books" : Str), .ref b)])) pl (.lst [])) p (.ins (ga K "Ledger") dx [(("periods" : Str), .ref cal), (("books" : Str), .ref b), (("past" : Str), .ref pl)])) fl (.lst []) p = some (.ins (ga K "Ledger") dx [(("periods" : Str), .ref cal), (("books" : Str), .ref b), (("past" : Str), .ref pl)]) := upd_ext hfl _ _ upd_same
    have g11 := g10.set (o' := .ins (ga K "Ledger") dx (ledF cal b pl fl)) rfl e10
    have fin : ∀ a o, (upd (upd (upd (upd (upd (upd H2 ad (.dK [])) dd (.dK [])) dxb (.own b)) b (.ins (ga K "Books") dxb (bookF day ad dd 1))) p (.ins (ga K "Ledger") dx [(("periods" : Str), .ref cal), (("books" : Str), .ref b)])) pl (.lst [])) a = some o → a ≠ p → upd (upd (upd (upd (upd (upd (upd (upd (upd H2 ad (.dK [])) dd (.dK [])) dxb (.own b)) b (.ins (ga K "Books") dxb (bookF day ad dd 1))) p (.ins (ga K "Ledger") dx [(("periods" : Str), .ref cal), (("books" : Str), .ref b)])) pl (.lst [])) p (.ins (ga K "Ledger") dx [(("periods" : Str), .ref cal), (("books" : Str), .ref b), (("past" : Str), .ref pl)])) fl (.lst [])) p (.ins (ga K "Ledger") dx (ledF cal b pl fl)) a = some o := fun a o e n => by
      rw [upd_ne n]
      exact upd_ext hfl _ _ (s9 a o e n)
    exact hq pl fl b dxb ad dd _ g11 hpln hbn ⟨upd_same, fin _ _ hc8 (np8 hc8 fun _ _ _ z => by cases z), ⟨[], fin _ _ hpl8 npp, rfl⟩, ⟨fin _ _ hb8 nbp, fin _ _ had8 (np8 had8 fun _ _ _ z => by cases z), ⟨[], fin _ _ hdd8 (np8 hdd8 fun _ _ _ z => by cases z), .nil⟩, nad⟩⟩
  · obtain ⟨mv, h⟩ := F.kbinds0 (ps := ["self", "calendar", "day"]) 2 ["day"] [] (fun vs _ zs => vs ++ zs) (by simp) (fun q hq => by cases hq) (fun r1 _ r3 => r1.append r3) (fun D doc pm an cdv ct us mv ws l1 l2 l3 => by
      match us, l1, ws, l3 with
      | [_, _], _, [_], _ => rfl)
    exact h
theorem ok_validate_item (kn : Kn K mg) : Okd P w K mg base CX0 4 (ma K (ga K "Ledger") "validate_item") ["self", "parties", "amount"] spVItem := by
  refine okd_of kn.m_Ledger_validate_item sc_Ledger_validate_item (fun vs H Q E h => ?_) (fun _ _ _ _ _ _ us hl => match us, hl with | [_, _, _], _ => rfl) (fun cdv A outer s H vs Q E hr h => ?_)
  · obtain ⟨a, am, rfl, _⟩ := h
    rfl
  · obtain ⟨a, am, rfl, h1, h2, h3, hq⟩ := h
    refine ⟨_, PSs.nox (pss_cons (ps_expr (pf (ok_validate_amount kn) hr (kn.glo "validate_amount") pass0 (pa_cons (pv 2) (pa_cons (pe_ifExp (pt_cmpR op_eq (pv 1) pe_int (nomark _)) pe_int (pe_op op_sub pe_int (pe_gi (kn.int "MAX_AMOUNT" 1000000000000000000)))) (pa_cons (pe_gi (kn.int "MAX_AMOUNT" 1000000000000000000)) pa_nil)))))
      (pss_one (ps_if (pt_cmpR op_eq (pv 2) pe_int (nomark _)) (pss_one ps_never) pss_nil))), ?_⟩
    refine ⟨_, rfl, _, rfl, rfl, _, rfl, ?_⟩
    refine ite2 (fun h => by cases h) (fun _ => ?_)
    refine ⟨_, _, rfl, rfl, am, _, _, rfl, by omega, h2, ?_⟩
    refine ⟨_, rfl, rfl, _, rfl, ?_⟩
    refine ite2 (fun h => ?_) (fun _ => hq)
    exact absurd (V.int.inj (of_decide_eq_true h)) h3
end
end So
end
section
set_option maxHeartbeats 4000000
/-! An order is added. -/
namespace So
open PySem PySem.Spec PyProof.Rows L2 He
def spAddItem (K : PySem.W.Frag) (T : Wt) : Sp := fun vs H Q _ => ∃ (l dxl cal b0 pl fl b dx ad dd pt : Addr) (ps : List Int) (c day : Int) (k : Kd) (lim bal : Int) (os : List Ord) (o : Ord), vs = [.ref l, .ref b, .ref pt] ∧ H pt = some (.tup [.str bobS, .int o.1, .int o.2.1, .int o.2.2]) ∧ H l = some (.ins (ga K "Ledger") dxl (ledF cal b0 pl fl)) ∧ CalAt H cal ps c ∧ CalOk (ps ++ [c]) ∧
  BookP K H b dx ad dd day (some (k, lim, bal)) os ∧ AccOk k lim bal ∧ OrdV (ps ++ [c]) o ∧ os.length < 60 ∧ (∀ o ∈ os, -1000 ≤ o.2.2 ∧ o.2.2 ≤ 1000) ∧ Tbs T H ∧ ∀ H', GrB T (fun a => a = b ∨ a = dd) H H' → BookP K H' b dx ad dd day (some (k, lim, bal)) (os ++ [o]) → Q (.int ((os.length : Int) + 1)) H'
section
variable {P : Program} {w : World} {K : PySem.W.Frag} {mg : Str → Option Value} {base : Heap} {T : Wt}
theorem ok_add_item (kn : Kn K mg) (kx : Kx K) : Okd P w K mg base CX0 6 (ma K (ga K "Ledger") "add_item") ["self", "books", "parts"] (spAddItem K T) := by
  refine okd_of kn.m_Ledger_add_item sc_Ledger_add_item (fun vs H Q E h => ?_) (fun _ _ _ _ _ _ us hl => match us, hl with | [_, _, _], _ => rfl) (fun cdv A outer s H vs Q E hr h => ?_)
  · obtain ⟨l, dxl, cal, b0, pl, fl, b, dx, ad, dd, pt, ps, c, day, k, lim, bal, os, o, rfl, _⟩ := h
    rfl
  · obtain ⟨l, dxl, cal, b0, pl, fl, b, dx, ad, dd, pt, ps, c, day, k, lim, bal, os, o, rfl, hpt, hl, hcal, hcok, B, hok, hov, hol, hos, tb, hq⟩ := h
    have cB := kn.cls "Books"
    have cL := kn.cls "Ledger"
    refine ⟨_, PSs.nox (pss_cons (ps_asg (pv 2) (pg_star rfl (pgs_star (pg_name (i := 3) sc_Ledger_add_item.nd rfl (.inl rfl)) (pgs_cons (pg_name (i := 4) sc_Ledger_add_item.nd rfl (.inl rfl)) (pgs_cons (pg_name (i := 5) sc_Ledger_add_item.nd rfl (.inl rfl)) (pgs_cons (pg_name (i := 6) sc_Ledger_add_item.nd rfl (.inl rfl)) pgs_nil))))))
      (pss_cons (ps_for PassesOwn.never rfl (pi_list (pv 3)) (pg_name (i := 7) sc_Ledger_add_item.nd rfl (.inl rfl)) (pss_one (ps_expr (pm (ok_account_in (T := T) kn kx) (kn.cls "Ledger") (kn.meth "Ledger" "account_in") hr pass0 (pv 0) (pa_cons (pv 1) (pa_cons (pv 7) pa_nil))))))
      (pss_cons (ps_expr (pf (ok_validate_orders (T := T) kn) (hr.mono (by decide)) (kn.glo "validate_orders") pass0 (pa_cons (pe_fld (pv 0) rfl) (pa_cons (pe_lst (pa_cons (pe_tup (pa_cons (pv 4) (pa_cons (pv 5) (pa_cons (pv 6) pa_nil)))) pa_nil)) pa_nil))))
      (pss_cons (ps_if (pt_cmpR op_eq (pe_callB (cr_max rfl) rfl (kn.free "max") boot_max (pa_cons (pe_lc (g := gName 7) (own := [("name", 7)]) rfl sc_Ledger_add_item.nd (pi_list (pv 3)) (blkOk_by rfl) (fun _ _ _ _ _ => pg_name (i := 7) sc_Ledger_add_item.nd rfl (.inl rfl) (.inr rfl)) (fun _ _ _ _ _ => pts_nil)
        (te := tCB (fun xs H Q => ∃ p ys, xs = [.ref p] ∧ (SqL K H p ys ∨ SqT K H p ys) ∧ Q (.int ys.length) H) (tCons (tMeth (ga K "Books") "payments" (spPayments K T) [] (fun _ _ _ => False) (tVar 1) (tCons (tVar 7) tNil)) tNil))
        (fun _ _ _ _ _ => pe_callB call_len_seq rfl (kn.free "len") boot_len (pa_cons (pm (ok_payments (T := T) kn) (kn.cls "Books") (kn.meth "Books" "payments") (hr.mono (by decide)) pass0 (pv 1) (pa_cons (pv 7) pa_nil)) pa_nil))) pa_nil)) (pe_gi (kn.int "MAX_ORDERS_ledger" 60)) (nomark _)) (pss_one ps_never) pss_nil)
      (pss_cons (ps_set (i := 8) sc_Ledger_add_item.nd rfl (.inl rfl) (pe_fld (pv 1) rfl))
      (pss_cons (ps_dput (hu_of hr) (pe_fld (pv 1) rfl) (pv 8) (pv 2) rfl)
      (pss_cons (ps_fld (pv 1) (pe_op op_add (pv 8) pe_int) rfl)
      (pss_one (ps_ret (pv 8)))))))))), ?_⟩
    refine ⟨_, rfl, pt, _, rfl, .inl (.inl hpt), (by decide : 3 ≤ 4), fun q hqn => ?_⟩
    have g1 : Gr T H (upd H q (.lst [.str bobS])) := (Gr.refl tb).new hqn
    refine ⟨_, _, rfl, _, _, rfl, _, _, rfl, _, _, rfl, rfl, ?_⟩
    refine ⟨_, rfl, q, rfl, ⟨_, .inl (.inl upd_same)⟩, ?_⟩
    refine for_list (xs := [.str bobS]) (fun i σ H' => (∃ a7 a8, σ = [some (.ref l), some (.ref b), some (.ref pt), some (.ref q), some (.int o.1), some (.int o.2.1), some (.int o.2.2), a7, a8]) ∧ Gr T H H' ∧ H' q = some (.lst [.str bobS])) ⟨⟨_, _, rfl⟩, g1, upd_same⟩ (fun i σ H' _ hi => .inl (.inl hi.2.2)) (fun i x σ H' hx hi => ?_) (fun σ H' hi => ?_)
    · obtain ⟨⟨a7, a8, rfl⟩, g, hqq⟩ := hi
      have ex : x = .str bobS := by
        cases i with
        | zero => cases hx; rfl
        | succ i => cases hx
      subst ex
      exact ⟨_, rfl, l, dxl, _, rfl, g.get hl, rfl, _, rfl, _, rfl, l, dxl, cal, b0, pl, fl, b, dx, ad, dd, ps, c, day, k, lim, bal, os, rfl, g.get hl, g.get hcal, B.gr0 g, hok, g.tb, fun a H1 g2 _ => ⟨⟨_, _, rfl⟩, g.trans g2, g2.get hqq⟩⟩
    · obtain ⟨⟨a7, a8, rfl⟩, g, hqq⟩ := hi
      refine ⟨_, rfl, l, _, dxl, _, _, rfl, g.get hl, cL, kn.noat "Ledger" "periods", rfl, _, rfl, _, rfl, _, rfl, (by decide : 3 ≤ sizeLine), fun t htn => ⟨(by decide : 1 ≤ sizeLine), fun ll hll => ?_⟩⟩
      have g2 := g.new (o := .tup [.int o.1, .int o.2.1, .int o.2.2]) htn
      have g3 := g2.new (o := .lst [.ref t]) hll
      refine ⟨cal, ll, ps ++ [c], t, o, rfl, g3.get hcal, upd_same, upd_ext hll _ _ upd_same, hov, hcok, g3.tb, fun H4 g4 => ?_⟩
      have g04 : Gr T H H4 := g3.trans g4
      have hq4 : H4 q = some (.lst [.str bobS]) := g4.get (upd_ext hll _ _ (upd_ext htn _ _ hqq))
      refine ⟨_, rfl, q, rfl, ⟨_, .inl (.inl hq4)⟩, fun D hD => ?_⟩
      have hDH : H D = none := g04.nn hD
      refine lc_list (xs := [.str bobS]) (fun i H' => Gr T H H' ∧ H' q = some (.lst [.str bobS]) ∧ H' D = some (.lst ((List.replicate i (os.length : Int)).map V.int))) ⟨g04.new hD, upd_ext hD _ _ hq4, upd_same⟩ (fun i H' _ hi => .inl (.inl hi.2.1)) (fun i x H' hx hi => ?_) (fun H' hi => ?_)
      · obtain ⟨g5, hq5, hD5⟩ := hi
        have ex : i = 0 ∧ x = .str bobS := by
          cases i with
          | zero => cases hx; exact ⟨rfl, rfl⟩
          | succ i => cases hx
        obtain ⟨rfl, rfl⟩ := ex
        refine ⟨rfl, _, rfl, b, dx, _, rfl, g5.get B.obj, rfl, _, rfl, b, dx, ad, dd, day, some (k, lim, bal), os, rfl, B.gr0 g5, Nat.le_of_lt hol, hos, g5.tb, fun l6 ts H6 g6 hl6 e6 hpay => ?_⟩
        refine ⟨l6, _, rfl, .inl (.inl (.inl e6)), _, g6.get hD5, (by decide : 0 < sizeLine), (g5.trans g6).turn hDH (g6.get hD5), ?_, ?_⟩
        · rw [upd_ne (fun z => by rw [z, hD] at hq4; cases hq4)]
          exact g6.get hq5
        · rw [upd_same, List.length_map, hpay.1]
          rfl
      · obtain ⟨g5, hq5, hD5⟩ := hi
        refine ⟨D, [(os.length : Int)], rfl, .inl (.inl hD5), Nat.succ_pos _, fun m hm _ => ?_⟩
        have em : m = (os.length : Int) := List.mem_singleton.mp hm
        subst em
        refine ⟨rfl, _, rfl, ?_⟩
        refine ite2 (fun h => ?_) (fun _ => ?_)
        · have := V.int.inj (of_decide_eq_true h)
          omega
        have B5 := B.gr0 g5
        refine ⟨_, rfl, b, _, dx, _, _, rfl, B5.obj, cB, kn.noat "Books" "following", rfl, ?_⟩
        obtain ⟨ts, hd1, hd2⟩ := B5.due
        have hlen : ts.length = os.length := Paired.length hd2
        refine ⟨_, rfl, _, rfl, b, _, dx, _, _, rfl, B5.obj, cB, kn.noat "Books" "dues", rfl, _, rfl, dd, _, rfl, DPut.k (k := Sum.inl ((os.length : Int) + 1)) hd1 ?_, ?_⟩
        · rw [duesL_len, hlen]
          exact Nat.lt_trans hol (by decide)
        have eput : putK (duesL 0 ts) (Sum.inl ((os.length : Int) + 1)) (.ref pt) = duesL 0 (ts ++ [pt]) := by
          rw [putK_new _ (duesL_none 0 ts _ (by omega)), ← duesL_snoc 0 ts pt]
          have : ((0 + ts.length + 1 : Nat) : Int) = (os.length : Int) + 1 := by omega
          rw [this]
        rw [eput]
        have ndb : dd ≠ b := fun z => by
          have e := B5.obj
          rw [← z, hd1] at e
          cases e
        have hob6 : (upd H' dd (.dK (duesL 0 (ts ++ [pt])))) b = some (.ins (ga K "Books") dx (bookF day ad dd ((os.length : Int) + 1))) := by rw [upd_ne (Ne.symm ndb)]; exact B5.obj
        refine ⟨_, rfl, _, _, rfl, rfl, _, rfl, b, _, dx, _, rfl, hob6, cB, kn.noat "Books" "following", (by decide : 4 < 1000), ?_⟩
        have g6 : GrB T (fun a => a = b ∨ a = dd) H (upd H' dd (.dK (duesL 0 (ts ++ [pt])))) := (Gr.to (S := fun a => a = b ∨ a = dd) g5).set (.inr rfl) hd1
        have g7 := g6.set (o' := .ins (ga K "Books") dx (bookF day ad dd ((os.length : Int) + 1 + 1))) (.inl rfl) hob6
        have tupk : ∀ a xs, H' a = some (.tup xs) → (upd (upd H' dd (.dK (duesL 0 (ts ++ [pt])))) b (.ins (ga K "Books") dx (bookF day ad dd ((os.length : Int) + 1 + 1)))) a = some (.tup xs) := fun a xs e => by
          rw [upd_ne (fun z => by rw [z, B5.obj] at e; cases e), upd_ne (fun z => by rw [z, hd1] at e; cases e)]
          exact e
        refine ⟨_, rfl, hq _ g7 ⟨?_, ?_, ⟨ts ++ [pt], ?_, Paired.app (Paired.mapP hd2 fun t o e => tupk _ _ e) (.cons (tupk _ _ (g5.get hpt)) .nil)⟩, B.ne⟩⟩
        · rw [upd_same, List.length_append]
          have : (((os.length + [o].length : Nat) : Int) + 1) = (os.length : Int) + 1 + 1 := by simp
          rw [this]
          rfl
        · obtain ⟨u, e1, e2⟩ := B5.acc
          refine ⟨u, ?_, tupk _ _ e2⟩
          rw [upd_ne (fun z => by rw [z, B5.obj] at e1; cases e1), upd_ne B.ne]
          exact e1
        · rw [upd_ne ndb]
          exact upd_same
end
end So
end
section
set_option maxHeartbeats 4000000
/-! A ledger's order. -/
namespace So
open PySem PySem.Spec PyProof.Rows L2 He
def AmB (os : List Ord) : Prop := ∀ o ∈ os, -1000 ≤ o.2.2 ∧ o.2.2 ≤ 1000
def spAddOrd (K : PySem.W.Frag) (T : Wt) : Sp := fun vs H Q _ => ∃ (l pl dxl cal fl b dx ad dd : Addr) (ps : List Int) (c day : Int) (k : Kd) (lim bal : Int) (os : List Ord) (o : Ord) (n : Nat), vs = [.ref l, .str bobS, .int o.1, .int o.2.1, .int o.2.2] ∧ LedP K H l pl dxl cal fl b dx ad dd ps c day (some (k, lim, bal)) os n ∧ n < 1000 ∧ CalOk (ps ++ [c]) ∧ AccOk k lim bal ∧ OrdV (ps ++ [c]) o ∧ os.length < 60 ∧ AmB (o :: os) ∧
  Tbs T H ∧ ∀ fl' b' dx' ad' dd' H', GrB T (SL l pl) H H' → LedP K H' l pl dxl cal fl' b' dx' ad' dd' ps c day (some (k, lim, bal)) (os ++ [o]) (n + 1) → Q (.int ((os.length : Int) + 1)) H'
section
variable {P : Program} {w : World} {K : PySem.W.Frag} {mg : Str → Option Value} {base : Heap} {T : Wt}
theorem ok_add_order (kn : Kn K mg) (kx : Kx K) : Okd P w K mg base CX0 7 (ma K (ga K "Ledger") "add_order") ["self", "name", "period", "day", "amount"] (spAddOrd K T) := by
  refine okd_of kn.m_Ledger_add_order sc_Ledger_add_order (fun vs H Q E h => ?_) (fun _ _ _ _ _ _ us hl => match us, hl with | [_, _, _, _, _], _ => rfl) (fun cdv A outer s H vs Q E hr h => ?_)
  · obtain ⟨l, pl, dxl, cal, fl, b, dx, ad, dd, ps, c, day, k, lim, bal, os, o, n, rfl, _⟩ := h
    rfl
  · obtain ⟨l, pl, dxl, cal, fl, b, dx, ad, dd, ps, c, day, k, lim, bal, os, o, n, rfl, L, hn, hcok, hok, hov, hol, hab, tb, hq⟩ := h
    have cL := kn.cls "Ledger"
    obtain ⟨xs, hp, hxs⟩ := L.past
    obtain ⟨a1, a2⟩ := hab o List.mem_cons_self
    refine ⟨_, PSs.nox (pss_cons (ps_set (i := 5) sc_Ledger_add_order.nd rfl (.inl rfl) (pm0 (ok_copied (T := T) kn) (kn.cls "Books") (kn.meth "Books" "copied") (hr.mono (by decide)) pass0 (pe_fld (pv 0) rfl)))
      (pss_cons (ps_expr (pm (ok_account (T := T) kn kx) (kn.cls "Ledger") (kn.meth "Ledger" "account") (hr.mono (by decide)) pass0 (pv 0) (pa_cons (pv 1) pa_nil)))
      (pss_cons (ps_expr (pm (ok_validate_item kn) (kn.cls "Ledger") (kn.meth "Ledger" "validate_item") (hr.mono (by decide)) pass0 (pv 0) (pa_cons pe_int (pa_cons (pv 4) pa_nil))))
      (pss_cons (ps_set (i := 6) sc_Ledger_add_order.nd rfl (.inl rfl) (pm (ok_add_item (T := T) kn kx) (kn.cls "Ledger") (kn.meth "Ledger" "add_item") (hr.mono (by decide)) pass0 (pv 0) (pa_cons (pv 5) (pa_cons (pe_tup (pa_cons (pv 1) (pa_cons (pv 2) (pa_cons (pv 3) (pa_cons (pv 4) pa_nil))))) pa_nil))))
      (pss_cons (ps_expr (pm (ok_commit (T := T) kn) (kn.cls "Ledger") (kn.meth "Ledger" "commit") (hr.mono (by decide)) pass0 (pv 0) (pa_cons (pe_tup (pa_cons pe_str (pa_cons (pv 1) (pa_cons (pv 2) (pa_cons (pv 3) (pa_cons (pv 4) pa_nil)))))) (pa_cons (pv 5) pa_nil))))
      (pss_one (ps_ret (pv 6)))))))), ?_⟩
    refine ⟨_, rfl, l, _, dxl, _, _, rfl, L.obj, cL, kn.noat "Ledger" "books", rfl, b, dx, _, rfl, L.book.obj, rfl, b, dx, ad, dd, day, some (k, lim, bal), os, rfl, L.book, tb, fun b' dx' ad' dd' H1 g1 nb na nd B1 => ?_⟩
    have L1 := L.gr0 g1
    refine ⟨_, rfl, l, dxl, _, rfl, L1.obj, rfl, _, rfl, l, dxl, cal, pl, fl, b, dx, ad, dd, ps, c, day, k, lim, bal, os, rfl, L1.obj, L1.cal, L1.book, hok, g1.tb, fun a H2 g2 _ => ?_⟩
    have L2' := L1.gr0 g2
    have B2 := B1.gr0 g2
    refine ⟨_, rfl, l, dxl, _, rfl, L2'.obj, rfl, _, rfl, _, o.2.2, rfl, by omega, by omega, hov.a0, ?_⟩
    refine ⟨_, rfl, l, dxl, _, rfl, L2'.obj, rfl, _, rfl, _, rfl, _, rfl, _, rfl, _, rfl, (by decide : 4 ≤ sizeLine), fun pt hpt => ?_⟩
    have g3 : Gr T H2 (upd H2 pt (.tup [.str bobS, .int o.1, .int o.2.1, .int o.2.2])) := (Gr.refl g2.tb).new hpt
    have L3 := L2'.gr0 g3
    have B3 := B2.gr0 g3
    have g03 : Gr T H (upd H2 pt (.tup [.str bobS, .int o.1, .int o.2.1, .int o.2.2])) := (g1.trans g2).trans g3
    refine ⟨l, dxl, cal, b, pl, fl, b', dx', ad', dd', pt, ps, c, day, k, lim, bal, os, o, rfl, upd_same, L3.obj, L3.cal, hcok, B3, hok, hov, hol, fun o' ho' => hab o' (List.mem_cons_of_mem _ ho'), g3.tb, fun H4 g4 B4 => ?_⟩
    have dn : ∀ {a o'}, H a = some o' → ¬ (a = b' ∨ a = dd') := fun {a o'} e z => by
      rcases z with z | z
      · rw [z, nb] at e; cases e
      · rw [z, nd] at e; cases e
    have g04 : GrB T (SL l pl) H H4 := (g03.to (S := SL l pl)).andThen g4 fun a h => .inl (by
      rcases h with z | z
      · rw [z]; exact nb
      · rw [z]; exact nd)
    have hl4 : H4 l = some (.ins (ga K "Ledger") dxl (ledF cal b pl fl)) := g4.at L3.obj (dn L.obj)
    have hp4 : H4 pl = some (.lst xs) := g4.at (g03.get hp) (dn hp)
    have hc4 : CalAt H4 cal ps c := g4.at L3.cal (dn L.cal)
    refine ⟨_, rfl, l, dxl, _, rfl, hl4, rfl, _, rfl, _, rfl, _, rfl, _, rfl, (by decide : 5 ≤ sizeLine), fun q hqn => ?_⟩
    have g5 : Gr T H4 (upd H4 q (.tup [.str "add_order", .str bobS, .int o.1, .int o.2.1, .int o.2.2])) := (Gr.refl g4.tb).new hqn
    refine ⟨_, rfl, l, dxl, cal, b, pl, fl, q, b', xs, rfl, g5.get hl4, g5.get hp4, by omega, g5.tb, fun fl' xs' H6 g6 e1 e2 e3 => ?_⟩
    have nl : ∀ {a}, H a = none → ¬ SL l pl a := fun {a} h z => by
      rcases z with z | z
      · rw [z, L.obj] at h; cases h
      · rw [z, hp] at h; cases h
    have tupn : ∀ (t : Addr) xs', (upd H4 q (.tup [.str "add_order", .str bobS, .int o.1, .int o.2.1, .int o.2.2])) t = some (.tup xs') → ¬ SL l pl t := fun t ys e z => by
      rcases z with z | z
      · rw [z, g5.get hl4] at e; cases e
      · rw [z, g5.get hp4] at e; cases e
    refine ⟨_, rfl, hq fl' b' dx' ad' dd' H6 ((g04.trans g5.to).trans g6) ⟨e1, g6.at (g5.get hc4) (tupn _ _ (g5.get hc4)), ⟨xs', e2, by rw [e3, hxs]⟩, (B4.gr0 g5).gr g6 (nl nb) (nl na) (nl nd) tupn⟩⟩
end
end So
end
section
set_option maxHeartbeats 4000000
/-! Properties read; min of one. -/
namespace So
open PySem PySem.Spec PyProof.Rows L2 He
def floorV (k : Kd) (lim : Int) : V := match k with
  | .op => .non
  | _ => .int (0 - lim)
def spFloor (K : PySem.W.Frag) (k : Kd) : Sp := fun vs H Q _ => ∃ (a : Addr) (nm : Str) (lim bal cyc : Int), vs = [.ref a] ∧ AccAt K H a k nm lim bal cyc ∧ Q (floorV k lim) H
section
variable {P : Program} {w : World} {K : PySem.W.Frag} {mg : Str → Option Value} {base : Heap} {T : Wt}
theorem wf_eq {C D : Addr} {m : Str} {t : String} (h : ma K C m = ma K D m) : He5.wf K C t m = He5.wf K D t m := by
  unfold He5.wf
  rw [h]
theorem Okd.imp {CX : CXT} {k : Nat} {f : Addr} {ps : List Str} {sp sp' : Sp} (o : Okd P w K mg base CX k f ps sp) (h : ∀ vs H Q E, sp' vs H Q E → sp vs H Q E) : Okd P w K mg base CX k f ps sp' := by
  obtain ⟨fd, a, b, c⟩ := o.ex
  exact ⟨fd, a, b, c.imp h⟩
theorem ok_floor (kn : Kn K mg) (kx : Kx K) (k : Kd) : Okd P w K mg base CX0 1 (He5.wf K (ga K k.cn) "property" "floor") ["self"] (spFloor K k) := by
  cases k with
  | op => exact (ok_Account_floor kx.f_floorA).imp fun vs H Q E h => let ⟨a, _, _, _, _, e, _, q⟩ := h; ⟨a, e, q⟩
  | li => exact (ok_LimitedAccount_floor kx.f_floorL kn).imp fun vs H Q E h => let ⟨a, nm, lim, bal, cyc, e, ha, q⟩ := h; ⟨a, .li, nm, lim, bal, cyc, e, ha, q⟩
  | sa =>
    rw [show He5.wf K (ga K Kd.sa.cn) "property" "floor" = He5.wf K (ga K "LimitedAccount") "property" "floor" from wf_eq (kx.mas ("SavingsAccount", "LimitedAccount", "floor") (by decide +kernel))]
    exact (ok_LimitedAccount_floor kx.f_floorL kn).imp fun vs H Q E h => let ⟨a, nm, lim, bal, cyc, e, ha, q⟩ := h; ⟨a, .sa, nm, lim, bal, cyc, e, ha, q⟩
theorem ok_balanceK (kn : Kn K mg) (kx : Kx K) (k : Kd) : Okd P w K mg base CX0 1 (He5.wf K (ga K k.cn) "property" "balance") ["self"] (spBalance K) := by
  cases k with
  | op => exact ok_Account_balance kx.f_balance kn
  | li =>
    rw [show He5.wf K (ga K Kd.li.cn) "property" "balance" = He5.wf K (ga K "Account") "property" "balance" from wf_eq (kx.mas ("LimitedAccount", "Account", "balance") (by decide +kernel))]
    exact ok_Account_balance kx.f_balance kn
  | sa =>
    rw [show He5.wf K (ga K Kd.sa.cn) "property" "balance" = He5.wf K (ga K "Account") "property" "balance" from wf_eq (kx.mas ("SavingsAccount", "Account", "balance") (by decide +kernel))]
    exact ok_Account_balance kx.f_balance kn
theorem prop_floor (kx : Kx K) (k : Kd) : PropOf K (ga K k.cn) "floor" (ma K (ga K k.cn) "floor") (He5.wf K (ga K k.cn) "property" "floor") := by
  cases k
  · exact kx.prop ("Account", "floor") (by decide +kernel)
  · exact kx.prop ("LimitedAccount", "floor") (by decide +kernel)
  · exact kx.prop ("SavingsAccount", "floor") (by decide +kernel)
theorem prop_balance (kx : Kx K) (k : Kd) : PropOf K (ga K k.cn) "balance" (ma K (ga K k.cn) "balance") (He5.wf K (ga K k.cn) "property" "balance") := by
  cases k
  · exact kx.prop ("Account", "balance") (by decide +kernel)
  · exact kx.prop ("LimitedAccount", "balance") (by decide +kernel)
  · exact kx.prop ("SavingsAccount", "balance") (by decide +kernel)
end
section
variable {X : Cx} {CX : CXT} {k : Nat} {C p g : Addr} {ps : List Str} {sp : Sp} {E : XK} {e : Expr} {f : Str} {pos : Pos} {ta : TE}
theorem pprop (O : Okd X.prog X.w X.K X.mg X.base CX k g ps sp) (he : PE X e ta) (c : Cls X.K C) (hp : PropOf X.K C f p g) (hr : Room (k + 1) X.A) (hx : Passes CX X.nox E) (hab : attributeBase e f X.env (eval e X.env) = eval e X.env := by rfl) : PE X (.Attribute e f pos) (tProp C sp [] E ta) := by
  obtain ⟨fd, kp, b, F⟩ := O.ex
  exact pe_prop he c hp F hr b .nil hx hab
/-- min of a list of one thing -/
theorem cr_min1 (hc : X.calm = true) : CallR X (.builtin "min") (fun vs H Q => ∃ (a : Addr) (x : V), vs = [V.ref a] ∧ SqL X.K H a [x] ∧ Q x H) := by
  intro pins s σ H vs us Q I r h
  obtain ⟨a, x, rfl, hs, hq⟩ := h
  rw [Vals.ref1 r]
  obtain ⟨its, rv, hl, hz⟩ := I.list hs
  have hd := I.ok.hd hc
  obtain ⟨u, rfl, ru⟩ : ∃ u, its = [u] ∧ RelV x u := by
    cases rv with
    | cons r1 rr => cases rr with
      | nil => exact ⟨_, rfl, r1⟩
  refine call_min_go (wpAny_pyIter_list hl.isList ⟨_, rfl, fun c => ?_⟩)
  have hal : a < s.heap.objs.size := by obtain ⟨_, _, e, _⟩ := id hl; exact Heap.lt_size e
  have z1 : (s.heap.push { cls := .type "list_iterator", data := .fields #[.ref a, .int 0 0] }).objs.size = s.heap.objs.size + 1 := Heap.size_push ..
  have hS0 := Heap.get?_push_size (s.heap.push { cls := .type "list_iterator", data := .fields #[.ref a, .int 0 0] }) (o := mlO #[] c) rfl
  refine min_first (c := c) hS0 ?_
  have k0 : ∀ b o, s.heap.get? b = some o → ((s.heap.push { cls := .type "list_iterator", data := .fields #[.ref a, .int 0 0] }).push (mlO #[] c)).get? b = some o := fun b o q => Heap.get?_push_of_some _ (Heap.get?_push_of_some _ q)
  have hit0 : ((s.heap.push { cls := .type "list_iterator", data := .fields #[.ref a, .int 0 0] }).push (mlO #[] c)).IsListIter s.heap.objs.size a 0 := ⟨_, Heap.get?_push_of_some _ (Heap.get?_push_size _ rfl), rfl, rfl⟩
  have hJS : s.heap.objs.size < (s.heap.push { cls := .type "list_iterator", data := .fields #[.ref a, .int 0 0] }).objs.size := by rw [z1]; exact Nat.lt_succ_self _
  refine wpAny_pyNext_list_item hit0 (hl.isList.at fun o q => k0 _ o q) (x := u) rfl fun h' hit' sb => ⟨_, rfl, (sb.2 _ (Nat.ne_of_gt hJS)).trans hS0, fun h2 c' k2 hS2 => ?_⟩
  have nb : ∀ b, b < s.heap.objs.size → b ≠ (s.heap.push { cls := .type "list_iterator", data := .fields #[.ref a, .int 0 0] }).objs.size := fun b hb => Nat.ne_of_lt (Nat.lt_trans hb hJS)
  have kk2 : ∀ b o, s.heap.get? b = some o → h2.get? b = some o := fun b o q => by
    have hb : b < s.heap.objs.size := Heap.lt_size q
    exact k2 b o (nb b hb) ((sb.2 b (Nat.ne_of_lt hb)).trans (k0 b o q))
  refine min_more (vb := u) hS2 ?_
  have hl' : h2.IsList a #[u] := hl.isList.at fun o q => kk2 _ o q
  refine wpAny_pyNext_list_end (A := X.A.in1) hd (hit'.at fun o e => k2 _ o (Nat.ne_of_lt hJS) e) hl' (by simp) fun h3 eb => ⟨eb _ _ (Nat.ne_of_gt hJS) hS2, fun h4 k4 => ?_⟩
  have kk : ∀ b o, s.heap.get? b = some o → h4.get? b = some o := fun b o q => by
    have hb : b < s.heap.objs.size := Heap.lt_size q
    exact k4 b o (nb b hb) (eb b o (Nat.ne_of_lt hb) (kk2 b o q))
  exact ⟨x, H, I.kept (t' := s.toks) kk, ru, hq⟩
end
end So
end
section
set_option maxHeartbeats 4000000
/-! A ledger's first overdraft, its largest withdrawal. -/
namespace So
open PySem PySem.Spec PyProof.Rows L2 He
def spOver (K : PySem.W.Frag) (T : Wt) : Sp := fun vs H Q _ => ∃ (l pl dxl cal fl b dx ad dd : Addr) (ps : List Int) (c day : Int) (k : Kd) (lim bal : Int) (os : List Ord) (n : Nat), vs = [.ref l] ∧ LedP K H l pl dxl cal fl b dx ad dd ps c day (some (k, lim, bal)) os n ∧ AccOk k lim bal ∧ PlanB ps c (day + 1) os ∧ AmB os ∧ Tbs T H ∧
  (k = .op → ∀ H', Gr T H H' → Q .non H') ∧
  (k ≠ .op → ∀ r H', Gr T H H' → LeastOf (fDays (day + 1) none (amA os c (day + 1) bal) (drf os c) (0 - lim) c.toNat) r → (r = none → Q .non H') ∧ ∀ m t, r = some m → H' t = some (.tup [.int m, .str bobS]) → Q (.ref t) H')
section
variable {P : Program} {w : World} {K : PySem.W.Frag} {mg : Str → Option Value} {base : Heap} {T : Wt}
theorem dp_pair {K : PySem.W.Frag} {H : Hp} {a t : Addr} {m : Int} (h : H a = some (.lst [.ref t])) (ht : H t = some (.tup [.int m, .str bobS])) : ∃ ds : List PyData, Dp K H (.ref a) (.list ds) ∧ ds.isEmpty = false ∧ SeqAt.shaped (.list ds) = true :=
  ⟨[.tuple [.int m, .str bobS]], .lst (.inl (.inl h)) (.cons (.tup (.inl (.inl ht)) (.cons (.int m) (.cons (.str bobS) .nil))) .nil), rfl, by
    unfold SeqAt.shaped
    rw [Bool.and_eq_true]
    refine ⟨?_, decide_eq_true ?_⟩
    · simp only [PyData.canLay0, PyData.canLayAll0, Bool.and_true, Bool.true_and]
      decide +kernel
    · simp only [PyData.depth, PyData.depthAll]
      decide⟩
theorem pb_am {ps : List Int} {c s0 : Int} {os : List Ord} (pb : PlanB ps c s0 os) : AmB os := fun o ho => ⟨(pb.ord o ho).a0, (pb.ord o ho).a1⟩
theorem ok_first_overdraft (kn : Kn K mg) (kx : Kx K) (kt : Kt K mg base T) : Okd P w K mg base CX0 9 (ma K (ga K "Ledger") "first_overdraft") ["self"] (spOver K T) := by
  refine okd_of kn.m_Ledger_first_overdraft sc_Ledger_first_overdraft (fun vs H Q E h => ?_) (fun _ _ _ _ _ _ us hl => match us, hl with | [_], _ => rfl) (fun cdv A outer s H vs Q E hr h => ?_)
  · obtain ⟨l, pl, dxl, cal, fl, b, dx, ad, dd, ps, c, day, k, lim, bal, os, n, rfl, _⟩ := h
    rfl
  · obtain ⟨l, pl, dxl, cal, fl, b, dx, ad, dd, ps, c, day, k, lim, bal, os, n, rfl, L, hok, pb, hab, tb, h1, h2⟩ := h
    have cL := kn.cls "Ledger"
    refine ⟨_, PSs.nox (pss_cons (ps_set (i := 1) sc_Ledger_first_overdraft.nd rfl (.inl rfl) (pe_lst pa_nil))
      (pss_cons (ps_for PassesOwn.never rfl (pi_list (pprop (ok_led_names (T := T) kn kx) (pv 0) cL (kx.prop ("Ledger", "names") (by decide +kernel)) (hr.mono (by decide)) pass0)) (pg_name (i := 2) sc_Ledger_first_overdraft.nd rfl (.inl rfl)) (pss_cons (ps_set (i := 3) sc_Ledger_first_overdraft.nd rfl (.inl rfl) (pm (ok_account (T := T) kn kx) (kn.cls "Ledger") (kn.meth "Ledger" "account") (hr.mono (by decide)) pass0 (pv 0) (pa_cons (pv 2) pa_nil)))
      (pss_one (ps_if (pt_cmp (pc_notN (pprop (ok_floor kn kx k) (pv 3) (Kd.cls kn k) (prop_floor kx k) (hr.mono (by decide)) pass0))) (pss_cons (ps_set (i := 4) sc_Ledger_first_overdraft.nd rfl (.inl rfl) (pf (ok_first_below (T := T) kn kt) hr (kn.glo "first_below") pass0 (pa_cons (pm (ok_plan_for (T := T) kn) (kn.cls "Ledger") (kn.meth "Ledger" "plan_for") (hr.mono (by decide)) pass0 (pv 0) (pa_cons (pe_fld (pv 0) rfl) (pa_cons (pv 2) pa_nil))) (pa_cons (pprop (ok_balanceK kn kx k) (pv 3) (Kd.cls kn k) (prop_balance kx k) (hr.mono (by decide)) pass0) (pa_cons (pprop (ok_floor kn kx k) (pv 3) (Kd.cls kn k) (prop_floor kx k) (hr.mono (by decide)) pass0) (pa_cons (pe_op op_add (pprop (ok_led_today kn kx) (pv 0) cL (kx.prop ("Ledger", "today") (by decide +kernel)) (hr.mono (by decide)) pass0) pe_int) pa_nil))))))
      (pss_one (ps_if (pt_cmp (pc_notN (pv 4))) (pss_one (ps_expr (pe_bm PySem.F.plainAttrs_list PySem.F.slot_list_append PySem.F.type_list_append mt_append (pv 1) (pa_cons (pe_tup (pa_cons (pv 4) (pa_cons (pv 2) pa_nil))) pa_nil)))) pss_nil))) pss_nil))))
      (pss_one (ps_ret (pe_ifExp (pt_cmpR (op_neD hr.units) (pv 1) (pe_lst pa_nil) (nomark _)) (pe_callB (cr_min1 rfl) rfl (kn.free "min") boot_min (pa_cons (pv 1) pa_nil)) pe_non))))), ?_⟩
    refine ⟨Nat.zero_le _, fun dl hdl => ?_⟩
    have g0 : Gr T H (upd H dl (.lst [])) := (Gr.refl tb).new hdl
    have L0 := L.gr0 g0
    refine ⟨_, rfl, l, dxl, _, rfl, L0.obj, l, dxl, cal, b, pl, fl, dx, ad, dd, day, (k, lim, bal), os, rfl, L0.obj, L0.book, g0.tb, fun p H1 g1 hpn e1 => ?_⟩
    refine ⟨p, rfl, ⟨_, .inl (.inl e1)⟩, ?_⟩
    have hd1 : H1 dl = some (.lst []) := g1.get upd_same
    refine for_list (xs := [.str bobS]) (fun i σ H' => (∃ a2 a3 a4, σ = [some (.ref l), some (.ref dl), a2, a3, a4]) ∧ Gr T H H' ∧ H' p = some (.lst [.str bobS]) ∧ ((i = 0 ∧ H' dl = some (.lst [])) ∨ (i = 1 ∧ ((k = .op ∧ H' dl = some (.lst [])) ∨ (k ≠ .op ∧ ∃ r, LeastOf (fDays (day + 1) none (amA os c (day + 1) bal) (drf os c) (0 - lim) c.toNat) r ∧ ((r = none ∧ H' dl = some (.lst [])) ∨ ∃ m t, r = some m ∧ H' dl = some (.lst [.ref t]) ∧ H' t = some (.tup [.int m, .str bobS])))))))
      ⟨⟨_, _, _, rfl⟩, g0.trans g1, e1, .inl ⟨rfl, hd1⟩⟩ (fun i σ H' _ hi => .inl (.inl hi.2.2.1)) (fun i x σ H' hx hi => ?_) (fun σ H' hi => ?_)
    · obtain ⟨⟨a2, a3, a4, rfl⟩, g, hpp, hcase⟩ := hi
      have ex : i = 0 ∧ x = .str bobS := by
        cases i with
        | zero => cases hx; exact ⟨rfl, rfl⟩
        | succ i => cases hx
      obtain ⟨rfl, rfl⟩ := ex
      have hdl' : H' dl = some (.lst []) := by
        rcases hcase with ⟨_, z⟩ | ⟨z, _⟩
        · exact z
        · cases z
      have L1 := L.gr0 g
      refine ⟨_, rfl, l, dxl, _, rfl, L1.obj, rfl, _, rfl, l, dxl, cal, pl, fl, b, dx, ad, dd, ps, c, day, k, lim, bal, os, rfl, L1.obj, L1.cal, L1.book, hok, g.tb, fun a H2 g2 ha => ?_⟩
      obtain ⟨dxa, haa⟩ := id ha
      have L2' := L1.gr0 g2
      have gg := g.trans g2
      refine ⟨_, rfl, a, dxa, _, rfl, haa, a, bobS, lim, bal, c, rfl, ha, ?_⟩
      cases hk : k with
      | op =>
        refine ⟨_, rfl, ?_⟩
        refine ite2 (fun h => by cases h) (fun _ => ?_)
        exact ⟨⟨_, _, _, rfl⟩, gg, g2.get hpp, .inr ⟨rfl, .inl ⟨rfl, g2.get hdl'⟩⟩⟩
      | _ =>
        refine ⟨_, rfl, ?_⟩
        refine ite2 (fun _ => ?_) (fun h => absurd rfl h)
        subst hk
        refine ⟨_, rfl, l, dxl, _, rfl, L2'.obj, rfl, _, rfl, l, _, dxl, _, _, rfl, L2'.obj, cL, kn.noat "Ledger" "books", rfl, _, rfl, l, dxl, cal, b, pl, fl, b, dx, ad, dd, ps, c, day, _, os, rfl, L2'.obj, L2'.cal, L2'.book, pb.ok.len, hab, g2.tb, fun plan H3 g3 hplan => ?_⟩
        have L3 := L2'.gr0 g3
        refine ⟨_, rfl, a, dxa, _, rfl, g3.get haa, a, _, bobS, lim, bal, c, rfl, ha.gr g3, ?_⟩
        refine ⟨_, rfl, a, dxa, _, rfl, g3.get haa, a, bobS, lim, bal, c, rfl, ha.gr g3, ?_⟩
        refine ⟨_, rfl, l, dxl, _, rfl, L3.obj, l, dxl, cal, b, pl, fl, dx, ad, dd, day, _, os, rfl, L3.obj, L3.book, _, _, rfl, rfl, ?_⟩
        refine ⟨plan, ps, c, day + 1, bal, 0 - lim, os, rfl, hplan, pb, g3.tb, fun r H4 g4 hL => ?_⟩
        have g04 := (gg.trans g3).trans g4
        have hdl4 : H4 dl = some (.lst []) := g4.get (g3.get (g2.get hdl'))
        have hpp4 : H4 p = some (.lst [.str bobS]) := g4.get (g3.get (g2.get hpp))
        cases r with
        | none =>
          refine ⟨_, rfl, _, rfl, ?_⟩
          refine ite2 (fun h => by cases h) (fun _ => ?_)
          exact ⟨⟨_, _, _, rfl⟩, g04, hpp4, .inr ⟨rfl, .inr ⟨(fun z => by cases z), none, hL, .inl ⟨rfl, hdl4⟩⟩⟩⟩
        | some m =>
          refine ⟨_, rfl, _, rfl, ?_⟩
          refine ite2 (fun _ => ?_) (fun h => absurd rfl h)
          refine ⟨_, rfl, .inl ⟨rfl, _, .inl (.inl hdl4)⟩, _, rfl, _, rfl, (by decide : 2 ≤ sizeLine), fun t htn => ?_⟩
          have hdl5 : (upd H4 t (.tup [.int m, .str bobS])) dl = some (.lst []) := upd_ext htn _ _ hdl4
          have ndt : t ≠ dl := fun z => by rw [z, hdl4] at htn; cases htn
          have npd : p ≠ dl := fun z => by rw [z, hdl4] at hpp4; cases hpp4
          refine ⟨dl, _, _, rfl, rfl, hdl5, (by decide : 0 < sizeLine), ⟨_, _, _, rfl⟩, (g04.new htn).turn hdl hdl5, ?_, .inr ⟨rfl, .inr ⟨(fun z => by cases z), some m, hL, .inr ⟨m, t, rfl, upd_same, ?_⟩⟩⟩⟩
          · rw [upd_ne npd]
            exact upd_ext htn _ _ hpp4
          · rw [upd_ne ndt]
            exact upd_same
    · obtain ⟨⟨a2, a3, a4, rfl⟩, g, hpp, hcase⟩ := hi
      have hfin : (k = .op ∧ H' dl = some (.lst [])) ∨ (k ≠ .op ∧ ∃ r, LeastOf (fDays (day + 1) none (amA os c (day + 1) bal) (drf os c) (0 - lim) c.toNat) r ∧ ((r = none ∧ H' dl = some (.lst [])) ∨ ∃ m t, r = some m ∧ H' dl = some (.lst [.ref t]) ∧ H' t = some (.tup [.int m, .str bobS]))) := by
        rcases hcase with ⟨z, _⟩ | ⟨_, z⟩
        · cases z
        · exact z
      refine ⟨_, rfl, Nat.zero_le _, fun q hqn => ?_⟩
      have gq := g.new (o := .lst []) hqn
      rcases hfin with ⟨hk, hd⟩ | ⟨hk, r, hL, hrr⟩
      · have hd' : (upd H' q (.lst [])) dl = some (.lst (([] : List Int).map V.int)) := upd_ext hqn _ _ hd
        refine ⟨.list (([] : List Int).map .int), .list [], dp_ints hd', .lst (.inl (.inl upd_same)) .nil, shaped_ints _, shaped_ints [], _, rfl, ?_⟩
        rw [eqv_nil]
        refine ite2 (fun h => by cases h) (fun _ => ?_)
        exact h1 hk _ gq
      · rcases hrr with ⟨rfl, hd⟩ | ⟨m, t, rfl, hd, ht⟩
        · have hd' : (upd H' q (.lst [])) dl = some (.lst (([] : List Int).map V.int)) := upd_ext hqn _ _ hd
          refine ⟨.list (([] : List Int).map .int), .list [], dp_ints hd', .lst (.inl (.inl upd_same)) .nil, shaped_ints _, shaped_ints [], _, rfl, ?_⟩
          rw [eqv_nil]
          refine ite2 (fun h => by cases h) (fun _ => ?_)
          exact (h2 hk none _ gq hL).1 rfl
        · have hd' : (upd H' q (.lst [])) dl = some (.lst [.ref t]) := upd_ext hqn _ _ hd
          have ht' := upd_ext (o := .lst []) hqn _ _ ht
          obtain ⟨ds, d1, d2, d3⟩ := dp_pair (K := K) hd' ht'
          refine ⟨.list ds, .list [], d1, .lst (.inl (.inl upd_same)) .nil, d3, shaped_ints [], _, rfl, ?_⟩
          rw [eqv_nil, d2]
          refine ite2 (fun _ => ?_) (fun h => absurd rfl h)
          exact ⟨_, rfl, dl, .ref t, rfl, .inl (.inl hd'), (h2 hk (some m) _ gq hL).2 m t rfl ht'⟩
end
end So
end
section
set_option maxHeartbeats 4000000
/-! A ledger's largest withdrawal. -/
namespace So
open PySem PySem.Spec PyProof.Rows L2 He
def spLargest (K : PySem.W.Frag) (T : Wt) : Sp := fun vs H Q E => ∃ (l pl dxl cal fl b dx ad dd : Addr) (ps : List Int) (c day : Int) (k : Kd) (lim bal : Int) (os : List Ord) (n : Nat), vs = [.ref l, .str bobS] ∧ LedP K H l pl dxl cal fl b dx ad dd ps c day (some (k, lim, bal)) os n ∧ AccOk k lim bal ∧ PlanB ps c (day + 1) os ∧ Tbs T H ∧
  (k = .op → ∀ H', Gr T H H' → Q .non H') ∧ (k ≠ .op → drf os c < 0 → ∀ H', Gr T H H' → E (.ref (ga K "Endless")) none H') ∧
  (k ≠ .op → ¬ drf os c < 0 → ∀ v H', Gr T H H' → LeastV os c (day + 1) bal v → Q (.int (v - (0 - lim))) H')
section
variable {P : Program} {w : World} {K : PySem.W.Frag} {mg : Str → Option Value} {base : Heap} {T : Wt}
theorem ok_largest (kn : Kn K mg) (kx : Kx K) (kt : Kt K mg base T) : Okd P w K mg base (CX P w) 14 (ma K (ga K "Ledger") "largest_withdrawal") ["self", "name"] (spLargest K T) := by
  refine okd_of kn.m_Ledger_largest_withdrawal sc_Ledger_largest_withdrawal (fun vs H Q E h => ?_) (fun _ _ _ _ _ _ us hl => match us, hl with | [_, _], _ => rfl) (fun cdv A outer s H vs Q E hr h => ?_)
  · obtain ⟨l, pl, dxl, cal, fl, b, dx, ad, dd, ps, c, day, k, lim, bal, os, n, rfl, _⟩ := h
    rfl
  · obtain ⟨l, pl, dxl, cal, fl, b, dx, ad, dd, ps, c, day, k, lim, bal, os, n, rfl, L, hok, pb, tb, h1, h2, h3⟩ := h
    have cL := kn.cls "Ledger"
    have hab := pb_am pb
    refine ⟨_, (pss_cons (ps_set (i := 2) sc_Ledger_largest_withdrawal.nd rfl (.inl rfl) (pm (ok_account (T := T) kn kx) (kn.cls "Ledger") (kn.meth "Ledger" "account") (hr.mono (by decide)) pass0 (pv 0) (pa_cons (pv 1) pa_nil)))
      (pss_cons (ps_if (pt_cmp (pc_isN (pprop (ok_floor kn kx k) (pv 2) (Kd.cls kn k) (prop_floor kx k) (hr.mono (by decide)) pass0))) (pss_one (ps_ret pe_non)) pss_nil)
      (pss_one (ps_ret (pf (ok_safe_amount (T := T) kn kx kt) hr (kn.glo "safe_amount") (passes_call (takes_of (E := E) rfl rfl rfl rfl) (fun _ _ _ _ h => h)) (pa_cons (pm (ok_plan_for (T := T) kn) (kn.cls "Ledger") (kn.meth "Ledger" "plan_for") (hr.mono (by decide)) pass0 (pv 0) (pa_cons (pe_fld (pv 0) rfl) (pa_cons (pv 1) pa_nil))) (pa_cons (pprop (ok_balanceK kn kx k) (pv 2) (Kd.cls kn k) (prop_balance kx k) (hr.mono (by decide)) pass0) (pa_cons (pprop (ok_floor kn kx k) (pv 2) (Kd.cls kn k) (prop_floor kx k) (hr.mono (by decide)) pass0) (pa_cons (pprop (ok_led_today kn kx) (pv 0) cL (kx.prop ("Ledger", "today") (by decide +kernel)) (hr.mono (by decide)) pass0) pa_nil))))))))), ?_⟩
    refine ⟨_, rfl, l, dxl, _, rfl, L.obj, rfl, _, rfl, l, dxl, cal, pl, fl, b, dx, ad, dd, ps, c, day, k, lim, bal, os, rfl, L.obj, L.cal, L.book, hok, tb, fun a H2 g2 ha => ?_⟩
    obtain ⟨dxa, haa⟩ := id ha
    have L2' := L.gr0 g2
    refine ⟨_, rfl, a, dxa, _, rfl, haa, a, bobS, lim, bal, c, rfl, ha, ?_⟩
    cases hk : k with
    | op =>
      refine ⟨_, rfl, ?_⟩
      refine ite2 (fun _ => ?_) (fun h => absurd rfl h)
      exact h1 hk H2 g2
    | _ =>
      refine ⟨_, rfl, ?_⟩
      refine ite2 (fun h => by cases h) (fun _ => ?_)
      subst hk
      refine ⟨_, rfl, l, dxl, _, rfl, L2'.obj, rfl, _, rfl, l, _, dxl, _, _, rfl, L2'.obj, cL, kn.noat "Ledger" "books", rfl, _, rfl, l, dxl, cal, b, pl, fl, b, dx, ad, dd, ps, c, day, _, os, rfl, L2'.obj, L2'.cal, L2'.book, pb.ok.len, hab, g2.tb, fun plan H3 g3 hplan => ?_⟩
      have L3 := L2'.gr0 g3
      refine ⟨_, rfl, a, dxa, _, rfl, g3.get haa, a, _, bobS, lim, bal, c, rfl, ha.gr g3, ?_⟩
      refine ⟨_, rfl, a, dxa, _, rfl, g3.get haa, a, bobS, lim, bal, c, rfl, ha.gr g3, ?_⟩
      refine ⟨_, rfl, l, dxl, _, rfl, L3.obj, l, dxl, cal, b, pl, fl, dx, ad, dd, day, _, os, rfl, L3.obj, L3.book, ?_⟩
      refine ⟨plan, ps, c, day + 1, bal, 0 - lim, os, by rw [show day + 1 - 1 = day by omega]; rfl, hplan, pb, g3.tb, fun hd H4 g4 => h2 (fun z => by cases z) hd H4 ((g2.trans g3).trans g4), fun hd v H4 g4 hL => h3 (fun z => by cases z) hd v H4 ((g2.trans g3).trans g4) hL⟩
end
end So
end
section
set_option maxHeartbeats 4000000
/-! A ledger's earliest withdrawal. -/
namespace So
open PySem PySem.Spec PyProof.Rows L2 He
/-- on this day an account of the kind gives -/
def mayB (k : Kd) (cyc day : Int) : Bool := match k with
  | .sa => decide (day % cyc = 0)
  | _ => true
def spMay (K : PySem.W.Frag) (k : Kd) : Sp := fun vs H Q _ => ∃ (a : Addr) (nm : Str) (lim bal cyc day : Int), vs = [.ref a, .int day] ∧ AccAt K H a k nm lim bal cyc ∧ 1 ≤ cyc ∧ Q (.bl (mayB k cyc day)) H
/-- SavingsAccount.may_withdraw, by its walk -/
abbrev MaySa (P : Program) (w : World) (K : PySem.W.Frag) (mg : Str → Option Value) (base : Heap) : Prop := Okd P w K mg base CX0 4 (ma K (ga K "SavingsAccount") "may_withdraw") ["self", "day"] (spMay K .sa)
/-- the first day from d on, at most n days on, that gives -/
def nextMay (k : Kd) (cyc : Int) : Nat → Int → Int
  | 0, d => d
  | n + 1, d => if mayB k cyc d = true then d else nextMay k cyc n (d + 1)
/-- what is told: the first day that gives, from d on -/
def FirstMay (k : Kd) (cyc d r : Int) : Prop := d ≤ r ∧ mayB k cyc r = true ∧ ∀ x, d ≤ x → x < r → mayB k cyc x = false
def spEarliest (K : PySem.W.Frag) (T : Wt) : Sp := fun vs H Q _ => ∃ (l pl dxl cal fl b dx ad dd : Addr) (ps : List Int) (c day : Int) (k : Kd) (lim bal am : Int) (os : List Ord) (n : Nat), vs = [.ref l, .str bobS, .int am] ∧ LedP K H l pl dxl cal fl b dx ad dd ps c day (some (k, lim, bal)) os n ∧ AccOk k lim bal ∧ PlanB ps c (day + 1) os ∧ (1 ≤ am ∧ am ≤ 1000000000000000000) ∧ Tbs T H ∧
  (k = .op → ∀ H', Gr T H H' → Q (.int day) H') ∧ (k ≠ .op → everLow os c (day + 1) bal (0 - lim + am) → ∀ H', Gr T H H' → Q .non H') ∧
  (k ≠ .op → ∀ r q H', Gr T H H' → lastOf os c (day + 1) bal (0 - lim + am) r → FirstMay k c (fromOf (day + 1) r) q → Q (.int q) H')
section
variable {P : Program} {w : World} {K : PySem.W.Frag} {mg : Str → Option Value} {base : Heap} {T : Wt}
theorem ok_may (kn : Kn K mg) (kx : Kx K) (ms : MaySa P w K mg base) (k : Kd) : Okd P w K mg base CX0 4 (ma K (ga K k.cn) "may_withdraw") ["self", "day"] (spMay K k) := by
  cases k with
  | op => exact ((ok_Account_may kn).mono (by decide)).imp fun vs H Q E h => let ⟨a, _, _, _, _, day, e, _, _, q⟩ := h; ⟨a, day, e, q⟩
  | li =>
    rw [show ma K (ga K Kd.li.cn) "may_withdraw" = ma K (ga K "Account") "may_withdraw" from kx.mas ("LimitedAccount", "Account", "may_withdraw") (by decide +kernel)]
    exact ((ok_Account_may kn).mono (by decide)).imp fun vs H Q E h => let ⟨a, _, _, _, _, day, e, _, _, q⟩ := h; ⟨a, day, e, q⟩
  | sa => exact ms
theorem meth_may (kn : Kn K mg) (k : Kd) : Meth K (ga K k.cn) "may_withdraw" (ma K (ga K k.cn) "may_withdraw") := by
  cases k
  · exact kn.meth "Account" "may_withdraw"
  · exact kn.meth "LimitedAccount" "may_withdraw"
  · exact kn.meth "SavingsAccount" "may_withdraw"
/-- how far off the next day that gives is -/
def offM (k : Kd) (cyc d : Int) : Nat := match k with
  | .sa => ((0 - d) % cyc).toNat
  | _ => 0
theorem offM_step {k : Kd} {cyc d : Int} (h1 : 1 ≤ cyc) (h : mayB k cyc d = false) : offM k cyc (d + 1) < offM k cyc d := by
  cases k with
  | op => cases h
  | li => cases h
  | sa =>
    have h0 : ¬ d % cyc = 0 := fun z => by
      have : mayB .sa cyc d = true := decide_eq_true z
      rw [this] at h
      cases h
    show ((0 - (d + 1)) % cyc).toNat < ((0 - d) % cyc).toNat
    have a1 := Int.emod_nonneg (0 - d) (show cyc ≠ 0 by omega)
    have a2 := Int.emod_lt_of_pos (0 - d) (show 0 < cyc by omega)
    have n0 : (0 - d) % cyc ≠ 0 := fun z => h0 (by
      have hd : cyc ∣ (0 - d) := Int.dvd_of_emod_eq_zero z
      have hd2 : cyc ∣ d := by
        have := Int.dvd_neg.mpr hd
        rw [show -(0 - d) = d by omega] at this
        exact this
      exact Int.emod_eq_zero_of_dvd hd2)
    have e : (0 - (d + 1)) % cyc = (0 - d) % cyc - 1 := by
      have : 0 - (d + 1) = ((0 - d) % cyc - 1) + cyc * ((0 - d) / cyc) := by
        have := Int.emod_add_mul_ediv (0 - d) cyc
        omega
      rw [this, Int.add_mul_emod_self_left]
      exact Int.emod_eq_of_lt (by omega) (by omega)
    rw [e]
    omega
def muM (k : Kd) (c : Int) (σ : L2.St) (_ : Hp) : Nat := match σ[4]? with
  | some (some (V.int d)) => offM k c d
  | _ => 0
theorem mayB_op {cyc d : Int} : mayB .op cyc d = true := rfl
theorem ok_earliest (kn : Kn K mg) (kx : Kx K) (kt : Kt K mg base T) (ms : MaySa P w K mg base) : Okd P w K mg base CX0 10 (ma K (ga K "Ledger") "earliest_withdrawal") ["self", "name", "amount"] (spEarliest K T) := by
  refine okd_of kn.m_Ledger_earliest_withdrawal sc_Ledger_earliest_withdrawal (fun vs H Q E h => ?_) (fun _ _ _ _ _ _ us hl => match us, hl with | [_, _, _], _ => rfl) (fun cdv A outer s H vs Q E hr h => ?_)
  · obtain ⟨l, pl, dxl, cal, fl, b, dx, ad, dd, ps, c, day, k, lim, bal, am, os, n, rfl, _⟩ := h
    rfl
  · obtain ⟨l, pl, dxl, cal, fl, b, dx, ad, dd, ps, c, day, k, lim, bal, am, os, n, rfl, L, hok, pb, ⟨m1, m2⟩, tb, h1, h2, h3⟩ := h
    have cL := kn.cls "Ledger"
    have hab := pb_am pb
    refine ⟨_, PSs.nox (pss_cons (ps_set (i := 3) sc_Ledger_earliest_withdrawal.nd rfl (.inl rfl) (pm (ok_account (T := T) kn kx) (kn.cls "Ledger") (kn.meth "Ledger" "account") (hr.mono (by decide)) pass0 (pv 0) (pa_cons (pv 1) pa_nil)))
      (pss_cons (ps_expr (pf (ok_validate_amount kn) (hr.mono (by decide)) (kn.glo "validate_amount") pass0 (pa_cons (pv 2) (pa_cons pe_int (pa_cons (pe_gi (kn.int "MAX_AMOUNT" 1000000000000000000)) pa_nil)))))
      (pss_cons (ps_set (i := 4) sc_Ledger_earliest_withdrawal.nd rfl (.inl rfl) (pprop (ok_led_today kn kx) (pv 0) cL (kx.prop ("Ledger", "today") (by decide +kernel)) (hr.mono (by decide)) pass0))
      (pss_cons (ps_if (pt_cmp (pc_notN (pprop (ok_floor kn kx k) (pv 3) (Kd.cls kn k) (prop_floor kx k) (hr.mono (by decide)) pass0))) (pss_one (ps_set (i := 4) sc_Ledger_earliest_withdrawal.nd rfl (.inl rfl) (pf (ok_safe_from (T := T) kn kx kt) hr (kn.glo "safe_from") pass0 (pa_cons (pm (ok_plan_for (T := T) kn) (kn.cls "Ledger") (kn.meth "Ledger" "plan_for") (hr.mono (by decide)) pass0 (pv 0) (pa_cons (pe_fld (pv 0) rfl) (pa_cons (pv 1) pa_nil))) (pa_cons (pprop (ok_balanceK kn kx k) (pv 3) (Kd.cls kn k) (prop_balance kx k) (hr.mono (by decide)) pass0) (pa_cons (pprop (ok_floor kn kx k) (pv 3) (Kd.cls kn k) (prop_floor kx k) (hr.mono (by decide)) pass0) (pa_cons (pv 2) (pa_cons (pv 4) pa_nil)))))))) pss_nil)
      (pss_cons (ps_while PassesOwn.never (PW.pt (pw_and (pt_cmp (pc_notN (pv 4))) (pw_and1 (pt_not (pt_val (pm (ok_may kn kx ms k) (Kd.cls kn k) (meth_may kn k) (hr.mono (by decide)) pass0 (pv 3) (pa_cons (pv 4) pa_nil))))))) (pss_one (ps_aug (i := 4) sc_Ledger_earliest_withdrawal.nd rfl (.inl rfl) pe_int ip_add)))
      (pss_one (ps_ret (pv 4)))))))), ?_⟩
    refine ⟨_, rfl, l, dxl, _, rfl, L.obj, rfl, _, rfl, l, dxl, cal, pl, fl, b, dx, ad, dd, ps, c, day, k, lim, bal, os, rfl, L.obj, L.cal, L.book, hok, tb, fun a H2 g2 ha => ?_⟩
    obtain ⟨dxa, haa⟩ := id ha
    have L2' := L.gr0 g2
    refine ⟨_, rfl, am, 1, _, rfl, m1, m2, ?_⟩
    refine ⟨_, rfl, l, dxl, _, rfl, L2'.obj, l, dxl, cal, b, pl, fl, dx, ad, dd, day, _, os, rfl, L2'.obj, L2'.book, ?_⟩
    refine ⟨_, rfl, a, dxa, _, rfl, haa, a, bobS, lim, bal, c, rfl, ha, ?_⟩
    cases hk : k with
    | op =>
      refine ⟨_, rfl, ?_⟩
      refine ite2 (fun h => by cases h) (fun _ => ?_)
      subst hk
      refine while_by (fun σ H' => ∃ d, σ = [some (.ref l), some (.str bobS), some (.int am), some (.ref a), some (.int d)] ∧ Gr T H H' ∧ AccAt K H' a .op bobS lim bal c ∧ day ≤ d ∧ ∀ x, day ≤ x → x < d → mayB .op c x = false) (muM .op c) ⟨_, rfl, g2, ha, Int.le_refl _, fun x h1 h2 => absurd h2 (by omega)⟩ (fun σ H' hi => ?_) (fun σ H' R R' hq h => ?_)
      · obtain ⟨d, rfl, gd, had, hle, hall⟩ := hi
        obtain ⟨dxd, hadd⟩ := id had
        refine ⟨_, rfl, _, rfl, ?_⟩
        refine ite2 (fun _ => ?_) (fun h => absurd rfl h)
        refine ⟨_, rfl, a, dxd, _, rfl, hadd, rfl, _, rfl, a, bobS, lim, bal, c, d, rfl, had, pb.c1, _, rfl, ?_⟩
        cases hm : mayB .op c d with
        | true =>
          refine ite2 (fun h => by cases h) (fun _ => ?_)
          exact ⟨_, rfl, (by
            have ed : d = day := by
              by_cases hd : d = day
              · exact hd
              · have z := hall day (Int.le_refl _) (by omega)
                cases z
            rw [ed]
            exact h1 rfl H' gd)⟩
        | false =>
          refine ite2 (fun _ => ?_) (fun h => absurd rfl h)
          refine ⟨_, rfl, _, _, rfl, rfl, ⟨d + 1, rfl, gd, had, by omega, fun x h1 h2 => ?_⟩, offM_step pb.c1 hm⟩
          by_cases hx : x < d
          · exact hall x h1 hx
          · rw [show x = d by omega]; exact hm
      · obtain ⟨v, e, c0, ec, h⟩ := h
        refine ⟨v, e, c0, ec, ?_⟩
        cases c0 with
        | false => exact hq _ _ h
        | true =>
          obtain ⟨v1, e1, a1, d1, f1, e2, e3, e4, v2, e5, a2, n2, l2, b2, c2, y2, e6, e7, e8, c3, e9, h⟩ := h
          exact ⟨v1, e1, a1, d1, f1, e2, e3, e4, v2, e5, a2, n2, l2, b2, c2, y2, e6, e7, e8, c3, e9, hq _ _ h⟩
    | li =>
      refine ⟨_, rfl, ?_⟩
      refine ite2 (fun _ => ?_) (fun h => absurd rfl h)
      subst hk
      refine ⟨_, rfl, l, dxl, _, rfl, L2'.obj, rfl, _, rfl, l, _, dxl, _, _, rfl, L2'.obj, cL, kn.noat "Ledger" "books", rfl, _, rfl, l, dxl, cal, b, pl, fl, b, dx, ad, dd, ps, c, day, _, os, rfl, L2'.obj, L2'.cal, L2'.book, pb.ok.len, hab, g2.tb, fun plan H3 g3 hplan => ?_⟩
      refine ⟨_, rfl, a, dxa, _, rfl, g3.get haa, a, _, bobS, lim, bal, c, rfl, ha.gr g3, ?_⟩
      refine ⟨_, rfl, a, dxa, _, rfl, g3.get haa, a, bobS, lim, bal, c, rfl, ha.gr g3, ?_⟩
      refine ⟨_, rfl, _, rfl, plan, ps, c, day + 1, bal, 0 - lim, am, os, by rw [show day + 1 - 1 = day by omega]; rfl, hplan, pb, g3.tb, fun hev H4 g4 => ?_, fun r H4 g4 hl => ?_⟩
      · refine while_by (fun σ H' => σ = [some (.ref l), some (.str bobS), some (.int am), some (.ref a), some .non] ∧ Gr T H H') (fun _ _ => 0) ⟨rfl, (g2.trans g3).trans g4⟩ (fun σ H' hi => ?_) (fun σ H' R R' hq h => ?_)
        · obtain ⟨rfl, gd⟩ := hi
          refine ⟨_, rfl, _, rfl, ?_⟩
          refine ite2 (fun h => by cases h) (fun _ => ?_)
          refine ite2 (fun h => by cases h) (fun _ => ?_)
          exact ⟨_, rfl, h2 (fun z => by cases z) hev H' gd⟩
        · obtain ⟨v, e, c0, ec, h⟩ := h
          refine ⟨v, e, c0, ec, ?_⟩
          cases c0 with
          | false => exact hq _ _ h
          | true =>
            obtain ⟨v1, e1, a1, d1, f1, e2, e3, e4, v2, e5, a2, n2, l2, b2, c2, y2, e6, e7, e8, c3, e9, h⟩ := h
            exact ⟨v1, e1, a1, d1, f1, e2, e3, e4, v2, e5, a2, n2, l2, b2, c2, y2, e6, e7, e8, c3, e9, hq _ _ h⟩
      · refine while_by (fun σ H' => ∃ d, σ = [some (.ref l), some (.str bobS), some (.int am), some (.ref a), some (.int d)] ∧ Gr T H H' ∧ AccAt K H' a .li bobS lim bal c ∧ (fromOf (day + 1) r) ≤ d ∧ ∀ x, (fromOf (day + 1) r) ≤ x → x < d → mayB .li c x = false) (muM .li c) ⟨_, rfl, ((g2.trans g3).trans g4), ((ha.gr g3).gr g4), Int.le_refl _, fun x h1 h2 => absurd h2 (by omega)⟩ (fun σ H' hi => ?_) (fun σ H' R R' hq h => ?_)
        · obtain ⟨d, rfl, gd, had, hle, hall⟩ := hi
          obtain ⟨dxd, hadd⟩ := id had
          refine ⟨_, rfl, _, rfl, ?_⟩
          refine ite2 (fun _ => ?_) (fun h => absurd rfl h)
          refine ⟨_, rfl, a, dxd, _, rfl, hadd, rfl, _, rfl, a, bobS, lim, bal, c, d, rfl, had, pb.c1, _, rfl, ?_⟩
          cases hm : mayB .li c d with
          | true =>
            refine ite2 (fun h => by cases h) (fun _ => ?_)
            exact ⟨_, rfl, h3 (fun z => by cases z) r d H' gd hl ⟨hle, hm, hall⟩⟩
          | false =>
            refine ite2 (fun _ => ?_) (fun h => absurd rfl h)
            refine ⟨_, rfl, _, _, rfl, rfl, ⟨d + 1, rfl, gd, had, by omega, fun x h1 h2 => ?_⟩, offM_step pb.c1 hm⟩
            by_cases hx : x < d
            · exact hall x h1 hx
            · rw [show x = d by omega]; exact hm
        · obtain ⟨v, e, c0, ec, h⟩ := h
          refine ⟨v, e, c0, ec, ?_⟩
          cases c0 with
          | false => exact hq _ _ h
          | true =>
            obtain ⟨v1, e1, a1, d1, f1, e2, e3, e4, v2, e5, a2, n2, l2, b2, c2, y2, e6, e7, e8, c3, e9, h⟩ := h
            exact ⟨v1, e1, a1, d1, f1, e2, e3, e4, v2, e5, a2, n2, l2, b2, c2, y2, e6, e7, e8, c3, e9, hq _ _ h⟩
    | sa =>
      refine ⟨_, rfl, ?_⟩
      refine ite2 (fun _ => ?_) (fun h => absurd rfl h)
      subst hk
      refine ⟨_, rfl, l, dxl, _, rfl, L2'.obj, rfl, _, rfl, l, _, dxl, _, _, rfl, L2'.obj, cL, kn.noat "Ledger" "books", rfl, _, rfl, l, dxl, cal, b, pl, fl, b, dx, ad, dd, ps, c, day, _, os, rfl, L2'.obj, L2'.cal, L2'.book, pb.ok.len, hab, g2.tb, fun plan H3 g3 hplan => ?_⟩
      refine ⟨_, rfl, a, dxa, _, rfl, g3.get haa, a, _, bobS, lim, bal, c, rfl, ha.gr g3, ?_⟩
      refine ⟨_, rfl, a, dxa, _, rfl, g3.get haa, a, bobS, lim, bal, c, rfl, ha.gr g3, ?_⟩
      refine ⟨_, rfl, _, rfl, plan, ps, c, day + 1, bal, 0 - lim, am, os, by rw [show day + 1 - 1 = day by omega]; rfl, hplan, pb, g3.tb, fun hev H4 g4 => ?_, fun r H4 g4 hl => ?_⟩
      · refine while_by (fun σ H' => σ = [some (.ref l), some (.str bobS), some (.int am), some (.ref a), some .non] ∧ Gr T H H') (fun _ _ => 0) ⟨rfl, (g2.trans g3).trans g4⟩ (fun σ H' hi => ?_) (fun σ H' R R' hq h => ?_)
        · obtain ⟨rfl, gd⟩ := hi
          refine ⟨_, rfl, _, rfl, ?_⟩
          refine ite2 (fun h => by cases h) (fun _ => ?_)
          refine ite2 (fun h => by cases h) (fun _ => ?_)
          exact ⟨_, rfl, h2 (fun z => by cases z) hev H' gd⟩
        · obtain ⟨v, e, c0, ec, h⟩ := h
          refine ⟨v, e, c0, ec, ?_⟩
          cases c0 with
          | false => exact hq _ _ h
          | true =>
            obtain ⟨v1, e1, a1, d1, f1, e2, e3, e4, v2, e5, a2, n2, l2, b2, c2, y2, e6, e7, e8, c3, e9, h⟩ := h
            exact ⟨v1, e1, a1, d1, f1, e2, e3, e4, v2, e5, a2, n2, l2, b2, c2, y2, e6, e7, e8, c3, e9, hq _ _ h⟩
      · refine while_by (fun σ H' => ∃ d, σ = [some (.ref l), some (.str bobS), some (.int am), some (.ref a), some (.int d)] ∧ Gr T H H' ∧ AccAt K H' a .sa bobS lim bal c ∧ (fromOf (day + 1) r) ≤ d ∧ ∀ x, (fromOf (day + 1) r) ≤ x → x < d → mayB .sa c x = false) (muM .sa c) ⟨_, rfl, ((g2.trans g3).trans g4), ((ha.gr g3).gr g4), Int.le_refl _, fun x h1 h2 => absurd h2 (by omega)⟩ (fun σ H' hi => ?_) (fun σ H' R R' hq h => ?_)
        · obtain ⟨d, rfl, gd, had, hle, hall⟩ := hi
          obtain ⟨dxd, hadd⟩ := id had
          refine ⟨_, rfl, _, rfl, ?_⟩
          refine ite2 (fun _ => ?_) (fun h => absurd rfl h)
          refine ⟨_, rfl, a, dxd, _, rfl, hadd, rfl, _, rfl, a, bobS, lim, bal, c, d, rfl, had, pb.c1, _, rfl, ?_⟩
          cases hm : mayB .sa c d with
          | true =>
            refine ite2 (fun h => by cases h) (fun _ => ?_)
            exact ⟨_, rfl, h3 (fun z => by cases z) r d H' gd hl ⟨hle, hm, hall⟩⟩
          | false =>
            refine ite2 (fun _ => ?_) (fun h => absurd rfl h)
            refine ⟨_, rfl, _, _, rfl, rfl, ⟨d + 1, rfl, gd, had, by omega, fun x h1 h2 => ?_⟩, offM_step pb.c1 hm⟩
            by_cases hx : x < d
            · exact hall x h1 hx
            · rw [show x = d by omega]; exact hm
        · obtain ⟨v, e, c0, ec, h⟩ := h
          refine ⟨v, e, c0, ec, ?_⟩
          cases c0 with
          | false => exact hq _ _ h
          | true =>
            obtain ⟨v1, e1, a1, d1, f1, e2, e3, e4, v2, e5, a2, n2, l2, b2, c2, y2, e6, e7, e8, c3, e9, h⟩ := h
            exact ⟨v1, e1, a1, d1, f1, e2, e3, e4, v2, e5, a2, n2, l2, b2, c2, y2, e6, e7, e8, c3, e9, hq _ _ h⟩
end
end So
end
section
set_option maxHeartbeats 4000000
/-! Days pass. -/
namespace So
open PySem PySem.Spec PyProof.Rows L2 He
def spAddBal (K : PySem.W.Frag) (T : Wt) : Sp := fun vs H Q _ => ∃ (b dx ad dd : Addr) (day : Int) (k : Kd) (lim bal x : Int) (os : List Ord), vs = [.ref b, .str bobS, .int x] ∧ BookP K H b dx ad dd day (some (k, lim, bal)) os ∧ Tbs T H ∧
  ∀ H', GrB T (fun a => a = ad) H H' → BookP K H' b dx ad dd day (some (k, lim, bal + x)) os → Q (.int (bal + x)) H'
section
variable {P : Program} {w : World} {K : PySem.W.Frag} {mg : Str → Option Value} {base : Heap} {T : Wt}
theorem ok_add_balance (kn : Kn K mg) : Okd P w K mg base CX0 1 (ma K (ga K "Books") "add_balance") ["self", "name", "amount"] (spAddBal K T) := by
  refine okd_of kn.m_Books_add_balance sc_Books_add_balance (fun vs H Q E h => ?_) (fun _ _ _ _ _ _ us hl => match us, hl with | [_, _, _], _ => rfl) (fun cdv A outer s H vs Q E hr h => ?_)
  · obtain ⟨b, dx, ad, dd, day, k, lim, bal, x, os, rfl, _⟩ := h
    rfl
  · obtain ⟨b, dx, ad, dd, day, k, lim, bal, x, os, rfl, B, tb, hq⟩ := h
    have cB := kn.cls "Books"
    obtain ⟨t, h1, h2⟩ := B.acc
    have hdg : DGet H ad (.str bobS) (some (.ref t)) := DGet.k (k := Sum.inr bobS) h1
    refine ⟨_, PSs.nox (pss_cons (ps_asg (pe_dget (hu_of hr) (pe_fld (pv 0) rfl) (pv 1) (fun _ _ => rfl)) (pg_tup rfl (pgs_cons (pg_name (i := 3) sc_Books_add_balance.nd rfl (.inl rfl)) (pgs_cons (pg_name (i := 4) sc_Books_add_balance.nd rfl (.inl rfl)) (pgs_cons (pg_name (i := 5) sc_Books_add_balance.nd rfl (.inl rfl)) pgs_nil)))))
      (pss_cons (ps_dput (hu_of hr) (pe_fld (pv 0) rfl) (pv 1) (pe_tup (pa_cons (pv 3) (pa_cons (pv 4) (pa_cons (pe_op op_add (pv 5) (pv 2)) pa_nil)))) rfl)
      (pss_one (ps_ret (pe_op op_add (pv 5) (pv 2)))))), ?_⟩
    refine ⟨_, rfl, b, _, dx, _, _, rfl, B.obj, cB, kn.noat "Books" "accounts", rfl, _, rfl, ad, _, rfl, hdg, t, _, rfl, .inl (.inl h2), rfl, _, _, rfl, _, _, rfl, _, _, rfl, rfl, ?_⟩
    refine ⟨_, rfl, _, rfl, _, rfl, _, rfl, _, _, rfl, rfl, (by decide : 3 ≤ sizeLine), fun t2 ht2 => ?_⟩
    have g1 : Gr T H (upd H t2 (.tup [.str k.str, .int lim, .int (bal + x)])) := (Gr.refl tb).new ht2
    have ha1 := g1.get h1
    refine ⟨_, rfl, b, _, dx, _, _, rfl, g1.get B.obj, cB, kn.noat "Books" "accounts", rfl, _, rfl, ad, _, rfl, DPut.k (k := Sum.inr bobS) ha1 (by show 1 < sizeLine; decide), ?_⟩
    have g2 : GrB T (fun a => a = ad) H (upd (upd H t2 (.tup [.str k.str, .int lim, .int (bal + x)])) ad (.dK (putK [(Sum.inr bobS, .ref t)] (Sum.inr bobS) (.ref t2)))) := (Gr.to (S := fun a => a = ad) g1).set rfl ha1
    have nba : b ≠ ad := fun z => by
      have e1 := B.obj
      rw [z, h1] at e1
      cases e1
    obtain ⟨ts, hd1, hd2⟩ := B.due
    have tupk : ∀ a xs, (upd H t2 (.tup [.str k.str, .int lim, .int (bal + x)])) a = some (.tup xs) → (upd (upd H t2 (.tup [.str k.str, .int lim, .int (bal + x)])) ad (.dK (putK [(Sum.inr bobS, .ref t)] (Sum.inr bobS) (.ref t2)))) a = some (.tup xs) := fun a xs e => by
      rw [upd_ne (fun z => by rw [z, ha1] at e; cases e)]
      exact e
    refine ⟨_, rfl, _, rfl, _, _, rfl, rfl, ?_⟩
    exact hq _ g2 ⟨by rw [upd_ne nba]; exact g1.get B.obj, ⟨t2, by rw [upd_same]; rfl, tupk _ _ upd_same⟩, ⟨ts, by rw [upd_ne (Ne.symm B.ne)]; exact g1.get hd1, Paired.mapP hd2 fun u o e => tupk _ _ (g1.get e)⟩, B.ne⟩
end
end So
end
section
set_option maxHeartbeats 4000000
/-! The plain law: what orders pay, balances, cycles. -/
namespace So
open PySem PySem.Spec PyProof.Rows L2 He
def pay1 (o : Ord) (t : Int) : Int := if (t - o.2.1) % o.1 = 0 then o.2.2 else 0
/-- what the orders pay on day t -/
def payOn (os : List Ord) (t : Int) : Int := (os.map fun o => pay1 o t).sum
def due1 (o : Ord) (s0 t : Int) : Int := dueN o.1 o.2.1 s0 t * o.2.2
/-- the balance of day t, s0 the first day that is paid on -/
def bal (os : List Ord) (s0 op t : Int) : Int := op + (os.map fun o => due1 o s0 t).sum
theorem succ_div {x p : Int} (hp : 0 < p) : (x + 1) / p = x / p + if (x + 1) % p = 0 then 1 else 0 := by
  have h1 := Int.emod_add_mul_ediv x p
  have h2 := Int.emod_nonneg x (show p ≠ 0 by omega)
  have h3 := Int.emod_lt_of_pos x hp
  by_cases h : x % p + 1 = p
  · have e : x + 1 = 0 + p * (x / p + 1) := by rw [Int.mul_add, Int.mul_one]; omega
    have e1 : (x + 1) % p = 0 := by rw [e, Int.add_mul_emod_self_left]; exact Int.zero_emod _
    have e2 : (x + 1) / p = x / p + 1 := by rw [e, Int.add_mul_ediv_left _ _ (by omega), Int.zero_ediv]; omega
    rw [e1, e2, if_pos rfl]
  · have e : x + 1 = (x % p + 1) + p * (x / p) := by omega
    have e1 : (x + 1) % p = x % p + 1 := by
      rw [e, Int.add_mul_emod_self_left]
      exact Int.emod_eq_of_lt (by omega) (by omega)
    have e2 : (x + 1) / p = x / p := by
      rw [e, Int.add_mul_ediv_left _ _ (by omega), Int.ediv_eq_zero_of_lt (by omega) (by omega)]
      omega
    rw [e1, e2, if_neg (by omega)]
    omega
theorem dueN_eq {p d f l : Int} (hp : 0 < p) (h : f - 1 ≤ l) : dueN p d f l = (l - d) / p - (f - 1 - d) / p := by
  unfold dueN
  have := Int.ediv_le_ediv hp (show f - 1 - d ≤ l - d by omega)
  omega
theorem dueN_zero {p d f : Int} (hp : 0 < p) : dueN p d f (f - 1) = 0 := by
  rw [dueN_eq hp (Int.le_refl _)]
  omega
theorem dueN_succ {p d f l : Int} (hp : 0 < p) (h : f - 1 ≤ l) : dueN p d f (l + 1) = dueN p d f l + if (l + 1 - d) % p = 0 then 1 else 0 := by
  rw [dueN_eq hp h, dueN_eq hp (by omega)]
  have e : l + 1 - d = l - d + 1 := by omega
  rw [e, succ_div hp]
  omega
theorem dueN_add {p d f m l : Int} (hp : 0 < p) (h1 : f - 1 ≤ m) (h2 : m ≤ l) : dueN p d f l = dueN p d f m + dueN p d (m + 1) l := by
  rw [dueN_eq hp h1, dueN_eq hp (by omega), dueN_eq hp (by omega)]
  have e : m + 1 - 1 - d = m - d := by omega
  rw [e]
  omega
theorem sum_map_add {α : Type} (l : List α) (f g h : α → Int) (e : ∀ x ∈ l, f x = g x + h x) : (l.map f).sum = (l.map g).sum + (l.map h).sum := by
  induction l with
  | nil => rfl
  | cons a r ih =>
    simp only [List.map_cons, List.sum_cons]
    rw [ih fun x hx => e x (List.mem_cons_of_mem _ hx), e a List.mem_cons_self]
    omega
theorem sum_map_eq {α : Type} (l : List α) (f g : α → Int) (e : ∀ x ∈ l, f x = g x) : (l.map f).sum = (l.map g).sum := by
  rw [List.map_congr_left e]
theorem sum_map_zero {α : Type} (l : List α) (f : α → Int) (e : ∀ x ∈ l, f x = 0) : (l.map f).sum = 0 := by
  induction l with
  | nil => rfl
  | cons a r ih =>
    simp only [List.map_cons, List.sum_cons]
    rw [ih fun x hx => e x (List.mem_cons_of_mem _ hx), e a List.mem_cons_self]
    rfl
section
variable {os : List Ord} {c s0 op : Int}
theorem bal_start (h : ∀ o ∈ os, OrdOk c o) : bal os s0 op (s0 - 1) = op := by
  unfold bal
  rw [sum_map_zero _ _ fun o ho => ?_]
  · omega
  · unfold due1
    rw [dueN_zero (by have := (h o ho).p0; omega), Int.zero_mul]
theorem bal_succ (h : ∀ o ∈ os, OrdOk c o) {t : Int} (ht : s0 - 1 ≤ t) : bal os s0 op (t + 1) = bal os s0 op t + payOn os (t + 1) := by
  unfold bal payOn
  rw [sum_map_add os (fun o => due1 o s0 (t + 1)) (fun o => due1 o s0 t) (fun o => pay1 o (t + 1)) fun o ho => ?_]
  · omega
  · unfold due1 pay1
    rw [dueN_succ (by have := (h o ho).p0; omega) ht, Int.add_mul]
    split
    · rw [Int.one_mul]
    · rw [Int.zero_mul]
/-- counted from a later day on -/
theorem bal_from (h : ∀ o ∈ os, OrdOk c o) {T t a : Int} (h1 : s0 - 1 ≤ T) (h2 : T ≤ t) : bal os (T + 1) a t = a + (bal os s0 op t - bal os s0 op T) := by
  unfold bal
  rw [sum_map_add os (fun o => due1 o s0 t) (fun o => due1 o s0 T) (fun o => due1 o (T + 1) t) fun o ho => ?_]
  · omega
  · unfold due1
    rw [dueN_add (by have := (h o ho).p0; omega) h1 h2, Int.add_mul]
theorem bal_op (a b t : Int) : bal os s0 a t - a = bal os s0 b t - b := by
  unfold bal
  omega
/-! ### the totals' sum -/
theorem tot_sum (day : Int) : ∀ n, n ≤ os.length → (totItems os s0 day n).sum = ((os.take n).map fun o => dueAt o s0 day * o.2.2).sum := by
  intro n
  induction n with
  | zero => intro _; rfl
  | succ n ih =>
    intro hn
    have hget : os[n]? = some os[n] := List.getElem?_eq_getElem (by omega)
    rw [totItems_succ, List.sum_append, ih (by omega), List.take_succ, hget]
    simp only [Option.toList_some, List.map_append, List.sum_append, List.map_cons, List.map_nil, List.sum_cons, List.sum_nil]
    congr 1
    unfold totItem
    rw [hget]
    show (if 0 < dueAt os[n] s0 day then some (dueAt os[n] s0 day * os[n].2.2) else none).toList.sum = _
    by_cases hp : 0 < dueAt os[n] s0 day
    · rw [if_pos hp]
      simp
    · rw [if_neg hp]
      have h0 : dueAt os[n] s0 day = 0 := by
        have : 0 ≤ dueAt os[n] s0 day := by
          unfold dueAt
          split
          · unfold dueN; omega
          · omega
        omega
      rw [h0]
      simp
theorem balAt_eq {day : Int} (hd : s0 ≤ day) : balAt os s0 op day = bal os s0 op day := by
  unfold balAt bal
  rw [tot_sum day os.length (Nat.le_refl _), List.take_length]
  congr 2
  refine List.map_congr_left fun o _ => ?_
  unfold due1 dueAt
  rw [if_pos hd]
/-! ### the flow of one cycle -/
theorem getD_set {xs : List Int} {i j : Nat} {v : Int} : (xs.set i v).getD j 0 = if i = j ∧ i < xs.length then v else xs.getD j 0 := by
  simp only [List.getD_eq_getElem?_getD, List.getElem?_set]
  by_cases h : i = j
  · subst h
    by_cases h2 : i < xs.length
    · simp [h2]
    · simp [h2]
  · simp [h]
theorem addN_at {d p a : Int} {xs : List Int} (hp : 0 < p) (hd : 0 ≤ d) (j : Nat) : ∀ m : Nat, (∀ k : Nat, k < m → d + k * p < xs.length) → (addN d p a xs m).getD j 0 = xs.getD j 0 + if (∃ k : Nat, k < m ∧ d + k * p = j) then a else 0 := by
  intro m
  induction m with
  | zero =>
    intro _
    rw [if_neg (fun ⟨k, hk, _⟩ => by omega)]
    show xs.getD j 0 = _
    omega
  | succ m ih =>
    intro hm
    have hm' := ih fun k hk => hm k (by omega)
    show (List.set (addN d p a xs m) (d + m * p).toNat ((addN d p a xs m).getD (d + m * p).toNat 0 + a)).getD j 0 = _
    have hpos : 0 ≤ (m : Int) * p := Int.mul_nonneg (by omega) (by omega)
    have hlt := hm m (by omega)
    rw [getD_set, addN_len]
    by_cases e : d + m * p = j
    · have e1 : (d + m * p).toNat = j := by omega
      rw [e1, if_pos ⟨rfl, by omega⟩, hm']
      have nk : ¬ ∃ k : Nat, k < m ∧ d + k * p = j := fun ⟨k, hk, ek⟩ => by
        have z : (k : Int) * p = m * p := by omega
        have z2 := Int.eq_of_mul_eq_mul_right (show p ≠ 0 by omega) z
        omega
      rw [if_neg nk, if_pos ⟨m, by omega, e⟩]
      omega
    · rw [if_neg (fun z => e (by omega)), hm']
      congr 1
      by_cases q : ∃ k : Nat, k < m ∧ d + k * p = j
      · obtain ⟨k, hk, ek⟩ := q
        rw [if_pos ⟨k, hk, ek⟩, if_pos ⟨k, by omega, ek⟩]
      · have nk : ¬ ∃ k : Nat, k < m + 1 ∧ d + k * p = j := fun ⟨k, hk, ek⟩ => by
          by_cases hkm : k = m
          · subst hkm; exact e ek
          · exact q ⟨k, by omega, ek⟩
        rw [if_neg q, if_neg nk]
theorem flowAdd_at {o : Ord} {xs : List Int} (h : OrdOk c o) (c1 : 1 ≤ c) (hl : xs.length = c.toNat) {j : Nat} (hj : j < c.toNat) : (flowAdd c xs o).getD j 0 = xs.getD j 0 + pay1 o j := by
  have p0 := h.p0
  have d0 := h.d0
  have d1 := h.d1
  have hpc : o.1 ≤ c := Int.le_of_dvd (by omega) h.dv
  have hst : ∀ k : Nat, k < stepN o.2.1 c o.1 ↔ o.2.1 + k * o.1 < c := fun k => by
    unfold stepN
    have hq0 : 0 ≤ (c - o.2.1 - 1) / o.1 := Int.ediv_nonneg (by omega) (by omega)
    have hk : ((k : Int) ≤ (c - o.2.1 - 1) / o.1) ↔ (k : Int) * o.1 ≤ c - o.2.1 - 1 := Int.le_ediv_iff_mul_le (by omega)
    constructor
    · intro z
      have := hk.mp (by omega)
      omega
    · intro z
      have := hk.mpr (by omega)
      omega
  unfold flowAdd
  rw [addN_at (by omega) d0 j _ fun k hk => by have := (hst k).mp hk; rw [hl]; omega]
  congr 1
  unfold pay1
  by_cases q : ∃ k : Nat, k < stepN o.2.1 c o.1 ∧ o.2.1 + k * o.1 = j
  · obtain ⟨k, hk, ek⟩ := q
    rw [if_pos ⟨k, hk, ek⟩, if_pos]
    have : (j : Int) - o.2.1 = k * o.1 := by omega
    rw [this]
    exact Int.mul_emod_left _ _
  · rw [if_neg q, if_neg]
    intro z
    have hdv := Int.emod_add_mul_ediv ((j : Int) - o.2.1) o.1
    rw [z] at hdv
    have hge : -1 < ((j : Int) - o.2.1) / o.1 := by
      have : -1 * o.1 < (j : Int) - o.2.1 := by omega
      by_cases hz : ((j : Int) - o.2.1) / o.1 ≤ -1
      · have := Int.mul_le_mul_of_nonneg_left hz (show 0 ≤ o.1 by omega)
        omega
      · omega
    have ek : o.2.1 + ((((j : Int) - o.2.1) / o.1).toNat : Int) * o.1 = j := by
      rw [Int.toNat_of_nonneg (by omega), Int.mul_comm]
      omega
    exact q ⟨_, (hst _).mpr (by omega), ek⟩
theorem flows_at_gen (c1 : 1 ≤ c) : ∀ (l : List Ord) (xs : List Int), (∀ o ∈ l, OrdOk c o) → xs.length = c.toNat → ∀ {j : Nat}, j < c.toNat → (l.foldl (flowAdd c) xs).getD j 0 = xs.getD j 0 + payOn l j := by
  intro l
  induction l with
  | nil => intro xs _ _ j _; show xs.getD j 0 = _ + 0; omega
  | cons o r ih =>
    intro xs h hl j hj
    rw [List.foldl_cons, ih _ (fun o ho => h o (List.mem_cons_of_mem _ ho)) (by rw [show (flowAdd c xs o).length = xs.length from addN_len ..]; exact hl) hj, flowAdd_at (h o List.mem_cons_self) c1 hl hj]
    unfold payOn
    rw [List.map_cons, List.sum_cons]
    omega
theorem flows_at (h : ∀ o ∈ os, OrdOk c o) (c1 : 1 ≤ c) {j : Nat} (hj : j < c.toNat) : (flows c os).getD j 0 = payOn os j := by
  unfold flows
  rw [flows_at_gen c1 os _ h (List.length_replicate ..) hj]
  have : (List.replicate c.toNat (0 : Int)).getD j 0 = 0 := by
    rw [List.getD_eq_getElem?_getD, List.getElem?_replicate]
    split <;> rfl
  omega
theorem pay1_per {o : Ord} (h : OrdOk c o) (t k : Int) : pay1 o (t + c * k) = pay1 o t := by
  unfold pay1
  obtain ⟨m, hm⟩ := h.dv
  have e : t + c * k - o.2.1 = t - o.2.1 + o.1 * (m * k) := by rw [hm, Int.mul_assoc]; omega
  rw [e, Int.add_mul_emod_self_left]
theorem payOn_per (h : ∀ o ∈ os, OrdOk c o) (t k : Int) : payOn os (t + c * k) = payOn os t := sum_map_eq _ _ _ fun o ho => pay1_per (h o ho) t k
theorem payOn_mod (h : ∀ o ∈ os, OrdOk c o) (c1 : 1 ≤ c) (t : Int) : (flows c os).getD (t % c).toNat 0 = payOn os t := by
  have h2 := Int.emod_nonneg t (show c ≠ 0 by omega)
  have h3 := Int.emod_lt_of_pos t (show 0 < c by omega)
  rw [flows_at h c1 (by omega), Int.toNat_of_nonneg h2]
  have e := Int.emod_add_mul_ediv t c
  rw [← payOn_per h (t % c) (t / c), e]
theorem amt_eq (h : ∀ o ∈ os, OrdOk c o) (c1 : 1 ≤ c) (i : Nat) : amt os c s0 op s0 i = bal os s0 op (s0 + i) := by
  induction i with
  | zero =>
    show balAt _ _ _ _ = _
    rw [balAt_eq (Int.le_refl _)]
    simp
  | succ i ih =>
    show amt os c s0 op s0 i + _ = _
    rw [ih, payOn_mod h c1]
    have e : s0 + ((i + 1 : Nat) : Int) = s0 + i + 1 := by omega
    have e2 : s0 + 1 + (i : Int) = s0 + i + 1 := by omega
    rw [e, e2, bal_succ h (by omega)]
/-! ### a whole cycle -/
def cyc (os : List Ord) (u : Int) (n : Nat) : Int := ((List.range n).map fun (r : Nat) => payOn os (u + r)).sum
theorem cyc_last (u : Int) (n : Nat) : cyc os u (n + 1) = cyc os u n + payOn os (u + n) := by
  unfold cyc
  rw [List.range_succ, List.map_append, List.sum_append]
  simp
theorem cyc_first (u : Int) (n : Nat) : cyc os u (n + 1) = payOn os u + cyc os (u + 1) n := by
  induction n with
  | zero => simp [cyc]
  | succ n ih =>
    rw [cyc_last, ih, cyc_last]
    have e : u + ((n + 1 : Nat) : Int) = u + 1 + n := by omega
    rw [e]
    omega
theorem cyc_shift (h : ∀ o ∈ os, OrdOk c o) (c1 : 1 ≤ c) (u : Int) : cyc os (u + 1) c.toNat = cyc os u c.toNat := by
  have a := cyc_first (os := os) u c.toNat
  have b := cyc_last (os := os) u c.toNat
  have e : u + ((c.toNat : Nat) : Int) = u + c * 1 := by omega
  rw [e, payOn_per h] at b
  omega
theorem cyc_zero (h : ∀ o ∈ os, OrdOk c o) (c1 : 1 ≤ c) (u : Int) : cyc os u c.toNat = cyc os 0 c.toNat := by
  have up : ∀ n : Nat, cyc os (n : Int) c.toNat = cyc os 0 c.toNat := fun n => by
    induction n with
    | zero => rfl
    | succ n ih => rw [← ih, ← cyc_shift h c1 n]; rfl
  have dn : ∀ n : Nat, cyc os (-(n : Int)) c.toNat = cyc os 0 c.toNat := fun n => by
    induction n with
    | zero => rfl
    | succ n ih =>
      rw [← ih, ← cyc_shift h c1 (-((n + 1 : Nat) : Int))]
      have e : -((n + 1 : Nat) : Int) + 1 = -(n : Int) := by omega
      rw [e]
  by_cases z : 0 ≤ u
  · rw [← Int.toNat_of_nonneg z]; exact up _
  · have e : u = -((-u).toNat : Int) := by omega
    rw [e]; exact dn _
theorem drf_eq (h : ∀ o ∈ os, OrdOk c o) (c1 : 1 ≤ c) (u : Int) : cyc os u c.toNat = drf os c := by
  rw [cyc_zero h c1]
  unfold cyc drf
  congr 1
  refine List.ext_getElem (by rw [List.length_map, List.length_range, flows_len]) fun i h1 h2 => ?_
  rw [flows_len] at h2
  have z := flows_at h c1 h2
  rw [List.getD_eq_getElem?_getD, List.getElem?_eq_getElem (by rw [flows_len]; exact h2)] at z
  simp only [List.getElem_map, List.getElem_range, Int.zero_add]
  exact z.symm
theorem bal_cyc (h : ∀ o ∈ os, OrdOk c o) {t : Int} (ht : s0 - 1 ≤ t) (n : Nat) : bal os s0 op (t + n) = bal os s0 op t + cyc os (t + 1) n := by
  induction n with
  | zero => simp [cyc]
  | succ n ih =>
    have e : t + ((n + 1 : Nat) : Int) = t + n + 1 := by omega
    rw [e, bal_succ h (by omega), ih, cyc_last]
    have e2 : t + 1 + (n : Int) = t + n + 1 := by omega
    rw [e2]
    omega
theorem bal_turn (h : ∀ o ∈ os, OrdOk c o) (c1 : 1 ≤ c) {t : Int} (ht : s0 - 1 ≤ t) (k : Nat) : bal os s0 op (t + k * c) = bal os s0 op t + k * drf os c := by
  induction k with
  | zero => simp
  | succ k ih =>
    have hk : 0 ≤ (k : Int) * c := Int.mul_nonneg (by omega) (by omega)
    have e : t + ((k + 1 : Nat) : Int) * c = t + k * c + (c.toNat : Nat) := by
      rw [show ((k + 1 : Nat) : Int) = (k : Int) + 1 by omega, Int.add_mul, Int.one_mul]
      omega
    rw [e, bal_cyc h (by omega), ih, drf_eq h c1]
    rw [show ((k + 1 : Nat) : Int) = (k : Int) + 1 by omega, Int.add_mul, Int.one_mul]
    omega
end
end So
end
section
set_option maxHeartbeats 4000000
/-! Days pass, in a ledger of an open account. -/
namespace So
open PySem PySem.Spec PyProof.Rows L2 He
/-- what the first n orders paid -/
def dueS (os : List Ord) (s0 last : Int) (n : Nat) : Int := ((os.take n).map fun o => due1 o s0 last).sum
theorem dueS_succ {os : List Ord} {s0 last : Int} {n : Nat} {o : Ord} (h : os[n]? = some o) : dueS os s0 last (n + 1) = dueS os s0 last n + due1 o s0 last := by
  unfold dueS
  rw [List.take_succ, h]
  simp
theorem dueS_all {os : List Ord} {s0 op last : Int} : op + dueS os s0 last os.length = bal os s0 op last := by
  unfold dueS bal
  rw [List.take_length]
def spPass (K : PySem.W.Frag) (T : Wt) : Sp := fun vs H Q _ => ∃ (l pl dxl cal fl b dx ad dd : Addr) (ps : List Int) (c day lim bal0 cnt : Int) (os : List Ord) (n : Nat), vs = [.ref l, .int cnt] ∧ LedP K H l pl dxl cal fl b dx ad dd ps c day (some (.op, lim, bal0)) os n ∧ n < 1000 ∧ AccOk .op lim bal0 ∧ PlanB ps c (day + 1) os ∧ (0 ≤ cnt ∧ cnt ≤ 1000000000000000000) ∧ Tbs T H ∧
  ∀ fl' b' dx' ad' dd' p H', GrB T (SL l pl) H H' → LedP K H' l pl dxl cal fl' b' dx' ad' dd' ps c (day + cnt) (some (.op, lim, bal os (day + 1) bal0 (day + cnt))) os (n + 1) → Q (.ref p) H'
section
variable {P : Program} {w : World} {K : PySem.W.Frag} {mg : Str → Option Value} {base : Heap} {T : Wt}
theorem pt_never {X : Cx} {e : Expr} : PT X e (fun _ _ _ => False) := ⟨fun _ _ _ _ _ _ h => h.elim⟩
theorem ok_pass_days (kn : Kn K mg) (kx : Kx K) (kt : Kt K mg base T) : Okd P w K mg base CX0 10 (ma K (ga K "Ledger") "pass_days") ["self", "count"] (spPass K T) := by
  refine okd_of kn.m_Ledger_pass_days sc_Ledger_pass_days (fun vs H Q E h => ?_) (fun _ _ _ _ _ _ us hl => match us, hl with | [_, _], _ => rfl) (fun cdv A outer s H vs Q E hr h => ?_)
  · obtain ⟨l, pl, dxl, cal, fl, b, dx, ad, dd, ps, c, day, lim, bal0, cnt, os, n, rfl, _⟩ := h
    rfl
  · obtain ⟨l, pl, dxl, cal, fl, b, dx, ad, dd, ps, c, day, lim, bal0, cnt, os, n, rfl, L, hn, hok, pb, ⟨n1, n2⟩, tb, hq⟩ := h
    have cL := kn.cls "Ledger"
    have cB := kn.cls "Books"
    have hab := pb_am pb
    obtain ⟨xs, hp, hxs⟩ := L.past
    refine ⟨_, PSs.nox (pss_cons (ps_if (PW.pt (pw_or (pt_not (pt_val (pf (ok_is_integer kn) (hr.mono (by decide)) (kn.glo "is_integer") pass0 (pa_cons (pv 1) pa_nil)))) (pw_or1 (pt_not (pt_chain op_le op_le pe_int (pv 1) (pe_gi (kn.int "MAX_DAYS" 1000000000000000000))))))) (pss_one ps_never) pss_nil)
      (pss_cons (ps_par (i := 2) (j := 3) rfl sc_Ledger_pass_days.nd rfl rfl (by decide) rfl rfl (pa_cons (pm0 (ok_first_overdraft (T := T) kn kx kt) cL (kn.meth "Ledger" "first_overdraft") hr pass0 (pv 0)) (pa_cons (pe_op op_add (pprop (ok_led_today kn kx) (pv 0) cL (kx.prop ("Ledger", "today") (by decide +kernel)) (hr.mono (by decide)) pass0) (pv 1)) pa_nil)) rfl)
      (pss_cons (ps_if (PW.pt (pw_and (pt_cmp (pc_notN (pv 2))) (pw_and1 pt_never))) (pss_one ps_never) pss_nil)
      (pss_cons (ps_set (i := 4) sc_Ledger_pass_days.nd rfl (.inr rfl) (pm0 (ok_copied (T := T) kn) cB (kn.meth "Books" "copied") (hr.mono (by decide)) pass0 (pe_fld (pv 0) rfl)))
      (pss_cons (ps_for PassesOwn.never rfl (pi_list (pprop (ok_led_names (T := T) kn kx) (pv 0) cL (kx.prop ("Ledger", "names") (by decide +kernel)) (hr.mono (by decide)) pass0)) (pg_name (i := 5) sc_Ledger_pass_days.nd rfl (.inl rfl)) (pss_one (ps_for PassesOwn.never rfl (pi_list (pm (ok_payments (T := T) kn) cB (kn.meth "Books" "payments") (hr.mono (by decide)) pass0 (pe_fld (pv 0) rfl) (pa_cons (pv 5) pa_nil))) (pg_tup rfl (pgs_cons (pg_name (i := 6) sc_Ledger_pass_days.nd rfl (.inl rfl)) (pgs_cons (pg_name (i := 7) sc_Ledger_pass_days.nd rfl (.inl rfl)) (pgs_cons (pg_name (i := 8) sc_Ledger_pass_days.nd rfl (.inl rfl)) (pgs_cons (pg_name (i := 9) sc_Ledger_pass_days.nd rfl (.inl rfl)) pgs_nil))))) (pss_one (ps_expr (pm (ok_add_balance (T := T) kn) cB (kn.meth "Books" "add_balance") (hr.mono (by decide)) pass0 (pv 4) (pa_cons (pv 5) (pa_cons (pe_op op_mul (pv 9) (pf (ok_days_due kn) (hr.mono (by decide)) (kn.glo "days_due") pass0 (pa_cons (pv 7) (pa_cons (pv 8) (pa_cons (pe_op op_add (pprop (ok_led_today kn kx) (pv 0) cL (kx.prop ("Ledger", "today") (by decide +kernel)) (hr.mono (by decide)) pass0) pe_int) (pa_cons (pv 3) pa_nil)))))) pa_nil))))))))
      (pss_cons (ps_fld (pv 4) (pv 3) rfl)
      (pss_cons (ps_expr (pm (ok_commit (T := T) kn) cL (kn.meth "Ledger" "commit") (hr.mono (by decide)) pass0 (pv 0) (pa_cons (pe_tup (pa_cons pe_str (pa_cons (pv 1) pa_nil))) (pa_cons (pv 4) pa_nil))))
      (pss_one (ps_ret (pe_lc (g := gName 5) (own := [("name", 5)]) rfl sc_Ledger_pass_days.nd (pi_list (pprop (ok_led_names (T := T) kn kx) (pv 0) cL (kx.prop ("Ledger", "names") (by decide +kernel)) (hr.mono (by decide)) pass0)) (blkOk_by rfl) (fun _ _ _ _ _ => pg_name (i := 5) sc_Ledger_pass_days.nd rfl (.inl rfl) (.inr rfl)) (fun _ _ _ _ _ => pts_nil)
        (te := tTup (tCons (tVar 5) (tCons (tOp (rIxT K) (tDGet (tFld K (tVar 4) "accounts") (tVar 5)) (tC (.int 2))) tNil)))
        (fun _ _ _ _ _ => pe_tup (pa_cons (pv 5) (pa_cons (pe_ix ix_tup (pe_dget (hu_of hr) (pe_fld (pv 4) rfl) (pv 5) (fun _ _ => rfl)) pe_int (fun _ _ => rfl)) pa_nil))))))))))))), ?_⟩
    refine ⟨_, rfl, _, rfl, _, rfl, ?_⟩
    refine ite2 (fun h => by cases h) (fun _ => ?_)
    refine ⟨_, rfl, _, _, rfl, rfl, _, rfl, ?_⟩
    refine ite2 (fun h => ?_) (fun h => absurd (decide_eq_true n1) h)
    refine ⟨_, _, rfl, rfl, _, rfl, ?_⟩
    rw [decide_eq_true n2]
    refine ite2 (fun h => by cases h) (fun _ => ?_)
    refine ⟨_, rfl, l, dxl, _, rfl, L.obj, rfl, l, pl, dxl, cal, fl, b, dx, ad, dd, ps, c, day, .op, lim, bal0, os, n, rfl, L, hok, pb, hab, tb, fun _ H1 g1 => ?_, fun z => absurd rfl z⟩
    have L1 := L.gr0 g1
    refine ⟨_, rfl, l, dxl, _, rfl, L1.obj, l, dxl, cal, b, pl, fl, dx, ad, dd, day, _, os, rfl, L1.obj, L1.book, _, rfl, _, _, rfl, rfl, _, _, rfl, ?_⟩
    refine ⟨_, rfl, _, rfl, ?_⟩
    refine ite2 (fun h => by cases h) (fun _ => ?_)
    refine ite2 (fun h => by cases h) (fun _ => ?_)
    refine ⟨_, rfl, l, _, dxl, _, _, rfl, L1.obj, cL, kn.noat "Ledger" "books", rfl, b, dx, _, rfl, L1.book.obj, rfl, b, dx, ad, dd, day, _, os, rfl, L1.book, g1.tb, fun b' dx' ad' dd' H2 g2 nb na nd B2 => ?_⟩
    have g02 := g1.trans g2
    have nb0 : H b' = none := g1.nn nb
    have na0 : H ad' = none := g1.nn na
    have nd0 : H dd' = none := g1.nn nd
    have L2' := L1.gr0 g2
    refine ⟨_, rfl, l, dxl, _, rfl, L2'.obj, l, dxl, cal, b, pl, fl, dx, ad, dd, day, _, os, rfl, L2'.obj, L2'.book, g2.tb, fun p H3 g3 hpn e3 => ?_⟩
    refine ⟨p, rfl, ⟨_, .inl (.inl e3)⟩, ?_⟩
    have B3 := B2.gr0 g3
    refine for_list (xs := [.str bobS]) (fun i σ H' => (∃ a5 a6 a7 a8 a9, σ = [some (.ref l), some (.int cnt), some .non, some (.int (day + cnt)), some (.ref b'), a5, a6, a7, a8, a9]) ∧ Gr T H H' ∧ H' p = some (.lst [.str bobS]) ∧ ((i = 0 ∧ BookP K H' b' dx' ad' dd' day (some (.op, lim, bal0)) os) ∨ (i = 1 ∧ BookP K H' b' dx' ad' dd' day (some (.op, lim, bal os (day + 1) bal0 (day + cnt))) os)))
      ⟨⟨_, _, _, _, _, rfl⟩, g02.trans g3, e3, .inl ⟨rfl, B3⟩⟩ (fun i σ H' _ hi => .inl (.inl hi.2.2.1)) (fun i x σ H' hx hi => ?_) (fun σ H' hi => ?_)
    · obtain ⟨⟨a5, a6, a7, a8, a9, rfl⟩, g, hpp, hcase⟩ := hi
      have ex : i = 0 ∧ x = .str bobS := by
        cases i with
        | zero => cases hx; exact ⟨rfl, rfl⟩
        | succ i => cases hx
      obtain ⟨rfl, rfl⟩ := ex
      have B4 : BookP K H' b' dx' ad' dd' day (some (.op, lim, bal0)) os := by
        rcases hcase with ⟨_, z⟩ | ⟨z, _⟩
        · exact z
        · cases z
      have L4 := L.gr0 g
      refine ⟨_, rfl, l, _, dxl, _, _, rfl, L4.obj, cL, kn.noat "Ledger" "books", rfl, b, dx, _, rfl, L4.book.obj, rfl, _, rfl, b, dx, ad, dd, day, _, os, rfl, L4.book, pb.ok.len, hab, g.tb, fun l1 ts H5 g5 hl1 e5 hpay => ?_⟩
      refine ⟨l1, rfl, ⟨_, .inl (.inl e5)⟩, ?_⟩
      have g05 := g.trans g5
      have B5 := B4.gr0 g5
      refine for_list (xs := ts.map V.ref) (fun j σ H' => (∃ a6 a7 a8 a9, σ = [some (.ref l), some (.int cnt), some .non, some (.int (day + cnt)), some (.ref b'), some (.str bobS), a6, a7, a8, a9]) ∧ Gr T H H' ∧ H' p = some (.lst [.str bobS]) ∧ H' l1 = some (.lst (ts.map V.ref)) ∧ PayP H' ts os os.length ∧ BookP K H' b' dx' ad' dd' day (some (.op, lim, bal0 + dueS os (day + 1) (day + cnt) j)) os)
        ⟨⟨_, _, _, _, rfl⟩, g05, g5.get hpp, e5, hpay, by
          rw [show bal0 + dueS os (day + 1) (day + cnt) 0 = bal0 by show bal0 + 0 = bal0; omega]
          exact B5⟩ (fun j σ H' _ hj => .inl (.inl hj.2.2.2.1)) (fun j x σ H' hx hj => ?_) (fun σ H' hj => ?_)
      · obtain ⟨⟨a6, a7, a8, a9, rfl⟩, gj, hppj, hl1j, hpayj, Bj⟩ := hj
        obtain ⟨t, ht, rfl⟩ := map_ref_at hx
        obtain ⟨o, ho, hto⟩ := hpayj.2 j t ht
        have hoo := pb.ord o (List.mem_of_getElem? ho)
        have hp0 := hoo.p0
        have hpc : o.1 ≤ c := Int.le_of_dvd (by have := pb.c1; omega) hoo.dv
        have c2 := pb.c2
        have ha0 := hoo.a0
        have ha1 := hoo.a1
        have Lj := L.gr0 gj
        refine ⟨t, _, rfl, .inl (.inl hto), rfl, _, _, rfl, _, _, rfl, _, _, rfl, _, _, rfl, rfl, ?_⟩
        refine ⟨_, rfl, b', dx', _, rfl, Bj.obj, rfl, _, rfl, _, rfl, _, rfl, _, rfl, _, rfl, l, dxl, _, rfl, Lj.obj, l, dxl, cal, b, pl, fl, dx, ad, dd, day, _, os, rfl, Lj.obj, Lj.book, _, _, rfl, rfl, _, rfl, o.1, o.2.1, day + 1, day + cnt, rfl, by omega, by omega, ?_⟩
        refine ⟨_, _, rfl, rfl, .inl ⟨by omega, by omega⟩, ?_⟩
        refine ⟨b', dx', ad', dd', day, .op, lim, _, _, os, rfl, Bj, gj.tb, fun H6 g6 B6 => ?_⟩
        have gj6 : Gr T H H6 := gj.news g6 fun a z => by rw [z]; exact na0
        have nad : ∀ {a o'}, H' a = some o' → (∀ kvs, o' ≠ .dK kvs) → ¬ a = ad' := fun {a o'} e nk z => by
          obtain ⟨tt, e1, _⟩ := Bj.acc
          rw [z, e1] at e
          exact nk _ (Option.some.inj e).symm
        refine ⟨⟨_, _, _, _, rfl⟩, gj6, g6.at hppj (nad hppj fun _ z => by cases z), g6.at hl1j (nad hl1j fun _ z => by cases z), hpayj.ext (fun a xs e => g6.at e (nad e fun _ z => by cases z)), ?_⟩
        have eb : bal0 + dueS os (day + 1) (day + cnt) (j + 1) = bal0 + dueS os (day + 1) (day + cnt) j + o.2.2 * dueN o.1 o.2.1 (day + 1) (day + cnt) := by
          rw [dueS_succ ho, Int.mul_comm o.2.2]
          unfold due1
          omega
        rw [eb]
        exact B6
      · obtain ⟨⟨a6, a7, a8, a9, rfl⟩, gj, hppj, hl1j, hpayj, Bj⟩ := hj
        rw [List.length_map, hpayj.1, dueS_all] at Bj
        exact ⟨⟨_, _, _, _, _, rfl⟩, gj, hppj, .inr ⟨rfl, Bj⟩⟩
    · obtain ⟨⟨a5, a6, a7, a8, a9, rfl⟩, g, hpp, hcase⟩ := hi
      have B4 : BookP K H' b' dx' ad' dd' day (some (.op, lim, bal os (day + 1) bal0 (day + cnt))) os := by
        rcases hcase with ⟨z, _⟩ | ⟨_, z⟩
        · cases z
        · exact z
      have L4 := L.gr0 g
      refine ⟨_, rfl, _, rfl, b', _, dx', _, rfl, B4.obj, cB, kn.noat "Books" "day_number", (by decide : 4 < 1000), ?_⟩
      have g5 : Gr T H (upd H' b' (.ins (ga K "Books") dx' (bookF (day + cnt) ad' dd' ((os.length : Int) + 1)))) := g.turn nb0 B4.obj
      have keep5 : ∀ a o, H' a = some o → a ≠ b' → (upd H' b' (.ins (ga K "Books") dx' (bookF (day + cnt) ad' dd' ((os.length : Int) + 1)))) a = some o := fun a o e z => by rw [upd_ne z]; exact e
      have nbo : ∀ {a o}, H' a = some o → (∀ C d f, o ≠ .ins C d f) → a ≠ b' := fun {a o} e nk z => by
        rw [z, B4.obj] at e
        exact nk _ _ _ (Option.some.inj e).symm
      have B5 : BookP K (upd H' b' (.ins (ga K "Books") dx' (bookF (day + cnt) ad' dd' ((os.length : Int) + 1)))) b' dx' ad' dd' (day + cnt) (some (.op, lim, bal os (day + 1) bal0 (day + cnt))) os := by
        obtain ⟨tt, e1, e2⟩ := B4.acc
        obtain ⟨ts, d1, d2⟩ := B4.due
        exact ⟨upd_same, ⟨tt, keep5 _ _ e1 (nbo e1 fun _ _ _ z => by cases z), keep5 _ _ e2 (nbo e2 fun _ _ _ z => by cases z)⟩, ⟨ts, keep5 _ _ d1 (nbo d1 fun _ _ _ z => by cases z), Paired.mapP d2 fun u o e => keep5 _ _ e (nbo e fun _ _ _ z => by cases z)⟩, B4.ne⟩
      have L5 := L.gr0 g5
      rw [show putF ("day_number" : Str) (V.int (day + cnt)) (bookF day ad' dd' ((os.length : Int) + 1)) = bookF (day + cnt) ad' dd' ((os.length : Int) + 1) from rfl]
      generalize (upd H' b' (.ins (ga K "Books") dx' (bookF (day + cnt) ad' dd' ((os.length : Int) + 1)))) = H5 at g5 B5 L5 ⊢
      refine ⟨_, rfl, l, dxl, _, rfl, L5.obj, rfl, _, rfl, (by decide : 2 ≤ sizeLine), fun q hqn => ?_⟩
      have g6 : Gr T H5 (upd H5 q (.tup [.str "pass_days", .int cnt])) := (Gr.refl g5.tb).new hqn
      have L6 := L5.gr0 g6
      have B6 := B5.gr0 g6
      have g06 := g5.trans g6
      generalize (upd H5 q (.tup [.str "pass_days", .int cnt])) = H6 at g6 L6 B6 g06 ⊢
      refine ⟨_, rfl, l, dxl, cal, b, pl, fl, q, b', xs, rfl, L6.obj, g06.get hp, by omega, g6.tb, fun fl' xs' H7 g7 e1 e2 e3' => ?_⟩
      have nl : ∀ {a}, H a = none → ¬ SL l pl a := fun {a} h z => by
        rcases z with z | z
        · rw [z, L.obj] at h; cases h
        · rw [z, hp] at h; cases h
      have tupn : ∀ (t : Addr) xs', H6 t = some (.tup xs') → ¬ SL l pl t := fun t ys e z => by
        rcases z with z | z
        · rw [z, L6.obj] at e; cases e
        · rw [z, g06.get hp] at e; cases e
      have B7 : BookP K H7 b' dx' ad' dd' (day + cnt) (some (.op, lim, bal os (day + 1) bal0 (day + cnt))) os := B6.gr g7 (nl nb0) (nl na0) (nl nd0) tupn
      have g07 : GrB T (SL l pl) H H7 := (Gr.to (S := SL l pl) g06).trans g7
      have L7 : LedP K H7 l pl dxl cal fl' b' dx' ad' dd' ps c (day + cnt) (some (.op, lim, bal os (day + 1) bal0 (day + cnt))) os (n + 1) := ⟨e1, g7.at L6.cal (tupn _ _ L6.cal), ⟨xs', e2, by rw [e3', hxs]⟩, B7⟩
      refine ⟨_, rfl, l, dxl, _, rfl, L7.obj, l, dxl, cal, b', pl, fl', dx', ad', dd', day + cnt, _, os, rfl, L7.obj, L7.book, g7.tb, fun p8 H8 g8 hp8 e8 => ?_⟩
      refine ⟨p8, rfl, ⟨_, .inl (.inl e8)⟩, fun D hD => ?_⟩
      have hD7 : H7 D = none := g8.nn hD
      refine lc_list (xs := [.str bobS]) (fun i H' => Gr T H7 H' ∧ H' p8 = some (.lst [.str bobS]) ∧ ∃ us, H' D = some (.lst us) ∧ us.length = i) ⟨g8.new hD, upd_ext hD _ _ e8, [], upd_same, rfl⟩ (fun i H' _ hi => .inl (.inl hi.2.1)) (fun i x H' hx hi => ?_) (fun H' hi => ?_)
      · obtain ⟨g9, hp9, us, hD9, hul⟩ := hi
        have ex : i = 0 ∧ x = .str bobS := by
          cases i with
          | zero => cases hx; exact ⟨rfl, rfl⟩
          | succ i => cases hx
        obtain ⟨rfl, rfl⟩ := ex
        have L9 := L7.gr0 g9
        obtain ⟨tt, a1, a2⟩ := L9.book.acc
        refine ⟨rfl, _, rfl, _, rfl, b', _, dx', _, _, rfl, L9.book.obj, cB, kn.noat "Books" "accounts", rfl, _, rfl, ad', .ref tt, rfl, DGet.k (k := Sum.inr bobS) a1, tt, _, _, _, rfl, rfl, .inl (.inl a2), rfl, (by decide : 2 ≤ sizeLine), fun t9 ht9 => ?_⟩
        refine ⟨us, upd_ext ht9 _ _ hD9, by rw [hul]; decide, (g9.new ht9).turn hD7 (upd_ext ht9 _ _ hD9), ?_, us ++ [.ref t9], upd_same, by rw [List.length_append, hul]; rfl⟩
        have npD : p8 ≠ D := fun z => by rw [z, hD] at e8; cases e8
        rw [upd_ne npD]
        exact upd_ext ht9 _ _ hp9
      · exact hq fl' b' dx' ad' dd' D H' (g07.trans hi.1.to) (L7.gr0 hi.1)
end
end So
end
section
set_option maxHeartbeats 4000000
/-! A ledger's total (a star parameter, nothing given), its orders. -/
namespace So
open PySem PySem.Spec PyProof.Rows L2 He
def spTotal (K : PySem.W.Frag) (T : Wt) : Sp := fun vs H Q _ => ∃ (l pl dxl cal fl b dx ad dd : Addr) (ps : List Int) (c day : Int) (k : Kd) (lim bal : Int) (os : List Ord) (n : Nat), vs = [.ref l] ∧ LedP K H l pl dxl cal fl b dx ad dd ps c day (some (k, lim, bal)) os n ∧ AccOk k lim bal ∧ Tbs T H ∧
  ∀ H', Gr T H H' → Q (.int bal) H'
/-- inside: the names' tuple is empty -/
def spTotalB (K : PySem.W.Frag) (T : Wt) : Sp := fun vs H Q _ => ∃ (l pl dxl cal fl b dx ad dd t : Addr) (ps : List Int) (c day : Int) (k : Kd) (lim bal : Int) (os : List Ord) (n : Nat), vs = [.ref l, .ref t] ∧ H t = some (.tup []) ∧ LedP K H l pl dxl cal fl b dx ad dd ps c day (some (k, lim, bal)) os n ∧ AccOk k lim bal ∧ Tbs T H ∧
  ∀ H', Gr T H H' → Q (.int bal) H'
def ItemP (H : Hp) (ts : List Addr) (os : List Ord) (n : Nat) : Prop := ts.length = n ∧ ∀ (i : Nat) (t : Addr), ts[i]? = some t → ∃ o, os[i]? = some o ∧ H t = some (.tup [.int ((i + 1 : Nat) : Int), .str bobS, .int o.1, .int o.2.1, .int o.2.2])
theorem ItemP.ext {H H' : Hp} {ts : List Addr} {os : List Ord} {n : Nat} (h : ItemP H ts os n) (g : ∀ b xs, H b = some (.tup xs) → H' b = some (.tup xs)) : ItemP H' ts os n :=
  ⟨h.1, fun i t e => let ⟨o, e1, e2⟩ := h.2 i t e; ⟨o, e1, g _ _ e2⟩⟩
def spOrders (K : PySem.W.Frag) (T : Wt) : Sp := fun vs H Q _ => ∃ (l dxl cal b pl fl dx ad dd : Addr) (day : Int) (acc : Option AccE) (os : List Ord), vs = [.ref l] ∧ H l = some (.ins (ga K "Ledger") dxl (ledF cal b pl fl)) ∧ BookP K H b dx ad dd day acc os ∧ os.length ≤ 60 ∧ Tbs T H ∧
  ∀ q ts H', Gr T H H' → H q = none → H' q = some (.lst (ts.map V.ref)) → ItemP H' ts os os.length → Q (.ref q) H'
theorem shaped_tup0 : SeqAt.shaped (.tuple []) = true := by decide +kernel
section
variable {X : Cx} {CX : CXT} {k : Nat} {f C : Addr} {sp : Sp} {E : XK} {m : Str} {o : Expr} {ta : TE} {apos pos : Pos}
/-- o.m(), by a positional promise -/
theorem pm0R {pl : Sem Bool} (F : FnR X.prog X.w X.K X.mg X.base CX k f sp) (c : Cls X.K C) (hm : Meth X.K C m f) (hr : Room k X.A) (hx : Passes CX X E) (he : PE X o ta)
    (ht : eval (.Call (.Attribute o m apos) [] [] pos) X.env = (do
      let ov ← eval o X.env
      standAt apos.atName
      let (f, first) ← holding [ov] (getMethod ov m pl)
      callWith pos f first (backTo pos (starEach [] X.env)) (backToKw pos (keywordEach [] X.env))) := by rfl) :
    PE X (.Call (.Attribute o m apos) [] [] pos) (fun σ H Q => ta σ H fun x H1 => ∃ a dx fs, x = .ref a ∧ H1 a = some (.ins C dx fs) ∧ fs.lookup m = none ∧ sp [.ref a] H1 Q E) := by
  refine ⟨fun pins s σ H Q I h => ?_⟩
  refine PySem.W.methodCall_KW (pl := pl) (thn (he.run pins s σ H _ I h) fun u s1 ⟨x, H1, I1, rx, a, dx, fs, ex, ea, l, q⟩ => ?_) ht
  subst ex
  obtain rfl : u = Value.ref a := rx
  refine getmeth_ok I1 ea c hm l ?_
  exact PySem.W.callWith_K0 (first := [.ref a]) I1.kIn hm.kp (wpAny_call (run_fnR (us := [.ref a]) (vs := [.ref a]) F hr hx I1 (.cons rfl .nil) q))
end
section
variable {P : Program} {w : World} {K : PySem.W.Frag} {mg : Str → Option Value} {base : Heap} {T : Wt}
theorem total_body (kn : Kn K mg) (kx : Kx K) {f : Addr} (cdv : Value) (A : Around) (outer : List Env) (s : Shared) (H : Hp) (vs : List V) (Q : VK) (E : XK) (hr : Room 6 (A.deeper (envOfC "Ledger.total" (defScope s_Ledger_total) s.heap.objs.size f cdv))) (h : spTotalB K T vs H Q E) :
    ∃ t, PSs (cxOf CX0 P w K mg base ["self", "names", "chosen", "name"] "Ledger.total" (defScope s_Ledger_total) f cdv A outer s H E) (defBody s_Ledger_total) t ∧ t { nx := fun _ H' => Q .non H', rt := Q } (start ["self", "names", "chosen", "name"] vs) H := by
  obtain ⟨l, pl, dxl, cal, fl, b, dx, ad, dd, t, ps, c, day, k, lim, bal, os, n, rfl, ht, L, hok, tb, hq⟩ := h
  have cL := kn.cls "Ledger"
  refine ⟨_, PSs.nox (pss_cons (ps_set (i := 2) sc_Ledger_total.nd rfl (.inl rfl) (pe_ifExp (pt_cmpR (op_neD hr.units) (pv 1) (pe_tup pa_nil) (nomark _)) (pv 1) (pe_tupleOf rfl (kn.free "tuple") (pprop (ok_led_names (T := T) kn kx) (pv 0) cL (kx.prop ("Ledger", "names") (by decide +kernel)) (hr.mono (by decide)) pass0))))
      (pss_one (ps_ret (pe_callB (cr_sum rfl) rfl (kn.free "sum") boot_sum (pa_cons (pe_lc (g := gName 3) (own := [("name", 3)]) rfl sc_Ledger_total.nd (pi_tup (pv 2)) (blkOk_by rfl) (fun _ _ _ _ _ => pg_name (i := 3) sc_Ledger_total.nd rfl (.inl rfl) (.inr rfl)) (fun _ _ _ _ _ => pts_nil)
        (te := tProp (ga K k.cn) (spBalance K) [] (fun _ _ _ => False) (tMeth (ga K "Ledger") "account" (spAccount K T) [] (fun _ _ _ => False) (tVar 0) (tCons (tVar 3) tNil)))
        (fun _ _ _ _ _ => pprop (ok_balanceK kn kx k) (pm (ok_account (T := T) kn kx) cL (kn.meth "Ledger" "account") hr pass0 (pv 0) (pa_cons (pv 3) pa_nil)) (Kd.cls kn k) (prop_balance kx k) (hr.mono (by decide)) pass0)) pa_nil))))), ?_⟩
  refine ⟨_, rfl, Nat.zero_le _, fun q hqn => ?_⟩
  have g1 : Gr T H (upd H q (.tup [])) := (Gr.refl tb).new hqn
  refine ⟨.tuple [], .tuple [], .tup (.inl (.inl (g1.get ht))) .nil, .tup (.inl (.inl upd_same)) .nil, shaped_tup0, shaped_tup0, _, rfl, ?_⟩
  rw [show PyData.eqv (.tuple []) (.tuple []) = true by decide +kernel]
  refine ite2 (fun h => by cases h) (fun _ => ?_)
  have L1 := L.gr0 g1
  refine ⟨_, rfl, l, dxl, _, rfl, L1.obj, l, dxl, cal, b, pl, fl, dx, ad, dd, day, _, os, rfl, L1.obj, L1.book, g1.tb, fun p H2 g2 hpn e2 => ?_⟩
  refine .inl ⟨p, [.str bobS], rfl, .inl (.inl e2), fun u hun => ?_⟩
  have g3 := (g1.trans g2).new (o := .tup [.str bobS]) hun
  have hu3 : (upd H2 u (.tup [.str bobS])) u = some (.tup [.str bobS]) := upd_same
  generalize (upd H2 u (.tup [.str bobS])) = H3 at g3 hu3 ⊢
  refine ⟨_, rfl, u, rfl, ⟨_, .inl (.inl hu3)⟩, fun D hD => ?_⟩
  have hDH : H D = none := g3.nn hD
  refine lc_tup (xs := [.str bobS]) (fun i H' => Gr T H H' ∧ H' u = some (.tup [.str bobS]) ∧ H' D = some (.lst ((List.replicate i bal).map V.int))) ⟨g3.new hD, upd_ext hD _ _ hu3, upd_same⟩ (fun i H' _ hi => .inl (.inl hi.2.1)) (fun i x H' hx hi => ?_) (fun H' hi => ?_)
  · obtain ⟨g, hu', hD'⟩ := hi
    have ex : i = 0 ∧ x = .str bobS := by
      cases i with
      | zero => cases hx; exact ⟨rfl, rfl⟩
      | succ i => cases hx
    obtain ⟨rfl, rfl⟩ := ex
    have L4 := L.gr0 g
    refine ⟨rfl, _, rfl, l, dxl, _, rfl, L4.obj, rfl, _, rfl, l, dxl, cal, pl, fl, b, dx, ad, dd, ps, c, day, k, lim, bal, os, rfl, L4.obj, L4.cal, L4.book, hok, g.tb, fun a H5 g5 ha => ?_⟩
    obtain ⟨dxa, haa⟩ := id ha
    refine ⟨a, dxa, _, rfl, haa, a, k, bobS, lim, bal, c, rfl, ha, ?_⟩
    refine ⟨_, g5.get hD', (by decide : 0 < sizeLine), (g.trans g5).turn hDH (g5.get hD'), ?_, ?_⟩
    · rw [upd_ne (fun z => by rw [z, hD] at hu3; cases hu3)]
      exact g5.get hu'
    · rw [upd_same]
      rfl
  · obtain ⟨g, hu', hD'⟩ := hi
    have hD2 : H' D = some (.lst (([bal] : List Int).map V.int)) := hD'
    refine ⟨D, [bal], rfl, .inl (.inl hD2), ?_⟩
    rw [show ([bal] : List Int).sum = bal by simp]
    exact hq H' g
theorem ok_total (kn : Kn K mg) (kx : Kx K) : FnR P w K mg base CX0 7 (ma K (ga K "Ledger") "total") (spTotal K T) := by
  obtain ⟨fd, F⟩ := kn.m_Ledger_total
  obtain ⟨oc, od, dV, kV, doc, pm, an, cdv, ct, osl, rfl, lk, hcd, hD, _⟩ := F.ex
  rcases hD with ⟨_, rfl⟩ | ⟨z, _⟩
  · refine FnR.imp (StX.fn_star (ps := ["self"]) (pv := "names") (sp := spTotalB K T) lk hcd sc_Ledger_total StX.cxUp_none (StX.bind_star1 (B := fun us => bindArgs (PySem.W.fnOf "total" "Ledger.total" (defArgs s_Ledger_total) (defBody s_Ledger_total) (defScope s_Ledger_total) .none kV doc pm an cdv ct) ⟨us, []⟩) (p1 := "self") (pv := "names") (fun _ => rfl) (fun _ _ _ => rfl)) fun A outer s H vs Q E hr hsp => total_body kn kx cdv A outer s H vs Q E hr hsp) fun vs H Q E h => ?_
    obtain ⟨l, pl, dxl, cal, fl, b, dx, ad, dd, ps, c, day, k, lim, bal, os, n, rfl, L, hok, tb, hq⟩ := h
    refine ⟨[.ref l], [], rfl, rfl, Nat.zero_le _, fun p hp => ?_⟩
    have g : Gr T H (upd H p (.tup [])) := (Gr.refl tb).new hp
    exact ⟨l, pl, dxl, cal, fl, b, dx, ad, dd, p, ps, c, day, k, lim, bal, os, n, rfl, upd_same, L.gr0 g, hok, g.tb, fun H' g' => hq H' (g.trans g')⟩
  · exact absurd rfl z
theorem ok_orders (kn : Kn K mg) (kx : Kx K) : Okd P w K mg base CX0 1 (He5.wf K (ga K "Ledger") "property" "orders") ["self"] (spOrders K T) := by
  refine okd_of kx.f_orders sc_Ledger_orders (fun vs H Q E h => ?_) (fun _ _ _ _ _ _ us hl => match us, hl with | [_], _ => rfl) (fun cdv A outer s H vs Q E hr h => ?_)
  · obtain ⟨l, dxl, cal, b, pl, fl, dx, ad, dd, day, acc, os, rfl, _⟩ := h
    rfl
  · obtain ⟨l, dxl, cal, b, pl, fl, dx, ad, dd, day, acc, os, rfl, hl, B, hol, tb, hq⟩ := h
    have cL := kn.cls "Ledger"
    have cB := kn.cls "Books"
    obtain ⟨ob, ac, ⟨ts, hd1, hd2⟩, ne⟩ := id B
    have hlen : ts.length = os.length := Paired.length hd2
    refine ⟨_, PSs.nox (pss_one (ps_ret (pe_lc (g := gName 1) (own := [("number", 1)]) rfl sc_Ledger_orders.nd (pi_list (pe_callB (call_sortedDI rfl) rfl (kn.free "sorted") boot_sorted (pa_cons (pe_fld (pe_fld (pv 0) rfl) rfl) pa_nil))) (blkOk_by rfl) (fun _ _ _ _ _ => pg_name (i := 1) sc_Ledger_orders.nd rfl (.inl rfl) (.inr rfl)) (fun _ _ _ _ _ => pts_nil)
        (te := tOp (rCatT K) (tTup (tCons (tVar 1) tNil)) (tDGet (tFld K (tFld K (tVar 0) "books") "dues") (tVar 1)))
        (fun _ _ _ _ _ => pe_op op_catT (pe_tup (pa_cons (pv 1) pa_nil)) (pe_dget (hu_of hr) (pe_fld (pe_fld (pv 0) rfl) rfl) (pv 1) (fun _ _ => rfl)))))), ?_⟩
    refine ⟨_, rfl, l, _, dxl, _, _, rfl, hl, cL, kn.noat "Ledger" "books", rfl, b, _, dx, _, _, rfl, ob, cB, kn.noat "Books" "dues", rfl, dd, duesL 0 ts, _, rfl, .inl hd1, duesL_keys 0 ts, ?_, fun ys sl hp hs hsl => ?_⟩
    · rw [List.length_map, List.length_range']
      omega
    have ey := sorted_is hp hs
    subst ey
    have g1 : Gr T H (upd H sl (.lst (((List.range' 1 ts.length).map fun i => ((i : Nat) : Int)).map V.int))) := (Gr.refl tb).new hsl
    have hsl1 : (upd H sl (.lst (((List.range' 1 ts.length).map fun i => ((i : Nat) : Int)).map V.int))) sl = some (.lst (((List.range' 1 ts.length).map fun i => ((i : Nat) : Int)).map V.int)) := upd_same
    generalize (upd H sl (.lst (((List.range' 1 ts.length).map fun i => ((i : Nat) : Int)).map V.int))) = H1 at g1 hsl1 ⊢
    refine ⟨sl, rfl, ⟨_, .inl (.inl hsl1)⟩, fun D hD => ?_⟩
    have hDH : H D = none := g1.nn hD
    refine lc_list (xs := (((List.range' 1 ts.length).map fun i => ((i : Nat) : Int)).map V.int)) (fun i H' => Gr T H H' ∧ H' sl = some (.lst (((List.range' 1 ts.length).map fun i => ((i : Nat) : Int)).map V.int)) ∧ ∃ us : List Addr, H' D = some (.lst (us.map V.ref)) ∧ ItemP H' us os i) ⟨g1.new hD, upd_ext hD _ _ hsl1, [], upd_same, rfl, fun j u e => by cases e⟩ (fun i H' _ hi => .inl (.inl hi.2.1)) (fun i x H' hx hi => ?_) (fun H' hi => ?_)
    · obtain ⟨g, hsl', us, hD', hit⟩ := hi
      have hx2 : i < ts.length ∧ x = .int ((i + 1 : Nat) : Int) := by
        rw [List.getElem?_map, List.getElem?_map] at hx
        cases e : (List.range' 1 ts.length)[i]? with
        | none => rw [e] at hx; cases hx
        | some j =>
          rw [e] at hx
          cases hx
          have hi' : i < ts.length := by
            have := (List.getElem?_eq_some_iff.mp e).1
            rwa [List.length_range'] at this
          refine ⟨hi', ?_⟩
          rw [List.getElem?_range' hi'] at e
          have e' := Option.some.inj e
          have e2 : j = i + 1 := by omega
          rw [e2]
      obtain ⟨hil, rfl⟩ := hx2
      obtain ⟨o, ho, hto⟩ := Paired.at hd2 (List.getElem?_eq_getElem hil)
      have hv := duesL_val 0 ts i _ (List.getElem?_eq_getElem hil)
      have ev : (0 + 1 + i : Nat) = i + 1 := by omega
      rw [ev] at hv
      refine ⟨rfl, _, rfl, (by decide : 1 ≤ sizeLine), fun q hqn => ?_⟩
      have g2 := g.new (o := .tup [.int ((i + 1 : Nat) : Int)]) hqn
      refine ⟨_, rfl, l, _, dxl, _, _, rfl, g2.get hl, cL, kn.noat "Ledger" "books", rfl, b, _, dx, _, _, rfl, g2.get ob, cB, kn.noat "Books" "dues", rfl, _, rfl, dd, .ref ts[i], rfl, ?_, ?_⟩
      · have z := DGet.k (k := Sum.inl ((i + 1 : Nat) : Int)) (g2.get hd1)
        rw [hv] at z
        exact z
      refine ⟨q, ts[i], _, _, rfl, rfl, .inl (.inl upd_same), .inl (.inl (g2.get hto)), (by simp), (by decide : 5 ≤ sizeLine), (fun z => by cases z), fun _ t htn => ?_⟩
      have hD2 : (upd (upd H' q (.tup [.int ((i + 1 : Nat) : Int)])) t (.tup ([.int ((i + 1 : Nat) : Int)] ++ [.str bobS, .int o.1, .int o.2.1, .int o.2.2]))) D = some (.lst (us.map V.ref)) := upd_ext htn _ _ (upd_ext hqn _ _ hD')
      have tupk : ∀ a xs o', (upd (upd H' q (.tup [.int ((i + 1 : Nat) : Int)])) t (.tup ([.int ((i + 1 : Nat) : Int)] ++ [.str bobS, .int o.1, .int o.2.1, .int o.2.2]))) a = some (.tup xs) → (upd (upd (upd H' q (.tup [.int ((i + 1 : Nat) : Int)])) t (.tup ([.int ((i + 1 : Nat) : Int)] ++ [.str bobS, .int o.1, .int o.2.1, .int o.2.2]))) D o') a = some (.tup xs) := fun a xs o' e => by
        rw [upd_ne (fun z => by rw [z, hD2] at e; cases e)]
        exact e
      refine ⟨_, hD2, ?_, (g2.new htn).turn hDH hD2, ?_, us ++ [t], ?_, ?_⟩
      · rw [List.length_map, hit.1]
        exact Nat.lt_trans hil (Nat.lt_of_le_of_lt (by omega : ts.length ≤ 60) (by decide))
      · have nsl : sl ≠ D := fun z => by rw [z, hD] at hsl1; cases hsl1
        rw [upd_ne nsl]
        exact upd_ext htn _ _ (upd_ext hqn _ _ hsl')
      · rw [upd_same, List.map_append]
        rfl
      · refine ⟨by rw [List.length_append, hit.1]; rfl, fun j t' e => ?_⟩
        by_cases hj : j < us.length
        · rw [List.getElem?_append_left hj] at e
          obtain ⟨o', h1, h2⟩ := hit.2 j t' e
          exact ⟨o', h1, tupk _ _ _ (upd_ext htn _ _ (upd_ext hqn _ _ h2))⟩
        · rw [List.getElem?_append_right (by omega)] at e
          have ej : j = us.length := by
            have := (List.getElem?_eq_some_iff.mp e).1
            simp at this
            omega
          subst ej
          simp at e
          subst e
          rw [hit.1]
          exact ⟨o, ho, tupk _ _ _ upd_same⟩
    · obtain ⟨g, hsl', us, hD', hit⟩ := hi
      rw [List.length_map, List.length_map, List.length_range', hlen] at hit
      exact hq D us H' g hDH hD' hit
end
end So
end
section
set_option maxHeartbeats 4000000
/-! SavingsAccount.may_withdraw: super(). -/
namespace So
open PySem PySem.Spec PyProof.Rows L2 He
/-- what the top keeps of it -/
structure SaM (K : PySem.W.Frag) (P : Program) : Prop where
  fn : ∃ (oc : Value) (od : Option Addr) (kV doc pm : Value) (an : Option Addr) (cda cc : Addr) (ct : Value) (osl : Array (Option Value)),
    K.lookup (ma K (ga K "SavingsAccount") "may_withdraw") = some ⟨oc, od, .func (PySem.W.ksFn "may_withdraw" "SavingsAccount.may_withdraw" (defArgs Msa) (defBody Msa) (defScope Msa) .none kV doc pm an (.ref cda) ct cc), osl⟩ ∧ PySem.W.codeIn K (.ref cda) "SavingsAccount.may_withdraw" = true ∧
    (∃ (ccl : Value) (cdd : Option Addr) (vs : Array Value) (ccs : Array (Option Value)) (file : Str) (tf : Tok), K.lookup cda = some ⟨ccl, cdd, .fields vs, ccs⟩ ∧ vs[2]? = some (.str file tf) ∧ ((P.main.file : Str) == file) = true) ∧
    ∃ cl cld csl, K.lookup cc = some ⟨cl, cld, .cell (some (.ref (ga K "SavingsAccount"))), csl⟩
  kp : PySem.W.keepIn K (.ref (ma K (ga K "SavingsAccount") "may_withdraw")) = true
  sub : PySem.W.mroIn K (ga K "SavingsAccount") (.ref (ga K "SavingsAccount")) = some true
  sup : PySem.W.ks_superIn K (ga K "SavingsAccount") (ga K "SavingsAccount") "may_withdraw" = some (some (.ref (ma K (ga K "Account") "may_withdraw")))
  ty : PySem.W.typeIn K (.ref (ma K (ga K "Account") "may_withdraw")) = some (.type "function")
  fi : PySem.W.fnIn K (ma K (ga K "Account") "may_withdraw") = true
  opq : PySem.W.nsIn K cStatics "thirdparty.any" = some none
  cls : ∃ cd, PySem.W.clsIn K (ga K "SavingsAccount") = some cd
  top : (P.main.scope.names.lookup ("super" : Str)).isSome = false
section
variable {M : Model} {A : Around} {c : Code} {E : Value → Shared → Prop} {s : Shared} {env : Env}
theorem wpAt_and {e₁ e₂ : Expr} {rest : List Expr} {pos : Pos} {Q : Value → Shared → Prop}
    (h : _root_.PySem.wpAt M A c (eval e₁ env) (fun v s₁ => wpAny M A (truthy v) (fun b s₂ => if b then wpAny M A (eval (.BoolOp .And (e₂ :: rest) pos) env) Q E s₂ else Q v s₂) E s₁) E s) : _root_.PySem.wpAt M A c (eval (.BoolOp .And (e₁ :: e₂ :: rest) pos) env) Q E s := by
  show _root_.PySem.wpAt M A c (do
    let v ← eval e₁ env
    standAt pos
    let c ← holding [v] (truthy v)
    match BoolOp.And, c with
    | .And, false | .Or, true => pure v
    | _, _ => boolOp pos .And (eval e₂ env :: evalEach rest env)) Q E s
  refine _root_.PySem.wpAt_bind (ks_wpAt_mono h (fun v s₁ h₁ => wpAt_of_wpAny (wpAny_bind (wpAny_standAt (wpAny_bind (wpAny_holding (wpAny_mono h₁ (fun c s₂ h₂ => ?_) fun _ _ x => x)))))) fun _ _ x => x)
  cases c with
  | false => exact wpAny_pure h₂
  | true => exact h₂
end
theorem scN_sa : NdefX.NScope ["self", "day", "__class__"] ["self", "day"] ["__class__"] (defScope Msa) := NdefX.nscope_by (by decide +kernel)
section
variable {P : Program} {w : World} {K : PySem.W.Frag} {mg : Str → Option Value} {base : Heap} {T : Wt}
theorem ok_may_sa (kn : Kn K mg) (sm : SaM K P) : MaySa P w K mg base := by
  obtain ⟨oc, od, kV, doc, pm, an, cda, cc, ct, osl, lk, hcd, ⟨ccl, cdd, vs9, ccs, file, tf, lkc, hvs9, hfile⟩, cl, cld, csl, lkcell⟩ := sm.fn
  refine ⟨PySem.W.ksFn "may_withdraw" "SavingsAccount.may_withdraw" (defArgs Msa) (defBody Msa) (defScope Msa) .none kV doc pm an (.ref cda) ct cc, sm.kp, Binds.all (fun us hl => match us, hl with | [_, _], _ => rfl), ⟨fun vs H Q E h => ?_, fun A outer s H args us vs Q E hr e0 hb r hsp => ?_⟩⟩
  · obtain ⟨a, nm, lim, bal, cyc, day, rfl, _⟩ := h
    rfl
  · obtain ⟨a, nm, lim, bal, cyc, day, rfl, ⟨dx, ha⟩, hc1, hq⟩ := hsp
    have KX : K.In s.heap := e0.mod.kin.keeps fun b o e => (e0.bs b o e).1
    have lim' : s.heap.NoLimit := e0.mod.nolimit.keeps fun b o e => (e0.bs b o e).1
    refine ks_codeAny_call_defAt (fd := PySem.W.ksFn "may_withdraw" "SavingsAccount.may_withdraw" (defArgs Msa) (defBody Msa) (defScope Msa) .none kV doc pm an (.ref cda) ct cc) hr.depth (KX _ _ lk) rfl lim' (PySem.W.codeRec_of KX hcd) rfl hb scN_sa.nocell (fun ⟨n, _⟩ hy => scN_sa.par n (List.of_mem_zip hy).1) (fun h₀ hns kp => ?_) rfl rfl rfl
    have hcn : H cc = none := (e0.bs _ _ (e0.mod.kin _ _ lkcell)).2
    have hcell : s.heap.IsCell cc (some (.ref (ga K "SavingsAccount"))) := ⟨_, KX _ _ lkcell, rfl⟩
    have one : ∀ {y : Str} {c : Addr}, ([(("__class__" : Str), cc)] : List (Str × Addr)).lookup y = some c → y = "__class__" ∧ c = cc := fun {y c} e => by
      have e' : (match y == ("__class__" : Str) with | true => some cc | false => none) = some c := e
      cases q : (y == ("__class__" : Str)) with
      | true => rw [q] at e'; exact ⟨beq_iff_eq.mp q, (Option.some.inj e').symm⟩
      | false => rw [q] at e'; cases e'
    have C : NdefX.CellsAt [(("__class__" : Str), cc)] ["__class__"] [some (.ref (ga K "SavingsAccount"))] s.heap H := ⟨rfl, fun y c e => by
        obtain ⟨_, rfl⟩ := one e
        exact ⟨hcn, _, hcell⟩, fun x y c e1 e2 => by rw [(one e1).1, (one e2).1], fun i y e => by
        cases i with
        | zero =>
          cases e
          exact ⟨cc, rfl, fun v e => by cases e; exact ⟨_, rfl, hcell⟩⟩
        | succ i => cases e⟩
    have I := NdefX.inv_startN (CX := CX0) (P := P) (w := w) (mg := mg) (base := base) (F := ⟨"may_withdraw", "SavingsAccount.may_withdraw", defArgs Msa, defBody Msa, defScope Msa, [("__class__", cc)], cda⟩) (f := ma K (ga K "SavingsAccount") "may_withdraw") (E := E) (tk := s.toks + (["self", "day"].zip us).length) scN_sa hr.hd e0 rfl r C hns kp
    have hr' := hr.deeper (NdefX.envF ⟨"may_withdraw", "SavingsAccount.may_withdraw", defArgs Msa, defBody Msa, defScope Msa, [("__class__", cc)], cda⟩ (ma K (ga K "SavingsAccount") "may_withdraw") s.heap.objs.size)
    obtain ⟨u1, u2, rfl, r1, r2⟩ : ∃ u1 u2, us = [u1, u2] ∧ RelV (.ref a) u1 ∧ RelV (.int day) u2 := by
      cases r with
      | cons p q => cases q with
        | cons p' q' => cases q'; exact ⟨_, _, rfl, p, p'⟩
    obtain rfl : u1 = Value.ref a := r1
    obtain ⟨cdD, hD⟩ := sm.cls
    obtain ⟨oD, hD1, hD2⟩ : ∃ oD, h₀.get? (ga K "SavingsAccount") = some oD ∧ oD.data = .cls cdD := by
      unfold PySem.W.clsIn at hD
      split at hD
      · rename_i c d cd' sl ho
        cases hD
        exact ⟨_, kp _ _ (KX _ _ ho), rfl⟩
      · cases hD
    have X0 : K.In h₀ := KX.keeps kp
    obtain ⟨mA, O, _⟩ := ins_get I.hok ha
    obtain ⟨odx, J, _⟩ := O.look
    have kn_super := kn.free "super"
    refine ks_wpAt_execs_cons (ks_wpAt_Return_some (wpAt_and (ks_wpAt_MethodCall ?_)))
    refine ks_wpAt_super_base rfl rfl (by decide +kernel) rfl (kp _ _ (KX _ _ lk)) rfl rfl rfl (kp _ _ (KX _ _ lkc)) rfl hvs9 hfile sm.top ?_
    obtain ⟨mb, hb1, hb2⟩ := I.mod.blt
    refine PySem.W.ks_loadName_global rfl rfl (Calls.loadGlobal_builtin (I.mod.glob.keeps I.bk) kn_super (hb1.keeps I.bk) ((hb2 "super" (by decide)).trans (by decide +kernel)) ⟨rfl, ?_⟩)
    refine wpAny_loadName_free rfl rfl rfl ⟨_, X0 _ _ lkcell, rfl⟩ ?_
    refine wpAny_loadName_local rfl rfl hns rfl ?_
    refine ks_wpAny_isType_cls hD1 hD2 ⟨rfl, ?_⟩
    refine ks_wpAny_call_super hD1 hD2 J.at_ J.cls (fun c e => ?_) (PySem.W.looks_mroIn X0 sm.sub) (fun h1 e1 k1 => ?_)
    · have := J.no
      unfold PySem.W.notCls at this
      rw [e] at this
      exact Bool.noConfusion this
    have I1 := ClX.pin_new (t' := s.toks + (["self", "day"].zip [Value.ref a, u2]).length) I k1 (Nat.le_refl _) e1 (fun v z => nomatch z)
    have X1 : K.In h1 := X0.keeps k1
    obtain ⟨of, hof, hofc⟩ : ∃ of, h1.get? (ma K (ga K "Account") "may_withdraw") = some of ∧ of.cls = .type "function" := by
      have ht' : (K.lookup (ma K (ga K "Account") "may_withdraw")).map (·.cls) = some (.type "function") := sm.ty
      cases z : K.lookup (ma K (ga K "Account") "may_withdraw") with
      | none => rw [z] at ht'; cases ht'
      | some of => rw [z] at ht'; exact ⟨of, X1 _ _ z, Option.some.inj ht'⟩
    have hm := sm.sup
    unfold PySem.W.ks_superIn at hm
    rw [hD] at hm
    have nac : a ≠ ga K "SavingsAccount" := PySem.W.ks_ne X0 J hD
    refine ks_wpAny_getMethod_super e1 (PySem.W.looks_opaque X1 sm.opq) (l₀ := cdD.mro) ?_ rfl X1 hm hof hofc nac (by decide +kernel) ?_
    · exact fun A Q E s k q => wpAny_bind ((PySem.W.looks_clsIn X1 hD) A _ E s k (wpAny_pure q))
    have I2 := ClX.met_new (g := ma K (ga K "Account") "may_withdraw") (C := a) I1
    obtain ⟨fd2, _, b2, F2⟩ := (ok_Account_may (P := P) (w := w) (base := base) kn).ex
    have R2 : FnR P w K mg base CX0 1 (ma K (ga K "Account") "may_withdraw") spTrue2 := fun A outer s H us vs Q E hr e0 r h => F2.run A outer s H ⟨us, []⟩ us vs Q E hr e0 (by
      have z := b2 s us (e0.mod.kin.keeps fun b o e => (e0.bs b o e).1) (by rw [List.append_nil, ← r.length]; exact F2.len _ _ _ _ h)
      rwa [List.append_nil] at z) r h
    refine ClX.callwith_cm I2 (ClX.base_none I1 (Nat.le_refl _)) sm.fi (thn ((pa_cons (pv 1) pa_nil).run _ _ _ _ H (fun vs H' => vs = [.int day] ∧ H' = H) I2 ⟨.int day, rfl, rfl, rfl⟩) fun us s3 ⟨vs, H2, I3, rv, ev, eH⟩ => ⟨⟨ClX.pin_at I3, I3.kIn⟩, ?_⟩) rfl rfl
    subst ev eH
    refine wpAny_mono (ClX.run_cm (Q := fun v H' => v = .bl true ∧ H' = H2) R2 (hr'.mono (by decide)) pass0 I3 rv ⟨a, day, rfl, rfl, rfl⟩) (fun u s4 ⟨v, H4, I4, rv4, ev4, eH4⟩ => ?_) fun e s' z => z
    subst ev4 eH4
    obtain rfl : u = Value.bool true := rv4
    refine wpAny_truthy_bool ?_
    have I5 := ClX.unpin I4
    have cS := kn.cls "SavingsAccount"
    have e9 : decide (V.int (day % cyc) = V.int 0) = decide (day % cyc = 0) := by simp
    refine wpAny_mono ((pe_one (pe_cmpR op_eq (pe_op op_mod (pv 1) (pe_fld (pv 0) rfl)) pe_int (nomark _))).run _ _ _ _ (fun v H' => Q v H') I5 ⟨.int day, rfl, .ref a, rfl, a, _, dx, _, _, rfl, ha, cS, kn.noat "SavingsAccount" "cycle", rfl, _, _, rfl, rfl, (by show (0 : Int) < cyc; omega), rfl, by rw [e9]; exact hq⟩) (fun u s5 ⟨v, H5, I6, rv5, q5⟩ => ?_) fun e s' z => z
    exact ⟨v, H5, I6.os, I6.bare, I6.base, I6.hok, rv5, q5⟩
end
end So
end
section
set_option maxHeartbeats 4000000
/-! C(n = e): an exception whose own __init__ has a parameter by its name alone. -/
namespace PySem
namespace ExK
open PySem.HandSPX PyProof.Rows
section
variable {prog : Program} {w : World} {M : Model} {A : Around} {E : Value → Shared → Prop} {R : Result → Shared → Prop} {h : Heap} {g : Array GenState} {d : Drawn} {t : Nat} {os : OsState}
variable {nm q n : Str} {u : Value} {C N : Addr} {bs bm bmB : List Value} {hdct : Bool} {sn : List Str} {sub : List Value} {ab : Bool} {col : Option Bool} {dd : Option Addr} {k0 k1 k2 k3 k5 : Option Value} {B newId initId : String}
theorem newCheck (F : ExcBaseFacts B newId initId bmB) (hT : ∀ X : String, bm.contains (.type X) = bmB.contains (.type X)) {Q : Unit → Shared → Prop}
    (hC : h.get? C = some (excClassObj nm q C N bs bm hdct sn sub ab col dd k0 k1 k2 k3 k5 newId)) (fin : Q () ⟨h, g, d, t, os⟩) : wpAny M A (checkBuiltinCall newId ⟨[.ref C], [(n, u)]⟩) Q E ⟨h, g, d, t, os⟩ := by
  have z1 : (Value.ref C :: bm).contains (.type B) = true := by rw [List.contains_cons, hT, F.hasB, Bool.or_true]
  have z2 := F.noStar
  simp only [checkBuiltinCall, F.newKind, F.newSplit, F.newRow]
  repeat (first | refine wpAny_loadPart_at hC ?_ | (refine wpAny_isSubtype_exc hC ?_; rw [z1]) | refine wpAny_staticBase_exc hC ?_ | refine wpAny_madeBy_exc hC ?_ | simp only [bne_self_eq_false, Bool.false_eq_true, if_false] | wp_step)
  exact fin
theorem newRun (F : ExcBaseFacts B newId initId bmB) (hT : ∀ X : String, bm.contains (.type X) = bmB.contains (.type X))
    (hC : h.get? C = some (excClassObj nm q C N bs bm hdct sn sub ab col dd k0 k1 k2 k3 k5 newId))
    (fin : R (.ok (.ret (.ref (h.objs.size + 1)))) ⟨(h.push (W.kdv_tup [])).push (excO C h.objs.size), g, d, t, os⟩) :
    codeAny (model prog w) A (.builtin newId ⟨[.ref C], [(n, u)]⟩) R ⟨h, g, d, t, os⟩ := by
  have z0 := F.ends
  have z1 : (Value.ref C :: bm).contains (.type B) = true := by rw [List.contains_cons, hT, F.hasB, Bool.or_true]
  have z2 : (Value.ref C :: bm).contains (.type "AttributeError") = false := by rw [List.contains_cons, hT, F.noAttr]; rfl
  have z3 : (Value.ref C :: bm).contains (.type "NameError") = false := by rw [List.contains_cons, hT, F.noName]; rfl
  refine codeAny_builtinAt F.entry ?_
  unfold Builtin.«BaseException.__new__»
  refine _root_.PySem.wpAt_bind ?_
  show _root_.PySem.wpAt _ _ _ (stack >>= _) _ _ _
  refine _root_.PySem.wpAt_bind (wpAt_stack fun p below => wpAt_of_wpAny ?_)
  wp_walk
  refine wpAt_of_wpAny ?_
  rw [F.owner]
  repeat (first | with_reducible refine wpAny_madeHere_exc F.canon hC ?_ | with_reducible refine wpAny_loadPart_at hC ?_ | (with_reducible refine wpAny_isSubtype_exc hC ?_; first | rw [z1] | rw [z2] | rw [z3]) | wp_step)
  show R _ _
  rw [Heap.size_push]
  exact fin
theorem typeCall (F : ExcBaseFacts B newId initId bmB) (hT : ∀ X : String, bm.contains (.type X) = bmB.contains (.type X)) {fI : Addr} {Q : Fin → Shared → Prop}
    (hC : h.get? C = some (excClassObj nm q C N bs bm hdct sn sub ab col dd k0 k1 k2 k3 k5 newId))
    (hi : W.Looks (model prog w) h (typeLookup (.ref C) "__init__") (some (.ref fI))) (hb : ∀ self, W.Looks (model prog w) h (bindSpecial (.ref fI) self) (.ref fI, [self]))
    (fin : codeAny (model prog w) A (.call (.ref fI) ⟨[.ref (h.objs.size + 1)], [(n, u)]⟩)
      (fun r s' => match r with | .ok (.ret v) => v = .none ∧ Q (.done (.ret (.ref (h.objs.size + 1)))) s' | .ok _ => False | .error e => E e s')
      ⟨(h.push (W.kdv_tup [])).push (excO C h.objs.size), g, d, t, os⟩) :
    wpAny (model prog w) A (Builtin.«type.__call__» ⟨[.ref C], [(n, u)]⟩) Q E ⟨h, g, d, t, os⟩ := by
  repeat (first | with_reducible refine wpAny_loadPart_at hC ?_ | with_reducible refine wpAny_madeBy_exc hC ?_ | wp_step)
  refine codeAny_call_builtin_code (Code.quiet_builtin _ F.quiet) (newCheck F hT hC ?_)
  refine newRun F hT hC ?_
  show wpAny _ _ _ _ _ _
  have k : ∀ b o, h.get? b = some o → ((h.push (W.kdv_tup [])).push (excO C h.objs.size)).get? b = some o := fun b o e => Heap.get?_push_of_some _ (Heap.get?_push_of_some _ e)
  have c1 := k _ _ hC
  have e1 : ((h.push (W.kdv_tup [])).push (excO C h.objs.size)).get? (h.objs.size + 1) = some (excO C h.objs.size) := by heap_get
  have m1 : (Value.ref C :: bm).contains (.ref C) = true := by simp
  have i1 := hi.keeps k
  have b1 := (hb (.ref (h.objs.size + 1))).keeps k
  unfold isInstance
  repeat (first | with_reducible refine wpAny_loadPart_at e1 ?_ | (with_reducible refine wpAny_isSubtype_exc c1 ?_; rw [m1]) | wp_step)
  show wpAny _ _ (typeLookup (.ref C) _) _ _ _
  refine i1.at ?_
  refine wpAny_holding (wpAny_bind (b1.at ?_))
  refine wpAny_bind (wpAny_call (codeAny_mono fin fun r s' z => ?_))
  rcases r with e | (v | _ | _ | _) <;> first | exact z | exact z.elim | skip
  obtain ⟨rfl, z⟩ := z
  first
    | exact wpAny_pure (wpAny_pure z)
    | (wp_walk; exact z)
theorem typeCheck {Q : Unit → Shared → Prop} (hC : h.get? C = some (excClassObj nm q C N bs bm hdct sn sub ab col dd k0 k1 k2 k3 k5 newId))
    (fin : Q () ⟨h, g, d, t, os⟩) : wpAny M A (checkBuiltinCall "type.__call__" ⟨[.ref C], [(n, u)]⟩) Q E ⟨h, g, d, t, os⟩ := by
  have f3 := tc_sub
  have hT : (⟨h, g, d, t, os⟩ : Shared).TypeIs (.ref C) "type" := ⟨_, hC, rfl⟩
  simp only [checkBuiltinCall, tc_kind, tc_split]
  repeat (any_goals (first | assumption | with_reducible refine wpAny_loadPart_at hC ?_ | with_reducible refine wpAny_onRaise ?_ | with_reducible refine wpAny_map ?_ | wp_step))
theorem callRun (F : ExcBaseFacts B newId initId bmB) (hT : ∀ X : String, bm.contains (.type X) = bmB.contains (.type X)) {fI : Addr}
    (hC : h.get? C = some (excClassObj nm q C N bs bm hdct sn sub ab col dd k0 k1 k2 k3 k5 newId))
    (hi : W.Looks (model prog w) h (typeLookup (.ref C) "__init__") (some (.ref fI))) (hb : ∀ self, W.Looks (model prog w) h (bindSpecial (.ref fI) self) (.ref fI, [self]))
    (fin : codeAny (model prog w) (A.under (.builtin "type.__call__" ⟨[.ref C], [(n, u)]⟩)) (.call (.ref fI) ⟨[.ref (h.objs.size + 1)], [(n, u)]⟩) (W.InitBack (h.objs.size + 1) R)
      ⟨(h.push (W.kdv_tup [])).push (excO C h.objs.size), g, d, t, os⟩) :
    codeAny (model prog w) A (.call (.ref C) ⟨[], [(n, u)]⟩) R ⟨h, g, d, t, os⟩ := by
  have f1 := tc_lookup
  have f2 := tc_bind (.ref C)
  have ty : (⟨h, g, d, t, os⟩ : Shared).TypeIs (.ref C) "type" := ⟨_, hC, rfl⟩
  refine codeAny_of_tree ?_
  show wpAny _ _ (callAny (.ref C) _) _ _ _
  repeat (any_goals (first | assumption | with_reducible refine wpAny_loadPart_at hC ?_ | wp_step))
  refine ⟨rfl, ?_⟩
  refine codeAny_call_builtin_at (Code.quiet_builtin _ (by decide +kernel)) entry_typeCall (typeCheck hC (typeCall F hT hC hi hb ?_))
  refine codeAny_mono fin fun r s' z => ?_
  rcases r with e | (v | _ | _ | _) <;> exact z
end
end ExK
end PySem
end
section
set_option maxHeartbeats 4000000
/-! UnknownAccount(name = ..); what the law's calls raise. -/
namespace So
open PySem PySem.Spec PyProof.Rows L2 He
/-! ### the class, as a Bool -/
theorem oexB_ok {K : PySem.W.Frag} {C : Addr} (h : oexB K C = true) : ∃ nm q N bs bm sn sub ab col dd k0 k1 k2 k3 k5, K.lookup C = some (excClassObj nm q C N bs bm true sn sub ab col dd k0 k1 k2 k3 k5 "ValueError.__new__") ∧ PySem.HandSPX.refsVE bm = true := by
  unfold oexB at h
  split at h
  · rename_i t dd cd sl ho
    obtain ⟨ht, h0⟩ := ba h
    have ht' := of_decide_eq_true ht
    clear h ht
    subst ht'
    split at h0
    · rename_i D bm k0 k1 k2 k3 n k5 hm hs
      obtain ⟨e1, h1⟩ := ba h0
      obtain ⟨e2, h2⟩ := ba h1
      obtain ⟨e3, h3⟩ := ba h2
      obtain ⟨e4, e5⟩ := ba h3
      have e1' : D = C := beq_iff_eq.mp e1
      have e2' : n = "ValueError.__new__" := beq_iff_eq.mp e2
      subst e1' e2'
      obtain ⟨nm, bs, mro, ns, qn, hd, sn, sub, ab, col, del⟩ := cd
      dsimp only at hm e3 e4
      subst hm e4
      have e3' : del = false := by cases del with
        | false => rfl
        | true => cases e3
      subst e3'
      have hsl : sl = #[k0, k1, k2, k3, some (.builtin "ValueError.__new__"), k5] := by
        obtain ⟨l⟩ := sl
        simp only at hs
        rw [hs]
      subst hsl
      exact ⟨nm, qn, ns, bs, bm, sn, sub, ab, col, dd, k0, k1, k2, k3, k5, ho, e5⟩
    · cases h0
  · cases h
section
variable {X : Cx} {CX : CXT} {k : Nat} {C OE fI : Addr} {mc : Value} {fd : FuncData} {ps ks : List Str} {sp : Sp} {x n : Str} {e : Expr} {es : List Expr} {kws : List Keyword} {p p1 p2 pos : Pos} {ta tk : TA} {to : TE} {g : List Value → List Value → List Value} {gV : List V → List V → List V} {o : Expr}
/-- O.__init__(self, ..), O an own class over ValueError without an __init__ -/
theorem pe_oinit {pl : Sem Bool} (he : PE X o (tC (.ref OE))) (r : ClX.CRead X.K OE mc) (at_ : PySem.W.findCls X.K (.ref OE) mc "__init__" = some (.val (.builtin "ValueError.__init__"))) (ha : PA X (e :: es) ta)
    (hc : eval (.Call (.Attribute o "__init__" p2) (e :: es) [] pos) X.env = (do
      let ov ← eval o X.env
      standAt p2.atName
      let (f, first) ← holding [ov] (getMethod ov "__init__" pl)
      callWith pos f first (backTo pos (starEach (e :: es) X.env)) (backToKw pos (keywordEach [] X.env))) := by rfl)
    (hs : starEach (e :: es) X.env = (false, eval e X.env) :: starEach es X.env := by rfl) (hpl : (backTo pos (starEach es X.env)).any (·.1) = false := by rfl) :
    PE X (.Call (.Attribute o "__init__" p2) (e :: es) [] pos) (tVeI X.K ta) := by
  refine ⟨fun pins s σ H Q I h => ?_⟩
  refine PySem.W.methodCall_KW (pl := pl) (thn (he.run pins s σ H (fun v H' => v = .ref OE ∧ H' = H) I ⟨rfl, rfl⟩) fun u s1 ⟨v, H1, I1, rv, ev, eH⟩ => ?_) hc
  subst ev eH
  obtain rfl : u = Value.ref OE := rv
  refine PySem.W.method_cls I1.kIn r.ga (PySem.W.cls_value I1.kIn r.rd at_ (by decide +kernel) ?_)
  refine PyProof.Rows.callWith_method1 (thn (ha.run pos pins _ σ H1 _ (I1.tok _) h) fun us s2 ⟨vs, H2, I2, r1, a, C, ws, ev, hl, T, ea, q⟩ => ?_) hs hpl
  subst ev
  cases r1 with
  | @cons _ u0 _ ur ra rr =>
    obtain rfl : u0 = Value.ref a := ra
    have hlen : ur.length ≤ sizeLine := by
      rw [← Paired.length rr, sizeLine_eq]
      omega
    exact oinit_ok T I2 ea hlen fun s' J => ⟨.non, H2, J, rfl, q⟩
/-- C(n = e), C's own __init__ keeping sp -/
def tMkK (C : Addr) (sp : Sp) (gV : List V → List V → List V) (tk : TA) : L2.St → Hp → XK → Prop := fun σ H Q => tk σ H fun zs H1 => zs.length = 1 ∧ ∀ a, H1 a = none → sp (gV [.ref a] zs) (upd H1 a (exo a C none))
  (fun v H2 => v = .non ∧ ∃ (d : Addr) (fs : List (Str × V)), H2 a = some (exo a C (some d)) ∧ H2 d = some (exd d fs) ∧ H1 d = none ∧ Q (.ref C) (some d) (upd (del H2 a) d (.xd fs))) (fun _ _ _ => False)
theorem pmk_key (T : OexC X.K C) (iC : PySem.W.findIn X.K (.ref C) "__init__" = some (some (.ref fI))) (tI : PySem.W.typeIn X.K (.ref fI) = some (.type "function"))
    (F1 : FnOk X.prog X.w X.K X.mg X.base CX k fI fd ps sp) (hr : Room (k + 1) X.A) (hb : KBn X.K fd ps 1 [n] g gV) (hx : Passes CX X (fun _ _ _ => False)) (hg : Gl X x) (hm : X.mg x = some (.ref C)) (hkw : PK X kws tk)
    (hall : (backToKw pos (keywordEach kws X.env)).all (·.1.isSome) = true := by rfl) (hks : (backToKw pos (keywordEach kws X.env)).filterMap (·.1) = [n] := by rfl) (hdb : (x == ("__debug__" : Str)) = false := by decide)
    (hpl : ((backTo pos (starEach [] X.env)).any (·.1) || (backToKw pos (keywordEach kws X.env)).any (·.1.isNone)) = false := by rfl) :
    PMk X (.Call (.Name x p) [] kws pos) (tMkK C sp gV tk) := by
  intro pins s σ H Q I h
  obtain ⟨nm, q, N, bs, bm, sn, sub, ab, col, dd, k0, k1, k2, k3, k5, hC, hbm⟩ := T.cls
  refine wpAny_Call_Name_kw (ld_glob I hg hm ?_ hdb)
  refine PySem.W.callWith_KW0 (h₀ := X.base) I.ok.mod.kin T.kC hall ?_ hpl
  refine thn (hkw.run pos pins s σ H _ I h) fun ws s1 ⟨zs, H1, I1, rz, lz, q1⟩ => ⟨I1.kIn, ?_⟩
  rw [hks]
  obtain ⟨z, rfl⟩ : ∃ z, zs = [z] := by
    match zs, lz with
    | [z], _ => exact ⟨z, rfl⟩
  obtain ⟨u, rfl, ru⟩ : ∃ u, ws = [u] ∧ RelV z u := by
    cases rz with
    | cons r1 rr => cases rr; exact ⟨_, rfl, r1⟩
  show wpAny _ _ (call (.ref C) [] [(n, u)]) _ _ _
  obtain ⟨hp, g', dr, tk', os⟩ := s1
  have hsz : hp.objs.size ≤ hp.objs.size + 1 := Nat.le_succ _
  have hn : H1 (hp.objs.size + 1) = none := I1.hok.fresh hsz
  have hq := q1 (hp.objs.size + 1) hn
  have kk : ∀ b o, hp.get? b = some o → ((hp.push (PySem.W.kdv_tup [])).push (PySem.HandSPX.excO C hp.objs.size)).get? b = some o := fun b o e => Heap.get?_push_of_some _ (Heap.get?_push_of_some _ e)
  have ho : ((hp.push (PySem.W.kdv_tup [])).push (PySem.HandSPX.excO C hp.objs.size)).get? (hp.objs.size + 1) = some (PySem.HandSPX.excO C hp.objs.size) := by heap_get
  have I2 : Inv X pins σ (upd H1 (hp.objs.size + 1) (exo (hp.objs.size + 1) C none)) ⟨(hp.push (PySem.W.kdv_tup [])).push (PySem.HandSPX.excO C hp.objs.size), g', dr, tk', os⟩ :=
    I1.laid (t' := tk') (a := hp.objs.size + 1) (o := exo (hp.objs.size + 1) C none) (h' := (hp.push (PySem.W.kdv_tup [])).push (PySem.HandSPX.excO C hp.objs.size)) kk hsz (exo_ok ho)
  have r2 : Vals (gV [V.ref (hp.objs.size + 1)] [z]) (g [Value.ref (hp.objs.size + 1)] [u]) := hb.rel (.cons rfl .nil) (.cons ru .nil)
  refine wpAny_call (PySem.ExK.callRun F.excBase_ValueError (fun Y => PySem.HandSPX.refsVE_contains Y bm hbm) (I1.kIn _ _ hC) (PySem.W.looks_findIn I1.kIn iC) (fun self => PySem.W.bind_fn I1.kIn self tI)
    (codeAny_mono (F1.run _ X.stack _ _ ⟨[Value.ref (hp.objs.size + 1)], [(n, u)]⟩ (g [Value.ref (hp.objs.size + 1)] [u]) _ _ (fun _ _ _ => False) (hr.make C [] [(n, u)]) (I2.env0.make C [] [(n, u)]) (hb.to _ [Value.ref (hp.objs.size + 1)] [u] I2.kIn rfl rfl) r2 hq) fun r s' hq' => ?_))
  cases r with
  | error er => exact hx pins σ _ _ er s' I2 hq'
  | ok fl =>
    cases fl with
    | ret u' =>
      obtain ⟨v, H2, os2, bare2, un2, hok2, rv, ev, d, fs, ea, ed, hd1, q2⟩ := hq'
      subst ev
      obtain ⟨h2, g2, d2, t2, os'⟩ := s'
      exact ⟨rv, mk_end (raises_own T.exC T.tyC) I1 hsz kk un2 hok2 os2 bare2 ea ed hd1 q2⟩
    | next => exact False.elim hq'
    | brk => exact False.elim hq'
    | cont => exact False.elim hq'
end
/-! ### what more the top keeps -/
theorem excB_ok {K : PySem.W.Frag} {D : Addr} (h : excB K D = true) : ExcC K D := by
  obtain ⟨h1, h⟩ := ba h
  obtain ⟨h2, h⟩ := ba h
  obtain ⟨h3, h⟩ := ba h
  obtain ⟨h4, h⟩ := ba h
  obtain ⟨h5, h⟩ := ba h
  obtain ⟨h6, h⟩ := ba h
  obtain ⟨h7, h8⟩ := ba h
  exact ⟨eqO_ok h1, eqO_ok h2, of_decide_eq_true h3, h4, eqO_ok h5, eqO_ok h6, of_decide_eq_true h7, of_decide_eq_true h8⟩
structure Ky (K : PySem.W.Frag) : Prop where
  oex : OexC K (ga K "UnknownAccount")
  rdO : ClX.CRead K (ga K "OrderError") (.type "type")
  oin : PySem.W.findCls K (.ref (ga K "OrderError")) (.type "type") "__init__" = some (.val (.builtin "ValueError.__init__"))
  ini : PySem.W.findIn K (.ref (ga K "UnknownAccount")) "__init__" = some (some (.ref (ma K (ga K "UnknownAccount") "__init__")))
  fun_ : PySem.W.typeIn K (.ref (ma K (ga K "UnknownAccount") "__init__")) = some (.type "function")
  noN : PySem.W.findIn K (.ref (ga K "UnknownAccount")) "name" = some none
  xf : XfC K (ga K "UnknownAccount")
  exc : ∀ x ∈ excN, ExcC K (ga K x)
  kit : ∀ x ∈ excN, ∀ y ∈ kindL, PySem.W.kitOne K (.ref (ga K x)) (.ref (ga K y)) = some (decide (x = y))
  kitV : ∀ x ∈ excN, PySem.W.kitOne K (.ref (ga K x)) (.type "ValueError") = some true
  f_ua : ∃ fd, FunD K "__init__" "UnknownAccount.__init__" (defArgs s_UnknownAccount___init__) (defBody s_UnknownAccount___init__) (defScope s_UnknownAccount___init__) [] [] (ma K (ga K "UnknownAccount") "__init__") fd
theorem ky_of {K : PySem.W.Frag} (h : uaB K = true) (hd : ∃ fd, FunD K uaD.name uaD.qual uaD.params uaD.body uaD.scope (uaD.dvs K) (uaD.kws K) (uaD.at_ K) fd) : Ky K := by
  obtain ⟨h1, h⟩ := ba h
  obtain ⟨h2, h⟩ := ba h
  obtain ⟨h3, h⟩ := ba h
  obtain ⟨h4, h⟩ := ba h
  obtain ⟨h5, h⟩ := ba h
  obtain ⟨h6, h⟩ := ba h
  obtain ⟨h7, h⟩ := ba h
  obtain ⟨h8, h⟩ := ba h
  obtain ⟨h9, h⟩ := ba h
  obtain ⟨h10, h⟩ := ba h
  obtain ⟨h11, h12⟩ := ba h
  obtain ⟨r1, r2⟩ := ba h6
  have two := fun x (hx : x ∈ excN) => ba (List.all_eq_true.mp h12 x hx)
  refine ⟨⟨oexB_ok h1, eqO_ok h2, of_decide_eq_true h3, of_decide_eq_true h4, h5⟩, ⟨r1, eqO_ok r2⟩, ?_, eqO_ok h8, of_decide_eq_true h9, eqO_ok h10, xfB_ok h11, fun x hx => excB_ok (two x hx).1, fun x hx y hy => of_decide_eq_true (List.all_eq_true.mp (ba (two x hx).2).1 y hy), fun x hx => of_decide_eq_true (ba (two x hx).2).2, hd⟩
  unfold oinB at h7
  split at h7
  · rename_i id e
    rw [e, of_decide_eq_true h7]
  · cases h7
def alS : Str := "al"
def spUaInit (K : PySem.W.Frag) : Sp := fun vs H Q _ => ∃ (a : Addr) (nm : Str), vs = [.ref a, .str nm] ∧ H a = some (exo a (ga K "UnknownAccount") none) ∧ ∀ dx, H dx = none → dx ≠ a → Q .non (upd (upd H dx (exd dx [(("name" : Str), .str nm)])) a (exo a (ga K "UnknownAccount") (some dx)))
/-- what a raised UnknownAccount leaves: its dict -/
def UaE (K : PySem.W.Frag) (T : Wt) (H : Hp) (E : XK) : Prop := ∀ d H', Gr T H H' → H' d = some (.xd [(("name" : Str), .str alS)]) → E (.ref (ga K "UnknownAccount")) (some d) H'
def spAccInX (K : PySem.W.Frag) (T : Wt) : Sp := fun vs H Q E => ∃ (l b dx ad dd : Addr) (day : Int) (e : AccE) (os : List Ord), vs = [.ref l, .ref b, .str alS] ∧ BookP K H b dx ad dd day (some e) os ∧ Tbs T H ∧ UaE K T H E
def spAccX (K : PySem.W.Frag) (T : Wt) : Sp := fun vs H Q E => ∃ (l pl dxl cal fl b dx ad dd : Addr) (ps : List Int) (c day : Int) (e : AccE) (os : List Ord) (n : Nat), vs = [.ref l, .str alS] ∧ LedP K H l pl dxl cal fl b dx ad dd ps c day (some e) os n ∧ Tbs T H ∧ UaE K T H E
def spVAmountX (K : PySem.W.Frag) : Sp := fun vs H Q E => ∃ a l h : Int, vs = [.int a, .int l, .int h] ∧ ¬ (l ≤ a ∧ a ≤ h) ∧ E (.ref (ga K "InvalidAmount")) none H
def spLargestX (K : PySem.W.Frag) (T : Wt) : Sp := spAccX K T
def spEarliestX (K : PySem.W.Frag) (T : Wt) : Sp := fun vs H Q E => ∃ (l pl dxl cal fl b dx ad dd : Addr) (ps : List Int) (c day am : Int) (e : AccE) (os : List Ord) (n : Nat), vs = [.ref l, .str alS, .int am] ∧ LedP K H l pl dxl cal fl b dx ad dd ps c day (some e) os n ∧ Tbs T H ∧ UaE K T H E
def spEarliestA (K : PySem.W.Frag) (T : Wt) : Sp := fun vs H Q E => ∃ (l pl dxl cal fl b dx ad dd : Addr) (ps : List Int) (c day : Int) (k : Kd) (lim bal am : Int) (os : List Ord) (n : Nat), vs = [.ref l, .str bobS, .int am] ∧ LedP K H l pl dxl cal fl b dx ad dd ps c day (some (k, lim, bal)) os n ∧ AccOk k lim bal ∧ ¬ (1 ≤ am ∧ am ≤ 1000000000000000000) ∧ Tbs T H ∧
  ∀ H', Gr T H H' → E (.ref (ga K "InvalidAmount")) none H'
section
variable {P : Program} {w : World} {K : PySem.W.Frag} {mg : Str → Option Value} {base : Heap} {T : Wt}
theorem ok_ua_init (kn : Kn K mg) (ky : Ky K) : ∃ fd, FnOk P w K mg base CX0 1 (ma K (ga K "UnknownAccount") "__init__") fd ["self", "name"] (spUaInit K) ∧ KBn K fd ["self", "name"] 1 ["name"] (fun us ws => us ++ ws) (fun vs zs => vs ++ zs) := by
  obtain ⟨fd, F⟩ := ky.f_ua
  refine ⟨fd, F.ok sc_UnknownAccount___init__ (fun vs H Q E h => ?_) (fun cdv A outer s H vs Q E hr h => ?_), ?_⟩
  · obtain ⟨a, nm, rfl, _⟩ := h
    rfl
  · obtain ⟨a, nm, rfl, ha, hq⟩ := h
    refine ⟨_, PSs.nox (pss_cons (ps_expr (pe_oinit (pgo (kn.glo "OrderError")) ky.rdO ky.oin (pa_cons (pv 0) (pa_cons pe_str pa_nil))))
      (pss_one (ps_ost (pv 0) (pv 1)))), ?_⟩
    refine ⟨_, rfl, a, _, [_], rfl, (by decide : 1 ≤ 1000), ky.oex, ha, ?_⟩
    exact ⟨_, rfl, _, rfl, a, _, rfl, ky.oex, ky.noN, .inl ⟨ha, fun dx h1 h2 => hq dx h1 h2⟩⟩
  · obtain ⟨oc, od, dV, kV, doc, pm, an, cdv, ct, osl, rfl, lk, hcd, hD, _⟩ := F.ex
    rcases hD with ⟨_, rfl⟩ | ⟨z, _⟩
    · refine ⟨fun s us ws X l1 l2 => ?_, fun r1 r2 => r1.append r2⟩
      match us, l1, ws, l2 with
      | [u], _, [v], _ => exact BindsTo.of_looks fun M => PySem.W.Looks.of_pure rfl
    · exact absurd rfl z
theorem ok_account_inX (kn : Kn K mg) (ky : Ky K) : Okd P w K mg base (CX P w) 5 (ma K (ga K "Ledger") "account_in") ["self", "books", "name"] (spAccInX K T) := by
  refine okd_of kn.m_Ledger_account_in sc_Ledger_account_in (fun vs H Q E h => ?_) (fun _ _ _ _ _ _ us hl => match us, hl with | [_, _, _], _ => rfl) (fun cdv A outer s H vs Q E hr h => ?_)
  · obtain ⟨l, b, dx, ad, dd, day, e, os, rfl, _⟩ := h
    rfl
  · obtain ⟨l, b, dx, ad, dd, day, ⟨k, lim, bal⟩, os, rfl, B, tb, hE⟩ := h
    obtain ⟨t, h1, h2⟩ := B.acc
    obtain ⟨fd, F1, hb⟩ := ok_ua_init (P := P) (w := w) (base := base) kn ky
    have hdg : DGet H ad (.str alS) none := DGet.k (k := Sum.inr alS) h1
    refine ⟨_, (pss_cons (ps_if (pt_cmp (pc_dnotin (hu_of hr) (pv 2) (pe_fld (pv 1) rfl))) (pss_one (ps_raise rfl (takes_of (E := E) rfl rfl rfl rfl) (pmk_key (n := "name") ky.oex ky.ini ky.fun_ F1 (hr.mono (by decide)) hb pass0 rfl (kn.glo "UnknownAccount") (pk_cons (pv 2) pk_nil)))) pss_nil)
      (pss_cons ps_never (pss_one ps_never))), ?_⟩
    refine ⟨_, rfl, _, rfl, b, _, dx, _, _, rfl, B.obj, kn.cls "Books", kn.noat "Books" "accounts", rfl, ad, _, rfl, hdg, _, rfl, ?_⟩
    refine ite2 (fun _ => ?_) (fun h => absurd rfl h)
    refine ⟨_, rfl, rfl, fun a ha0 => ⟨a, alS, rfl, upd_same, fun d hd hda => ⟨rfl, d, [(("name" : Str), .str alS)], upd_same, ?_, ?_, ?_⟩⟩⟩
    · rw [upd_ne hda, upd_same]
    · rw [upd_ne hda] at hd
      exact hd
    · rw [upd_ne hda] at hd
      refine hE d _ ?_ upd_same
      have keep : ∀ b o, H b = some o → (upd (del (upd (upd (upd H a (exo a (ga K "UnknownAccount") none)) d (exd d [(("name" : Str), V.str alS)])) a (exo a (ga K "UnknownAccount") (some d))) a) d (.xd [(("name" : Str), V.str alS)])) b = some o := fun b o e => by
        have n1 : b ≠ d := ne_of_none e hd
        have n2 : b ≠ a := ne_of_none e ha0
        rw [upd_ne n1, del_ne n2, upd_ne n2, upd_ne n1, upd_ne n2]
        exact e
      exact ⟨fun b o e _ _ => keep b o e, tb.ext keep, fun b o e => ⟨o, keep b o e⟩⟩
theorem ok_accountX (kn : Kn K mg) (ky : Ky K) : Okd P w K mg base (CX P w) 6 (ma K (ga K "Ledger") "account") ["self", "name"] (spAccX K T) := by
  refine okd_of kn.m_Ledger_account sc_Ledger_account (fun vs H Q E h => ?_) (fun _ _ _ _ _ _ us hl => match us, hl with | [_, _], _ => rfl) (fun cdv A outer s H vs Q E hr h => ?_)
  · obtain ⟨l, pl, dxl, cal, fl, b, dx, ad, dd, ps, c, day, e, os, n, rfl, _⟩ := h
    rfl
  · obtain ⟨l, pl, dxl, cal, fl, b, dx, ad, dd, ps, c, day, e, os, n, rfl, L, tb, hE⟩ := h
    refine ⟨_, (pss_one (ps_ret (pm (ok_account_inX (T := T) kn ky) (kn.cls "Ledger") (kn.meth "Ledger" "account_in") hr (passes_call (takes_of (E := E) rfl rfl rfl rfl) (fun _ _ _ _ h => h)) (pv 0) (pa_cons (pe_fld (pv 0) rfl) (pa_cons (pv 1) pa_nil))))), ?_⟩
    exact ⟨_, rfl, l, dxl, _, rfl, L.obj, rfl, _, rfl, l, _, dxl, _, _, rfl, L.obj, kn.cls "Ledger", kn.noat "Ledger" "books", rfl, _, rfl, l, b, dx, ad, dd, day, e, os, rfl, L.book, tb, hE⟩
theorem ok_validate_amountX (kn : Kn K mg) : Okd P w K mg base (CX P w) 3 (ga K "validate_amount") ["amount", "low", "high"] (spVAmountX K) := by
  refine okd_of kn.f_validate_amount sc_validate_amount (fun vs H Q E h => ?_) (fun _ _ _ _ _ _ us hl => match us, hl with | [_, _, _], _ => rfl) (fun cdv A outer s H vs Q E hr h => ?_)
  · obtain ⟨a, l, u, rfl, _⟩ := h
    rfl
  · obtain ⟨a, l, u, rfl, hn, hE⟩ := h
    have xI := kn.exc "InvalidAmount"
    refine ⟨_, (pss_one (ps_if (pt_not (pt_val (pf (ok_is_amount kn) hr (kn.glo "is_amount") pass0 (pa_cons (pv 0) (pa_cons (pv 1) (pa_cons (pv 2) pa_nil)))))) (pss_one (ps_raise rfl (takes_of (E := E) rfl rfl rfl rfl) (pmk_own PySem.F.excBase_ValueError xI.1 (kn.glo "InvalidAmount") xI.2.1 (raises_own xI.2.2.1 xI.2.2.2) rfl))) pss_nil)), ?_⟩
    refine ⟨_, rfl, _, rfl, _, rfl, a, l, u, rfl, _, rfl, ?_⟩
    rw [decide_eq_false hn]
    refine ite2 (fun _ => ?_) (fun h => absurd rfl h)
    exact hE
theorem ok_largestX (kn : Kn K mg) (ky : Ky K) : Okd P w K mg base (CX P w) 7 (ma K (ga K "Ledger") "largest_withdrawal") ["self", "name"] (spLargestX K T) := by
  refine okd_of kn.m_Ledger_largest_withdrawal sc_Ledger_largest_withdrawal (fun vs H Q E h => ?_) (fun _ _ _ _ _ _ us hl => match us, hl with | [_, _], _ => rfl) (fun cdv A outer s H vs Q E hr h => ?_)
  · obtain ⟨l, pl, dxl, cal, fl, b, dx, ad, dd, ps, c, day, e, os, n, rfl, _⟩ := h
    rfl
  · obtain ⟨l, pl, dxl, cal, fl, b, dx, ad, dd, ps, c, day, e, os, n, rfl, L, tb, hE⟩ := h
    refine ⟨_, (pss_cons (ps_set (i := 2) sc_Ledger_largest_withdrawal.nd rfl (.inl rfl) (pm (ok_accountX (T := T) kn ky) (kn.cls "Ledger") (kn.meth "Ledger" "account") hr (passes_call (takes_of (E := E) rfl rfl rfl rfl) (fun _ _ _ _ h => h)) (pv 0) (pa_cons (pv 1) pa_nil)))
      (pss_cons ps_never (pss_one ps_never))), ?_⟩
    exact ⟨_, rfl, l, dxl, _, rfl, L.obj, rfl, _, rfl, l, pl, dxl, cal, fl, b, dx, ad, dd, ps, c, day, e, os, n, rfl, L, tb, hE⟩
theorem ok_earliestX (kn : Kn K mg) (ky : Ky K) : Okd P w K mg base (CX P w) 7 (ma K (ga K "Ledger") "earliest_withdrawal") ["self", "name", "amount"] (spEarliestX K T) := by
  refine okd_of kn.m_Ledger_earliest_withdrawal sc_Ledger_earliest_withdrawal (fun vs H Q E h => ?_) (fun _ _ _ _ _ _ us hl => match us, hl with | [_, _, _], _ => rfl) (fun cdv A outer s H vs Q E hr h => ?_)
  · obtain ⟨l, pl, dxl, cal, fl, b, dx, ad, dd, ps, c, day, am, e, os, n, rfl, _⟩ := h
    rfl
  · obtain ⟨l, pl, dxl, cal, fl, b, dx, ad, dd, ps, c, day, am, e, os, n, rfl, L, tb, hE⟩ := h
    refine ⟨_, (pss_cons (ps_set (i := 3) sc_Ledger_earliest_withdrawal.nd rfl (.inl rfl) (pm (ok_accountX (T := T) kn ky) (kn.cls "Ledger") (kn.meth "Ledger" "account") hr (passes_call (takes_of (E := E) rfl rfl rfl rfl) (fun _ _ _ _ h => h)) (pv 0) (pa_cons (pv 1) pa_nil)))
      (pss_cons ps_never (pss_cons ps_never (pss_cons ps_never (pss_cons ps_never (pss_one ps_never)))))), ?_⟩
    exact ⟨_, rfl, l, dxl, _, rfl, L.obj, rfl, _, rfl, l, pl, dxl, cal, fl, b, dx, ad, dd, ps, c, day, e, os, n, rfl, L, tb, hE⟩
theorem ok_earliestA (kn : Kn K mg) (kx : Kx K) : Okd P w K mg base (CX P w) 7 (ma K (ga K "Ledger") "earliest_withdrawal") ["self", "name", "amount"] (spEarliestA K T) := by
  refine okd_of kn.m_Ledger_earliest_withdrawal sc_Ledger_earliest_withdrawal (fun vs H Q E h => ?_) (fun _ _ _ _ _ _ us hl => match us, hl with | [_, _, _], _ => rfl) (fun cdv A outer s H vs Q E hr h => ?_)
  · obtain ⟨l, pl, dxl, cal, fl, b, dx, ad, dd, ps, c, day, k, lim, bal, am, os, n, rfl, _⟩ := h
    rfl
  · obtain ⟨l, pl, dxl, cal, fl, b, dx, ad, dd, ps, c, day, k, lim, bal, am, os, n, rfl, L, hok, hn, tb, hE⟩ := h
    refine ⟨_, (pss_cons (ps_set (i := 3) sc_Ledger_earliest_withdrawal.nd rfl (.inl rfl) (pm (ok_account (T := T) kn kx) (kn.cls "Ledger") (kn.meth "Ledger" "account") hr pass0 (pv 0) (pa_cons (pv 1) pa_nil)))
      (pss_cons (ps_expr (pf (ok_validate_amountX kn) (hr.mono (by decide)) (kn.glo "validate_amount") (passes_call (takes_of (E := E) rfl rfl rfl rfl) (fun _ _ _ _ h => h)) (pa_cons (pv 2) (pa_cons pe_int (pa_cons (pe_gi (kn.int "MAX_AMOUNT" 1000000000000000000)) pa_nil)))))
      (pss_cons ps_never (pss_cons ps_never (pss_cons ps_never (pss_one ps_never)))))), ?_⟩
    refine ⟨_, rfl, l, dxl, _, rfl, L.obj, rfl, _, rfl, l, dxl, cal, pl, fl, b, dx, ad, dd, ps, c, day, k, lim, bal, os, rfl, L.obj, L.cal, L.book, hok, tb, fun a H2 g2 ha => ?_⟩
    exact ⟨_, rfl, am, 1, _, rfl, hn, hE H2 g2⟩
end
end So
end
section
set_option maxHeartbeats 4000000
/-! The law's draws. -/
namespace So
open PySem PySem.Spec PyProof.Rows L2 He
/-- the source of draws: a number, the cells, a place -/
def HAt (H : Hp) (a cs : Addr) : Prop := ∃ (m ix : Int) (ns : List Int), H a = some (.lst [.int m, .ref cs, .int ix]) ∧ H cs = some (.lst (ns.map V.int)) ∧ ns.length ≤ 63
abbrev SH (a cs : Addr) : Addr → Prop := fun b => b = a ∨ b = cs
theorem HAt.gr {T : Wt} {H H' : Hp} {a cs : Addr} (h : HAt H a cs) (g : Gr T H H') : HAt H' a cs := by
  obtain ⟨m, ix, ns, h1, h2, h3⟩ := h
  exact ⟨m, ix, ns, g.get h1, g.get h2, h3⟩
theorem HAt.grB {T : Wt} {S : Addr → Prop} {H H' : Hp} {a cs : Addr} (h : HAt H a cs) (g : GrB T S H H') (n1 : ¬ S a) (n2 : ¬ S cs) : HAt H' a cs := by
  obtain ⟨m, ix, ns, h1, h2, h3⟩ := h
  exact ⟨m, ix, ns, g.at h1 n1, g.at h2 n2, h3⟩
theorem sqL_gr {K : PySem.W.Frag} {T : Wt} {H H' : Hp} {a : Addr} {xs : List V} (h : SqL K H a xs) (g : Gr T H H') : SqL K H' a xs := by
  rcases h with (h | ⟨o, h⟩) | h
  · exact .inl (.inl (g.get h))
  · exact .inl (.inr ⟨o, g.get h⟩)
  · exact .inr h
def spMix (K : PySem.W.Frag) (T : Wt) : Sp := fun vs H Q _ => ∃ (sc : Addr) (seed : Int) (ns : List Int), vs = [.ref sc, .int seed] ∧ SqL K H sc (ns.map V.int) ∧ ns.length ≤ 63 ∧ Tbs T H ∧ ∀ a cs H', Gr T H H' → H a = none → H cs = none → HAt H' a cs → Q (.ref a) H'
def spNext (T : Wt) : Sp := fun vs H Q _ => ∃ (a cs : Addr) (b : Int), vs = [.ref a, .int b] ∧ HAt H a cs ∧ (1 ≤ b ∧ b ≤ 100000) ∧ Tbs T H ∧ ∀ r H', GrB T (SH a cs) H H' → HAt H' a cs → 0 ≤ r → r < b → Q (.int r) H'
section
variable {P : Program} {w : World} {K : PySem.W.Frag} {mg : Str → Option Value} {base : Heap} {T : Wt}
theorem ok_mix (kn : Kn K mg) : Okd P w K mg base CX0 1 (ga K "_law_mix") ["_law_script", "_law_seed"] (spMix K T) := by
  refine okd_of kn.f__law_mix sc__law_mix (fun vs H Q E h => ?_) (fun _ _ _ _ _ _ us hl => match us, hl with | [_, _], _ => rfl) (fun cdv A outer s H vs Q E hr h => ?_)
  · obtain ⟨sc, seed, ns, rfl, _⟩ := h
    rfl
  · obtain ⟨sc, seed, ns, rfl, hs, hl, tb, hq⟩ := h
    refine ⟨_, PSs.nox (pss_cons (ps_set (i := 2) sc__law_mix.nd rfl (.inl rfl) (pv 1))
      (pss_cons (ps_for PassesOwn.never rfl (pi_list (pv 0)) (pg_name (i := 3) sc__law_mix.nd rfl (.inl rfl)) (pss_one (ps_set (i := 2) sc__law_mix.nd rfl (.inl rfl) (pe_op op_mod (pe_op op_add (pe_op op_add (pe_op op_mul (pv 2) pe_int) (pe_op op_mod (pv 3) pe_int)) pe_int) pe_int))))
      (pss_one (ps_ret (pe_lst (pa_cons (pv 2) (pa_cons (pe_callTy call_list_of rfl (kn.free "list") boot_list (pa_cons (pv 0) pa_nil)) (pa_cons pe_int pa_nil)))))))), ?_⟩
    refine ⟨_, rfl, _, rfl, sc, rfl, ⟨_, hs⟩, ?_⟩
    refine for_list (xs := ns.map V.int) (fun i σ H' => (∃ (m : Int), ∃ a3, σ = [some (.ref sc), some (.int seed), some (.int m), a3]) ∧ Gr T H H') ⟨⟨_, _, rfl⟩, Gr.refl tb⟩ (fun i σ H' _ hi => sqL_gr hs hi.2) (fun i x σ H' hx hi => ?_) (fun σ H' hi => ?_)
    · obtain ⟨⟨m, a3, rfl⟩, g⟩ := hi
      obtain ⟨z, rfl⟩ : ∃ z, x = V.int z := by
        rw [List.getElem?_map] at hx
        cases e : ns[i]? with
        | none => rw [e] at hx; cases hx
        | some z => rw [e] at hx; cases hx; exact ⟨z, rfl⟩
      refine ⟨_, rfl, _, _, rfl, rfl, .inr ⟨by decide, by decide⟩, ?_⟩
      refine ⟨_, rfl, _, _, rfl, rfl, (by show (0 : Int) < 2147483629; decide), _, _, rfl, rfl, _, _, rfl, rfl, _, _, rfl, rfl, (by show (0 : Int) < 2147483647; decide), ⟨_, _, rfl⟩, g⟩
    · obtain ⟨⟨m, a3, rfl⟩, g⟩ := hi
      refine ⟨_, rfl, _, rfl, sc, _, rfl, .inl (sqL_gr hs g), fun cs hcs => ?_⟩
      refine ⟨(by decide : 3 ≤ sizeLine), fun a ha => ?_⟩
      have g1 := g.new (o := .lst (ns.map V.int)) hcs
      have g2 := g1.new (o := .lst [.int m, .ref cs, .int 0]) ha
      exact hq a cs _ g2 (g1.nn ha) (g.nn hcs) ⟨m, 0, ns, upd_same, upd_ext ha _ _ upd_same, hl⟩
theorem ok_next (kn : Kn K mg) : Okd P w K mg base CX0 1 (ga K "_law_next") ["_law_h", "_law_bound"] (spNext T) := by
  refine okd_of kn.f__law_next sc__law_next (fun vs H Q E h => ?_) (fun _ _ _ _ _ _ us hl => match us, hl with | [_, _], _ => rfl) (fun cdv A outer s H vs Q E hr h => ?_)
  · obtain ⟨a, cs, b, rfl, _⟩ := h
    rfl
  · obtain ⟨a, cs, b, rfl, ⟨m, ix, ns, h1, h2, h3⟩, ⟨b1, b2⟩, tb, hq⟩ := h
    have nac : a ≠ cs := fun z => by
      rw [z, h2] at h1
      have z1 := Option.some.inj h1
      injection z1 with z2
      match ns, z2 with
      | [_, _, _], z2 => cases z2
    refine ⟨_, PSs.nox (pss_cons (ps_set (i := 2) sc__law_next.nd rfl (.inl rfl) (pe_ix ix_list (pe_op op_cat (pe_ix ix_list (pv 0) pe_int (fun _ _ => rfl)) (pe_lst (pa_cons pe_int pa_nil))) (pe_op op_mod (pe_ix ix_list (pv 0) pe_int (fun _ _ => rfl)) (pe_callB (call_max2 rfl) rfl (kn.free "max") boot_max (pa_cons pe_int (pa_cons (pe_callB (call_len_seq) rfl (kn.free "len") boot_len (pa_cons (pe_ix ix_list (pv 0) pe_int (fun _ _ => rfl)) pa_nil)) pa_nil)))) (fun _ _ => rfl)))
      (pss_cons (ps_if (pt_cmpR op_ge (pv 2) (pe_op op_pow pe_int pe_int) (nomark _)) (pss_cons (ps_asg (pe_op op_fdiv (pv 2) (pv 1)) (pg_sub (pe_ix ix_list (pv 0) pe_int (fun _ _ => rfl)) (pe_op op_mod (pe_ix ix_list (pv 0) pe_int (fun _ _ => rfl)) (pe_callB (call_len_seq) rfl (kn.free "len") boot_len (pa_cons (pe_ix ix_list (pv 0) pe_int (fun _ _ => rfl)) pa_nil))) set_list))
      (pss_one (ps_ret (pe_op op_mod (pv 2) (pv 1))))) pss_nil)
      (pss_cons (ps_asg (pe_op op_mod (pe_op op_add (pe_op op_add (pe_op op_mul (pe_ix ix_list (pv 0) pe_int (fun _ _ => rfl)) pe_int) (pe_op op_mul (pv 2) pe_int)) pe_int) pe_int) (pg_sub (pv 0) pe_int set_list))
      (pss_cons (ps_asg (pe_op op_add (pe_ix ix_list (pv 0) pe_int (fun _ _ => rfl)) pe_int) (pg_sub (pv 0) pe_int set_list))
      (pss_one (ps_ret (pe_op op_mod (pe_op op_fdiv (pe_ix ix_list (pv 0) pe_int (fun _ _ => rfl)) pe_int) (pv 1)))))))), ?_⟩
    have a0 : atI [V.int m, .ref cs, .int ix] 0 = some (.int m) := rfl
    have a1 : atI [V.int m, .ref cs, .int ix] 1 = some (.ref cs) := rfl
    have a2 : atI [V.int m, .ref cs, .int ix] 2 = some (.int ix) := rfl
    refine ⟨_, rfl, a, _, _, _, rfl, rfl, .inl (.inl h1), a1, (by decide : 1 ≤ sizeLine), fun l hln => ?_⟩
    have g1 : Gr T H (upd H l (.lst [.int 0])) := (Gr.refl tb).new hln
    refine ⟨cs, l, _, _, rfl, rfl, g1.get h2, upd_same, ?_, fun q hqn => ?_⟩
    · rw [List.length_map]
      show ns.length + 1 ≤ sizeLine
      rw [sizeLine_eq]
      omega
    have g2 := g1.new (o := .lst (ns.map V.int ++ [.int 0])) hqn
    have hq2 : (upd (upd H l (.lst [.int 0])) q (.lst (ns.map V.int ++ [.int 0]))) q = some (.lst (ns.map V.int ++ [.int 0])) := upd_same
    generalize (upd (upd H l (.lst [.int 0])) q (.lst (ns.map V.int ++ [.int 0]))) = H2 at g2 hq2 ⊢
    have k1 := g2.get h1
    have k2 := g2.get h2
    have hlen : (ns.map V.int).length = ns.length := List.length_map ..
    refine ⟨_, rfl, a, _, _, _, rfl, rfl, .inl (.inl k1), a2, _, rfl, a, _, _, _, rfl, rfl, .inl (.inl k1), a1, cs, _, rfl, .inl (.inl (.inl k2)), _, _, rfl, ?_⟩
    rw [hlen]
    generalize hM : (if ((ns.length : Nat) : Int) > 1 then ((ns.length : Nat) : Int) else 1) = M
    have hM1 : 1 ≤ M ∧ M ≤ ns.length + 1 ∧ (1 ≤ ns.length → M ≤ ns.length) := by
      rw [← hM]
      split <;> omega
    have e0 := Int.emod_nonneg ix (show M ≠ 0 by omega)
    have e1 := Int.emod_lt_of_pos ix (show 0 < M by omega)
    have hj : (ix % M).toNat < (ns ++ [0]).length := by
      rw [List.length_append]
      show _ < ns.length + 1
      omega
    obtain ⟨z, hz⟩ : ∃ z, (ns ++ [0])[(ix % M).toNat]? = some z := ⟨_, List.getElem?_eq_getElem hj⟩
    have hz0 : ns.length = 0 → z = 0 := fun e => by
      have : ns = [] := List.eq_nil_of_length_eq_zero e
      subst this
      have : (ix % M).toNat = 0 := by
        have : ((([] : List Int) ++ [0]).length) = 1 := rfl
        omega
      rw [this] at hz
      cases hz
      rfl
    have hat : atI (ns.map V.int ++ [V.int 0]) (ix % M) = some (.int z) := by
      have e2 : ix % M = (((ix % M).toNat : Nat) : Int) := by omega
      rw [e2]
      refine atI_nat ?_
      have e3 : ns.map V.int ++ [V.int 0] = (ns ++ [0]).map V.int := by simp
      rw [e3, List.getElem?_map, hz]
      rfl
    refine ⟨_, _, rfl, rfl, (by show 0 < M; omega), q, _, _, _, rfl, rfl, .inl (.inl hq2), hat, ?_⟩
    refine ⟨_, rfl, _, _, rfl, rfl, ⟨by decide, by decide, by decide⟩, _, _, rfl, rfl, _, rfl, ?_⟩
    refine ite2 (fun h => ?_) (fun _ => ?_)
    · have hz18 : (1000000000000000000 : Int) ≤ z := by
        have := of_decide_eq_true h
        have e : (10 : Int) ^ (18 : Int).toNat = 1000000000000000000 := by decide +kernel
        omega
      have hnp : 1 ≤ ns.length := by
        by_cases q0 : ns.length = 0
        · have := hz0 q0
          omega
        · omega
      have d0 := Int.emod_nonneg ix (show (ns.length : Int) ≠ 0 by omega)
      have d1 := Int.emod_lt_of_pos ix (show (0 : Int) < ns.length by omega)
      have hix : ixN (ns.map V.int).length (ix % (ns.length : Int)) = some (ix % (ns.length : Int)).toNat := by
        rw [hlen]
        unfold ixN
        rw [if_pos d0, if_pos d1]
      refine ⟨_, rfl, _, rfl, _, _, rfl, rfl, ⟨by omega, by omega⟩, ?_⟩
      refine ⟨_, rfl, a, _, _, _, rfl, rfl, .inl (.inl k1), a1, _, rfl, a, _, _, _, rfl, rfl, .inl (.inl k1), a2, _, rfl, a, _, _, _, rfl, rfl, .inl (.inl k1), a1, cs, _, rfl, .inl (.inl (.inl k2)), ?_⟩
      rw [hlen]
      refine ⟨_, _, rfl, rfl, (by show (0 : Int) < ns.length; omega), cs, _, _, _, rfl, rfl, k2, hix, ?_⟩
      have g3 : GrB T (SH a cs) H (upd H2 cs (.lst ((ns.map V.int).set (ix % (ns.length : Int)).toNat (.int (z / b))))) := (Gr.to (S := SH a cs) g2).set (.inr rfl) k2
      refine ⟨_, rfl, _, rfl, _, _, rfl, rfl, (by show 0 < b; omega), ?_⟩
      refine hq _ _ g3 ⟨m, ix, ns.set (ix % (ns.length : Int)).toNat (z / b), ?_, ?_, by rw [List.length_set]; exact h3⟩ (Int.emod_nonneg _ (by omega)) (Int.emod_lt_of_pos _ (by omega))
      · rw [upd_ne nac]
        exact k1
      · rw [upd_same, List.map_set]
    · refine ⟨_, rfl, a, _, _, _, rfl, rfl, .inl (.inl k1), a0, _, _, rfl, rfl, .inr ⟨by decide, by decide⟩, ?_⟩
      refine ⟨_, rfl, _, _, rfl, rfl, .inr ⟨by decide, by decide⟩, _, _, rfl, rfl, _, _, rfl, rfl, _, _, rfl, rfl, (by show (0 : Int) < 2147483647; decide), ?_⟩
      rw [show (fun i j => V.int (i % j)) (m * 48271 + z * 69621 + 11) 2147483647 = V.int ((m * 48271 + z * 69621 + 11) % 2147483647) from rfl]
      generalize (m * 48271 + z * 69621 + 11) % 2147483647 = m'
      refine ⟨_, rfl, a, _, _, 0, rfl, rfl, k1, rfl, ?_⟩
      have g3 : GrB T (SH a cs) H (upd H2 a (.lst [.int m', .ref cs, .int ix])) := (Gr.to (S := SH a cs) g2).set (.inl rfl) k1
      have k3 : (upd H2 a (.lst [.int m', .ref cs, .int ix])) a = some (.lst [.int m', .ref cs, .int ix]) := upd_same
      have k4 : (upd H2 a (.lst [.int m', .ref cs, .int ix])) cs = some (.lst (ns.map V.int)) := by rw [upd_ne (Ne.symm nac)]; exact k2
      rw [show [V.int m, V.ref cs, V.int ix].set 0 (V.int m') = [V.int m', V.ref cs, V.int ix] from rfl]
      generalize (upd H2 a (.lst [.int m', .ref cs, .int ix])) = H3 at g3 k3 k4 ⊢
      refine ⟨_, rfl, a, _, _, _, rfl, rfl, .inl (.inl k3), rfl, _, _, rfl, rfl, _, rfl, a, _, _, 2, rfl, rfl, k3, rfl, ?_⟩
      have g4 : GrB T (SH a cs) H (upd H3 a (.lst [.int m', .ref cs, .int (ix + 1)])) := g3.set (.inl rfl) k3
      have k5 : (upd H3 a (.lst [.int m', .ref cs, .int (ix + 1)])) a = some (.lst [.int m', .ref cs, .int (ix + 1)]) := upd_same
      refine ⟨_, rfl, a, _, _, _, rfl, rfl, .inl (.inl k5), rfl, _, _, rfl, rfl, ⟨by decide, by decide⟩, _, rfl, _, _, rfl, rfl, (by show 0 < b; omega), ?_⟩
      refine hq _ _ g4 ⟨m', ix + 1, ns, k5, ?_, h3⟩ (Int.emod_nonneg _ (by omega)) (Int.emod_lt_of_pos _ (by omega))
      rw [upd_ne (Ne.symm nac)]
      exact k4
end
end So
end
section
set_option maxHeartbeats 4000000
/-! A drawn calendar. -/
namespace So
open PySem PySem.Spec PyProof.Rows L2 He
theorem calOk_one {c : Int} (h1 : 1 ≤ c) (h2 : c ≤ 400) : CalOk [c] := by
  refine ⟨Nat.le_refl 1, (by show 1 ≤ 5; decide), fun i x e => ?_, fun i x y e1 e2 => ?_⟩
  · cases i with
    | zero => cases e; exact ⟨h1, h2⟩
    | succ i => cases e
  · cases e2
theorem calOk_snoc {ps : List Int} {c t : Int} (h : CalOk (ps ++ [c])) (hl : ps.length ≤ 3) (ht : 2 ≤ t) (hb : c * t ≤ 400) : CalOk ((ps ++ [c]) ++ [c * t]) := by
  have hc := h.at_ ps.length c (by simp)
  have hlt : c < c * t := by
    have := Int.mul_le_mul_of_nonneg_left ht (show 0 ≤ c by omega)
    omega
  have hln : (ps ++ [c]).length = ps.length + 1 := by simp
  have last : ∀ {i : Nat} {x : Int}, ¬ i < (ps ++ [c]).length → (ps ++ [c] ++ [c * t])[i]? = some x → i = ps.length + 1 ∧ x = c * t := fun {i x} hi e => by
    rw [List.getElem?_append_right (by omega)] at e
    have hlt2 := (List.getElem?_eq_some_iff.mp e).1
    rw [List.length_singleton] at hlt2
    have ei : i - (ps ++ [c]).length = 0 := by omega
    rw [ei] at e
    cases e
    exact ⟨by omega, rfl⟩
  refine ⟨by rw [List.length_append]; omega, by rw [List.length_append, hln]; show ps.length + 1 + 1 ≤ 5; omega, fun i x e => ?_, fun i x y e1 e2 => ?_⟩
  · by_cases hi : i < (ps ++ [c]).length
    · rw [List.getElem?_append_left hi] at e
      exact h.at_ i x e
    · obtain ⟨_, rfl⟩ := last hi e
      exact ⟨by omega, hb⟩
  · by_cases hi : i + 1 < (ps ++ [c]).length
    · rw [List.getElem?_append_left hi] at e2
      rw [List.getElem?_append_left (by omega)] at e1
      exact h.nx i x y e1 e2
    · obtain ⟨hil, rfl⟩ := last hi e2
      have hil' : i = ps.length := by omega
      subst hil'
      rw [List.getElem?_append_left (by omega)] at e1
      have e3 : (ps ++ [c])[ps.length]? = some c := by simp
      rw [e3] at e1
      cases e1
      exact ⟨hlt, Int.mul_emod_right _ _⟩
def spCal (T : Wt) : Sp := fun vs H Q _ => ∃ (a cs : Addr), vs = [.ref a] ∧ HAt H a cs ∧ Tbs T H ∧ ∀ cal ps c H', GrB T (SH a cs) H H' → HAt H' a cs → CalAt H' cal ps c → CalOk (ps ++ [c]) → c ≤ 48 → Q (.ref cal) H'
section
variable {P : Program} {w : World} {K : PySem.W.Frag} {mg : Str → Option Value} {base : Heap} {T : Wt}
theorem ok_calendar (kn : Kn K mg) : Okd P w K mg base CX0 2 (ga K "_law_calendar") ["_law_h"] (spCal T) := by
  refine okd_of kn.f__law_calendar sc__law_calendar (fun vs H Q E h => ?_) (fun _ _ _ _ _ _ us hl => match us, hl with | [_], _ => rfl) (fun cdv A outer s H vs Q E hr h => ?_)
  · obtain ⟨a, cs, rfl, _⟩ := h
    rfl
  · obtain ⟨a, cs, rfl, hh, tb, hq⟩ := h
    have hin : ∀ {b : Addr}, SH a cs b → H b ≠ none := fun {b} z e => by
      obtain ⟨m, ix, ns, h1, h2, _⟩ := hh
      rcases z with z | z
      · rw [z, h1] at e; cases e
      · rw [z, h2] at e; cases e
    refine ⟨_, PSs.nox (pss_cons (ps_set (i := 1) sc__law_calendar.nd rfl (.inl rfl) (pe_lst (pa_cons (pe_op op_add pe_int (pf (ok_next (T := T) kn) hr (kn.glo "_law_next") pass0 (pa_cons (pv 0) (pa_cons pe_int pa_nil)))) pa_nil)))
      (pss_cons (ps_for PassesOwn.never rfl (pi_range1 rfl (kn.free "range") (pa_cons (pf (ok_next (T := T) kn) hr (kn.glo "_law_next") pass0 (pa_cons (pv 0) (pa_cons pe_int pa_nil))) pa_nil)) (pg_name (i := 2) sc__law_calendar.nd rfl (.inl rfl)) (pss_one (ps_expr (pe_bm PySem.F.plainAttrs_list PySem.F.slot_list_append PySem.F.type_list_append mt_append (pv 1) (pa_cons (pe_op op_mul (pe_ix ix_list (pv 1) (pe_un un_neg pe_int) (fun _ _ => rfl)) (pe_op op_add pe_int (pf (ok_next (T := T) kn) hr (kn.glo "_law_next") pass0 (pa_cons (pv 0) (pa_cons pe_int pa_nil))))) pa_nil)))))
      (pss_one (ps_ret (pe_tupleOf rfl (kn.free "tuple") (pv 1)))))), ?_⟩
    refine ⟨_, rfl, a, cs, 3, rfl, hh, ⟨by decide, by decide⟩, tb, fun r H1 g1 hh1 r0 r1 => ?_⟩
    refine ⟨_, _, rfl, rfl, (by decide : 1 ≤ sizeLine), fun fl hfl => ?_⟩
    have hflH : H fl = none := g1.nn hfl
    have nfl : ¬ SH a cs fl := fun z => hin z hflH
    have g2 := g1.new (o := .lst [.int (1 + r)]) hfl
    have hh2 : HAt (upd H1 fl (.lst [.int (1 + r)])) a cs := by
      obtain ⟨m, ix, ns, h1, h2, h3⟩ := hh1
      exact ⟨m, ix, ns, upd_ext hfl _ _ h1, upd_ext hfl _ _ h2, h3⟩
    refine ⟨_, rfl, a, cs, 3, rfl, hh2, ⟨by decide, by decide⟩, g2.tb, fun r2 H3 g3 hh3 q0 q1 => ?_⟩
    refine ⟨r2, rfl, (by omega), (by omega), ?_⟩
    have g03 := g2.trans g3
    have hf3 : H3 fl = some (.lst [.int (1 + r)]) := g3.at upd_same nfl
    refine for_range (n := r2.toNat) (fun i σ H' => (∃ a2, σ = [some (.ref a), some (.ref fl), a2]) ∧ GrB T (SH a cs) H H' ∧ HAt H' a cs ∧ ∃ ps c, H' fl = some (.lst ((ps ++ [c]).map V.int)) ∧ CalOk (ps ++ [c]) ∧ ps.length = i ∧ c ≤ 3 * 4 ^ i) ⟨⟨_, rfl⟩, g03, hh3, [], 1 + r, hf3, calOk_one (by omega) (by omega), rfl, by omega⟩ (fun i σ H' hi hiv => ?_) (fun σ H' hiv => ?_)
    · obtain ⟨⟨a2, rfl⟩, g, hh', ps, c, hf, hc, hpl, hb⟩ := hiv
      have hat : atI ((ps ++ [c]).map V.int) (-1) = some (.int c) := by rw [List.map_append]; exact atI_last _ _
      have hi2 : i ≤ 1 := by omega
      have hcb : 1 ≤ c ∧ c ≤ 12 := by
        refine ⟨(hc.at_ ps.length c (by simp)).1, ?_⟩
        match i, hi2, hb with
        | 0, _, hb => omega
        | 1, _, hb => omega
      refine ⟨_, rfl, .inl ⟨rfl, _, .inl (.inl hf)⟩, _, rfl, _, rfl, fl, _, _, _, rfl, rfl, .inl (.inl hf), hat, ?_⟩
      refine ⟨_, rfl, a, cs, 3, rfl, hh', ⟨by decide, by decide⟩, g.tb, fun r4 H4 g4 hh4 s0 s1 => ?_⟩
      have hf4 : H4 fl = some (.lst ((ps ++ [c]).map V.int)) := g4.at hf nfl
      refine ⟨_, _, rfl, rfl, _, _, rfl, rfl, .inl ⟨by omega, by omega⟩, ?_⟩
      refine ⟨fl, _, _, rfl, rfl, hf4, ?_, ⟨_, rfl⟩, (g.trans g4).turn hflH hf4, ?_, ps ++ [c], c * (2 + r4), ?_, ?_, ?_, ?_⟩
      · rw [List.length_map, List.length_append, hpl, sizeLine_eq]
        show i + 1 < _
        omega
      · obtain ⟨m, ix, ns, h1, h2, h3⟩ := hh4
        exact ⟨m, ix, ns, by rw [upd_ne (fun z => nfl (.inl z.symm))]; exact h1, by rw [upd_ne (fun z => nfl (.inr z.symm))]; exact h2, h3⟩
      · rw [upd_same, List.map_append (l₂ := [c * (2 + r4)])]
        rfl
      · refine calOk_snoc hc (by omega) (by omega) ?_
        have := Int.mul_le_mul_of_nonneg_right hcb.2 (show 0 ≤ 2 + r4 by omega)
        omega
      · rw [List.length_append, hpl]; rfl
      · have := Int.mul_le_mul_of_nonneg_left (show 2 + r4 ≤ 4 by omega) (show 0 ≤ c by omega)
        match i, hi2, hb with
        | 0, _, hb => show _ ≤ 3 * 4 ^ 1; omega
        | 1, _, hb => show _ ≤ 3 * 4 ^ 2; omega
    · obtain ⟨⟨a2, rfl⟩, g, hh', ps, c, hf, hc, hpl, hb⟩ := hiv
      have hc48 : c ≤ 48 := by
        have : r2.toNat ≤ 2 := by omega
        match r2.toNat, this, hb with
        | 0, _, hb => omega
        | 1, _, hb => omega
        | 2, _, hb => omega
      refine ⟨_, rfl, .inl ⟨fl, _, rfl, .inl (.inl hf), fun q hqn => ?_⟩⟩
      have hh5 : HAt (upd H' q (.tup ((ps ++ [c]).map V.int))) a cs := by
        obtain ⟨m, ix, ns, h1, h2, h3⟩ := hh'
        exact ⟨m, ix, ns, upd_ext hqn _ _ h1, upd_ext hqn _ _ h2, h3⟩
      exact hq q ps c _ (g.new hqn) hh5 upd_same hc hc48
end
end So
end
section
set_option maxHeartbeats 4000000
/-! The plain law: below a level, for ever, at last, at least. -/
namespace So
open PySem PySem.Spec PyProof.Rows L2 He
section
variable {os : List Ord} {c s0 op lev : Int}
theorem amA_at (h : ∀ o ∈ os, OrdOk c o) (c1 : 1 ≤ c) {i : Nat} (hi : i < c.toNat) : (amA os c s0 op).getD i 0 = bal os s0 op (s0 + i) := by
  have hl := amA_len (os := os) (s0 := s0) (op := op) c1
  rw [← amt_eq h c1]
  show (List.map _ _).getD i 0 = _
  rw [List.getD_eq_getElem?_getD, List.getElem?_map, List.getElem?_range (by omega)]
  rfl
theorem day_split (h : ∀ o ∈ os, OrdOk c o) (c1 : 1 ≤ c) {t : Int} (ht : s0 ≤ t) : ∃ i k : Nat, i < c.toNat ∧ t = s0 + i + k * c ∧ bal os s0 op t = (amA os c s0 op).getD i 0 + k * drf os c := by
  have h1 := Int.emod_add_mul_ediv (t - s0) c
  have h2 := Int.emod_nonneg (t - s0) (show c ≠ 0 by omega)
  have h3 := Int.emod_lt_of_pos (t - s0) (show 0 < c by omega)
  have h4 : 0 ≤ (t - s0) / c := Int.ediv_nonneg (by omega) (by omega)
  refine ⟨((t - s0) % c).toNat, ((t - s0) / c).toNat, by omega, ?_, ?_⟩
  · rw [Int.toNat_of_nonneg h2, Int.toNat_of_nonneg h4, Int.mul_comm]
    omega
  · rw [amA_at h c1 (by omega)]
    have e : t = s0 + (((t - s0) % c).toNat : Int) + (((t - s0) / c).toNat : Int) * c := by
      rw [Int.toNat_of_nonneg h2, Int.toNat_of_nonneg h4, Int.mul_comm]
      omega
    have z := bal_turn (s0 := s0) (op := op) h c1 (t := s0 + (((t - s0) % c).toNat : Int)) (by omega) ((t - s0) / c).toNat
    rw [← e] at z
    exact z
theorem bal_at (h : ∀ o ∈ os, OrdOk c o) (c1 : 1 ≤ c) {i : Nat} (hi : i < c.toNat) (k : Nat) : bal os s0 op (s0 + i + k * c) = (amA os c s0 op).getD i 0 + k * drf os c := by
  rw [amA_at h c1 hi]
  exact bal_turn h c1 (by omega) k
/-! ### turns of one day of the cycle -/
theorem lowT_low {a d l : Int} (h1 : a < l) (h2 : d ≤ 0) : lowT a d l none = (0, none) := by
  have e : firstT a d l = some 0 := by unfold firstT; rw [if_pos h1]
  rw [lowT_some e, if_neg (by unfold blk; simp), if_pos h2]
theorem lowT_fall {a d l : Int} (h1 : ¬ a < l) (h2 : d < 0) : ∃ st, lowT a d l none = (st, none) := by
  have e : firstT a d l = some ((a - l) / (0 - d) + 1) := by unfold firstT; rw [if_neg h1, if_pos h2]
  refine ⟨(a - l) / (0 - d) + 1, ?_⟩
  rw [lowT_some e, if_neg (by unfold blk; simp), if_pos (by omega)]
theorem lowT_up {a d l : Int} (h1 : a < l) (h2 : 0 < d) : lowT a d l none = (0, some ((l - a - 1) / d + 1)) := by
  have e : firstT a d l = some 0 := by unfold firstT; rw [if_pos h1]
  rw [lowT_some e, if_neg (by unfold blk; simp), if_neg (by omega)]
  rfl
theorem lowT_ok {a d l : Int} (h1 : ¬ a < l) (h2 : ¬ d < 0) : lowT a d l none = (0, some 0) := by
  refine lowT_none ?_
  unfold firstT
  rw [if_neg h1, if_neg h2]
theorem hit_iff {a d l : Int} : hit (lowT a d l none) = true ↔ (a < l ∨ d < 0) := by
  by_cases h1 : a < l
  · refine ⟨fun _ => .inl h1, fun _ => ?_⟩
    by_cases h2 : d ≤ 0
    · rw [lowT_low h1 h2]; rfl
    · rw [lowT_up h1 (by omega)]
      have := Int.ediv_nonneg (show 0 ≤ l - a - 1 by omega) (show 0 ≤ d by omega)
      exact decide_eq_true (by show (0 : Int) < _; omega)
  · by_cases h2 : d < 0
    · refine ⟨fun _ => .inr h2, fun _ => ?_⟩
      obtain ⟨st, e⟩ := lowT_fall h1 h2
      rw [e]; rfl
    · refine ⟨fun z => ?_, fun z => by omega⟩
      rw [lowT_ok h1 h2] at z
      cases z
theorem end_iff {a d l : Int} : (lowT a d l none).2 = none ↔ ((a < l ∨ d < 0) ∧ d ≤ 0) := by
  by_cases h1 : a < l
  · by_cases h2 : d ≤ 0
    · rw [lowT_low h1 h2]; exact ⟨fun _ => ⟨.inl h1, h2⟩, fun _ => rfl⟩
    · rw [lowT_up h1 (by omega)]; exact ⟨fun z => (by cases z), fun z => by omega⟩
  · by_cases h2 : d < 0
    · obtain ⟨st, e⟩ := lowT_fall h1 h2
      rw [e]; exact ⟨fun _ => ⟨.inr h2, by omega⟩, fun _ => rfl⟩
    · rw [lowT_ok h1 h2]; exact ⟨fun z => (by cases z), fun z => by omega⟩
theorem some_low {a d l : Int} : (a < l ∨ d < 0) ↔ ∃ k : Nat, a + k * d < l := by
  constructor
  · rintro (h | h)
    · exact ⟨0, by simp; exact h⟩
    · refine ⟨(a - l + 1).toNat, ?_⟩
      have := Int.mul_le_mul_of_nonneg_left (show d ≤ -1 by omega) (show 0 ≤ ((a - l + 1).toNat : Int) by omega)
      omega
  · rintro ⟨k, hk⟩
    by_cases h1 : a < l
    · exact .inl h1
    · by_cases h2 : d < 0
      · exact .inr h2
      · have := Int.mul_nonneg (show 0 ≤ (k : Int) by omega) (show 0 ≤ d by omega)
        omega
/-! ### the first one -/
theorem fDays_nil (h : ∀ o ∈ os, OrdOk c o) (c1 : 1 ≤ c) : fDays s0 none (amA os c s0 op) (drf os c) lev c.toNat = [] ↔ ∀ t, s0 ≤ t → lev ≤ bal os s0 op t := by
  unfold fDays
  rw [List.filterMap_eq_nil_iff]
  constructor
  · intro z t ht
    obtain ⟨i, k, hi, e, eb⟩ := day_split (op := op) h c1 ht
    have z1 := z i (List.mem_range.mpr hi)
    unfold fDay at z1
    have nh : ¬ hit (lowT ((amA os c s0 op).getD i 0) (drf os c) lev none) = true := fun y => by
      rw [if_pos (by exact y)] at z1
      cases z1
    rw [hit_iff, some_low] at nh
    rw [eb]
    by_cases y : lev ≤ (amA os c s0 op).getD i 0 + k * drf os c
    · exact y
    · exact absurd ⟨k, by omega⟩ nh
  · intro z i hi
    rw [List.mem_range] at hi
    unfold fDay
    rw [if_neg]
    intro y
    have y' : hit (lowT ((amA os c s0 op).getD i 0) (drf os c) lev none) = true := y
    rw [hit_iff, some_low] at y'
    obtain ⟨k, hk⟩ := y'
    have hk0 : 0 ≤ (k : Int) * c := Int.mul_nonneg (by omega) (by omega)
    have := z (s0 + i + k * c) (by omega)
    rw [bal_at h c1 hi] at this
    omega
theorem first_iff (h : ∀ o ∈ os, OrdOk c o) (c1 : 1 ≤ c) {r : Option Int} (hr : LeastOf (fDays s0 none (amA os c s0 op) (drf os c) lev c.toNat) r) : r = none ↔ ∀ t, s0 ≤ t → lev ≤ bal os s0 op t := by
  rw [← fDays_nil h c1]
  cases r with
  | none => exact ⟨fun _ => hr, fun _ => rfl⟩
  | some m =>
    refine ⟨fun z => (by cases z), fun z => ?_⟩
    have := hr.1
    rw [z] at this
    cases this
/-! ### for ever -/
theorem ever_neg (c1 : 1 ≤ c) (hd : drf os c < 0) : everLow os c s0 op lev := ⟨0, by omega, by
  show (lowT _ _ _ none).2 = none
  exact end_iff.mpr ⟨.inr hd, by omega⟩⟩
theorem ever_iff (h : ∀ o ∈ os, OrdOk c o) (c1 : 1 ≤ c) (hd : ¬ drf os c < 0) (he : everLow os c s0 op lev) (n : Int) : ∃ t, n ≤ t ∧ s0 ≤ t ∧ bal os s0 op t < lev := by
  obtain ⟨i, hi, e⟩ := he
  have e' : (lowT ((amA os c s0 op).getD i 0) (drf os c) lev none).2 = none := e
  rw [end_iff] at e'
  have d0 : drf os c = 0 := by omega
  have hl : (amA os c s0 op).getD i 0 < lev := by omega
  refine ⟨s0 + i + (n - s0).toNat * c, ?_, ?_, ?_⟩
  · have := Int.mul_le_mul_of_nonneg_left c1 (show 0 ≤ ((n - s0).toNat : Int) by omega)
    omega
  · have := Int.mul_nonneg (show 0 ≤ ((n - s0).toNat : Int) by omega) (show 0 ≤ c by omega)
    omega
  · rw [bal_at h c1 hi, d0]
    omega
/-! ### the last one -/
theorem lDay_iff (h : ∀ o ∈ os, OrdOk c o) (c1 : 1 ≤ c) (hn : ∀ i, i < c.toNat → (lowAt s0 none (amA os c s0 op) (drf os c) lev i).2 ≠ none) {i : Nat} (hi : i < c.toNat) :
    (lDay s0 none (amA os c s0 op) (drf os c) lev i = none ∧ ¬ drf os c < 0 ∧ lev ≤ (amA os c s0 op).getD i 0) ∨
    ∃ k : Nat, lDay s0 none (amA os c s0 op) (drf os c) lev i = some (s0 + i + k * c) ∧ 0 < drf os c ∧ (amA os c s0 op).getD i 0 + k * drf os c < lev ∧ ∀ j : Nat, k < j → lev ≤ (amA os c s0 op).getD i 0 + j * drf os c := by
  have hi' : (lowT ((amA os c s0 op).getD i 0) (drf os c) lev none).2 ≠ none := hn i hi
  rw [Ne, end_iff] at hi'
  have hl := amA_len (os := os) (s0 := s0) (op := op) c1
  generalize ha : (amA os c s0 op).getD i 0 = a at *
  generalize hd : drf os c = d at *
  by_cases h1 : a < lev
  · have h2 : 0 < d := by omega
    have e : lowAt s0 none (amA os c s0 op) d lev i = (0, some ((lev - a - 1) / d + 1)) := by
      show lowT _ _ _ none = _
      rw [ha]
      exact lowT_up h1 h2
    have q0 := Int.ediv_nonneg (show 0 ≤ lev - a - 1 by omega) (show 0 ≤ d by omega)
    have q1 := Int.emod_add_mul_ediv (lev - a - 1) d
    have q2 := Int.emod_nonneg (lev - a - 1) (show d ≠ 0 by omega)
    have q3 := Int.emod_lt_of_pos (lev - a - 1) h2
    refine .inr ⟨((lev - a - 1) / d).toNat, ?_, h2, ?_, fun j hj => ?_⟩
    · unfold lDay
      rw [e]
      show (if (0 : Int) < (lev - a - 1) / d + 1 then some (s0 + i + ((lev - a - 1) / d + 1 - 1) * ((amA os c s0 op).length : Int)) else none) = _
      rw [if_pos (by omega), hl, Int.toNat_of_nonneg q0]
      have e1 : (lev - a - 1) / d + 1 - 1 = (lev - a - 1) / d := by omega
      have e2 : ((c.toNat : Nat) : Int) = c := by omega
      rw [e1, e2]
    · rw [Int.toNat_of_nonneg q0, Int.mul_comm]
      omega
    · have hj' : (lev - a - 1) / d + 1 ≤ (j : Int) := by omega
      have := Int.mul_le_mul_of_nonneg_right hj' (show 0 ≤ d by omega)
      rw [Int.add_mul, Int.one_mul, Int.mul_comm ((lev - a - 1) / d)] at this
      omega
  · have h2 : ¬ d < 0 := by omega
    refine .inl ⟨?_, h2, by omega⟩
    have e : lowAt s0 none (amA os c s0 op) d lev i = (0, some 0) := by
      show lowT _ _ _ none = _
      rw [ha]
      exact lowT_ok h1 h2
    unfold lDay
    rw [e]
    show (if (0 : Int) < 0 then _ else none) = none
    rw [if_neg (by omega)]
theorem bal_pre (h : ∀ o ∈ os, OrdOk c o) : bal os s0 op (s0 - 1) = op := bal_start h
/-- the last day that is too low -/
theorem last_spec (h : ∀ o ∈ os, OrdOk c o) (c1 : 1 ≤ c) {r : Option Int} (hr : lastOf os c s0 op lev r) : (r = none → ∀ t, s0 - 1 ≤ t → lev ≤ bal os s0 op t) ∧
    ∀ d, r = some d → s0 - 1 ≤ d ∧ bal os s0 op d < lev ∧ ∀ t, d < t → lev ≤ bal os s0 op t := by
  obtain ⟨hn, r0, hm, rfl⟩ := hr
  have key : ∀ i, i < c.toNat → ∀ k : Nat, bal os s0 op (s0 + i + k * c) < lev → ∃ d, d ∈ lDays s0 none (amA os c s0 op) (drf os c) lev c.toNat ∧ s0 + i + k * c ≤ d := fun i hi k hk => by
    rw [bal_at h c1 hi] at hk
    rcases lDay_iff h c1 hn hi with ⟨_, hd, ha⟩ | ⟨k', e, hd, _, hj⟩
    · have := Int.mul_nonneg (show 0 ≤ (k : Int) by omega) (show 0 ≤ drf os c by omega)
      omega
    · refine ⟨_, List.mem_filterMap.mpr ⟨i, List.mem_range.mpr hi, e⟩, ?_⟩
      have hkk : k ≤ k' := by
        by_cases z : k ≤ k'
        · exact z
        · have := hj k (by omega)
          omega
      have := Int.mul_le_mul_of_nonneg_right (show (k : Int) ≤ k' by omega) (show 0 ≤ c by omega)
      omega
  have mem : ∀ d, d ∈ lDays s0 none (amA os c s0 op) (drf os c) lev c.toNat → s0 ≤ d ∧ bal os s0 op d < lev := fun d hd => by
    obtain ⟨i, hi, e⟩ := List.mem_filterMap.mp hd
    rw [List.mem_range] at hi
    rcases lDay_iff h c1 hn hi with ⟨z, _⟩ | ⟨k, e', _, hk, _⟩
    · rw [z] at e; cases e
    · rw [e'] at e
      have e2 := Option.some.inj e
      subst e2
      refine ⟨?_, ?_⟩
      · have := Int.mul_nonneg (show 0 ≤ (k : Int) by omega) (show 0 ≤ c by omega)
        omega
      · rw [bal_at h c1 hi]; exact hk
  have later : ∀ t, s0 ≤ t → bal os s0 op t < lev → ∃ d, d ∈ lDays s0 none (amA os c s0 op) (drf os c) lev c.toNat ∧ t ≤ d := fun t ht hb => by
    obtain ⟨i, k, hi, e, _⟩ := day_split (op := op) h c1 ht
    subst e
    exact key i hi k hb
  have h0 : bal os s0 op (s0 - 1) = op := bal_start h
  cases r0 with
  | none =>
    have hm' : lDays s0 none (amA os c s0 op) (drf os c) lev c.toNat = [] := hm
    have all : ∀ t, s0 ≤ t → lev ≤ bal os s0 op t := fun t ht => by
      by_cases z : lev ≤ bal os s0 op t
      · exact z
      · obtain ⟨d, hd, _⟩ := later t ht (by omega)
        rw [hm'] at hd
        cases hd
    show ((if op < lev then some (s0 - 1) else none) = none → _) ∧ ∀ d, (if op < lev then some (s0 - 1) else none) = some d → _
    by_cases ho : op < lev
    · rw [if_pos ho]
      refine ⟨fun z => (by cases z), fun d e => ?_⟩
      cases e
      exact ⟨Int.le_refl _, by rw [h0]; exact ho, fun t ht => all t (by omega)⟩
    · rw [if_neg ho]
      refine ⟨fun _ t ht => ?_, fun d e => by cases e⟩
      by_cases z : t = s0 - 1
      · rw [z, h0]; omega
      · exact all t (by omega)
  | some m =>
    obtain ⟨m1, m2⟩ : m ∈ lDays s0 none (amA os c s0 op) (drf os c) lev c.toNat ∧ ∀ y ∈ lDays s0 none (amA os c s0 op) (drf os c) lev c.toNat, y ≤ m := hm
    refine ⟨fun z => (by cases z), fun d e => ?_⟩
    have e2 : m = d := Option.some.inj e
    subst e2
    obtain ⟨g1, g2⟩ := mem m m1
    refine ⟨by omega, g2, fun t ht => ?_⟩
    by_cases z : lev ≤ bal os s0 op t
    · exact z
    · obtain ⟨d, hd, hle⟩ := later t (by omega) (by omega)
      have := m2 d hd
      omega
/-! ### the least one -/
theorem least_spec (h : ∀ o ∈ os, OrdOk c o) (c1 : 1 ≤ c) (hd : ¬ drf os c < 0) {v : Int} (hv : LeastV os c s0 op v) : (∀ t, s0 - 1 ≤ t → v ≤ bal os s0 op t) ∧ ∃ t, s0 - 1 ≤ t ∧ bal os s0 op t = v := by
  obtain ⟨m, day, hm, hall, rfl⟩ := hv
  have item : ∀ i, lsItem s0 none (amA os c s0 op) (drf os c) i = some ((amA os c s0 op).getD i 0, s0 + i) := fun i => by
    unfold lsItem
    show (if liveR none = true then some ((amA os c s0 op).getD i 0 + turnOf none (drf os c) * drf os c, s0 + i + turnOf none (drf os c) * ((amA os c s0 op).length : Int)) else none) = _
    rw [if_pos (show liveR none = true from rfl)]
    unfold turnOf
    rw [if_neg hd]
    simp
  have h0 : bal os s0 op (s0 - 1) = op := bal_start h
  obtain ⟨i, hi, e⟩ := List.mem_filterMap.mp hm
  rw [List.mem_range] at hi
  rw [item] at e
  have e1 : (amA os c s0 op).getD i 0 = m := (Prod.mk.inj (Option.some.inj e)).1
  refine ⟨fun t ht => ?_, ?_⟩
  · by_cases z : t = s0 - 1
    · rw [z, h0]; omega
    · obtain ⟨j, k, hj, _, eb⟩ := day_split (op := op) h c1 (show s0 ≤ t by omega)
      have z1 := hall _ (List.mem_filterMap.mpr ⟨j, List.mem_range.mpr hj, item j⟩)
      have z2 : m ≤ (amA os c s0 op).getD j 0 := z1
      have := Int.mul_nonneg (show 0 ≤ (k : Int) by omega) (show 0 ≤ drf os c by omega)
      omega
  · by_cases z : op ≤ m
    · exact ⟨s0 - 1, Int.le_refl _, by rw [h0]; omega⟩
    · exact ⟨s0 + i, by omega, by rw [← amA_at h c1 hi, e1]; omega⟩
/-! ### how large -/
theorem pay_bound (h : ∀ o ∈ os, OrdOk c o) (t : Int) : -(1000 * os.length) ≤ payOn os t ∧ payOn os t ≤ 1000 * os.length := by
  unfold payOn
  induction os with
  | nil => simp
  | cons o r ih =>
    have i1 := ih fun o ho => h o (List.mem_cons_of_mem _ ho)
    have p := h o List.mem_cons_self
    have q : -1000 ≤ pay1 o t ∧ pay1 o t ≤ 1000 := by
      unfold pay1
      split
      · exact ⟨p.a0, p.a1⟩
      · omega
    simp only [List.map_cons, List.sum_cons, List.length_cons]
    omega
theorem bal_bound (h : ∀ o ∈ os, OrdOk c o) (hl : os.length ≤ 60) (n : Nat) : -(60000 * n) ≤ bal os s0 op (s0 - 1 + n) - op ∧ bal os s0 op (s0 - 1 + n) - op ≤ 60000 * n := by
  induction n with
  | zero =>
    have := bal_start (s0 := s0) (op := op) h
    simp
    omega
  | succ n ih =>
    have e : s0 - 1 + ((n + 1 : Nat) : Int) = s0 - 1 + n + 1 := by omega
    rw [e, bal_succ h (by omega)]
    have := pay_bound h (s0 - 1 + n + 1)
    omega
theorem last_bound (h : ∀ o ∈ os, OrdOk c o) (c1 : 1 ≤ c) (c2 : c ≤ 400) (hl : os.length ≤ 60) {d : Int} (hr : lastOf os c s0 op lev (some d)) (h1 : -1000000 ≤ op) (h2 : lev ≤ 1000000) : d ≤ s0 + 100000000000 := by
  obtain ⟨hn, r0, hm, e⟩ := hr
  cases r0 with
  | none =>
    have e' : some d = if op < lev then some (s0 - 1) else none := e
    by_cases ho : op < lev
    · rw [if_pos ho] at e'
      cases e'
      omega
    · rw [if_neg ho] at e'
      cases e'
  | some m =>
    have e2 : d = m := Option.some.inj e
    subst e2
    obtain ⟨i, hi, e3⟩ := List.mem_filterMap.mp hm.1
    rw [List.mem_range] at hi
    rcases lDay_iff h c1 hn hi with ⟨z, _⟩ | ⟨k, e', hd, hk, _⟩
    · rw [z] at e3; cases e3
    · rw [e'] at e3
      have e4 := Option.some.inj e3
      rw [amA_at h c1 hi] at hk
      have b := bal_bound (s0 := s0) (op := op) h hl (i + 1)
      have e5 : s0 - 1 + ((i + 1 : Nat) : Int) = s0 + i := by omega
      rw [e5] at b
      have hk2 : (k : Int) ≤ k * drf os c := by
        have := Int.mul_le_mul_of_nonneg_left (show 1 ≤ drf os c by omega) (show 0 ≤ (k : Int) by omega)
        omega
      have hk3 : (k : Int) ≤ 30000000 := by omega
      have hk4 := Int.mul_le_mul_of_nonneg_left c2 (show 0 ≤ (k : Int) by omega)
      omega
end
/-- from day n on no balance is below a level -/
def Well (os : List Ord) (s0 op lev n : Int) : Prop := ∀ t, n ≤ t → lev ≤ bal os s0 op t
end So
end
section
set_option maxHeartbeats 8000000
/-! The twin of a ledger. -/
namespace So
open PySem PySem.Spec PyProof.Rows L2 He
def LedE (K : PySem.W.Frag) (H : Hp) (l pl dxl cal : Addr) (ps : List Int) (c day : Int) (acc : Option AccE) (os : List Ord) (n : Nat) : Prop := ∃ fl b dx ad dd, LedP K H l pl dxl cal fl b dx ad dd ps c day acc os n
theorem LedE.gr0 {K : PySem.W.Frag} {T : Wt} {H H' : Hp} {l pl dxl cal : Addr} {ps : List Int} {c day : Int} {acc : Option AccE} {os : List Ord} {n : Nat} (h : LedE K H l pl dxl cal ps c day acc os n) (g : Gr T H H') : LedE K H' l pl dxl cal ps c day acc os n :=
  let ⟨fl, b, dx, ad, dd, L⟩ := h; ⟨fl, b, dx, ad, dd, L.gr0 g⟩
theorem Gr.trans2 {T : Wt} {H H1 H2 : Hp} (a : Gr T H H1) (b : Gr T H1 H2) : Gr T H H2 := a.trans b
theorem led_new {K : PySem.W.Frag} {T : Wt} {H : Hp} {cal : Addr} {ps : List Int} {c day : Int} {R : Addr → Hp → Prop} {E : XK} (tb : Tbs T H) (hc : CalAt H cal ps c) (ok : CalOk (ps ++ [c]))
    (h : ∀ p pl dxl H', Gr T H H' → H p = none → H pl = none → LedE K H' p pl dxl cal ps c day none [] 0 → R p H') :
    ∀ x dx, H x = none → H dx = none → dx ≠ x → spLedInit K T [.ref x, .ref cal, .int day] (upd (upd H dx (.own x)) x (.ins (ga K "Ledger") dx [])) (fun v H3 => v = .non ∧ R x H3) E := by
  intro x dx hx hdx hne
  have hx' : upd H dx (.own x) x = none := by rw [upd_ne (Ne.symm hne)]; exact hx
  have g : Gr T H (upd (upd H dx (.own x)) x (.ins (ga K "Ledger") dx [])) := ((Gr.refl tb).new hdx).new hx'
  refine ⟨x, dx, cal, ps, c, day, rfl, upd_same, g.get hc, ok, g.tb, fun pl fl b dxb ad dd H' g' hpl hb L => ⟨rfl, ?_⟩⟩
  exact h x pl dx H' (g.news g' fun b z => by rw [z]; exact hx) hx (g.nn hpl) ⟨fl, b, dxb, ad, dd, L⟩
/-- lists of orders, cut -/
theorem planB_day {ps : List Int} {c s0 s1 : Int} {os : List Ord} (pb : PlanB ps c s0 os) (h1 : -999999999999 ≤ s1) (h2 : s1 ≤ 1000000000000) : PlanB ps c s1 os := ⟨pb.ok, pb.ord, pb.c1, pb.c2, pb.sm, h1, h2⟩
def spTwin (K : PySem.W.Frag) (T : Wt) : Sp := fun vs H Q _ => ∃ (l pl dxl cal : Addr) (ps : List Int) (c day : Int) (k : Kd) (lim bal0 am days : Int) (os : List Ord) (n : Nat), vs = [.ref l, .str bobS, .int days, .int am] ∧ LedE K H l pl dxl cal ps c day (some (k, lim, bal0)) os n ∧ k ≠ .op ∧ AccOk k lim bal0 ∧ PlanB ps c (day + 1) os ∧
  (0 ≤ days ∧ days ≤ 500000000000) ∧ (-100000000000 ≤ day ∧ day ≤ 100000000000) ∧ (-10000000000000000 ≤ bal0 ∧ bal0 ≤ 10000000000000000) ∧ -10000000000000000 ≤ am ∧ lim ≤ 10000000000000000 ∧ Tbs T H ∧
  ∀ (b : Bool) H', Gr T H H' → (b = true ↔ Well os (day + 1) bal0 (0 - lim + am) (day + days)) → Q (.bl b) H'
section
variable {P : Program} {w : World} {K : PySem.W.Frag} {mg : Str → Option Value} {base : Heap} {T : Wt}
theorem ok_twin (kn : Kn K mg) (kx : Kx K) (kt : Kt K mg base T) : Okd P w K mg base CX0 11 (ga K "_law_twin") ["_law_ledger", "_law_name", "_law_days", "_law_amount"] (spTwin K T) := by
  refine okd_of kn.f__law_twin sc__law_twin (fun vs H Q E h => ?_) (fun _ _ _ _ _ _ us hl => match us, hl with | [_, _, _, _], _ => rfl) (fun cdv A outer s H vs Q E hr h => ?_)
  · obtain ⟨l, pl, dxl, cal, ps, c, day, k, lim, bal0, am, days, os, n, rfl, _⟩ := h
    rfl
  · obtain ⟨l, pl, dxl, cal, ps, c, day, k, lim, bal0, am, days, os, n, rfl, LE, hk, hok, pb, ⟨d0, d1⟩, ⟨t0, t1⟩, ⟨b0, b1⟩, m0, m1, tb, hq⟩ := h
    have cL := kn.cls "Ledger"
    have hab := pb_am pb
    have hlen := pb.ok.len
    obtain ⟨fl, b, dx, ad, dd, L⟩ := LE
    obtain ⟨fd, F, hb⟩ := ok_led_init (P := P) (w := w) (base := base) (T := T) kn kx
    have nd := sc__law_twin.nd
    refine ⟨_, PSs.nox (pss_cons (ps_set (i := 4) nd rfl (.inl rfl) (pm (ok_account (T := T) kn kx) cL (kn.meth "Ledger" "account") (hr.mono (by decide)) pass0 (pv 0) (pa_cons (pv 1) pa_nil)))
      (pss_cons (ps_set (i := 5) nd rfl (.inl rfl) (pe_ifExp (pt_cmp (pc_isN (pprop (ok_floor kn kx k) (pv 4) (Kd.cls kn k) (prop_floor kx k) (hr.mono (by decide)) pass0))) pe_int (pprop (ok_floor kn kx k) (pv 4) (Kd.cls kn k) (prop_floor kx k) (hr.mono (by decide)) pass0)))
      (pss_cons (ps_set (i := 6) nd rfl (.inl rfl) (pe_makeK (n := 1) (kn.mkr "Ledger") F (hr.mono (by decide)) rfl (kn.glo "Ledger") hb pass0 (pa_cons (pprop (ok_led_cal kn kx) (pv 0) cL (kx.prop ("Ledger", "ledger_calendar") (by decide +kernel)) (hr.mono (by decide)) pass0) pa_nil) (pk_cons (pprop (ok_led_today kn kx) (pv 0) cL (kx.prop ("Ledger", "today") (by decide +kernel)) (hr.mono (by decide)) pass0) pk_nil)))
      (pss_cons (ps_expr (pm (ok_open_account (T := T) kn kx) cL (kn.meth "Ledger" "open_account") (hr.mono (by decide)) pass0 (pv 6) (pa_cons (pv 1) (pa_cons pe_str (pa_cons pe_int (pa_cons (pprop (ok_balanceK kn kx k) (pv 4) (Kd.cls kn k) (prop_balance kx k) (hr.mono (by decide)) pass0) pa_nil))))))
      (pss_cons (ps_for PassesOwn.never rfl (pi_list (pprop (ok_orders (T := T) kn kx) (pv 0) cL (kx.prop ("Ledger", "orders") (by decide +kernel)) (hr.mono (by decide)) pass0)) (pg_tup rfl (pgs_cons (pg_name (i := 7) nd rfl (.inl rfl)) (pgs_cons (pg_name (i := 8) nd rfl (.inl rfl)) (pgs_cons (pg_name (i := 9) nd rfl (.inl rfl)) (pgs_cons (pg_name (i := 10) nd rfl (.inl rfl)) (pgs_cons (pg_name (i := 11) nd rfl (.inl rfl)) pgs_nil)))))) (pss_one (ps_expr (pm (ok_add_order (T := T) kn kx) cL (kn.meth "Ledger" "add_order") (hr.mono (by decide)) pass0 (pv 6) (pa_cons (pv 1) (pa_cons (pv 9) (pa_cons (pv 10) (pa_cons (pv 11) pa_nil))))))))
      (pss_cons (ps_expr (pm (ok_pass_days (T := T) kn kx kt) cL (kn.meth "Ledger" "pass_days") (hr.mono (by decide)) pass0 (pv 6) (pa_cons (pv 2) pa_nil)))
      (pss_cons (ps_set (i := 12) nd rfl (.inl rfl) (pe_op op_sub (pe_op op_sub (pm0R (ok_total (T := T) kn kx) cL (kn.meth "Ledger" "total") (hr.mono (by decide)) pass0 (pv 6)) (pv 3)) (pv 5)))
      (pss_cons (ps_if (pt_cmpR op_lt (pv 12) pe_int (nomark _)) (pss_one (ps_ret pe_bl)) pss_nil)
      (pss_cons (ps_set (i := 13) nd rfl (.inl rfl) (pe_makeK (n := 1) (kn.mkr "Ledger") F (hr.mono (by decide)) rfl (kn.glo "Ledger") hb pass0 (pa_cons (pprop (ok_led_cal kn kx) (pv 0) cL (kx.prop ("Ledger", "ledger_calendar") (by decide +kernel)) (hr.mono (by decide)) pass0) pa_nil) (pk_cons (pprop (ok_led_today kn kx) (pv 6) cL (kx.prop ("Ledger", "today") (by decide +kernel)) (hr.mono (by decide)) pass0) pk_nil)))
      (pss_cons (ps_expr (pm (ok_open_account (T := T) kn kx) cL (kn.meth "Ledger" "open_account") (hr.mono (by decide)) pass0 (pv 13) (pa_cons (pv 1) (pa_cons pe_str (pa_cons (pe_callB (call_min2 rfl) rfl (kn.free "min") boot_min (pa_cons (pe_op op_pow pe_int pe_int) (pa_cons (pv 12) pa_nil))) (pa_cons pe_int pa_nil))))))
      (pss_cons (ps_for PassesOwn.never rfl (pi_list (pprop (ok_orders (T := T) kn kx) (pv 0) cL (kx.prop ("Ledger", "orders") (by decide +kernel)) (hr.mono (by decide)) pass0)) (pg_tup rfl (pgs_cons (pg_name (i := 7) nd rfl (.inl rfl)) (pgs_cons (pg_name (i := 8) nd rfl (.inl rfl)) (pgs_cons (pg_name (i := 9) nd rfl (.inl rfl)) (pgs_cons (pg_name (i := 10) nd rfl (.inl rfl)) (pgs_cons (pg_name (i := 11) nd rfl (.inl rfl)) pgs_nil)))))) (pss_one (ps_expr (pm (ok_add_order (T := T) kn kx) cL (kn.meth "Ledger" "add_order") (hr.mono (by decide)) pass0 (pv 13) (pa_cons (pv 1) (pa_cons (pv 9) (pa_cons (pv 10) (pa_cons (pv 11) pa_nil))))))))
      (pss_one (ps_ret (pe_cmp (pc_isN (pm0 (ok_first_overdraft (T := T) kn kx kt) cL (kn.meth "Ledger" "first_overdraft") (hr.mono (by decide)) pass0 (pv 13))))))))))))))))), ?_⟩

    refine ⟨_, rfl, l, dxl, _, rfl, L.obj, rfl, _, rfl, l, dxl, cal, pl, fl, b, dx, ad, dd, ps, c, day, k, lim, bal0, os, rfl, L.obj, L.cal, L.book, hok, tb, fun a H1 g1 ha => ?_⟩
    obtain ⟨dxa, haa⟩ := id ha
    have L1 := L.gr0 g1
    have hfl : floorV k lim = .int (0 - lim) := by
      cases k
      · exact absurd rfl hk
      · rfl
      · rfl
    refine ⟨_, rfl, a, dxa, _, rfl, haa, a, bobS, lim, bal0, c, rfl, ha, ?_⟩
    rw [hfl]
    refine ⟨_, rfl, ?_⟩
    refine ite2 (fun h => by cases h) (fun _ => ?_)
    refine ⟨_, rfl, a, dxa, _, rfl, haa, a, bobS, lim, bal0, c, rfl, ha, ?_⟩
    rw [hfl]
    -- other
    refine ⟨_, rfl, l, dxl, _, rfl, L1.obj, l, dxl, _, _, rfl, L1.obj, rfl, ?_⟩
    refine ⟨_, rfl, l, dxl, _, rfl, L1.obj, l, dxl, cal, b, pl, fl, dx, ad, dd, day, _, os, rfl, L1.obj, L1.book, rfl, rfl, led_new g1.tb L1.cal pb.ok.cal fun o po dxo H2 g2 hon hpon LO => ?_⟩
    obtain ⟨flo, bo, dxbo, ado, ddo, LO⟩ := LO
    have G2 : Gr T H H2 := g1.trans g2
    have nnewA : ∀ b', SL o po b' → H b' = none := fun b' z => by
      rcases z with z | z
      · rw [z]; exact g1.nn hon
      · rw [z]; exact g1.nn hpon
    refine ⟨_, rfl, o, dxo, _, rfl, LO.obj, rfl, _, rfl, _, rfl, a, dxa, _, rfl, g2.get haa, a, k, bobS, lim, bal0, c, rfl, ha.gr g2, o, po, dxo, cal, flo, bo, dxbo, ado, ddo, ps, c, day, .op, 0, bal0, [], 0, rfl, LO, by decide, rfl, ⟨by omega, by omega⟩, g2.tb, fun fl3 b3 dx3 ad3 dd3 H3 g3 L3 => ?_⟩
    have G3 : Gr T H H3 := G2.news g3 nnewA
    have LO3 : LedE K H3 o po dxo cal ps c day (some (.op, 0, bal0)) [] 1 := ⟨fl3, b3, dx3, ad3, dd3, L3⟩
    have LqA := L.gr0 G3
    refine ⟨_, rfl, l, dxl, _, rfl, LqA.obj, l, dxl, cal, b, pl, fl, dx, ad, dd, day, _, os, rfl, LqA.obj, LqA.book, hlen, (G3).tb, fun qA tsA HqA gqA hqnA eqA hitA => ?_⟩
    refine ⟨qA, rfl, ⟨_, .inl (.inl eqA)⟩, ?_⟩
    have nqA : qA ≠ po := fun z => by
      obtain ⟨_, _, _, _, _, LZ⟩ := LO3
      obtain ⟨xs, ex, _⟩ := LZ.past
      rw [z, ex] at hqnA
      cases hqnA
    refine for_list (xs := tsA.map V.ref) (fun j σ H' => (∃ a7 a8 a9 a10 a11, σ = [some (.ref l), some (.str bobS), some (.int days), some (.int am), some (.ref a), some (.int (0 - lim)), some (.ref o), a7, a8, a9, a10, a11, none, none]) ∧ Gr T H H' ∧ H' qA = some (.lst (tsA.map V.ref)) ∧ ItemP H' tsA os os.length ∧ LedE K H' o po dxo cal ps c day (some (.op, 0, bal0)) (os.take j) (j + 1))
      ⟨⟨_, _, _, _, _, rfl⟩, Gr.trans2 G3 gqA, eqA, hitA, LO3.gr0 gqA⟩ (fun j σ H' _ hj => .inl (.inl hj.2.2.1)) (fun j x σ H' hx hj => ?_) (fun σ H' hj => ?_)
    · obtain ⟨⟨a7, a8, a9, a10, a11, rfl⟩, gj, hqj, hitj, ⟨flj, bj, dxj, adj, ddj, Lj⟩⟩ := hj
      obtain ⟨t, ht, rfl⟩ := map_ref_at hx
      obtain ⟨u, hu, hto⟩ := hitj.2 j t ht
      have hju : j < os.length := (List.getElem?_eq_some_iff.mp hu).1
      have hum := List.mem_of_getElem? hu
      have hou := pb.ord u hum
      obtain ⟨xsj, exj, hxsj⟩ := Lj.past
      refine ⟨t, _, rfl, .inl (.inl hto), rfl, _, _, rfl, _, _, rfl, _, _, rfl, _, _, rfl, _, _, rfl, rfl, ?_⟩
      refine ⟨_, rfl, o, dxo, _, rfl, Lj.obj, rfl, _, rfl, _, rfl, _, rfl, _, rfl, o, po, dxo, cal, flj, bj, dxj, adj, ddj, ps, c, day, .op, 0, bal0, os.take j, u, j + 1, rfl, Lj, by omega, pb.ok.cal, rfl, pb.ok.ord u hum, by rw [List.length_take]; omega, ?_, gj.tb, fun fl' b' dx' ad' dd' H6 g6 L6 => ?_⟩
      · intro o' ho'
        rcases List.mem_cons.mp ho' with z | z
        · rw [z]; exact ⟨hou.a0, hou.a1⟩
        · exact hab o' (List.mem_of_mem_take z)
      have nsl : ∀ {b' : Addr} {o'}, H' b' = some o' → (∀ C d f, o' ≠ .ins C d f) → b' ≠ po → ¬ SL o po b' := fun {b' o'} e n1 n2 z => by
        rcases z with z | z
        · rw [z, Lj.obj] at e
          exact n1 _ _ _ (Option.some.inj e).symm
        · exact n2 z
      have ntl : ∀ {b' : Addr} {xs'}, H' b' = some (.tup xs') → b' ≠ po := fun {b' xs'} e z => by
        rw [z, exj] at e
        cases e
      have gj6 : Gr T H H6 := gj.news g6 nnewA
      refine ⟨⟨_, _, _, _, _, rfl⟩, gj6, g6.at hqj (nsl hqj (fun _ _ _ z => by cases z) nqA), hitj.ext (fun b' xs' e => g6.at e (nsl e (fun _ _ _ z => by cases z) (ntl e))), ?_⟩
      have et : os.take (j + 1) = os.take j ++ [u] := by rw [List.take_succ, hu]; rfl
      have en : (os.take j).length = j := by rw [List.length_take]; omega
      rw [et]
      exact ⟨fl', b', dx', ad', dd', L6⟩
    · obtain ⟨⟨a7, a8, a9, a10, a11, rfl⟩, gj, hqj, hitj, LkA⟩ := hj
      rw [List.length_map, hitA.1, List.take_length] at LkA
      obtain ⟨flk, bk, dxk, adk, ddk, Lk⟩ := LkA
      refine ⟨_, rfl, o, dxo, _, rfl, Lk.obj, rfl, _, rfl, o, po, dxo, cal, flk, bk, dxk, adk, ddk, ps, c, day, 0, bal0, days, os, os.length + 1, rfl, Lk, by omega, rfl, pb, ⟨d0, by omega⟩, gj.tb, fun fl7 b7 dx7 ad7 dd7 p7 H7 g7 L7 => ?_⟩
      have G7 : Gr T H H7 := gj.news g7 nnewA
      generalize hBT : bal os (day + 1) bal0 (day + days) = BT at L7
      refine ⟨_, rfl, o, dxo, _, rfl, L7.obj, rfl, o, po, dxo, cal, fl7, b7, dx7, ad7, dd7, ps, c, day + days, .op, 0, BT, os, os.length + 1 + 1, rfl, L7, rfl, g7.tb, fun H8 g8 => ?_⟩
      have G8 : Gr T H H8 := G7.trans g8
      have L8 := L7.gr0 g8
      have Ll8 := L.gr0 G8
      refine ⟨_, rfl, _, _, rfl, rfl, _, rfl, _, _, rfl, rfl, ?_⟩
      refine ⟨_, rfl, _, _, rfl, rfl, _, rfl, ?_⟩
      have hbd := bal_bound (s0 := day + 1) (op := bal0) pb.ord hlen days.toNat
      have edd : day + 1 - 1 + ((days.toNat : Nat) : Int) = day + days := by omega
      rw [edd, hBT] at hbd
      refine ite2 (fun h => ?_) (fun h => ?_)
      · have hneg : BT - am - (0 - lim) < 0 := of_decide_eq_true h
        refine hq false H8 G8 ⟨fun z => (by cases z), fun z => ?_⟩
        have := z (day + days) (Int.le_refl _)
        rw [hBT] at this
        omega
      have hpos : 0 ≤ BT - am - (0 - lim) := by
        by_cases z : 0 ≤ BT - am - (0 - lim)
        · exact z
        · exact absurd (decide_eq_true (show BT - am - (0 - lim) < 0 by omega)) h
      have hlm : 0 ≤ lim := by
        cases k with
        | op => exact absurd rfl hk
        | li => exact hok.1
        | sa => have := hok.1; omega
      have hsm : BT - am - (0 - lim) < 1000000000000000000 := by omega
      refine ⟨_, rfl, l, dxl, _, rfl, Ll8.obj, l, dxl, _, _, rfl, Ll8.obj, rfl, ?_⟩
      refine ⟨_, rfl, o, dxo, _, rfl, L8.obj, o, dxo, cal, b7, po, fl7, dx7, ad7, dd7, day + days, _, os, rfl, L8.obj, L8.book, rfl, rfl, led_new g8.tb Ll8.cal pb.ok.cal fun f pf dxf H9 g9 hfn hpfn LF => ?_⟩
      obtain ⟨flf, bf, dxbf, adf, ddf, LF⟩ := LF
      have G9 : Gr T H H9 := G8.trans g9
      have nnewB : ∀ b', SL f pf b' → H b' = none := fun b' z => by
        rcases z with z | z
        · rw [z]; exact G8.nn hfn
        · rw [z]; exact G8.nn hpfn
      refine ⟨_, rfl, f, dxf, _, rfl, LF.obj, rfl, _, rfl, _, _, rfl, rfl, ⟨by decide, by decide, by decide⟩, _, rfl, _, _, rfl, ?_⟩
      rw [show (if BT - am - (0 - lim) < (10 : Int) ^ (18 : Int).toNat then BT - am - (0 - lim) else (10 : Int) ^ (18 : Int).toNat) = BT - am - (0 - lim) from if_pos (by
        have e : (10 : Int) ^ (18 : Int).toNat = 1000000000000000000 := by decide +kernel
        rw [e]
        exact hsm)]
      have AF : AccOk .li (BT - am - (0 - lim)) 0 := ⟨hpos, by omega, by omega⟩
      refine ⟨f, pf, dxf, cal, flf, bf, dxbf, adf, ddf, ps, c, day + days, .li, BT - am - (0 - lim), 0, [], 0, rfl, LF, by decide, AF, ⟨by omega, by omega⟩, g9.tb, fun fl10 b10 dx10 ad10 dd10 H10 g10 L10 => ?_⟩
      have G10 : Gr T H H10 := G9.news g10 nnewB
      have LF10 : LedE K H10 f pf dxf cal ps c (day + days) (some (.li, BT - am - (0 - lim), 0)) [] 1 := ⟨fl10, b10, dx10, ad10, dd10, L10⟩
      have LqB := L.gr0 G10
      refine ⟨_, rfl, l, dxl, _, rfl, LqB.obj, l, dxl, cal, b, pl, fl, dx, ad, dd, day, _, os, rfl, LqB.obj, LqB.book, hlen, (G10).tb, fun qB tsB HqB gqB hqnB eqB hitB => ?_⟩
      refine ⟨qB, rfl, ⟨_, .inl (.inl eqB)⟩, ?_⟩
      have nqB : qB ≠ pf := fun z => by
        obtain ⟨_, _, _, _, _, LZ⟩ := LF10
        obtain ⟨xs, ex, _⟩ := LZ.past
        rw [z, ex] at hqnB
        cases hqnB
      refine for_list (xs := tsB.map V.ref) (fun j σ H' => (∃ a7 a8 a9 a10 a11, σ = [some (.ref l), some (.str bobS), some (.int days), some (.int am), some (.ref a), some (.int (0 - lim)), some (.ref o), a7, a8, a9, a10, a11, some (.int (BT - am - (0 - lim))), some (.ref f)]) ∧ Gr T H H' ∧ H' qB = some (.lst (tsB.map V.ref)) ∧ ItemP H' tsB os os.length ∧ LedE K H' f pf dxf cal ps c (day + days) (some (.li, (BT - am - (0 - lim)), 0)) (os.take j) (j + 1))
        ⟨⟨_, _, _, _, _, rfl⟩, Gr.trans2 G10 gqB, eqB, hitB, LF10.gr0 gqB⟩ (fun j σ H' _ hj => .inl (.inl hj.2.2.1)) (fun j x σ H' hx hj => ?_) (fun σ H' hj => ?_)
      · obtain ⟨⟨a7, a8, a9, a10, a11, rfl⟩, gj, hqj, hitj, ⟨flj, bj, dxj, adj, ddj, Lj⟩⟩ := hj
        obtain ⟨t, ht, rfl⟩ := map_ref_at hx
        obtain ⟨u, hu, hto⟩ := hitj.2 j t ht
        have hju : j < os.length := (List.getElem?_eq_some_iff.mp hu).1
        have hum := List.mem_of_getElem? hu
        have hou := pb.ord u hum
        obtain ⟨xsj, exj, hxsj⟩ := Lj.past
        refine ⟨t, _, rfl, .inl (.inl hto), rfl, _, _, rfl, _, _, rfl, _, _, rfl, _, _, rfl, _, _, rfl, rfl, ?_⟩
        refine ⟨_, rfl, f, dxf, _, rfl, Lj.obj, rfl, _, rfl, _, rfl, _, rfl, _, rfl, f, pf, dxf, cal, flj, bj, dxj, adj, ddj, ps, c, (day + days), .li, (BT - am - (0 - lim)), 0, os.take j, u, j + 1, rfl, Lj, by omega, pb.ok.cal, AF, pb.ok.ord u hum, by rw [List.length_take]; omega, ?_, gj.tb, fun fl' b' dx' ad' dd' H6 g6 L6 => ?_⟩
        · intro o' ho'
          rcases List.mem_cons.mp ho' with z | z
          · rw [z]; exact ⟨hou.a0, hou.a1⟩
          · exact hab o' (List.mem_of_mem_take z)
        have nsl : ∀ {b' : Addr} {o'}, H' b' = some o' → (∀ C d f, o' ≠ .ins C d f) → b' ≠ pf → ¬ SL f pf b' := fun {b' o'} e n1 n2 z => by
          rcases z with z | z
          · rw [z, Lj.obj] at e
            exact n1 _ _ _ (Option.some.inj e).symm
          · exact n2 z
        have ntl : ∀ {b' : Addr} {xs'}, H' b' = some (.tup xs') → b' ≠ pf := fun {b' xs'} e z => by
          rw [z, exj] at e
          cases e
        have gj6 : Gr T H H6 := gj.news g6 nnewB
        refine ⟨⟨_, _, _, _, _, rfl⟩, gj6, g6.at hqj (nsl hqj (fun _ _ _ z => by cases z) nqB), hitj.ext (fun b' xs' e => g6.at e (nsl e (fun _ _ _ z => by cases z) (ntl e))), ?_⟩
        have et : os.take (j + 1) = os.take j ++ [u] := by rw [List.take_succ, hu]; rfl
        have en : (os.take j).length = j := by rw [List.length_take]; omega
        rw [et]
        exact ⟨fl', b', dx', ad', dd', L6⟩
      · obtain ⟨⟨a7, a8, a9, a10, a11, rfl⟩, gj, hqj, hitj, LkB⟩ := hj
        rw [List.length_map, hitB.1, List.take_length] at LkB
        obtain ⟨flk2, bk2, dxk2, adk2, ddk2, Lk2⟩ := LkB
        have pb2 : PlanB ps c (day + days + 1) os := planB_day pb (by omega) (by omega)
        have hiff : ∀ r, LeastOf (fDays (day + days + 1) none (amA os c (day + days + 1) 0) (drf os c) (0 - (BT - am - (0 - lim))) c.toNat) r → (r = none ↔ Well os (day + 1) bal0 (0 - lim + am) (day + days)) := fun r hr => by
          rw [first_iff pb.ord pb.c1 hr]
          constructor
          · intro z t ht
            by_cases e : t = day + days
            · rw [e, hBT]; omega
            · have z2 := z t (by omega)
              rw [bal_from (s0 := day + 1) (op := bal0) pb.ord (by omega) (by omega), hBT] at z2
              omega
          · intro z t ht
            have z2 := z t (by omega)
            rw [bal_from (s0 := day + 1) (op := bal0) pb.ord (by omega) (by omega), hBT]
            omega
        refine ⟨_, rfl, f, dxf, _, rfl, Lk2.obj, rfl, f, pf, dxf, cal, flk2, bk2, dxk2, adk2, ddk2, ps, c, day + days, .li, BT - am - (0 - lim), 0, os, os.length + 1, rfl, Lk2, AF, pb2, hab, gj.tb, (fun z => by cases z), fun _ r H11 g11 hL => ⟨fun e => ?_, fun m t e ht => ?_⟩⟩
        · exact hq true H11 (gj.trans g11) ⟨fun _ => (hiff r hL).mp e, fun _ => rfl⟩
        · refine hq false H11 (gj.trans g11) ⟨fun z => (by cases z), fun z => ?_⟩
          have := (hiff r hL).mpr z
          rw [this] at e
          cases e

end
end So
end
section
set_option maxHeartbeats 8000000
/-! What was found is right. -/
namespace So
open PySem PySem.Spec PyProof.Rows L2 He
/-- what the law has found of a ledger -/
def FoundOk (H : Hp) (fa : Addr) (soon : V) (os : List Ord) (c day : Int) (k : Kd) (lim bal0 am : Int) : Prop :=
  (k = .op ∧ H fa = some (.tup [.str "value", .non]) ∧ soon = .int day) ∨
  (k ≠ .op ∧ drf os c < 0 ∧ H fa = some (.tup [.str "endless"]) ∧ soon = .non) ∨
  (k ≠ .op ∧ ¬ drf os c < 0 ∧ ∃ v, H fa = some (.tup [.str "value", .int (v - (0 - lim))]) ∧ LeastV os c (day + 1) bal0 v ∧
    ((everLow os c (day + 1) bal0 (0 - lim + am) ∧ soon = .non) ∨ ∃ r q, lastOf os c (day + 1) bal0 (0 - lim + am) r ∧ FirstMay k c (fromOf (day + 1) r) q ∧ soon = .int q))
def spRight (K : PySem.W.Frag) (T : Wt) : Sp := fun vs H Q _ => ∃ (l pl dxl cal a fa : Addr) (ps : List Int) (c day : Int) (k : Kd) (lim bal0 am : Int) (soon : V) (os : List Ord) (n : Nat), vs = [.ref l, .ref a, .ref fa, soon, .int am] ∧ LedE K H l pl dxl cal ps c day (some (k, lim, bal0)) os n ∧ AccAt K H a k bobS lim bal0 c ∧ AccOk k lim bal0 ∧ PlanB ps c (day + 1) os ∧
  (-1000000 ≤ day ∧ day ≤ 1000000) ∧ (-1000000 ≤ bal0 ∧ bal0 ≤ 1000000) ∧ (1 ≤ am ∧ am ≤ 100000) ∧ lim ≤ 100000 ∧ FoundOk H fa soon os c day k lim bal0 am ∧ Tbs T H ∧ ∀ H', Gr T H H' → Q (.bl true) H'
theorem firstMay_le {k : Kd} {c d q : Int} (h1 : 1 ≤ c) (h : FirstMay k c d q) : q ≤ d + c := by
  obtain ⟨_, hm, hall⟩ := h
  by_cases z : q ≤ d + c
  · exact z
  · cases k with
    | op => have := hall d (Int.le_refl _) (by omega); cases this
    | li => have := hall d (Int.le_refl _) (by omega); cases this
    | sa =>
      have a1 := Int.emod_nonneg (0 - d) (show c ≠ 0 by omega)
      have a2 := Int.emod_lt_of_pos (0 - d) (show 0 < c by omega)
      have z1 := hall (d + (0 - d) % c) (by omega) (by omega)
      have e : (d + (0 - d) % c) % c = 0 := by
        have e1 : d + (0 - d) % c = 0 + c * (-((0 - d) / c)) := by
          have := Int.emod_add_mul_ediv (0 - d) c
          rw [Int.mul_neg]
          omega
        rw [e1, Int.add_mul_emod_self_left]
        exact Int.zero_emod _
      have z2 : mayB .sa c (d + (0 - d) % c) = true := decide_eq_true e
      rw [z2] at z1
      cases z1
theorem least_low {os : List Ord} {c s0 op v : Int} (h : ∀ o ∈ os, OrdOk c o) (hl : os.length ≤ 60) (c1 : 1 ≤ c) (c2 : c ≤ 400) (hd : ¬ drf os c < 0) (hv : LeastV os c s0 op v) : op - 30000000 ≤ v := by
  obtain ⟨m, day, hm, hall, rfl⟩ := hv
  obtain ⟨i, hi, e⟩ := List.mem_filterMap.mp hm
  rw [List.mem_range] at hi
  have item : lsItem s0 none (amA os c s0 op) (drf os c) i = some ((amA os c s0 op).getD i 0, s0 + i) := by
    unfold lsItem
    show (if liveR none = true then some ((amA os c s0 op).getD i 0 + turnOf none (drf os c) * drf os c, s0 + i + turnOf none (drf os c) * ((amA os c s0 op).length : Int)) else none) = _
    rw [if_pos (show liveR none = true from rfl)]
    unfold turnOf
    rw [if_neg hd]
    simp
  rw [item] at e
  have e1 : (amA os c s0 op).getD i 0 = m := (Prod.mk.inj (Option.some.inj e)).1
  rw [amA_at h c1 hi] at e1
  have b := bal_bound (s0 := s0) (op := op) h hl (i + 1)
  have e5 : s0 - 1 + ((i + 1 : Nat) : Int) = s0 + i := by omega
  rw [e5, e1] at b
  omega
theorem shaped_vn : SeqAt.shaped (.tuple [.str "value", .none]) = true := by decide +kernel
theorem shaped_e : SeqAt.shaped (.tuple [.str "endless"]) = true := by decide +kernel
theorem shaped_vi (i : Int) : SeqAt.shaped (.tuple [.str "value", .int i]) = true := by
  unfold SeqAt.shaped
  rw [Bool.and_eq_true]
  refine ⟨?_, decide_eq_true ?_⟩
  · simp only [PyData.canLay0, PyData.canLayAll0, Bool.and_true, Bool.true_and]
    first
      | rfl
      | decide +kernel
  · simp only [PyData.depth, PyData.depthAll]
    decide
theorem eqv_vi (i : Int) : PyData.eqv (.tuple [.str "value", .int i]) (.tuple [.str "endless"]) = false := by
  simp [PyData.eqv, PyData.eqvAll]
section
variable {P : Program} {w : World} {K : PySem.W.Frag} {mg : Str → Option Value} {base : Heap} {T : Wt}
theorem ok_found_right (kn : Kn K mg) (kx : Kx K) (kt : Kt K mg base T) (ms : MaySa P w K mg base) : Okd P w K mg base CX0 12 (ga K "_law_found_right") ["_law_ledger", "_law_account", "_law_found", "_law_soon", "_law_amount"] (spRight K T) := by
  refine okd_of kn.f__law_found_right sc__law_found_right (fun vs H Q E h => ?_) (fun _ _ _ _ _ _ us hl => match us, hl with | [_, _, _, _, _], _ => rfl) (fun cdv A outer s H vs Q E hr h => ?_)
  · obtain ⟨l, pl, dxl, cal, a, fa, ps, c, day, k, lim, bal0, am, soon, os, n, rfl, _⟩ := h
    rfl
  · obtain ⟨l, pl, dxl, cal, a, fa, ps, c, day, k, lim, bal0, am, soon, os, n, rfl, ⟨fl, b, dx, ad, dd, L⟩, ha, hok, pb, ⟨t0, t1⟩, ⟨b0, b1⟩, ⟨m0, m1⟩, hlm, hF, tb, hq⟩ := h
    have cL := kn.cls "Ledger"
    have hab := pb_am pb
    have hlen := pb.ok.len
    have nd := sc__law_found_right.nd
    obtain ⟨dxa, haa⟩ := id ha
    have c1 := pb.c1
    have c2 := pb.c2
    refine ⟨_, PSs.nox (pss_cons (ps_asg (pe_tup (pa_cons (pprop (ok_led_today kn kx) (pv 0) cL (kx.prop ("Ledger", "today") (by decide +kernel)) (hr.mono (by decide)) pass0) (pa_cons (pe_ix ix_tup (pprop (ok_led_cal kn kx) (pv 0) cL (kx.prop ("Ledger", "ledger_calendar") (by decide +kernel)) (hr.mono (by decide)) pass0) (pe_un un_neg pe_int) (fun _ _ => rfl)) pa_nil))) (pg_tup rfl (pgs_cons (pg_name (i := 5) nd rfl (.inr rfl)) (pgs_cons (pg_name (i := 6) nd rfl (.inl rfl)) pgs_nil))))
      (pss_cons (ps_if (pt_cmp (pc_isN (pprop (ok_floor kn kx k) (pv 1) (Kd.cls kn k) (prop_floor kx k) (hr.mono (by decide)) pass0))) (pss_one (ps_if (PW.pt (pw_or (pt_cmpR (op_neD hr.units) (pv 2) (pe_tup (pa_cons pe_str (pa_cons pe_non pa_nil))) (nomark _)) (pw_or1 (pt_cmpR op_ne (pv 3) (pv 5) (nomark _))))) (pss_one (ps_ret pe_bl)) pss_nil)) (pss_one (ps_if (pt_cmpR (op_eqD hr.units) (pv 2) (pe_tup (pa_cons pe_str pa_nil)) (nomark _)) (pss_one (ps_if (PW.pt (pw_or (pt_cmp (pc_notN (pv 3))) (pw_or1 (pt_cmp (pc_isN (pm0 (ok_first_overdraft (T := T) kn kx kt) cL (kn.meth "Ledger" "first_overdraft") (hr.mono (by decide)) pass0 (pv 0))))))) (pss_one (ps_ret pe_bl)) pss_nil)) (pss_cons (ps_if (PW.pt (pw_or (pt_not (pt_val (pf (ok_twin (T := T) kn kx kt) hr (kn.glo "_law_twin") pass0 (pa_cons (pv 0) (pa_cons pe_str (pa_cons pe_int (pa_cons (pe_ix ix_tup (pv 2) pe_int (fun _ _ => rfl)) pa_nil))))))) (pw_or1 (pt_val (pf (ok_twin (T := T) kn kx kt) hr (kn.glo "_law_twin") pass0 (pa_cons (pv 0) (pa_cons pe_str (pa_cons pe_int (pa_cons (pe_op op_add (pe_ix ix_tup (pv 2) pe_int (fun _ _ => rfl)) pe_int) pa_nil))))))))) (pss_one (ps_ret pe_bl)) pss_nil)
      (pss_one (ps_if (pt_cmp (pc_notN (pv 3))) (pss_cons (ps_if (PW.pt (pw_or (pt_not (pt_val (pm (ok_may kn kx ms k) (Kd.cls kn k) (meth_may kn k) (hr.mono (by decide)) pass0 (pv 1) (pa_cons (pv 3) pa_nil)))) (pw_or1 (pt_not (pt_val (pf (ok_twin (T := T) kn kx kt) hr (kn.glo "_law_twin") pass0 (pa_cons (pv 0) (pa_cons pe_str (pa_cons (pe_op op_sub (pv 3) (pv 5)) (pa_cons (pv 4) pa_nil)))))))))) (pss_one (ps_ret pe_bl)) pss_nil)
      (pss_cons (ps_setLc (i := 7) (g := gName 8) (own := [("_law_k", 8)]) (tt := tB (tMeth (ga K k.cn) "may_withdraw" (spMay K k) [] (fun _ _ _ => False) (tVar 1) (tCons (tVar 8) tNil))) (te := tVar 8) rfl nd rfl rfl (sw_true rfl rfl rfl (by decide +kernel)) (pi_range2 rfl (kn.free "range") (pa_cons (pe_callB (call_max2 rfl) rfl (kn.free "max") boot_max (pa_cons (pv 5) (pa_cons (pe_op op_sub (pe_op op_sub (pv 3) (pv 6)) pe_int) pa_nil))) (pa_cons (pv 3) pa_nil))) (blkOk_by rfl)
        (fun _ _ _ _ _ => pg_name (i := 8) nd rfl (.inl rfl) (.inr rfl)) (fun _ _ _ _ _ => pts_one (pt_val (pm (ok_may kn kx ms k) (Kd.cls kn k) (meth_may kn k) (hr.mono (by decide)) pass0 (pv 1) (pa_cons (pv 8) pa_nil)))) (fun _ _ _ _ _ => pv 8))
      (pss_one (ps_if (pt_cmpR (op_neD hr.units) (pe_lc (g := gName 8) (own := [("_law_k", 8)]) (tt := tB (tCall (spTwin K T) [] (fun _ _ _ => False) (tCons (tVar 0) (tCons (tC (.str bobS)) (tCons (tOp (rI0 fun i j => .int (i - j)) (tVar 8) (tVar 5)) (tCons (tVar 4) tNil)))))) (te := tVar 8) rfl nd (pi_list (pv 7)) (blkOk_by rfl)
        (fun _ _ _ _ _ => pg_name (i := 8) nd rfl (.inl rfl) (.inr rfl)) (fun _ _ _ _ _ => pts_one (pt_val (pf (ok_twin (T := T) kn kx kt) hr (kn.glo "_law_twin") pass0 (pa_cons (pv 0) (pa_cons pe_str (pa_cons (pe_op op_sub (pv 8) (pv 5)) (pa_cons (pv 4) pa_nil))))))) (fun _ _ _ _ _ => pv 8)) (pe_lst pa_nil) (nomark _)) (pss_one (ps_ret pe_bl)) pss_nil)))) (pss_one (ps_if (pt_val (pf (ok_twin (T := T) kn kx kt) hr (kn.glo "_law_twin") pass0 (pa_cons (pv 0) (pa_cons pe_str (pa_cons (pe_op op_pow pe_int pe_int) (pa_cons (pv 4) pa_nil)))))) (pss_one (ps_ret pe_bl)) pss_nil))))))))
      (pss_one (ps_ret pe_bl)))), ?_⟩
    have hat : atI ((ps ++ [c]).map V.int) (-1) = some (.int c) := by rw [List.map_append]; exact atI_last _ _
    refine ⟨_, rfl, l, dxl, _, rfl, L.obj, l, dxl, cal, b, pl, fl, dx, ad, dd, day, _, os, rfl, L.obj, L.book, _, rfl, l, dxl, _, rfl, L.obj, l, dxl, _, _, rfl, L.obj, rfl, _, rfl, cal, _, _, _, rfl, rfl, .inl (.inl L.cal), hat, (by decide : 2 ≤ sizeLine), fun tq htq => ?_⟩
    have g1 : Gr T H (upd H tq (.tup [.int day, .int c])) := (Gr.refl tb).new htq
    have et : (upd H tq (.tup [.int day, .int c])) tq = some (.tup [.int day, .int c]) := upd_same
    refine ⟨tq, _, rfl, .inl (.inl et), rfl, _, _, rfl, _, _, rfl, rfl, ?_⟩
    generalize (upd H tq (.tup [.int day, .int c])) = H1 at g1 et ⊢
    have L1 := L.gr0 g1
    refine ⟨_, rfl, a, dxa, _, rfl, g1.get haa, a, bobS, lim, bal0, c, rfl, ha.gr g1, _, rfl, ?_⟩
    rcases hF with ⟨hk, hf, hs⟩ | ⟨hk, hd, hf, hs⟩ | ⟨hk, hd, v, hf, hv, hcase⟩
    · subst hk hs
      refine ite2 (fun _ => ?_) (fun h => absurd rfl h)
      refine ⟨_, rfl, (by decide : 2 ≤ sizeLine), fun t2 ht2 => ?_⟩
      have g2 := g1.new (o := .tup [.str "value", .non]) ht2
      refine ⟨.tuple [.str "value", .none], .tuple [.str "value", .none], .tup (.inl (.inl (g2.get hf))) (.cons (.str _) (.cons .non .nil)), .tup (.inl (.inl upd_same)) (.cons (.str _) (.cons .non .nil)), shaped_vn, shaped_vn, _, rfl, ?_⟩
      rw [show PyData.eqv (.tuple [.str "value", .none]) (.tuple [.str "value", .none]) = true by decide +kernel]
      refine ite2 (fun h => by cases h) (fun _ => ?_)
      refine ⟨_, rfl, _, rfl, rfl, _, rfl, ?_⟩
      refine ite2 (fun h => absurd h (by simp)) (fun _ => ?_)
      exact hq _ g2
    · subst hs
      have hfl : floorV k lim = .int (0 - lim) := by
        cases k
        · exact absurd rfl hk
        · rfl
        · rfl
      rw [hfl]
      refine ite2 (fun h => by cases h) (fun _ => ?_)
      refine ⟨_, rfl, (by decide : 1 ≤ sizeLine), fun t2 ht2 => ?_⟩
      have g2 := g1.new (o := .tup [.str "endless"]) ht2
      refine ⟨.tuple [.str "endless"], .tuple [.str "endless"], .tup (.inl (.inl (g2.get hf))) (.cons (.str _) .nil), .tup (.inl (.inl upd_same)) (.cons (.str _) .nil), shaped_e, shaped_e, _, rfl, ?_⟩
      rw [show PyData.eqv (.tuple [.str "endless"]) (.tuple [.str "endless"]) = true by decide +kernel]
      refine ite2 (fun _ => ?_) (fun h => absurd rfl h)
      have L2' := L.gr0 g2
      refine ⟨_, rfl, _, rfl, ?_⟩
      refine ite2 (fun h => by cases h) (fun _ => ?_)
      refine ⟨_, rfl, l, dxl, _, rfl, L2'.obj, rfl, l, pl, dxl, cal, fl, b, dx, ad, dd, ps, c, day, k, lim, bal0, os, n, rfl, L2', hok, pb, hab, g2.tb, fun z => absurd z hk, fun _ r H3 g3 hL => ⟨fun e => ?_, fun m t e ht => ?_⟩⟩
      · have z := (first_iff pb.ord c1 hL).mp e
        obtain ⟨j, hj⟩ := (some_low (a := (amA os c (day + 1) bal0).getD 0 0) (d := drf os c) (l := 0 - lim)).mp (.inr hd)
        have hj0 : 0 ≤ (j : Int) * c := Int.mul_nonneg (by omega) (by omega)
        have z2 := z (day + 1 + (0 : Nat) + j * c) (by omega)
        rw [bal_at pb.ord c1 (by omega : 0 < c.toNat) j] at z2
        omega
      · refine ⟨_, rfl, ?_⟩
        refine ite2 (fun h => by cases h) (fun _ => ?_)
        exact hq H3 (g2.trans g3)
    · have hfl : floorV k lim = .int (0 - lim) := by
        cases k
        · exact absurd rfl hk
        · rfl
        · rfl
      have hl0 : 0 ≤ lim := by
        cases k with
        | op => exact absurd rfl hk
        | li => exact hok.1
        | sa => have := hok.1; omega
      have hsp := least_spec pb.ord c1 hd hv
      have hlow := least_low pb.ord hlen c1 c2 hd hv
      have es : day + 1 - 1 = day := by omega
      rw [es] at hsp
      rw [hfl]
      refine ite2 (fun h => by cases h) (fun _ => ?_)
      refine ⟨_, rfl, (by decide : 1 ≤ sizeLine), fun t2 ht2 => ?_⟩
      have g2 := g1.new (o := .tup [.str "endless"]) ht2
      refine ⟨.tuple [.str "value", .int (v - (0 - lim))], .tuple [.str "endless"], .tup (.inl (.inl (g2.get hf))) (.cons (.str _) (.cons (.int _) .nil)), .tup (.inl (.inl upd_same)) (.cons (.str _) .nil), shaped_vi _, shaped_e, _, rfl, ?_⟩
      rw [eqv_vi]
      refine ite2 (fun h => by cases h) (fun _ => ?_)
      have LE : ∀ {H2 : Hp}, Gr T H H2 → LedE K H2 l pl dxl cal ps c day (some (k, lim, bal0)) os n := fun g => ⟨fl, b, dx, ad, dd, L.gr0 g⟩
      generalize (upd H1 t2 (.tup [.str "endless"])) = H2 at g2 ⊢
      -- the largest one
      refine ⟨_, rfl, _, rfl, fa, _, _, .int (v - (0 - lim)), rfl, rfl, .inl (.inl (g2.get hf)), rfl, l, pl, dxl, cal, ps, c, day, k, lim, bal0, v - (0 - lim), 0, os, n, rfl, LE g2, hk, hok, pb, ⟨by omega, by omega⟩, ⟨by omega, by omega⟩, ⟨by omega, by omega⟩, by omega, by omega, g2.tb, fun b3 H3 g3 i3 => ?_⟩
      have hb3 : b3 = true := i3.mpr fun t ht => by
        have := hsp.1 t (by omega)
        omega
      subst hb3
      have G3 : Gr T H H3 := g2.trans g3
      refine ⟨_, rfl, ?_⟩
      refine ite2 (fun h => by cases h) (fun _ => ?_)
      refine ⟨_, rfl, _, rfl, fa, _, _, .int (v - (0 - lim)), rfl, rfl, .inl (.inl (G3.get hf)), rfl, _, _, rfl, rfl, l, pl, dxl, cal, ps, c, day, k, lim, bal0, v - (0 - lim) + 1, 0, os, n, rfl, LE G3, hk, hok, pb, ⟨by omega, by omega⟩, ⟨by omega, by omega⟩, ⟨by omega, by omega⟩, by omega, by omega, G3.tb, fun b4 H4 g4 i4 => ?_⟩
      have hb4 : b4 = false := by
        cases e : b4 with
        | false => rfl
        | true =>
          obtain ⟨t, ht, hbt⟩ := hsp.2
          have := i4.mp e t (by omega)
          omega
      subst hb4
      have G4 : Gr T H H4 := G3.trans g4
      refine ⟨_, rfl, ?_⟩
      refine ite2 (fun h => by cases h) (fun _ => ?_)
      rcases hcase with ⟨hev, hs⟩ | ⟨r, q, hl, hfm, hs⟩
      · subst hs
        refine ⟨_, rfl, _, rfl, ?_⟩
        refine ite2 (fun h => by cases h) (fun _ => ?_)
        have e7 : (10 : Int) ^ (7 : Int).toNat = 10000000 := by decide +kernel
        refine ⟨_, rfl, _, _, rfl, rfl, ⟨by decide, by decide, by decide⟩, _, rfl, l, pl, dxl, cal, ps, c, day, k, lim, bal0, am, (10 : Int) ^ (7 : Int).toNat, os, n, rfl, LE G4, hk, hok, pb, ⟨by omega, by omega⟩, ⟨by omega, by omega⟩, ⟨by omega, by omega⟩, by omega, by omega, G4.tb, fun b5 H5 g5 i5 => ?_⟩
        have hb5 : b5 = false := by
          cases e : b5 with
          | false => rfl
          | true =>
            obtain ⟨t, ht, _, hbt⟩ := ever_iff pb.ord c1 hd hev (day + (10 : Int) ^ (7 : Int).toNat)
            have := i5.mp e t ht
            omega
        subst hb5
        refine ⟨_, rfl, ?_⟩
        refine ite2 (fun h => by cases h) (fun _ => ?_)
        exact hq H5 (G4.trans g5)
      · subst hs
        have hls := last_spec pb.ord c1 hl
        rw [es] at hls
        have hfrom : day ≤ fromOf (day + 1) r ∧ fromOf (day + 1) r ≤ day + 1 + 100000000001 := by
          cases r with
          | none => show day ≤ day + 1 - 1 ∧ day + 1 - 1 ≤ _; omega
          | some d =>
            have h1 := (hls.2 d rfl).1
            have h2 := last_bound pb.ord c1 c2 hlen hl (by omega) (by omega)
            show day ≤ d + 1 ∧ d + 1 ≤ _
            omega
        have hwell : Well os (day + 1) bal0 (0 - lim + am) q := fun t ht => by
          have hq1 := hfm.1
          cases r with
          | none =>
            have hq2 : day + 1 - 1 ≤ q := hq1
            exact hls.1 rfl t (by omega)
          | some d =>
            have hq2 : d + 1 ≤ q := hq1
            exact (hls.2 d rfl).2.2 t (by omega)
        have hnot : ∀ y, day ≤ y → y < q → mayB k c y = true → ¬ Well os (day + 1) bal0 (0 - lim + am) y := fun y h1 h2 h3 hw => by
          have hlt : y < fromOf (day + 1) r := by
            by_cases z : y < fromOf (day + 1) r
            · exact z
            · have := hfm.2.2 y (by omega) h2
              rw [h3] at this
              cases this
          cases r with
          | none =>
            have : y < day + 1 - 1 := hlt
            omega
          | some d =>
            have hlt2 : y < d + 1 := hlt
            have z1 := (hls.2 d rfl).2.1
            have z2 := hw d (by omega)
            omega
        have hq1 := hfm.1
        have hq2 := firstMay_le c1 hfm
        refine ⟨_, rfl, _, rfl, ?_⟩
        refine ite2 (fun _ => ?_) (fun h => absurd rfl h)
        refine ⟨_, rfl, a, dxa, _, rfl, G4.get haa, rfl, _, rfl, a, bobS, lim, bal0, c, q, rfl, ha.gr G4, c1, _, rfl, ?_⟩
        rw [hfm.2.1]
        refine ite2 (fun h => by cases h) (fun _ => ?_)
        refine ⟨_, rfl, _, rfl, _, rfl, _, _, rfl, rfl, _, rfl, l, pl, dxl, cal, ps, c, day, k, lim, bal0, am, q - day, os, n, rfl, LE G4, hk, hok, pb, ⟨by omega, by omega⟩, ⟨by omega, by omega⟩, ⟨by omega, by omega⟩, by omega, by omega, G4.tb, fun b5 H5 g5 i5 => ?_⟩
        have hb5 : b5 = true := i5.mpr (by
          rw [show day + (q - day) = q by omega]
          exact hwell)
        subst hb5
        have G5 : Gr T H H5 := G4.trans g5
        refine ⟨_, rfl, ?_⟩
        refine ite2 (fun h => by cases h) (fun _ => ?_)
        refine ⟨_, rfl, _, rfl, _, rfl, _, _, rfl, rfl, _, _, rfl, rfl, _, _, rfl, _, rfl, ?_⟩
        generalize hlo : (if q - c - 2 > day then q - c - 2 else day) = lo
        have hlo1 : day ≤ lo ∧ q - lo ≤ c + 2 := by
          rw [← hlo]
          split <;> omega
        refine ⟨lo, q, rfl, ?_, fun D hD => ?_⟩
        · exact ⟨by omega, by omega, by omega, by omega⟩
        have hDH : H D = none := G5.nn hD
        refine lc_range (lo := lo) (n := (q - lo).toNat) (fun i H' => Gr T H H' ∧ ∃ ys : List Int, H' D = some (.lst (ys.map V.int)) ∧ ys.length ≤ i ∧ ∀ y ∈ ys, day ≤ y ∧ y < q ∧ mayB k c y = true) ⟨G5.new hD, [], upd_same, Nat.le_refl _, fun y hy => by cases hy⟩ (fun i H' hi hiv => ?_) (fun H' hiv => ?_)
        · obtain ⟨g, ys, hD', hyl, hys⟩ := hiv
          refine ⟨rfl, _, rfl, a, dxa, _, rfl, g.get haa, rfl, _, rfl, a, bobS, lim, bal0, c, lo + i, rfl, ha.gr g, c1, _, rfl, ?_⟩
          refine ite2 (fun hm => ?_) (fun hm => ?_)
          · refine ⟨_, rfl, _, hD', ?_, g.turn hDH hD', ys ++ [lo + i], ?_, ?_, fun y hy => ?_⟩
            · rw [List.length_map, sizeLine_eq]
              omega
            · rw [upd_same, List.map_append]
              rfl
            · rw [List.length_append]
              show ys.length + 1 ≤ i + 1
              omega
            · rcases List.mem_append.mp hy with z | z
              · exact hys y z
              · have e := List.mem_singleton.mp z
                subst e
                exact ⟨by omega, by omega, hm⟩
          · exact ⟨g, ys, hD', by omega, hys⟩
        · obtain ⟨g, ys, hD', hyl, hys⟩ := hiv
          refine ⟨_, rfl, D, rfl, ⟨_, .inl (.inl hD')⟩, fun D2 hD2 => ?_⟩
          have hD2H : H D2 = none := g.nn hD2
          refine lc_list (xs := ys.map V.int) (fun i H' => Gr T H H' ∧ H' D = some (.lst (ys.map V.int)) ∧ H' D2 = some (.lst [])) ⟨g.new hD2, upd_ext hD2 _ _ hD', upd_same⟩ (fun i H' _ hj => .inl (.inl hj.2.1)) (fun i x H' hx hj => ?_) (fun H' hj => ?_)
          · obtain ⟨gj, hDj, hD2j⟩ := hj
            obtain ⟨y, hy, rfl⟩ : ∃ y, y ∈ ys ∧ x = V.int y := by
              rw [List.getElem?_map] at hx
              cases e : ys[i]? with
              | none => rw [e] at hx; cases hx
              | some y => rw [e] at hx; cases hx; exact ⟨y, List.mem_of_getElem? e, rfl⟩
            obtain ⟨y1, y2, y3⟩ := hys y hy
            refine ⟨rfl, _, rfl, _, rfl, _, rfl, _, _, rfl, rfl, _, rfl, l, pl, dxl, cal, ps, c, day, k, lim, bal0, am, y - day, os, n, rfl, LE gj, hk, hok, pb, ⟨by omega, by omega⟩, ⟨by omega, by omega⟩, ⟨by omega, by omega⟩, by omega, by omega, gj.tb, fun b6 H6 g6 i6 => ?_⟩
            have hb6 : b6 = false := by
              cases e : b6 with
              | false => rfl
              | true =>
                have z := i6.mp e
                rw [show day + (y - day) = y by omega] at z
                exact absurd z (hnot y y1 y2 y3)
            subst hb6
            refine ⟨_, rfl, ?_⟩
            refine ite2 (fun h => by cases h) (fun _ => ?_)
            exact ⟨gj.trans g6, g6.get hDj, g6.get hD2j⟩
          · obtain ⟨gj, hDj, hD2j⟩ := hj
            refine ⟨Nat.zero_le _, fun q2 hq2n => ?_⟩
            have hd' : (upd H' q2 (.lst [])) D2 = some (.lst (([] : List Int).map V.int)) := upd_ext hq2n _ _ hD2j
            refine ⟨.list (([] : List Int).map .int), .list [], dp_ints hd', .lst (.inl (.inl upd_same)) .nil, shaped_ints _, shaped_ints [], _, rfl, ?_⟩
            rw [eqv_nil]
            refine ite2 (fun h => by cases h) (fun _ => ?_)
            exact hq _ (gj.new hq2n)
end
end So
end
section
set_option maxHeartbeats 8000000
/-! isinstance of a caught error that has a dict; list.count of flat items. -/
namespace PySem.ExD
open PySem PySem.Spec PySem.Calls PyProof.Rows PySem.W
section
variable {prog : Program} {w : World} {A : Around} {E : Value → Shared → Prop} {s : Shared} {K : Frag} {x D : Addr} {ox : Obj} {od : Option Obj}
theorem findData {C : Addr} {name : Str} {a g : Value} (hc : (clsIn K C).isSome = true) (ha : findIn K (.ref C) name = some (some a)) (hg : specialIn K a "__get__" = some (some g)) (ht : takesIn K a = some true) : findObj K C od name = some (.bind g a) := by
  obtain ⟨cd, hc⟩ := Option.isSome_iff_exists.mp hc
  unfold findObj
  rw [hc, Option.bind_some, ha, Option.bind_some]
  simp [hg, ht]
theorem classOf {Q : Option Value → Shared → Prop} (C : L2.ExcC K D) (X : K.In s.heap) (I : InstAt s.heap x ox D od) (h : Q (some (.ref D)) { s with toks := s.toks + 1 }) : wpAny (model prog w) A (getAttr? (.ref x) "__class__") Q E s := by
  have hf : findObj K D od "__class__" = some (.bind (.builtin "getset_descriptor.__get__") (.builtin "object.__class__")) := findData (by obtain ⟨cd, hc, _⟩ := any_some C.hd; rw [hc]; rfl) C.ha C.hn C.ht
  obtain ⟨hp, g, d, t, os⟩ := s
  have L0 := I.type (M := model prog w)
  have L1 := looks_findIn (M := model prog w) X C.hg
  have L2 := looks_findIn (M := model prog w) X C.hk
  have L3 := looks_find (M := model prog w) X I hf
  have sub : Looks (model prog w) hp (isInstance (.ref x) (.type "BaseException")) true := L0.andThen (looks_subIn X C.hs)
  have hx0 : (false && onTheHeap (Value.builtin "BaseException.__getattribute__")) = false := rfl
  have hx2 : (Value.builtin "BaseException.__getattribute__" == Value.builtin "object.__getattribute__") = false := by decide +kernel
  have hx1 : (onTheHeap (Value.ref D) && Value.builtin "BaseException.__getattribute__" == Value.builtin "object.__getattribute__") = false := by rw [hx2]; rfl
  unfold getAttr? getAttrBy? getAttrBy
  refine wpAny_bind (wpAny_mkText (wpAny_bind (wpAny_attempt (wpAny_holding (wpAny_bind (L0.at (wpAny_bind (L1.at ?_))))))))
  show wpAny _ _ (if (onTheHeap (Value.ref D) && Value.builtin "BaseException.__getattribute__" == Value.builtin "object.__getattribute__") = true then _ else _) _ _ _
  rw [hx1, if_neg Bool.false_ne_true]
  unfold getAttrByItsOwn hookBefore
  refine wpAny_bind ?_
  rw [if_pos (show onTheHeap (Value.ref D) = true from rfl)]
  refine L2.at ?_
  refine wpAny_bind (wpAny_attempt (wpAny_holding ?_))
  unfold callGetattribute
  rw [hx0, if_neg Bool.false_ne_true]
  unfold boundAndCalled
  rw [PySem.F.excAttr_ValueError.ga.bind (.ref x)]
  refine wpAny_bind (wpAny_pure ?_)
  show wpAny _ _ (call (.builtin "BaseException.__getattribute__") [.ref x, .str "__class__" t]) _ _ _
  refine wpAny_call (codeAny_call_builtin PySem.F.excAttr_ValueError.ga.plain PySem.F.entry_bexc_ga ?_)
  refine @check_slot (model prog w) _ _ ⟨hp, g, d, t + 1, os⟩ "BaseException.__getattribute__" "BaseException" "__getattribute__" (.ref x) [.str "__class__" t] [] _ (by decide +kernel) (by decide +kernel) sub (PySem.F.args_bexc_ga (.ref x) (.str "__class__" t)) ?_
  unfold Builtin.«object.__getattribute__»
  refine wpAny_bind (wpAny_of_eq (a := ((Value.ref x : Value), [Value.str "__class__" t])) (by first | rfl | (simp only [slotArgs]; rfl)) ?_)
  refine wpAny_bind (wpAny_pure (wpAny_bind (L0.at (wpAny_bind (L3.at ?_)))))
  show wpAny _ _ (holding [Value.builtin "object.__class__"] (call (.builtin "getset_descriptor.__get__") [.builtin "object.__class__", .ref x, .ref D]) >>= ret) _ _ _
  refine wpAny_bind (wpAny_holding (wpAny_call (class_get (s := ⟨hp, g, d, t + 1, os⟩) (ox := ox) (od := od) X I C.hm ?_)))
  refine wpAny_pure ?_
  show wpAny _ _ (handedOut (.ref D)) _ _ _
  rw [handedOut_of (v := .ref D) rfl]
  first
    | exact wpAny_pure (wpAny_pure h)
    | exact wpAny_pure h
    | exact wpAny_pure (wpAny_bind (wpAny_pure (wpAny_pure h)))
theorem kitD (C : L2.ExcC K D) : KitX K (.ref x) (.ref D) (fun h => InstAt h x ox D od) where
  ty := fun _ _ _ I => I.type
  it := fun _ _ X _ => by
    obtain ⟨cdD, hcD, _⟩ := any_some C.hd
    unfold clsIn at hcD
    split at hcD
    · rename_i c' d' cd' sl' ho
      intro A' Q' E' s' k q
      unfold isType loadHead
      exact wpAny_bind (wpAny_loadPart (k _ _ (X _ _ ho)) (wpAny_pure q))
    · cases hcD
  ne := fun h tp dd its n sl X htp => by
    obtain ⟨cdD, hcD, _⟩ := any_some C.hd
    refine Bool.eq_false_iff.mpr fun q => ?_
    have e : D = tp := Value.ref.inj (beq_iff_eq.mp q)
    subst e
    unfold clsIn at hcD
    split at hcD
    · rename_i c' d' cd' sl' ho
      have z := (X _ _ ho).symm.trans htp
      cases z
    · cases hcD
  ca := fun X I k => classOf C X I k
end
end PySem.ExD
namespace So
open PySem PySem.Spec PyProof.Rows L2 He
/-- isinstance(e, c), e the exception that the suite holds, with its dict -/
def rIsD (K : PySem.W.Frag) (D a : Addr) (d : Option Addr) : List V → Hp → VK → Prop := fun xs H Q => ∃ (c : V) (cv : Value) (b : Bool), xs = [.ref a, c] ∧ (∀ u, RelV c u → u = cv) ∧ PySem.W.kitOne K (.ref D) cv = some b ∧ (∀ dd, d = some dd → ∃ fs, H dd = some (.xd fs)) ∧ Q (.bl b) H
theorem call_isD {X : Cx} {a D : Addr} {d : Option Addr} {oe : Obj} {pn : List (Addr × Obj)} (C : ExcC X.K D) (hz : Zc (.ref D) d oe) (hf : ∃ vs, oe.data = .fields vs) : CallR (X.suite a ((a, oe) :: pn)) (.builtin "isinstance") (rIsD X.K D a d) := by
  intro pins s σ H xs us Q I r h
  obtain ⟨c, cv, b, rfl, hcv, e, hd, q⟩ := h
  cases r with
  | cons rx rr =>
    cases rr with
    | cons rt rr =>
      cases rr
      cases rx
      have ec := hcv _ rt
      subst ec
      obtain ⟨hget, _⟩ := I.pin (a, oe) (List.mem_append.mpr (.inl List.mem_cons_self))
      obtain ⟨vs, hv⟩ := hf
      have J : ∃ od, PySem.W.InstAt s.heap a oe D od := by
        obtain ⟨oc, od, oda, osl⟩ := oe
        obtain ⟨h1, h2⟩ := hz
        dsimp only at h1 h2 hv
        subst h1 h2 hv
        cases od with
        | none => exact ⟨none, hget, rfl, rfl, trivial⟩
        | some dd =>
          obtain ⟨fs, ed⟩ := hd dd rfl
          have hx : ObjOk X.prog X.w H s.heap dd (.xd fs) := I.hok dd _ ed
          obtain ⟨mA, hns, hr⟩ := hx
          obtain ⟨o2, ho, hl⟩ := lookIn_ns hns
          exact ⟨some o2, hget, rfl, rfl, ho⟩
      obtain ⟨od, J⟩ := J
      exact PySem.W.kia_one (PySem.ExD.kitD C) I.kIn J e (fun z => nomatch z) fun tk => ⟨.bl b, H, I.kept (t' := tk) fun _ _ z => z, rfl, q⟩
/-- list.count, flat items -/
def rCntV (K : PySem.W.Frag) : V → List V → Hp → VK → Prop := fun x xs H Q => ∃ (a : Addr) (ys : List V) (y : V), x = V.ref a ∧ xs = [y] ∧ SqL K H a ys ∧ flatV y = true ∧ ys.all flatV = true ∧ Q (.int (ys.countP fun z => eqV z y : Nat)) H
theorem cnt_eqU {y : V} : ∀ {ys : List V} {us : List Value}, Vals ys us → ys.all flatV = true → us.countP (eqU y) = ys.countP fun z => eqV z y
  | _, _, .nil, _ => rfl
  | z :: ys, u :: us, .cons r t, f => by
    rw [List.all_cons, Bool.and_eq_true] at f
    rw [List.countP_cons, List.countP_cons, cnt_eqU t f.2, eqU_of r f.1]
theorem mt_countV {X : Cx} : MtR X "list.count" (rCntV X.K) := by
  intro pins s σ H x xs v us Q I rx rxs h
  obtain ⟨a, ys, y, rfl, rfl, hs, fy, fys, q⟩ := h
  cases rx
  cases rxs with
  | cons ry rt =>
    rename_i uy ut
    cases rt
    obtain ⟨its, rv, ⟨⟨cls, dd, data, sl⟩, n, ho, hc, hdn, hd⟩, hlen⟩ := I.list hs
    simp only at hc hd
    subst hc hd
    refine call_meets PySem.F.slot_list_count ⟨_, ho, rfl⟩ PySem.F.entry_list_count (PySem.F.args_list_count_2 _ _)
      (SeqAt.list_countAt a its.toArray n dd sl uy (eqU y)) ⟨ho, fun u' hu' => mem_eqAt ry fy rv fys u' (by simpa using hu'), ?_⟩
    have ec : its.toArray.toList.countP (eqU y) = ys.countP fun z => eqV z y := cnt_eqU rv fys
    refine ⟨.int (ys.countP fun z => eqV z y : Nat), H, I.tok _, ⟨s.toks, ?_⟩, q⟩
    show Value.int ((its.toArray.toList.countP (eqU y) : Nat) : Int) s.toks = Value.int ((ys.countP fun z => eqV z y : Nat) : Int) s.toks
    rw [ec]
end So
end
section
set_option maxHeartbeats 8000000
/-! The suite of _law_outcome. -/
namespace So
open PySem PySem.Spec PyProof.Rows L2 He
/-- the dict of the exception, if it has one, is known -/
def Dc (d : Option Addr) (H : Hp) : Prop := ∀ dd, d = some dd → ∃ fs, H dd = some (.xd fs)
def tIsi (a : Addr) (d : Option Addr) (b : Bool) : TE := fun σ H Q => σ[1]? = some (some (.ref a)) ∧ Dc d H ∧ Q (.bl b) H
def tIsL (a : Addr) (d : Option Addr) (bs : List Bool) : TA := fun σ H Q => σ[1]? = some (some (.ref a)) ∧ Dc d H ∧ Q (bs.map .bl) H
def tIsLst (a : Addr) (d : Option Addr) (bs : List Bool) : TE := fun σ H Q => σ[1]? = some (some (.ref a)) ∧ Dc d H ∧ ∀ L, H L = none → Q (.ref L) (upd H L (.lst (bs.map .bl)))
section
variable {X : Cx} {a : Addr} {d : Option Addr} {oe : Obj} {pn : List (Addr × Obj)} {D : Addr} {y : Str} {b : Bool} {bs : List Bool} {es : List Expr} {p1 p2 p3 pos : Pos} {cv : Value}
theorem pe_isi {c : V} (C : ExcC X.K D) (hk : PySem.W.kitOne X.K (.ref D) cv = some b) (hz : Zc (.ref D) d oe) (hf : ∃ vs, oe.data = .fields vs) (m1 : X.mg "isinstance" = none)
    (hy : PE (X.suite a ((a, oe) :: pn)) (.Name y p2) (tC c)) (hc : ∀ u, RelV c u → u = cv)
    (gi : Gl X "isinstance" := by rfl) (hN : X.N[1]? = some ("e" : Str) := by rfl) (hv : Vis X.env.scope ("e" : Str) := by first | exact Or.inl rfl | exact Or.inr (Or.inl rfl))  :
    PE (X.suite a ((a, oe) :: pn)) (.Call (.Name "isinstance" p1) [.Name "e" p3, .Name y p2] [] pos) (tIsi a d b) := by
  refine ⟨fun pins s σ H Q I h => ?_⟩
  obtain ⟨h1, h2, h3⟩ := h
  have pe := pe_callB (p := p1) (pos := pos) (call_isD (X := X) (pn := pn) C hz hf) gi m1 boot_isinstance (pa_cons (pe_var (pos := p3) (i := 1) (x := ("e" : Str)) hN hv) (pa_cons hy pa_nil)) 
  exact pe.run pins s σ H Q I ⟨_, h1, c, cv, b, rfl, hc, hk, h2, h3⟩
theorem pe_isv (C : ExcC X.K D) (hk : PySem.W.kitOne X.K (.ref D) (.type "ValueError") = some b) (hz : Zc (.ref D) d oe) (hf : ∃ vs, oe.data = .fields vs) (m1 : X.mg "isinstance" = none) (mv : X.mg "ValueError" = none)
    (gi : Gl X "isinstance" := by rfl) (gv : Gl X "ValueError" := by rfl) (hN : X.N[1]? = some ("e" : Str) := by rfl) (hv : Vis X.env.scope ("e" : Str) := by first | exact Or.inl rfl | exact Or.inr (Or.inl rfl)) :
    PE (X.suite a ((a, oe) :: pn)) (.Call (.Name "isinstance" p1) [.Name "e" p3, .Name "ValueError" p2] [] pos) (tIsi a d b) :=
  pe_isi (c := .ty "ValueError") C hk hz hf m1 (pe_bltn gv mv (by decide +kernel : bootBuiltins "ValueError" = some (.type "ValueError")) rfl) (fun u h => h) gi hN hv
theorem pis_nil : PA X [] (tIsL a d []) := ⟨fun pos pins s σ H Q I h => pa_nil.run pos pins s σ H Q I h.2.2⟩
theorem pis_cons {C : Addr} (E : ExcC X.K D) (hk : PySem.W.kitOne X.K (.ref D) (.ref C) = some b) (hz : Zc (.ref D) d oe) (hf : ∃ vs, oe.data = .fields vs) (m1 : X.mg "isinstance" = none) (my : X.mg y = some (.ref C))
    (hr : PA (X.suite a ((a, oe) :: pn)) es (tIsL a d bs))
    (gi : Gl X "isinstance" := by rfl) (gy : Gl X y := by rfl) (hd : (y == ("__debug__" : Str)) = false := by decide) (hN : X.N[1]? = some ("e" : Str) := by rfl) (hv : Vis X.env.scope ("e" : Str) := by first | exact Or.inl rfl | exact Or.inr (Or.inl rfl)) :
    PA (X.suite a ((a, oe) :: pn)) (.Call (.Name "isinstance" p1) [.Name "e" p3, .Name y p2] [] pos :: es) (tIsL a d (b :: bs)) := by
  refine ⟨fun pos' pins s σ H Q I h => ?_⟩
  obtain ⟨h1, h2, h3⟩ := h
  have pe := pe_isi (p1 := p1) (p3 := p3) (pos := pos) (c := .ref C) (pn := pn) (a := a) E hk hz hf m1 (pe_glob (pos := p2) gy my rfl hd) (fun u h => h) gi hN hv
  exact (pa_cons pe hr).run pos' pins s σ H Q I ⟨h1, h2, h1, h2, h3⟩
theorem pe_isl (h : PA X es (tIsL a d bs)) (hl : bs.length ≤ sizeLine) : PE X (.List es pos) (tIsLst a d bs) := by
  refine ⟨fun pins s σ H Q I hq => (pe_lst h).run pins s σ H Q I ?_⟩
  obtain ⟨h1, h2, h3⟩ := hq
  exact ⟨h1, h2, by rw [List.length_map]; exact hl, h3⟩
end
abbrev outN : List Str := ["_law_call", "e", "_law_kinds", "_law_words", "_law_word"]
theorem pss_kind {X : Cx} {C : Addr} {cls : Value} {d : Option Addr} {oe : Obj} {b : List Stmt} {t : TS} (hz : Zc cls d oe) (h : Zc (.ref C) d oe → PSs X b t) : PSs X b (fun D σ H => cls = .ref C ∧ t D σ H) := by
  refine ⟨fun pins s σ H D I q => ?_⟩
  obtain ⟨e, q⟩ := q
  subst e
  exact (h hz).run pins s σ H D I q
/-- a value that came back, in a pair -/
def Vpair (Q : VK) : VK := fun v H1 => ([V.str "value", v] : List V).length ≤ sizeLine ∧ ∀ t, H1 t = none → Q (.ref t) (upd H1 t (.tup [.str "value", v]))
/-- what the call of the suite's beginning wants -/
def tbOut (f c' : Addr) (q : Str) (tl : XK → Hp → VK → Prop) : WX → TS := fun W D σ H => ∃ Ech : XK, (∀ cls d (σ' : L2.St) H', Ech cls d H' → σ'.length = 5 → W cls d σ' H') ∧ σ[0]? = some (some (.ref f)) ∧ H c' = some (LamX.CodeO c' q) ∧ tl Ech H (Vpair D.rt)
/-! rules that name K -/
theorem pe_bmK {X : Cx} {K : PySem.W.Frag} {o e : Expr} {es : List Expr} {to : TE} {t : TA} {name : Str} {apos cpos : Pos} {Ty id : String} {r : V → List V → Hp → VK → Prop} (hK : X.K = K) (pa : PlainAttrs Ty) (slot : Slot Ty name id) (hty : typeOf (.builtin id) = pure (.type "method_descriptor")) (hm : MtR X id r) (ho : PE X o to) (ha : PA X (e :: es) t)
    (hbase : attributeBase o name X.env (eval o X.env) = eval o X.env := by rfl)
    (hfew : ((backTo cpos (starEach (e :: es) X.env)).all (fun x => !x.1) && (backToKw cpos (keywordEach [] X.env)).all (fun x => x.1.isSome)
      && decide ((e :: es).length + ([] : List Keyword).length + (if ([] : List Keyword).isEmpty then 0 else 1) < 30)) = true := by rfl)
    (hline : (apos.endLine == cpos.line) = true := by rfl) (hs : starEach (e :: es) X.env = (false, eval e X.env) :: starEach es X.env := by rfl) (hplain : (backTo cpos (starEach es X.env)).any (·.1) = false := by rfl) :
    PE X (.Call (.Attribute o name apos) (e :: es) [] cpos) (tBM K Ty r to t) := by
  subst hK
  exact pe_bm pa slot hty hm ho ha hbase hfew hline hs hplain
theorem mt_countK {X : Cx} {K : PySem.W.Frag} (hK : X.K = K) : MtR X "list.count" (rCntV K) := by
  subst hK
  exact mt_countV
theorem mt_indexK {X : Cx} {K : PySem.W.Frag} (hK : X.K = K) : MtR X "list.index" (rIndex K) := by
  subst hK
  exact mt_index
theorem op_inK {X : Cx} {K : PySem.W.Frag} (hK : X.K = K) : OpR X (compareOp .In) (rIn K false) := by
  subst hK
  exact op_in_seq
theorem ix_listK {X : Cx} {K : PySem.W.Frag} (hK : X.K = K) : IxR X (rIxL K) := by
  subst hK
  exact ix_list
theorem le17 {n : Nat} (h : n ≤ 17) : n ≤ sizeLine := Nat.le_trans h (by decide)
def wordL : List Str := ["duplicate", "endless", "amount", "count", "name", "operation", "order", "text", "notempty", "overdrawn", "same", "accounts", "orders", "account", "kind", "number", "day"]
/-- the list at L grows -/
structure SI (T : Wt) (H0 : Hp) (L : Addr) (xs : List V) (H : Hp) : Prop where
  gr : Gr T H0 H
  at_ : H L = some (.lst xs)
  n0 : H0 L = none
theorem SI.start {T : Wt} {H0 : Hp} {L : Addr} {xs : List V} (tb : Tbs T H0) (h : H0 L = none) : SI T H0 L xs (upd H0 L (.lst xs)) := ⟨(Gr.refl tb).new h, upd_same, h⟩
theorem SI.nx {T : Wt} {H0 H : Hp} {L M : Addr} {xs zs : List V} (S : SI T H0 L xs H) (h : H M = none) : upd H M (.lst zs) L = some (.lst xs) := upd_ext h _ _ S.at_
theorem SI.step {T : Wt} {H0 H : Hp} {L M : Addr} {xs zs : List V} (S : SI T H0 L xs H) (h : H M = none) : SI T H0 L (xs ++ zs) (upd (upd H M (.lst zs)) L (.lst (xs ++ zs))) :=
  ⟨GrB.turn (GrB.new S.gr h) S.n0 (S.nx h), upd_same, S.n0⟩
theorem SI.new {T : Wt} {H0 H : Hp} {L M : Addr} {xs : List V} {o : HO} (S : SI T H0 L xs H) (h : H M = none) : SI T H0 L xs (upd H M o) := ⟨S.gr.new h, upd_ext h _ _ S.at_, S.n0⟩
theorem first_no {ys : List V} {y : V} {j : Nat} (h : (ys.take j).all (fun z => !eqV z y) = true) : ∀ (m : Nat) (z' : V), m < j → ys[m]? = some z' → eqV z' y = false := fun m z hm hz => by
  have h1 := List.all_eq_true.mp h z (List.mem_of_getElem? (i := m) (by rw [List.getElem?_take, if_pos hm]; exact hz))
  simpa using h1
theorem split_eq : Txt.split (("duplicate endless amount count name operation order text notempty overdrawn same accounts orders" : Str) ++ (" account kind number day" : Str)) (" " : Str) = wordL := by decide +kernel
theorem split_word (j : Nat) (w : Str) (h : wordL[j]? = some w) : atI ((Txt.split (("duplicate endless amount count name operation order text notempty overdrawn same accounts orders" : Str) ++ (" account kind number day" : Str)) (" " : Str)).map V.str) (j : Int) = some (.str w) := by
  rw [split_eq]
  exact atI_nat (by rw [List.getElem?_map, h]; rfl)
theorem SI.ty {T : Wt} {H0 H : Hp} {L : Addr} {xs : List V} {K : PySem.W.Frag} (S : SI T H0 L xs H) : tyV K "list" (.ref L) H := .inl ⟨rfl, xs, .of S.at_⟩
theorem takes_len {X : Cx} {W : WX} (tk : Takes X W) : Takes X fun cls d σ H => σ.length = X.N.length → W cls d σ H := fun u s' x => by
  obtain ⟨a, B, sI, pins', σ', H', cls, d, e, J', nb, up, sky, na, os, ag, q⟩ := x
  exact tk u s' ⟨a, B, sI, pins', σ', H', cls, d, e, J', nb, up, sky, na, os, ag, q J'.len⟩
section
variable {X : Cx} {T : Wt}
abbrev outX (X : Cx) (g : Addr) (cdg : Value) (s : Shared) (H : Hp) : Cx := (cxOf CX0 X.prog X.w X.K X.mg X.base outN "_law_outcome" (defScope s__law_outcome) g cdg X.A X.stack s H E0).nox
/-- the call gives a value -/
def TTval : (XK → Hp → VK → Prop) → Hp → VK → Prop := fun tl H Q => tl (fun _ _ _ => False) H (Vpair Q)
/-- an error without fields -/
def Eerr (K : PySem.W.Frag) (T : Wt) (x w : Str) (Q : VK) : XK := fun cls d H1 => cls = .ref (ga K x) ∧ d = none ∧ Tbs T H1 ∧ ∀ t H2, Gr T H1 H2 → H1 t = none → H2 t = some (.tup [.str w]) → Q (.ref t) H2
def TTerr (K : PySem.W.Frag) (T : Wt) (x w : Str) : (XK → Hp → VK → Prop) → Hp → VK → Prop := fun tl H Q => tl (Eerr K T x w Q) H (Vpair Q)
/-- UnknownAccount of 'al' -/
def Eua (K : PySem.W.Frag) (T : Wt) (Q : VK) : XK := fun cls d H1 => cls = .ref (ga K "UnknownAccount") ∧ (∃ dd, d = some dd ∧ H1 dd = some (.xd [(("name" : Str), .str alS)])) ∧ Tbs T H1 ∧ ∀ t H2, Gr T H1 H2 → H1 t = none → H2 t = some (.tup [.str "account", .str alS]) → Q (.ref t) H2
def TTua (K : PySem.W.Frag) (T : Wt) : (XK → Hp → VK → Prop) → Hp → VK → Prop := fun tl H Q => tl (Eua K T Q) H (Vpair Q)
theorem out_val {g : Addr} {cdg : Value} {q : Str} (kn : Kn X.K X.mg) :
    LamX.GivesTo X outN "_law_outcome" (defScope s__law_outcome) g cdg (defBody s__law_outcome) "_law_call" q TTval := by
  intro f c' s H Q tl act hc h
  refine ⟨_, pss_one (ps_try_as (i := 1) (c := .ref (ga X.K "OrderError")) (tb := tbOut f c' q tl) (ts := fun _ _ _ _ _ _ => False) rfl rfl sc__law_outcome.nd rfl rfl ⟨rfl, by decide, .inl (kn.glo "OrderError")⟩ LamX.takes0
    (fun W pn xe tk _ => ⟨fun pins s' σ H' D I h' => by
      obtain ⟨Ech, hW, h1, h2, h3⟩ := h'
      exact (pss_one (ps_ret (pe_tup (pa_cons pe_str (pa_cons (act _ pn xe Ech _ _ (takes_len tk) hW) pa_nil))))).run pins s' σ H' D I ⟨h1, h2, h3⟩⟩)
    (fun a oe cls d pn hz hf => ⟨fun _ _ _ _ _ _ z => z.elim⟩)), ?_⟩
  exact ⟨fun _ _ _ => False, fun _ _ _ _ z _ => z.elim, rfl, hc, h⟩
theorem out_err {g : Addr} {cdg : Value} {q x wd : Str} (kn : Kn X.K X.mg) (kx : Kx X.K) (ky : Ky X.K) (hx : x ∈ excN) (hxw : (x = "Endless" ∧ wd = "endless") ∨ (x = "InvalidAmount" ∧ wd = "amount")) :
    LamX.GivesTo X outN "_law_outcome" (defScope s__law_outcome) g cdg (defBody s__law_outcome) "_law_call" q (TTerr X.K T x wd) := by
  have m1 := kn.free "isinstance"
  have h3 : 3 ≤ sizeLine := by decide
  have h2 : 2 ≤ sizeLine := by decide
  have mv := kn.free "ValueError"
  have nd := sc__law_outcome.nd
  intro f c' s H Q tl act hc h
  refine ⟨_, pss_one (ps_try_as (i := 1) (c := .ref (ga X.K "OrderError")) (tb := tbOut f c' q tl) rfl rfl nd rfl rfl ⟨rfl, by decide, .inl (kn.glo "OrderError")⟩ LamX.takes0
    (fun W pn xe tk _ => ⟨fun pins s' σ H' D I h' => by
      obtain ⟨Ech, hW, h1, h2, h3⟩ := h'
      exact (pss_one (ps_ret (pe_tup (pa_cons pe_str (pa_cons (act _ pn xe Ech _ _ (takes_len tk) hW) pa_nil))))).run pins s' σ H' D I ⟨h1, h2, h3⟩⟩)
    (fun a oe cls d pn hz hf => pss_kind (C := ga X.K x) hz fun hz => (pss_cons (ps_set (i := 2) nd rfl (.inl rfl) (pe_isl (pis_cons (X := outX X g cdg s H) (ky.exc x hx) (ky.kit x hx "DuplicateName" (by decide)) hz hf m1 (kn.glo "DuplicateName") (pis_cons (X := outX X g cdg s H) (ky.exc x hx) (ky.kit x hx "Endless" (by decide)) hz hf m1 (kn.glo "Endless") (pis_cons (X := outX X g cdg s H) (ky.exc x hx) (ky.kit x hx "InvalidAmount" (by decide)) hz hf m1 (kn.glo "InvalidAmount") pis_nil))) h3))
      (pss_cons (ps_expr (pe_bmK (K := X.K) rfl PySem.F.plainAttrs_list PySem.F.slot_list_extend PySem.F.type_list_extend mt_extend (pv 2) (pa_cons (pe_isl (pis_cons (X := outX X g cdg s H) (ky.exc x hx) (ky.kit x hx "InvalidCount" (by decide)) hz hf m1 (kn.glo "InvalidCount") (pis_cons (X := outX X g cdg s H) (ky.exc x hx) (ky.kit x hx "InvalidName" (by decide)) hz hf m1 (kn.glo "InvalidName") (pis_cons (X := outX X g cdg s H) (ky.exc x hx) (ky.kit x hx "InvalidOperation" (by decide)) hz hf m1 (kn.glo "InvalidOperation") pis_nil))) h3) pa_nil)))
      (pss_cons (ps_expr (pe_bmK (K := X.K) rfl PySem.F.plainAttrs_list PySem.F.slot_list_extend PySem.F.type_list_extend mt_extend (pv 2) (pa_cons (pe_isl (pis_cons (X := outX X g cdg s H) (ky.exc x hx) (ky.kit x hx "InvalidOrder" (by decide)) hz hf m1 (kn.glo "InvalidOrder") (pis_cons (X := outX X g cdg s H) (ky.exc x hx) (ky.kit x hx "InvalidText" (by decide)) hz hf m1 (kn.glo "InvalidText") (pis_cons (X := outX X g cdg s H) (ky.exc x hx) (ky.kit x hx "NotEmpty" (by decide)) hz hf m1 (kn.glo "NotEmpty") pis_nil))) h3) pa_nil)))
      (pss_cons (ps_expr (pe_bmK (K := X.K) rfl PySem.F.plainAttrs_list PySem.F.slot_list_extend PySem.F.type_list_extend mt_extend (pv 2) (pa_cons (pe_isl (pis_cons (X := outX X g cdg s H) (ky.exc x hx) (ky.kit x hx "Overdrawn" (by decide)) hz hf m1 (kn.glo "Overdrawn") (pis_cons (X := outX X g cdg s H) (ky.exc x hx) (ky.kit x hx "SameAccount" (by decide)) hz hf m1 (kn.glo "SameAccount") (pis_cons (X := outX X g cdg s H) (ky.exc x hx) (ky.kit x hx "TooManyAccounts" (by decide)) hz hf m1 (kn.glo "TooManyAccounts") pis_nil))) h3) pa_nil)))
      (pss_cons (ps_expr (pe_bmK (K := X.K) rfl PySem.F.plainAttrs_list PySem.F.slot_list_extend PySem.F.type_list_extend mt_extend (pv 2) (pa_cons (pe_isl (pis_cons (X := outX X g cdg s H) (ky.exc x hx) (ky.kit x hx "TooManyOrders" (by decide)) hz hf m1 (kn.glo "TooManyOrders") (pis_cons (X := outX X g cdg s H) (ky.exc x hx) (ky.kit x hx "UnknownAccount" (by decide)) hz hf m1 (kn.glo "UnknownAccount") (pis_cons (X := outX X g cdg s H) (ky.exc x hx) (ky.kit x hx "UnknownKind" (by decide)) hz hf m1 (kn.glo "UnknownKind") pis_nil))) h3) pa_nil)))
      (pss_cons (ps_expr (pe_bmK (K := X.K) rfl PySem.F.plainAttrs_list PySem.F.slot_list_extend PySem.F.type_list_extend mt_extend (pv 2) (pa_cons (pe_isl (pis_cons (X := outX X g cdg s H) (ky.exc x hx) (ky.kit x hx "UnknownOrder" (by decide)) hz hf m1 (kn.glo "UnknownOrder") (pis_cons (X := outX X g cdg s H) (ky.exc x hx) (ky.kit x hx "WrongDay" (by decide)) hz hf m1 (kn.glo "WrongDay") pis_nil)) h2) pa_nil)))
      (pss_cons (ps_if (PW.pt (pw_or (pt_cmpR op_ne (pe_bmK (K := X.K) rfl PySem.F.plainAttrs_list PySem.F.slot_list_count PySem.F.type_list_count (mt_countK (K := X.K) rfl) (pv 2) (pa_cons pe_bl pa_nil)) pe_int (nomark _)) (pw_or1 (pt_not (pt_val (pe_isv (X := outX X g cdg s H) (ky.exc x hx) (ky.kitV x hx) hz hf m1 mv)))))) (pss_one ps_never) pss_nil)
      (pss_cons (ps_set (i := 3) nd rfl (.inl rfl) pe_str)
      (pss_cons (ps_set (i := 4) nd rfl (.inl rfl) (pe_ix (ix_listK (K := X.K) rfl) (pe_split (pe_op op_add_str (pv 3) pe_str) pe_str) (pe_bmK (K := X.K) rfl PySem.F.plainAttrs_list PySem.F.slot_list_index PySem.F.type_list_index (mt_indexK (K := X.K) rfl) (pv 2) (pa_cons pe_bl pa_nil)) (fun _ _ => rfl)))
      (pss_cons (ps_if (pt_cmpR op_eq (pv 4) pe_str (nomark _)) (pss_one ps_never) pss_nil)
      (pss_cons (ps_if (pt_cmpR (op_inK (K := X.K) rfl) (pv 4) (pe_tup (pa_cons pe_str (pa_cons pe_str (pa_cons pe_str pa_nil)))) (by with_unfolding_all rfl)) (pss_one (ps_ret (pe_tup (pa_cons (pv 4) (pa_cons pe_never pa_nil))))) pss_nil)
      (pss_cons (ps_if (pt_cmpR (op_inK (K := X.K) rfl) (pv 4) (pe_tup (pa_cons pe_str (pa_cons pe_str pa_nil))) (by with_unfolding_all rfl)) (pss_one ps_never) pss_nil)
      (pss_one (ps_ret (pe_ifExp (pt_cmpR op_eq (pv 4) pe_str (nomark _)) pe_never (pe_tup (pa_cons (pv 4) pa_nil))))))))))))))))))), ?_⟩
  refine ⟨Eerr X.K T x wd Q, fun cls d σ' H' hE hlen => ?_, rfl, hc, h⟩
  obtain ⟨rfl, rfl, tb, hq⟩ := hE
  refine ⟨true, kx.ord x hx, fun _ a ha => ?_, fun z => by cases z⟩
  obtain ⟨y0, y1, y2, y3, y4, rfl⟩ : ∃ y0 y1 y2 y3 y4, σ' = [y0, y1, y2, y3, y4] := by
    match σ', hlen with
    | [y0, y1, y2, y3, y4], _ => exact ⟨_, _, _, _, _, rfl⟩
  refine ⟨rfl, ?_⟩
  have dc : ∀ H, Dc none H := fun _ _ z => by cases z
  refine ⟨rfl, dc _, fun L hL => ?_⟩
  have S0 := SI.start (T := T) (xs := ([decide (x = "DuplicateName"), decide (x = "Endless"), decide (x = "InvalidAmount")] : List Bool).map V.bl) tb hL
  generalize hH0 : upd H' L _ = G0 at S0 ⊢
  refine ⟨_, rfl, S0.ty, rfl, dc _, fun L0 n0 => ⟨L, L0, _, _, rfl, rfl, S0.nx n0, upd_same, le17 (Nat.le_of_ble_eq_true rfl), ?_⟩⟩
  have S1 := S0.step (zs := ([decide (x = "InvalidCount"), decide (x = "InvalidName"), decide (x = "InvalidOperation")] : List Bool).map V.bl) n0
  generalize hH1 : upd (upd G0 L0 _) L _ = G1 at S1 ⊢
  refine ⟨_, rfl, S1.ty, rfl, dc _, fun L1 n1 => ⟨L, L1, _, _, rfl, rfl, S1.nx n1, upd_same, le17 (Nat.le_of_ble_eq_true rfl), ?_⟩⟩
  have S2 := S1.step (zs := ([decide (x = "InvalidOrder"), decide (x = "InvalidText"), decide (x = "NotEmpty")] : List Bool).map V.bl) n1
  generalize hH2 : upd (upd G1 L1 _) L _ = G2 at S2 ⊢
  refine ⟨_, rfl, S2.ty, rfl, dc _, fun L2 n2 => ⟨L, L2, _, _, rfl, rfl, S2.nx n2, upd_same, le17 (Nat.le_of_ble_eq_true rfl), ?_⟩⟩
  have S3 := S2.step (zs := ([decide (x = "Overdrawn"), decide (x = "SameAccount"), decide (x = "TooManyAccounts")] : List Bool).map V.bl) n2
  generalize hH3 : upd (upd G2 L2 _) L _ = G3 at S3 ⊢
  refine ⟨_, rfl, S3.ty, rfl, dc _, fun L3 n3 => ⟨L, L3, _, _, rfl, rfl, S3.nx n3, upd_same, le17 (Nat.le_of_ble_eq_true rfl), ?_⟩⟩
  have S4 := S3.step (zs := ([decide (x = "TooManyOrders"), decide (x = "UnknownAccount"), decide (x = "UnknownKind")] : List Bool).map V.bl) n3
  generalize hH4 : upd (upd G3 L3 _) L _ = G4 at S4 ⊢
  refine ⟨_, rfl, S4.ty, rfl, dc _, fun L4 n4 => ⟨L, L4, _, _, rfl, rfl, S4.nx n4, upd_same, le17 (Nat.le_of_ble_eq_true rfl), ?_⟩⟩
  have S5 := S4.step (zs := ([decide (x = "UnknownOrder"), decide (x = "WrongDay")] : List Bool).map V.bl) n4
  generalize hH5 : upd (upd G4 L4 _) L _ = G5 at S5 ⊢
  rcases hxw with ⟨rfl, rfl⟩ | ⟨rfl, rfl⟩
  · refine ⟨_, rfl, S5.ty, L, _, .bl true, rfl, rfl, .of S5.at_, rfl, rfl, rfl, _, rfl, ?_⟩
    refine ite2 (fun h => absurd h (by decide)) (fun _ => ?_)
    refine ⟨rfl, dc _, true, rfl, ?_⟩
    refine ite2 (fun h => absurd h (by decide)) (fun _ => ?_)
    refine ⟨_, rfl, _, _, rfl, rfl, by decide, ⟨_, rfl⟩, _, _, rfl, rfl, by decide, by decide, fun W hW => ?_⟩
    have S6 := S5.new (M := W) (o := .lst ((Txt.split (("duplicate endless amount count name operation order text notempty overdrawn same accounts orders" : Str) ++ (" account kind number day" : Str)) (" " : Str)).map V.str)) hW
    refine ⟨_, rfl, S6.ty, L, _, .bl true, 1, _, rfl, rfl, .of S6.at_, rfl, rfl, rfl, rfl, first_no rfl, ?_⟩
    refine ⟨W, _, _, .str "endless", rfl, rfl, .of upd_same, split_word 1 _ rfl, ?_⟩
    generalize hH6 : upd G5 W _ = G6 at S6 ⊢
    refine ⟨_, rfl, rfl, _, rfl, ?_⟩
    refine ite2 (fun h => absurd h (by decide)) (fun _ => ?_)
    refine ⟨_, rfl, le17 (by decide), fun W1 n1 => ⟨W1, _, rfl, .inr (.of upd_same), rfl, rfl, _, rfl, ?_⟩⟩
    refine ite2 (fun h => absurd h (by decide)) (fun _ => ?_)
    have S7 := S6.new (o := .tup [V.str "duplicate", V.str "name", V.str "account"]) n1
    generalize hH7 : upd G6 W1 _ = G7 at S7 ⊢
    refine ⟨_, rfl, le17 (by decide), fun W2 n2 => ⟨W2, _, rfl, .inr (.of upd_same), rfl, rfl, _, rfl, ?_⟩⟩
    refine ite2 (fun h => absurd h (by decide)) (fun _ => ?_)
    have S8 := S7.new (o := .tup [V.str "operation", V.str "order"]) n2
    generalize hH8 : upd G7 W2 _ = G8 at S8 ⊢
    refine ⟨_, rfl, rfl, _, rfl, ?_⟩
    refine ite2 (fun h => absurd h (by decide)) (fun _ => ?_)
    exact ⟨_, rfl, le17 (by decide), fun t ht => hq t _ (S8.gr.new ht) (S8.gr.nn ht) upd_same⟩
  · refine ⟨_, rfl, S5.ty, L, _, .bl true, rfl, rfl, .of S5.at_, rfl, rfl, rfl, _, rfl, ?_⟩
    refine ite2 (fun h => absurd h (by decide)) (fun _ => ?_)
    refine ⟨rfl, dc _, true, rfl, ?_⟩
    refine ite2 (fun h => absurd h (by decide)) (fun _ => ?_)
    refine ⟨_, rfl, _, _, rfl, rfl, by decide, ⟨_, rfl⟩, _, _, rfl, rfl, by decide, by decide, fun W hW => ?_⟩
    have S6 := S5.new (M := W) (o := .lst ((Txt.split (("duplicate endless amount count name operation order text notempty overdrawn same accounts orders" : Str) ++ (" account kind number day" : Str)) (" " : Str)).map V.str)) hW
    refine ⟨_, rfl, S6.ty, L, _, .bl true, 2, _, rfl, rfl, .of S6.at_, rfl, rfl, rfl, rfl, first_no rfl, ?_⟩
    refine ⟨W, _, _, .str "amount", rfl, rfl, .of upd_same, split_word 2 _ rfl, ?_⟩
    generalize hH6 : upd G5 W _ = G6 at S6 ⊢
    refine ⟨_, rfl, rfl, _, rfl, ?_⟩
    refine ite2 (fun h => absurd h (by decide)) (fun _ => ?_)
    refine ⟨_, rfl, le17 (by decide), fun W1 n1 => ⟨W1, _, rfl, .inr (.of upd_same), rfl, rfl, _, rfl, ?_⟩⟩
    refine ite2 (fun h => absurd h (by decide)) (fun _ => ?_)
    have S7 := S6.new (o := .tup [V.str "duplicate", V.str "name", V.str "account"]) n1
    generalize hH7 : upd G6 W1 _ = G7 at S7 ⊢
    refine ⟨_, rfl, le17 (by decide), fun W2 n2 => ⟨W2, _, rfl, .inr (.of upd_same), rfl, rfl, _, rfl, ?_⟩⟩
    refine ite2 (fun h => absurd h (by decide)) (fun _ => ?_)
    have S8 := S7.new (o := .tup [V.str "operation", V.str "order"]) n2
    generalize hH8 : upd G7 W2 _ = G8 at S8 ⊢
    refine ⟨_, rfl, rfl, _, rfl, ?_⟩
    refine ite2 (fun h => absurd h (by decide)) (fun _ => ?_)
    exact ⟨_, rfl, le17 (by decide), fun t ht => hq t _ (S8.gr.new ht) (S8.gr.nn ht) upd_same⟩
theorem out_ua {g : Addr} {cdg : Value} {q : Str} (kn : Kn X.K X.mg) (kx : Kx X.K) (ky : Ky X.K) :
    LamX.GivesTo X outN "_law_outcome" (defScope s__law_outcome) g cdg (defBody s__law_outcome) "_law_call" q (TTua X.K T) := by
  have hx : ("UnknownAccount" : Str) ∈ excN := by decide
  have m1 := kn.free "isinstance"
  have h3 : 3 ≤ sizeLine := by decide
  have h2 : 2 ≤ sizeLine := by decide
  have mv := kn.free "ValueError"
  have nd := sc__law_outcome.nd
  intro f c' s H Q tl act hc h
  refine ⟨_, pss_one (ps_try_as (i := 1) (c := .ref (ga X.K "OrderError")) (tb := tbOut f c' q tl) rfl rfl nd rfl rfl ⟨rfl, by decide, .inl (kn.glo "OrderError")⟩ LamX.takes0
    (fun W pn xe tk _ => ⟨fun pins s' σ H' D I h' => by
      obtain ⟨Ech, hW, h1, h2, h3⟩ := h'
      exact (pss_one (ps_ret (pe_tup (pa_cons pe_str (pa_cons (act _ pn xe Ech _ _ (takes_len tk) hW) pa_nil))))).run pins s' σ H' D I ⟨h1, h2, h3⟩⟩)
    (fun a oe cls d pn hz hf => pss_kind (C := ga X.K "UnknownAccount") hz fun hz => (pss_cons (ps_set (i := 2) nd rfl (.inl rfl) (pe_isl (pis_cons (X := outX X g cdg s H) (ky.exc "UnknownAccount" hx) (ky.kit "UnknownAccount" hx "DuplicateName" (by decide)) hz hf m1 (kn.glo "DuplicateName") (pis_cons (X := outX X g cdg s H) (ky.exc "UnknownAccount" hx) (ky.kit "UnknownAccount" hx "Endless" (by decide)) hz hf m1 (kn.glo "Endless") (pis_cons (X := outX X g cdg s H) (ky.exc "UnknownAccount" hx) (ky.kit "UnknownAccount" hx "InvalidAmount" (by decide)) hz hf m1 (kn.glo "InvalidAmount") pis_nil))) h3))
      (pss_cons (ps_expr (pe_bmK (K := X.K) rfl PySem.F.plainAttrs_list PySem.F.slot_list_extend PySem.F.type_list_extend mt_extend (pv 2) (pa_cons (pe_isl (pis_cons (X := outX X g cdg s H) (ky.exc "UnknownAccount" hx) (ky.kit "UnknownAccount" hx "InvalidCount" (by decide)) hz hf m1 (kn.glo "InvalidCount") (pis_cons (X := outX X g cdg s H) (ky.exc "UnknownAccount" hx) (ky.kit "UnknownAccount" hx "InvalidName" (by decide)) hz hf m1 (kn.glo "InvalidName") (pis_cons (X := outX X g cdg s H) (ky.exc "UnknownAccount" hx) (ky.kit "UnknownAccount" hx "InvalidOperation" (by decide)) hz hf m1 (kn.glo "InvalidOperation") pis_nil))) h3) pa_nil)))
      (pss_cons (ps_expr (pe_bmK (K := X.K) rfl PySem.F.plainAttrs_list PySem.F.slot_list_extend PySem.F.type_list_extend mt_extend (pv 2) (pa_cons (pe_isl (pis_cons (X := outX X g cdg s H) (ky.exc "UnknownAccount" hx) (ky.kit "UnknownAccount" hx "InvalidOrder" (by decide)) hz hf m1 (kn.glo "InvalidOrder") (pis_cons (X := outX X g cdg s H) (ky.exc "UnknownAccount" hx) (ky.kit "UnknownAccount" hx "InvalidText" (by decide)) hz hf m1 (kn.glo "InvalidText") (pis_cons (X := outX X g cdg s H) (ky.exc "UnknownAccount" hx) (ky.kit "UnknownAccount" hx "NotEmpty" (by decide)) hz hf m1 (kn.glo "NotEmpty") pis_nil))) h3) pa_nil)))
      (pss_cons (ps_expr (pe_bmK (K := X.K) rfl PySem.F.plainAttrs_list PySem.F.slot_list_extend PySem.F.type_list_extend mt_extend (pv 2) (pa_cons (pe_isl (pis_cons (X := outX X g cdg s H) (ky.exc "UnknownAccount" hx) (ky.kit "UnknownAccount" hx "Overdrawn" (by decide)) hz hf m1 (kn.glo "Overdrawn") (pis_cons (X := outX X g cdg s H) (ky.exc "UnknownAccount" hx) (ky.kit "UnknownAccount" hx "SameAccount" (by decide)) hz hf m1 (kn.glo "SameAccount") (pis_cons (X := outX X g cdg s H) (ky.exc "UnknownAccount" hx) (ky.kit "UnknownAccount" hx "TooManyAccounts" (by decide)) hz hf m1 (kn.glo "TooManyAccounts") pis_nil))) h3) pa_nil)))
      (pss_cons (ps_expr (pe_bmK (K := X.K) rfl PySem.F.plainAttrs_list PySem.F.slot_list_extend PySem.F.type_list_extend mt_extend (pv 2) (pa_cons (pe_isl (pis_cons (X := outX X g cdg s H) (ky.exc "UnknownAccount" hx) (ky.kit "UnknownAccount" hx "TooManyOrders" (by decide)) hz hf m1 (kn.glo "TooManyOrders") (pis_cons (X := outX X g cdg s H) (ky.exc "UnknownAccount" hx) (ky.kit "UnknownAccount" hx "UnknownAccount" (by decide)) hz hf m1 (kn.glo "UnknownAccount") (pis_cons (X := outX X g cdg s H) (ky.exc "UnknownAccount" hx) (ky.kit "UnknownAccount" hx "UnknownKind" (by decide)) hz hf m1 (kn.glo "UnknownKind") pis_nil))) h3) pa_nil)))
      (pss_cons (ps_expr (pe_bmK (K := X.K) rfl PySem.F.plainAttrs_list PySem.F.slot_list_extend PySem.F.type_list_extend mt_extend (pv 2) (pa_cons (pe_isl (pis_cons (X := outX X g cdg s H) (ky.exc "UnknownAccount" hx) (ky.kit "UnknownAccount" hx "UnknownOrder" (by decide)) hz hf m1 (kn.glo "UnknownOrder") (pis_cons (X := outX X g cdg s H) (ky.exc "UnknownAccount" hx) (ky.kit "UnknownAccount" hx "WrongDay" (by decide)) hz hf m1 (kn.glo "WrongDay") pis_nil)) h2) pa_nil)))
      (pss_cons (ps_if (PW.pt (pw_or (pt_cmpR op_ne (pe_bmK (K := X.K) rfl PySem.F.plainAttrs_list PySem.F.slot_list_count PySem.F.type_list_count (mt_countK (K := X.K) rfl) (pv 2) (pa_cons pe_bl pa_nil)) pe_int (nomark _)) (pw_or1 (pt_not (pt_val (pe_isv (X := outX X g cdg s H) (ky.exc "UnknownAccount" hx) (ky.kitV "UnknownAccount" hx) hz hf m1 mv)))))) (pss_one ps_never) pss_nil)
      (pss_cons (ps_set (i := 3) nd rfl (.inl rfl) pe_str)
      (pss_cons (ps_set (i := 4) nd rfl (.inl rfl) (pe_ix (ix_listK (K := X.K) rfl) (pe_split (pe_op op_add_str (pv 3) pe_str) pe_str) (pe_bmK (K := X.K) rfl PySem.F.plainAttrs_list PySem.F.slot_list_index PySem.F.type_list_index (mt_indexK (K := X.K) rfl) (pv 2) (pa_cons pe_bl pa_nil)) (fun _ _ => rfl)))
      (pss_cons (ps_if (pt_cmpR op_eq (pv 4) pe_str (nomark _)) (pss_one ps_never) pss_nil)
      (pss_cons (ps_if (pt_cmpR (op_inK (K := X.K) rfl) (pv 4) (pe_tup (pa_cons pe_str (pa_cons pe_str (pa_cons pe_str pa_nil)))) (by with_unfolding_all rfl)) (pss_one (ps_ret (pe_tup (pa_cons (pv 4) (pa_cons (pe_xf (X := outX X g cdg s H) ky.xf ky.noN hz hf (pv 1)) pa_nil))))) pss_nil)
      (pss_cons (ps_if (pt_cmpR (op_inK (K := X.K) rfl) (pv 4) (pe_tup (pa_cons pe_str (pa_cons pe_str pa_nil))) (by with_unfolding_all rfl)) (pss_one ps_never) pss_nil)
      (pss_one (ps_ret (pe_ifExp (pt_cmpR op_eq (pv 4) pe_str (nomark _)) pe_never (pe_tup (pa_cons (pv 4) pa_nil))))))))))))))))))), ?_⟩
  refine ⟨Eua X.K T Q, fun cls d σ' H' hE hlen => ?_, rfl, hc, h⟩
  obtain ⟨rfl, ⟨dd, rfl, hdd⟩, tb, hq⟩ := hE
  refine ⟨true, kx.ord "UnknownAccount" hx, fun _ a ha => ?_, fun z => by cases z⟩
  obtain ⟨y0, y1, y2, y3, y4, rfl⟩ : ∃ y0 y1 y2 y3 y4, σ' = [y0, y1, y2, y3, y4] := by
    match σ', hlen with
    | [y0, y1, y2, y3, y4], _ => exact ⟨_, _, _, _, _, rfl⟩
  refine ⟨rfl, ?_⟩
  have dc : ∀ G, Gr T H' G → Dc (some dd) G := fun G g e z => ⟨_, by cases z; exact g.get hdd⟩
  refine ⟨rfl, dc _ (Gr.refl tb), fun L hL => ?_⟩
  have S0 := SI.start (T := T) (xs := ([decide (("UnknownAccount" : Str) = "DuplicateName"), decide (("UnknownAccount" : Str) = "Endless"), decide (("UnknownAccount" : Str) = "InvalidAmount")] : List Bool).map V.bl) tb hL
  generalize hH0 : upd H' L _ = G0 at S0 ⊢
  refine ⟨_, rfl, S0.ty, rfl, dc _ S0.gr, fun L0 n0 => ⟨L, L0, _, _, rfl, rfl, S0.nx n0, upd_same, le17 (Nat.le_of_ble_eq_true rfl), ?_⟩⟩
  have S1 := S0.step (zs := ([decide (("UnknownAccount" : Str) = "InvalidCount"), decide (("UnknownAccount" : Str) = "InvalidName"), decide (("UnknownAccount" : Str) = "InvalidOperation")] : List Bool).map V.bl) n0
  generalize hH1 : upd (upd G0 L0 _) L _ = G1 at S1 ⊢
  refine ⟨_, rfl, S1.ty, rfl, dc _ S1.gr, fun L1 n1 => ⟨L, L1, _, _, rfl, rfl, S1.nx n1, upd_same, le17 (Nat.le_of_ble_eq_true rfl), ?_⟩⟩
  have S2 := S1.step (zs := ([decide (("UnknownAccount" : Str) = "InvalidOrder"), decide (("UnknownAccount" : Str) = "InvalidText"), decide (("UnknownAccount" : Str) = "NotEmpty")] : List Bool).map V.bl) n1
  generalize hH2 : upd (upd G1 L1 _) L _ = G2 at S2 ⊢
  refine ⟨_, rfl, S2.ty, rfl, dc _ S2.gr, fun L2 n2 => ⟨L, L2, _, _, rfl, rfl, S2.nx n2, upd_same, le17 (Nat.le_of_ble_eq_true rfl), ?_⟩⟩
  have S3 := S2.step (zs := ([decide (("UnknownAccount" : Str) = "Overdrawn"), decide (("UnknownAccount" : Str) = "SameAccount"), decide (("UnknownAccount" : Str) = "TooManyAccounts")] : List Bool).map V.bl) n2
  generalize hH3 : upd (upd G2 L2 _) L _ = G3 at S3 ⊢
  refine ⟨_, rfl, S3.ty, rfl, dc _ S3.gr, fun L3 n3 => ⟨L, L3, _, _, rfl, rfl, S3.nx n3, upd_same, le17 (Nat.le_of_ble_eq_true rfl), ?_⟩⟩
  have S4 := S3.step (zs := ([decide (("UnknownAccount" : Str) = "TooManyOrders"), decide (("UnknownAccount" : Str) = "UnknownAccount"), decide (("UnknownAccount" : Str) = "UnknownKind")] : List Bool).map V.bl) n3
  generalize hH4 : upd (upd G3 L3 _) L _ = G4 at S4 ⊢
  refine ⟨_, rfl, S4.ty, rfl, dc _ S4.gr, fun L4 n4 => ⟨L, L4, _, _, rfl, rfl, S4.nx n4, upd_same, le17 (Nat.le_of_ble_eq_true rfl), ?_⟩⟩
  have S5 := S4.step (zs := ([decide (("UnknownAccount" : Str) = "UnknownOrder"), decide (("UnknownAccount" : Str) = "WrongDay")] : List Bool).map V.bl) n4
  generalize hH5 : upd (upd G4 L4 _) L _ = G5 at S5 ⊢
  refine ⟨_, rfl, S5.ty, L, _, .bl true, rfl, rfl, .of S5.at_, rfl, rfl, rfl, _, rfl, ?_⟩
  refine ite2 (fun h => absurd h (by decide)) (fun _ => ?_)
  refine ⟨rfl, dc _ S5.gr, true, rfl, ?_⟩
  refine ite2 (fun h => absurd h (by decide)) (fun _ => ?_)
  refine ⟨_, rfl, _, _, rfl, rfl, by decide, ⟨_, rfl⟩, _, _, rfl, rfl, by decide, by decide, fun W hW => ?_⟩
  have S6 := S5.new (M := W) (o := .lst ((Txt.split (("duplicate endless amount count name operation order text notempty overdrawn same accounts orders" : Str) ++ (" account kind number day" : Str)) (" " : Str)).map V.str)) hW
  refine ⟨_, rfl, S6.ty, L, _, .bl true, 13, _, rfl, rfl, .of S6.at_, rfl, rfl, rfl, rfl, first_no rfl, ?_⟩
  refine ⟨W, _, _, .str "account", rfl, rfl, .of upd_same, split_word 13 _ rfl, ?_⟩
  generalize hH6 : upd G5 W _ = G6 at S6 ⊢
  refine ⟨_, rfl, rfl, _, rfl, ?_⟩
  refine ite2 (fun h => absurd h (by decide)) (fun _ => ?_)
  refine ⟨_, rfl, le17 (by decide), fun W1 n1 => ⟨W1, _, rfl, .inr (.of upd_same), rfl, rfl, _, rfl, ?_⟩⟩
  refine ite2 (fun _ => ?_) (fun h => absurd rfl h)
  have S7 := S6.new (o := .tup [V.str "duplicate", V.str "name", V.str "account"]) n1
  generalize hH7 : upd G6 W1 _ = G7 at S7 ⊢
  refine ⟨_, rfl, _, rfl, rfl, rfl, dd, _, .str alS, rfl, S7.gr.get hdd, rfl, le17 (by decide), fun t ht => hq t _ (S7.gr.new ht) (S7.gr.nn ht) upd_same⟩
end
end So
end
section
set_option maxHeartbeats 8000000
/-! Lambdas as values. -/
namespace So
open PySem PySem.Spec PyProof.Rows L2 He LamX
/-- a lambda's function data, dV its defaults -/
abbrev lamFd (qual : Str) (params : Arguments) (body : Expr) (scope : Scope) (cl : List (Str × Addr)) (pm dV : Value) (c' : Addr) (ctv : Value) : FuncData :=
  { name := "<lambda>", qualname := qual, params, body := .expr body, scope, globals := mainGlobals, closure := cl, defaults := dV, kwdefaults := .none, doc := .none, pyModule := pm, annotations := none, code := .ref c', closureTuple := ctv, builtins := builtinsNs }
abbrev lamObj (qual : Str) (params : Arguments) (body : Expr) (scope : Scope) (cl : List (Str × Addr)) (pm dV : Value) (c' : Addr) (ctv : Value) : Obj :=
  { cls := .type "function", data := .func (lamFd qual params body scope cl pm dV c' ctv) }
def LamO (f : Addr) (qual : Str) (params : Arguments) (body : Expr) (scope : Scope) (cl : List (Str × Addr)) (dV : Value) (c' : Addr) : HO :=
  .ext fun h => ∃ pm ctv, h.get? f = some (lamObj qual params body scope cl pm dV c' ctv)
section
variable {M : Model} {A : Around} {E : Value → Shared → Prop} {s : Shared} {qual : Str} {params : Arguments} {body : Expr} {scope : Scope} {env : Env} {c P : Addr} {ps : Array Value} {pos : Pos} {firstLine : Nat} {mg : Str → Option Value}
  {clos : List (Str × Addr)} {Q : Value → Shared → Prop} {dV : Value}
theorem tailNew (hcl : closureFor scope env = pure clos) (hge0 : env.globals = mainGlobals) (hg : s.heap.Ns mainGlobals mg) (hcode : env.code = .ref c) (C : PySem.W.CodeHd s.heap c P) (hP : s.heap.get? P = some (PySem.W.tabObj ps)) (ht : TriplesOk ps.toList)
    (hnf : codeAmong pos ps.toList = none) (hgP : mainGlobals ≠ P) (hb : s.heap.BuiltinsAt mg P)
    (h : ∀ c' ctv h' tk, Heap.ExtBut P s.heap h' → s.heap.objs.size ≤ c' → c' < h'.objs.size → h'.CodeRec (.ref c') qual → h'.get? P = some (PySem.W.tabObj (ps ++ #[rawInt pos.line, rawInt pos.col, .ref c'])) →
      Q (.ref h'.objs.size) { s with heap := h'.push (lamObj qual params body scope clos ((mg "__name__").getD .none) dV c' ctv), toks := tk }) :
    wpAny M A (makeTail "<lambda>" qual params (.expr body) scope env dV .none none pos firstLine) Q E s := by
  obtain ⟨bm, ob, hbm, hne0, _, hneP, hbo, hcls, hdict, hdata⟩ := hb
  unfold makeTail
  rw [hcl, hge0]
  refine wpAny_bind (wpAny_pure ?_)
  cases clos with
  | nil =>
    simp only [List.isEmpty_nil, if_true]
    refine wpAny_bind (wpAny_pure ?_)
    refine wpAny_bind (wpAny_functionCodeX hcode (C.code hP ht) (C.tab hP) hnf fun c' h' tk hx hge hlt _ hrec htb _ => ?_)
    have hg' := hg.extBut hx hgP
    refine wpAny_bind (wpAny_builtinsFor hg' hbm hne0 (hx _ _ hneP hbo) hcls hdict hdata ?_)
    refine wpAny_bind (wpAny_nsGet hg' ?_)
    exact wpAny_bind (wpAny_pure (wpAny_newObj_type (h c' .none h' tk hx hge hlt hrec htb.2) (by size_fits)))
  | cons q r =>
    simp only [List.isEmpty_cons, Bool.false_eq_true, if_false]
    refine wpAny_bind (wpAny_newTextTuple ?_)
    refine wpAny_bind (wpAny_functionCodeX hcode ((C.keeps fun b o e => Heap.get?_push_of_some _ e).code (Heap.get?_push_of_some _ hP) ht) ((C.keeps fun b o e => Heap.get?_push_of_some _ e).tab (Heap.get?_push_of_some _ hP)) hnf fun c' h' tk hx hge hlt _ hrec htb _ => ?_)
    have hg' := (hg.push _).extBut hx hgP
    have hx' : Heap.ExtBut P s.heap h' := fun b o hb' e => hx b o hb' (Heap.get?_push_of_some _ e)
    have hge' : s.heap.objs.size ≤ c' := Nat.le_trans (by rw [Heap.size_push]; omega) hge
    refine wpAny_bind (wpAny_builtinsFor hg' hbm hne0 (hx' _ _ hneP hbo) hcls hdict hdata ?_)
    refine wpAny_bind (wpAny_nsGet hg' ?_)
    exact wpAny_bind (wpAny_pure (wpAny_newObj_type (h c' _ h' tk hx' hge' hlt hrec htb.2) (by size_fits)))
theorem tailHit {c' : Addr} (hcl : closureFor scope env = pure clos) (hge0 : env.globals = mainGlobals) (hg : s.heap.Ns mainGlobals mg) (hcode : env.code = .ref c) (C : PySem.W.CodeHd s.heap c P) (hP : s.heap.get? P = some (PySem.W.tabObj ps)) (ht : TriplesOk ps.toList)
    (hf : codeAmong pos ps.toList = some (.ref c')) (hb : s.heap.BuiltinsAt mg P)
    (h : ∀ (ctv : Value) (h' : Heap) (tk : Tok), (∀ b o, s.heap.get? b = some o → h'.get? b = some o) → s.heap.objs.size ≤ h'.objs.size →
      Q (.ref h'.objs.size) { s with heap := h'.push (lamObj qual params body scope clos ((mg "__name__").getD .none) dV c' ctv), toks := tk }) :
    wpAny M A (makeTail "<lambda>" qual params (.expr body) scope env dV .none none pos firstLine) Q E s := by
  obtain ⟨bm, ob, hbm, hne0, _, hneP, hbo, hcls, hdict, hdata⟩ := hb
  unfold makeTail
  rw [hcl, hge0]
  refine wpAny_bind (wpAny_pure ?_)
  cases clos with
  | nil =>
    simp only [List.isEmpty_nil, if_true]
    refine wpAny_bind (wpAny_pure ?_)
    refine wpAny_bind (wpAny_functionCode_hit hcode (C.code hP ht) hf ?_)
    refine wpAny_bind (wpAny_builtinsFor hg hbm hne0 hbo hcls hdict hdata ?_)
    refine wpAny_bind (wpAny_nsGet hg ?_)
    exact wpAny_bind (wpAny_pure (wpAny_newObj_type (h .none s.heap s.toks (fun _ _ e => e) (Nat.le_refl _)) (by size_fits)))
  | cons q r =>
    simp only [List.isEmpty_cons, Bool.false_eq_true, if_false]
    refine wpAny_bind (wpAny_newTextTuple ?_)
    refine wpAny_bind (wpAny_functionCode_hit hcode ((C.keeps fun b o e => Heap.get?_push_of_some _ e).code (Heap.get?_push_of_some _ hP) ht) hf ?_)
    refine wpAny_bind (wpAny_builtinsFor (hg.push _) hbm hne0 (Heap.get?_push_of_some _ hbo) hcls hdict hdata ?_)
    refine wpAny_bind (wpAny_nsGet (hg.push _) ?_)
    have hsz : ∀ oT : Obj, s.heap.objs.size ≤ (s.heap.push oT).objs.size := fun oT => by rw [Heap.size_push]; omega
    exact wpAny_bind (wpAny_pure (wpAny_newObj_type (h _ _ s.toks (fun b o e => Heap.get?_push_of_some _ e) (hsz _)) (by size_fits)))
end
section
variable {X : Cx} {pins : List (Addr × Obj)} {σ : L2.St} {H : Hp} {s : Shared}
theorem lamO_ok {P : Program} {w : World} {H' : Hp} {h : Heap} {f c' : Addr} {qual : Str} {params : Arguments} {body : Expr} {scope : Scope} {cl : List (Str × Addr)} {pm dV ctv : Value} (e : h.get? f = some (lamObj qual params body scope cl pm dV c' ctv)) :
    ObjOk P w H' h f (LamO f qual params body scope cl dV c') :=
  ⟨⟨pm, ctv, e⟩, ⟨_, e⟩, fun h1 h2 ⟨pm, ctv, z⟩ st => ⟨pm, ctv, st _ z⟩⟩
/-- the lambda is made and known -/
theorem lam_make3 {T : List (Addr × Str)} {c P : Addr} {params : Arguments} {body : Expr} {scope : Scope} {pos : Pos} {firstLine : Nat} {E : Value → Shared → Prop} {Q : Value → Shared → Prop} {dV : Value} (I : Inv X pins σ H s) (TB : TabB X.base X.mg c P) (hcode : X.env.code = .ref c)
    (hm : (P, X.env.qual ++ "<lambda>") ∈ T) (hu : ∀ p ∈ T, p.1 = P → p.2 = X.env.qual ++ "<lambda>") (hT : Tabs T H) (hfree : ∀ y ∈ scope.names, y.2 = .free → ∃ c, X.env.cells.lookup y.1 = some c)
    (h : ∀ (f c' : Addr) (H1 : Hp) (s' : Shared), Inv X pins σ H1 s' → (∀ b o, b ≠ P → H b = some o → H1 b = some o) → Tabs T H1 → (∀ b o, H b = some o → ∃ o', H1 b = some o') → H f = none →
      H1 f = some (LamO f (X.env.qual ++ "<lambda>") params body scope (cloFrom X.env.cells scope.names []) dV c') → H1 c' = some (CodeO c' (X.env.qual ++ "<lambda>")) → Q (.ref f) s') :
    wpAny (model X.prog X.w) X.A (makeTail "<lambda>" (X.env.qual ++ "<lambda>") params (.expr body) scope X.env dV .none none pos firstLine) Q E s := by
  obtain ⟨ps, hP, ht, ha⟩ := hT _ hm
  have bP : s.heap.BuiltinsAt X.mg P := TB.bm.keeps I.bk
  have hP' : s.heap.get? P = some { cls := .none, data := .fields ps } := I.hok P _ hP
  cases hc : codeAmong pos ps.toList with
  | none =>
    refine tailNew (mg := X.mg) (c := c) (P := P) (ps := ps) (closure_ok hfree) I.ok.glob (I.mod.glob.keeps I.bk) hcode (TB.code.keeps I.bk) hP' ht hc TB.gP bP fun c' ctv h' tk hx hge hlt hrec htb => ?_
    obtain ⟨c2, oc, vs, t, e2, hoc, hd, hv⟩ := hrec
    cases e2
    have hsz : s.heap.objs.size ≤ h'.objs.size := Nat.le_trans hge (Nat.le_of_lt hlt)
    have nC : H c' = none := I.hok.fresh hge
    have I1 := inv_table (t' := tk) (more := #[rawInt pos.line, rawInt pos.col, .ref c']) (h' := h') I hP (fun b o hb e => hx b o hb e) htb hge ⟨oc, vs, t, hoc, hd, hv⟩
    have hE : ExtN H (upd (upd H P (.tbl (ps ++ #[rawInt pos.line, rawInt pos.col, .ref c']))) c' (CodeO c' (X.env.qual ++ "<lambda>"))) := fun b o e n => by
      rw [upd_ne (ne_of_none e nC), upd_ne (fun z => n ps (Option.some.inj (e.symm.trans (by rw [z]; exact hP))))]
      exact e
    have eL : (ps ++ #[rawInt pos.line, rawInt pos.col, .ref c']).toList = ps.toList ++ [rawInt pos.line, rawInt pos.col, .ref c'] := by simp
    have hT1 : Tabs T (upd (upd H P (.tbl (ps ++ #[rawInt pos.line, rawInt pos.col, .ref c']))) c' (CodeO c' (X.env.qual ++ "<lambda>"))) := fun p hp => by
      by_cases hb : p.1 = P
      · rw [hu p hp hb, hb]
        refine ⟨_, by rw [upd_ne (ne_of_none hP nC), upd_same], by rw [eL]; exact PySem.TriplesOk_snoc _ _ _ _ ht, fun p' cv hcv => ?_⟩
        rw [eL] at hcv
        rcases among_app _ ht hcv with z | z
        · obtain ⟨c0, e1, e2⟩ := ha p' cv z
          exact ⟨c0, e1, hE _ _ e2 codeO_ne⟩
        · exact ⟨c', z, upd_same⟩
      · obtain ⟨ps', a1, a2, a3⟩ := hT p hp
        refine ⟨ps', by rw [upd_ne (ne_of_none a1 nC), upd_ne hb]; exact a1, a2, fun p' cv hcv => ?_⟩
        obtain ⟨c0, e1, e2⟩ := a3 p' cv hcv
        exact ⟨c0, e1, hE _ _ e2 codeO_ne⟩
    have kp : ∀ b o, b ≠ P → H b = some o → upd (upd H P (.tbl (ps ++ #[rawInt pos.line, rawInt pos.col, .ref c']))) c' (CodeO c' (X.env.qual ++ "<lambda>")) b = some o := fun b o n e => by
      rw [upd_ne (ne_of_none e nC), upd_ne n]
      exact e
    have th : ∀ b o, H b = some o → ∃ o', upd (upd H P (.tbl (ps ++ #[rawInt pos.line, rawInt pos.col, .ref c']))) c' (CodeO c' (X.env.qual ++ "<lambda>")) b = some o' := fun b o e => by
      obtain ⟨o1, e1⟩ := upd_there (p := P) (o := .tbl (ps ++ #[rawInt pos.line, rawInt pos.col, .ref c'])) b o e
      exact upd_there b o1 e1
    generalize hG : upd (upd H P (.tbl (ps ++ #[rawInt pos.line, rawInt pos.col, .ref c']))) c' (CodeO c' (X.env.qual ++ "<lambda>")) = G at I1 hE hT1 th kp
    have eC : G c' = some (CodeO c' (X.env.qual ++ "<lambda>")) := by rw [← hG]; exact upd_same
    have nF : G h'.objs.size = none := I1.hok.fresh (Nat.le_refl _)
    have I2 := I1.laid (t' := tk) (a := h'.objs.size) (o := LamO h'.objs.size (X.env.qual ++ "<lambda>") params body scope (cloFrom X.env.cells scope.names []) dV c') (h' := h'.push (lamObj (X.env.qual ++ "<lambda>") params body scope (cloFrom X.env.cells scope.names []) ((X.mg "__name__").getD .none) dV c' ctv))
      (fun b o e => Heap.get?_push_of_some _ e) (Nat.le_refl _) (lamO_ok (Heap.get?_push_size _ rfl))
    have ex : ∀ b u, G b = some u → upd G h'.objs.size (LamO h'.objs.size (X.env.qual ++ "<lambda>") params body scope (cloFrom X.env.cells scope.names []) dV c') b = some u := upd_ext nF
    refine h h'.objs.size c' _ _ I2 (fun b o n e => ex _ _ (kp b o n e)) (hT1.ext ex) (fun b o e => let ⟨o', e'⟩ := th b o e; ⟨o', ex _ _ e'⟩) (I.hok.fresh hsz) upd_same (ex _ _ eC)
  | some cv =>
    obtain ⟨c', e, hco⟩ := ha pos cv hc
    subst e
    refine tailHit (mg := X.mg) (c := c) (P := P) (ps := ps) (closure_ok hfree) I.ok.glob (I.mod.glob.keeps I.bk) hcode (TB.code.keeps I.bk) hP' ht hc bP fun ctv h' tk hx hsz => ?_
    have nF : H h'.objs.size = none := I.hok.fresh hsz
    have I2 := I.laid (t' := tk) (a := h'.objs.size) (o := LamO h'.objs.size (X.env.qual ++ "<lambda>") params body scope (cloFrom X.env.cells scope.names []) dV c') (h' := h'.push (lamObj (X.env.qual ++ "<lambda>") params body scope (cloFrom X.env.cells scope.names []) ((X.mg "__name__").getD .none) dV c' ctv))
      (fun b o e => Heap.get?_push_of_some _ (hx b o e)) hsz (lamO_ok (Heap.get?_push_size _ rfl))
    have ex : ∀ b u, H b = some u → upd H h'.objs.size (LamO h'.objs.size (X.env.qual ++ "<lambda>") params body scope (cloFrom X.env.cells scope.names []) dV c') b = some u := upd_ext nF
    exact h h'.objs.size c' _ _ I2 (fun b o _ e => ex _ _ e) (hT.ext ex) (fun b o e => ⟨o, ex _ _ e⟩) nF upd_same (ex _ _ hco)
end
/-! ### as an expression -/
/-- the thing at f is the lambda; dz: it has the default (0,) -/
def IsLam (X : Cx) (params : Arguments) (body : Expr) (scope : Scope) (dz : Bool) (f : Addr) (H : Hp) : Prop :=
  ∃ (c' : Addr) (dV : Value), H f = some (LamO f (X.env.qual ++ "<lambda>") params body scope (cloFrom X.env.cells scope.names []) dV c') ∧ H c' = some (CodeO c' (X.env.qual ++ "<lambda>")) ∧ (dz = false → dV = .none) ∧ (dz = true → ∃ Tp, dV = .ref Tp ∧ H Tp = some (.tup [.int 0]))
theorem IsLam.gr {X : Cx} {T : Wt} {params : Arguments} {body : Expr} {scope : Scope} {dz : Bool} {f : Addr} {H H1 : Hp} (h : IsLam X params body scope dz f H) (g : Gr T H H1) : IsLam X params body scope dz f H1 := by
  obtain ⟨c', dV, h1, h2, h3, h4⟩ := h
  refine ⟨c', dV, g.get h1 (by intro ps z; unfold LamO at z; cases z), g.get h2 codeO_ne, h3, fun z => ?_⟩
  obtain ⟨Tp, e, hT⟩ := h4 z
  exact ⟨Tp, e, g.get hT⟩
def tLamV (X : Cx) (T : Wt) (params : Arguments) (body : Expr) (scope : Scope) (dz : Bool) : TE := fun σ H Q => Tbs T H ∧ ∀ f H1, Gr T H H1 → H f = none → IsLam X params body scope dz f H1 → Q (.ref f) H1
theorem gr_kp {T : Wt} {H H1 : Hp} {P : Addr} {qq : Str} (h : Tbs T H) (hm : (P, qq) ∈ T.lam) (lam : ∀ p ∈ T.lam, p.1 ∉ T.gen) (kp : ∀ b o, b ≠ P → H b = some o → H1 b = some o) (t : Tabs T.lam H1) (th : ∀ b o, H b = some o → ∃ o', H1 b = some o') : Gr T H H1 := by
  have hP : P ∉ T.gen := lam _ hm
  obtain ⟨pp, hp, _⟩ := h.1 _ hm
  refine ⟨fun b o q _ n => kp b o (fun z => ?_) q, ⟨t, fun P' hP' => ?_⟩, th⟩
  · subst z
    rw [hp] at q
    cases q
    exact n _ rfl
  · obtain ⟨ps, h1, h2⟩ := h.2 P' hP'
    exact ⟨ps, kp _ _ (fun z => hP (z ▸ hP')) h1, h2⟩
section
variable {X : Cx} {T : Wt} {c P : Addr} {params : Arguments} {body : Expr} {scope : Scope} {pos : Pos}
/-- lambda: body -/
theorem pe_lam (TB : TabB X.base X.mg c P) (hcode : X.env.code = .ref c) (hm : (P, X.env.qual ++ "<lambda>") ∈ T.lam) (hu : ∀ p ∈ T.lam, p.1 = P → p.2 = X.env.qual ++ "<lambda>") (lam : ∀ p ∈ T.lam, p.1 ∉ T.gen)
    (hfree : ∀ y ∈ scope.names, y.2 = .free → X.env.scope.names.lookup y.1 = some .cell ∨ X.env.scope.names.lookup y.1 = some .free) (hdef : defaultsOf params X.env = ([], [])) : PE X (.Lambda params body scope pos) (tLamV X T params body scope false) := by
  refine ⟨fun pins s σ H Q I h => ?_⟩
  obtain ⟨hT, h⟩ := h
  refine PySem.W.kla_eval hdef ?_
  rw [makeFunction_eq]
  simp only [List.zip_nil_right, List.filterMap_nil, List.isEmpty_nil, if_true, pure_bind]
  refine lam_make3 I TB hcode hm hu hT.1 (fun y hy e => I.ok.has _ (hfree y hy e)) fun f c' H1 s' I1 kp t1 th hf e1 e2 => ?_
  exact ⟨.ref f, H1, I1, rfl, h f H1 (gr_kp hT hm lam kp t1 th) hf ⟨c', _, e1, e2, fun _ => rfl, fun z => by cases z⟩⟩
/-- lambda a=0: body -/
theorem pe_lamD {p0 : Pos} {j0 : Nat} (TB : TabB X.base X.mg c P) (hcode : X.env.code = .ref c) (hm : (P, X.env.qual ++ "<lambda>") ∈ T.lam) (hu : ∀ p ∈ T.lam, p.1 = P → p.2 = X.env.qual ++ "<lambda>") (lam : ∀ p ∈ T.lam, p.1 ∉ T.gen)
    (hfree : ∀ y ∈ scope.names, y.2 = .free → X.env.scope.names.lookup y.1 = some .cell ∨ X.env.scope.names.lookup y.1 = some .free) (hdef : defaultsOf params X.env = ([eval (.Constant (.int 0) j0 p0) X.env], [])) : PE X (.Lambda params body scope pos) (tLamV X T params body scope true) := by
  refine ⟨fun pins s σ H Q I h => ?_⟩
  obtain ⟨hT, h⟩ := h
  rw [arm_eval_Lambda, hdef]
  show wpAny _ _ (do let dv ← evalAll [eval (.Constant (.int 0) j0 p0) X.env]; let kdv ← holding dv (evalAllOpt []); makeFunction "<lambda>" (X.env.qual ++ "<lambda>") params (.expr body) scope X.env dv kdv [] pos pos.line) _ _ _
  refine wpAny_bind ?_
  show wpAny _ _ (do let v ← eval (.Constant (.int 0) j0 p0) X.env; return v :: (← holding [v] (evalAll []))) _ _ _
  refine wpAny_bind (thn ((pe_int (X := X) (i := 0) (pos := p0)).run pins s σ H (fun v H' => v = .int 0 ∧ H' = H) I ⟨rfl, rfl⟩) fun u s1 ⟨v, H1, I1, r1, ev, eH⟩ => ?_)
  subst ev eH
  refine wpAny_bind (wpAny_holding (wpAny_pure (wpAny_pure ?_)))
  refine wpAny_bind (wpAny_holding (wpAny_pure ?_))
  rw [makeFunction_eq]
  simp only [List.zip_nil_right, List.filterMap_nil, List.isEmpty_nil, List.isEmpty_cons, Bool.false_eq_true, if_false, if_true, pure_bind]
  refine wpAny_bind (wpAny_newTextTuple ?_)
  have nT : H1 s1.heap.objs.size = none := I1.hok.fresh (Nat.le_refl _)
  have I2 : Inv X pins σ (upd H1 s1.heap.objs.size (.tup [.int 0])) _ := I1.laid (t' := s1.toks) (h' := s1.heap.push { cls := .type "tuple", data := .seq [u].toArray }) (fun b u e => Heap.get?_push_of_some _ e) (Nat.le_refl _) ⟨by decide, [u], .cons r1 .nil, ⟨_, Heap.get?_push_size _ rfl, rfl, _, rfl⟩⟩
  refine lam_make3 (dV := .ref s1.heap.objs.size) I2 TB hcode hm hu (hT.new nT).1 (fun y hy e => I1.ok.has _ (hfree y hy e)) fun f c' H3 s' I3 kp t1 th hf e1 e2 => ?_
  have g1 : Gr T H1 (upd H1 s1.heap.objs.size (.tup [.int 0])) := (Gr.refl hT).new nT
  have g2 := gr_kp (hT.new nT) hm lam kp t1 th
  exact ⟨.ref f, H3, I3, rfl, h f H3 (g1.trans g2) (g1.nn hf) ⟨c', _, e1, e2, (fun z => Bool.noConfusion z), (fun _ => ⟨_, rfl, g2.get upd_same⟩)⟩⟩
end
end So
end
section
set_option maxHeartbeats 8000000
/-! A lambda that is a value, called by the def that got it. -/
namespace So
open PySem PySem.Spec PyProof.Rows L2 He LamX
/-- no cells; captured ones, globals, and names of its own that are no slots of the maker -/
structure LamL (N : List Str) (sc scope : Scope) : Prop where
  kind : scope.kind = .function
  co : scope.isCoroutine = false
  gen : scope.isGenerator = false
  own : ∀ y ∈ scope.names, y.2 ≠ .cell ∧ (y.2 = .local → y.1 ∉ N)
  free : ∀ y ∈ scope.names, y.2 = .free → sc.names.lookup y.1 = some .cell ∨ sc.names.lookup y.1 = some .free
def lamLB (N : List Str) (sc scope : Scope) : Bool :=
  decide (scope.kind = .function) && !scope.isCoroutine && !scope.isGenerator && scope.names.all fun y => !decide (y.2 = .cell) && (!decide (y.2 = .local) || !decide (y.1 ∈ N)) && (!decide (y.2 = .free) || decide (sc.names.lookup y.1 = some .cell) || decide (sc.names.lookup y.1 = some .free))
theorem lamL_by {N : List Str} {sc scope : Scope} (h : lamLB N sc scope = true) : LamL N sc scope := by
  unfold lamLB at h
  simp only [Bool.and_eq_true, Bool.or_eq_true, Bool.not_eq_true', decide_eq_true_eq, decide_eq_false_iff_not, List.all_eq_true] at h
  obtain ⟨⟨⟨h1, h2⟩, h3⟩, h4⟩ := h
  refine ⟨h1, h2, h3, fun y hy => ⟨(h4 y hy).1.1, fun e => ?_⟩, fun y hy e => ?_⟩
  · rcases (h4 y hy).1.2 with z | z
    · exact absurd e z
    · exact z
  · rcases (h4 y hy).2 with (z | z) | z
    · exact absurd e z
    · exact .inl z
    · exact .inr z
section
variable {X : Cx} {pins : List (Addr × Obj)} {σ : L2.St} {H HZ : Hp} {s s1 : Shared}
theorem lam_start3 {A : Around} {outer : List Env} {E : XK} {scope : Scope} {f c' : Addr} {h₁ : Heap} {tk : Nat} {fp : List Addr} {bd : List (Str × Value)} (I : Inv X pins σ H s) (L : LamL X.N X.env.scope scope) (e0 : Env0 X.prog X.w X.K X.mg X.base A outer s1 HZ) (hd : A.handled = none)
    (un : Un (frs X.stack) fp H HZ s.heap s1.heap) (hfp : ∀ b ∈ fp, ∀ y c, X.env.cells.lookup y = some c → c ≠ b) (hns : h₁.Ns s1.heap.objs.size fun y => bd.reverse.lookup y) (kp : ∀ b o, s1.heap.get? b = some o → h₁.get? b = some o) :
    Inv (lamCx X A outer s1 HZ E scope f c') [] σ HZ { s1 with heap := h₁, toks := tk } := by
  have hfree : ∀ y ∈ scope.names, y.2 = .free → ∃ c, X.env.cells.lookup y.1 = some c := fun y hy e => by
    rcases L.free y hy e with k | k
    · exact I.ok.has _ (.inl k)
    · exact I.ok.has _ (.inr k)
  have cm : ∀ {y c}, (cloFrom X.env.cells scope.names []).lookup y = some c → X.env.cells.lookup y = some c := fun {y c} e => by
    rcases cloFrom_mem (PySem.mem_of_lookup e) with hm | ⟨h1, h2⟩
    · cases hm
    · obtain ⟨c1, hc⟩ := hfree _ h1 rfl
      have hc : X.env.cells.lookup y = some c1 := hc
      have e2 : c = c1 := by
        rw [h2, hc] <;> rfl
      rw [e2]
      exact hc
  have look : ∀ {y}, scope.names.lookup y = some .free → ∃ c, (cloFrom X.env.cells scope.names []).lookup y = some c := fun {y} hl => by
    have hy : (y, NameKind.free) ∈ scope.names := PySem.mem_of_lookup hl
    exact mem_lookup (cloFrom_has (cells := X.env.cells) (acc := []) hy)
  have nfp : ∀ {y c}, X.env.cells.lookup y = some c → c ∉ fp := fun {y c} e z => hfp c z y c e rfl
  have cellK : ∀ {y : Str} {c : Addr} {v : Option Value}, X.env.cells.lookup y = some c → s.heap.IsCell c v → h₁.IsCell c v := fun {y c v} e z => by
    obtain ⟨o, ho, hd⟩ := z
    obtain ⟨sl, q⟩ := un.any ho (I.freeC y c e) (nfp e)
    exact ⟨_, kp _ _ q, hd⟩
  have noA : ∀ b : Addr, b ∉ (lamCx X A outer s1 HZ E scope f c').ex := fun b z => absurd (show b ∈ ([] : List Addr) from z) (by simp)
  refine ⟨⟨e0.mod, L.kind, rfl, rfl, Nat.le_refl _, fun y z c e1 e2 => I.ok.inj y z c (cm e1) (cm e2), fun y hy => ?_, fun y c z _ => ?_, fun _ => hd, Around.frames_deeper e0.frames, .inr ⟨rfl, rfl⟩, fun b z => absurd z (noA b), e0.bs, e0.bsz, fun b _ _ => noA b,
      fun b z => absurd z (noA b), e0.funs, e0.frf⟩,
    rfl, e0.bare, Un.kept kp, ⟨_, hns, fun i y v e1 e2 e3 => ?_⟩, fun y c e => ?_, e0.hok.fresh (Nat.le_refl _), fun y c e => ?_, fun q hq => absurd (show q ∈ ([] : List (Addr × Obj)) ++ [] from hq) (by simp), e0.hok.kept kp, I.len⟩
  · have hy : scope.names.lookup y = some .cell ∨ scope.names.lookup y = some .free := hy
    rcases hy with hy | hy
    · exact absurd rfl (L.own _ (PySem.mem_of_lookup hy)).1
    · exact look hy
  · have z : false = true := z
    cases z
  · have e1 : X.N[i]? = some y := e1
    have e3 : Vis scope y := e3
    rcases e3 with k | k | k
    · exact absurd (List.mem_of_getElem? e1) ((L.own _ (PySem.mem_of_lookup k)).2 rfl)
    · exact absurd rfl (L.own _ (PySem.mem_of_lookup k)).1
    · obtain ⟨m, hn, hl⟩ := I.loc
      have hvis : Vis X.env.scope y := (L.free _ (PySem.mem_of_lookup k) rfl).elim (fun k => .inr (.inl k)) (fun k => .inr (.inr k))
      obtain ⟨w', r, q⟩ := hl i y v e1 e2 hvis
      obtain ⟨c2, h2⟩ := look k
      refine ⟨w', r, .inr ⟨.inr k, c2, h2, ?_⟩⟩
      have c1 := cm h2
      rcases q with ⟨k', _⟩ | ⟨_, c3, e', z⟩
      · have k' : X.env.scope.names.lookup y = some .local := k'
        rcases L.free _ (PySem.mem_of_lookup k) rfl with k2 | k2 <;> rw [show X.env.scope.names.lookup y = _ from k2] at k' <;> cases k'
      · rw [c1] at e'
        cases e'
        exact cellK c1 z
  · obtain ⟨w', z⟩ := I.cell y c (cm e)
    exact ⟨w', cellK (cm e) z⟩
  · obtain ⟨v, o, ho, hd⟩ := I.cell y c (cm e)
    exact un.free c o ho (I.freeC y c (cm e)) (nfp (cm e))
end
/-- how the lambda's call binds -/
structure LamB (params : Arguments) (body : Expr) (scope : Scope) (dz : Bool) : Prop where
  no : dz = false → ∀ (q : Str) (cl : List (Str × Addr)) (pm : Value) (c' : Addr) (ctv : Value), bindArgs (lamFd q params body scope cl pm .none c' ctv) ⟨[], []⟩ = pure []
  one : dz = true → ∃ y : Str, scope.names.lookup y = some .local ∧ ∀ (q : Str) (cl : List (Str × Addr)) (pm : Value) (c' : Addr) (ctv : Value) (Tp : Addr), ∃ k, bindArgs (lamFd q params body scope cl pm (.ref Tp) c' ctv) ⟨[], []⟩ = seqItems? (.ref Tp) >>= k ∧ ∀ u : Value, k (some #[u]) = pure [(y, u)]
theorem LamB.binds {params : Arguments} {body : Expr} {scope : Scope} {dz : Bool} (B : LamB params body scope dz) {P : Program} {w : World} {HZ : Hp} {s : Shared} {q : Str} {cl : List (Str × Addr)} {pm dV : Value} {c' : Addr} {ctv : Value}
    (hok : HOk P w HZ s.heap) (h3 : dz = false → dV = .none) (h4 : dz = true → ∃ Tp, dV = .ref Tp ∧ HZ Tp = some (.tup [.int 0])) :
    ∃ bd, BindsTo s (lamFd q params body scope cl pm dV c' ctv) ⟨[], []⟩ bd ∧ ∀ y ∈ bd, scope.names.lookup y.1 = some .local := by
  cases dz with
  | false =>
    rw [h3 rfl]
    exact ⟨[], .of_eq (B.no rfl q cl pm c' ctv), fun y hy => by cases hy⟩
  | true =>
    obtain ⟨Tp, e, hT⟩ := h4 rfl
    subst e
    obtain ⟨y, hy, hb⟩ := B.one rfl
    obtain ⟨k, e1, e2⟩ := hb q cl pm c' ctv Tp
    have ho := hok Tp _ hT
    obtain ⟨_, its, rv, o, hg, hc, n, hd⟩ := ho
    cases rv with
    | @cons _ u _ us r rr =>
      cases rr
      refine ⟨[(y, u)], fun M A E Q hq => ?_, fun z hz => ?_⟩
      · rw [e1]
        refine wpAny_bind (wpAny_seqItems hg hd ?_)
        have e3 := e2 u
        show wpAny M A (k (some #[u])) Q E s
        rw [e3]
        exact wpAny_pure hq
      · cases hz with
        | head => exact hy
        | tail _ hz => cases hz
section
variable {X : Cx} {pins : List (Addr × Obj)} {σ : L2.St} {H H9 : Hp} {s s9 : Shared}
/-- x(), in the def that got the lambda: Z is that def's context, entered at s9; X: the maker's, known at s -/
theorem pe_actL {CXg : CXT} {Eg : XK} {Ng : List Str} {qg : Str} {sg : Scope} {g f : Addr} {cdg : Value} {params : Arguments} {body : Expr} {scope : Scope} {dz : Bool} {k i : Nat} {a : Str} {pn : List (Addr × Obj)} {xe : Value → Shared → Prop} {W : WX} {E : XK} {tb : TE} {p1 p2 : Pos} {fp : List Addr}
    (I : Inv X pins σ H s) (L : LamL X.N X.env.scope scope) (B : LamB params body scope dz) (un9 : Un (frs X.stack) fp H H9 s.heap s9.heap) (hfp : ∀ b ∈ fp, ∀ y c, X.env.cells.lookup y = some c → c ≠ b)
    (tk : Takes ((cxOf CXg X.prog X.w X.K X.mg X.base Ng qg sg g cdg X.A X.stack s9 H9 Eg).tr pn xe) W) (hW : ∀ cls d σ' H', E cls d H' → W cls d σ' H') (hr : Room (k + 1) (X.A.deeper (envOfC qg sg s9.heap.objs.size g cdg)))
    (hbody : ∀ (A : Around) (outer : List Env) (s : Shared) (H : Hp) (c' : Addr), Room k (A.deeper (lamEnv X scope s.heap.objs.size f c')) → PE (lamCx X A outer s H E scope f c') body tb)
    (hN : Ng[i]? = some a) (hv : Vis sg a) (hd : (a == ("__debug__" : Str)) = false := by decide) (hcd : (a == ("__classdict__" : Str)) = false := by decide) :
    PE ((cxOf CXg X.prog X.w X.K X.mg X.base Ng qg sg g cdg X.A X.stack s9 H9 Eg).tr pn xe) (.Call (.Name a p1) [] [] p2)
      (fun σZ HZ Q => σZ[i]? = some (some (.ref f)) ∧ IsLam X params body scope dz f HZ ∧ tb σ HZ Q) := by
  refine ⟨fun pinsZ sZ σZ HZ Q IZ h => ?_⟩
  obtain ⟨hs, hl, ht⟩ := h
  refine wpAny_Call_Name_kw (thn ((pe_var (pos := p1) (i := i) hN hv hd hcd).run pinsZ sZ σZ HZ (fun v H1 => v = .ref f ∧ H1 = HZ) IZ ⟨.ref f, hs, rfl, rfl⟩) fun u s1 ⟨v, H1, I1, r1, q1⟩ => ?_)
  obtain ⟨ev, eH⟩ := q1
  subst ev
  rw [eH] at I1
  obtain rfl : u = Value.ref f := r1
  obtain ⟨c', dV, hf, hc, h3, h4⟩ := hl
  obtain ⟨⟨pm, ctv, of1⟩, _, _⟩ := I1.hok f _ hf
  refine PySem.W.callWith_F0 ⟨_, _, _, _, of1⟩ ?_
  have un : Un (frs X.stack) fp H HZ s.heap s1.heap := un9.trans (Un.mono (show Un (frs X.stack) [] H9 HZ s9.heap s1.heap from I1.base) (fun _ z => z) (fun _ z => by cases z))
  obtain ⟨⟨oc, vs, t, hoc, hdc, hvc⟩, _, _⟩ := I1.hok c' _ hc
  obtain ⟨bd, hbd, hloc⟩ := B.binds (P := X.prog) (w := X.w) (s := s1) (q := X.env.qual ++ "<lambda>") (cl := cloFrom X.env.cells scope.names []) (pm := pm) (c' := c') (ctv := ctv) I1.hok h3 h4
  have rc : codeAny (model X.prog X.w) (X.A.deeper (envOfC qg sg s9.heap.objs.size g cdg)) (.call (.ref f) ⟨[], []⟩) (CR (L2.CX X.prog X.w) (envOfC qg sg s9.heap.objs.size g cdg :: X.stack) X.prog X.w HZ s1 Q E) s1 := by
    refine PySem.W.kla_callFunE hr.depth of1 rfl L.co L.gen rfl ⟨c', oc, vs, t, rfl, hoc, hdc, hvc⟩ ?_
    refine hbd _ _ _ _ ?_
    refine wpAny_newFunctionEnv (fun y hy => (L.own y hy).1) hloc (fun h₁ hns hsb => ⟨I1.nolimit.fresh _ hsb, ?_⟩) L.kind
    show codeAny _ _ (.expr body (lamEnv X scope s1.heap.objs.size f c')) _ _
    have kp : ∀ b o, s1.heap.get? b = some o → h₁.get? b = some o := fun b o e => hsb.extBut b o (Nat.ne_of_lt (Heap.lt_size e)) (Heap.get?_push_of_some _ e)
    have J : Inv (lamCx X (X.A.deeper (envOfC qg sg s9.heap.objs.size g cdg)) (envOfC qg sg s9.heap.objs.size g cdg :: X.stack) s1 HZ E scope f c') [] σ HZ { s1 with heap := h₁, toks := s1.toks + bd.length } :=
      lam_start3 I L I1.env0 hr.hd un hfp hns kp
    refine PySem.W.kla_codeExpr (wpAny_mono ((hbody _ _ s1 HZ c' (hr.deeper _)).run [] _ _ HZ Q J ht) (fun v s' hq => ?_) fun e s' hq => hq)
    obtain ⟨w', H', J', rv, q⟩ := hq
    exact ⟨w', H', J'.os, J'.bare, J'.base, J'.hok, rv, q⟩
  have hx : Passes (L2.CX X.prog X.w) ((cxOf CXg X.prog X.w X.K X.mg X.base Ng qg sg g cdg X.A X.stack s9 H9 Eg).tr pn xe) E := passes_call tk hW
  refine wpAny_call (codeAny_mono rc fun r s' hq => ?_)
  cases r with
  | error e => exact hx pinsZ σZ HZ s1 e s' I1 hq
  | ok fl =>
    cases fl with
    | ret u => exact I1.after hq
    | next => exact False.elim hq
    | brk => exact False.elim hq
    | cont => exact False.elim hq
end
end So
end
section
set_option maxHeartbeats 8000000
/-! _law_outcome of a lambda that is a value, in a comprehension of the maker. -/
namespace So
open PySem PySem.Spec PyProof.Rows L2 He LamX
/-- what _law_outcome is given: one of some lambdas -/
def tOutL {ι : Type} (X : Cx) (σ : L2.St) (params : ι → Arguments) (body : ι → Expr) (lsc : ι → Scope) (dz : ι → Bool) (TT : ι → (XK → Hp → VK → Prop) → Hp → VK → Prop) (tb : ι → XK → TE) (te : TE) : TE := fun σ9 H9 Q =>
  te σ9 H9 fun v H10 => ∃ (i : ι) (f : Addr), v = .ref f ∧ IsLam X (params i) (body i) (lsc i) (dz i) f H10 ∧ TT i (fun E H' Q' => IsLam X (params i) (body i) (lsc i) (dz i) f H' ∧ tb i E σ H' Q') H10 Q
section
variable {X : Cx} {pins : List (Addr × Obj)} {σ : L2.St} {H : Hp} {s : Shared}
theorem pe_outL {ι : Type} {params : ι → Arguments} {body : ι → Expr} {lsc : ι → Scope} {dz : ι → Bool} {TT : ι → (XK → Hp → VK → Prop) → Hp → VK → Prop} {tb : ι → XK → TE} {k : Nat} {scope : Scope} {cenv : Env} {fp : List Addr} {e : Expr} {te : TE} {p pos : Pos}
    (kn : Kn X.K X.mg) (I : Inv X pins σ H s) (hfp : ∀ b ∈ fp, ∀ y c, X.env.cells.lookup y = some c → c ≠ b) (L : ∀ i, LamL X.N X.env.scope (lsc i)) (B : ∀ i, LamB (params i) (body i) (lsc i) (dz i))
    (hG : ∀ (i : ι) (g : Addr) (cdg : Value), GivesTo X outN "_law_outcome" (defScope s__law_outcome) g cdg (defBody s__law_outcome) "_law_call" (X.env.qual ++ "<lambda>") (TT i))
    (hr : Room (k + 2) X.A) (hg : Gl (X.blk s H scope cenv fp) "_law_outcome")
    (hbody : ∀ (i : ι) (A : Around) (outer : List Env) (s : Shared) (H : Hp) (E : XK) (f c' : Addr), Room k (A.deeper (lamEnv X (lsc i) s.heap.objs.size f c')) → PE (lamCx X A outer s H E (lsc i) f c') (body i) (tb i E))
    (ha : PE (X.blk s H scope cenv fp) e te) (he : starEach [e] cenv = (false, eval e cenv) :: starEach [] cenv := by rfl) :
    PE (X.blk s H scope cenv fp) (.Call (.Name "_law_outcome" p) [e] [] pos) (tOutL X σ params body lsc dz TT tb te) := by
  refine ⟨fun pinsZ sZ σZ HZ Q IZ h => ?_⟩
  obtain ⟨fd, F⟩ := kn.f__law_outcome
  have hb := F.bindsN (ps := ["_law_call"]) fun kV doc pm an cdv ct us hl => match us, hl with | [_], _ => rfl
  obtain ⟨oc, od, dV, kV, doc, pm, an, cdv, ct, osl, rfl, lk, hcg, _, _⟩ := F.ex
  refine wpAny_Call_Name_kw (ld_glob IZ hg (kn.glo "_law_outcome") ?_ (by decide))
  refine PySem.W.callWith_K (h₀ := X.base) I.ok.mod.kin F.kp ?_ he rfl
  have he : starEach [e] (X.blk s H scope cenv fp).env = (false, eval e (X.blk s H scope cenv fp).env) :: starEach [] (X.blk s H scope cenv fp).env := he
  rw [he]
  show wpAny _ _ (spliced ((false, eval e (X.blk s H scope cenv fp).env) :: backTo pos (starEach [] (X.blk s H scope cenv fp).env))) _ _ sZ
  refine Calls.spliced_cons (thn (ha.run pinsZ sZ σZ HZ _ IZ h) fun u s9 ⟨v, H9, I9, r9, i, f, ev, hl, hT⟩ => ?_)
  subst ev
  obtain rfl : u = Value.ref f := r9
  refine Calls.spliced_nil ⟨I9.kIn, ?_⟩
  have un9 : Un (frs X.stack) fp H H9 s.heap s9.heap := I9.base
  have rc : codeAny (model X.prog X.w) X.A (.call (.ref (ga X.K "_law_outcome")) ⟨[.ref f], []⟩) (CR C8.CX0 X.stack X.prog X.w H9 s9 Q C8.E0) s9 := by
    refine run_ofS (N := outN) (ps := ["_law_call"]) (us := [.ref f]) (vs := [.ref f]) lk hcg sc__law_outcome hr I9.env0 (hb s9 [.ref f] I9.kIn rfl) (.cons rfl .nil) rfl fun hr' => ?_
    obtain ⟨c', dV, e1, e2, e3⟩ := id hl
    obtain ⟨t', ht', hq'⟩ := hG i (ga X.K "_law_outcome") cdv f c' s9 H9 Q (fun E H' Q' => IsLam X (params i) (body i) (lsc i) (dz i) f H' ∧ tb i E σ H' Q')
      (fun W pn xe E p1 p2 tk hW => ⟨fun pinsY sY σY HY QY IY hY => (pe_actL (p1 := p1) (p2 := p2) (i := 0) (f := f) I (L i) (B i) un9 hfp tk hW hr' (fun A outer s H c' hr2 => hbody i A outer s H E f c' hr2) rfl (.inl rfl)).run pinsY sY σY HY QY IY ⟨hY.1, hY.2.2⟩⟩) e2 hT
    exact ⟨t', ht'.nox, hq'⟩
  refine wpAny_call (codeAny_mono rc fun r s2 hq => ?_)
  cases r with
  | error e => exact (show False from hq).elim
  | ok fl =>
    cases fl with
    | ret u => exact I9.after hq
    | next => exact False.elim hq
    | brk => exact False.elim hq
    | cont => exact False.elim hq
end
end So
end
section
set_option maxHeartbeats 8000000
/-! A list comprehension whose element is told of the maker's state at its start (the proof of lcI_core follows lc_core of HandS.Comp; new: what the element's rule is told). -/
namespace So
open PySem PySem.Spec PyProof.Rows L2 He
section
variable {X : Cx}
theorem lcI_core {pins : List (Addr × Obj)} {s : Shared} {σ : L2.St} {H : Hp} {Q : VK} {elt tg iter : Expr} {ifs : List Expr} {scope : Scope} {own : List (Str × Nat)} {pos pos' : Pos} {wi : TI} {g : TG} {tt : TT} {te : TE} {use : Option (Value → Sem Unit)} {Qf : Value → Shared → Prop}
    (hc : X.calm = true) (hN : X.N.Nodup) (I : Inv X pins σ H s) (hi : PI X tg iter wi) (ok : BlkOk X.N X.env.scope scope own)
    (hg : ∀ (s : Shared) (H : Hp) (C : Addr) (cl : List (Str × Addr)) (fp : List Addr), PG (X.blk s H scope (compEnvC scope cl C X.env) fp) tg g) (ht : ∀ (s : Shared) (H : Hp) (C : Addr) (cl : List (Str × Addr)) (fp : List Addr), PTs (X.blk s H scope (compEnvC scope cl C X.env) fp) ifs tt)
    (he : ∀ (s : Shared) (H : Hp) (C : Addr) (cl : List (Str × Addr)) (fp : List Addr), Inv X pins σ H s → (∀ b ∈ fp, ∀ y c, X.env.cells.lookup y = some c → c ≠ b) → PE (X.blk s H scope (compEnvC scope cl C X.env) fp) elt te) (hs : ∀ x, foldedSetIterable iter X.env x = pure x)
    (h : tLc wi g tt te (own.map (·.2)) σ H Q)
    (hRR : ∀ D C s' m H', Inv X pins σ H' s' → Q (.ref D) H' → s'.heap.Ns C m → FpOk X pins H' C → compPost (model X.prog X.w) X.A X.xe use Qf (.ref D) C (.ok .next) s') :
    wpAny (model X.prog X.w) X.A (comprehension (.ListComp elt [⟨tg, iter, ifs, 0⟩] scope pos) scope X.env pos' (newList []) false (eval iter X.env) use) Qf X.xe s := by
  have hfree : ∀ y ∈ scope.names, y.2 = .free → ∃ c, X.env.cells.lookup y.1 = some c := fun y hy e => by
    rcases ok.free y hy e with k | k
    · exact I.ok.has _ (.inl k)
    · exact I.ok.has _ (.inr k)
  refine wpAny_comprehension_free (use := use) rfl hs (closure_ok hfree) ok.kind (fun y hy e => by rw [ok.uniq y hy, e])
    (thn (hi.run pins s σ H _ I h) fun xv s1 hx => thn hx fun itv s2 h2 => ?_)
  obtain ⟨it, fp, tn, J, H2, e, I2, T, st2, f2, q⟩ := h2
  subst e
  refine wpAny_newObj_type (newEnv_comp ?_) (by show 0 ≤ sizeLine; decide)
  generalize hD : s2.heap.objs.size = D
  have hDn : H2 D = none := I2.hok.fresh (Nat.le_of_eq hD)
  obtain ⟨W, ⟨m0, w0⟩, turn⟩ := q D hDn
  -- the new list
  generalize hs3 : ({ s2 with heap := s2.heap.push { cls := .type "list", data := .seq ([] : List Value).toArray } } : Shared) = s3
  have I3 : Inv X pins σ (upd H2 D (.lst [])) s3 := by
    rw [← hs3]
    refine I2.laid (t' := s2.toks) (fun b o e => Heap.get?_push_of_some _ e) (Nat.le_of_eq hD) ⟨Nat.zero_le _, [], 0, .nil, ?_⟩
    rw [← hD]
    exact Heap.get?_push_size _ rfl
  have h3 : s3.heap = s2.heap.push { cls := .type "list", data := .seq ([] : List Value).toArray } := by rw [← hs3]
  have sz : ∀ b ∈ fp, b < s2.heap.objs.size := fun b hb => by
    obtain ⟨o, e, _⟩ := T.obj _ _ st2 b hb
    exact Heap.lt_size e
  have f3 : ∀ b ∈ fp, FpOk X pins (upd H2 D (.lst [])) b ∧ b < s3.heap.objs.size := fun b hb => by
    have hlt := sz b hb
    refine ⟨⟨?_, (f2 b hb).2⟩, by rw [h3, Heap.size_push]; exact Nat.lt_succ_of_lt hlt⟩
    rw [upd_ne (by rw [← hD]; exact Nat.ne_of_lt hlt)]
    exact (f2 b hb).1
  have st3 : tn 0 s3.heap := T.keep _ _ _ st2 fun b _ o e => by rw [h3]; exact Heap.get?_push_of_some _ e
  have I4 := block_start I3 ok hN f3
  have pg := hg s3 (upd H2 D (.lst [])) s3.heap.objs.size (cellsFrom (s3.heap.objs.size + 1) scope.names (cloFrom X.env.cells scope.names [])) fp
  have pt := ht s3 (upd H2 D (.lst [])) s3.heap.objs.size (cellsFrom (s3.heap.objs.size + 1) scope.names (cloFrom X.env.cells scope.names [])) fp
  have pe := he s3 (upd H2 D (.lst [])) s3.heap.objs.size (cellsFrom (s3.heap.objs.size + 1) scope.names (cloFrom X.env.cells scope.names [])) fp I3 (fun b hb => (f3 b hb).1.2.2.2.2.1)
  show codeAny _ _ (.compStart (.ListComp elt [⟨tg, iter, ifs, 0⟩] scope pos) 0 (.ref it) (.ref D) (compEnvC scope (cellsFrom (s3.heap.objs.size + 1) scope.names (cloFrom X.env.cells scope.names [])) s3.heap.objs.size X.env)) (compPost (model X.prog X.w) X.A X.xe use Qf (.ref D) s3.heap.objs.size) { s3 with heap := pushCells (s3.heap.push { cls := .type "dict", data := .dict #[] }) scope.names }
  have nfp : ∀ b ∈ fp, (upd H2 D (.lst [])) b = none := fun b hb => (f3 b hb).1.1
  generalize hce : compEnvC scope (cellsFrom (s3.heap.objs.size + 1) scope.names (cloFrom X.env.cells scope.names [])) s3.heap.objs.size X.env = ce at I4 pg pt pe ⊢
  have cL : ce.locals = s3.heap.objs.size := by subst hce; rfl
  generalize hH3 : upd H2 D (.lst []) = H3 at I3 I4 pg pt pe w0 nfp f3
  generalize hs4 : ({ s3 with heap := pushCells (s3.heap.push { cls := .type "dict", data := .dict #[] }) scope.names } : Shared) = s4 at I4 ⊢
  have st4 : tn 0 s4.heap := T.keep _ _ _ st3 fun b _ o e => by rw [← hs4]; exact pushCells_keeps _ _ _ _ (Heap.get?_push_of_some _ e)
  have stat : ∀ {σ' : L2.St} {H' : Hp} {s' : Shared}, Inv (X.blk s3 H3 scope ce fp) [] σ' H' s' → (∀ b ∈ fp, H' b = none) → ∀ b ∈ fp, FpOk (X.blk s3 H3 scope ce fp) [] H' b := fun {σ' H' s'} I' hn b hb =>
    ⟨hn b hb, (I'.ok.exf b hb).1, I'.ok.exfs b hb, .inl hb, fun x c e => (I'.ok.exf b hb).2 x c e, fun p hp => absurd (show p ∈ ([] : List (Addr × Obj)) ++ [] from hp) (by simp)⟩
  have loop : codeAny (model X.prog X.w) X.A (.compLoop (.ListComp elt [⟨tg, iter, ifs, 0⟩] scope pos) 0 (.ref it) (.ref D) ce) (compPost (model X.prog X.w) X.A X.xe use Qf (.ref D) s3.heap.objs.size) s4 := by
    refine compLoop_any (fun n s' => ∃ i H', Inv (X.blk s3 H3 scope ce fp) [] (wipe σ (own.map (·.2))) H' s' ∧ tn i s'.heap ∧ (∀ b ∈ fp, H' b = none) ∧ W i n H') ?_ m0 ⟨0, H3, I4, st4, nfp, w0⟩
    rintro n s5 ⟨i, H5, I5, st5, n5, w5⟩
    rcases turn i n H5 w5 with ⟨stop, qq⟩ | ⟨go, Nx, hNx, step⟩
    · have td := T.done (X.blk s3 H3 scope ce fp) rfl rfl rfl hc i [] s5 _ H5 (fun _ _ => False) I5 (stat I5 n5) st5 stop
      refine thnF td fun r s6 ⟨hr, I6⟩ => ?_
      subst hr
      -- back in the def's context
      have I7 : Inv X pins σ H5 s6 := I3.call' (ch := fp) I6.os I6.base I6.hok I6.bare fun b hb => ⟨(f3 b hb).1.2.2.2.1, (f3 b hb).1.2.1, (f3 b hb).1.2.2.2.2.1, (f3 b hb).1.2.2.2.2.2⟩
      have nC : H5 s3.heap.objs.size = none := by
        have z : H5 ce.locals = none := I6.free
        rw [cL] at z
        exact z
      obtain ⟨m, hn, _⟩ := I6.loc
      have hn : s6.heap.Ns ce.locals m := hn
      rw [cL] at hn
      exact hRR D s3.heap.objs.size s6 m H5 I7 qq hn (I3.fpOk (Nat.le_refl _) nC)
    · have ti := T.item (X.blk s3 H3 scope ce fp) rfl rfl rfl hc i [] s5 _ H5 (fun _ _ => False) I5 (stat I5 n5) st5 go
      refine thnF ti fun r s6 ⟨u, hr, h6⟩ => ?_
      subst hr
      refine thnF h6 fun _ s7 ⟨x, H7, I7, r7, y7, st7, n7⟩ => ?_
      have I7' := I7.pinned (stat I7 n7) (T.obj _ _ st7)
      refine thnF (pg.run _ s7 _ H7 x u _ I7' r7 (step x H7 y7)) fun _ s8 ⟨σ8, H8, I8, hw8, q8⟩ => ?_
      refine thnF (pt.run _ s8 σ8 H8 _ I8 q8) fun b s9 ⟨H9, I9, q9⟩ => ?_
      -- the turn's end
      have fin : ∀ {s' : Shared} {H' : Hp}, Inv (X.blk s3 H3 scope ce fp) ([] ++ pinsAt fp s7.heap) σ8 H' s' → Nx H' → ∃ m, m < n ∧ ∃ i H', Inv (X.blk s3 H3 scope ce fp) [] (wipe σ (own.map (·.2))) H' s' ∧ tn i s'.heap ∧ (∀ b ∈ fp, H' b = none) ∧ W i m H' := fun {s' H'} I' nx => by
        obtain ⟨m', hm, w'⟩ := hNx H' nx
        have pin' : ∀ b ∈ fp, ∀ o, s7.heap.get? b = some o → s'.heap.get? b = some o ∧ H' b = none := fun b hb o e =>
          let z := I'.pin (b, o) (List.mem_append_right _ (List.mem_append_right _ (mem_pinsAt hb e)))
          ⟨z.1, z.2.1⟩
        have hl : (wipe σ (own.map (·.2))).length = σ8.length := by rw [← hw8, wipe_length]
        refine ⟨m', hm, i + 1, H', (I'.unpinned (pins := [])).weak hl (fun j v e => ?_), T.keep _ _ _ st7 fun b hb o e => (pin' b hb o e).1, fun b hb => ?_, w'⟩
        · rw [← hw8] at e
          exact (wipe_some e).1
        · obtain ⟨o, e, _⟩ := T.obj _ _ st7 b hb
          exact (pin' b hb o e).2
      cases b with
      | false =>
        simp only [Bool.false_eq_true, if_false] at q9 ⊢
        exact fin I9 q9
      | true =>
        simp only [if_true] at q9 ⊢
        refine thnF (pe.run _ s9 σ8 H9 _ I9 q9) fun z s10 ⟨yv, H10, I10, r10, acc, hD10, hz10, nx⟩ => ?_
        exact app_ok (X := X.blk s3 H3 scope ce fp) I10 hD10 hz10 r10 fun s11 I11 => fin I11 nx
  exact codeAny_compStart_list loop (T.self X.A 0 _ _ _ st4 loop)
/-- as a value -/
theorem pe_lcI {elt tg iter : Expr} {ifs : List Expr} {scope : Scope} {own : List (Str × Nat)} {pos : Pos} {wi : TI} {g : TG} {tt : TT} {te : L2.St → TE} (hc : X.calm = true) (hN : X.N.Nodup) (hi : PI X tg iter wi) (ok : BlkOk X.N X.env.scope scope own)
    (hg : ∀ (s : Shared) (H : Hp) (C : Addr) (cl : List (Str × Addr)) (fp : List Addr), PG (X.blk s H scope (compEnvC scope cl C X.env) fp) tg g) (ht : ∀ (s : Shared) (H : Hp) (C : Addr) (cl : List (Str × Addr)) (fp : List Addr), PTs (X.blk s H scope (compEnvC scope cl C X.env) fp) ifs tt)
    (he : ∀ (pins : List (Addr × Obj)) (σ : L2.St) (s : Shared) (H : Hp) (C : Addr) (cl : List (Str × Addr)) (fp : List Addr), Inv X pins σ H s → (∀ b ∈ fp, ∀ y c, X.env.cells.lookup y = some c → c ≠ b) → PE (X.blk s H scope (compEnvC scope cl C X.env) fp) elt (te σ)) (hs : ∀ x, foldedSetIterable iter X.env x = pure x := by intro _; rfl) :
    PE X (.ListComp elt [⟨tg, iter, ifs, 0⟩] scope pos) (fun σ H Q => tLc wi g tt (te σ) (own.map (·.2)) σ H Q) := by
  refine ⟨fun pins s σ H Q I h => ?_⟩
  rw [eval_ListComp]
  refine lcI_core hc hN I hi ok hg ht (fun s H C cl fp => he pins σ s H C cl fp) hs h fun D C s' m H' I' q hn f => ⟨m, hn, fun h'' sb => ?_⟩
  obtain ⟨f0, f1, f2, f3, f4, f5⟩ := f
  exact ⟨.ref D, H', I'.turned (t' := s'.toks) (fun b o hb e => (sb.2 b hb).trans e) f0 f1 f3 f4 f5, rfl, q⟩
end
end So
end
section
set_option maxHeartbeats 8000000
/-! The law's lambdas. -/
namespace So
open PySem PySem.Spec PyProof.Rows L2 He LamX
/-- what _law_outcome is given in the maker's own body -/
def tOutX (X : Cx) (params : Arguments) (body : Expr) (lsc : Scope) (dz : Bool) (TT : (XK → Hp → VK → Prop) → Hp → VK → Prop) (tb : XK → TE) (te : TE) : TE := fun σ H Q =>
  te σ H fun v H1 => ∃ f, v = .ref f ∧ IsLam X params body lsc dz f H1 ∧ TT (fun E H' Q' => IsLam X params body lsc dz f H' ∧ tb E σ H' Q') H1 Q
section
variable {X : Cx}
theorem pe_outX {params : Arguments} {body : Expr} {lsc : Scope} {dz : Bool} {TT : (XK → Hp → VK → Prop) → Hp → VK → Prop} {tb : XK → TE} {k : Nat} {e : Expr} {te : TE} {p pos : Pos}
    (kn : Kn X.K X.mg) (L : LamL X.N X.env.scope lsc) (B : LamB params body lsc dz)
    (hG : ∀ (g : Addr) (cdg : Value), GivesTo X outN "_law_outcome" (defScope s__law_outcome) g cdg (defBody s__law_outcome) "_law_call" (X.env.qual ++ "<lambda>") TT)
    (hr : Room (k + 2) X.A)
    (hbody : ∀ (A : Around) (outer : List Env) (s : Shared) (H : Hp) (E : XK) (f c' : Addr), Room k (A.deeper (lamEnv X lsc s.heap.objs.size f c')) → PE (lamCx X A outer s H E lsc f c') body (tb E))
    (ha : PE X e te) (hg : Gl X "_law_outcome" := by rfl) (he : starEach [e] X.env = (false, eval e X.env) :: starEach [] X.env := by rfl) :
    PE X (.Call (.Name "_law_outcome" p) [e] [] pos) (tOutX X params body lsc dz TT tb te) := by
  refine ⟨fun pinsZ sZ σ HZ Q IZ h => ?_⟩
  obtain ⟨fd, F⟩ := kn.f__law_outcome
  have hb := F.bindsN (ps := ["_law_call"]) fun kV doc pm an cdv ct us hl => match us, hl with | [_], _ => rfl
  obtain ⟨oc, od, dV, kV, doc, pm, an, cdv, ct, osl, rfl, lk, hcg, _, _⟩ := F.ex
  refine wpAny_Call_Name_kw (ld_glob IZ hg (kn.glo "_law_outcome") ?_ (by decide))
  refine PySem.W.callWith_K (h₀ := X.base) IZ.ok.mod.kin F.kp ?_ he rfl
  rw [he]
  show wpAny _ _ (spliced ((false, eval e X.env) :: backTo pos (starEach [] X.env))) _ _ sZ
  refine Calls.spliced_cons (thn (ha.run pinsZ sZ σ HZ _ IZ h) fun u s9 ⟨v, H9, I9, r9, f, ev, hl, hT⟩ => ?_)
  subst ev
  obtain rfl : u = Value.ref f := r9
  refine Calls.spliced_nil ⟨I9.kIn, ?_⟩
  have un9 : Un (frs X.stack) [] H9 H9 s9.heap s9.heap := Un.kept fun _ _ e => e
  have rc : codeAny (model X.prog X.w) X.A (.call (.ref (ga X.K "_law_outcome")) ⟨[.ref f], []⟩) (CR C8.CX0 X.stack X.prog X.w H9 s9 Q C8.E0) s9 := by
    refine run_ofS (N := outN) (ps := ["_law_call"]) (us := [.ref f]) (vs := [.ref f]) lk hcg sc__law_outcome hr I9.env0 (hb s9 [.ref f] I9.kIn rfl) (.cons rfl .nil) rfl fun hr' => ?_
    obtain ⟨c', dV, e1, e2, e3⟩ := id hl
    obtain ⟨t', ht', hq'⟩ := hG (ga X.K "_law_outcome") cdv f c' s9 H9 Q (fun E H' Q' => IsLam X params body lsc dz f H' ∧ tb E σ H' Q')
      (fun W pn xe E p1 p2 tk hW => ⟨fun pinsY sY σY HY QY IY hY => (pe_actL (p1 := p1) (p2 := p2) (i := 0) (f := f) (fp := []) I9 L B un9 (fun b hb => by cases hb) tk hW hr' (fun A outer s H c' hr2 => hbody A outer s H E f c' hr2) rfl (.inl rfl)).run pinsY sY σY HY QY IY ⟨hY.1, hY.2.2⟩⟩) e2 hT
    exact ⟨t', ht'.nox, hq'⟩
  refine wpAny_call (codeAny_mono rc fun r s2 hq => ?_)
  cases r with
  | error e => exact (show False from hq).elim
  | ok fl =>
    cases fl with
    | ret u => exact I9.after hq
    | next => exact False.elim hq
    | brk => exact False.elim hq
    | cont => exact False.elim hq
end
/-! ### the lambdas of the text -/
def forBody : Stmt → List Stmt
  | .For _ _ b _ _ => b
  | _ => []
def asgVal : Stmt → Expr
  | .Assign _ v _ => v
  | _ => .Name "" ⟨0, 0, 0, 0⟩
def expVal : Stmt → Expr
  | .Expr v _ => v
  | _ => .Name "" ⟨0, 0, 0, 0⟩
def lstEls : Expr → List Expr
  | .List es _ => es
  | _ => []
def callArgs : Expr → List Expr
  | .Call _ es _ _ => es
  | _ => []
def noArgs : Arguments := { posonlyargs := [], args := [], vararg := none, kwonlyargs := [], kw_defaults := [], kwarg := none, defaults := [] }
def noScope : Scope := { kind := .function, names := [], isGenerator := false, isCoroutine := false }
def lamP : Expr → Arguments
  | .Lambda a _ _ _ => a
  | _ => noArgs
def lamE : Expr → Expr
  | .Lambda _ b _ _ => b
  | _ => .Name "" ⟨0, 0, 0, 0⟩
def lamS : Expr → Scope
  | .Lambda _ _ s _ => s
  | _ => noScope
def eNone : Expr := .Name "" ⟨0, 0, 0, 0⟩
def sNone : Stmt := .Pass ⟨0, 0, 0, 0⟩
def loopB : List Stmt := forBody ((defBody s_law).getD 1 sNone)
def lam0 : Expr := (callArgs (asgVal (loopB.getD 5 sNone))).getD 0 eNone
def lam1 : Expr := (lstEls (asgVal (loopB.getD 9 sNone))).getD 0 eNone
def lam2 : Expr := (lstEls ((callArgs (expVal (loopB.getD 10 sNone))).getD 0 eNone)).getD 0 eNone
def lam3 : Expr := (lstEls ((callArgs (expVal (loopB.getD 10 sNone))).getD 0 eNone)).getD 1 eNone
abbrev lawN : List Str := ["_law_script", "_law_h", "_law_turn", "_law_calendar_here", "_law_moment", "_law_ledger", "_law_kind", "_law_k", "_law_period", "_law_amount", "_law_account", "_law_found", "_law_soon", "_law_works", "_law_call"]
theorem lamL0 : LamL lawN (defScope s_law) (lamS lam0) := lamL_by (by decide +kernel)
theorem lamL1 : LamL lawN (defScope s_law) (lamS lam1) := lamL_by (by decide +kernel)
theorem lamL2 : LamL lawN (defScope s_law) (lamS lam2) := lamL_by (by decide +kernel)
theorem lamL3 : LamL lawN (defScope s_law) (lamS lam3) := lamL_by (by decide +kernel)
theorem lamB0 : LamB (lamP lam0) (lamE lam0) (lamS lam0) false := ⟨fun _ _ _ _ _ _ => rfl, fun z => by cases z⟩
theorem lamB1 : LamB (lamP lam1) (lamE lam1) (lamS lam1) false := ⟨fun _ _ _ _ _ _ => rfl, fun z => by cases z⟩
theorem lamB2 : LamB (lamP lam2) (lamE lam2) (lamS lam2) false := ⟨fun _ _ _ _ _ _ => rfl, fun z => by cases z⟩
theorem lamB3 : LamB (lamP lam3) (lamE lam3) (lamS lam3) true := ⟨(fun z => by cases z), fun _ => ⟨"_law_a", rfl, fun _ _ _ _ _ _ => ⟨_, rfl, fun _ => rfl⟩⟩⟩
end So
end
section
set_option maxHeartbeats 8000000
/-! What the law draws makes a plan. -/
namespace So
open PySem PySem.Spec PyProof.Rows L2 He LamX
theorem cal_dvd {cs : List Int} (h : CalOk cs) : ∀ (m i : Nat) (x y : Int), cs[i]? = some x → cs[i + m]? = some y → x ∣ y
  | 0, i, x, y, e1, e2 => by
    rw [Nat.add_zero, e1] at e2
    cases e2
    exact Int.dvd_refl _
  | m + 1, i, x, y, e1, e2 => by
    have hlt : i + m < cs.length := by
      have := (List.getElem?_eq_some_iff.mp e2).1
      omega
    have e3 : cs[i + m]? = some cs[i + m] := List.getElem?_eq_getElem hlt
    have d1 := cal_dvd h m i x _ e1 e3
    have d2 := (h.nx (i + m) _ y e3 e2).2
    exact Int.dvd_trans d1 (Int.dvd_of_emod_eq_zero d2)
theorem ordOk_of {ps : List Int} {c : Int} {o : Ord} (h : CalOk (ps ++ [c])) (hv : OrdV (ps ++ [c]) o) (ha : -1000 ≤ o.2.2 ∧ o.2.2 ≤ 1000) : OrdOk c o := by
  obtain ⟨i, hi⟩ := List.getElem?_of_mem hv.mem
  have hlt := (List.getElem?_eq_some_iff.mp hi).1
  rw [List.length_append, List.length_singleton] at hlt
  have hc : (ps ++ [c])[i + (ps.length - i)]? = some c := by
    rw [show i + (ps.length - i) = ps.length by omega]
    simp
  exact ⟨(h.at_ i _ hi).1, cal_dvd h _ i _ _ hi hc, hv.d0, hv.d1, ha.1, ha.2⟩
theorem cyc_bound {os : List Ord} {c : Int} (h : ∀ o ∈ os, OrdOk c o) (u : Int) (n : Nat) : -(1000 * os.length * n) ≤ cyc os u n ∧ cyc os u n ≤ 1000 * os.length * n := by
  induction n with
  | zero =>
    have : cyc os u 0 = 0 := rfl
    rw [this]
    simp
  | succ n ih =>
    rw [cyc_last]
    have := pay_bound h (u + n)
    have e : (1000 * (os.length : Int)) * ((n + 1 : Nat) : Int) = 1000 * os.length * n + 1000 * os.length := by
      rw [Int.natCast_add, Int.mul_add]
      simp
    rw [e]
    omega
theorem planB_of {ps : List Int} {c day : Int} {os : List Ord} (hc : CalOk (ps ++ [c])) (h48 : c ≤ 48) (hd : -1000000 ≤ day ∧ day ≤ 1000000) (hv : ∀ o ∈ os, OrdV (ps ++ [c]) o) (hl : os.length ≤ 4) (ha : AmB os) : PlanB ps c (day + 1) os := by
  have ho : ∀ o ∈ os, OrdOk c o := fun o h => ordOk_of hc (hv o h) (ha o h)
  have c1 : 1 ≤ c := (hc.at_ ps.length c (by simp)).1
  refine ⟨⟨hc, hv, by omega⟩, ho, c1, by omega, ?_, by omega, by omega⟩
  have hb := cyc_bound ho 0 c.toNat
  rw [drf_eq ho c1] at hb
  have h1 : (1000 * (os.length : Int)) * (c.toNat : Int) ≤ 4000 * 48 := by
    have a1 : (1000 * (os.length : Int)) ≤ 4000 := by omega
    have a2 : ((c.toNat : Nat) : Int) ≤ 48 := by omega
    have a3 := Int.mul_le_mul a1 a2 (by omega) (by omega)
    exact a3
  have e2 : drf os c = (flows c os).sum := rfl
  rw [e2] at hb
  constructor <;> omega
end So
end
section
set_option maxHeartbeats 8000000
/-! The bodies of the law's lambdas. -/
namespace So
open PySem PySem.Spec PyProof.Rows L2 He LamX
abbrev lawX (P : Program) (w : World) (K : PySem.W.Frag) (mg : Str → Option Value) (base : Heap) (cdv : Value) (A : Around) (outer : List Env) (s : Shared) (H : Hp) (E : XK) : Cx := (cxOf CX0 P w K mg base lawN "law" (defScope s_law) (ga K "law") cdv A outer s H E).nox
def tL0 (K : PySem.W.Frag) (T : Wt) (E : XK) : TE := fun σ H Q => ∃ (l dxl : Addr) (fs : List (Str × V)), σ[5]? = some (some (.ref l)) ∧ H l = some (.ins (ga K "Ledger") dxl fs) ∧ fs.lookup ("largest_withdrawal" : Str) = none ∧ spLargest K T [.ref l, .str bobS] H Q E
def tL1 (K : PySem.W.Frag) (T : Wt) (E : XK) : TE := fun σ H Q => ∃ (l pl dxl cal fl b dx ad dd : Addr) (ps : List Int) (c day : Int) (k : Kd) (lim bal j : Int) (os : List Ord) (n : Nat), σ[5]? = some (some (.ref l)) ∧ σ[2]? = some (some (.int j)) ∧ (j = 0 ∨ j = 1) ∧ LedP K H l pl dxl cal fl b dx ad dd ps c day (some (k, lim, bal)) os n ∧ AccOk k lim bal ∧ Tbs T H ∧
  ∀ H', Gr T H H' → E (.ref (ga K "InvalidAmount")) none H'
def tL2 (K : PySem.W.Frag) (T : Wt) (E : XK) : TE := fun σ H Q => ∃ (l pl dxl cal fl b dx ad dd : Addr) (ps : List Int) (c day : Int) (e : AccE) (os : List Ord) (n : Nat), σ[5]? = some (some (.ref l)) ∧ LedP K H l pl dxl cal fl b dx ad dd ps c day (some e) os n ∧ Tbs T H ∧ UaE K T H E
section
variable {P : Program} {w : World} {K : PySem.W.Frag} {mg : Str → Option Value} {base : Heap} {T : Wt} {cdv : Value} {A0 A : Around} {outer0 outer : List Env} {s0 s : Shared} {H0 H : Hp} {E0' E : XK} {f c' : Addr}
theorem pe_l0 (kn : Kn K mg) (kx : Kx K) (kt : Kt K mg base T) (hr : Room 14 (A.deeper (lamEnv (lawX P w K mg base cdv A0 outer0 s0 H0 E0') (lamS lam0) s.heap.objs.size f c'))) :
    PE (lamCx (lawX P w K mg base cdv A0 outer0 s0 H0 E0') A outer s H E (lamS lam0) f c') (lamE lam0) (tL0 K T E) := by
  refine ⟨fun pins s' σ H' Q I h => ?_⟩
  obtain ⟨l, dxl, fs, h1, h2, h3, h4⟩ := h
  refine (pm (pos := _) (ok_largest (T := T) kn kx kt) (kn.cls "Ledger") (kn.meth "Ledger" "largest_withdrawal") hr (passes_call (takes_of (E := E) rfl rfl rfl rfl) (fun _ _ _ _ h => h)) (pv 5) (pa_cons pe_str pa_nil)).run pins s' σ H' Q I ?_
  exact ⟨_, h1, l, dxl, fs, rfl, h2, h3, h4⟩
theorem pe_l1 (kn : Kn K mg) (kx : Kx K) (hr : Room 14 (A.deeper (lamEnv (lawX P w K mg base cdv A0 outer0 s0 H0 E0') (lamS lam1) s.heap.objs.size f c'))) :
    PE (lamCx (lawX P w K mg base cdv A0 outer0 s0 H0 E0') A outer s H E (lamS lam1) f c') (lamE lam1) (tL1 K T E) := by
  refine ⟨fun pins s' σ H' Q I h => ?_⟩
  obtain ⟨l, pl, dxl, cal, fl, b, dx, ad, dd, ps, c, day, k, lim, bal, j, os, n, h1, h2, hj, L, hok, tb, hE⟩ := h
  refine (pm (pos := _) (ok_earliestA (T := T) kn kx) (kn.cls "Ledger") (kn.meth "Ledger" "earliest_withdrawal") (hr.mono (by decide)) (passes_call (takes_of (E := E) rfl rfl rfl rfl) (fun _ _ _ _ h => h)) (pv 5) (pa_cons pe_str (pa_cons (pe_ix ix_list (pe_lst (pa_cons pe_int (pa_cons (pe_op op_add (pe_op op_pow pe_int pe_int) pe_int) pa_nil))) (pv 2) (fun _ _ => rfl)) pa_nil))).run pins s' σ H' Q I ?_
  refine ⟨_, h1, l, dxl, _, rfl, L.obj, rfl, _, _, rfl, rfl, ⟨by decide, by decide, by decide⟩, _, _, rfl, rfl, (by decide : 2 ≤ sizeLine), fun q hq => ?_⟩
  have g1 := (Gr.refl tb).new (o := .lst [.int 0, .int ((10 : Int) ^ (18 : Int).toNat + 1)]) hq
  have e18 : (10 : Int) ^ (18 : Int).toNat + 1 = 1000000000000000001 := by decide +kernel
  rcases hj with rfl | rfl
  · refine ⟨_, h2, q, _, _, .int 0, rfl, rfl, .inl (.inl upd_same), rfl, l, pl, dxl, cal, fl, b, dx, ad, dd, ps, c, day, k, lim, bal, 0, os, n, rfl, L.gr0 g1, hok, by omega, g1.tb, fun H2 g2 => hE H2 (g1.trans g2)⟩
  · refine ⟨_, h2, q, _, _, .int ((10 : Int) ^ (18 : Int).toNat + 1), rfl, rfl, .inl (.inl upd_same), rfl, l, pl, dxl, cal, fl, b, dx, ad, dd, ps, c, day, k, lim, bal, _, os, n, rfl, L.gr0 g1, hok, ?_, g1.tb, fun H2 g2 => hE H2 (g1.trans g2)⟩
    rw [e18]
    omega
theorem pe_l2 (kn : Kn K mg) (ky : Ky K) (hr : Room 14 (A.deeper (lamEnv (lawX P w K mg base cdv A0 outer0 s0 H0 E0') (lamS lam2) s.heap.objs.size f c'))) :
    PE (lamCx (lawX P w K mg base cdv A0 outer0 s0 H0 E0') A outer s H E (lamS lam2) f c') (lamE lam2) (tL2 K T E) := by
  refine ⟨fun pins s' σ H' Q I h => ?_⟩
  obtain ⟨l, pl, dxl, cal, fl, b, dx, ad, dd, ps, c, day, e, os, n, h1, L, tb, hE⟩ := h
  refine (pm (pos := _) (ok_largestX (T := T) kn ky) (kn.cls "Ledger") (kn.meth "Ledger" "largest_withdrawal") (hr.mono (by decide)) (passes_call (takes_of (E := E) rfl rfl rfl rfl) (fun _ _ _ _ h => h)) (pv 5) (pa_cons pe_str pa_nil)).run pins s' σ H' Q I ?_
  exact ⟨_, h1, l, dxl, _, rfl, L.obj, rfl, l, pl, dxl, cal, fl, b, dx, ad, dd, ps, c, day, e, os, n, rfl, L, tb, hE⟩
theorem pe_l3 (kn : Kn K mg) (ky : Ky K) (hr : Room 14 (A.deeper (lamEnv (lawX P w K mg base cdv A0 outer0 s0 H0 E0') (lamS lam3) s.heap.objs.size f c'))) :
    PE (lamCx (lawX P w K mg base cdv A0 outer0 s0 H0 E0') A outer s H E (lamS lam3) f c') (lamE lam3) (tL2 K T E) := by
  refine ⟨fun pins s' σ H' Q I h => ?_⟩
  obtain ⟨l, pl, dxl, cal, fl, b, dx, ad, dd, ps, c, day, e, os, n, h1, L, tb, hE⟩ := h
  refine (pm (pos := _) (ok_earliestX (T := T) kn ky) (kn.cls "Ledger") (kn.meth "Ledger" "earliest_withdrawal") (hr.mono (by decide)) (passes_call (takes_of (E := E) rfl rfl rfl rfl) (fun _ _ _ _ h => h)) (pv 5) (pa_cons pe_str (pa_cons pe_int pa_nil))).run pins s' σ H' Q I ?_
  exact ⟨_, h1, l, dxl, _, rfl, L.obj, rfl, l, pl, dxl, cal, fl, b, dx, ad, dd, ps, c, day, 0, e, os, n, rfl, L, tb, hE⟩
end
end So
end
section
set_option maxHeartbeats 8000000
/-! What the law's body knows between its calls. -/
namespace So
open PySem PySem.Spec PyProof.Rows L2 He LamX
theorem nSH {H : Hp} {a cs b : Addr} {o : HO} (h : HAt H a cs) (e : H b = some o) (n : ∀ xs, o ≠ .lst xs) : ¬ SH a cs b := fun z => by
  obtain ⟨m, ix, ns, h1, h2, _⟩ := h
  rcases z with z | z
  · rw [z, h1] at e
    exact n _ (Option.some.inj e).symm
  · rw [z, h2] at e
    exact n _ (Option.some.inj e).symm
structure LawS (K : PySem.W.Frag) (T : Wt) (H : Hp) (a cs l pl dxl cal : Addr) (ps : List Int) (c day : Int) (acc : Option AccE) (os : List Ord) (n : Nat) : Prop where
  h : HAt H a cs
  L : LedE K H l pl dxl cal ps c day acc os n
  n1 : pl ≠ a
  n2 : pl ≠ cs
  tb : Tbs T H
section
variable {K : PySem.W.Frag} {T : Wt} {H H' : Hp} {a cs l pl dxl cal : Addr} {ps : List Int} {c day : Int} {acc acc' : Option AccE} {os os' : List Ord} {n n' : Nat}
theorem LawS.obj (S : LawS K T H a cs l pl dxl cal ps c day acc os n) : ∃ fl b, H l = some (.ins (ga K "Ledger") dxl (ledF cal b pl fl)) := by
  obtain ⟨fl, b, dx, ad, dd, L⟩ := S.L
  exact ⟨fl, b, L.obj⟩
theorem LawS.calAt (S : LawS K T H a cs l pl dxl cal ps c day acc os n) : CalAt H cal ps c := by
  obtain ⟨fl, b, dx, ad, dd, L⟩ := S.L
  exact L.cal
theorem LawS.gr0 (S : LawS K T H a cs l pl dxl cal ps c day acc os n) (g : Gr T H H') : LawS K T H' a cs l pl dxl cal ps c day acc os n := ⟨S.h.gr g, S.L.gr0 g, S.n1, S.n2, g.tb⟩
theorem LawS.grH (S : LawS K T H a cs l pl dxl cal ps c day acc os n) (g : GrB T (SH a cs) H H') (hh : HAt H' a cs) : LawS K T H' a cs l pl dxl cal ps c day acc os n := by
  refine ⟨hh, ?_, S.n1, S.n2, g.tb⟩
  obtain ⟨fl, b, dx, ad, dd, L⟩ := S.L
  have k : ∀ {b : Addr} {o : HO}, H b = some o → (∀ xs, o ≠ .lst xs) → ¬ SH a cs b := fun e q => nSH S.h e q
  refine ⟨fl, b, dx, ad, dd, g.at L.obj (k L.obj (fun _ z => by cases z)), g.at L.cal (k L.cal (fun _ z => by cases z)), ?_, ?_⟩
  · obtain ⟨xs, e, hl⟩ := L.past
    exact ⟨xs, g.at e (fun z => z.elim S.n1 S.n2), hl⟩
  · refine L.book.gr g (k L.book.obj (fun _ z => by cases z)) ?_ ?_ fun t xs e => k e (fun _ z => by cases z)
    · have := L.book.acc
      cases acc with
      | none => exact k this (fun _ z => by cases z)
      | some p =>
        obtain ⟨k', lim, bal⟩ := p
        obtain ⟨t, h1, h2⟩ := this
        exact k h1 (fun _ z => by cases z)
    · obtain ⟨ts, h1, h2⟩ := L.book.due
      exact k h1 (fun _ z => by cases z)
theorem LawS.grL (S : LawS K T H a cs l pl dxl cal ps c day acc os n) (g : GrB T (SL l pl) H H') (L' : LedE K H' l pl dxl cal ps c day acc' os' n') : LawS K T H' a cs l pl dxl cal ps c day acc' os' n' := by
  obtain ⟨fl, b, e⟩ := S.obj
  have hh := S.h
  refine ⟨S.h.grB g (fun z => ?_) (fun z => ?_), L', S.n1, S.n2, g.tb⟩
  · rcases z with z | z
    · obtain ⟨m, ix, ns, h1, h2, _⟩ := hh
      rw [z, e] at h1
      cases h1
    · exact S.n1 z.symm
  · rcases z with z | z
    · obtain ⟨m, ix, ns, h1, h2, _⟩ := hh
      rw [z, e] at h2
      cases h2
    · exact S.n2 z.symm
/-! ### the kind -/
theorem kind_at {r : Int} (h0 : 0 ≤ r) (h1 : r < 5) : ∃ k : Kd, atI [V.str "limited", V.str "savings", V.str "open"] (r / 2) = some (.str k.str) := by
  have h : r / 2 = 0 ∨ r / 2 = 1 ∨ r / 2 = 2 := by omega
  rcases h with h | h | h
  · rw [h]; exact ⟨.li, rfl⟩
  · rw [h]; exact ⟨.sa, rfl⟩
  · rw [h]; exact ⟨.op, rfl⟩
theorem kind_ok {k : Kd} {r q : Int} (h0 : 0 ≤ r) (h1 : r < 100) (q0 : 0 ≤ q) (q1 : q < 300) : AccOk k (r * (if decide (V.str k.str = V.str "limited") = true then 1 else 0)) q ∧ r * (if decide (V.str k.str = V.str "limited") = true then 1 else 0) ≤ 100 := by
  cases k with
  | op =>
    have e : decide (V.str (Kd.op).str = V.str "limited") = false := by decide +kernel
    rw [e]
    exact ⟨by show r * 0 = 0; omega, by show r * 0 ≤ 100; omega⟩
  | sa =>
    have e : decide (V.str (Kd.sa).str = V.str "limited") = false := by decide +kernel
    rw [e]
    refine ⟨⟨by show r * 0 = 0; omega, q0⟩, by show r * 0 ≤ 100; omega⟩
  | li =>
    have e : decide (V.str (Kd.li).str = V.str "limited") = true := by decide +kernel
    rw [e]
    refine ⟨⟨?_, ?_, ?_⟩, ?_⟩
    · show 0 ≤ r * 1; omega
    · show r * 1 ≤ _; omega
    · show 0 - r * 1 ≤ q; omega
    · show r * 1 ≤ 100; omega
/-! ### what is found -/
def Fnd (H : Hp) (fa : Addr) (os : List Ord) (c day : Int) (k : Kd) (lim bal0 : Int) : Prop :=
  (k = .op ∧ H fa = some (.tup [.str "value", .non])) ∨ (k ≠ .op ∧ drf os c < 0 ∧ H fa = some (.tup [.str "endless"])) ∨
  (k ≠ .op ∧ ¬ drf os c < 0 ∧ ∃ v, H fa = some (.tup [.str "value", .int (v - (0 - lim))]) ∧ LeastV os c (day + 1) bal0 v)
theorem Fnd.gr {fa : Addr} {k : Kd} {lim bal0 : Int} {S : Addr → Prop} (h : Fnd H fa os c day k lim bal0) (g : GrB T S H H') (ns : ∀ xs, H fa = some (.tup xs) → ¬ S fa) : Fnd H' fa os c day k lim bal0 := by
  rcases h with ⟨h1, h2⟩ | ⟨h1, h2, h3⟩ | ⟨h1, h2, v, h3, h4⟩
  · exact .inl ⟨h1, g.at h2 (ns _ h2)⟩
  · exact .inr (.inl ⟨h1, h2, g.at h3 (ns _ h3)⟩)
  · exact .inr (.inr ⟨h1, h2, v, g.at h3 (ns _ h3), h4⟩)
def Soon (soon : V) (os : List Ord) (c day : Int) (k : Kd) (lim bal0 am : Int) : Prop :=
  (k = .op ∧ soon = .int day) ∨ (k ≠ .op ∧ everLow os c (day + 1) bal0 (0 - lim + am) ∧ soon = .non) ∨
  (k ≠ .op ∧ ∃ r q, lastOf os c (day + 1) bal0 (0 - lim + am) r ∧ FirstMay k c (fromOf (day + 1) r) q ∧ soon = .int q)
theorem not_both {s0 op lev : Int} {r : Option Int} (h1 : everLow os c s0 op lev) (h2 : lastOf os c s0 op lev r) : False := by
  obtain ⟨i, hi, e⟩ := h1
  exact h2.1 i hi e
theorem found_of {fa : Addr} {soon : V} {k : Kd} {lim bal0 am : Int} (c1 : 1 ≤ c) (hf : Fnd H fa os c day k lim bal0) (hs : Soon soon os c day k lim bal0 am) : FoundOk H fa soon os c day k lim bal0 am := by
  rcases hf with ⟨h1, h2⟩ | ⟨h1, h2, h3⟩ | ⟨h1, h2, v, h3, h4⟩
  · rcases hs with ⟨_, s⟩ | ⟨z, _⟩ | ⟨z, _⟩
    · exact .inl ⟨h1, h2, s⟩
    · exact absurd h1 z
    · exact absurd h1 z
  · rcases hs with ⟨z, _⟩ | ⟨_, _, s⟩ | ⟨_, r, q, l, _⟩
    · exact absurd z h1
    · exact .inr (.inl ⟨h1, h2, h3, s⟩)
    · exact (not_both (ever_neg c1 h2) l).elim
  · rcases hs with ⟨z, _⟩ | ⟨_, e, s⟩ | ⟨_, r, q, l, f, s⟩
    · exact absurd z h1
    · exact .inr (.inr ⟨h1, h2, v, h3, h4, .inl ⟨e, s⟩⟩)
    · exact .inr (.inr ⟨h1, h2, v, h3, h4, .inr ⟨r, q, l, f, s⟩⟩)
theorem earl_read {k : Kd} {lim bal0 am : Int} {Q : VK} {E : XK} (L : LedE K H l pl dxl cal ps c day (some (k, lim, bal0)) os n) (hok : AccOk k lim bal0) (pb : PlanB ps c (day + 1) os) (ha : 1 ≤ am ∧ am ≤ 1000000000000000000) (tb : Tbs T H)
    (hq : ∀ soon H', Gr T H H' → Soon soon os c day k lim bal0 am → Q soon H') : spEarliest K T [.ref l, .str bobS, .int am] H Q E := by
  obtain ⟨fl, b, dx, ad, dd, L⟩ := L
  refine ⟨l, pl, dxl, cal, fl, b, dx, ad, dd, ps, c, day, k, lim, bal0, am, os, n, rfl, L, hok, pb, ha, tb, fun e H' g => hq _ H' g (.inl ⟨e, rfl⟩), fun e h H' g => hq _ H' g (.inr (.inl ⟨e, h, rfl⟩)), fun e r q H' g h1 h2 => hq _ H' g (.inr (.inr ⟨e, r, q, h1, h2, rfl⟩))⟩
end
end So
end
section
set_option maxHeartbeats 16000000
/-! What the law makes of its lambdas. -/
namespace So
open PySem PySem.Spec PyProof.Rows L2 He LamX
def lamQ : Str := (("law" : Str) ++ (".<locals>." : Str)) ++ ("<lambda>" : Str)
/-- the law's own table -/
structure Kl (K : PySem.W.Frag) (T : Wt) : Prop where
  mem : ((cT K ("law", none)).2, lamQ) ∈ T.lam
  uni : ∀ p ∈ T.lam, p.1 = (cT K ("law", none)).2 → p.2 = lamQ
/-- the three works -/
inductive W3 where
  | a | b | c
def W3.lam : W3 → Expr
  | .a => lam1
  | .b => lam2
  | .c => lam3
def W3.dz : W3 → Bool
  | .c => true
  | _ => false
def W3.tt (K : PySem.W.Frag) (T : Wt) : W3 → (XK → Hp → VK → Prop) → Hp → VK → Prop
  | .a => TTerr K T "InvalidAmount" "amount"
  | _ => TTua K T
def W3.tb (K : PySem.W.Frag) (T : Wt) : W3 → XK → TE
  | .a => tL1 K T
  | _ => tL2 K T
abbrev FTt : Type := (XK → Hp → VK → Prop) → Hp → VK → Prop
/-- what comes of the first -/
def TT0 (K : PySem.W.Frag) (T : Wt) (bad : Bool) : FTt := if bad = true then TTerr K T "Endless" "endless" else TTval
def spLaw (K : PySem.W.Frag) (T : Wt) : Sp := fun vs H Q _ => ∃ (sc : Addr) (ns : List Int), vs = [.ref sc] ∧ SqL K H sc (ns.map V.int) ∧ ns.length ≤ 63 ∧ Tbs T H ∧ ∀ H', Q (.bl true) H'
section
variable {P : Program} {w : World} {K : PySem.W.Frag} {mg : Str → Option Value} {base : Heap} {T : Wt}
/-- _law_outcome of the first lambda, what comes of it known by the reading -/
def tOutD (X : Cx) (params : Arguments) (body : Expr) (lsc : Scope) (dz : Bool) (TT : Bool → FTt) (tb : XK → TE) (te : TE) : TE := fun σ H Q => ∃ bad, tOutX X params body lsc dz (TT bad) tb te σ H Q
theorem pe_outD {X : Cx} {params : Arguments} {body : Expr} {lsc : Scope} {dz : Bool} {TT : Bool → FTt} {tb : XK → TE} {k : Nat} {e : Expr} {te : TE} {p pos : Pos}
    (kn : Kn X.K X.mg) (L : LamL X.N X.env.scope lsc) (B : LamB params body lsc dz)
    (hG : ∀ (bad : Bool) (g : Addr) (cdg : Value), GivesTo X outN "_law_outcome" (defScope s__law_outcome) g cdg (defBody s__law_outcome) "_law_call" (X.env.qual ++ "<lambda>") (TT bad))
    (hr : Room (k + 2) X.A)
    (hbody : ∀ (A : Around) (outer : List Env) (s : Shared) (H : Hp) (E : XK) (f c' : Addr), Room k (A.deeper (lamEnv X lsc s.heap.objs.size f c')) → PE (lamCx X A outer s H E lsc f c') body (tb E))
    (ha : PE X e te) (hg : Gl X "_law_outcome" := by rfl) (he : starEach [e] X.env = (false, eval e X.env) :: starEach [] X.env := by rfl) :
    PE X (.Call (.Name "_law_outcome" p) [e] [] pos) (tOutD X params body lsc dz TT tb te) := by
  refine ⟨fun pins s σ H Q I h => ?_⟩
  obtain ⟨bad, h⟩ := h
  exact (pe_outX kn L B (hG bad) hr hbody ha hg he).run pins s σ H Q I h

/-- THE RULE for a def whose code object is looked at, its function object known -/
theorem fnok_ofC {CX : CXT} {fd : FuncData} {x : Str} {st : Stmt} {N ps : List Str} {k : Nat} {sp : Sp} (F : FunD K x x (defArgs st) (defBody st) (defScope st) [] [] (ga K x) fd) (S : FnScope N ps (defScope st)) (len : ∀ vs H Q E, sp vs H Q E → vs.length = ps.length)
    (hbody : ∀ (cdv : Value), cdv = .ref (cT K (x, none)).1 → ∀ (A : Around) (outer : List Env) (s : Shared) (H : Hp) (vs : List V) (Q : VK) (E : XK), Room k (A.deeper (envOfC x (defScope st) s.heap.objs.size (ga K x) cdv)) → sp vs H Q E →
      ∃ t, PSs (cxOf CX P w K mg base N x (defScope st) (ga K x) cdv A outer s H E) (defBody st) t ∧ t { nx := fun _ H' => Q .non H', rt := Q } (start N vs) H) : FnOk P w K mg base CX (k + 1) (ga K x) fd ps sp := by
  obtain ⟨oc, od, dV, kV, doc, pm, an, cdv, ct, osl, rfl, lk, hcd, _, _⟩ := F.ex
  obtain ⟨c, rfl⟩ := codeIn_ref hcd
  have e : codeOf K (x, none) = c := codeOf_eq (p := (x, none)) lk rfl
  exact fn_of lk hcd S len fun A outer s H vs Q E hr hsp => hbody _ (by show Value.ref c = Value.ref (codeOf K (x, none)); rw [e]) A outer s H vs Q E hr hsp
theorem out0_read {X : Cx} {H : Hp} {σ : L2.St} {Q : VK} {l pl dxl cal : Addr} {ps : List Int} {c day lim bal0 : Int} {k : Kd} {os : List Ord} {n : Nat} (L : LedE K H l pl dxl cal ps c day (some (k, lim, bal0)) os n) (hok : AccOk k lim bal0) (pb : PlanB ps c (day + 1) os) (tb : Tbs T H)
    (h5 : σ[5]? = some (some (.ref l))) (hq : ∀ fa H5, Gr T H H5 → Fnd H5 fa os c day k lim bal0 → Q (.ref fa) H5) :
    tOutD X (lamP lam0) (lamE lam0) (lamS lam0) false (TT0 K T) (tL0 K T) (tLamV X T (lamP lam0) (lamE lam0) (lamS lam0) false) σ H Q := by
  by_cases hd : k ≠ .op ∧ drf os c < 0
  · refine ⟨true, tb, fun f H1 g hf hl => ⟨f, rfl, hl, hl, ?_⟩⟩
    obtain ⟨fl, b, dx, ad, dd, L1⟩ := L.gr0 g
    refine ⟨l, dxl, _, h5, L1.obj, rfl, l, pl, dxl, cal, fl, b, dx, ad, dd, ps, c, day, k, lim, bal0, os, n, rfl, L1, hok, pb, g.tb, fun e => absurd e hd.1, fun _ _ H' g' => ?_, fun _ e => absurd hd.2 e⟩
    exact ⟨rfl, rfl, g'.tb, fun t H2 g2 _ ht => hq t H2 ((g.trans g').trans g2) (.inr (.inl ⟨hd.1, hd.2, ht⟩))⟩
  · refine ⟨false, tb, fun f H1 g hf hl => ⟨f, rfl, hl, hl, ?_⟩⟩
    obtain ⟨fl, b, dx, ad, dd, L1⟩ := L.gr0 g
    refine ⟨l, dxl, _, h5, L1.obj, rfl, l, pl, dxl, cal, fl, b, dx, ad, dd, ps, c, day, k, lim, bal0, os, n, rfl, L1, hok, pb, g.tb, fun e H' g' => ?_, fun e h => absurd ⟨e, h⟩ hd, fun e h v H' g' hL => ?_⟩
    · exact ⟨by show 2 ≤ sizeLine; decide, fun t ht => hq t _ ((g.trans g').new ht) (.inl ⟨e, upd_same⟩)⟩
    · exact ⟨by show 2 ≤ sizeLine; decide, fun t ht => hq t _ ((g.trans g').new ht) (.inr (.inr ⟨e, h, v, upd_same, hL⟩))⟩
theorem IsLam.set {X : Cx} {params : Arguments} {body : Expr} {scope : Scope} {dz : Bool} {f wk : Addr} {H : Hp} {xs : List V} {o : HO} (h : IsLam X params body scope dz f H) (hw : H wk = some (.lst xs)) : IsLam X params body scope dz f (upd H wk o) := by
  obtain ⟨c', dV, h1, h2, h3, h4⟩ := h
  have ne : ∀ {b : Addr} {u : HO}, H b = some u → (u ≠ .lst xs) → upd H wk o b = some u := fun {b u} e n => by
    rw [upd_ne (fun z => n (Option.some.inj (by rw [← e, z, hw])))]
    exact e
  refine ⟨c', dV, ne h1 (fun z => by unfold LamO at z; cases z), ne h2 (fun z => by unfold CodeO at z; cases z), h3, fun z => ?_⟩
  obtain ⟨Tp, e, hT⟩ := h4 z
  exact ⟨Tp, e, ne hT (fun z => by cases z)⟩
def W3.out : W3 → List V
  | .a => [.str "amount"]
  | _ => [.str "account", .str alS]
theorem tYes_read {σ : L2.St} {H : Hp} {Q : Bool → Hp → Prop} (h : Q true H) : tYes σ H Q := h
theorem if_tt {p q : Prop} (h : p) : (if (true = true) then p else q) := by
  rw [if_pos rfl]
  exact h
def W3.nth : Nat → W3
  | 0 => .a
  | 1 => .b
  | _ => .c
def wD : W3 → PyData
  | .a => .tuple [.str "amount"]
  | _ => .tuple [.str "account", .str alS]
theorem outD_dp {K : PySem.W.Frag} {H : Hp} {t : Addr} (i : W3) (h : H t = some (.tup i.out)) : Dp K H (.ref t) (wD i) := by
  cases i with
  | a => exact .tup (.inl (.inl h)) (.cons (.str _) .nil)
  | b => exact .tup (.inl (.inl h)) (.cons (.str _) (.cons (.str _) .nil))
  | c => exact .tup (.inl (.inl h)) (.cons (.str _) (.cons (.str _) .nil))
def worksD : PyData := .list [wD .a, wD .b, wD .c]
theorem works_dp {K : PySem.W.Frag} {H : Hp} {D t1 t2 t3 : Addr} (hD : H D = some (.lst [.ref t1, .ref t2, .ref t3])) (h1 : H t1 = some (.tup W3.a.out)) (h2 : H t2 = some (.tup W3.b.out)) (h3 : H t3 = some (.tup W3.c.out)) : Dp K H (.ref D) worksD :=
  .lst (.inl (.inl hD)) (.cons (outD_dp .a h1) (.cons (outD_dp .b h2) (.cons (outD_dp .c h3) .nil)))
theorem works_shaped : SeqAt.shaped worksD = true := by decide +kernel
theorem works_eqv : PyData.eqv worksD worksD = true := by decide +kernel
theorem outL_read {X : Cx} {H : Hp} {σ σ9 : L2.St} {Q : VK} {l pl dxl cal f : Addr} {ps : List Int} {c day lim bal0 j : Int} {k : Kd} {os : List Ord} {n : Nat} (i : W3) (L : LedE K H l pl dxl cal ps c day (some (k, lim, bal0)) os n) (hok : AccOk k lim bal0) (tb : Tbs T H)
    (h5 : σ[5]? = some (some (.ref l))) (h2 : σ[2]? = some (some (.int j))) (hj : j = 0 ∨ j = 1) (h14 : σ9[14]? = some (some (.ref f))) (hl : IsLam X (lamP i.lam) (lamE i.lam) (lamS i.lam) i.dz f H)
    (hq : ∀ t H', Gr T H H' → H t = none → H' t = some (.tup i.out) → Q (.ref t) H') :
    tOutL X σ (fun i => lamP (W3.lam i)) (fun i => lamE (W3.lam i)) (fun i => lamS (W3.lam i)) W3.dz (W3.tt K T) (W3.tb K T) (tVar 14) σ9 H Q := by
  obtain ⟨fl, b, dx, ad, dd, L⟩ := L
  refine ⟨_, h14, i, f, rfl, hl, ?_⟩
  cases i with
  | a =>
    refine ⟨hl, l, pl, dxl, cal, fl, b, dx, ad, dd, ps, c, day, k, lim, bal0, j, os, n, h5, h2, hj, L, hok, tb, fun H' g => ⟨rfl, rfl, g.tb, fun t H2 g2 hn ht => hq t H2 (g.trans g2) (g.nn hn) ht⟩⟩
  | b =>
    refine ⟨hl, l, pl, dxl, cal, fl, b, dx, ad, dd, ps, c, day, (k, lim, bal0), os, n, h5, L, tb, fun d H' g hd => ⟨rfl, ⟨d, rfl, hd⟩, g.tb, fun t H2 g2 hn ht => hq t H2 (g.trans g2) (g.nn hn) ht⟩⟩
  | c =>
    refine ⟨hl, l, pl, dxl, cal, fl, b, dx, ad, dd, ps, c, day, (k, lim, bal0), os, n, h5, L, tb, fun d H' g hd => ⟨rfl, ⟨d, rfl, hd⟩, g.tb, fun t H2 g2 hn ht => hq t H2 (g.trans g2) (g.nn hn) ht⟩⟩
end
end So
end
section
set_option maxHeartbeats 16000000
/-! The law. -/
namespace So
open PySem PySem.Spec PyProof.Rows L2 He LamX
section
variable {P : Program} {w : World} {K : PySem.W.Frag} {mg : Str → Option Value} {base : Heap} {T : Wt}
theorem ok_law {fdl : FuncData} (Fl : FunD K "law" "law" (defArgs s_law) (defBody s_law) (defScope s_law) [] [] (ga K "law") fdl) (kn : Kn K mg) (kx : Kx K) (ky : Ky K) (kt : Kt K mg base T) (kl : Kl K T) (ms : MaySa P w K mg base) : FnOk P w K mg base CX0 17 (ga K "law") fdl ["_law_script"] (spLaw K T) := by
  refine fnok_ofC Fl sc_law (fun vs H Q E h => ?_) (fun cdv hcd A outer s H vs Q E hr h => ?_)
  · obtain ⟨sc, ns, rfl, _⟩ := h
    rfl
  · obtain ⟨sc, ns, rfl, hsc, hlen, tb, hq⟩ := h
    have cL := kn.cls "Ledger"
    obtain ⟨fd, F, hb⟩ := ok_led_init (P := P) (w := w) (base := base) (T := T) kn kx
    have nd := sc_law.nd
    have tbl := kt.tb "law" (by decide +kernel)
    have TB : LamX.TabB base mg (cT K ("law", none)).1 (cT K ("law", none)).2 := ⟨tbl.code, tbl.bm, tbl.gP⟩
    have hG0 : ∀ (bad : Bool) (g : Addr) (cdg : Value), GivesTo (lawX P w K mg base cdv A outer s H E) outN "_law_outcome" (defScope s__law_outcome) g cdg (defBody s__law_outcome) "_law_call" lamQ (TT0 K T bad) := fun bad g cdg => by
      cases bad with
      | true => exact out_err (x := "Endless") (wd := "endless") kn kx ky (by decide) (.inl ⟨rfl, rfl⟩)
      | false => exact out_val kn
    have hL3 : ∀ i : W3, LamL lawN (defScope s_law) (lamS (W3.lam i)) := fun i => by cases i <;> first | exact lamL1 | exact lamL2 | exact lamL3
    have hB3 : ∀ i : W3, LamB (lamP (W3.lam i)) (lamE (W3.lam i)) (lamS (W3.lam i)) (W3.dz i) := fun i => by cases i <;> first | exact lamB1 | exact lamB2 | exact lamB3
    have hG3 : ∀ (i : W3) (g : Addr) (cdg : Value), GivesTo (lawX P w K mg base cdv A outer s H E) outN "_law_outcome" (defScope s__law_outcome) g cdg (defBody s__law_outcome) "_law_call" lamQ (W3.tt K T i) := fun i g cdg => by
      cases i with
      | a => exact out_err (x := "InvalidAmount") (wd := "amount") kn kx ky (by decide) (.inr ⟨rfl, rfl⟩)
      | b => exact out_ua kn kx ky
      | c => exact out_ua kn kx ky
    have hbody3 : ∀ (i : W3) (A1 : Around) (outer1 : List Env) (s1 : Shared) (H1 : Hp) (E1 : XK) (f c' : Addr), Room 14 (A1.deeper (lamEnv (lawX P w K mg base cdv A outer s H E) (lamS (W3.lam i)) s1.heap.objs.size f c')) →
        PE (lamCx (lawX P w K mg base cdv A outer s H E) A1 outer1 s1 H1 E1 (lamS (W3.lam i)) f c') (lamE (W3.lam i)) (W3.tb K T i E1) := fun i A1 outer1 s1 H1 E1 f c' hr2 => by
      cases i with
      | a => exact pe_l1 kn kx hr2
      | b => exact pe_l2 kn ky hr2
      | c => exact pe_l3 kn ky hr2
    refine ⟨_, PSs.nox (pss_cons (ps_set (i := 1) nd rfl (.inl rfl) (pf (ok_mix (T := T) kn) (hr.mono (by decide)) (kn.glo "_law_mix") pass0 (pa_cons (pv 0) (pa_cons pe_int pa_nil))))
      (pss_cons (ps_for PassesOwn.never rfl (pi_range1 rfl (kn.free "range") (pa_cons pe_int pa_nil)) (pg_name (i := 2) nd rfl (.inr rfl))
       (pss_cons (ps_par (i := 3) (j := 4) rfl nd rfl rfl (by decide) rfl rfl (pa_cons (pf (ok_calendar (T := T) kn) (hr.mono (by decide)) (kn.glo "_law_calendar") pass0 (pa_cons (pv 1) pa_nil)) (pa_cons (pe_op op_sub (pf (ok_next (T := T) kn) (hr.mono (by decide)) (kn.glo "_law_next") pass0 (pa_cons (pv 1) (pa_cons pe_int pa_nil))) pe_int) pa_nil)) rfl)
      (pss_cons (ps_asg (pe_tup (pa_cons (pe_makeK (n := 1) (kn.mkr "Ledger") F (hr.mono (by decide)) rfl (kn.glo "Ledger") hb pass0 (pa_cons (pv 3) pa_nil) (pk_cons (pv 4) pk_nil)) (pa_cons (pe_ix ix_list (pe_lst (pa_cons pe_str (pa_cons pe_str (pa_cons pe_str pa_nil)))) (pe_op op_fdiv (pf (ok_next (T := T) kn) (hr.mono (by decide)) (kn.glo "_law_next") pass0 (pa_cons (pv 1) (pa_cons pe_int pa_nil))) pe_int) (fun _ _ => rfl)) pa_nil))) (pg_tup rfl (pgs_cons (pg_name (i := 5) nd rfl (.inr rfl)) (pgs_cons (pg_name (i := 6) nd rfl (.inl rfl)) pgs_nil))))
      (pss_cons (ps_expr (pm (ok_open_account (T := T) kn kx) cL (kn.meth "Ledger" "open_account") (hr.mono (by decide)) pass0 (pv 5) (pa_cons pe_str (pa_cons (pv 6) (pa_cons (pe_op op_mul (pf (ok_next (T := T) kn) (hr.mono (by decide)) (kn.glo "_law_next") pass0 (pa_cons (pv 1) (pa_cons pe_int pa_nil))) (pe_callTy call_int1 rfl (kn.free "int") boot_int (pa_cons (pe_cmpR op_eq (pv 6) pe_str (nomark _)) pa_nil))) (pa_cons (pf (ok_next (T := T) kn) (hr.mono (by decide)) (kn.glo "_law_next") pass0 (pa_cons (pv 1) (pa_cons pe_int pa_nil))) pa_nil))))))
      (pss_cons (ps_for PassesOwn.never rfl (pi_range1 rfl (kn.free "range") (pa_cons (pf (ok_next (T := T) kn) (hr.mono (by decide)) (kn.glo "_law_next") pass0 (pa_cons (pv 1) (pa_cons pe_int pa_nil))) pa_nil)) (pg_name (i := 7) nd rfl (.inl rfl))
        (pss_cons (ps_set (i := 8) nd rfl (.inl rfl) (pe_ix ix_tup (pv 3) (pf (ok_next (T := T) kn) (hr.mono (by decide)) (kn.glo "_law_next") pass0 (pa_cons (pv 1) (pa_cons (pe_callB (call_len_seq) rfl (kn.free "len") boot_len (pa_cons (pv 3) pa_nil)) pa_nil))) (fun _ _ => rfl)))
        (pss_cons (ps_set (i := 9) nd rfl (.inl rfl) (pe_op op_add pe_int (pf (ok_next (T := T) kn) (hr.mono (by decide)) (kn.glo "_law_next") pass0 (pa_cons (pv 1) (pa_cons pe_int pa_nil)))))
        (pss_one (ps_expr (pm (ok_add_order (T := T) kn kx) cL (kn.meth "Ledger" "add_order") (hr.mono (by decide)) pass0 (pv 5) (pa_cons pe_str (pa_cons (pv 8) (pa_cons (pf (ok_next (T := T) kn) (hr.mono (by decide)) (kn.glo "_law_next") pass0 (pa_cons (pv 1) (pa_cons (pv 8) pa_nil))) (pa_cons (pe_ix ix_list (pe_lst (pa_cons (pv 9) (pa_cons (pe_op op_sub pe_int (pv 9)) pa_nil))) (pe_op op_fdiv (pf (ok_next (T := T) kn) (hr.mono (by decide)) (kn.glo "_law_next") pass0 (pa_cons (pv 1) (pa_cons pe_int pa_nil))) pe_int) (fun _ _ => rfl)) pa_nil))))))))))
      (pss_cons (ps_set (i := 10) nd rfl (.inl rfl) (pm (ok_account (T := T) kn kx) cL (kn.meth "Ledger" "account") (hr.mono (by decide)) pass0 (pv 5) (pa_cons pe_str pa_nil)))
      (pss_cons (ps_set (i := 11) nd rfl (.inl rfl) (pe_outD (X := lawX P w K mg base cdv A outer s H E) (k := 14) kn lamL0 lamB0 (fun bad g cdg => hG0 bad g cdg) hr (fun A outer s H E f c' hr2 => pe_l0 kn kx kt hr2) (pe_lam TB hcd kl.mem kl.uni kt.lam lamL0.free rfl)))
      (pss_cons (ps_set (i := 9) nd rfl (.inl rfl) (pe_op op_add pe_int (pf (ok_next (T := T) kn) (hr.mono (by decide)) (kn.glo "_law_next") pass0 (pa_cons (pv 1) (pa_cons (pe_ix ix_list (pe_lst (pa_cons pe_int (pa_cons pe_int pa_nil))) (pf (ok_next (T := T) kn) (hr.mono (by decide)) (kn.glo "_law_next") pass0 (pa_cons (pv 1) (pa_cons pe_int pa_nil))) (fun _ _ => rfl)) pa_nil)))))
      (pss_cons (ps_set (i := 12) nd rfl (.inl rfl) (pm (ok_earliest (T := T) kn kx kt ms) cL (kn.meth "Ledger" "earliest_withdrawal") (hr.mono (by decide)) pass0 (pv 5) (pa_cons pe_str (pa_cons (pv 9) pa_nil))))
      (pss_cons (ps_if (pt_not (pt_val (pf (ok_found_right (T := T) kn kx kt ms) (hr.mono (by decide)) (kn.glo "_law_found_right") pass0 (pa_cons (pv 5) (pa_cons (pv 10) (pa_cons (pv 11) (pa_cons (pv 12) (pa_cons (pv 9) pa_nil)))))))) (pss_one (ps_ret pe_bl)) pss_nil)
      (pss_cons (ps_set (i := 13) nd rfl (.inl rfl) (pe_lst (pa_cons (pe_lam (params := lamP lam1) (body := lamE lam1) (scope := lamS lam1) TB hcd kl.mem kl.uni kt.lam lamL1.free rfl) pa_nil)))
      (pss_cons (ps_expr (pe_bm PySem.F.plainAttrs_list PySem.F.slot_list_extend PySem.F.type_list_extend mt_extend (pv 13) (pa_cons (pe_lst (pa_cons (pe_lam (params := lamP lam2) (body := lamE lam2) (scope := lamS lam2) TB hcd kl.mem kl.uni kt.lam lamL2.free rfl) (pa_cons (pe_lamD (params := lamP lam3) (body := lamE lam3) (scope := lamS lam3) TB hcd kl.mem kl.uni kt.lam lamL3.free rfl) pa_nil))) pa_nil)))
      (pss_one (ps_if (pt_cmpR (op_neD hr.units) (pe_lcI (X := lawX P w K mg base cdv A outer s H E) (g := gName 14) (own := [("_law_call", 14)]) (tt := tYes) (te := fun σ => tOutL (lawX P w K mg base cdv A outer s H E) σ (fun i => lamP (W3.lam i)) (fun i => lamE (W3.lam i)) (fun i => lamS (W3.lam i)) W3.dz (W3.tt K T) (W3.tb K T) (tVar 14)) rfl nd (pi_list (pv 13)) (blkOk_by rfl)
          (fun _ _ _ _ _ => pg_name (i := 14) nd rfl (.inl rfl) (.inr rfl)) (fun _ _ _ _ _ => pts_nil) (fun pins σ s H C cl fp I hfp => pe_outL (k := 14) kn I hfp hL3 hB3 hG3 hr rfl hbody3 (pv 14) rfl)) (pe_lst (pa_cons (pe_tup (pa_cons pe_str pa_nil)) (pa_cons (pe_tup (pa_cons pe_str (pa_cons pe_str pa_nil))) (pa_cons (pe_tup (pa_cons pe_str (pa_cons pe_str pa_nil))) pa_nil)))) (nomark _)) (pss_one (ps_ret pe_bl)) pss_nil))))))))))))))
      (pss_one (ps_ret pe_bl)))), ?_⟩
    refine ⟨_, rfl, sc, 47, ns, rfl, hsc, hlen, tb, fun a cs H1 g1 ha hcs hh => ?_⟩
    refine ⟨2, rfl, by decide, by decide, ?_⟩
    refine for_range (n := 2) (fun i σ H' => (∃ x2 x3 x4 x5 x6 x7 x8 x9 x10 x11 x12 x13 x14, σ = [some (.ref sc), some (.ref a), x2, x3, x4, x5, x6, x7, x8, x9, x10, x11, x12, x13, x14]) ∧ HAt H' a cs ∧ Tbs T H')
      ⟨⟨_, _, _, _, _, _, _, _, _, _, _, _, _, rfl⟩, hh, g1.tb⟩ (fun i σ H' hi hiv => ?_) (fun σ H' hiv => hq H')
    obtain ⟨⟨x2, x3, x4, x5, x6, x7, x8, x9, x10, x11, x12, x13, x14, rfl⟩, hh1, tb1⟩ := hiv
    have hj : (0 + (i : Int) = 0) ∨ (0 + (i : Int) = 1) := by omega
    generalize (0 + (i : Int)) = j at hj ⊢
    -- the calendar and the day
    refine ⟨_, rfl, a, cs, rfl, hh1, tb1, fun cal ps c H2 g2 hh2 hcal hcok h48 => ?_⟩
    refine ⟨_, rfl, a, cs, 1000, rfl, hh2, ⟨by decide, by decide⟩, g2.tb, fun r H3 g3 hh3 r0 r1 => ?_⟩
    refine ⟨_, _, rfl, rfl, _, _, rfl, ?_⟩
    have hcal3 : CalAt H3 cal ps c := g3.at hcal (nSH hh2 hcal fun _ z => by cases z)
    -- the ledger
    refine ⟨_, rfl, _, rfl, rfl, rfl, led_new g3.tb hcal3 hcok fun l pl dxl H4 g4 hln hpln LE4 => ?_⟩
    obtain ⟨day, hday⟩ : ∃ day, r - 500 = day := ⟨_, rfl⟩
    rw [hday] at LE4
    have hh4 : HAt H4 a cs := hh3.gr g4
    have n1 : pl ≠ a := fun z => by
      obtain ⟨m, ix, ns', e1, _⟩ := hh3
      rw [z, e1] at hpln
      cases hpln
    have n2 : pl ≠ cs := fun z => by
      obtain ⟨m, ix, ns', _, e1, _⟩ := hh3
      rw [z, e1] at hpln
      cases hpln
    have S4 : LawS K T H4 a cs l pl dxl cal ps c day none [] 0 := ⟨hh4, LE4, n1, n2, g4.tb⟩
    refine ⟨by decide, fun q5 hq5 => ?_⟩
    have g5 := (Gr.refl g4.tb).new (o := .lst [.str "limited", .str "savings", .str "open"]) hq5
    have nq5 : ¬ SH a cs q5 := fun z => by
      obtain ⟨m, ix, ns', e1, e2, _⟩ := hh4
      rcases z with z | z
      · rw [z, e1] at hq5; cases hq5
      · rw [z, e2] at hq5; cases hq5
    refine ⟨_, rfl, a, cs, 5, rfl, hh4.gr g5, ⟨by decide, by decide⟩, g5.tb, fun r2 H6 g6 hh6 p0 p1 => ?_⟩
    have S6 := (S4.gr0 g5).grH g6 hh6
    obtain ⟨k, hk⟩ := kind_at p0 p1
    refine ⟨_, _, rfl, rfl, ⟨by omega, by omega⟩, q5, _, _, _, rfl, rfl, .inl (.inl (g6.at upd_same nq5)), hk, (by decide : 2 ≤ sizeLine), fun t7 ht7 => ?_⟩
    have g7 := (Gr.refl g6.tb).new (o := .tup [.ref l, .str k.str]) ht7
    have S7 := S6.gr0 g7
    refine ⟨t7, _, rfl, .inl (.inl upd_same), rfl, _, _, rfl, _, _, rfl, rfl, ?_⟩
    generalize hH7 : upd H6 t7 _ = H7 at S7 g7 ⊢
    -- the account
    obtain ⟨fl7, b7, ho7⟩ := S7.obj
    refine ⟨_, rfl, l, dxl, _, rfl, ho7, rfl, _, rfl, _, rfl, a, cs, 100, rfl, S7.h, ⟨by decide, by decide⟩, S7.tb, fun r8 H8 g8 hh8 s0 s1 => ?_⟩
    have S8 := S7.grH g8 hh8
    refine ⟨_, rfl, rfl, .inr ⟨_, rfl, ?_⟩⟩
    refine ⟨_, _, rfl, rfl, .inl ⟨by omega, by omega⟩, ?_⟩
    refine ⟨_, rfl, a, cs, 300, rfl, hh8, ⟨by decide, by decide⟩, g8.tb, fun bal H9 g9 hh9 u0 u1 => ?_⟩
    have S9 := S8.grH g9 hh9
    obtain ⟨hok, hlm⟩ := kind_ok (k := k) s0 s1 u0 u1
    generalize hlim : r8 * (if decide (V.str k.str = V.str "limited") = true then 1 else 0) = lim at hok hlm
    obtain ⟨fl9, b9, dx9, ad9, dd9, L9⟩ := S9.L
    refine ⟨l, pl, dxl, cal, fl9, b9, dx9, ad9, dd9, ps, c, day, k, lim, bal, [], 0, by rw [← hlim]; rfl, L9, by decide, hok, ⟨by omega, by omega⟩, S9.tb, fun fl' b' dx' ad' dd' H10 g10 L10 => ?_⟩
    have S10 := S9.grL g10 ⟨fl', b', dx', ad', dd', L10⟩
    -- the orders
    refine ⟨_, rfl, a, cs, 5, rfl, S10.h, ⟨by decide, by decide⟩, S10.tb, fun no H11 g11 hh11 v0 v1 => ?_⟩
    have S11 := S10.grH g11 hh11
    refine ⟨no, rfl, by omega, by omega, ?_⟩
    refine for_range (n := no.toNat) (fun i σ H' => (∃ x7 x8 x9, σ = [some (.ref sc), some (.ref a), some (.int j), some (.ref cal), some (.int (r - 500)), some (.ref l), some (.str k.str), x7, x8, x9, x10, x11, x12, x13, x14]) ∧ ∃ os, os.length = i ∧ (∀ o ∈ os, OrdV (ps ++ [c]) o) ∧ AmB os ∧ LawS K T H' a cs l pl dxl cal ps c day (some (k, lim, bal)) os (i + 1))
      ⟨⟨_, _, _, rfl⟩, [], rfl, (fun o h => by cases h), (fun o h => by cases h), S11⟩ (fun io σ H' hio hiv => ?_) (fun σ H' hiv => ?_)
    · obtain ⟨⟨y7, y8, y9, rfl⟩, os, hol, hov, hoa, S⟩ := hiv
      have hlc := hcok.l1
      have hlc0 := hcok.l0
      refine ⟨_, rfl, _, rfl, _, rfl, cal, _, rfl, .inr (.inl (.inl S.calAt)), a, cs, _, rfl, S.h, ⟨by rw [List.length_map]; omega, by rw [List.length_map]; omega⟩, S.tb, fun ip H12 g12 hh12 w0 w1 => ?_⟩
      rw [List.length_map] at w1
      have S12 := S.grH g12 hh12
      have hip : ip.toNat < (ps ++ [c]).length := by omega
      obtain ⟨p, hp⟩ : ∃ p, (ps ++ [c])[ip.toNat]? = some p := ⟨_, List.getElem?_eq_getElem hip⟩
      have hpm : p ∈ ps ++ [c] := List.mem_of_getElem? hp
      have hpb := hcok.at_ _ _ hp
      have hat : atI ((ps ++ [c]).map V.int) ip = some (.int p) := by
        have e : ip = ((ip.toNat : Nat) : Int) := by omega
        rw [e]
        exact atI_nat (by rw [List.getElem?_map, hp]; rfl)
      refine ⟨cal, _, _, _, rfl, rfl, .inl (.inl S12.calAt), hat, ?_⟩
      refine ⟨_, rfl, a, cs, 40, rfl, hh12, ⟨by decide, by decide⟩, S12.tb, fun am H13 g13 hh13 a0 a1 => ?_⟩
      have S13 := S12.grH g13 hh13
      refine ⟨_, _, rfl, rfl, ?_⟩
      obtain ⟨fl13, b13, ho13⟩ := S13.obj
      refine ⟨_, rfl, l, dxl, _, rfl, ho13, rfl, _, rfl, _, rfl, _, rfl, a, cs, p, rfl, hh13, ⟨hpb.1, by omega⟩, S13.tb, fun dy H14 g14 hh14 d0 d1 => ?_⟩
      have S14 := S13.grH g14 hh14
      refine ⟨_, rfl, _, rfl, _, _, rfl, rfl, (by decide : 2 ≤ sizeLine), fun q15 hq15 => ?_⟩
      have g15 := (Gr.refl S14.tb).new (o := .lst [.int (1 + am), .int (0 - (1 + am))]) hq15
      have S15 := S14.gr0 g15
      have nq15 : ¬ SH a cs q15 := fun z => by
        obtain ⟨m, ix, ns', e1, e2, _⟩ := hh14
        rcases z with z | z
        · rw [z, e1] at hq15; cases hq15
        · rw [z, e2] at hq15; cases hq15
      refine ⟨_, rfl, a, cs, 3, rfl, S15.h, ⟨by decide, by decide⟩, S15.tb, fun sg H16 g16 hh16 z0 z1 => ?_⟩
      have S16 := S15.grH g16 hh16
      obtain ⟨x, hx, hx0, hxb⟩ : ∃ x : Int, atI [V.int (1 + am), V.int (0 - (1 + am))] (sg / 2) = some (.int x) ∧ x ≠ 0 ∧ (-1000 ≤ x ∧ x ≤ 1000) := by
        have : sg / 2 = 0 ∨ sg / 2 = 1 := by omega
        rcases this with e | e
        · exact ⟨1 + am, by rw [e]; rfl, by omega, by omega⟩
        · exact ⟨0 - (1 + am), by rw [e]; rfl, by omega, by omega⟩
      obtain ⟨fl16, b16, dx16, ad16, dd16, L16⟩ := S16.L
      refine ⟨_, _, rfl, rfl, ⟨by omega, by omega⟩, q15, _, _, _, rfl, rfl, .inl (.inl (g16.at upd_same nq15)), hx, ?_⟩
      have hoa2 : AmB ((p, dy, x) :: os) := fun o' ho' => by
        rcases List.mem_cons.mp ho' with z | z
        · rw [z]; exact hxb
        · exact hoa o' z
      have hv : OrdV (ps ++ [c]) (p, dy, x) := ⟨hpm, d0, d1, hx0⟩
      refine ⟨l, pl, dxl, cal, fl16, b16, dx16, ad16, dd16, ps, c, day, k, lim, bal, os, (p, dy, x), io + 1, rfl, L16, by omega, hcok, hok, hv, by omega, hoa2, S16.tb, fun fl' b' dx' ad' dd' H17 g17 L17 => ?_⟩
      refine ⟨⟨_, _, _, rfl⟩, os ++ [(p, dy, x)], by rw [List.length_append, hol]; rfl, fun o' ho' => ?_, fun o' ho' => ?_, S16.grL g17 ⟨fl', b', dx', ad', dd', L17⟩⟩
      · rcases List.mem_append.mp ho' with z | z
        · exact hov o' z
        · rw [List.mem_singleton.mp z]; exact hv
      · rcases List.mem_append.mp ho' with z | z
        · exact hoa o' z
        · rw [List.mem_singleton.mp z]; exact hxb
    · obtain ⟨⟨y7, y8, y9, rfl⟩, os, hol, hov, hoa, S⟩ := hiv
      have pb : PlanB ps c (day + 1) os := planB_of hcok h48 ⟨by omega, by omega⟩ hov (by omega) hoa
      generalize no.toNat + 1 = n at S
      obtain ⟨fl, b, dx, ad, dd, L⟩ := S.L
      refine ⟨_, rfl, l, dxl, _, rfl, L.obj, rfl, l, dxl, cal, pl, fl, b, dx, ad, dd, ps, c, day, k, lim, bal, os, rfl, L.obj, L.cal, L.book, hok, S.tb, fun aa H18 g18 haa => ?_⟩
      have S18 := S.gr0 g18
      -- the largest withdrawal
      refine out0_read S18.L hok pb S18.tb rfl (fun fa H19 g19 hf => ?_)
      have S19 := S18.gr0 g19
      -- an amount
      refine ⟨_, rfl, (by decide : 2 ≤ sizeLine), fun q20 hq20 => ?_⟩
      have g20 := (Gr.refl S19.tb).new (o := .lst [.int 40, .int 4000]) hq20
      have S20 := S19.gr0 g20
      have nq20 : ¬ SH a cs q20 := fun z => by
        obtain ⟨m, ix, ns', e1, e2, _⟩ := S19.h
        rcases z with z | z
        · rw [z, e1] at hq20; cases hq20
        · rw [z, e2] at hq20; cases hq20
      refine ⟨_, rfl, a, cs, 2, rfl, S20.h, ⟨by decide, by decide⟩, S20.tb, fun bi H21 g21 hh21 c0 c1 => ?_⟩
      have S21 := S20.grH g21 hh21
      obtain ⟨lb, hlb, hb0, hb1⟩ : ∃ x : Int, atI [V.int 40, V.int 4000] bi = some (.int x) ∧ 1 ≤ x ∧ x ≤ 4000 := by
        have : bi = 0 ∨ bi = 1 := by omega
        rcases this with e | e
        · exact ⟨40, by rw [e]; rfl, by decide, by decide⟩
        · exact ⟨4000, by rw [e]; rfl, by decide, by decide⟩
      refine ⟨q20, _, _, _, rfl, rfl, .inl (.inl (g21.at upd_same nq20)), hlb, ?_⟩
      refine ⟨a, cs, lb, rfl, hh21, ⟨hb0, by omega⟩, S21.tb, fun am0 H22 g22 hh22 m0 m1 => ?_⟩
      have S22 := S21.grH g22 hh22
      have G22 : GrB T (SH a cs) H19 H22 := ((Gr.to (S := SH a cs) g20).trans g21).trans g22
      refine ⟨_, _, rfl, rfl, ?_⟩
      have hf22 := hf.gr G22 fun xs e => nSH S19.h e fun _ z => by cases z
      have haa22 : AccAt K H22 aa k bobS lim bal c := by
        obtain ⟨dxa, e⟩ := haa.gr g19
        exact ⟨dxa, G22.at e (nSH S19.h e fun _ z => by cases z)⟩
      obtain ⟨fl22, b22, ho22⟩ := S22.obj
      refine ⟨_, rfl, l, dxl, _, rfl, ho22, rfl, _, rfl, ?_⟩
      unfold tNil
      refine earl_read (am := 1 + am0) S22.L hok pb ⟨by omega, by omega⟩ S22.tb fun soon H23 g23 hs => ?_
      have S23 := S22.gr0 g23
      have hF := found_of pb.c1 (hf22.gr (S := fun _ => False) g23 fun _ _ z => z) hs
      refine ⟨_, rfl, _, rfl, _, rfl, _, rfl, _, rfl, l, pl, dxl, cal, aa, fa, ps, c, day, k, lim, bal, 1 + am0, soon, os, n, rfl, S23.L, haa22.gr g23, hok, pb, ⟨by omega, by omega⟩, ⟨by omega, by omega⟩, ⟨by omega, by omega⟩, by omega, hF, S23.tb, fun H24 g24 => ?_⟩
      have S24 := S23.gr0 g24
      refine ⟨true, rfl, ?_⟩
      refine ite2 (fun z => by cases z) (fun _ => ?_)
      -- the works
      refine ⟨S24.tb, fun f1 H25 g25 hf1 hl1 => ?_⟩
      refine ⟨(by decide : 1 ≤ sizeLine), fun wk hwk => ?_⟩
      have g26 := (Gr.refl g25.tb).new (o := .lst [.ref f1]) hwk
      have ew26 : (upd H25 wk (.lst [.ref f1])) wk = some (.lst [.ref f1]) := upd_same
      generalize hH26 : upd H25 wk (.lst [.ref f1]) = H26 at g26 ew26 ⊢
      refine ⟨_, rfl, .inl ⟨rfl, _, .of ew26⟩, g26.tb, fun f2 H27 g27 hf2 hl2 => ⟨g27.tb, fun f3 H28 g28 hf3 hl3 => ⟨(by decide : 2 ≤ sizeLine), fun q29 hq29 => ?_⟩⟩⟩
      have g29 := (Gr.refl g28.tb).new (o := .lst [.ref f2, .ref f3]) hq29
      have eq29 : (upd H28 q29 (.lst [.ref f2, .ref f3])) q29 = some (.lst [.ref f2, .ref f3]) := upd_same
      generalize hH29 : upd H28 q29 (.lst [.ref f2, .ref f3]) = H29 at g29 eq29 ⊢
      have ew29 : H29 wk = some (.lst [.ref f1]) := ((g27.trans g28).trans g29).get ew26
      refine ⟨wk, q29, _, _, rfl, rfl, ew29, eq29, (by decide : 3 ≤ sizeLine), ?_⟩
      have G30 : Gr T H25 (upd H29 wk (.lst ([V.ref f1] ++ [V.ref f2, V.ref f3]))) := GrB.turn (((g26.trans g27).trans g28).trans g29) hwk ew29
      have ew30 : (upd H29 wk (.lst ([V.ref f1] ++ [V.ref f2, V.ref f3]))) wk = some (.lst [V.ref f1, V.ref f2, V.ref f3]) := upd_same
      have k1 := hl1.gr G30
      have k2 := (hl2.gr (g28.trans g29)).set (o := .lst ([V.ref f1] ++ [V.ref f2, V.ref f3])) ew29
      have k3 := (hl3.gr g29).set (o := .lst ([V.ref f1] ++ [V.ref f2, V.ref f3])) ew29
      have S30 := (S24.gr0 g25).gr0 G30
      generalize hH30 : upd H29 wk (.lst ([V.ref f1] ++ [V.ref f2, V.ref f3])) = H30 at G30 ew30 k1 k2 k3 S30 ⊢
      refine ⟨_, rfl, wk, rfl, ⟨_, .inl (.inl ew30)⟩, fun D hD => ?_⟩
      have kk : ∀ (m : Nat) (x : V), ([V.ref f1, V.ref f2, V.ref f3] : List V)[m]? = some x → ∃ f, x = .ref f ∧ ∀ H', Gr T H30 H' → IsLam (lawX P w K mg base cdv A outer s H E) (lamP (W3.nth m).lam) (lamE (W3.nth m).lam) (lamS (W3.nth m).lam) (W3.nth m).dz f H' := fun m x hx => by
        match m, hx with
        | 0, hx => cases hx; exact ⟨f1, rfl, fun H' g => k1.gr g⟩
        | 1, hx => cases hx; exact ⟨f2, rfl, fun H' g => k2.gr g⟩
        | 2, hx => cases hx; exact ⟨f3, rfl, fun H' g => k3.gr g⟩
      refine lc_list (xs := [V.ref f1, V.ref f2, V.ref f3]) (fun m H' => Gr T H30 H' ∧ ∃ ts : List Addr, H' D = some (.lst (ts.map V.ref)) ∧ ts.length = m ∧ ∀ (z : Nat) (t : Addr), ts[z]? = some t → H' t = some (.tup (W3.nth z).out))
        ⟨(Gr.refl G30.tb).new hD, [], upd_same, rfl, fun z t e => by cases e⟩ (fun m H' _ hm => .inl (.inl (hm.1.get ew30))) (fun m x H' hx hm => ?_) (fun H' hm => ?_)
      · obtain ⟨gm, ts, hts, htl, hto⟩ := hm
        obtain ⟨f, rfl, hf⟩ := kk m x hx
        have Sm := S30.gr0 gm
        refine ⟨rfl, ?_⟩
        refine tYes_read (if_tt ?_)
        refine outL_read (W3.nth m) Sm.L hok Sm.tb rfl rfl hj rfl (hf H' gm) (fun t H2 g2 hn ht => ?_)
        have hlt : m < 3 := (List.getElem?_eq_some_iff.mp hx).1
        refine ⟨_, g2.get hts, le17 (by rw [List.length_map]; omega), (gm.trans g2).turn hD (g2.get hts), ts ++ [t], ?_, by rw [List.length_append, htl]; rfl, fun z t' e => ?_⟩
        · rw [upd_same, List.map_append]
          rfl
        · have key : ∀ {t' : Addr} {xs : List V}, H2 t' = some (.tup xs) → ∀ o, upd H2 D o t' = some (.tup xs) := fun {t' xs} e o => by
            rw [upd_ne (fun z => by rw [z, g2.get hts] at e; cases e)]
            exact e
          by_cases hz : z < ts.length
          · rw [List.getElem?_append_left hz] at e
            exact key (g2.get (hto z t' e)) _
          · rw [List.getElem?_append_right (by omega)] at e
            have hz2 : z - ts.length = 0 := by
              have := (List.getElem?_eq_some_iff.mp e).1
              rw [List.length_singleton] at this
              omega
            rw [hz2] at e
            cases e
            have ez : z = m := by omega
            rw [ez]
            exact key ht _
      · obtain ⟨gm, ts, hts, htl, hto⟩ := hm
        obtain ⟨t1, t2, t3, rfl⟩ : ∃ t1 t2 t3, ts = [t1, t2, t3] := by
          match ts, htl with
          | [t1, t2, t3], _ => exact ⟨t1, t2, t3, rfl⟩
        have e1 := hto 0 t1 rfl
        have e2 := hto 1 t2 rfl
        have e3 := hto 2 t3 rfl
        refine ⟨(by decide : 1 ≤ sizeLine), fun u1 hu1 => ⟨(by decide : 2 ≤ sizeLine), fun u2 hu2 => ⟨(by decide : 2 ≤ sizeLine), fun u3 hu3 => ⟨(by decide : 3 ≤ sizeLine), fun u hu => ?_⟩⟩⟩⟩
        have ga := (Gr.refl gm.tb).new (o := .tup [.str "amount"]) hu1
        have a1 : (upd H' u1 (.tup [.str "amount"])) u1 = some (.tup W3.a.out) := upd_same
        generalize hHa : upd H' u1 (.tup [.str "amount"]) = Ha at ga a1 hu2 hu3 hu ⊢
        have gb := (Gr.refl ga.tb).new (o := .tup [.str "account", .str "al"]) hu2
        have a2 : (upd Ha u2 (.tup [.str "account", .str "al"])) u2 = some (.tup W3.b.out) := upd_same
        generalize hHb : upd Ha u2 (.tup [.str "account", .str "al"]) = Hb at gb a2 hu3 hu ⊢
        have gc := (Gr.refl gb.tb).new (o := .tup [.str "account", .str "al"]) hu3
        have a3 : (upd Hb u3 (.tup [.str "account", .str "al"])) u3 = some (.tup W3.c.out) := upd_same
        generalize hHc : upd Hb u3 (.tup [.str "account", .str "al"]) = Hc at gc a3 hu ⊢
        have gd := (Gr.refl gc.tb).new (o := .lst [.ref u1, .ref u2, .ref u3]) hu
        have ad : (upd Hc u (.lst [.ref u1, .ref u2, .ref u3])) u = some (.lst [.ref u1, .ref u2, .ref u3]) := upd_same
        generalize hHd : upd Hc u (.lst [.ref u1, .ref u2, .ref u3]) = Hd at gd ad ⊢
        have gbd := (gb.trans gc).trans gd
        have gad := ga.trans gbd
        refine ⟨worksD, worksD, works_dp (gad.get hts) (gad.get e1) (gad.get e2) (gad.get e3), works_dp ad (gbd.get a1) ((gc.trans gd).get a2) (gd.get a3), works_shaped, works_shaped, ?_⟩
        rw [works_eqv]
        refine ⟨false, rfl, ?_⟩
        refine ite2 (fun z => by cases z) (fun _ => ?_)
        have SF := S30.gr0 (gm.trans gad)
        exact ⟨⟨_, _, _, _, _, _, _, _, _, _, _, _, _, rfl⟩, SF.h, SF.tb⟩
end
end So
end
section
set_option maxHeartbeats 8000000
/-! The head's Hook: what is looked at behind the top, and what it says. -/
namespace So
open PySem PySem.Spec PyProof.Rows L2 He
theorem smB_ok {K : PySem.W.Frag} {P : Program} (h : smB K P.main.file = true) (hv : fnSa K = valSa) (top : (P.main.scope.names.lookup ("super" : Str)).isSome = false) : SaM K P := by
  obtain ⟨h1, h⟩ := ba h
  obtain ⟨h2, h⟩ := ba h
  obtain ⟨h3, h⟩ := ba h
  obtain ⟨h4, h⟩ := ba h
  obtain ⟨h5, h⟩ := ba h
  obtain ⟨h6, h⟩ := ba h
  obtain ⟨h7, h8⟩ := ba h
  refine ⟨?_, h2, of_decide_eq_true h3, eqO_ok h4, of_decide_eq_true h5, h6, eqO_ok h7, Option.isSome_iff_exists.mp h8, top⟩
  unfold saB at h1
  unfold fnSa at hv
  cases q : K.lookup (saAt K) with
  | none =>
    rw [q] at h1
    cases h1
  | some o =>
    obtain ⟨oc, od, dt, osl⟩ := o
    rw [q] at h1 hv
    cases dt with
    | func fd =>
      obtain ⟨n1, n2, n3, n4, n5, n6, n7, n8, n9, n10, n11, n12, n13, n14, n15⟩ := fd
      have e2 : (some (n1, n2, n3, n4, n5, n6, n7.map (·.1), n8, n15) : FnSa) = some (("may_withdraw" : Str), ("SavingsAccount.may_withdraw" : Str), defArgs Msa, FuncBody.stmts (defBody Msa), defScope Msa, mainGlobals, [("__class__" : Str)], Value.none, builtinsNs) := hv
      rw [Option.some.injEq] at e2
      simp only [Prod.mk.injEq] at e2
      obtain ⟨e1, e2, e3, e4, e5, e6, e7, e8, e9⟩ := e2
      subst e1 e2 e3 e4 e5 e6 e8 e9
      obtain ⟨c1, c⟩ := ba h1
      obtain ⟨c2, c3⟩ := ba c
      dsimp only at c1 c2 c3
      cases n13 with
      | ref cda =>
        dsimp only at c2
        match n7, e7, c3 with
        | [(x, cc)], e7, c3 =>
          have ex : x = ("__class__" : Str) := by
            simp only [List.map_cons, List.map_nil, List.cons.injEq, and_true] at e7
            exact e7
          subst ex
          dsimp only at c3
          cases qc : K.lookup cda with
          | none => rw [qc] at c2; cases c2
          | some oc2 =>
            obtain ⟨ccl, cdd, dt2, ccs⟩ := oc2
            rw [qc] at c2
            cases dt2 with
            | fields vs =>
              dsimp only at c2
              cases qv : (vs[2]? : Option Value) with
              | none => rw [qv] at c2; cases c2
              | some v =>
                rw [qv] at c2
                cases v with
                | str fl tf =>
                  cases qd : K.lookup cc with
                  | none => rw [qd] at c3; cases c3
                  | some od2 =>
                    obtain ⟨dcl, ddd, dt3, dcs⟩ := od2
                    rw [qd] at c3
                    cases dt3 with
                    | cell ov =>
                      cases ov with
                      | none => cases c3
                      | some cv =>
                        cases cv with
                        | ref c0 =>
                          have ec : c0 = ga K "SavingsAccount" := of_decide_eq_true c3
                          subst ec
                          exact ⟨oc, od, n9, n10, n11, n12, cda, cc, n14, osl, q, c1, ⟨ccl, cdd, vs, ccs, fl, tf, qc, qv, c2⟩, dcl, ddd, dcs, qd⟩
                        | _ => cases c3
                    | _ => cases c3
                | _ => cases c2
            | _ => cases c2
      | _ => cases c2
    | _ => cases h1
end So
end
section
set_option maxHeartbeats 8000000
/-! The Hook. -/
namespace So
open PySem PySem.Spec PyProof.Rows L2 He
structure SaysL (file : Str) (h : Heap) (K : PySem.W.Frag) : Prop where
  d : SaysD fa (fnL ++ meL) K
  a : dfA.map (fun d => He5.fnA K (d.at_ K)) = dfA.map He5.DefA.val
  s : fnSa K = valSa
  more : restB K file = true
  hd : ∀ p ∈ tfL, PySem.W.codeHdIn K (cT K p).1 (cT K p).2 = true
  out : ∀ p ∈ tfL, K.lookup (cT K p).2 = none
  empty : ∀ p ∈ tfL, h.get? (cT K p).2 = some { cls := .none, data := .fields #[] }
theorem saysL_of {file : Str} {h : Heap} (e : obsL file h.get? = valL) : SaysL file h (frG h.get? (asL h.get?)) := by
  unfold obsL at e
  generalize hK : frG h.get? (asL h.get?) = K at e
  have e1 : obsD fa (fnL ++ meL) K = valD (fnL ++ meL) := congrArg (fun z : AlL => z.1) e
  have e2 : dfA.map (fun d => He5.fnA K (d.at_ K)) = dfA.map He5.DefA.val := congrArg (fun z : AlL => z.2.1) e
  have e3 : fnSa K = valSa := congrArg (fun z : AlL => z.2.2.1) e
  have e4 : (restB K file && tabL h.get? K) = true := congrArg (fun z : AlL => z.2.2.2) e
  obtain ⟨h1, h2⟩ := ba e4
  have key : ∀ p ∈ tfL, PySem.W.codeHdIn K (cT K p).1 (cT K p).2 = true ∧ K.lookup (cT K p).2 = none ∧ h.get? (cT K p).2 = some { cls := .none, data := .fields #[] } := fun p hp => by
    obtain ⟨h3, h4⟩ := ba (List.all_eq_true.mp h2 p hp)
    obtain ⟨h5, h6⟩ := ba h4
    refine ⟨h3, Option.isNone_iff_eq_none.mp h5, ?_⟩
    cases q : h.get? (cT K p).2 with
    | none =>
      rw [q] at h6
      cases h6
    | some o =>
      rw [q] at h6
      rw [emptyTab_eq h6]
  exact ⟨e1, e2, e3, h1, fun p hp => (key p hp).1, fun p hp => (key p hp).2.1, fun p hp => (key p hp).2.2⟩
def hookL (file : Str) : PySem.W.Hook where
  α := AlL
  obs := fun s => obsL file s.heap.get?
  val := fun _ => valL
  says := fun _ h => ∃ K : PySem.W.Frag, K.In h ∧ SaysL file h K
  of := fun _ _ e => ⟨_, frG_in, saysL_of e⟩
  keeps := fun _ _ _ ⟨K, hK, c⟩ k => ⟨K, PySem.W.Frag.In.keeps hK k, ⟨c.d, c.a, c.s, c.more, c.hd, c.out, fun p hp => k _ _ (c.empty p hp)⟩⟩
theorem obsL_eq {file : Str} {g : Addr → Option Obj} {s : Shared} (h : ∀ a, g a = s.heap.get? a) : obsL file g = (hookL file).obs s := by
  have e : g = s.heap.get? := funext h
  rw [e] <;> rfl
section
variable {file : Str} {h : Heap} {K : PySem.W.Frag} {mg : Str → Option Value}
theorem SaysL.kn (c : SaysL file h K) {h' : Heap} (X : K.In h') (G : h'.Ns mainGlobals mg) : Kn K mg :=
  ⟨fun f hf => c.d.facts hf, fun d hd => c.d.defs (List.mem_append_left _ hd), fun d hd => c.d.defs (List.mem_append_right _ hd), h', X, G⟩
theorem SaysL.dfa (c : SaysL file h K) : ∀ d ∈ dfA, ∃ fd, FunD K d.name d.qual d.params d.body d.scope (d.dvs K) (d.kws K) (d.at_ K) fd := fun d hd => by
  obtain ⟨i, hi, e⟩ := List.mem_iff_getElem.mp hd
  have e2 : (dfA.map fun d => He5.fnA K (d.at_ K))[i]? = (dfA.map He5.DefA.val)[i]? := by rw [c.a]
  rw [List.getElem?_map, List.getElem?_map, List.getElem?_eq_getElem hi, e] at e2
  exact He5.DefA.funD (Option.some.inj e2) (List.all_eq_true.mp (ba c.more).1 d hd)
theorem SaysL.kx (c : SaysL file h K) : Kx K := kx_of (ba (ba c.more).2).1 fun d hd => c.dfa d (List.mem_append_left _ hd)
theorem SaysL.ky (c : SaysL file h K) : Ky K := ky_of (ba (ba (ba c.more).2).2).1 (c.dfa uaD (List.mem_append_right _ (List.mem_singleton.mpr rfl)))
theorem SaysL.sm {P : Program} (c : SaysL P.main.file h K) (top : (P.main.scope.names.lookup ("super" : Str)).isSome = false) : SaM K P := smB_ok (ba (ba (ba (ba c.more).2).2).2).1 c.s top
theorem SaysL.dist (c : SaysL file h K) : (cT K ("law", none)).2 ≠ (cT K ("balance_at", none)).2 ∧ (cT K ("law", none)).2 ≠ (cT K ("least_balance", none)).2 := by
  obtain ⟨d1, d2⟩ := ba (ba (ba (ba (ba c.more).2).2).2).2
  refine ⟨fun z => ?_, fun z => ?_⟩
  · rw [decide_eq_true z] at d1; cases d1
  · rw [decide_eq_true z] at d2; cases d2
/-- the tables -/
def wtOf (K : PySem.W.Frag) : Wt := ⟨[((cT K ("law", none)).2, lamQ)], [(cT K ("balance_at", none)).2, (cT K ("least_balance", none)).2]⟩
theorem SaysL.kt {base : Heap} (c : SaysL file h K) (tb : ∀ p ∈ tfL.map (cT K), LamX.TabB base mg p.1 p.2) : Kt K mg base (wtOf K) := by
  refine ⟨fun x hx => ?_, List.mem_cons_self, List.mem_cons_of_mem _ List.mem_cons_self, fun p hp => ?_⟩
  · have : (x, none) ∈ tfL := by
      simp only [tfL, List.mem_cons, List.mem_nil_iff, or_false, Prod.mk.injEq, and_true] at hx ⊢
      exact hx
    have t := tb _ (List.mem_map.mpr ⟨_, this, rfl⟩)
    exact ⟨t.code, t.bm, t.gP⟩
  · cases List.mem_singleton.mp hp
    intro z
    rcases List.mem_cons.mp z with z | z
    · exact c.dist.1 z
    · exact c.dist.2 (List.mem_singleton.mp z)
theorem kl_wt : Kl K (wtOf K) := ⟨List.mem_singleton.mpr rfl, fun p hp _ => by cases List.mem_singleton.mp hp; rfl⟩
theorem tbs_wt {H : Hp} (hH : ∀ p ∈ tfL.map (cT K), H p.2 = some (.tbl #[])) : Tbs (wtOf K) H := by
  have at_ : ∀ p ∈ tfL, H (cT K p).2 = some (.tbl #[]) := fun p hp => hH _ (List.mem_map.mpr ⟨p, hp, rfl⟩)
  refine ⟨fun p hp => ?_, fun P hP => ?_⟩
  · cases List.mem_singleton.mp hp
    exact LamX.TabS.nil (at_ ("law", none) (by simp [tfL]))
  · rcases List.mem_cons.mp hP with z | z
    · rw [z]; exact ⟨#[], at_ ("balance_at", none) (by simp [tfL]), trivial⟩
    · rw [List.mem_singleton.mp z]; exact ⟨#[], at_ ("least_balance", none) (by simp [tfL]), trivial⟩
end
/-- what the end asks -/
theorem law_at (l : PySem.W.OpenLaw) {w : World} {K : PySem.W.Frag} {mg : Str → Option Value} {h : Heap} {f : Addr} (X : K.In h) (G : h.Ns mainGlobals mg) (c : SaysL l.prog.main.file h K) (top : (l.prog.main.scope.names.lookup ("super" : Str)).isSome = false) (hf : mg ("law" : Str) = some (.ref f)) :
    LamX.LawAtS l w K CX0 17 63 "_law_script" mg f h := by
  have kn0 := c.kn X G
  have e := hf.symm.trans (kn0.glo "law")
  cases e
  obtain ⟨fd, F⟩ := kn0.f_law
  refine ⟨fd, tfL.map (cT K), spLaw K (wtOf K), fun p hp => ?_, fun p hp => ?_, fun p hp => ?_, fun s u => ?_, fun H a ns hl _ hH hS => ?_, fun base hb hG tb => ?_⟩
  · obtain ⟨q, hq, e⟩ := List.mem_map.mp hp
    rw [← e]; exact c.empty q hq
  · obtain ⟨q, hq, e⟩ := List.mem_map.mp hp
    rw [← e]; exact c.out q hq
  · obtain ⟨q, hq, e⟩ := List.mem_map.mp hp
    rw [← e]; exact PySem.W.codeHd_of_K X (c.hd q hq)
  · exact FunD.bindsA (ps := ["_law_script"]) F (fun _ _ _ _ _ _ us hl => match us, hl with | [_], _ => rfl) s [u] rfl
  · exact ⟨a, ns, rfl, hS, hl, tbs_wt hH, fun _ => rfl⟩
  · have kn := c.kn hb hG
    exact ok_law F kn c.kx c.ky (c.kt tb) kl_wt (ok_may_sa kn (c.sm top))
end So
end
section
set_option maxHeartbeats 0
/-! .. all of it. -/
namespace Hd
open PySem PySem.W PySem.Calls PyProof.Rows
abbrev hk : PySem.W.Hook := So.hookL R.prog.main.file
theorem ob_eq (s : PySem.W.SharedT) : ob s = hk.obs s.abs := So.obsL_eq (HandSHeadRun.getT_eq s)
theorem run (w : World) : HandSHeadRun.RunEq R qv hk ob 20000 loose w := fun os => join3 (G := ob) (runA w os) (runB w os) (runC w os)
end Hd
end
section
set_option maxHeartbeats 0
open PySem PySem.W PySem.Calls PyProof.Rows
theorem PySem.Challenge.cw_standingorders_k47_whole_withdrawals_holds : PySem.Challenge.rw_standingorders_k47_whole_withdrawals.Holds := by
  w_on; o_law
  refine HandSHeadRun.head_any (r := Hd.R) (q := Hd.qv) (H := Hd.hk) (ob := Hd.ob) (M := 20000) (loose := Hd.loose) (d := HandSHeadRun.topDef Hd.R.prog 82) (kwd := []) Hd.ob_eq
    (by kernel_rfl) (fun s => by kernel_rfl) Hd.run (by kernel_rfl) (by kernel_rfl) (by kernel_rfl) (by rfl) (by first | assumption | decide +kernel) (by decide +kernel) ⟨rfl, rfl, rfl, rfl, rfl, by decide +kernel⟩ ?hw ?hc
  case hw => w_witness2
  case hc =>
    refine LamX.walk_ofTsE (l := PySem.Challenge.rw_standingorders_k47_whole_withdrawals) (n := 63) (k := 17) (x := "_law_script") (CX := fun _ => L2.CX0) rfl (by decide) (by kernel_rfl) ⟨rfl, by decide, by decide⟩ ?F (fun _ _ _ _ _ z => z)
    intro w mg fa h Y G hmg0
    obtain ⟨K, KX, c⟩ := Y
    have hmg : mg ("law" : PySem.Str) = some (.ref fa) := by
      have e : (HandSHeadRun.topDef Hd.R.prog 82).name = ("law" : PySem.Str) := by kernel_rfl
      rw [← e]
      exact hmg0
    exact ⟨K, KX, So.law_at PySem.Challenge.rw_standingorders_k47_whole_withdrawals KX G c (by decide +kernel) hmg⟩
end
