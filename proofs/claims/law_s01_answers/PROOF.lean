import PyProof.Rows.All
import Wide.All
import OpenK.AllK
import Wide.FinOn
import Open.SpecLaws
import KE.HD4
import HandS.ForSpec
import HandS.ExcSuper
import HandS.SuiteRaise
import HandS.ExcInitHot
import HandS.ExcField
import HandS.HeadHook2
import HandS.Comp
import HandS.Iter
import HandS.Wide
import HandS.NoneIn
import HandS.Conv
import HandS.Flow
import PySem.Challenge.RW_selfpact_s01_answers
import PyProof.NeKinds
import PySg49
set_option Elab.async false
set_option linter.all false
set_option maxRecDepth 100000
set_option maxHeartbeats 2000000
/-! ### the text: each def of the program -/
namespace SP
open PySem PySem.Spec PyProof.Rows L2
def top (i : Nat) : Stmt := PySem.Challenge.pw_selfpact_s01_answers.main.body.getD i (.Pass ⟨0, 0, 0, 0⟩)
abbrev s_Numbers_init : Stmt := inClass (top 22) 0
def d_Numbers_init : He.DefD := ⟨("Numbers", some "__init__"), "__init__", "Numbers.__init__", defArgs s_Numbers_init, defBody s_Numbers_init, defScope s_Numbers_init, [], []⟩
abbrev s_Numbers_has_ended : Stmt := inClass (top 22) 1
def d_Numbers_has_ended : He.DefD := ⟨("Numbers", some "has_ended"), "has_ended", "Numbers.has_ended", defArgs s_Numbers_has_ended, defBody s_Numbers_has_ended, defScope s_Numbers_has_ended, [], []⟩
abbrev s_Numbers_one : Stmt := inClass (top 22) 2
def d_Numbers_one : He.DefD := ⟨("Numbers", some "one"), "one", "Numbers.one", defArgs s_Numbers_one, defBody s_Numbers_one, defScope s_Numbers_one, [], []⟩
abbrev s_Numbers_party : Stmt := inClass (top 22) 3
def d_Numbers_party : He.DefD := ⟨("Numbers", some "party"), "party", "Numbers.party", defArgs s_Numbers_party, defBody s_Numbers_party, defScope s_Numbers_party, [], []⟩
abbrev s_Numbers_kind_of_money : Stmt := inClass (top 22) 4
def d_Numbers_kind_of_money : He.DefD := ⟨("Numbers", some "kind_of_money"), "kind_of_money", "Numbers.kind_of_money", defArgs s_Numbers_kind_of_money, defBody s_Numbers_kind_of_money, defScope s_Numbers_kind_of_money, [], []⟩
abbrev s_Numbers_amount : Stmt := inClass (top 22) 5
def d_Numbers_amount : He.DefD := ⟨("Numbers", some "amount"), "amount", "Numbers.amount", defArgs s_Numbers_amount, defBody s_Numbers_amount, defScope s_Numbers_amount, [], []⟩
abbrev s_Numbers_value : Stmt := inClass (top 22) 6
def d_Numbers_value : He.DefD := ⟨("Numbers", some "value"), "value", "Numbers.value", defArgs s_Numbers_value, defBody s_Numbers_value, defScope s_Numbers_value, [], []⟩
abbrev s_Numbers_said : Stmt := inClass (top 22) 7
def d_Numbers_said : He.DefD := ⟨("Numbers", some "said"), "said", "Numbers.said", defArgs s_Numbers_said, defBody s_Numbers_said, defScope s_Numbers_said, [], []⟩
abbrev s_Numbers_action : Stmt := inClass (top 22) 8
def d_Numbers_action : He.DefD := ⟨("Numbers", some "action"), "action", "Numbers.action", defArgs s_Numbers_action, defBody s_Numbers_action, defScope s_Numbers_action, [], []⟩
abbrev s_Pact_init : Stmt := inClass (top 23) 0
def d_Pact_init : He.DefD := ⟨("Pact", some "__init__"), "__init__", "Pact.__init__", defArgs s_Pact_init, defBody s_Pact_init, defScope s_Pact_init, [], []⟩
abbrev s_Pact_read_parts : Stmt := inClass (top 23) 1
def d_Pact_read_parts : He.DefD := ⟨("Pact", some "read_parts"), "read_parts", "Pact.read_parts", defArgs s_Pact_read_parts, defBody s_Pact_read_parts, defScope s_Pact_read_parts, [], []⟩
abbrev s_Pact_is_complete : Stmt := inClass (top 23) 2
def d_Pact_is_complete : He.DefD := ⟨("Pact", some "is_complete"), "is_complete", "Pact.is_complete", defArgs s_Pact_is_complete, defBody s_Pact_is_complete, defScope s_Pact_is_complete, [], []⟩
abbrev s_Pact_next_inner : Stmt := inClass (top 23) 3
def d_Pact_next_inner : He.DefD := ⟨("Pact", some "next_inner"), "next_inner", "Pact.next_inner", defArgs s_Pact_next_inner, defBody s_Pact_next_inner, defScope s_Pact_next_inner, [], []⟩
abbrev s_Pact_complete : Stmt := inClass (top 23) 4
def d_Pact_complete : He.DefD := ⟨("Pact", some "complete"), "complete", "Pact.complete", defArgs s_Pact_complete, defBody s_Pact_complete, defScope s_Pact_complete, [], []⟩
abbrev s_Refusal_init : Stmt := inClass (top 33) 0
def d_Refusal_init : He.DefD := ⟨("Refusal", some "__init__"), "__init__", "Refusal.__init__", defArgs s_Refusal_init, defBody s_Refusal_init, defScope s_Refusal_init, [], []⟩
abbrev s_State_init : Stmt := inClass (top 36) 0
def d_State_init : He.DefD := ⟨("State", some "__init__"), "__init__", "State.__init__", defArgs s_State_init, defBody s_State_init, defScope s_State_init, [], []⟩
abbrev s_State_twin : Stmt := inClass (top 36) 1
def d_State_twin : He.DefD := ⟨("State", some "twin"), "twin", "State.twin", defArgs s_State_twin, defBody s_State_twin, defScope s_State_twin, [], []⟩
abbrev s_Run_init : Stmt := inClass (top 37) 0
def d_Run_init : He.DefD := ⟨("Run", some "__init__"), "__init__", "Run.__init__", defArgs s_Run_init, defBody s_Run_init, defScope s_Run_init, [], []⟩
abbrev s_Run_value : Stmt := inClass (top 37) 1
def d_Run_value : He.DefD := ⟨("Run", some "value"), "value", "Run.value", defArgs s_Run_value, defBody s_Run_value, defScope s_Run_value, [], []⟩
abbrev s_Run_joined : Stmt := inClass (top 37) 2
def d_Run_joined : He.DefD := ⟨("Run", some "joined"), "joined", "Run.joined", defArgs s_Run_joined, defBody s_Run_joined, defScope s_Run_joined, [], []⟩
abbrev s_Run_is_so : Stmt := inClass (top 37) 3
def d_Run_is_so : He.DefD := ⟨("Run", some "is_so"), "is_so", "Run.is_so", defArgs s_Run_is_so, defBody s_Run_is_so, defScope s_Run_is_so, [], []⟩
abbrev s_Run_pay_out : Stmt := inClass (top 37) 4
def d_Run_pay_out : He.DefD := ⟨("Run", some "pay_out"), "pay_out", "Run.pay_out", defArgs s_Run_pay_out, defBody s_Run_pay_out, defScope s_Run_pay_out, [], []⟩
abbrev s_Run_close : Stmt := inClass (top 37) 5
def d_Run_close : He.DefD := ⟨("Run", some "close"), "close", "Run.close", defArgs s_Run_close, defBody s_Run_close, defScope s_Run_close, [], []⟩
abbrev s_Run_do_payment : Stmt := inClass (top 37) 6
def d_Run_do_payment : He.DefD := ⟨("Run", some "do_payment"), "do_payment", "Run.do_payment", defArgs s_Run_do_payment, defBody s_Run_do_payment, defScope s_Run_do_payment, [], []⟩
abbrev s_Run_do_let : Stmt := inClass (top 37) 7
def d_Run_do_let : He.DefD := ⟨("Run", some "do_let"), "do_let", "Run.do_let", defArgs s_Run_do_let, defBody s_Run_do_let, defScope s_Run_do_let, [], []⟩
abbrev s_Run_next_pact : Stmt := inClass (top 37) 8
def d_Run_next_pact : He.DefD := ⟨("Run", some "next_pact"), "next_pact", "Run.next_pact", defArgs s_Run_next_pact, defBody s_Run_next_pact, defScope s_Run_next_pact, [], []⟩
abbrev s_Run_go_on : Stmt := inClass (top 37) 9
def d_Run_go_on : He.DefD := ⟨("Run", some "go_on"), "go_on", "Run.go_on", defArgs s_Run_go_on, defBody s_Run_go_on, defScope s_Run_go_on, [], []⟩
abbrev s_Run_fits : Stmt := inClass (top 37) 10
def d_Run_fits : He.DefD := ⟨("Run", some "fits"), "fits", "Run.fits", defArgs s_Run_fits, defBody s_Run_fits, defScope s_Run_fits, [], []⟩
abbrev s_Run_do_input : Stmt := inClass (top 37) 11
def d_Run_do_input : He.DefD := ⟨("Run", some "do_input"), "do_input", "Run.do_input", defArgs s_Run_do_input, defBody s_Run_do_input, defScope s_Run_do_input, [], []⟩
abbrev s_Run_take : Stmt := inClass (top 37) 12
def d_Run_take : He.DefD := ⟨("Run", some "take"), "take", "Run.take", defArgs s_Run_take, defBody s_Run_take, defScope s_Run_take, [], []⟩
abbrev s_Run_all_told : Stmt := inClass (top 37) 13
def d_Run_all_told : He.DefD := ⟨("Run", some "all_told"), "all_told", "Run.all_told", defArgs s_Run_all_told, defBody s_Run_all_told, defScope s_Run_all_told, [], []⟩
abbrev s_Desk_init : Stmt := inClass (top 51) 0
def d_Desk_init : He.DefD := ⟨("Desk", some "__init__"), "__init__", "Desk.__init__", defArgs s_Desk_init, defBody s_Desk_init, defScope s_Desk_init, [], []⟩
abbrev s_Desk_begin : Stmt := inClass (top 51) 1
def d_Desk_begin : He.DefD := ⟨("Desk", some "begin"), "begin", "Desk.begin", defArgs s_Desk_begin, defBody s_Desk_begin, defScope s_Desk_begin, [], []⟩
abbrev s_Desk_run : Stmt := inClass (top 51) 2
def d_Desk_run : He.DefD := ⟨("Desk", some "run"), "run", "Desk.run", defArgs s_Desk_run, defBody s_Desk_run, defScope s_Desk_run, [], []⟩
abbrev s_Desk_transact : Stmt := inClass (top 51) 3
def d_Desk_transact : He.DefD := ⟨("Desk", some "transact"), "transact", "Desk.transact", defArgs s_Desk_transact, defBody s_Desk_transact, defScope s_Desk_transact, [], []⟩
abbrev s_Desk_account : Stmt := inClass (top 51) 4
def d_Desk_account : He.DefD := ⟨("Desk", some "account"), "account", "Desk.account", defArgs s_Desk_account, defBody s_Desk_account, defScope s_Desk_account, [], []⟩
abbrev s_Desk_choice : Stmt := inClass (top 51) 5
def d_Desk_choice : He.DefD := ⟨("Desk", some "choice"), "choice", "Desk.choice", defArgs s_Desk_choice, defBody s_Desk_choice, defScope s_Desk_choice, [], []⟩
abbrev s_Desk_slot : Stmt := inClass (top 51) 6
def d_Desk_slot : He.DefD := ⟨("Desk", some "slot"), "slot", "Desk.slot", defArgs s_Desk_slot, defBody s_Desk_slot, defScope s_Desk_slot, [], []⟩
abbrev s_Desk_rest : Stmt := inClass (top 51) 7
def d_Desk_rest : He.DefD := ⟨("Desk", some "rest"), "rest", "Desk.rest", defArgs s_Desk_rest, defBody s_Desk_rest, defScope s_Desk_rest, [], []⟩
abbrev s_Desk_told : Stmt := inClass (top 51) 8
def d_Desk_told : He.DefD := ⟨("Desk", some "told"), "told", "Desk.told", defArgs s_Desk_told, defBody s_Desk_told, defScope s_Desk_told, [], []⟩
abbrev s_Desk_total : Stmt := inClass (top 51) 9
def d_Desk_total : He.DefD := ⟨("Desk", some "total"), "total", "Desk.total", defArgs s_Desk_total, defBody s_Desk_total, defScope s_Desk_total, [], []⟩
abbrev s_Desk_respond : Stmt := inClass (top 51) 10
def d_Desk_respond : He.DefD := ⟨("Desk", some "respond"), "respond", "Desk.respond", defArgs s_Desk_respond, defBody s_Desk_respond, defScope s_Desk_respond, [], []⟩
abbrev s_pact_of : Stmt := top 24
def d_pact_of : He.DefD := ⟨("pact_of", none), "pact_of", "pact_of", defArgs s_pact_of, defBody s_pact_of, defScope s_pact_of, [], []⟩
abbrev s_cut : Stmt := top 34
def d_cut : He.DefD := ⟨("cut", none), "cut", "cut", defArgs s_cut, defBody s_cut, defScope s_cut, [], []⟩
abbrev s_quotient_of : Stmt := top 35
def d_quotient_of : He.DefD := ⟨("quotient_of", none), "quotient_of", "quotient_of", defArgs s_quotient_of, defBody s_quotient_of, defScope s_quotient_of, [], []⟩
abbrev s_need : Stmt := top 47
def d_need : He.DefD := ⟨("need", none), "need", "need", defArgs s_need, defBody s_need, defScope s_need, [], []⟩
abbrev s_is_time : Stmt := top 48
def d_is_time : He.DefD := ⟨("is_time", none), "is_time", "is_time", defArgs s_is_time, defBody s_is_time, defScope s_is_time, [], []⟩
abbrev s_read_input : Stmt := top 49
def d_read_input : He.DefD := ⟨("read_input", none), "read_input", "read_input", defArgs s_read_input, defBody s_read_input, defScope s_read_input, [], []⟩
abbrev s_inputs_of : Stmt := top 50
def d_inputs_of : He.DefD := ⟨("inputs_of", none), "inputs_of", "inputs_of", defArgs s_inputs_of, defBody s_inputs_of, defScope s_inputs_of, [], []⟩
abbrev s_answers : Stmt := top 52
def d_answers : He.DefD := ⟨("answers", none), "answers", "answers", defArgs s_answers, defBody s_answers, defScope s_answers, [], []⟩
def fn : List He.DefD := [d_Numbers_init, d_Numbers_has_ended, d_Numbers_one, d_Numbers_party, d_Numbers_kind_of_money, d_Numbers_amount, d_Numbers_value, d_Numbers_said, d_Numbers_action, d_Pact_init, d_Pact_read_parts, d_Pact_is_complete, d_Pact_next_inner, d_Pact_complete, d_Refusal_init, d_State_init, d_State_twin, d_Run_init, d_Run_value, d_Run_joined, d_Run_is_so, d_Run_pay_out, d_Run_close, d_Run_do_payment, d_Run_do_let, d_Run_next_pact, d_Run_go_on, d_Run_fits, d_Run_do_input, d_Run_take, d_Run_all_told, d_Desk_init, d_Desk_begin, d_Desk_run, d_Desk_transact, d_Desk_account, d_Desk_choice, d_Desk_slot, d_Desk_rest, d_Desk_told, d_Desk_total, d_Desk_respond, d_pact_of, d_cut, d_quotient_of, d_need, d_is_time, d_read_input, d_inputs_of, d_answers]
def fa0 : List He.Fa := [.glo "NotThat", .glo "Numbers", .glo "Pact", .glo "Refusal", .glo "State", .glo "Run", .glo "Desk", .glo "pact_of", .glo "cut", .glo "quotient_of", .glo "need", .glo "is_time", .glo "read_input", .glo "inputs_of", .glo "answers", .glo "COUNTS", .glo "WITH_ROW", .free "len", .free "range", .free "max", .free "min", .free "abs", .free "any", .free "list", .free "tuple", .free "enumerate", .int "LARGEST" 1000000000000000, .int "LAST_TIME" 1099511627776, .int "MOST_NUMBERS" 8000, .int "DEEPEST" 40]
def fa1 : List He.Fa := [.int "DEEPEST_PACT" 400, .int "PARTIES" 8, .int "KINDS" 4, .int "CHOICES" 16, .int "SLOTS" 16, .int "MOST_PAIRS" 4, .int "MOST_CASES" 8, .int "CLOSE" 0, .int "PAYMENT" 1, .int "CONDITION" 2, .int "WAIT" 3, .int "LET" 4, .int "SAID" 5, .int "DEPOSIT" 0, .int "CHOICE" 1, .int "LOOK" 2, .int "NO_PAYMENT" 1, .int "PART_PAYMENT" 2, .int "NO_DEPOSIT" 3, .int "SLOT_TAKEN" 4, .int "NOT_SO" 5, .int "BETWEEN" (-5), .int "NO_CASE" (-6), .int "OUT_OF_RANGE" (-2), .int "END_BEFORE_START" (-3), .int "TOO_EARLY" (-4), .int "NOTHING_HAPPENS" (-7), .int "NOT_MADE" (-1), .int "MOST_INPUTS" 100, .cls "Numbers"]
def fa2 : List He.Fa := [.mkr "Numbers", .meth "Numbers" "has_ended", .meth "Numbers" "one", .meth "Numbers" "party", .meth "Numbers" "kind_of_money", .meth "Numbers" "amount", .meth "Numbers" "value", .meth "Numbers" "said", .meth "Numbers" "action", .noat "Numbers" "numbers", .noat "Numbers" "place", .cls "Pact", .mkr "Pact", .meth "Pact" "read_parts", .meth "Pact" "is_complete", .meth "Pact" "next_inner", .meth "Pact" "complete", .noat "Pact" "depth", .noat "Pact" "start", .noat "Pact" "end", .noat "Pact" "which", .noat "Pact" "parts", .noat "Pact" "actions", .noat "Pact" "time", .noat "Pact" "inner", .noat "Pact" "count", .noat "Pact" "last_time", .noat "Pact" "inputs", .cls "State", .mkr "State"]
def fa3 : List He.Fa := [.meth "State" "twin", .noat "State" "pact", .noat "State" "time", .noat "State" "accounts", .noat "State" "choices", .noat "State" "slots", .noat "State" "paid_in", .noat "State" "paid_out", .cls "Run", .mkr "Run", .meth "Run" "value", .meth "Run" "joined", .meth "Run" "is_so", .meth "Run" "pay_out", .meth "Run" "close", .meth "Run" "do_payment", .meth "Run" "do_let", .meth "Run" "next_pact", .meth "Run" "go_on", .meth "Run" "fits", .meth "Run" "do_input", .meth "Run" "take", .meth "Run" "all_told", .noat "Run" "state", .noat "Run" "start", .noat "Run" "end", .noat "Run" "payments", .noat "Run" "warnings", .noat "Run" "has_gone", .cls "Desk"]
def fa4 : List He.Fa := [.mkr "Desk", .meth "Desk" "begin", .meth "Desk" "run", .meth "Desk" "transact", .meth "Desk" "account", .meth "Desk" "choice", .meth "Desk" "slot", .meth "Desk" "rest", .meth "Desk" "told", .meth "Desk" "total", .meth "Desk" "respond", .noat "Desk" "numbers", .noat "Desk" "state", .exm "NotThat" "NotThat" true, .exm "Refusal" "Refusal" true, .exm "Refusal" "NotThat" false, .exm "NotThat" "Refusal" false]
def fa : List He.Fa := fa0 ++ (fa1 ++ (fa2 ++ (fa3 ++ (fa4))))
def nm0 : List Str := ["__name__", "LARGEST", "LAST_TIME", "MOST_NUMBERS", "DEEPEST", "DEEPEST_PACT", "PARTIES", "KINDS", "CHOICES", "SLOTS", "MOST_PAIRS", "MOST_CASES", "CLOSE", "PAYMENT", "CONDITION", "WAIT", "LET", "SAID", "DEPOSIT", "CHOICE", "LOOK", "NotThat", "Numbers", "Pact", "pact_of", "NO_PAYMENT", "PART_PAYMENT", "NO_DEPOSIT", "SLOT_TAKEN", "NOT_SO"]
def nm1 : List Str := ["BETWEEN", "NO_CASE", "Refusal", "cut", "quotient_of", "State", "Run", "OUT_OF_RANGE", "END_BEFORE_START", "TOO_EARLY", "NOTHING_HAPPENS", "NOT_MADE", "MOST_INPUTS", "COUNTS", "WITH_ROW", "need", "is_time", "read_input", "inputs_of", "Desk"]
def loose : List Str := nm0 ++ (nm1)
end SP
/-! ### the head: what the top has written -/
namespace SP
open PySem PySem.Spec PyProof.Rows L2
def exBase : List Value := [.type "Exception", .type "BaseException", .type "object"]
def isIn (v : Value) : Option Int := match v with
  | .int i _ => some i
  | _ => none
def notB (K : PySem.W.Frag) : Bool := PySem.W.excIn K (He.ga K "NotThat") exBase "Exception.__new__" && (PySem.W.keepIn K (.ref (He.ga K "NotThat")) && (decide (PySem.W.subIn K (.ref (He.ga K "NotThat")) (.type "BaseException") = some true) && decide (PySem.W.typeIn K (.ref (He.ga K "NotThat")) = some (.type "type"))))
def refObj (K : PySem.W.Frag) (C : Addr) : Bool := match K.lookup C with
  | some ⟨.type "type", _, .cls cd, sl⟩ => (match sl.toList with
    | [_, _, _, _, some (.builtin n), _] => decide (cd.mro = .ref C :: exBase) && (cd.hasDict && (!cd.hasDel && decide (n = "Exception.__new__")))
    | _ => false)
  | _ => false
def refB (K : PySem.W.Frag) : Bool := refObj K (He.ga K "Refusal") && (decide (PySem.W.findIn K (.ref (He.ga K "Refusal")) "__setattr__" = some (some (.builtin "object.__setattr__"))) &&
  (decide (PySem.W.findIn K (.ref (He.ga K "Refusal")) "__getattribute__" = some (some (.builtin "BaseException.__getattribute__"))) && (decide (PySem.W.findIn K (.ref (He.ga K "Refusal")) "__getattr__" = some none) &&
  (decide (PySem.W.findIn K (.ref (He.ga K "Refusal")) "answer" = some none) && (decide (PySem.W.findIn K (.ref (He.ga K "Refusal")) "__init__" = some (some (.ref (He.ma K (He.ga K "Refusal") "__init__")))) &&
  (decide (PySem.W.typeIn K (.ref (He.ma K (He.ga K "Refusal") "__init__")) = some (.type "function")) && (PySem.W.keepIn K (.ref (He.ga K "Refusal")) && (decide (PySem.W.subIn K (.ref (He.ga K "Refusal")) (.type "BaseException") = some true) &&
  (decide (PySem.W.typeIn K (.ref (He.ga K "Refusal")) = some (.type "type")) && PySem.W.hasDictIn K (He.ga K "Refusal"))))))))))
def counts : List (Int × Int) := [(1, 1), (2, 2), (3, 2), (4, 2), (5, 1), (6, 1), (7, 0), (8, 0), (9, 1)]
def countsB (K : PySem.W.Frag) : Bool := match K.lookup (He.ga K "COUNTS") with
  | some ⟨.type "dict", none, .dict es _, sl⟩ => sl.isEmpty && (((He.ga K "COUNTS") != sysModules) && decide (es.toList.map (fun e => (e.hash, isIn e.key, isIn e.val)) = counts.map fun p => (hashInt p.1, some p.1, some p.2)))
  | _ => false
def extraB (K : PySem.W.Frag) : Bool := notB K && (refB K && (countsB K && He.tupB K "WITH_ROW" [.int 1, .int 2, .int 3]))
def obsX (K : PySem.W.Frag) : He.AlD := ((extraB K && ((fa.all fun f => f.ok K) && fn.all fun d => d.ok K)), fn.map fun d => He.fnW K d.at_)
def SaysX (K : PySem.W.Frag) : Prop := obsX K = He.valD fn
def obsXG (g : Addr → Option Obj) : He.AlD := obsX (He.frG g (He.asD g 4))
def hk : PySem.W.Hook where
  α := He.AlD
  obs := fun s => obsXG s.heap.get?
  val := fun _ => He.valD fn
  says := fun _ h => ∃ K : PySem.W.Frag, K.In h ∧ SaysX K
  of := fun _ _ e => ⟨_, He.frG_in, e⟩
  keeps := fun _ _ _ ⟨K, hK, c⟩ k => ⟨K, PySem.W.Frag.In.keeps hK k, c⟩
def ob (s : PySem.W.SharedT) : He.AlD := obsXG (HeadRun.getT s)
theorem ob_eq (s : PySem.W.SharedT) : ob s = hk.obs s.abs := by
  have e : HeadRun.getT s = s.abs.heap.get? := funext (HeadRun.getT_eq s)
  show obsXG (HeadRun.getT s) = obsXG s.abs.heap.get?
  rw [e]
abbrev R : PySem.W.OpenSpec := PySem.Challenge.rw_selfpact_s01_answers
abbrev qv : Program := PySem.W.view R.prog [52]
end SP
set_option maxHeartbeats 2000000
/-! ### the facts by names -/
namespace SP
open PySem PySem.Spec PyProof.Rows L2
/-- what the proof leans on -/
structure Tx (K : PySem.W.Frag) (mg : Str → Option Value) : Prop where
  says : SaysX K
  at_ : ∃ h : Heap, K.In h ∧ h.Ns mainGlobals mg
section
variable {K : PySem.W.Frag} {mg : Str → Option Value}
theorem Tx.both (T : Tx K mg) : extraB K = true ∧ (∀ f ∈ fa, f.ok K = true) ∧ (∀ d ∈ fn, d.ok K = true) ∧ (fn.map fun d => He.fnW K d.at_) = fn.map He.DefD.val := by
  have e := T.says
  have e1 : (extraB K && ((fa.all fun f => f.ok K) && fn.all fun d => d.ok K)) = true := congrArg (fun z : He.AlD => z.1) e
  have e2 : (fn.map fun d => He.fnW K d.at_) = fn.map He.DefD.val := congrArg (fun z : He.AlD => z.2) e
  obtain ⟨h1, h2⟩ := Bool.and_eq_true_iff.mp e1
  obtain ⟨h3, h4⟩ := Bool.and_eq_true_iff.mp h2
  exact ⟨h1, List.all_eq_true.mp h3, List.all_eq_true.mp h4, e2⟩
theorem Tx.fact (T : Tx K mg) (i : Nat) {f : He.Fa} (h : fa[i]? = some f) : f.ok K = true := T.both.2.1 f (List.mem_of_getElem? h)
theorem Tx.df (T : Tx K mg) (i : Nat) {d : He.DefD} (h : fn[i]? = some d) : ∃ fd, FunD K d.name d.qual d.params d.body d.scope (d.dvs K) (d.kws K) (He.fAd K d.at_) fd := by
  have e2 : (fn.map fun d => He.fnW K d.at_)[i]? = (fn.map He.DefD.val)[i]? := by rw [T.both.2.2.2]
  rw [List.getElem?_map, List.getElem?_map, h] at e2
  exact He.DefD.funD (Option.some.inj e2) (T.both.2.2.1 d (List.mem_of_getElem? h))
theorem Tx.gl (T : Tx K mg) {x : Str} (c : (He.Fa.glo x).ok K = true) : mg x = some (.ref (He.ga K x)) := let ⟨_, X, G⟩ := T.at_; He.glo_ok X G c
theorem Tx.fr (T : Tx K mg) {x : Str} (c : (He.Fa.free x).ok K = true) : mg x = none := let ⟨_, X, G⟩ := T.at_; He.free_ok X G c
theorem Tx.nt (T : Tx K mg) {x : Str} {i : Int} (c : (He.Fa.int x i).ok K = true) : ∃ t, mg x = some (.int i t) := let ⟨_, X, G⟩ := T.at_; He.int_ok X G c
theorem Tx.g_NotThat (T : Tx K mg) : mg "NotThat" = some (.ref (He.ga K "NotThat")) := T.gl (T.fact 0 rfl)
theorem Tx.g_Numbers (T : Tx K mg) : mg "Numbers" = some (.ref (He.ga K "Numbers")) := T.gl (T.fact 1 rfl)
theorem Tx.g_Pact (T : Tx K mg) : mg "Pact" = some (.ref (He.ga K "Pact")) := T.gl (T.fact 2 rfl)
theorem Tx.g_Refusal (T : Tx K mg) : mg "Refusal" = some (.ref (He.ga K "Refusal")) := T.gl (T.fact 3 rfl)
theorem Tx.g_State (T : Tx K mg) : mg "State" = some (.ref (He.ga K "State")) := T.gl (T.fact 4 rfl)
theorem Tx.g_Run (T : Tx K mg) : mg "Run" = some (.ref (He.ga K "Run")) := T.gl (T.fact 5 rfl)
theorem Tx.g_Desk (T : Tx K mg) : mg "Desk" = some (.ref (He.ga K "Desk")) := T.gl (T.fact 6 rfl)
theorem Tx.g_pact_of (T : Tx K mg) : mg "pact_of" = some (.ref (He.ga K "pact_of")) := T.gl (T.fact 7 rfl)
theorem Tx.g_cut (T : Tx K mg) : mg "cut" = some (.ref (He.ga K "cut")) := T.gl (T.fact 8 rfl)
theorem Tx.g_quotient_of (T : Tx K mg) : mg "quotient_of" = some (.ref (He.ga K "quotient_of")) := T.gl (T.fact 9 rfl)
theorem Tx.g_need (T : Tx K mg) : mg "need" = some (.ref (He.ga K "need")) := T.gl (T.fact 10 rfl)
theorem Tx.g_is_time (T : Tx K mg) : mg "is_time" = some (.ref (He.ga K "is_time")) := T.gl (T.fact 11 rfl)
theorem Tx.g_read_input (T : Tx K mg) : mg "read_input" = some (.ref (He.ga K "read_input")) := T.gl (T.fact 12 rfl)
theorem Tx.g_inputs_of (T : Tx K mg) : mg "inputs_of" = some (.ref (He.ga K "inputs_of")) := T.gl (T.fact 13 rfl)
theorem Tx.g_answers (T : Tx K mg) : mg "answers" = some (.ref (He.ga K "answers")) := T.gl (T.fact 14 rfl)
theorem Tx.g_COUNTS (T : Tx K mg) : mg "COUNTS" = some (.ref (He.ga K "COUNTS")) := T.gl (T.fact 15 rfl)
theorem Tx.g_WITH_ROW (T : Tx K mg) : mg "WITH_ROW" = some (.ref (He.ga K "WITH_ROW")) := T.gl (T.fact 16 rfl)
theorem Tx.z_len (T : Tx K mg) : mg "len" = none := T.fr (T.fact 17 rfl)
theorem Tx.z_range (T : Tx K mg) : mg "range" = none := T.fr (T.fact 18 rfl)
theorem Tx.z_max (T : Tx K mg) : mg "max" = none := T.fr (T.fact 19 rfl)
theorem Tx.z_min (T : Tx K mg) : mg "min" = none := T.fr (T.fact 20 rfl)
theorem Tx.z_abs (T : Tx K mg) : mg "abs" = none := T.fr (T.fact 21 rfl)
theorem Tx.z_any (T : Tx K mg) : mg "any" = none := T.fr (T.fact 22 rfl)
theorem Tx.z_list (T : Tx K mg) : mg "list" = none := T.fr (T.fact 23 rfl)
theorem Tx.z_tuple (T : Tx K mg) : mg "tuple" = none := T.fr (T.fact 24 rfl)
theorem Tx.z_enumerate (T : Tx K mg) : mg "enumerate" = none := T.fr (T.fact 25 rfl)
theorem Tx.i_LARGEST (T : Tx K mg) : ∃ t, mg "LARGEST" = some (.int 1000000000000000 t) := T.nt (T.fact 26 rfl)
theorem Tx.i_LAST_TIME (T : Tx K mg) : ∃ t, mg "LAST_TIME" = some (.int 1099511627776 t) := T.nt (T.fact 27 rfl)
theorem Tx.i_MOST_NUMBERS (T : Tx K mg) : ∃ t, mg "MOST_NUMBERS" = some (.int 8000 t) := T.nt (T.fact 28 rfl)
theorem Tx.i_DEEPEST (T : Tx K mg) : ∃ t, mg "DEEPEST" = some (.int 40 t) := T.nt (T.fact 29 rfl)
theorem Tx.i_DEEPEST_PACT (T : Tx K mg) : ∃ t, mg "DEEPEST_PACT" = some (.int 400 t) := T.nt (T.fact 30 rfl)
theorem Tx.i_PARTIES (T : Tx K mg) : ∃ t, mg "PARTIES" = some (.int 8 t) := T.nt (T.fact 31 rfl)
theorem Tx.i_KINDS (T : Tx K mg) : ∃ t, mg "KINDS" = some (.int 4 t) := T.nt (T.fact 32 rfl)
theorem Tx.i_CHOICES (T : Tx K mg) : ∃ t, mg "CHOICES" = some (.int 16 t) := T.nt (T.fact 33 rfl)
theorem Tx.i_SLOTS (T : Tx K mg) : ∃ t, mg "SLOTS" = some (.int 16 t) := T.nt (T.fact 34 rfl)
theorem Tx.i_MOST_PAIRS (T : Tx K mg) : ∃ t, mg "MOST_PAIRS" = some (.int 4 t) := T.nt (T.fact 35 rfl)
theorem Tx.i_MOST_CASES (T : Tx K mg) : ∃ t, mg "MOST_CASES" = some (.int 8 t) := T.nt (T.fact 36 rfl)
theorem Tx.i_CLOSE (T : Tx K mg) : ∃ t, mg "CLOSE" = some (.int 0 t) := T.nt (T.fact 37 rfl)
theorem Tx.i_PAYMENT (T : Tx K mg) : ∃ t, mg "PAYMENT" = some (.int 1 t) := T.nt (T.fact 38 rfl)
theorem Tx.i_CONDITION (T : Tx K mg) : ∃ t, mg "CONDITION" = some (.int 2 t) := T.nt (T.fact 39 rfl)
theorem Tx.i_WAIT (T : Tx K mg) : ∃ t, mg "WAIT" = some (.int 3 t) := T.nt (T.fact 40 rfl)
theorem Tx.i_LET (T : Tx K mg) : ∃ t, mg "LET" = some (.int 4 t) := T.nt (T.fact 41 rfl)
theorem Tx.i_SAID (T : Tx K mg) : ∃ t, mg "SAID" = some (.int 5 t) := T.nt (T.fact 42 rfl)
theorem Tx.i_DEPOSIT (T : Tx K mg) : ∃ t, mg "DEPOSIT" = some (.int 0 t) := T.nt (T.fact 43 rfl)
theorem Tx.i_CHOICE (T : Tx K mg) : ∃ t, mg "CHOICE" = some (.int 1 t) := T.nt (T.fact 44 rfl)
theorem Tx.i_LOOK (T : Tx K mg) : ∃ t, mg "LOOK" = some (.int 2 t) := T.nt (T.fact 45 rfl)
theorem Tx.i_NO_PAYMENT (T : Tx K mg) : ∃ t, mg "NO_PAYMENT" = some (.int 1 t) := T.nt (T.fact 46 rfl)
theorem Tx.i_PART_PAYMENT (T : Tx K mg) : ∃ t, mg "PART_PAYMENT" = some (.int 2 t) := T.nt (T.fact 47 rfl)
theorem Tx.i_NO_DEPOSIT (T : Tx K mg) : ∃ t, mg "NO_DEPOSIT" = some (.int 3 t) := T.nt (T.fact 48 rfl)
theorem Tx.i_SLOT_TAKEN (T : Tx K mg) : ∃ t, mg "SLOT_TAKEN" = some (.int 4 t) := T.nt (T.fact 49 rfl)
theorem Tx.i_NOT_SO (T : Tx K mg) : ∃ t, mg "NOT_SO" = some (.int 5 t) := T.nt (T.fact 50 rfl)
theorem Tx.i_BETWEEN (T : Tx K mg) : ∃ t, mg "BETWEEN" = some (.int (-5) t) := T.nt (T.fact 51 rfl)
theorem Tx.i_NO_CASE (T : Tx K mg) : ∃ t, mg "NO_CASE" = some (.int (-6) t) := T.nt (T.fact 52 rfl)
theorem Tx.i_OUT_OF_RANGE (T : Tx K mg) : ∃ t, mg "OUT_OF_RANGE" = some (.int (-2) t) := T.nt (T.fact 53 rfl)
theorem Tx.i_END_BEFORE_START (T : Tx K mg) : ∃ t, mg "END_BEFORE_START" = some (.int (-3) t) := T.nt (T.fact 54 rfl)
theorem Tx.i_TOO_EARLY (T : Tx K mg) : ∃ t, mg "TOO_EARLY" = some (.int (-4) t) := T.nt (T.fact 55 rfl)
theorem Tx.i_NOTHING_HAPPENS (T : Tx K mg) : ∃ t, mg "NOTHING_HAPPENS" = some (.int (-7) t) := T.nt (T.fact 56 rfl)
theorem Tx.i_NOT_MADE (T : Tx K mg) : ∃ t, mg "NOT_MADE" = some (.int (-1) t) := T.nt (T.fact 57 rfl)
theorem Tx.i_MOST_INPUTS (T : Tx K mg) : ∃ t, mg "MOST_INPUTS" = some (.int 100 t) := T.nt (T.fact 58 rfl)
theorem Tx.c_Numbers (T : Tx K mg) : Cls K (He.ga K "Numbers") := He.cls_ok (T.fact 59 rfl)
theorem Tx.k_Numbers (T : Tx K mg) : Mk K (He.ga K "Numbers") (He.fAd K ("Numbers", some "__init__")) := He.mkr_ok (T.fact 60 rfl)
theorem Tx.m_Numbers_has_ended (T : Tx K mg) : Meth K (He.ga K "Numbers") "has_ended" (He.fAd K ("Numbers", some "has_ended")) := He.meth_ok (T.fact 61 rfl)
theorem Tx.m_Numbers_one (T : Tx K mg) : Meth K (He.ga K "Numbers") "one" (He.fAd K ("Numbers", some "one")) := He.meth_ok (T.fact 62 rfl)
theorem Tx.m_Numbers_party (T : Tx K mg) : Meth K (He.ga K "Numbers") "party" (He.fAd K ("Numbers", some "party")) := He.meth_ok (T.fact 63 rfl)
theorem Tx.m_Numbers_kind_of_money (T : Tx K mg) : Meth K (He.ga K "Numbers") "kind_of_money" (He.fAd K ("Numbers", some "kind_of_money")) := He.meth_ok (T.fact 64 rfl)
theorem Tx.m_Numbers_amount (T : Tx K mg) : Meth K (He.ga K "Numbers") "amount" (He.fAd K ("Numbers", some "amount")) := He.meth_ok (T.fact 65 rfl)
theorem Tx.m_Numbers_value (T : Tx K mg) : Meth K (He.ga K "Numbers") "value" (He.fAd K ("Numbers", some "value")) := He.meth_ok (T.fact 66 rfl)
theorem Tx.m_Numbers_said (T : Tx K mg) : Meth K (He.ga K "Numbers") "said" (He.fAd K ("Numbers", some "said")) := He.meth_ok (T.fact 67 rfl)
theorem Tx.m_Numbers_action (T : Tx K mg) : Meth K (He.ga K "Numbers") "action" (He.fAd K ("Numbers", some "action")) := He.meth_ok (T.fact 68 rfl)
theorem Tx.n_Numbers_numbers (T : Tx K mg) : NoAttr K (He.ga K "Numbers") "numbers" := He.noat_ok (T.fact 69 rfl)
theorem Tx.n_Numbers_place (T : Tx K mg) : NoAttr K (He.ga K "Numbers") "place" := He.noat_ok (T.fact 70 rfl)
theorem Tx.c_Pact (T : Tx K mg) : Cls K (He.ga K "Pact") := He.cls_ok (T.fact 71 rfl)
theorem Tx.k_Pact (T : Tx K mg) : Mk K (He.ga K "Pact") (He.fAd K ("Pact", some "__init__")) := He.mkr_ok (T.fact 72 rfl)
theorem Tx.m_Pact_read_parts (T : Tx K mg) : Meth K (He.ga K "Pact") "read_parts" (He.fAd K ("Pact", some "read_parts")) := He.meth_ok (T.fact 73 rfl)
theorem Tx.m_Pact_is_complete (T : Tx K mg) : Meth K (He.ga K "Pact") "is_complete" (He.fAd K ("Pact", some "is_complete")) := He.meth_ok (T.fact 74 rfl)
theorem Tx.m_Pact_next_inner (T : Tx K mg) : Meth K (He.ga K "Pact") "next_inner" (He.fAd K ("Pact", some "next_inner")) := He.meth_ok (T.fact 75 rfl)
theorem Tx.m_Pact_complete (T : Tx K mg) : Meth K (He.ga K "Pact") "complete" (He.fAd K ("Pact", some "complete")) := He.meth_ok (T.fact 76 rfl)
theorem Tx.n_Pact_depth (T : Tx K mg) : NoAttr K (He.ga K "Pact") "depth" := He.noat_ok (T.fact 77 rfl)
theorem Tx.n_Pact_start (T : Tx K mg) : NoAttr K (He.ga K "Pact") "start" := He.noat_ok (T.fact 78 rfl)
theorem Tx.n_Pact_end (T : Tx K mg) : NoAttr K (He.ga K "Pact") "end" := He.noat_ok (T.fact 79 rfl)
theorem Tx.n_Pact_which (T : Tx K mg) : NoAttr K (He.ga K "Pact") "which" := He.noat_ok (T.fact 80 rfl)
theorem Tx.n_Pact_parts (T : Tx K mg) : NoAttr K (He.ga K "Pact") "parts" := He.noat_ok (T.fact 81 rfl)
theorem Tx.n_Pact_actions (T : Tx K mg) : NoAttr K (He.ga K "Pact") "actions" := He.noat_ok (T.fact 82 rfl)
theorem Tx.n_Pact_time (T : Tx K mg) : NoAttr K (He.ga K "Pact") "time" := He.noat_ok (T.fact 83 rfl)
theorem Tx.n_Pact_inner (T : Tx K mg) : NoAttr K (He.ga K "Pact") "inner" := He.noat_ok (T.fact 84 rfl)
theorem Tx.n_Pact_count (T : Tx K mg) : NoAttr K (He.ga K "Pact") "count" := He.noat_ok (T.fact 85 rfl)
theorem Tx.n_Pact_last_time (T : Tx K mg) : NoAttr K (He.ga K "Pact") "last_time" := He.noat_ok (T.fact 86 rfl)
theorem Tx.n_Pact_inputs (T : Tx K mg) : NoAttr K (He.ga K "Pact") "inputs" := He.noat_ok (T.fact 87 rfl)
theorem Tx.c_State (T : Tx K mg) : Cls K (He.ga K "State") := He.cls_ok (T.fact 88 rfl)
theorem Tx.k_State (T : Tx K mg) : Mk K (He.ga K "State") (He.fAd K ("State", some "__init__")) := He.mkr_ok (T.fact 89 rfl)
theorem Tx.m_State_twin (T : Tx K mg) : Meth K (He.ga K "State") "twin" (He.fAd K ("State", some "twin")) := He.meth_ok (T.fact 90 rfl)
theorem Tx.n_State_pact (T : Tx K mg) : NoAttr K (He.ga K "State") "pact" := He.noat_ok (T.fact 91 rfl)
theorem Tx.n_State_time (T : Tx K mg) : NoAttr K (He.ga K "State") "time" := He.noat_ok (T.fact 92 rfl)
theorem Tx.n_State_accounts (T : Tx K mg) : NoAttr K (He.ga K "State") "accounts" := He.noat_ok (T.fact 93 rfl)
theorem Tx.n_State_choices (T : Tx K mg) : NoAttr K (He.ga K "State") "choices" := He.noat_ok (T.fact 94 rfl)
theorem Tx.n_State_slots (T : Tx K mg) : NoAttr K (He.ga K "State") "slots" := He.noat_ok (T.fact 95 rfl)
theorem Tx.n_State_paid_in (T : Tx K mg) : NoAttr K (He.ga K "State") "paid_in" := He.noat_ok (T.fact 96 rfl)
theorem Tx.n_State_paid_out (T : Tx K mg) : NoAttr K (He.ga K "State") "paid_out" := He.noat_ok (T.fact 97 rfl)
theorem Tx.c_Run (T : Tx K mg) : Cls K (He.ga K "Run") := He.cls_ok (T.fact 98 rfl)
theorem Tx.k_Run (T : Tx K mg) : Mk K (He.ga K "Run") (He.fAd K ("Run", some "__init__")) := He.mkr_ok (T.fact 99 rfl)
theorem Tx.m_Run_value (T : Tx K mg) : Meth K (He.ga K "Run") "value" (He.fAd K ("Run", some "value")) := He.meth_ok (T.fact 100 rfl)
theorem Tx.m_Run_joined (T : Tx K mg) : Meth K (He.ga K "Run") "joined" (He.fAd K ("Run", some "joined")) := He.meth_ok (T.fact 101 rfl)
theorem Tx.m_Run_is_so (T : Tx K mg) : Meth K (He.ga K "Run") "is_so" (He.fAd K ("Run", some "is_so")) := He.meth_ok (T.fact 102 rfl)
theorem Tx.m_Run_pay_out (T : Tx K mg) : Meth K (He.ga K "Run") "pay_out" (He.fAd K ("Run", some "pay_out")) := He.meth_ok (T.fact 103 rfl)
theorem Tx.m_Run_close (T : Tx K mg) : Meth K (He.ga K "Run") "close" (He.fAd K ("Run", some "close")) := He.meth_ok (T.fact 104 rfl)
theorem Tx.m_Run_do_payment (T : Tx K mg) : Meth K (He.ga K "Run") "do_payment" (He.fAd K ("Run", some "do_payment")) := He.meth_ok (T.fact 105 rfl)
theorem Tx.m_Run_do_let (T : Tx K mg) : Meth K (He.ga K "Run") "do_let" (He.fAd K ("Run", some "do_let")) := He.meth_ok (T.fact 106 rfl)
theorem Tx.m_Run_next_pact (T : Tx K mg) : Meth K (He.ga K "Run") "next_pact" (He.fAd K ("Run", some "next_pact")) := He.meth_ok (T.fact 107 rfl)
theorem Tx.m_Run_go_on (T : Tx K mg) : Meth K (He.ga K "Run") "go_on" (He.fAd K ("Run", some "go_on")) := He.meth_ok (T.fact 108 rfl)
theorem Tx.m_Run_fits (T : Tx K mg) : Meth K (He.ga K "Run") "fits" (He.fAd K ("Run", some "fits")) := He.meth_ok (T.fact 109 rfl)
theorem Tx.m_Run_do_input (T : Tx K mg) : Meth K (He.ga K "Run") "do_input" (He.fAd K ("Run", some "do_input")) := He.meth_ok (T.fact 110 rfl)
theorem Tx.m_Run_take (T : Tx K mg) : Meth K (He.ga K "Run") "take" (He.fAd K ("Run", some "take")) := He.meth_ok (T.fact 111 rfl)
theorem Tx.m_Run_all_told (T : Tx K mg) : Meth K (He.ga K "Run") "all_told" (He.fAd K ("Run", some "all_told")) := He.meth_ok (T.fact 112 rfl)
theorem Tx.n_Run_state (T : Tx K mg) : NoAttr K (He.ga K "Run") "state" := He.noat_ok (T.fact 113 rfl)
theorem Tx.n_Run_start (T : Tx K mg) : NoAttr K (He.ga K "Run") "start" := He.noat_ok (T.fact 114 rfl)
theorem Tx.n_Run_end (T : Tx K mg) : NoAttr K (He.ga K "Run") "end" := He.noat_ok (T.fact 115 rfl)
theorem Tx.n_Run_payments (T : Tx K mg) : NoAttr K (He.ga K "Run") "payments" := He.noat_ok (T.fact 116 rfl)
theorem Tx.n_Run_warnings (T : Tx K mg) : NoAttr K (He.ga K "Run") "warnings" := He.noat_ok (T.fact 117 rfl)
theorem Tx.n_Run_has_gone (T : Tx K mg) : NoAttr K (He.ga K "Run") "has_gone" := He.noat_ok (T.fact 118 rfl)
theorem Tx.c_Desk (T : Tx K mg) : Cls K (He.ga K "Desk") := He.cls_ok (T.fact 119 rfl)
theorem Tx.k_Desk (T : Tx K mg) : Mk K (He.ga K "Desk") (He.fAd K ("Desk", some "__init__")) := He.mkr_ok (T.fact 120 rfl)
theorem Tx.m_Desk_begin (T : Tx K mg) : Meth K (He.ga K "Desk") "begin" (He.fAd K ("Desk", some "begin")) := He.meth_ok (T.fact 121 rfl)
theorem Tx.m_Desk_run (T : Tx K mg) : Meth K (He.ga K "Desk") "run" (He.fAd K ("Desk", some "run")) := He.meth_ok (T.fact 122 rfl)
theorem Tx.m_Desk_transact (T : Tx K mg) : Meth K (He.ga K "Desk") "transact" (He.fAd K ("Desk", some "transact")) := He.meth_ok (T.fact 123 rfl)
theorem Tx.m_Desk_account (T : Tx K mg) : Meth K (He.ga K "Desk") "account" (He.fAd K ("Desk", some "account")) := He.meth_ok (T.fact 124 rfl)
theorem Tx.m_Desk_choice (T : Tx K mg) : Meth K (He.ga K "Desk") "choice" (He.fAd K ("Desk", some "choice")) := He.meth_ok (T.fact 125 rfl)
theorem Tx.m_Desk_slot (T : Tx K mg) : Meth K (He.ga K "Desk") "slot" (He.fAd K ("Desk", some "slot")) := He.meth_ok (T.fact 126 rfl)
theorem Tx.m_Desk_rest (T : Tx K mg) : Meth K (He.ga K "Desk") "rest" (He.fAd K ("Desk", some "rest")) := He.meth_ok (T.fact 127 rfl)
theorem Tx.m_Desk_told (T : Tx K mg) : Meth K (He.ga K "Desk") "told" (He.fAd K ("Desk", some "told")) := He.meth_ok (T.fact 128 rfl)
theorem Tx.m_Desk_total (T : Tx K mg) : Meth K (He.ga K "Desk") "total" (He.fAd K ("Desk", some "total")) := He.meth_ok (T.fact 129 rfl)
theorem Tx.m_Desk_respond (T : Tx K mg) : Meth K (He.ga K "Desk") "respond" (He.fAd K ("Desk", some "respond")) := He.meth_ok (T.fact 130 rfl)
theorem Tx.n_Desk_numbers (T : Tx K mg) : NoAttr K (He.ga K "Desk") "numbers" := He.noat_ok (T.fact 131 rfl)
theorem Tx.n_Desk_state (T : Tx K mg) : NoAttr K (He.ga K "Desk") "state" := He.noat_ok (T.fact 132 rfl)
theorem Tx.x_NotThat_NotThat (T : Tx K mg) : PySem.W.exmOne K (.ref (He.ga K "NotThat")) (.ref (He.ga K "NotThat")) = some true := He.exm_ok (T.fact 133 rfl)
theorem Tx.x_Refusal_Refusal (T : Tx K mg) : PySem.W.exmOne K (.ref (He.ga K "Refusal")) (.ref (He.ga K "Refusal")) = some true := He.exm_ok (T.fact 134 rfl)
theorem Tx.x_Refusal_NotThat (T : Tx K mg) : PySem.W.exmOne K (.ref (He.ga K "Refusal")) (.ref (He.ga K "NotThat")) = some false := He.exm_ok (T.fact 135 rfl)
theorem Tx.x_NotThat_Refusal (T : Tx K mg) : PySem.W.exmOne K (.ref (He.ga K "NotThat")) (.ref (He.ga K "Refusal")) = some false := He.exm_ok (T.fact 136 rfl)
theorem Tx.D_Numbers_init (T : Tx K mg) : ∃ fd, FunD K d_Numbers_init.name d_Numbers_init.qual d_Numbers_init.params d_Numbers_init.body d_Numbers_init.scope (d_Numbers_init.dvs K) (d_Numbers_init.kws K) (He.fAd K d_Numbers_init.at_) fd := T.df 0 rfl
theorem Tx.D_Numbers_has_ended (T : Tx K mg) : ∃ fd, FunD K d_Numbers_has_ended.name d_Numbers_has_ended.qual d_Numbers_has_ended.params d_Numbers_has_ended.body d_Numbers_has_ended.scope (d_Numbers_has_ended.dvs K) (d_Numbers_has_ended.kws K) (He.fAd K d_Numbers_has_ended.at_) fd := T.df 1 rfl
theorem Tx.D_Numbers_one (T : Tx K mg) : ∃ fd, FunD K d_Numbers_one.name d_Numbers_one.qual d_Numbers_one.params d_Numbers_one.body d_Numbers_one.scope (d_Numbers_one.dvs K) (d_Numbers_one.kws K) (He.fAd K d_Numbers_one.at_) fd := T.df 2 rfl
theorem Tx.D_Numbers_party (T : Tx K mg) : ∃ fd, FunD K d_Numbers_party.name d_Numbers_party.qual d_Numbers_party.params d_Numbers_party.body d_Numbers_party.scope (d_Numbers_party.dvs K) (d_Numbers_party.kws K) (He.fAd K d_Numbers_party.at_) fd := T.df 3 rfl
theorem Tx.D_Numbers_kind_of_money (T : Tx K mg) : ∃ fd, FunD K d_Numbers_kind_of_money.name d_Numbers_kind_of_money.qual d_Numbers_kind_of_money.params d_Numbers_kind_of_money.body d_Numbers_kind_of_money.scope (d_Numbers_kind_of_money.dvs K) (d_Numbers_kind_of_money.kws K) (He.fAd K d_Numbers_kind_of_money.at_) fd := T.df 4 rfl
theorem Tx.D_Numbers_amount (T : Tx K mg) : ∃ fd, FunD K d_Numbers_amount.name d_Numbers_amount.qual d_Numbers_amount.params d_Numbers_amount.body d_Numbers_amount.scope (d_Numbers_amount.dvs K) (d_Numbers_amount.kws K) (He.fAd K d_Numbers_amount.at_) fd := T.df 5 rfl
theorem Tx.D_Numbers_value (T : Tx K mg) : ∃ fd, FunD K d_Numbers_value.name d_Numbers_value.qual d_Numbers_value.params d_Numbers_value.body d_Numbers_value.scope (d_Numbers_value.dvs K) (d_Numbers_value.kws K) (He.fAd K d_Numbers_value.at_) fd := T.df 6 rfl
theorem Tx.D_Numbers_said (T : Tx K mg) : ∃ fd, FunD K d_Numbers_said.name d_Numbers_said.qual d_Numbers_said.params d_Numbers_said.body d_Numbers_said.scope (d_Numbers_said.dvs K) (d_Numbers_said.kws K) (He.fAd K d_Numbers_said.at_) fd := T.df 7 rfl
theorem Tx.D_Numbers_action (T : Tx K mg) : ∃ fd, FunD K d_Numbers_action.name d_Numbers_action.qual d_Numbers_action.params d_Numbers_action.body d_Numbers_action.scope (d_Numbers_action.dvs K) (d_Numbers_action.kws K) (He.fAd K d_Numbers_action.at_) fd := T.df 8 rfl
theorem Tx.D_Pact_init (T : Tx K mg) : ∃ fd, FunD K d_Pact_init.name d_Pact_init.qual d_Pact_init.params d_Pact_init.body d_Pact_init.scope (d_Pact_init.dvs K) (d_Pact_init.kws K) (He.fAd K d_Pact_init.at_) fd := T.df 9 rfl
theorem Tx.D_Pact_read_parts (T : Tx K mg) : ∃ fd, FunD K d_Pact_read_parts.name d_Pact_read_parts.qual d_Pact_read_parts.params d_Pact_read_parts.body d_Pact_read_parts.scope (d_Pact_read_parts.dvs K) (d_Pact_read_parts.kws K) (He.fAd K d_Pact_read_parts.at_) fd := T.df 10 rfl
theorem Tx.D_Pact_is_complete (T : Tx K mg) : ∃ fd, FunD K d_Pact_is_complete.name d_Pact_is_complete.qual d_Pact_is_complete.params d_Pact_is_complete.body d_Pact_is_complete.scope (d_Pact_is_complete.dvs K) (d_Pact_is_complete.kws K) (He.fAd K d_Pact_is_complete.at_) fd := T.df 11 rfl
theorem Tx.D_Pact_next_inner (T : Tx K mg) : ∃ fd, FunD K d_Pact_next_inner.name d_Pact_next_inner.qual d_Pact_next_inner.params d_Pact_next_inner.body d_Pact_next_inner.scope (d_Pact_next_inner.dvs K) (d_Pact_next_inner.kws K) (He.fAd K d_Pact_next_inner.at_) fd := T.df 12 rfl
theorem Tx.D_Pact_complete (T : Tx K mg) : ∃ fd, FunD K d_Pact_complete.name d_Pact_complete.qual d_Pact_complete.params d_Pact_complete.body d_Pact_complete.scope (d_Pact_complete.dvs K) (d_Pact_complete.kws K) (He.fAd K d_Pact_complete.at_) fd := T.df 13 rfl
theorem Tx.D_Refusal_init (T : Tx K mg) : ∃ fd, FunD K d_Refusal_init.name d_Refusal_init.qual d_Refusal_init.params d_Refusal_init.body d_Refusal_init.scope (d_Refusal_init.dvs K) (d_Refusal_init.kws K) (He.fAd K d_Refusal_init.at_) fd := T.df 14 rfl
theorem Tx.D_State_init (T : Tx K mg) : ∃ fd, FunD K d_State_init.name d_State_init.qual d_State_init.params d_State_init.body d_State_init.scope (d_State_init.dvs K) (d_State_init.kws K) (He.fAd K d_State_init.at_) fd := T.df 15 rfl
theorem Tx.D_State_twin (T : Tx K mg) : ∃ fd, FunD K d_State_twin.name d_State_twin.qual d_State_twin.params d_State_twin.body d_State_twin.scope (d_State_twin.dvs K) (d_State_twin.kws K) (He.fAd K d_State_twin.at_) fd := T.df 16 rfl
theorem Tx.D_Run_init (T : Tx K mg) : ∃ fd, FunD K d_Run_init.name d_Run_init.qual d_Run_init.params d_Run_init.body d_Run_init.scope (d_Run_init.dvs K) (d_Run_init.kws K) (He.fAd K d_Run_init.at_) fd := T.df 17 rfl
theorem Tx.D_Run_value (T : Tx K mg) : ∃ fd, FunD K d_Run_value.name d_Run_value.qual d_Run_value.params d_Run_value.body d_Run_value.scope (d_Run_value.dvs K) (d_Run_value.kws K) (He.fAd K d_Run_value.at_) fd := T.df 18 rfl
theorem Tx.D_Run_joined (T : Tx K mg) : ∃ fd, FunD K d_Run_joined.name d_Run_joined.qual d_Run_joined.params d_Run_joined.body d_Run_joined.scope (d_Run_joined.dvs K) (d_Run_joined.kws K) (He.fAd K d_Run_joined.at_) fd := T.df 19 rfl
theorem Tx.D_Run_is_so (T : Tx K mg) : ∃ fd, FunD K d_Run_is_so.name d_Run_is_so.qual d_Run_is_so.params d_Run_is_so.body d_Run_is_so.scope (d_Run_is_so.dvs K) (d_Run_is_so.kws K) (He.fAd K d_Run_is_so.at_) fd := T.df 20 rfl
theorem Tx.D_Run_pay_out (T : Tx K mg) : ∃ fd, FunD K d_Run_pay_out.name d_Run_pay_out.qual d_Run_pay_out.params d_Run_pay_out.body d_Run_pay_out.scope (d_Run_pay_out.dvs K) (d_Run_pay_out.kws K) (He.fAd K d_Run_pay_out.at_) fd := T.df 21 rfl
theorem Tx.D_Run_close (T : Tx K mg) : ∃ fd, FunD K d_Run_close.name d_Run_close.qual d_Run_close.params d_Run_close.body d_Run_close.scope (d_Run_close.dvs K) (d_Run_close.kws K) (He.fAd K d_Run_close.at_) fd := T.df 22 rfl
theorem Tx.D_Run_do_payment (T : Tx K mg) : ∃ fd, FunD K d_Run_do_payment.name d_Run_do_payment.qual d_Run_do_payment.params d_Run_do_payment.body d_Run_do_payment.scope (d_Run_do_payment.dvs K) (d_Run_do_payment.kws K) (He.fAd K d_Run_do_payment.at_) fd := T.df 23 rfl
theorem Tx.D_Run_do_let (T : Tx K mg) : ∃ fd, FunD K d_Run_do_let.name d_Run_do_let.qual d_Run_do_let.params d_Run_do_let.body d_Run_do_let.scope (d_Run_do_let.dvs K) (d_Run_do_let.kws K) (He.fAd K d_Run_do_let.at_) fd := T.df 24 rfl
theorem Tx.D_Run_next_pact (T : Tx K mg) : ∃ fd, FunD K d_Run_next_pact.name d_Run_next_pact.qual d_Run_next_pact.params d_Run_next_pact.body d_Run_next_pact.scope (d_Run_next_pact.dvs K) (d_Run_next_pact.kws K) (He.fAd K d_Run_next_pact.at_) fd := T.df 25 rfl
theorem Tx.D_Run_go_on (T : Tx K mg) : ∃ fd, FunD K d_Run_go_on.name d_Run_go_on.qual d_Run_go_on.params d_Run_go_on.body d_Run_go_on.scope (d_Run_go_on.dvs K) (d_Run_go_on.kws K) (He.fAd K d_Run_go_on.at_) fd := T.df 26 rfl
theorem Tx.D_Run_fits (T : Tx K mg) : ∃ fd, FunD K d_Run_fits.name d_Run_fits.qual d_Run_fits.params d_Run_fits.body d_Run_fits.scope (d_Run_fits.dvs K) (d_Run_fits.kws K) (He.fAd K d_Run_fits.at_) fd := T.df 27 rfl
theorem Tx.D_Run_do_input (T : Tx K mg) : ∃ fd, FunD K d_Run_do_input.name d_Run_do_input.qual d_Run_do_input.params d_Run_do_input.body d_Run_do_input.scope (d_Run_do_input.dvs K) (d_Run_do_input.kws K) (He.fAd K d_Run_do_input.at_) fd := T.df 28 rfl
theorem Tx.D_Run_take (T : Tx K mg) : ∃ fd, FunD K d_Run_take.name d_Run_take.qual d_Run_take.params d_Run_take.body d_Run_take.scope (d_Run_take.dvs K) (d_Run_take.kws K) (He.fAd K d_Run_take.at_) fd := T.df 29 rfl
theorem Tx.D_Run_all_told (T : Tx K mg) : ∃ fd, FunD K d_Run_all_told.name d_Run_all_told.qual d_Run_all_told.params d_Run_all_told.body d_Run_all_told.scope (d_Run_all_told.dvs K) (d_Run_all_told.kws K) (He.fAd K d_Run_all_told.at_) fd := T.df 30 rfl
theorem Tx.D_Desk_init (T : Tx K mg) : ∃ fd, FunD K d_Desk_init.name d_Desk_init.qual d_Desk_init.params d_Desk_init.body d_Desk_init.scope (d_Desk_init.dvs K) (d_Desk_init.kws K) (He.fAd K d_Desk_init.at_) fd := T.df 31 rfl
theorem Tx.D_Desk_begin (T : Tx K mg) : ∃ fd, FunD K d_Desk_begin.name d_Desk_begin.qual d_Desk_begin.params d_Desk_begin.body d_Desk_begin.scope (d_Desk_begin.dvs K) (d_Desk_begin.kws K) (He.fAd K d_Desk_begin.at_) fd := T.df 32 rfl
theorem Tx.D_Desk_run (T : Tx K mg) : ∃ fd, FunD K d_Desk_run.name d_Desk_run.qual d_Desk_run.params d_Desk_run.body d_Desk_run.scope (d_Desk_run.dvs K) (d_Desk_run.kws K) (He.fAd K d_Desk_run.at_) fd := T.df 33 rfl
theorem Tx.D_Desk_transact (T : Tx K mg) : ∃ fd, FunD K d_Desk_transact.name d_Desk_transact.qual d_Desk_transact.params d_Desk_transact.body d_Desk_transact.scope (d_Desk_transact.dvs K) (d_Desk_transact.kws K) (He.fAd K d_Desk_transact.at_) fd := T.df 34 rfl
theorem Tx.D_Desk_account (T : Tx K mg) : ∃ fd, FunD K d_Desk_account.name d_Desk_account.qual d_Desk_account.params d_Desk_account.body d_Desk_account.scope (d_Desk_account.dvs K) (d_Desk_account.kws K) (He.fAd K d_Desk_account.at_) fd := T.df 35 rfl
theorem Tx.D_Desk_choice (T : Tx K mg) : ∃ fd, FunD K d_Desk_choice.name d_Desk_choice.qual d_Desk_choice.params d_Desk_choice.body d_Desk_choice.scope (d_Desk_choice.dvs K) (d_Desk_choice.kws K) (He.fAd K d_Desk_choice.at_) fd := T.df 36 rfl
theorem Tx.D_Desk_slot (T : Tx K mg) : ∃ fd, FunD K d_Desk_slot.name d_Desk_slot.qual d_Desk_slot.params d_Desk_slot.body d_Desk_slot.scope (d_Desk_slot.dvs K) (d_Desk_slot.kws K) (He.fAd K d_Desk_slot.at_) fd := T.df 37 rfl
theorem Tx.D_Desk_rest (T : Tx K mg) : ∃ fd, FunD K d_Desk_rest.name d_Desk_rest.qual d_Desk_rest.params d_Desk_rest.body d_Desk_rest.scope (d_Desk_rest.dvs K) (d_Desk_rest.kws K) (He.fAd K d_Desk_rest.at_) fd := T.df 38 rfl
theorem Tx.D_Desk_told (T : Tx K mg) : ∃ fd, FunD K d_Desk_told.name d_Desk_told.qual d_Desk_told.params d_Desk_told.body d_Desk_told.scope (d_Desk_told.dvs K) (d_Desk_told.kws K) (He.fAd K d_Desk_told.at_) fd := T.df 39 rfl
theorem Tx.D_Desk_total (T : Tx K mg) : ∃ fd, FunD K d_Desk_total.name d_Desk_total.qual d_Desk_total.params d_Desk_total.body d_Desk_total.scope (d_Desk_total.dvs K) (d_Desk_total.kws K) (He.fAd K d_Desk_total.at_) fd := T.df 40 rfl
theorem Tx.D_Desk_respond (T : Tx K mg) : ∃ fd, FunD K d_Desk_respond.name d_Desk_respond.qual d_Desk_respond.params d_Desk_respond.body d_Desk_respond.scope (d_Desk_respond.dvs K) (d_Desk_respond.kws K) (He.fAd K d_Desk_respond.at_) fd := T.df 41 rfl
theorem Tx.D_pact_of (T : Tx K mg) : ∃ fd, FunD K d_pact_of.name d_pact_of.qual d_pact_of.params d_pact_of.body d_pact_of.scope (d_pact_of.dvs K) (d_pact_of.kws K) (He.fAd K d_pact_of.at_) fd := T.df 42 rfl
theorem Tx.D_cut (T : Tx K mg) : ∃ fd, FunD K d_cut.name d_cut.qual d_cut.params d_cut.body d_cut.scope (d_cut.dvs K) (d_cut.kws K) (He.fAd K d_cut.at_) fd := T.df 43 rfl
theorem Tx.D_quotient_of (T : Tx K mg) : ∃ fd, FunD K d_quotient_of.name d_quotient_of.qual d_quotient_of.params d_quotient_of.body d_quotient_of.scope (d_quotient_of.dvs K) (d_quotient_of.kws K) (He.fAd K d_quotient_of.at_) fd := T.df 44 rfl
theorem Tx.D_need (T : Tx K mg) : ∃ fd, FunD K d_need.name d_need.qual d_need.params d_need.body d_need.scope (d_need.dvs K) (d_need.kws K) (He.fAd K d_need.at_) fd := T.df 45 rfl
theorem Tx.D_is_time (T : Tx K mg) : ∃ fd, FunD K d_is_time.name d_is_time.qual d_is_time.params d_is_time.body d_is_time.scope (d_is_time.dvs K) (d_is_time.kws K) (He.fAd K d_is_time.at_) fd := T.df 46 rfl
theorem Tx.D_read_input (T : Tx K mg) : ∃ fd, FunD K d_read_input.name d_read_input.qual d_read_input.params d_read_input.body d_read_input.scope (d_read_input.dvs K) (d_read_input.kws K) (He.fAd K d_read_input.at_) fd := T.df 47 rfl
theorem Tx.D_inputs_of (T : Tx K mg) : ∃ fd, FunD K d_inputs_of.name d_inputs_of.qual d_inputs_of.params d_inputs_of.body d_inputs_of.scope (d_inputs_of.dvs K) (d_inputs_of.kws K) (He.fAd K d_inputs_of.at_) fd := T.df 48 rfl
theorem Tx.D_answers (T : Tx K mg) : ∃ fd, FunD K d_answers.name d_answers.qual d_answers.params d_answers.body d_answers.scope (d_answers.dvs K) (d_answers.kws K) (He.fAd K d_answers.at_) fd := T.df 49 rfl
end
end SP
set_option maxHeartbeats 2000000
/-! ### words of this proof: calls, errors, what the layer lacks -/
namespace SP
open PySem PySem.Spec PyProof.Rows L2
abbrev CN (K : PySem.W.Frag) : Addr := He.ga K "Numbers"
abbrev CP (K : PySem.W.Frag) : Addr := He.ga K "Pact"
abbrev CS (K : PySem.W.Frag) : Addr := He.ga K "State"
abbrev CU (K : PySem.W.Frag) : Addr := He.ga K "Run"
abbrev CD (K : PySem.W.Frag) : Addr := He.ga K "Desk"
abbrev XN (K : PySem.W.Frag) : Value := .ref (He.ga K "NotThat")
abbrev XR (K : PySem.W.Frag) : Value := .ref (He.ga K "Refusal")
/-- a def keeps its promise, its arguments bind -/
structure Fok (P : Program) (w : World) (K : PySem.W.Frag) (mg : Str → Option Value) (base : Heap) (CX : CXT) (k : Nat) (d : He.DefD) (ps : List Str) (sp : Sp) : Prop where
  ex : ∃ fd, FnOk P w K mg base CX k (He.fAd K d.at_) fd ps sp ∧ Binds K fd ps [] ∧ PySem.W.keepIn K (.ref (He.fAd K d.at_)) = true
theorem Fok.mono {P : Program} {w : World} {K : PySem.W.Frag} {mg : Str → Option Value} {base : Heap} {CX : CXT} {j k : Nat} {d : He.DefD} {ps : List Str} {sp : Sp} (F : Fok P w K mg base CX j d ps sp) (h : j ≤ k) : Fok P w K mg base CX k d ps sp :=
  let ⟨fd, f, b, q⟩ := F.ex; ⟨fd, f.mono h, b, q⟩
theorem Fok.imp {P : Program} {w : World} {K : PySem.W.Frag} {mg : Str → Option Value} {base : Heap} {CX : CXT} {k : Nat} {d : He.DefD} {ps : List Str} {sp sp' : Sp} (F : Fok P w K mg base CX k d ps sp)
    (h : ∀ vs H Q E, sp' vs H Q E → sp vs H Q E) : Fok P w K mg base CX k d ps sp' :=
  let ⟨fd, f, b, q⟩ := F.ex; ⟨fd, f.imp h, b, q⟩
section
variable {P : Program} {w : World} {K : PySem.W.Frag} {mg : Str → Option Value} {base : Heap}
/-- THE RULE for a def of this text -/
theorem fok {CX : CXT} {k : Nat} {d : He.DefD} {N ps : List Str} {sp : Sp} (D : ∃ fd, FunD K d.name d.qual d.params d.body d.scope (d.dvs K) (d.kws K) (He.fAd K d.at_) fd) (hd : d.dvs K = []) (S : FnScope N ps d.scope)
    (hb : ∀ (kV doc pm : Value) (an : Option Addr) (cdv ct : Value) (us : List Value), us.length = ps.length → bindArgs (PySem.W.fnOf d.name d.qual d.params d.body d.scope .none kV doc pm an cdv ct) ⟨us, []⟩ = pure (ps.zip us))
    (len : ∀ vs H Q E, sp vs H Q E → vs.length = ps.length)
    (hbody : ∀ (f : Addr) (cdv : Value) (A : Around) (outer : List Env) (s : Shared) (H : Hp) (vs : List V) (Q : VK) (E : XK), Room k (A.deeper (envOfC d.qual d.scope s.heap.objs.size f cdv)) → sp vs H Q E →
      ∃ t, PSs (cxOf CX P w K mg base N d.qual d.scope f cdv A outer s H E) d.body t ∧ t { nx := fun _ H' => Q .non H', rt := Q } (start N vs) H) : Fok P w K mg base CX (k + 1) d ps sp := by
  obtain ⟨fd, F⟩ := D
  rw [hd] at F
  exact ⟨fd, F.ok S len (fun cdv A outer s H vs Q E hr h => hbody _ cdv A outer s H vs Q E hr h), F.bindsN hb, F.kp⟩
end
/-! ### what leaves a call -/
theorem pat0 {X : Cx} {E : XK} : Passes CX0 X E := fun _ _ _ _ _ _ _ h => h.elim
/-- a def that may let NotThat out, called where it does not -/
theorem patN0 {X : Cx} : Passes (L2N.CX X.prog X.w) X E0 := fun _ _ _ _ _ _ _ h => by
  obtain ⟨_, _, _, _, _, _, _, _, _, _, _, _, z⟩ := h
  exact z.elim
theorem patR0 {X : Cx} : Passes (L2.CX X.prog X.w) X E0 := fun _ _ _ _ _ _ _ h => by
  obtain ⟨_, _, _, _, _, _, _, _, _, _, _, _, z⟩ := h
  exact z.elim
theorem tkN {X : Cx} {E : XK} {E1 : Value → Shared → Prop} (hs : X.stack = X.env :: X.outer) (hf : X.env.frame = some X.env.locals) (hex : X.ex = [])
    (hx : X.xe = fun e s' => wpAny (model X.prog X.w) X.A (leaving X.env e) (fun _ s'' => L2N.CX X.prog X.w X.outer X.H_0 X.s_0 E e s'') E1 s') : L2N.Takes X (fun cls d _ H => E cls d H) := L2N.takes_of hs hf hex hx
theorem patN {X : Cx} {E : XK} {E1 : Value → Shared → Prop} (hs : X.stack = X.env :: X.outer) (hf : X.env.frame = some X.env.locals) (hex : X.ex = [])
    (hx : X.xe = fun e s' => wpAny (model X.prog X.w) X.A (leaving X.env e) (fun _ s'' => L2N.CX X.prog X.w X.outer X.H_0 X.s_0 E e s'') E1 s') : Passes (L2N.CX X.prog X.w) X E := L2N.passes_call (tkN hs hf hex hx) fun _ _ _ _ h => h
theorem patR {X : Cx} {E : XK} {E1 : Value → Shared → Prop} (hs : X.stack = X.env :: X.outer) (hf : X.env.frame = some X.env.locals) (hex : X.ex = [])
    (hx : X.xe = fun e s' => wpAny (model X.prog X.w) X.A (leaving X.env e) (fun _ s'' => L2.CX X.prog X.w X.outer X.H_0 X.s_0 E e s'') E1 s') : Passes (L2.CX X.prog X.w) X E := L2.passes_call (L2.takes_of hs hf hex hx) fun _ _ _ _ h => h
/-! ### calls -/
section
variable {X : Cx} {CX : CXT} {k j : Nat} {d : He.DefD} {ps : List Str} {sp : Sp} {E : XK} {W : L2.St → XK} {x m : Str} {p pos apos : Pos} {e o : Expr} {es : List Expr} {ta : TE} {t : TA} {C : Addr}
theorem pe_fu (F : Fok X.prog X.w X.K X.mg X.base CX k d ps sp) (hr : Room j X.A) (hk : k ≤ j) (hm : X.mg x = some (.ref (He.fAd X.K d.at_))) (hx : Passes CX X E) (ha : PA X (e :: es) t) (hg : Gl X x := by rfl) (hdb : (x == ("__debug__" : Str)) = false := by decide)
    (he : starEach (e :: es) X.env = (false, eval e X.env) :: starEach es X.env := by rfl) (hpl : (backTo pos (starEach es X.env)).any (·.1) = false := by rfl) : PE X (.Call (.Name x p) (e :: es) [] pos) (tCall sp [] E t) := by
  obtain ⟨fd, f, b, q⟩ := F.ex
  exact pe_call f (hr.mono hk) hg hm q b .nil hx ha hdb he hpl
theorem pe_fuS (F : Fok X.prog X.w X.K X.mg X.base CX k d ps sp) (hr : Room j X.A) (hk : k ≤ j) (hm : X.mg x = some (.ref (He.fAd X.K d.at_))) (hx : ∀ σ, PassesAt CX X σ (W σ)) (ha : PA X (e :: es) t) (hg : Gl X x := by rfl) (hdb : (x == ("__debug__" : Str)) = false := by decide)
    (he : starEach (e :: es) X.env = (false, eval e X.env) :: starEach es X.env := by rfl) (hpl : (backTo pos (starEach es X.env)).any (·.1) = false := by rfl) : PE X (.Call (.Name x p) (e :: es) [] pos) (tCallS sp W t) := by
  obtain ⟨fd, f, b, q⟩ := F.ex
  exact pe_callS f (hr.mono hk) hg hm q b hx ha hdb he hpl
theorem pe_me {pl : Sem Bool} (F : Fok X.prog X.w X.K X.mg X.base CX k d ps sp) (hr : Room j X.A) (hk : k ≤ j) (c : Cls X.K C) (hm : Meth X.K C m (He.fAd X.K d.at_)) (hx : Passes CX X E) (he : PE X o ta) (ha : PA X (e :: es) t)
    (hst : starEach (e :: es) X.env = (false, eval e X.env) :: starEach es X.env := by rfl) (hpl : (backTo pos (starEach es X.env)).any (·.1) = false := by rfl)
    (ht : eval (.Call (.Attribute o m apos) (e :: es) [] pos) X.env = (do
      let ov ← eval o X.env
      standAt apos.atName
      let (f, first) ← holding [ov] (getMethod ov m pl)
      callWith pos f first (backTo pos (starEach (e :: es) X.env)) (backToKw pos (keywordEach [] X.env))) := by rfl) : PE X (.Call (.Attribute o m apos) (e :: es) [] pos) (tMeth C m sp [] E ta t) := by
  obtain ⟨fd, f, b, q⟩ := F.ex
  exact pe_meth he c hm f (hr.mono hk) b .nil hx ha hst hpl ht
theorem pe_me0 {pl : Sem Bool} (F : Fok X.prog X.w X.K X.mg X.base CX k d ps sp) (hr : Room j X.A) (hk : k ≤ j) (c : Cls X.K C) (hm : Meth X.K C m (He.fAd X.K d.at_)) (hx : Passes CX X E) (he : PE X o ta)
    (ht : eval (.Call (.Attribute o m apos) [] [] pos) X.env = (do
      let ov ← eval o X.env
      standAt apos.atName
      let (f, first) ← holding [ov] (getMethod ov m pl)
      callWith pos f first (backTo pos (starEach [] X.env)) (backToKw pos (keywordEach [] X.env))) := by rfl) : PE X (.Call (.Attribute o m apos) [] [] pos) (tMeth C m sp [] E ta tNil) := by
  obtain ⟨fd, f, b, q⟩ := F.ex
  exact pe_meth0 he c hm f (hr.mono hk) b .nil hx ht
/-- o.m(e, ..) within a try: what it raises is wished for at the slots as they stand -/
def tMethS (C : Addr) (m : Str) (sp : Sp) (E : L2.St → XK) (ta : TE) (t : TA) : TE := fun σ H Q => ta σ H fun x H1 => ∃ a dx fs, x = .ref a ∧ H1 a = some (.ins C dx fs) ∧ fs.lookup m = none ∧ t σ H1 fun vs H2 => sp (x :: vs) H2 Q (E σ)
theorem pe_meS {pl : Sem Bool} (F : Fok X.prog X.w X.K X.mg X.base CX k d ps sp) (hr : Room j X.A) (hk : k ≤ j) (c : Cls X.K C) (hm : Meth X.K C m (He.fAd X.K d.at_)) (hx : ∀ σ, PassesAt CX X σ (W σ)) (he : PE X o ta) (ha : PA X (e :: es) t)
    (hst : starEach (e :: es) X.env = (false, eval e X.env) :: starEach es X.env := by rfl) (hpl : (backTo pos (starEach es X.env)).any (·.1) = false := by rfl)
    (ht : eval (.Call (.Attribute o m apos) (e :: es) [] pos) X.env = (do
      let ov ← eval o X.env
      standAt apos.atName
      let (f, first) ← holding [ov] (getMethod ov m pl)
      callWith pos f first (backTo pos (starEach (e :: es) X.env)) (backToKw pos (keywordEach [] X.env))) := by rfl) : PE X (.Call (.Attribute o m apos) (e :: es) [] pos) (tMethS C m sp W ta t) := by
  obtain ⟨fd, f, b, q⟩ := F.ex
  refine ⟨fun pins s σ H Q I h => ?_⟩
  refine PySem.W.methodCall_KW (pl := pl) (thn (he.run pins s σ H _ I h) fun u s1 ⟨x, H1, I1, rx, a, dx, fs, ex, ea, l, q⟩ => ?_) ht
  subst ex
  obtain rfl : u = Value.ref a := rx
  refine getmeth_ok I1 ea c hm l ?_
  refine PySem.W.callWith_K (first := [.ref a]) (h₀ := X.base) I.ok.mod.kin hm.kp (thn (ha.run pos pins s1 σ H1 _ I1 q) fun us s2 ⟨vs, H2, I2, r, q2⟩ => ⟨I2.kIn, ?_⟩) hst hpl
  exact run_fnS (us := .ref a :: us) (vs := .ref a :: vs) f (hr.mono hk) b (hx σ) I2 (.cons rfl r) q2
theorem pe_mk {f : Addr} (M : Mk X.K C f) (F : Fok X.prog X.w X.K X.mg X.base CX k d ps sp) (hf : He.fAd X.K d.at_ = f) (hr : Room j X.A) (hk : k + 1 ≤ j) (hm : X.mg x = some (.ref C)) (hx : Passes CX X E) (ha : PA X (e :: es) t) (hg : Gl X x := by rfl) (hdb : (x == ("__debug__" : Str)) = false := by decide)
    (he : starEach (e :: es) X.env = (false, eval e X.env) :: starEach es X.env := by rfl) (hpl : (backTo pos (starEach es X.env)).any (·.1) = false := by rfl) : PE X (.Call (.Name x p) (e :: es) [] pos) (tMake C sp [] E t) := by
  subst hf
  obtain ⟨fd, f, b, q⟩ := F.ex
  exact pe_make M f (hr.mono hk) hg hm b .nil hx ha hdb he hpl
theorem pe_mk0 {f : Addr} (M : Mk X.K C f) (F : Fok X.prog X.w X.K X.mg X.base CX k d ps sp) (hf : He.fAd X.K d.at_ = f) (hr : Room j X.A) (hk : k + 1 ≤ j) (hm : X.mg x = some (.ref C)) (hx : Passes CX X E) (hg : Gl X x := by rfl) (hdb : (x == ("__debug__" : Str)) = false := by decide) :
    PE X (.Call (.Name x p) [] [] pos) (tMake C sp [] E tNil) := by
  subst hf
  obtain ⟨fd, f, b, q⟩ := F.ex
  exact pe_make0 M f (hr.mono hk) hg hm b .nil hx hdb
end
/-! ### names of the module -/
section
variable {X : Cx} {x : Str} {pos : Pos}
theorem pe_gi {i : Int} (h : ∃ t, X.mg x = some (.int i t)) (hg : Gl X x := by rfl) (hd : (x == ("__debug__" : Str)) = false := by decide) : PE X (.Name x pos) (tC (.int i)) := let ⟨t, e⟩ := h; pe_glob hg e ⟨t, rfl⟩ hd
theorem pe_ga {a : Addr} (h : X.mg x = some (.ref a)) (hg : Gl X x := by rfl) (hd : (x == ("__debug__" : Str)) = false := by decide) : PE X (.Name x pos) (tC (.ref a)) := pe_glob hg h rfl hd
end
/-! ### NotThat() -/
theorem Tx.notx {K : PySem.W.Frag} {mg : Str → Option Value} (T : Tx K mg) : PySem.W.excIn K (He.ga K "NotThat") exBase "Exception.__new__" = true ∧ PySem.W.keepIn K (XN K) = true ∧ PySem.W.subIn K (XN K) (.type "BaseException") = some true ∧ PySem.W.typeIn K (XN K) = some (.type "type") := by
  have e := (Bool.and_eq_true_iff.mp T.both.1).1
  unfold notB at e
  obtain ⟨h1, e⟩ := Bool.and_eq_true_iff.mp e
  obtain ⟨h2, e⟩ := Bool.and_eq_true_iff.mp e
  obtain ⟨h3, h4⟩ := Bool.and_eq_true_iff.mp e
  exact ⟨h1, h2, of_decide_eq_true h3, of_decide_eq_true h4⟩
theorem pmk_not {X : Cx} {p pos : Pos} (T : Tx X.K X.mg) (hg : Gl X "NotThat" := by rfl) : L2N.PMk X (.Call (.Name "NotThat" p) [] [] pos) (fun _ H Q => Q (XN X.K) none H) := by
  obtain ⟨h1, h2, h3, h4⟩ := T.notx
  intro pins s σ H Q I h
  refine wpAny_Call_Name_kw (ld_glob I hg T.g_NotThat ?_)
  refine PySem.W.callWith_K0 I.kIn h2 ?_
  obtain ⟨bm, N, nm, qn, bs, hdct, sn, sub, ab, col, dd, k0, k1, k2, k3, k5, mN, hC, hN, hni, Tl⟩ := exc_obj I.kIn h1
  refine wpAny_call_exc_subT PySem.F.excBase_Exception Tl hC hN hni (fun h' e hm => ?_) (Nat.zero_le _)
  exact L2N.mk_of I hm (raises_own h3 h4) h (I.hok.gone hm.new)
theorem ps_not {X : Cx} {p pos pos2 : Pos} {W : WX} (hc : X.calm = true) (T : Tx X.K X.mg) (tk : L2N.Takes X W) (hg : Gl X "NotThat" := by rfl) : PS X (.Raise (some (.Call (.Name "NotThat" p) [] [] pos)) none pos2) (fun _ σ H => W (XN X.K) none σ H) := L2N.ps_raise hc tk (pmk_not T hg)
end SP
set_option maxHeartbeats 4000000
/-! ### Refusal(answer): an own error over Exception with a field of its own; made where nothing is handled, and within an except suite -/
namespace PySem
namespace RefX
open PySem.W PySem.Calls PyProof.Rows PySem.HandSPX
def iA (p1 p2 : Pos) : Arguments := { posonlyargs := [], args := [{ arg := "self", annotation := none, pos := p1 }, { arg := "answer", annotation := none, pos := p2 }], vararg := none, kwonlyargs := [], kw_defaults := [], kwarg := none, defaults := [] }
def iB (q1 q2 q3 q4 : Pos) : List Stmt := [.Assign [.Attribute (.Name "self" q1) "answer" q2] (.Name "answer" q3) q4]
def iS : Scope := { kind := .function, names := [(PySem.Str.ofString "self", .local), (PySem.Str.ofString "answer", .local)], isGenerator := false, isCoroutine := false, more := [] }
/-- what the written part says of Refusal, at C, and of its __init__, at fI -/
structure RefTxt (K : Frag) (mg : Str → Option Value) (C fI : Addr) : Prop where
  gC : mg "Refusal" = some (.ref C)
  cls : ∃ nm q N bs sn sub ab col dd k0 k1 k2 k3 k5, K.lookup C = some (excClassObj nm q C N bs ESX.exTail true sn sub ab col dd k0 k1 k2 k3 k5 "Exception.__new__")
  sa : findIn K (.ref C) "__setattr__" = some (some (.builtin "object.__setattr__"))
  xf : L2.XfC K C
  noN : findIn K (.ref C) "answer" = some none
  iC : findIn K (.ref C) "__init__" = some (some (.ref fI))
  tC : typeIn K (.ref fI) = some (.type "function")
  kC : keepIn K (.ref C) = true
  tyC : typeIn K (.ref C) = some (.type "type")
  te : exmOne K (.ref C) (.ref C) = some true
  fn : ∃ (oc : Value) (od : Option Addr) (dV kV doc pm : Value) (an : Option Addr) (cdv ct : Value) (osl : Array (Option Value)) (p1 p2 q1 q2 q3 q4 : Pos),
    K.lookup fI = some ⟨oc, od, .func (fnOf "__init__" "Refusal.__init__" (iA p1 p2) (iB q1 q2 q3 q4) iS .none kV doc pm an cdv ct), osl⟩ ∧ codeIn K cdv "Refusal.__init__" = true
theorem one_size (v : Value) : [v].length ≤ sizeLine := by
  rw [sizeLine_eq]
  exact (by decide : 1 ≤ 16777216)
theorem ldC {M : Model} {s : Shared} {name : Str} {scope : Scope} {L a : Addr} {cd : Value} {m : Str → Option Value} {x : Str} {pos : Pos} {v : Value} {Q : Value → Shared → Prop} {A : Around} {E : Value → Shared → Prop} (hn : s.heap.Ns L m) (hv : m x = some v) (h : Q v s)
    (hk : scope.kind = .function := by rfl) (hl : (envOfC name scope L a cd).kindOf x = some .local := by rfl) (hd : (x == ("__debug__" : Str)) = false := by decide) :
    wpAny M A (eval (.Name x pos) (envOfC name scope L a cd)) Q E s := wpAny_Name (wpAny_loadName_local hk hl hn hv h) hd
/-- what __init__ leaves of a fresh exception at x -/
structure InitEnd (h h' : Heap) (x C dx t1 : Addr) (v : Value) : Prop where
  keep : ∀ b o, b ≠ x → h.get? b = some o → h'.get? b = some o
  obj : h'.get? x = some { cls := .ref C, dict := some dx, data := .fields #[.ref t1, .none, .none, .none, .bool false, .none] }
  dbig : h.objs.size ≤ dx
  dne : dx ≠ x
  ns : h'.Ns1 dx (fun y => if y = "answer" then some v else none)
/-- a made Refusal -/
structure OwnMade (h h' : Heap) (e C d : Addr) (v : Value) : Prop where
  keep : ∀ b o, h.get? b = some o → h'.get? b = some o
  new : h.objs.size ≤ e
  obj : ∃ t, h'.get? e = some { cls := .ref C, dict := some d, data := .fields #[.ref t, .none, .none, .none, .bool false, .none] }
  dbig : h.objs.size ≤ d
  dne : d ≠ e
  ns : h'.Ns1 d (fun y => if y = "answer" then some v else none)
section
variable {prog : Program} {w : World} {A : Around} {E : Value → Shared → Prop} {R : Result → Shared → Prop} {s : Shared} {K : Frag} {mg : Str → Option Value} {C fI : Addr}
theorem ref_init (T : RefTxt K mg C fI) {x t0 : Addr} {v : Value} (X : K.In s.heap) (hlim : s.heap.NoLimit) (hx : s.heap.get? x = some (excO C t0)) (hroom : A.depth < recursionLimit)
    (hq : ∀ h' tk dx, InitEnd s.heap h' x C dx t0 v → R (.ok (.ret .none)) { s with heap := h', toks := tk }) :
    codeAny (model prog w) A (.call (.ref fI) ⟨[.ref x, v], []⟩) R s := by
  obtain ⟨oc, od, dV, kV, doc, pm, an, cdv, ct, osl, p1, p2, q1, q2, q3, q4, ho, hcd⟩ := T.fn
  obtain ⟨nm, q, N, bs, sn, sub, ab, col, dd, k0, k1, k2, k3, k5, hC⟩ := T.cls
  have hcl : clsIn K C = some { name := nm, bases := bs, mro := .ref C :: ESX.exTail, ns := N, qualname := q, hasDict := true, slotNames := sn, subclasses := sub, abstract := ab, collection := col, hasDel := false } := by unfold clsIn; rw [hC] <;> rfl
  refine Att.call_fn (binds := [("self", .ref x), ("answer", v)]) X hlim ho hcd hroom (BindsTo.of_eq (by first | rfl | with_unfolding_all rfl)) (by first | rfl | decide | with_unfolding_all rfl) (fun s₁ IC => ?_) rfl rfl rfl
  obtain ⟨h₁, tk₁, rfl⟩ := IC.toInCall.same
  have k : ∀ b o, s.heap.get? b = some o → h₁.get? b = some o := IC.toInCall.keep
  have hn := IC.toInCall.ns
  have hxL : s.heap.objs.size ≠ x := Nat.ne_of_gt (Heap.lt_size hx)
  have X₁ : K.In h₁ := X.keeps k
  have hx₁ := k _ _ hx
  -- self.answer = answer
  show wpAny _ _ (execs _ _) _ _ _
  refine wpAny_execs_cons (plainObj_wpAny_Assign_Attribute ?_)
  refine ldC (v := v) hn (by first | rfl | with_unfolding_all rfl | kernel_rfl) (ldC (v := .ref x) hn (by first | rfl | with_unfolding_all rfl | kernel_rfl) ?_)
  refine set_plain X₁ (ox := excO C t0) (od := none) ⟨hx₁, rfl, rfl, trivial⟩ T.sa ?_
  refine ESX.osa_new X₁ hx₁ hcl rfl rfl T.noN (fun h₃ tk₃ dx k₃ dn dne hx₃ hn₃ => ?_)
  show wpAny _ _ (execs _ _) _ _ _
  have z : s.heap.objs.size < h₁.objs.size := hn.lt
  exact wpAny_execs_nil (hq h₃ tk₃ dx ⟨fun b o hb e => k₃ b o hb (k b o e), hx₃, Nat.le_of_lt (Nat.lt_of_lt_of_le z dn), dne, hn₃⟩)
theorem ref_made (T : RefTxt K mg C fI) {v : Value} (X : K.In s.heap) (hlim : s.heap.NoLimit) (hroom : A.depth + 1 < recursionLimit)
    (hq : ∀ h' tk e d, OwnMade s.heap h' e C d v → R (.ok (.ret (.ref e))) { s with heap := h', toks := tk }) :
    codeAny (model prog w) A (.call (.ref C) ⟨[v], []⟩) R s := by
  obtain ⟨nm, q, N, bs, sn, sub, ab, col, dd, k0, k1, k2, k3, k5, hC⟩ := T.cls
  obtain ⟨hp, g, dr, tk, os⟩ := s
  have k : ∀ b o, hp.get? b = some o → ((hp.push (kdv_tup [v])).push (excO C hp.objs.size)).get? b = some o := fun b o e => Heap.get?_push_of_some _ (Heap.get?_push_of_some _ e)
  have hget : ((hp.push (kdv_tup [v])).push (excO C hp.objs.size)).get? (hp.objs.size + 1) = some (excO C hp.objs.size) := by heap_get
  refine call_own F.excBase_Exception (fun X => rfl) (X _ _ hC) (looks_findIn X T.iC) (fun self => bind_fn X self T.tC) (one_size v) ?_
  refine ref_init (s := ⟨(hp.push (kdv_tup [v])).push (excO C hp.objs.size), g, dr, tk, os⟩) T (X.keeps k) (hlim.keeps k) hget ?_ fun h' tk' dx ⟨k', hx, dn, dne, hns⟩ => ?_
  · show A.depth + 1 < recursionLimit
    exact hroom
  · have old : ∀ b o, hp.get? b = some o → h'.get? b = some o := fun b o e => k' b o (Nat.ne_of_lt (Nat.lt_succ_of_lt (Heap.lt_size e))) (k b o e)
    have z : hp.objs.size + 1 + 1 ≤ dx := by
      first
        | (simpa only [Heap.size_push] using dn)
        | exact dn
        | (have q := dn; rw [Heap.size_push, Heap.size_push] at q; exact q)
    exact ⟨rfl, hq h' tk' (hp.objs.size + 1) dx ⟨old, Nat.le_succ _, ⟨_, hx⟩, Nat.le_trans (Nat.le_trans (Nat.le_succ _) (Nat.le_succ _)) z, dne, hns⟩⟩
end
end RefX
end PySem
namespace SP
open PySem PySem.Spec PyProof.Rows L2
theorem relO_ans {v : V} {v' : Value} (r : RelV v v') (f : Str) : RelO (List.lookup f [(("answer" : Str), v)]) (if f = "answer" then some v' else none) := by
  by_cases hw : f = "answer"
  · subst hw
    rw [if_pos rfl]
    have q : List.lookup ("answer" : Str) [(("answer" : Str), v)] = some v := by simp [List.lookup]
    rw [q]
    exact r
  · rw [if_neg hw]
    have qw : (f == ("answer" : Str)) = false := by simpa using hw
    have q2 : List.lookup f [(("answer" : Str), v)] = none := by simp [List.lookup, qw]
    rw [q2]
    trivial
theorem Tx.reft {K : PySem.W.Frag} {mg : Str → Option Value} (T : Tx K mg) : PySem.RefX.RefTxt K mg (He.ga K "Refusal") (He.fAd K d_Refusal_init.at_) := by
  have e := (Bool.and_eq_true_iff.mp (Bool.and_eq_true_iff.mp T.both.1).2).1
  unfold refB at e
  obtain ⟨h0, e⟩ := Bool.and_eq_true_iff.mp e
  obtain ⟨h1, e⟩ := Bool.and_eq_true_iff.mp e
  obtain ⟨h2, e⟩ := Bool.and_eq_true_iff.mp e
  obtain ⟨h3, e⟩ := Bool.and_eq_true_iff.mp e
  obtain ⟨h4, e⟩ := Bool.and_eq_true_iff.mp e
  obtain ⟨h5, e⟩ := Bool.and_eq_true_iff.mp e
  obtain ⟨h6, e⟩ := Bool.and_eq_true_iff.mp e
  obtain ⟨h7, e⟩ := Bool.and_eq_true_iff.mp e
  obtain ⟨h8, e⟩ := Bool.and_eq_true_iff.mp e
  obtain ⟨h9, h10⟩ := Bool.and_eq_true_iff.mp e
  obtain ⟨fd, F⟩ := T.D_Refusal_init
  obtain ⟨oc, od, dV, kV, doc, pm, an, cdv, ct, osl, hfd, hl, hcd, hD, _⟩ := F.ex
  have hdV : dV = .none := by
    rcases hD with ⟨_, z⟩ | ⟨z, _⟩
    · exact z
    · exact absurd rfl z
  subst hdV
  refine { gC := T.g_Refusal, cls := ?_, sa := of_decide_eq_true h1, xf := ⟨of_decide_eq_true h2, of_decide_eq_true h3, of_decide_eq_true h8, h10⟩, noN := of_decide_eq_true h4, iC := of_decide_eq_true h5, tC := of_decide_eq_true h6, kC := h7, tyC := of_decide_eq_true h9, te := T.x_Refusal_Refusal, fn := ?_ }
  · unfold refObj at h0
    split at h0
    · rename_i dd cd sl ho
      split at h0
      · rename_i k0 k1 k2 k3 n k5 hs
        obtain ⟨a1, a⟩ := Bool.and_eq_true_iff.mp h0
        obtain ⟨a2, a⟩ := Bool.and_eq_true_iff.mp a
        obtain ⟨a3, a4⟩ := Bool.and_eq_true_iff.mp a
        obtain ⟨nm, bs, mro, ns, qn, hd, sn, sub, ab, col, del⟩ := cd
        have b1 : mro = .ref (He.ga K "Refusal") :: exBase := of_decide_eq_true a1
        have b2 : hd = true := a2
        have b3 : del = false := by
          have a3' : (!del) = true := a3
          cases del
          · rfl
          · cases a3'
        have b4 : n = "Exception.__new__" := of_decide_eq_true a4
        subst b1 b2 b3 b4
        have hsl : sl = #[k0, k1, k2, k3, some (.builtin "Exception.__new__"), k5] := by
          obtain ⟨l⟩ := sl
          simp only at hs
          rw [hs]
        subst hsl
        exact ⟨nm, qn, ns, bs, sn, sub, ab, col, dd, k0, k1, k2, k3, k5, ho⟩
      · cases h0
    · cases h0
  · subst hfd
    exact ⟨oc, od, .none, kV, doc, pm, an, cdv, ct, osl, _, _, _, _, _, _, hl, hcd⟩
section
variable {X : Cx}
/-- Refusal(e) -/
def tMkR (K : PySem.W.Frag) (ta : TA) : L2.St → Hp → XK → Prop := fun σ H Q => ta σ H fun vs H1 => ∃ v, vs = [v] ∧ ∀ d, H1 d = none → Q (XR K) (some d) (upd H1 d (.xd [(("answer" : Str), v)]))
theorem pmk_ref {a : Expr} {ta : TA} {p pos : Pos} (T : Tx X.K X.mg) (hdep : X.A.depth + 1 < recursionLimit) (ha : PA X [a] ta) (hg : Gl X "Refusal" := by rfl)
    (he : starEach (a :: []) X.env = (false, eval a X.env) :: starEach [] X.env := by rfl) (hpl : (backTo pos (starEach [] X.env)).any (·.1) = false := by rfl) :
    L2N.PMk X (.Call (.Name "Refusal" p) [a] [] pos) (tMkR X.K ta) := by
  have R := T.reft
  intro pins s σ H Q I h
  refine wpAny_Call_Name_kw (ld_glob I hg R.gC ?_)
  refine PySem.W.callWith_K (h₀ := X.base) I.ok.mod.kin R.kC (thn (ha.run pos pins s σ H _ I h) fun us s1 hh => ?_) he hpl
  obtain ⟨vs, H1, I1, r1, v, ev, q1⟩ := hh
  subst ev
  refine ⟨I1.kIn, ?_⟩
  cases r1 with
  | cons rv rn =>
    rename_i v' us'
    cases rn
    show wpAny _ _ (call (.ref (He.ga X.K "Refusal")) [v']) _ _ _
    have hlim := I1.nolimit
    obtain ⟨hp, g, dr, tk, os⟩ := s1
    refine wpAny_call (PySem.RefX.ref_made R I1.kIn hlim hdep fun h' tk' e d M => ?_)
    show L2N.MkP X pins σ Q (.ref e) ⟨h', g, dr, tk', os⟩
    obtain ⟨t, hoe⟩ := M.obj
    have hns := M.ns
    obtain ⟨G', g1, g2⟩ := restrict h' fun b => decide (b ≠ e)
    have gk : ∀ b, b ≠ e → G'.get? b = h'.get? b := fun b hb => g1 b (decide_eq_true hb)
    have ge : G'.get? e = none := g2 e (by simp)
    have old : ∀ b o, hp.get? b = some o → G'.get? b = some o := fun b o q => (gk b (Nat.ne_of_lt (Nat.lt_of_lt_of_le (Heap.lt_size q) M.new))).trans (M.keep b o q)
    have obk : ObjOk X.prog X.w (upd H1 d (.xd [(("answer" : Str), v)])) G' d (.xd [(("answer" : Str), v)]) :=
      ⟨_, hns.at (fun o q => (gk d M.dne).trans q), fun f => relO_ans rv f⟩
    have J : Inv X pins σ (upd H1 d (.xd [(("answer" : Str), v)])) ⟨G', g, dr, tk', os⟩ := I1.laid (t' := tk') old M.dbig obk
    refine ⟨e, _, _, ⟨G', g, dr, tk', os⟩, _, XR X.K, some d, rfl, J, fun b o q => ?_, ge, hoe, ⟨rfl, rfl, fun vs hv => ?_⟩, rfl, rfl, ?_, rfl, I1.bare, raises_own R.xf.exC R.tyC, q1 d (I1.hok.fresh M.dbig)⟩
    · by_cases hb : b = e
      · have q' : G'.get? b = some o := q
        rw [hb, ge] at q'; cases q'
      · exact (gk b hb).symm.trans q
    · cases hv
      rfl
    · rw [upd_ne (Ne.symm M.dne)]
      exact I1.hok.fresh M.new
theorem mkP_zc {pins : List (Addr × Obj)} {σ : L2.St} {Q : XK} {u : Value} {s' : Shared} (h : L2N.MkP X pins σ Q u s') : L2.MkP X pins σ Q u s' := by
  obtain ⟨a, oe, vs, sI, H', cls, d, h1, h2, h3, h4, h5, hz, h6, h7, h8, h9, h10, h11, h12⟩ := h
  exact ⟨a, oe, vs, sI, H', cls, d, h1, h2, h3, h4, h5, hz.zc, h6, h7, h8, h9, h10, h11, h12⟩
/-- raise Refusal(e) -/
theorem ps_ref {a : Expr} {ta : TA} {W : WX} {p pos pos2 : Pos} (hc : X.calm = true) (T : Tx X.K X.mg) (hdep : X.A.depth + 1 < recursionLimit) (tk : L2.Takes X W) (ha : PA X [a] ta) (hg : Gl X "Refusal" := by rfl)
    (he : starEach (a :: []) X.env = (false, eval a X.env) :: starEach [] X.env := by rfl) (hpl : (backTo pos (starEach [] X.env)).any (·.1) = false := by rfl) :
    PS X (.Raise (some (.Call (.Name "Refusal" p) [a] [] pos)) none pos2) (fun _ σ H => tMkR X.K ta σ H fun cls d H' => W cls d σ H') :=
  L2.ps_raise hc tk fun pins s σ H Q I h => thn (pmk_ref T hdep ha hg he hpl pins s σ H Q I h) fun _ _ q => mkP_zc q
/-- .. within an except suite -/
theorem ps_refH {a : Expr} {ta : TA} {W : WX} {p pos pos2 : Pos} (hc : L2H.HotC X) (T : Tx X.K X.mg) (hdep : X.A.depth + 1 < recursionLimit) (tk : L2.Takes X W) (ha : PA X [a] ta) (hg : Gl X "Refusal" := by rfl)
    (he : starEach (a :: []) X.env = (false, eval a X.env) :: starEach [] X.env := by rfl) (hpl : (backTo pos (starEach [] X.env)).any (·.1) = false := by rfl) :
    PS X (.Raise (some (.Call (.Name "Refusal" p) [a] [] pos)) none pos2) (fun _ σ H => tMkR X.K ta σ H fun cls d H' => W cls d σ H') :=
  L2H.ps_raiseH hc tk (pmk_ref T hdep ha hg he hpl)
end
/-! ### waiting != [], COUNTS[..] -/
section
variable {X : Cx}
theorem op_neNil (hu : X.A.units < cLine) : OpR X (compareOp .NotEq) (fun x y H Q => ∃ p q xs, x = .ref p ∧ y = .ref q ∧ H p = some (.lst xs) ∧ H q = some (.lst []) ∧ Q (.bl (!xs.isEmpty)) H) := by
  intro pins s σ H x y v u Q I rx ry h
  obtain ⟨p, q, xs, rfl, rfl, hp, hq, k⟩ := h
  obtain rfl : v = Value.ref p := rx
  obtain rfl : u = Value.ref q := ry
  obtain ⟨its, r1, pl1, z1⟩ := I.list (SqL.of (K := X.K) hp)
  obtain ⟨its2, r2, pl2, z2⟩ := I.list (SqL.of (K := X.K) hq)
  cases r2
  cases xs with
  | nil =>
    cases r1
    exact SeqAt.RcNeAt.lists (e := fun _ => true) pl1.isList pl2.isList rfl hu (fun j h1 _ => absurd h1 (Nat.not_lt_zero _)) _ _ _ _ ⟨.bl false, H, I, rfl, k⟩
  | cons a l =>
    cases r1 with
    | cons ra rl => exact SeqAt.RcNeAt.lists_lengths pl1.isList pl2.isList rfl hu _ _ _ _ ⟨.bl true, H, I, rfl, k⟩
theorem Tx.cnt {K : PySem.W.Frag} {mg : Str → Option Value} (T : Tx K mg) : countsB K = true := (Bool.and_eq_true_iff.mp (Bool.and_eq_true_iff.mp (Bool.and_eq_true_iff.mp T.both.1).2).2).1
theorem Tx.wr {K : PySem.W.Frag} {mg : Str → Option Value} (T : Tx K mg) (H : Hp) : SqT K H (He.ga K "WITH_ROW") [.int 1, .int 2, .int 3] := He.tupB_ok (Bool.and_eq_true_iff.mp (Bool.and_eq_true_iff.mp (Bool.and_eq_true_iff.mp T.both.1).2).2).2 H
def rCounts (K : PySem.W.Frag) : R2 := fun x y H Q => ∃ i v, x = .ref (He.ga K "COUNTS") ∧ y = .int i ∧ counts.lookup i = some v ∧ Q (.int v) H
theorem map_at {es : List DictEntry} {ps : List (Int × Int)} (h : es.map (fun e => (e.hash, isIn e.key, isIn e.val)) = ps.map fun p => (hashInt p.1, some p.1, some p.2)) :
    (∀ e ∈ es, ∃ k : Int, Value.isInt k e.key = true ∧ e.hash = hashInt k) ∧ ∀ i v, ps.lookup i = some v → ∃ e, es.find? (fun e => Value.isInt i e.key) = some e ∧ ∃ t, e.val = .int v t := by
  induction es generalizing ps with
  | nil =>
    cases ps with
    | nil => exact ⟨fun e he => absurd he (by simp), fun i v hl => by cases hl⟩
    | cons p ps => cases h
  | cons e es ih =>
    cases ps with
    | nil => cases h
    | cons p ps =>
      obtain ⟨k, z⟩ := p
      rw [List.map_cons, List.map_cons] at h
      obtain ⟨h1, h2⟩ := List.cons.inj h
      obtain ⟨i1, i2⟩ := ih h2
      have e1 : e.hash = hashInt k := congrArg (·.1) h1
      have e2 : isIn e.key = some k := congrArg (·.2.1) h1
      have e3 : isIn e.val = some z := congrArg (·.2.2) h1
      have sh : ∀ {v : Value} {i : Int}, isIn v = some i → ∃ t, v = .int i t := fun {v i} q => by
        cases v with
        | int j t =>
          have q' : j = i := Option.some.inj q
          exact ⟨t, by rw [q']⟩
        | _ => cases q
      obtain ⟨t1, k1⟩ := sh e2
      obtain ⟨t2, k2⟩ := sh e3
      have ki : ∀ i : Int, Value.isInt i e.key = decide (i = k) := fun i => by
        rw [k1]
        show (k == i) = decide (i = k)
        by_cases c : i = k
        · subst c; simp
        · rw [decide_eq_false c]
          exact beq_eq_false_iff_ne.mpr fun q => c q.symm
      refine ⟨fun e' he => ?_, fun i v hl => ?_⟩
      · rcases List.mem_cons.mp he with rfl | he
        · exact ⟨k, by rw [ki]; simp, e1⟩
        · exact i1 e' he
      · rw [List.find?_cons, ki]
        by_cases c : i = k
        · subst c
          rw [decide_eq_true rfl]
          have : z = v := by simpa [List.lookup] using hl
          subst this
          exact ⟨e, rfl, t2, k2⟩
        · rw [decide_eq_false c]
          have hl' : ps.lookup i = some v := by
            have cb : (i == k) = false := by simpa using c
            simpa [List.lookup, cb] using hl
          exact i2 i v hl'
theorem ix_counts (T : Tx X.K X.mg) : IxR X (rCounts X.K) := by
  intro value slice pins s σ H x y v u Q I rx ry h hs
  obtain ⟨i, z, rfl, rfl, hl, q⟩ := h
  obtain rfl : v = Value.ref _ := rx
  obtain ⟨t, rfl⟩ := ry
  have c := T.cnt
  unfold countsB at c
  split at c
  · rename_i es n sl ho
    obtain ⟨c1, c⟩ := Bool.and_eq_true_iff.mp c
    obtain ⟨c2, c3⟩ := Bool.and_eq_true_iff.mp c
    obtain ⟨k1, k2⟩ := map_at (of_decide_eq_true c3)
    obtain ⟨e, he, t2, hv⟩ := k2 i z hl
    have hsl : sl = #[] := by
      obtain ⟨l⟩ := sl
      cases l with
      | nil => rfl
      | cons a l => cases c1
    subst hsl
    have hm : s.heap.MapOf (PySem.intKind X.prog X.w) (He.ga X.K "COUNTS") (fun k => findBy Value.isInt es k) :=
      ⟨_, es, n, I.kIn _ _ ho, ⟨rfl, rfl, rfl⟩, rfl, fun e he => by
        obtain ⟨k, a, b⟩ := k1 e (Array.mem_toList_iff.mpr he)
        exact ⟨k, a, b⟩, fun _ => rfl⟩
    have hf : findBy Value.isInt es i = some (.int z t2) := by
      obtain ⟨l⟩ := es
      unfold findBy
      rw [List.find?_toArray, he, ← hv] <;> rfl
    exact tail_any hm.typeIs slot_dict_getitem.lookup (wpAny_getItem_of (show (PySem.intKind X.prog X.w).is i (.int i t) = true from by simp [PySem.intKind, Value.isInt]) hm hf ⟨.int z, H, I.tok _, ⟨t2, rfl⟩, q⟩) hs
  · cases c
end
end SP
set_option maxHeartbeats 2000000
/-! ### the heap: what stands where -/
namespace SP
open PySem PySem.Spec PyProof.Rows L2
/-- all but what stands at M is as it was -/
def But (M : List Addr) (H H' : Hp) : Prop := ∀ b o, H b = some o → b ∉ M → H' b = some o
theorem But.refl {M : List Addr} (H : Hp) : But M H H := fun _ _ e _ => e
theorem But.trans {M : List Addr} {H H1 H2 : Hp} (a : But M H H1) (b : But M H1 H2) : But M H H2 := fun c o e n => b c o (a c o e n) n
theorem But.mono {M M' : List Addr} {H H' : Hp} (a : But M H H') (h : ∀ b ∈ M, b ∈ M') : But M' H H' := fun c o e n => a c o e fun z => n (h c z)
theorem But.put {M : List Addr} {H H' : Hp} {p : Addr} {o : HO} (a : But M H H') (h : p ∈ M) : But M H (upd H' p o) := fun c u e n => by
  rw [upd_ne (fun z => n (by rw [z]; exact h))]
  exact a c u e n
theorem But.new {M : List Addr} {H H' : Hp} {p : Addr} {o : HO} (a : But M H H') (h : H p = none) : But M H (upd H' p o) := fun c u e n => by
  rw [upd_ne (ne_of_none e h)]
  exact a c u e n
theorem But.newer {M : List Addr} {H H' : Hp} {p : Addr} {o : HO} (a : But M H H') (h : H' p = none) : But M H (upd H' p o) := fun c u e n => by
  rw [upd_ne (ne_of_none (a c u e n) h)]
  exact a c u e n
theorem But.at {M : List Addr} {H H' : Hp} (a : But M H H') {b : Addr} {o : HO} (e : H b = some o) (n : b ∉ M) : H' b = some o := a b o e n
theorem But.same {H H' : Hp} (a : But [] H H') : Same H H' := fun b o e => a b o e (by simp)
theorem Same.but {H H' : Hp} {M : List Addr} (a : Same H H') : But M H H' := fun b o e _ => a b o e
theorem But.free {M : List Addr} {H H' : Hp} (a : But M H H') {b : Addr} (e : H' b = none) (n : b ∉ M) : H b = none := by
  cases q : H b with
  | none => rfl
  | some o =>
    rw [a b o q n] at e
    cases e
theorem But.seqL {K : PySem.W.Frag} {M : List Addr} {H H' : Hp} (e : But M H H') {a : Addr} {xs : List V} (h : SqL K H a xs) (n : a ∉ M) : SqL K H' a xs := by
  rcases h with (h | ⟨o, h⟩) | h
  · exact .inl (.inl (e _ _ h n))
  · exact .inl (.inr ⟨o, e _ _ h n⟩)
  · exact .inr h
/-- a frozen part G of the heap: it stays where only what is not in G is turned -/
theorem Same.out {G H : Hp} {p : Addr} {o : HO} (a : Same G H) (h : G p = none) : Same G (upd H p o) := fun b u e => by
  rw [upd_ne (ne_of_none e h)]
  exact a b u e
theorem Same.fresh {G H : Hp} {p : Addr} (a : Same G H) (h : H p = none) : G p = none := a.free h
theorem Same.gbut {G H H' : Hp} {M : List Addr} (a : Same G H) (b : But M H H') (n : ∀ p ∈ M, G p = none) : Same G H' := fun c o e => b c o (a c o e) fun z => by
  rw [n c z] at e
  cases e
theorem Same.seqT {K : PySem.W.Frag} {H H' : Hp} {a : Addr} {xs : List V} (e : Same H H') (h : SqT K H a xs) : SqT K H' a xs := by
  rcases h with (h | ⟨o, h⟩) | h
  · exact .inl (.inl (e _ _ h))
  · exact .inl (.inr ⟨o, e _ _ h⟩)
  · exact .inr h
/-! ### values and things said: tuples in one another -/
def FAR : Int := 1000000000000000
def inFar (z : Int) : Prop := -FAR ≤ z ∧ z ≤ FAR
mutual
/-- v stands for the value x, at most n deep -/
def VAt (G : Hp) : Nat → V → Sg49.Value → Prop
  | 0, _, _ => False
  | _ + 1, v, .const z => ∃ p, v = .ref p ∧ G p = some (.tup [.int 0, .int z]) ∧ inFar z
  | _ + 1, v, .has a t => ∃ p, v = .ref p ∧ G p = some (.tup [.int 1, .int (a : Nat), .int (t : Nat)]) ∧ a < 8 ∧ t < 4
  | _ + 1, v, .chosen c => ∃ p, v = .ref p ∧ G p = some (.tup [.int 2, .int (c : Nat)]) ∧ c < 16
  | _ + 1, v, .slot c => ∃ p, v = .ref p ∧ G p = some (.tup [.int 3, .int (c : Nat)]) ∧ c < 16
  | n + 1, v, .add x y => ∃ p a b, v = .ref p ∧ G p = some (.tup [.int 4, a, b]) ∧ VAt G n a x ∧ VAt G n b y
  | n + 1, v, .sub x y => ∃ p a b, v = .ref p ∧ G p = some (.tup [.int 5, a, b]) ∧ VAt G n a x ∧ VAt G n b y
  | n + 1, v, .mul x y => ∃ p a b, v = .ref p ∧ G p = some (.tup [.int 6, a, b]) ∧ VAt G n a x ∧ VAt G n b y
  | n + 1, v, .div x y => ∃ p a b, v = .ref p ∧ G p = some (.tup [.int 7, a, b]) ∧ VAt G n a x ∧ VAt G n b y
  | n + 1, v, .neg x => ∃ p a, v = .ref p ∧ G p = some (.tup [.int 8, a]) ∧ VAt G n a x
  | _ + 1, v, .start => ∃ p, v = .ref p ∧ G p = some (.tup [.int 9])
  | _ + 1, v, .end_ => ∃ p, v = .ref p ∧ G p = some (.tup [.int 10])
  | n + 1, v, .cond o x y => ∃ p c a b, v = .ref p ∧ G p = some (.tup [.int 11, c, a, b]) ∧ OAt G n c o ∧ VAt G n a x ∧ VAt G n b y
def OAt (G : Hp) : Nat → V → Sg49.Obs → Prop
  | 0, _, _ => False
  | _ + 1, v, .yes => ∃ p, v = .ref p ∧ G p = some (.tup [.int 0])
  | _ + 1, v, .no => ∃ p, v = .ref p ∧ G p = some (.tup [.int 1])
  | _ + 1, v, .made c => ∃ p, v = .ref p ∧ G p = some (.tup [.int 2, .int (c : Nat)]) ∧ c < 16
  | n + 1, v, .atLeast x y => ∃ p a b, v = .ref p ∧ G p = some (.tup [.int 3, a, b]) ∧ VAt G n a x ∧ VAt G n b y
  | n + 1, v, .same x y => ∃ p a b, v = .ref p ∧ G p = some (.tup [.int 4, a, b]) ∧ VAt G n a x ∧ VAt G n b y
  | n + 1, v, .and x y => ∃ p a b, v = .ref p ∧ G p = some (.tup [.int 5, a, b]) ∧ OAt G n a x ∧ OAt G n b y
  | n + 1, v, .or x y => ∃ p a b, v = .ref p ∧ G p = some (.tup [.int 6, a, b]) ∧ OAt G n a x ∧ OAt G n b y
  | n + 1, v, .not x => ∃ p a, v = .ref p ∧ G p = some (.tup [.int 7, a]) ∧ OAt G n a x
end
/-- tuples stay -/
def TupK (G G' : Hp) : Prop := ∀ b xs, G b = some (.tup xs) → G' b = some (.tup xs)
theorem Same.tup {G G' : Hp} (h : Same G G') : TupK G G' := fun b _ e => h b _ e
theorem But.tup {M : List Addr} {H H' : Hp} (h : But M H H') (n : ∀ b ∈ M, ∀ xs, H b ≠ some (.tup xs)) : TupK H H' := fun b xs e => h b _ e fun z => n b z xs e
theorem at_mono {G G' : Hp} (k : TupK G G') : ∀ n : Nat, (∀ v x, VAt G n v x → VAt G' n v x) ∧ (∀ v o, OAt G n v o → OAt G' n v o)
  | 0 => ⟨fun _ _ h => h.elim, fun _ _ h => h.elim⟩
  | n + 1 => by
    obtain ⟨iv, io⟩ := at_mono k n
    refine ⟨fun v x h => ?_, fun v o h => ?_⟩
    · cases x with
      | const z => obtain ⟨p, e, q, r⟩ := h; exact ⟨p, e, k _ _ q, r⟩
      | has a t => obtain ⟨p, e, q, r⟩ := h; exact ⟨p, e, k _ _ q, r⟩
      | chosen c => obtain ⟨p, e, q, r⟩ := h; exact ⟨p, e, k _ _ q, r⟩
      | slot c => obtain ⟨p, e, q, r⟩ := h; exact ⟨p, e, k _ _ q, r⟩
      | add x y => obtain ⟨p, a, b, e, q, r, r'⟩ := h; exact ⟨p, a, b, e, k _ _ q, iv _ _ r, iv _ _ r'⟩
      | sub x y => obtain ⟨p, a, b, e, q, r, r'⟩ := h; exact ⟨p, a, b, e, k _ _ q, iv _ _ r, iv _ _ r'⟩
      | mul x y => obtain ⟨p, a, b, e, q, r, r'⟩ := h; exact ⟨p, a, b, e, k _ _ q, iv _ _ r, iv _ _ r'⟩
      | div x y => obtain ⟨p, a, b, e, q, r, r'⟩ := h; exact ⟨p, a, b, e, k _ _ q, iv _ _ r, iv _ _ r'⟩
      | neg x => obtain ⟨p, a, e, q, r⟩ := h; exact ⟨p, a, e, k _ _ q, iv _ _ r⟩
      | start => obtain ⟨p, e, q⟩ := h; exact ⟨p, e, k _ _ q⟩
      | end_ => obtain ⟨p, e, q⟩ := h; exact ⟨p, e, k _ _ q⟩
      | cond o x y => obtain ⟨p, c, a, b, e, q, r0, r, r'⟩ := h; exact ⟨p, c, a, b, e, k _ _ q, io _ _ r0, iv _ _ r, iv _ _ r'⟩
    · cases o with
      | yes => obtain ⟨p, e, q⟩ := h; exact ⟨p, e, k _ _ q⟩
      | no => obtain ⟨p, e, q⟩ := h; exact ⟨p, e, k _ _ q⟩
      | made c => obtain ⟨p, e, q, r⟩ := h; exact ⟨p, e, k _ _ q, r⟩
      | atLeast x y => obtain ⟨p, a, b, e, q, r, r'⟩ := h; exact ⟨p, a, b, e, k _ _ q, iv _ _ r, iv _ _ r'⟩
      | same x y => obtain ⟨p, a, b, e, q, r, r'⟩ := h; exact ⟨p, a, b, e, k _ _ q, iv _ _ r, iv _ _ r'⟩
      | and x y => obtain ⟨p, a, b, e, q, r, r'⟩ := h; exact ⟨p, a, b, e, k _ _ q, io _ _ r, io _ _ r'⟩
      | or x y => obtain ⟨p, a, b, e, q, r, r'⟩ := h; exact ⟨p, a, b, e, k _ _ q, io _ _ r, io _ _ r'⟩
      | not x => obtain ⟨p, a, e, q, r⟩ := h; exact ⟨p, a, e, k _ _ q, io _ _ r⟩
theorem VAt.mono {G G' : Hp} {n : Nat} {v : V} {x : Sg49.Value} (h : VAt G n v x) (k : TupK G G') : VAt G' n v x := (at_mono k n).1 v x h
theorem OAt.mono {G G' : Hp} {n : Nat} {v : V} {x : Sg49.Obs} (h : OAt G n v x) (k : TupK G G') : OAt G' n v x := (at_mono k n).2 v x h
/-- a choice's pairs -/
def PairsAt (G : Hp) : List V → List (Int × Int) → Prop
  | [], [] => True
  | v :: vs, p :: ps => (∃ a, v = .ref a ∧ G a = some (.tup [.int p.1, .int p.2])) ∧ PairsAt G vs ps
  | _, _ => False
/-- an action -/
def AAt (G : Hp) (v : V) : Sg49.Action → Prop
  | .deposit a b t x => ∃ p y, v = .ref p ∧ G p = some (.tup [.int 0, .int (a : Nat), .int (b : Nat), .int (t : Nat), y]) ∧ a < 8 ∧ b < 8 ∧ t < 4 ∧ VAt G 40 y x
  | .choice c b l => ∃ p q vs, v = .ref p ∧ G p = some (.tup [.int 1, .int (c : Nat), .int (b : Nat), .ref q]) ∧ c < 16 ∧ b < 8 ∧ l.length ≤ 4 ∧ G q = some (.tup vs) ∧ PairsAt G vs l
  | .notify o => ∃ p y, v = .ref p ∧ G p = some (.tup [.int 2, y]) ∧ OAt G 40 y o
theorem PairsAt.mono {G G' : Hp} (k : TupK G G') : ∀ {vs : List V} {l : List (Int × Int)}, PairsAt G vs l → PairsAt G' vs l
  | [], [], _ => trivial
  | v :: vs, p :: ps, ⟨⟨a, e, q⟩, r⟩ => ⟨⟨a, e, k _ _ q⟩, PairsAt.mono k r⟩
  | [], _ :: _, h => h.elim
  | _ :: _, [], h => h.elim
theorem PairsAt.len {G : Hp} : ∀ {vs : List V} {l : List (Int × Int)}, PairsAt G vs l → vs.length = l.length
  | [], [], _ => rfl
  | v :: vs, p :: ps, ⟨_, r⟩ => congrArg (· + 1) (PairsAt.len r)
  | [], _ :: _, h => h.elim
  | _ :: _, [], h => h.elim
theorem AAt.mono {G G' : Hp} (k : TupK G G') {v : V} {a : Sg49.Action} (h : AAt G v a) : AAt G' v a := by
  cases a with
  | deposit a b t x => obtain ⟨p, y, e, q, r1, r2, r3, r⟩ := h; exact ⟨p, y, e, k _ _ q, r1, r2, r3, r.mono k⟩
  | choice c b l => obtain ⟨p, q, vs, e, g, r1, r2, r3, g2, r⟩ := h; exact ⟨p, q, vs, e, k _ _ g, r1, r2, r3, k _ _ g2, r.mono k⟩
  | notify o => obtain ⟨p, y, e, q, r⟩ := h; exact ⟨p, y, e, k _ _ q, r.mono k⟩
/-! ### numbers that are read -/
def nF (a b : V) : List (Str × V) := [("numbers", a), ("place", b)]
/-- a reader of the numbers at a, at the place i -/
def NumAt (K : PySem.W.Frag) (H : Hp) (n a : Addr) (i : Nat) : Prop := ∃ dx, H n = some (.ins (CN K) dx (nF (.ref a) (.int (i : Nat))))
theorem NumAt.ntup {K : PySem.W.Frag} {H : Hp} {n a : Addr} {i : Nat} (h : NumAt K H n a i) : ∀ b ∈ [n], ∀ xs, H b ≠ some (.tup xs) := fun b hb xs e => by
  obtain ⟨dx, q⟩ := h
  have : b = n := by simpa using hb
  subst this
  rw [q] at e
  cases e
/-- what a reader promises: rd is the document's reader, Rep how what is read stands in the heap -/
def spRead {α : Type} (K : PySem.W.Frag) (rd : Sg49.R α) (Rep : Hp → V → α → Prop) (args : List V) : Sp := fun vs H Q E => ∃ (n a : Addr) (i : Nat) (l : List Int), vs = .ref n :: args ∧ NumAt K H n a i ∧ SqL K H a (l.map V.int) ∧ i ≤ l.length ∧
  (rd (l.drop i) = none → ∀ H' i', NumAt K H' n a i' → But [n] H H' → E (XN K) none H') ∧
  (∀ x r, rd (l.drop i) = some (x, r) → ∀ v H' i', i ≤ i' → i' ≤ l.length → l.drop i' = r → NumAt K H' n a i' → But [n] H H' → Rep H' v x → Q v H')
end SP
set_option maxHeartbeats 4000000
namespace SP
open PySem PySem.Spec PyProof.Rows L2
/-! ### what the operations ask -/
abbrev rNeg : V → Hp → VK → Prop := rU fun i => .int (-i)
abbrev rPlus : R2 := rI0 fun i j => .int (i + j)
abbrev rMinus : R2 := rI0 fun i j => .int (i - j)
abbrev rTimes : R2 := rI CMul fun i j => .int (i * j)
abbrev rOver : R2 := rI CDivW fun i j => .int (i / j)
abbrev rLess : R2 := rI0 fun i j => .bl (decide (i < j))
abbrev rLeq : R2 := rI0 fun i j => .bl (decide (i ≤ j))
abbrev rNeNil : R2 := fun x y H Q => ∃ p q xs, x = .ref p ∧ y = .ref q ∧ H p = some (.lst xs) ∧ H q = some (.lst []) ∧ Q (.bl (!xs.isEmpty)) H
abbrev rLenK (K : PySem.W.Frag) : List V → Hp → VK → Prop := fun xs H Q => ∃ p ys, xs = [.ref p] ∧ (SqL K H p ys ∨ SqT K H p ys) ∧ Q (.int ys.length) H
abbrev rMaxK : List V → Hp → VK → Prop := fun xs H Q => ∃ i j, xs = [.int i, .int j] ∧ Q (.int (if j > i then j else i)) H
abbrev rMinK : List V → Hp → VK → Prop := fun xs H Q => ∃ i j, xs = [.int i, .int j] ∧ Q (.int (if j < i then j else i)) H
abbrev rAbsK : List V → Hp → VK → Prop := fun xs H Q => ∃ i, xs = [.int i] ∧ Q (.int (if i < 0 then -i else i)) H
abbrev rListK (K : PySem.W.Frag) : List V → Hp → VK → Prop := fun xs H Q => ∃ p ys, xs = [.ref p] ∧ (SqL K H p ys ∨ SqT K H p ys) ∧ ∀ l, H l = none → Q (.ref l) (upd H l (.lst ys))
abbrev rTupleK (K : PySem.W.Frag) : List V → Hp → VK → Prop := fun xs H Q => ∃ p ys, xs = [.ref p] ∧ ((SqL K H p ys ∧ ∀ l, H l = none → Q (.ref l) (upd H l (.tup ys))) ∨ (SqT K H p ys ∧ Q (.ref p) H))
theorem dep_of {k : Nat} {A : Around} (h : Room k A) : A.depth + 1 < recursionLimit := by have := h.dp; omega
/-! #### Numbers_init -/
def t_Numbers_init (K : PySem.W.Frag) (E : XK) : TS :=
  (tSeq (sFld K (tVar 0) (tVar 1) "numbers")
    (sFld K (tVar 0) (tC (.int 0)) "place"))
abbrev N_Numbers_init : List Str := ["self", "numbers"]
abbrev P_Numbers_init : List Str := ["self", "numbers"]
theorem sc_Numbers_init : FnScope N_Numbers_init P_Numbers_init (defScope s_Numbers_init) := ⟨rfl, rfl, rfl, by decide +kernel, rfl, by decide +kernel, by decide +kernel⟩
theorem ok_Numbers_init {P : Program} {w : World} {K : PySem.W.Frag} {mg : Str → Option Value} {base : Heap} (T : Tx K mg)   {sp : Sp} (len : ∀ vs H Q E, sp vs H Q E → vs.length = 2)
    (pure_ : ∀ vs H Q E, sp vs H Q E → t_Numbers_init K E { nx := fun _ H' => Q .non H', rt := Q } (start N_Numbers_init vs) H) : Fok P w K mg base CX0 1 d_Numbers_init P_Numbers_init sp := by
  refine fok (k := 0) (d := d_Numbers_init) (N := N_Numbers_init) T.D_Numbers_init rfl sc_Numbers_init (fun _ _ _ _ _ _ us hl => match us, hl with | [_, _], _ => rfl) len (fun f cdv A outer s H vs Q E hr h => ⟨t_Numbers_init K E, PSs.nox ?_, pure_ vs H Q E h⟩)
  exact (pss_cons (ps_fld (pv 0) (pv 1) rfl)
      (pss_one (ps_fld (pv 0) pe_int rfl)))
/-! #### Numbers_has_ended -/
def t_Numbers_has_ended (K : PySem.W.Frag) (E : XK) : TS :=
  (tRet (tEqI (tFld K (tVar 0) "place") (tCB (rLenK K) (tCons (tFld K (tVar 0) "numbers") tNil))))
abbrev N_Numbers_has_ended : List Str := ["self"]
abbrev P_Numbers_has_ended : List Str := ["self"]
theorem sc_Numbers_has_ended : FnScope N_Numbers_has_ended P_Numbers_has_ended (defScope s_Numbers_has_ended) := ⟨rfl, rfl, rfl, by decide +kernel, rfl, by decide +kernel, by decide +kernel⟩
theorem ok_Numbers_has_ended {P : Program} {w : World} {K : PySem.W.Frag} {mg : Str → Option Value} {base : Heap} (T : Tx K mg)   {sp : Sp} (len : ∀ vs H Q E, sp vs H Q E → vs.length = 1)
    (pure_ : ∀ vs H Q E, sp vs H Q E → t_Numbers_has_ended K E { nx := fun _ H' => Q .non H', rt := Q } (start N_Numbers_has_ended vs) H) : Fok P w K mg base CX0 1 d_Numbers_has_ended P_Numbers_has_ended sp := by
  refine fok (k := 0) (d := d_Numbers_has_ended) (N := N_Numbers_has_ended) T.D_Numbers_has_ended rfl sc_Numbers_has_ended (fun _ _ _ _ _ _ us hl => match us, hl with | [_], _ => rfl) len (fun f cdv A outer s H vs Q E hr h => ⟨t_Numbers_has_ended K E, PSs.nox ?_, pure_ vs H Q E h⟩)
  exact (pss_one (ps_ret (pe_cmp (pc_eqI (pe_fld (pv 0) rfl) (pe_callB call_len_seq (by rfl) T.z_len boot_len (pa_cons (pe_fld (pv 0) rfl) pa_nil))))))
/-! #### Numbers_one -/
def t_Numbers_one (K : PySem.W.Frag) (E : XK) (sp_Numbers_has_ended : Sp) : TS :=
  (tSeq (tIfS (tOr (tB (tMeth (He.ga K "Numbers") "has_ended" sp_Numbers_has_ended [] E0 (tVar 0) tNil)) (tNot (tTest (tChain rLeq rLeq (tVar 1) (tOp (rIxL K) (tFld K (tVar 0) "numbers") (tFld K (tVar 0) "place")) (tVar 2))))) (fun _ _ H => E (XN K) none H) tNext)
    (tSeq (sFld K (tVar 0) (tOp rPlus (tFld K (tVar 0) "place") (tC (.int 1))) "place")
    (tRet (tOp (rIxL K) (tFld K (tVar 0) "numbers") (tOp rMinus (tFld K (tVar 0) "place") (tC (.int 1)))))))
abbrev N_Numbers_one : List Str := ["self", "least", "most"]
abbrev P_Numbers_one : List Str := ["self", "least", "most"]
theorem sc_Numbers_one : FnScope N_Numbers_one P_Numbers_one (defScope s_Numbers_one) := ⟨rfl, rfl, rfl, by decide +kernel, rfl, by decide +kernel, by decide +kernel⟩
theorem ok_Numbers_one {P : Program} {w : World} {K : PySem.W.Frag} {mg : Str → Option Value} {base : Heap} (T : Tx K mg) {sp_Numbers_has_ended : Sp} (F_Numbers_has_ended : Fok P w K mg base CX0 1 d_Numbers_has_ended P_Numbers_has_ended sp_Numbers_has_ended) {sp : Sp} (len : ∀ vs H Q E, sp vs H Q E → vs.length = 3)
    (pure_ : ∀ vs H Q E, sp vs H Q E → t_Numbers_one K E sp_Numbers_has_ended { nx := fun _ H' => Q .non H', rt := Q } (start N_Numbers_one vs) H) : Fok P w K mg base (L2N.CX P w) 2 d_Numbers_one P_Numbers_one sp := by
  refine fok (k := 1) (d := d_Numbers_one) (N := N_Numbers_one) T.D_Numbers_one rfl sc_Numbers_one (fun _ _ _ _ _ _ us hl => match us, hl with | [_, _, _], _ => rfl) len (fun f cdv A outer s H vs Q E hr h => ⟨t_Numbers_one K E sp_Numbers_has_ended, ?_, pure_ vs H Q E h⟩)
  exact (pss_cons (ps_if (PW.pt (pw_or (pt_val (pe_me0 F_Numbers_has_ended hr (by decide) T.c_Numbers T.m_Numbers_has_ended pat0 (pv 0))) (pw_or1 (pt_not (pt_chain op_le op_le (pv 1) (pe_ix ix_list (pe_fld (pv 0) rfl) (pe_fld (pv 0) rfl) (fun _ _ => rfl)) (pv 2)))))) (pss_one (ps_not rfl T (tkN rfl rfl rfl rfl))) pss_nil)
      (pss_cons (ps_fld (pv 0) (pe_op op_add (pe_fld (pv 0) rfl) pe_int) rfl)
      (pss_one (ps_ret (pe_ix ix_list (pe_fld (pv 0) rfl) (pe_op op_sub (pe_fld (pv 0) rfl) pe_int) (fun _ _ => rfl))))))
/-! #### Numbers_party -/
def t_Numbers_party (K : PySem.W.Frag) (E : XK) (sp_Numbers_one : Sp) : TS :=
  (tRet (tMeth (He.ga K "Numbers") "one" sp_Numbers_one [] E (tVar 0) (tCons (tC (.int 0)) (tCons (tOp rMinus (tC (.int 8)) (tC (.int 1))) tNil))))
abbrev N_Numbers_party : List Str := ["self"]
abbrev P_Numbers_party : List Str := ["self"]
theorem sc_Numbers_party : FnScope N_Numbers_party P_Numbers_party (defScope s_Numbers_party) := ⟨rfl, rfl, rfl, by decide +kernel, rfl, by decide +kernel, by decide +kernel⟩
theorem ok_Numbers_party {P : Program} {w : World} {K : PySem.W.Frag} {mg : Str → Option Value} {base : Heap} (T : Tx K mg) {sp_Numbers_one : Sp} (F_Numbers_one : Fok P w K mg base (L2N.CX P w) 2 d_Numbers_one P_Numbers_one sp_Numbers_one) {sp : Sp} (len : ∀ vs H Q E, sp vs H Q E → vs.length = 1)
    (pure_ : ∀ vs H Q E, sp vs H Q E → t_Numbers_party K E sp_Numbers_one { nx := fun _ H' => Q .non H', rt := Q } (start N_Numbers_party vs) H) : Fok P w K mg base (L2N.CX P w) 3 d_Numbers_party P_Numbers_party sp := by
  refine fok (k := 2) (d := d_Numbers_party) (N := N_Numbers_party) T.D_Numbers_party rfl sc_Numbers_party (fun _ _ _ _ _ _ us hl => match us, hl with | [_], _ => rfl) len (fun f cdv A outer s H vs Q E hr h => ⟨t_Numbers_party K E sp_Numbers_one, ?_, pure_ vs H Q E h⟩)
  exact (pss_one (ps_ret (pe_me F_Numbers_one hr (by decide) T.c_Numbers T.m_Numbers_one (patN rfl rfl rfl rfl) (pv 0) (pa_cons pe_int (pa_cons (pe_op op_sub (pe_gi T.i_PARTIES) pe_int) pa_nil)))))
/-! #### Numbers_kind_of_money -/
def t_Numbers_kind_of_money (K : PySem.W.Frag) (E : XK) (sp_Numbers_one : Sp) : TS :=
  (tRet (tMeth (He.ga K "Numbers") "one" sp_Numbers_one [] E (tVar 0) (tCons (tC (.int 0)) (tCons (tOp rMinus (tC (.int 4)) (tC (.int 1))) tNil))))
abbrev N_Numbers_kind_of_money : List Str := ["self"]
abbrev P_Numbers_kind_of_money : List Str := ["self"]
theorem sc_Numbers_kind_of_money : FnScope N_Numbers_kind_of_money P_Numbers_kind_of_money (defScope s_Numbers_kind_of_money) := ⟨rfl, rfl, rfl, by decide +kernel, rfl, by decide +kernel, by decide +kernel⟩
theorem ok_Numbers_kind_of_money {P : Program} {w : World} {K : PySem.W.Frag} {mg : Str → Option Value} {base : Heap} (T : Tx K mg) {sp_Numbers_one : Sp} (F_Numbers_one : Fok P w K mg base (L2N.CX P w) 2 d_Numbers_one P_Numbers_one sp_Numbers_one) {sp : Sp} (len : ∀ vs H Q E, sp vs H Q E → vs.length = 1)
    (pure_ : ∀ vs H Q E, sp vs H Q E → t_Numbers_kind_of_money K E sp_Numbers_one { nx := fun _ H' => Q .non H', rt := Q } (start N_Numbers_kind_of_money vs) H) : Fok P w K mg base (L2N.CX P w) 3 d_Numbers_kind_of_money P_Numbers_kind_of_money sp := by
  refine fok (k := 2) (d := d_Numbers_kind_of_money) (N := N_Numbers_kind_of_money) T.D_Numbers_kind_of_money rfl sc_Numbers_kind_of_money (fun _ _ _ _ _ _ us hl => match us, hl with | [_], _ => rfl) len (fun f cdv A outer s H vs Q E hr h => ⟨t_Numbers_kind_of_money K E sp_Numbers_one, ?_, pure_ vs H Q E h⟩)
  exact (pss_one (ps_ret (pe_me F_Numbers_one hr (by decide) T.c_Numbers T.m_Numbers_one (patN rfl rfl rfl rfl) (pv 0) (pa_cons pe_int (pa_cons (pe_op op_sub (pe_gi T.i_KINDS) pe_int) pa_nil)))))
/-! #### Numbers_amount -/
def t_Numbers_amount (K : PySem.W.Frag) (E : XK) (sp_Numbers_one : Sp) : TS :=
  (tRet (tMeth (He.ga K "Numbers") "one" sp_Numbers_one [] E (tVar 0) (tCons (tUn rNeg (tC (.int 1000000000000000))) (tCons (tC (.int 1000000000000000)) tNil))))
abbrev N_Numbers_amount : List Str := ["self"]
abbrev P_Numbers_amount : List Str := ["self"]
theorem sc_Numbers_amount : FnScope N_Numbers_amount P_Numbers_amount (defScope s_Numbers_amount) := ⟨rfl, rfl, rfl, by decide +kernel, rfl, by decide +kernel, by decide +kernel⟩
theorem ok_Numbers_amount {P : Program} {w : World} {K : PySem.W.Frag} {mg : Str → Option Value} {base : Heap} (T : Tx K mg) {sp_Numbers_one : Sp} (F_Numbers_one : Fok P w K mg base (L2N.CX P w) 2 d_Numbers_one P_Numbers_one sp_Numbers_one) {sp : Sp} (len : ∀ vs H Q E, sp vs H Q E → vs.length = 1)
    (pure_ : ∀ vs H Q E, sp vs H Q E → t_Numbers_amount K E sp_Numbers_one { nx := fun _ H' => Q .non H', rt := Q } (start N_Numbers_amount vs) H) : Fok P w K mg base (L2N.CX P w) 3 d_Numbers_amount P_Numbers_amount sp := by
  refine fok (k := 2) (d := d_Numbers_amount) (N := N_Numbers_amount) T.D_Numbers_amount rfl sc_Numbers_amount (fun _ _ _ _ _ _ us hl => match us, hl with | [_], _ => rfl) len (fun f cdv A outer s H vs Q E hr h => ⟨t_Numbers_amount K E sp_Numbers_one, ?_, pure_ vs H Q E h⟩)
  exact (pss_one (ps_ret (pe_me F_Numbers_one hr (by decide) T.c_Numbers T.m_Numbers_one (patN rfl rfl rfl rfl) (pv 0) (pa_cons (pe_un un_neg (pe_gi T.i_LARGEST)) (pa_cons (pe_gi T.i_LARGEST) pa_nil)))))
/-! #### Numbers_value -/
def t_Numbers_value (K : PySem.W.Frag) (E : XK) (sp_Numbers_value sp_Numbers_said sp_Numbers_one sp_Numbers_kind_of_money sp_Numbers_party sp_Numbers_amount : Sp) : TS :=
  (tSeq (tIfS (tB (tGt (tVar 1) (tC (.int 40)))) (fun _ _ H => E (XN K) none H) tNext)
    (tSeq (tAsg (tMeth (He.ga K "Numbers") "one" sp_Numbers_one [] E (tVar 0) (tCons (tC (.int 0)) (tCons (tC (.int 11)) tNil))) (gName 2))
    (tSeq (tIfS (tB (tEqI (tVar 2) (tC (.int 0)))) (tRet (tTup (tCons (tVar 2) (tCons (tMeth (He.ga K "Numbers") "amount" sp_Numbers_amount [] E (tVar 0) tNil) tNil)))) tNext)
    (tSeq (tIfS (tB (tEqI (tVar 2) (tC (.int 1)))) (tSeq (tAsg (tMeth (He.ga K "Numbers") "party" sp_Numbers_party [] E (tVar 0) tNil) (gName 5))
    (tRet (tTup (tCons (tVar 2) (tCons (tVar 5) (tCons (tMeth (He.ga K "Numbers") "kind_of_money" sp_Numbers_kind_of_money [] E (tVar 0) tNil) tNil)))))) tNext)
    (tSeq (tIfS (tB (tEqI (tVar 2) (tC (.int 2)))) (tRet (tTup (tCons (tVar 2) (tCons (tMeth (He.ga K "Numbers") "one" sp_Numbers_one [] E (tVar 0) (tCons (tC (.int 0)) (tCons (tOp rMinus (tC (.int 16)) (tC (.int 1))) tNil))) tNil)))) tNext)
    (tSeq (tIfS (tB (tEqI (tVar 2) (tC (.int 3)))) (tRet (tTup (tCons (tVar 2) (tCons (tMeth (He.ga K "Numbers") "one" sp_Numbers_one [] E (tVar 0) (tCons (tC (.int 0)) (tCons (tOp rMinus (tC (.int 16)) (tC (.int 1))) tNil))) tNil)))) tNext)
    (tSeq (tIfS (tB (tLe (tVar 2) (tC (.int 7)))) (tSeq (tAsg (tMeth (He.ga K "Numbers") "value" sp_Numbers_value [] E (tVar 0) (tCons (tOp rPlus (tVar 1) (tC (.int 1))) tNil)) (gName 4))
    (tRet (tTup (tCons (tVar 2) (tCons (tVar 4) (tCons (tMeth (He.ga K "Numbers") "value" sp_Numbers_value [] E (tVar 0) (tCons (tOp rPlus (tVar 1) (tC (.int 1))) tNil)) tNil)))))) tNext)
    (tSeq (tIfS (tB (tEqI (tVar 2) (tC (.int 8)))) (tRet (tTup (tCons (tVar 2) (tCons (tMeth (He.ga K "Numbers") "value" sp_Numbers_value [] E (tVar 0) (tCons (tOp rPlus (tVar 1) (tC (.int 1))) tNil)) tNil)))) tNext)
    (tSeq (tIfS (tB (tLe (tVar 2) (tC (.int 10)))) (tRet (tTup (tCons (tVar 2) tNil))) tNext)
    (tSeq (tAsg (tMeth (He.ga K "Numbers") "said" sp_Numbers_said [] E (tVar 0) (tCons (tOp rPlus (tVar 1) (tC (.int 1))) tNil)) (gName 3))
    (tSeq (tAsg (tMeth (He.ga K "Numbers") "value" sp_Numbers_value [] E (tVar 0) (tCons (tOp rPlus (tVar 1) (tC (.int 1))) tNil)) (gName 4))
    (tRet (tTup (tCons (tVar 2) (tCons (tVar 3) (tCons (tVar 4) (tCons (tMeth (He.ga K "Numbers") "value" sp_Numbers_value [] E (tVar 0) (tCons (tOp rPlus (tVar 1) (tC (.int 1))) tNil)) tNil)))))))))))))))))
abbrev N_Numbers_value : List Str := ["self", "depth", "which", "said", "first", "party"]
abbrev P_Numbers_value : List Str := ["self", "depth"]
theorem sc_Numbers_value : FnScope N_Numbers_value P_Numbers_value (defScope s_Numbers_value) := ⟨rfl, rfl, rfl, by decide +kernel, rfl, by decide +kernel, by decide +kernel⟩
theorem ok_Numbers_value {P : Program} {w : World} {K : PySem.W.Frag} {mg : Str → Option Value} {base : Heap} (T : Tx K mg) {sp_Numbers_value : Sp} {sp_Numbers_said : Sp} {sp_Numbers_one : Sp} {sp_Numbers_kind_of_money : Sp} {sp_Numbers_party : Sp} {sp_Numbers_amount : Sp} {kk : Nat} (hkk : 3 ≤ kk) (F_Numbers_value : Fok P w K mg base (L2N.CX P w) kk d_Numbers_value P_Numbers_value sp_Numbers_value) (F_Numbers_said : Fok P w K mg base (L2N.CX P w) kk d_Numbers_said P_Numbers_said sp_Numbers_said) (F_Numbers_one : Fok P w K mg base (L2N.CX P w) 2 d_Numbers_one P_Numbers_one sp_Numbers_one) (F_Numbers_kind_of_money : Fok P w K mg base (L2N.CX P w) 3 d_Numbers_kind_of_money P_Numbers_kind_of_money sp_Numbers_kind_of_money) (F_Numbers_party : Fok P w K mg base (L2N.CX P w) 3 d_Numbers_party P_Numbers_party sp_Numbers_party) (F_Numbers_amount : Fok P w K mg base (L2N.CX P w) 3 d_Numbers_amount P_Numbers_amount sp_Numbers_amount) {sp : Sp} (len : ∀ vs H Q E, sp vs H Q E → vs.length = 2)
    (pure_ : ∀ vs H Q E, sp vs H Q E → t_Numbers_value K E sp_Numbers_value sp_Numbers_said sp_Numbers_one sp_Numbers_kind_of_money sp_Numbers_party sp_Numbers_amount { nx := fun _ H' => Q .non H', rt := Q } (start N_Numbers_value vs) H) : Fok P w K mg base (L2N.CX P w) (kk + 1) d_Numbers_value P_Numbers_value sp := by
  refine fok (k := kk) (d := d_Numbers_value) (N := N_Numbers_value) T.D_Numbers_value rfl sc_Numbers_value (fun _ _ _ _ _ _ us hl => match us, hl with | [_, _], _ => rfl) len (fun f cdv A outer s H vs Q E hr h => ⟨t_Numbers_value K E sp_Numbers_value sp_Numbers_said sp_Numbers_one sp_Numbers_kind_of_money sp_Numbers_party sp_Numbers_amount, ?_, pure_ vs H Q E h⟩)
  exact (pss_cons (ps_if (pt_cmp (pc_gt (pv 1) (pe_gi T.i_DEEPEST))) (pss_one (ps_not rfl T (tkN rfl rfl rfl rfl))) pss_nil)
      (pss_cons (ps_set (i := 2) sc_Numbers_value.nd rfl (by first | exact Or.inl rfl | exact Or.inr rfl) (pe_me F_Numbers_one hr (by omega) T.c_Numbers T.m_Numbers_one (patN rfl rfl rfl rfl) (pv 0) (pa_cons pe_int (pa_cons pe_int pa_nil))))
      (pss_cons (ps_if (pt_cmp (pc_eqI (pv 2) pe_int)) (pss_one (ps_ret (pe_tup (pa_cons (pv 2) (pa_cons (pe_me0 F_Numbers_amount hr (by omega) T.c_Numbers T.m_Numbers_amount (patN rfl rfl rfl rfl) (pv 0)) pa_nil))))) pss_nil)
      (pss_cons (ps_if (pt_cmp (pc_eqI (pv 2) pe_int)) (pss_cons (ps_set (i := 5) sc_Numbers_value.nd rfl (by first | exact Or.inl rfl | exact Or.inr rfl) (pe_me0 F_Numbers_party hr (by omega) T.c_Numbers T.m_Numbers_party (patN rfl rfl rfl rfl) (pv 0)))
      (pss_one (ps_ret (pe_tup (pa_cons (pv 2) (pa_cons (pv 5) (pa_cons (pe_me0 F_Numbers_kind_of_money hr (by omega) T.c_Numbers T.m_Numbers_kind_of_money (patN rfl rfl rfl rfl) (pv 0)) pa_nil))))))) pss_nil)
      (pss_cons (ps_if (pt_cmp (pc_eqI (pv 2) pe_int)) (pss_one (ps_ret (pe_tup (pa_cons (pv 2) (pa_cons (pe_me F_Numbers_one hr (by omega) T.c_Numbers T.m_Numbers_one (patN rfl rfl rfl rfl) (pv 0) (pa_cons pe_int (pa_cons (pe_op op_sub (pe_gi T.i_CHOICES) pe_int) pa_nil))) pa_nil))))) pss_nil)
      (pss_cons (ps_if (pt_cmp (pc_eqI (pv 2) pe_int)) (pss_one (ps_ret (pe_tup (pa_cons (pv 2) (pa_cons (pe_me F_Numbers_one hr (by omega) T.c_Numbers T.m_Numbers_one (patN rfl rfl rfl rfl) (pv 0) (pa_cons pe_int (pa_cons (pe_op op_sub (pe_gi T.i_SLOTS) pe_int) pa_nil))) pa_nil))))) pss_nil)
      (pss_cons (ps_if (pt_cmp (pc_le (pv 2) pe_int)) (pss_cons (ps_set (i := 4) sc_Numbers_value.nd rfl (by first | exact Or.inl rfl | exact Or.inr rfl) (pe_me F_Numbers_value hr (by omega) T.c_Numbers T.m_Numbers_value (patN rfl rfl rfl rfl) (pv 0) (pa_cons (pe_op op_add (pv 1) pe_int) pa_nil)))
      (pss_one (ps_ret (pe_tup (pa_cons (pv 2) (pa_cons (pv 4) (pa_cons (pe_me F_Numbers_value hr (by omega) T.c_Numbers T.m_Numbers_value (patN rfl rfl rfl rfl) (pv 0) (pa_cons (pe_op op_add (pv 1) pe_int) pa_nil)) pa_nil))))))) pss_nil)
      (pss_cons (ps_if (pt_cmp (pc_eqI (pv 2) pe_int)) (pss_one (ps_ret (pe_tup (pa_cons (pv 2) (pa_cons (pe_me F_Numbers_value hr (by omega) T.c_Numbers T.m_Numbers_value (patN rfl rfl rfl rfl) (pv 0) (pa_cons (pe_op op_add (pv 1) pe_int) pa_nil)) pa_nil))))) pss_nil)
      (pss_cons (ps_if (pt_cmp (pc_le (pv 2) pe_int)) (pss_one (ps_ret (pe_tup (pa_cons (pv 2) pa_nil)))) pss_nil)
      (pss_cons (ps_set (i := 3) sc_Numbers_value.nd rfl (by first | exact Or.inl rfl | exact Or.inr rfl) (pe_me F_Numbers_said hr (by omega) T.c_Numbers T.m_Numbers_said (patN rfl rfl rfl rfl) (pv 0) (pa_cons (pe_op op_add (pv 1) pe_int) pa_nil)))
      (pss_cons (ps_set (i := 4) sc_Numbers_value.nd rfl (by first | exact Or.inl rfl | exact Or.inr rfl) (pe_me F_Numbers_value hr (by omega) T.c_Numbers T.m_Numbers_value (patN rfl rfl rfl rfl) (pv 0) (pa_cons (pe_op op_add (pv 1) pe_int) pa_nil)))
      (pss_one (ps_ret (pe_tup (pa_cons (pv 2) (pa_cons (pv 3) (pa_cons (pv 4) (pa_cons (pe_me F_Numbers_value hr (by omega) T.c_Numbers T.m_Numbers_value (patN rfl rfl rfl rfl) (pv 0) (pa_cons (pe_op op_add (pv 1) pe_int) pa_nil)) pa_nil))))))))))))))))))
/-! #### Numbers_said -/
def t_Numbers_said (K : PySem.W.Frag) (E : XK) (sp_Numbers_said sp_Numbers_value sp_Numbers_one : Sp) : TS :=
  (tSeq (tIfS (tB (tGt (tVar 1) (tC (.int 40)))) (fun _ _ H => E (XN K) none H) tNext)
    (tSeq (tAsg (tMeth (He.ga K "Numbers") "one" sp_Numbers_one [] E (tVar 0) (tCons (tC (.int 0)) (tCons (tC (.int 7)) tNil))) (gName 2))
    (tSeq (tIfS (tB (tLe (tVar 2) (tC (.int 1)))) (tRet (tTup (tCons (tVar 2) tNil))) tNext)
    (tSeq (tIfS (tB (tEqI (tVar 2) (tC (.int 2)))) (tRet (tTup (tCons (tVar 2) (tCons (tMeth (He.ga K "Numbers") "one" sp_Numbers_one [] E (tVar 0) (tCons (tC (.int 0)) (tCons (tOp rMinus (tC (.int 16)) (tC (.int 1))) tNil))) tNil)))) tNext)
    (tSeq (tIfS (tB (tLe (tVar 2) (tC (.int 4)))) (tSeq (tAsg (tMeth (He.ga K "Numbers") "value" sp_Numbers_value [] E (tVar 0) (tCons (tOp rPlus (tVar 1) (tC (.int 1))) tNil)) (gName 3))
    (tRet (tTup (tCons (tVar 2) (tCons (tVar 3) (tCons (tMeth (He.ga K "Numbers") "value" sp_Numbers_value [] E (tVar 0) (tCons (tOp rPlus (tVar 1) (tC (.int 1))) tNil)) tNil)))))) tNext)
    (tSeq (tIfS (tB (tEqI (tVar 2) (tC (.int 7)))) (tRet (tTup (tCons (tVar 2) (tCons (tMeth (He.ga K "Numbers") "said" sp_Numbers_said [] E (tVar 0) (tCons (tOp rPlus (tVar 1) (tC (.int 1))) tNil)) tNil)))) tNext)
    (tSeq (tAsg (tMeth (He.ga K "Numbers") "said" sp_Numbers_said [] E (tVar 0) (tCons (tOp rPlus (tVar 1) (tC (.int 1))) tNil)) (gName 3))
    (tRet (tTup (tCons (tVar 2) (tCons (tVar 3) (tCons (tMeth (He.ga K "Numbers") "said" sp_Numbers_said [] E (tVar 0) (tCons (tOp rPlus (tVar 1) (tC (.int 1))) tNil)) tNil))))))))))))
abbrev N_Numbers_said : List Str := ["self", "depth", "which", "first"]
abbrev P_Numbers_said : List Str := ["self", "depth"]
theorem sc_Numbers_said : FnScope N_Numbers_said P_Numbers_said (defScope s_Numbers_said) := ⟨rfl, rfl, rfl, by decide +kernel, rfl, by decide +kernel, by decide +kernel⟩
theorem ok_Numbers_said {P : Program} {w : World} {K : PySem.W.Frag} {mg : Str → Option Value} {base : Heap} (T : Tx K mg) {sp_Numbers_said : Sp} {sp_Numbers_value : Sp} {sp_Numbers_one : Sp} {kk : Nat} (hkk : 3 ≤ kk) (F_Numbers_said : Fok P w K mg base (L2N.CX P w) kk d_Numbers_said P_Numbers_said sp_Numbers_said) (F_Numbers_value : Fok P w K mg base (L2N.CX P w) kk d_Numbers_value P_Numbers_value sp_Numbers_value) (F_Numbers_one : Fok P w K mg base (L2N.CX P w) 2 d_Numbers_one P_Numbers_one sp_Numbers_one) {sp : Sp} (len : ∀ vs H Q E, sp vs H Q E → vs.length = 2)
    (pure_ : ∀ vs H Q E, sp vs H Q E → t_Numbers_said K E sp_Numbers_said sp_Numbers_value sp_Numbers_one { nx := fun _ H' => Q .non H', rt := Q } (start N_Numbers_said vs) H) : Fok P w K mg base (L2N.CX P w) (kk + 1) d_Numbers_said P_Numbers_said sp := by
  refine fok (k := kk) (d := d_Numbers_said) (N := N_Numbers_said) T.D_Numbers_said rfl sc_Numbers_said (fun _ _ _ _ _ _ us hl => match us, hl with | [_, _], _ => rfl) len (fun f cdv A outer s H vs Q E hr h => ⟨t_Numbers_said K E sp_Numbers_said sp_Numbers_value sp_Numbers_one, ?_, pure_ vs H Q E h⟩)
  exact (pss_cons (ps_if (pt_cmp (pc_gt (pv 1) (pe_gi T.i_DEEPEST))) (pss_one (ps_not rfl T (tkN rfl rfl rfl rfl))) pss_nil)
      (pss_cons (ps_set (i := 2) sc_Numbers_said.nd rfl (by first | exact Or.inl rfl | exact Or.inr rfl) (pe_me F_Numbers_one hr (by omega) T.c_Numbers T.m_Numbers_one (patN rfl rfl rfl rfl) (pv 0) (pa_cons pe_int (pa_cons pe_int pa_nil))))
      (pss_cons (ps_if (pt_cmp (pc_le (pv 2) pe_int)) (pss_one (ps_ret (pe_tup (pa_cons (pv 2) pa_nil)))) pss_nil)
      (pss_cons (ps_if (pt_cmp (pc_eqI (pv 2) pe_int)) (pss_one (ps_ret (pe_tup (pa_cons (pv 2) (pa_cons (pe_me F_Numbers_one hr (by omega) T.c_Numbers T.m_Numbers_one (patN rfl rfl rfl rfl) (pv 0) (pa_cons pe_int (pa_cons (pe_op op_sub (pe_gi T.i_CHOICES) pe_int) pa_nil))) pa_nil))))) pss_nil)
      (pss_cons (ps_if (pt_cmp (pc_le (pv 2) pe_int)) (pss_cons (ps_set (i := 3) sc_Numbers_said.nd rfl (by first | exact Or.inl rfl | exact Or.inr rfl) (pe_me F_Numbers_value hr (by omega) T.c_Numbers T.m_Numbers_value (patN rfl rfl rfl rfl) (pv 0) (pa_cons (pe_op op_add (pv 1) pe_int) pa_nil)))
      (pss_one (ps_ret (pe_tup (pa_cons (pv 2) (pa_cons (pv 3) (pa_cons (pe_me F_Numbers_value hr (by omega) T.c_Numbers T.m_Numbers_value (patN rfl rfl rfl rfl) (pv 0) (pa_cons (pe_op op_add (pv 1) pe_int) pa_nil)) pa_nil))))))) pss_nil)
      (pss_cons (ps_if (pt_cmp (pc_eqI (pv 2) pe_int)) (pss_one (ps_ret (pe_tup (pa_cons (pv 2) (pa_cons (pe_me F_Numbers_said hr (by omega) T.c_Numbers T.m_Numbers_said (patN rfl rfl rfl rfl) (pv 0) (pa_cons (pe_op op_add (pv 1) pe_int) pa_nil)) pa_nil))))) pss_nil)
      (pss_cons (ps_set (i := 3) sc_Numbers_said.nd rfl (by first | exact Or.inl rfl | exact Or.inr rfl) (pe_me F_Numbers_said hr (by omega) T.c_Numbers T.m_Numbers_said (patN rfl rfl rfl rfl) (pv 0) (pa_cons (pe_op op_add (pv 1) pe_int) pa_nil)))
      (pss_one (ps_ret (pe_tup (pa_cons (pv 2) (pa_cons (pv 3) (pa_cons (pe_me F_Numbers_said hr (by omega) T.c_Numbers T.m_Numbers_said (patN rfl rfl rfl rfl) (pv 0) (pa_cons (pe_op op_add (pv 1) pe_int) pa_nil)) pa_nil)))))))))))))
/-! #### Numbers_action -/
def t_Numbers_action (K : PySem.W.Frag) (E : XK) (sp_Numbers_one sp_Numbers_amount sp_Numbers_party sp_Numbers_said sp_Numbers_value sp_Numbers_kind_of_money : Sp) : TS :=
  (tSeq (tAsg (tMeth (He.ga K "Numbers") "one" sp_Numbers_one [] E (tVar 0) (tCons (tC (.int 0)) (tCons (tC (.int 2)) tNil))) (gName 1))
    (tSeq (tIfS (tB (tEqI (tVar 1) (tC (.int 0)))) (tSeq (tAsg (tMeth (He.ga K "Numbers") "party" sp_Numbers_party [] E (tVar 0) tNil) (gName 6))
    (tSeq (tAsg (tMeth (He.ga K "Numbers") "party" sp_Numbers_party [] E (tVar 0) tNil) (gName 3))
    (tSeq (tAsg (tMeth (He.ga K "Numbers") "kind_of_money" sp_Numbers_kind_of_money [] E (tVar 0) tNil) (gName 7))
    (tRet (tTup (tCons (tVar 1) (tCons (tVar 6) (tCons (tVar 3) (tCons (tVar 7) (tCons (tMeth (He.ga K "Numbers") "value" sp_Numbers_value [] E (tVar 0) (tCons (tC (.int 1)) tNil)) tNil)))))))))) tNext)
    (tSeq (tIfS (tB (tEqI (tVar 1) (tC (.int 2)))) (tRet (tTup (tCons (tVar 1) (tCons (tMeth (He.ga K "Numbers") "said" sp_Numbers_said [] E (tVar 0) (tCons (tC (.int 1)) tNil)) tNil)))) tNext)
    (tSeq (tAsg (tMeth (He.ga K "Numbers") "one" sp_Numbers_one [] E (tVar 0) (tCons (tC (.int 0)) (tCons (tOp rMinus (tC (.int 16)) (tC (.int 1))) tNil))) (gName 2))
    (tSeq (tAsg (tMeth (He.ga K "Numbers") "party" sp_Numbers_party [] E (tVar 0) tNil) (gName 3))
    (tSeq (tAsg (tLst tNil) (gName 4))
    (tSeq (tFor (iRng1 (tCons (tMeth (He.ga K "Numbers") "one" sp_Numbers_one [] E (tVar 0) (tCons (tC (.int 0)) (tCons (tC (.int 4)) tNil))) tNil)) (gName 5) (tSeq (tAsg (tMeth (He.ga K "Numbers") "amount" sp_Numbers_amount [] E (tVar 0) tNil) (gName 8))
    (tDrop (tBM K "list" rAppend (tVar 4) (tCons (tTup (tCons (tVar 8) (tCons (tMeth (He.ga K "Numbers") "amount" sp_Numbers_amount [] E (tVar 0) tNil) tNil))) tNil)))))
    (tRet (tTup (tCons (tVar 1) (tCons (tVar 2) (tCons (tVar 3) (tCons (tCB (rTupleK K) (tCons (tVar 4) tNil)) tNil)))))))))))))
abbrev N_Numbers_action : List Str := ["self", "which", "choice", "party", "pairs", "number", "account", "kind", "low"]
abbrev P_Numbers_action : List Str := ["self"]
theorem sc_Numbers_action : FnScope N_Numbers_action P_Numbers_action (defScope s_Numbers_action) := ⟨rfl, rfl, rfl, by decide +kernel, rfl, by decide +kernel, by decide +kernel⟩
theorem ok_Numbers_action {P : Program} {w : World} {K : PySem.W.Frag} {mg : Str → Option Value} {base : Heap} (T : Tx K mg) {sp_Numbers_one : Sp} {sp_Numbers_amount : Sp} {sp_Numbers_party : Sp} {sp_Numbers_said : Sp} {sp_Numbers_value : Sp} {sp_Numbers_kind_of_money : Sp} (F_Numbers_one : Fok P w K mg base (L2N.CX P w) 2 d_Numbers_one P_Numbers_one sp_Numbers_one) (F_Numbers_amount : Fok P w K mg base (L2N.CX P w) 3 d_Numbers_amount P_Numbers_amount sp_Numbers_amount) (F_Numbers_party : Fok P w K mg base (L2N.CX P w) 3 d_Numbers_party P_Numbers_party sp_Numbers_party) (F_Numbers_said : Fok P w K mg base (L2N.CX P w) 44 d_Numbers_said P_Numbers_said sp_Numbers_said) (F_Numbers_value : Fok P w K mg base (L2N.CX P w) 44 d_Numbers_value P_Numbers_value sp_Numbers_value) (F_Numbers_kind_of_money : Fok P w K mg base (L2N.CX P w) 3 d_Numbers_kind_of_money P_Numbers_kind_of_money sp_Numbers_kind_of_money) {sp : Sp} (len : ∀ vs H Q E, sp vs H Q E → vs.length = 1)
    (pure_ : ∀ vs H Q E, sp vs H Q E → t_Numbers_action K E sp_Numbers_one sp_Numbers_amount sp_Numbers_party sp_Numbers_said sp_Numbers_value sp_Numbers_kind_of_money { nx := fun _ H' => Q .non H', rt := Q } (start N_Numbers_action vs) H) : Fok P w K mg base (L2N.CX P w) 45 d_Numbers_action P_Numbers_action sp := by
  refine fok (k := 44) (d := d_Numbers_action) (N := N_Numbers_action) T.D_Numbers_action rfl sc_Numbers_action (fun _ _ _ _ _ _ us hl => match us, hl with | [_], _ => rfl) len (fun f cdv A outer s H vs Q E hr h => ⟨t_Numbers_action K E sp_Numbers_one sp_Numbers_amount sp_Numbers_party sp_Numbers_said sp_Numbers_value sp_Numbers_kind_of_money, ?_, pure_ vs H Q E h⟩)
  exact (pss_cons (ps_set (i := 1) sc_Numbers_action.nd rfl (by first | exact Or.inl rfl | exact Or.inr rfl) (pe_me F_Numbers_one hr (by decide) T.c_Numbers T.m_Numbers_one (patN rfl rfl rfl rfl) (pv 0) (pa_cons pe_int (pa_cons pe_int pa_nil))))
      (pss_cons (ps_if (pt_cmp (pc_eqI (pv 1) (pe_gi T.i_DEPOSIT))) (pss_cons (ps_set (i := 6) sc_Numbers_action.nd rfl (by first | exact Or.inl rfl | exact Or.inr rfl) (pe_me0 F_Numbers_party hr (by decide) T.c_Numbers T.m_Numbers_party (patN rfl rfl rfl rfl) (pv 0)))
      (pss_cons (ps_set (i := 3) sc_Numbers_action.nd rfl (by first | exact Or.inl rfl | exact Or.inr rfl) (pe_me0 F_Numbers_party hr (by decide) T.c_Numbers T.m_Numbers_party (patN rfl rfl rfl rfl) (pv 0)))
      (pss_cons (ps_set (i := 7) sc_Numbers_action.nd rfl (by first | exact Or.inl rfl | exact Or.inr rfl) (pe_me0 F_Numbers_kind_of_money hr (by decide) T.c_Numbers T.m_Numbers_kind_of_money (patN rfl rfl rfl rfl) (pv 0)))
      (pss_one (ps_ret (pe_tup (pa_cons (pv 1) (pa_cons (pv 6) (pa_cons (pv 3) (pa_cons (pv 7) (pa_cons (pe_me F_Numbers_value hr (by decide) T.c_Numbers T.m_Numbers_value (patN rfl rfl rfl rfl) (pv 0) (pa_cons pe_int pa_nil)) pa_nil))))))))))) pss_nil)
      (pss_cons (ps_if (pt_cmp (pc_eqI (pv 1) (pe_gi T.i_LOOK))) (pss_one (ps_ret (pe_tup (pa_cons (pv 1) (pa_cons (pe_me F_Numbers_said hr (by decide) T.c_Numbers T.m_Numbers_said (patN rfl rfl rfl rfl) (pv 0) (pa_cons pe_int pa_nil)) pa_nil))))) pss_nil)
      (pss_cons (ps_set (i := 2) sc_Numbers_action.nd rfl (by first | exact Or.inl rfl | exact Or.inr rfl) (pe_me F_Numbers_one hr (by decide) T.c_Numbers T.m_Numbers_one (patN rfl rfl rfl rfl) (pv 0) (pa_cons pe_int (pa_cons (pe_op op_sub (pe_gi T.i_CHOICES) pe_int) pa_nil))))
      (pss_cons (ps_set (i := 3) sc_Numbers_action.nd rfl (by first | exact Or.inl rfl | exact Or.inr rfl) (pe_me0 F_Numbers_party hr (by decide) T.c_Numbers T.m_Numbers_party (patN rfl rfl rfl rfl) (pv 0)))
      (pss_cons (ps_set (i := 4) sc_Numbers_action.nd rfl (by first | exact Or.inl rfl | exact Or.inr rfl) (pe_lst pa_nil))
      (pss_cons (ps_for (passes_of rfl) rfl (pi_range1 (by rfl) T.z_range (pa_cons (pe_me F_Numbers_one hr (by decide) T.c_Numbers T.m_Numbers_one (patN rfl rfl rfl rfl) (pv 0) (pa_cons pe_int (pa_cons (pe_gi T.i_MOST_PAIRS) pa_nil))) pa_nil)) (pg_name (i := 5) sc_Numbers_action.nd rfl (by first | exact Or.inl rfl | exact Or.inr rfl)) (pss_cons (ps_set (i := 8) sc_Numbers_action.nd rfl (by first | exact Or.inl rfl | exact Or.inr rfl) (pe_me0 F_Numbers_amount hr (by decide) T.c_Numbers T.m_Numbers_amount (patN rfl rfl rfl rfl) (pv 0)))
      (pss_one (ps_expr (pe_bm PySem.F.plainAttrs_list PySem.F.slot_list_append PySem.F.type_list_append mt_append (pv 4) (pa_cons (pe_tup (pa_cons (pv 8) (pa_cons (pe_me0 F_Numbers_amount hr (by decide) T.c_Numbers T.m_Numbers_amount (patN rfl rfl rfl rfl) (pv 0)) pa_nil))) pa_nil))))))
      (pss_one (ps_ret (pe_tup (pa_cons (pv 1) (pa_cons (pv 2) (pa_cons (pv 3) (pa_cons (pe_callTy call_tuple_of (by rfl) T.z_tuple (by decide +kernel) (pa_cons (pv 4) pa_nil)) pa_nil))))))))))))))
/-! #### Pact_read_parts -/
def t_Pact_read_parts (K : PySem.W.Frag) (E : XK) (sp_Numbers_value sp_Numbers_kind_of_money sp_Numbers_party sp_Numbers_one sp_Numbers_said : Sp) : TS :=
  (tIfS (tB (tEqI (tFld K (tVar 0) "which") (tC (.int 0)))) (sFld K (tVar 0) (tC (.int 0)) "count") (tIfS (tB (tEqI (tFld K (tVar 0) "which") (tC (.int 1)))) (tSeq (tAsg (tMeth (He.ga K "Numbers") "party" sp_Numbers_party [] E (tVar 1) tNil) (gName 2))
    (tSeq (tAsg (tMeth (He.ga K "Numbers") "one" sp_Numbers_one [] E (tVar 1) (tCons (tC (.int 0)) (tCons (tC (.int 1)) tNil))) (gName 3))
    (tSeq (tAsg (tMeth (He.ga K "Numbers") "party" sp_Numbers_party [] E (tVar 1) tNil) (gName 4))
    (tSeq (tAsg (tMeth (He.ga K "Numbers") "kind_of_money" sp_Numbers_kind_of_money [] E (tVar 1) tNil) (gName 5))
    (sFld K (tVar 0) (tLst (tCons (tVar 2) (tCons (tVar 3) (tCons (tVar 4) (tCons (tVar 5) (tCons (tMeth (He.ga K "Numbers") "value" sp_Numbers_value [] E (tVar 1) (tCons (tC (.int 1)) tNil)) tNil)))))) "parts"))))) (tIfS (tB (tEqI (tFld K (tVar 0) "which") (tC (.int 2)))) (tSeq (sFld K (tVar 0) (tC (.int 2)) "count")
    (sFld K (tVar 0) (tLst (tCons (tMeth (He.ga K "Numbers") "said" sp_Numbers_said [] E (tVar 1) (tCons (tC (.int 1)) tNil)) tNil)) "parts")) (tIfS (tB (tEqI (tFld K (tVar 0) "which") (tC (.int 3)))) (sFld K (tVar 0) (tOp rPlus (tMeth (He.ga K "Numbers") "one" sp_Numbers_one [] E (tVar 1) (tCons (tC (.int 0)) (tCons (tC (.int 8)) tNil))) (tC (.int 1))) "count") (tIfS (tB (tEqI (tFld K (tVar 0) "which") (tC (.int 4)))) (tSeq (tAsg (tMeth (He.ga K "Numbers") "one" sp_Numbers_one [] E (tVar 1) (tCons (tC (.int 0)) (tCons (tOp rMinus (tC (.int 16)) (tC (.int 1))) tNil))) (gName 6))
    (sFld K (tVar 0) (tLst (tCons (tVar 6) (tCons (tMeth (He.ga K "Numbers") "value" sp_Numbers_value [] E (tVar 1) (tCons (tC (.int 1)) tNil)) tNil))) "parts")) (sFld K (tVar 0) (tLst (tCons (tMeth (He.ga K "Numbers") "said" sp_Numbers_said [] E (tVar 1) (tCons (tC (.int 1)) tNil)) tNil)) "parts"))))))
abbrev N_Pact_read_parts : List Str := ["self", "numbers", "account", "way", "party", "kind", "slot"]
abbrev P_Pact_read_parts : List Str := ["self", "numbers"]
theorem sc_Pact_read_parts : FnScope N_Pact_read_parts P_Pact_read_parts (defScope s_Pact_read_parts) := ⟨rfl, rfl, rfl, by decide +kernel, rfl, by decide +kernel, by decide +kernel⟩
theorem ok_Pact_read_parts {P : Program} {w : World} {K : PySem.W.Frag} {mg : Str → Option Value} {base : Heap} (T : Tx K mg) {sp_Numbers_value : Sp} {sp_Numbers_kind_of_money : Sp} {sp_Numbers_party : Sp} {sp_Numbers_one : Sp} {sp_Numbers_said : Sp} (F_Numbers_value : Fok P w K mg base (L2N.CX P w) 44 d_Numbers_value P_Numbers_value sp_Numbers_value) (F_Numbers_kind_of_money : Fok P w K mg base (L2N.CX P w) 3 d_Numbers_kind_of_money P_Numbers_kind_of_money sp_Numbers_kind_of_money) (F_Numbers_party : Fok P w K mg base (L2N.CX P w) 3 d_Numbers_party P_Numbers_party sp_Numbers_party) (F_Numbers_one : Fok P w K mg base (L2N.CX P w) 2 d_Numbers_one P_Numbers_one sp_Numbers_one) (F_Numbers_said : Fok P w K mg base (L2N.CX P w) 44 d_Numbers_said P_Numbers_said sp_Numbers_said) {sp : Sp} (len : ∀ vs H Q E, sp vs H Q E → vs.length = 2)
    (pure_ : ∀ vs H Q E, sp vs H Q E → t_Pact_read_parts K E sp_Numbers_value sp_Numbers_kind_of_money sp_Numbers_party sp_Numbers_one sp_Numbers_said { nx := fun _ H' => Q .non H', rt := Q } (start N_Pact_read_parts vs) H) : Fok P w K mg base (L2N.CX P w) 45 d_Pact_read_parts P_Pact_read_parts sp := by
  refine fok (k := 44) (d := d_Pact_read_parts) (N := N_Pact_read_parts) T.D_Pact_read_parts rfl sc_Pact_read_parts (fun _ _ _ _ _ _ us hl => match us, hl with | [_, _], _ => rfl) len (fun f cdv A outer s H vs Q E hr h => ⟨t_Pact_read_parts K E sp_Numbers_value sp_Numbers_kind_of_money sp_Numbers_party sp_Numbers_one sp_Numbers_said, ?_, pure_ vs H Q E h⟩)
  exact (pss_one (ps_if (pt_cmp (pc_eqI (pe_fld (pv 0) rfl) (pe_gi T.i_CLOSE))) (pss_one (ps_fld (pv 0) pe_int rfl)) (pss_one (ps_if (pt_cmp (pc_eqI (pe_fld (pv 0) rfl) (pe_gi T.i_PAYMENT))) (pss_cons (ps_set (i := 2) sc_Pact_read_parts.nd rfl (by first | exact Or.inl rfl | exact Or.inr rfl) (pe_me0 F_Numbers_party hr (by decide) T.c_Numbers T.m_Numbers_party (patN rfl rfl rfl rfl) (pv 1)))
      (pss_cons (ps_set (i := 3) sc_Pact_read_parts.nd rfl (by first | exact Or.inl rfl | exact Or.inr rfl) (pe_me F_Numbers_one hr (by decide) T.c_Numbers T.m_Numbers_one (patN rfl rfl rfl rfl) (pv 1) (pa_cons pe_int (pa_cons pe_int pa_nil))))
      (pss_cons (ps_set (i := 4) sc_Pact_read_parts.nd rfl (by first | exact Or.inl rfl | exact Or.inr rfl) (pe_me0 F_Numbers_party hr (by decide) T.c_Numbers T.m_Numbers_party (patN rfl rfl rfl rfl) (pv 1)))
      (pss_cons (ps_set (i := 5) sc_Pact_read_parts.nd rfl (by first | exact Or.inl rfl | exact Or.inr rfl) (pe_me0 F_Numbers_kind_of_money hr (by decide) T.c_Numbers T.m_Numbers_kind_of_money (patN rfl rfl rfl rfl) (pv 1)))
      (pss_one (ps_fld (pv 0) (pe_lst (pa_cons (pv 2) (pa_cons (pv 3) (pa_cons (pv 4) (pa_cons (pv 5) (pa_cons (pe_me F_Numbers_value hr (by decide) T.c_Numbers T.m_Numbers_value (patN rfl rfl rfl rfl) (pv 1) (pa_cons pe_int pa_nil)) pa_nil)))))) rfl)))))) (pss_one (ps_if (pt_cmp (pc_eqI (pe_fld (pv 0) rfl) (pe_gi T.i_CONDITION))) (pss_cons (ps_fld (pv 0) pe_int rfl)
      (pss_one (ps_fld (pv 0) (pe_lst (pa_cons (pe_me F_Numbers_said hr (by decide) T.c_Numbers T.m_Numbers_said (patN rfl rfl rfl rfl) (pv 1) (pa_cons pe_int pa_nil)) pa_nil)) rfl))) (pss_one (ps_if (pt_cmp (pc_eqI (pe_fld (pv 0) rfl) (pe_gi T.i_WAIT))) (pss_one (ps_fld (pv 0) (pe_op op_add (pe_me F_Numbers_one hr (by decide) T.c_Numbers T.m_Numbers_one (patN rfl rfl rfl rfl) (pv 1) (pa_cons pe_int (pa_cons (pe_gi T.i_MOST_CASES) pa_nil))) pe_int) rfl)) (pss_one (ps_if (pt_cmp (pc_eqI (pe_fld (pv 0) rfl) (pe_gi T.i_LET))) (pss_cons (ps_set (i := 6) sc_Pact_read_parts.nd rfl (by first | exact Or.inl rfl | exact Or.inr rfl) (pe_me F_Numbers_one hr (by decide) T.c_Numbers T.m_Numbers_one (patN rfl rfl rfl rfl) (pv 1) (pa_cons pe_int (pa_cons (pe_op op_sub (pe_gi T.i_SLOTS) pe_int) pa_nil))))
      (pss_one (ps_fld (pv 0) (pe_lst (pa_cons (pv 6) (pa_cons (pe_me F_Numbers_value hr (by decide) T.c_Numbers T.m_Numbers_value (patN rfl rfl rfl rfl) (pv 1) (pa_cons pe_int pa_nil)) pa_nil))) rfl))) (pss_one (ps_fld (pv 0) (pe_lst (pa_cons (pe_me F_Numbers_said hr (by decide) T.c_Numbers T.m_Numbers_said (patN rfl rfl rfl rfl) (pv 1) (pa_cons pe_int pa_nil)) pa_nil)) rfl))))))))))))
/-! #### Pact_init -/
def t_Pact_init (K : PySem.W.Frag) (E : XK) (sp_Pact_read_parts sp_Numbers_one : Sp) : TS :=
  (tSeq (tIfS (tB (tGt (tVar 2) (tC (.int 400)))) (fun _ _ H => E (XN K) none H) tNext)
    (tSeq (sFld K (tVar 0) (tVar 2) "depth")
    (tSeq (sFld K (tVar 0) (tFld K (tVar 1) "place") "start")
    (tSeq (sFld K (tVar 0) (tC (.int 0)) "end")
    (tSeq (sFld K (tVar 0) (tMeth (He.ga K "Numbers") "one" sp_Numbers_one [] E (tVar 1) (tCons (tC (.int 0)) (tCons (tC (.int 5)) tNil))) "which")
    (tSeq (sFld K (tVar 0) (tLst tNil) "parts")
    (tSeq (sFld K (tVar 0) (tLst tNil) "actions")
    (tSeq (sFld K (tVar 0) (tC (.int 0)) "time")
    (tSeq (sFld K (tVar 0) (tLst tNil) "inner")
    (tSeq (sFld K (tVar 0) (tC (.int 1)) "count")
    (tSeq (sFld K (tVar 0) (tC (.int 0)) "last_time")
    (tSeq (sFld K (tVar 0) (tC (.int 0)) "inputs")
    (tDrop (tMeth (He.ga K "Pact") "read_parts" sp_Pact_read_parts [] E (tVar 0) (tCons (tVar 1) tNil)))))))))))))))
abbrev N_Pact_init : List Str := ["self", "numbers", "depth"]
abbrev P_Pact_init : List Str := ["self", "numbers", "depth"]
theorem sc_Pact_init : FnScope N_Pact_init P_Pact_init (defScope s_Pact_init) := ⟨rfl, rfl, rfl, by decide +kernel, rfl, by decide +kernel, by decide +kernel⟩
theorem ok_Pact_init {P : Program} {w : World} {K : PySem.W.Frag} {mg : Str → Option Value} {base : Heap} (T : Tx K mg) {sp_Pact_read_parts : Sp} {sp_Numbers_one : Sp} (F_Pact_read_parts : Fok P w K mg base (L2N.CX P w) 45 d_Pact_read_parts P_Pact_read_parts sp_Pact_read_parts) (F_Numbers_one : Fok P w K mg base (L2N.CX P w) 2 d_Numbers_one P_Numbers_one sp_Numbers_one) {sp : Sp} (len : ∀ vs H Q E, sp vs H Q E → vs.length = 3)
    (pure_ : ∀ vs H Q E, sp vs H Q E → t_Pact_init K E sp_Pact_read_parts sp_Numbers_one { nx := fun _ H' => Q .non H', rt := Q } (start N_Pact_init vs) H) : Fok P w K mg base (L2N.CX P w) 46 d_Pact_init P_Pact_init sp := by
  refine fok (k := 45) (d := d_Pact_init) (N := N_Pact_init) T.D_Pact_init rfl sc_Pact_init (fun _ _ _ _ _ _ us hl => match us, hl with | [_, _, _], _ => rfl) len (fun f cdv A outer s H vs Q E hr h => ⟨t_Pact_init K E sp_Pact_read_parts sp_Numbers_one, ?_, pure_ vs H Q E h⟩)
  exact (pss_cons (ps_if (pt_cmp (pc_gt (pv 2) (pe_gi T.i_DEEPEST_PACT))) (pss_one (ps_not rfl T (tkN rfl rfl rfl rfl))) pss_nil)
      (pss_cons (ps_fld (pv 0) (pv 2) rfl)
      (pss_cons (ps_fld (pv 0) (pe_fld (pv 1) rfl) rfl)
      (pss_cons (ps_fld (pv 0) pe_int rfl)
      (pss_cons (ps_fld (pv 0) (pe_me F_Numbers_one hr (by decide) T.c_Numbers T.m_Numbers_one (patN rfl rfl rfl rfl) (pv 1) (pa_cons (pe_gi T.i_CLOSE) (pa_cons (pe_gi T.i_SAID) pa_nil))) rfl)
      (pss_cons (ps_fld (pv 0) (pe_lst pa_nil) rfl)
      (pss_cons (ps_fld (pv 0) (pe_lst pa_nil) rfl)
      (pss_cons (ps_fld (pv 0) pe_int rfl)
      (pss_cons (ps_fld (pv 0) (pe_lst pa_nil) rfl)
      (pss_cons (ps_fld (pv 0) pe_int rfl)
      (pss_cons (ps_fld (pv 0) pe_int rfl)
      (pss_cons (ps_fld (pv 0) pe_int rfl)
      (pss_one (ps_expr (pe_me F_Pact_read_parts hr (by decide) T.c_Pact T.m_Pact_read_parts (patN rfl rfl rfl rfl) (pv 0) (pa_cons (pv 1) pa_nil))))))))))))))))
/-! #### Pact_is_complete -/
def t_Pact_is_complete (K : PySem.W.Frag) (E : XK) : TS :=
  (tRet (tEqI (tCB (rLenK K) (tCons (tFld K (tVar 0) "inner") tNil)) (tFld K (tVar 0) "count")))
abbrev N_Pact_is_complete : List Str := ["self"]
abbrev P_Pact_is_complete : List Str := ["self"]
theorem sc_Pact_is_complete : FnScope N_Pact_is_complete P_Pact_is_complete (defScope s_Pact_is_complete) := ⟨rfl, rfl, rfl, by decide +kernel, rfl, by decide +kernel, by decide +kernel⟩
theorem ok_Pact_is_complete {P : Program} {w : World} {K : PySem.W.Frag} {mg : Str → Option Value} {base : Heap} (T : Tx K mg)   {sp : Sp} (len : ∀ vs H Q E, sp vs H Q E → vs.length = 1)
    (pure_ : ∀ vs H Q E, sp vs H Q E → t_Pact_is_complete K E { nx := fun _ H' => Q .non H', rt := Q } (start N_Pact_is_complete vs) H) : Fok P w K mg base CX0 1 d_Pact_is_complete P_Pact_is_complete sp := by
  refine fok (k := 0) (d := d_Pact_is_complete) (N := N_Pact_is_complete) T.D_Pact_is_complete rfl sc_Pact_is_complete (fun _ _ _ _ _ _ us hl => match us, hl with | [_], _ => rfl) len (fun f cdv A outer s H vs Q E hr h => ⟨t_Pact_is_complete K E, PSs.nox ?_, pure_ vs H Q E h⟩)
  exact (pss_one (ps_ret (pe_cmp (pc_eqI (pe_callB call_len_seq (by rfl) T.z_len boot_len (pa_cons (pe_fld (pv 0) rfl) pa_nil)) (pe_fld (pv 0) rfl)))))
/-! #### Pact_next_inner -/
def t_Pact_next_inner (K : PySem.W.Frag) (E : XK) (sp_Pact_init sp_Numbers_action sp_Numbers_one : Sp) : TS :=
  (tSeq (tAsg (tOp rPlus (tFld K (tVar 0) "depth") (tC (.int 1))) (gName 2))
    (tSeq (tIfS (tB (tEqI (tFld K (tVar 0) "which") (tC (.int 3)))) (tSeq (tAsg (tCB (rLenK K) (tCons (tFld K (tVar 0) "inner") tNil)) (gName 4))
    (tIfS (tB (tLt (tVar 4) (tOp rMinus (tFld K (tVar 0) "count") (tC (.int 1))))) (tSeq (tDrop (tBM K "list" rAppend (tFld K (tVar 0) "actions") (tCons (tMeth (He.ga K "Numbers") "action" sp_Numbers_action [] E (tVar 1) tNil) tNil)))
    (tAsg (tOp rPlus (tOp rPlus (tFld K (tVar 0) "depth") (tVar 4)) (tC (.int 2))) (gName 2))) (sFld K (tVar 0) (tMeth (He.ga K "Numbers") "one" sp_Numbers_one [] E (tVar 1) (tCons (tC (.int 0)) (tCons (tC (.int 1099511627776)) tNil))) "time"))) tNext)
    (tSeq (tAsg (tMake (He.ga K "Pact") sp_Pact_init [] E (tCons (tVar 1) (tCons (tVar 2) tNil))) (gName 3))
    (tSeq (tDrop (tBM K "list" rAppend (tFld K (tVar 0) "inner") (tCons (tVar 3) tNil)))
    (tRet (tVar 3))))))
abbrev N_Pact_next_inner : List Str := ["self", "numbers", "depth", "found", "place"]
abbrev P_Pact_next_inner : List Str := ["self", "numbers"]
theorem sc_Pact_next_inner : FnScope N_Pact_next_inner P_Pact_next_inner (defScope s_Pact_next_inner) := ⟨rfl, rfl, rfl, by decide +kernel, rfl, by decide +kernel, by decide +kernel⟩
theorem ok_Pact_next_inner {P : Program} {w : World} {K : PySem.W.Frag} {mg : Str → Option Value} {base : Heap} (T : Tx K mg) {sp_Pact_init : Sp} {sp_Numbers_action : Sp} {sp_Numbers_one : Sp} (F_Pact_init : Fok P w K mg base (L2N.CX P w) 46 d_Pact_init P_Pact_init sp_Pact_init) (F_Numbers_action : Fok P w K mg base (L2N.CX P w) 45 d_Numbers_action P_Numbers_action sp_Numbers_action) (F_Numbers_one : Fok P w K mg base (L2N.CX P w) 2 d_Numbers_one P_Numbers_one sp_Numbers_one) {sp : Sp} (len : ∀ vs H Q E, sp vs H Q E → vs.length = 2)
    (pure_ : ∀ vs H Q E, sp vs H Q E → t_Pact_next_inner K E sp_Pact_init sp_Numbers_action sp_Numbers_one { nx := fun _ H' => Q .non H', rt := Q } (start N_Pact_next_inner vs) H) : Fok P w K mg base (L2N.CX P w) 48 d_Pact_next_inner P_Pact_next_inner sp := by
  refine fok (k := 47) (d := d_Pact_next_inner) (N := N_Pact_next_inner) T.D_Pact_next_inner rfl sc_Pact_next_inner (fun _ _ _ _ _ _ us hl => match us, hl with | [_, _], _ => rfl) len (fun f cdv A outer s H vs Q E hr h => ⟨t_Pact_next_inner K E sp_Pact_init sp_Numbers_action sp_Numbers_one, ?_, pure_ vs H Q E h⟩)
  exact (pss_cons (ps_set (i := 2) sc_Pact_next_inner.nd rfl (by first | exact Or.inl rfl | exact Or.inr rfl) (pe_op op_add (pe_fld (pv 0) rfl) pe_int))
      (pss_cons (ps_if (pt_cmp (pc_eqI (pe_fld (pv 0) rfl) (pe_gi T.i_WAIT))) (pss_cons (ps_set (i := 4) sc_Pact_next_inner.nd rfl (by first | exact Or.inl rfl | exact Or.inr rfl) (pe_callB call_len_seq (by rfl) T.z_len boot_len (pa_cons (pe_fld (pv 0) rfl) pa_nil)))
      (pss_one (ps_if (pt_cmp (pc_lt (pv 4) (pe_op op_sub (pe_fld (pv 0) rfl) pe_int))) (pss_cons (ps_expr (pe_bm PySem.F.plainAttrs_list PySem.F.slot_list_append PySem.F.type_list_append mt_append (pe_fld (pv 0) rfl) (pa_cons (pe_me0 F_Numbers_action hr (by decide) T.c_Numbers T.m_Numbers_action (patN rfl rfl rfl rfl) (pv 1)) pa_nil)))
      (pss_one (ps_set (i := 2) sc_Pact_next_inner.nd rfl (by first | exact Or.inl rfl | exact Or.inr rfl) (pe_op op_add (pe_op op_add (pe_fld (pv 0) rfl) (pv 4)) pe_int)))) (pss_one (ps_fld (pv 0) (pe_me F_Numbers_one hr (by decide) T.c_Numbers T.m_Numbers_one (patN rfl rfl rfl rfl) (pv 1) (pa_cons pe_int (pa_cons (pe_gi T.i_LAST_TIME) pa_nil))) rfl))))) pss_nil)
      (pss_cons (ps_set (i := 3) sc_Pact_next_inner.nd rfl (by first | exact Or.inl rfl | exact Or.inr rfl) (pe_mk T.k_Pact F_Pact_init rfl hr (by decide) T.g_Pact (patN rfl rfl rfl rfl) (pa_cons (pv 1) (pa_cons (pv 2) pa_nil))))
      (pss_cons (ps_expr (pe_bm PySem.F.plainAttrs_list PySem.F.slot_list_append PySem.F.type_list_append mt_append (pe_fld (pv 0) rfl) (pa_cons (pv 3) pa_nil)))
      (pss_one (ps_ret (pv 3)))))))
/-! #### Pact_complete -/
def t_Pact_complete (K : PySem.W.Frag) (E : XK) : TS :=
  (tSeq (sFld K (tVar 0) (tVar 1) "end")
    (tSeq (sFld K (tVar 0) (tCB (rMax K) (tCons (tOp rCat (tLst (tCons (tFld K (tVar 0) "time") tNil)) (tLc (iList K (tFld K (tVar 0) "inner")) (gName 3) tYes (tFld K (tVar 3) "last_time") [3])) tNil)) "last_time")
    (tSeq (tAsg (tLc (iList K (tFld K (tVar 0) "inner")) (gName 3) tYes (tFld K (tVar 3) "inputs") [3]) (gName 2))
    (tSeq (tIfS (tB (tEqI (tFld K (tVar 0) "which") (tC (.int 3)))) (tAsg (tOp rCat (tLc (iList K (tSl (rSlL K) (tVar 2) tNoPart (tPart (tUn rNeg (tC (.int 1)))))) (gName 4) tYes (tOp rPlus (tVar 4) (tC (.int 1))) [4]) (tSl (rSlL K) (tVar 2) (tPart (tUn rNeg (tC (.int 1)))) tNoPart)) (gName 2)) tNext)
    (sFld K (tVar 0) (tCB (rMax K) (tCons (tOp rCat (tLst (tCons (tC (.int 0)) tNil)) (tVar 2)) tNil)) "inputs")))))
abbrev N_Pact_complete : List Str := ["self", "place", "steps", "one", "count"]
abbrev P_Pact_complete : List Str := ["self", "place"]
theorem sc_Pact_complete : FnScope N_Pact_complete P_Pact_complete (defScope s_Pact_complete) := ⟨rfl, rfl, rfl, by decide +kernel, rfl, by decide +kernel, by decide +kernel⟩
theorem ok_Pact_complete {P : Program} {w : World} {K : PySem.W.Frag} {mg : Str → Option Value} {base : Heap} (T : Tx K mg)   {sp : Sp} (len : ∀ vs H Q E, sp vs H Q E → vs.length = 2)
    (pure_ : ∀ vs H Q E, sp vs H Q E → t_Pact_complete K E { nx := fun _ H' => Q .non H', rt := Q } (start N_Pact_complete vs) H) : Fok P w K mg base CX0 1 d_Pact_complete P_Pact_complete sp := by
  refine fok (k := 0) (d := d_Pact_complete) (N := N_Pact_complete) T.D_Pact_complete rfl sc_Pact_complete (fun _ _ _ _ _ _ us hl => match us, hl with | [_, _], _ => rfl) len (fun f cdv A outer s H vs Q E hr h => ⟨t_Pact_complete K E, PSs.nox ?_, pure_ vs H Q E h⟩)
  exact (pss_cons (ps_fld (pv 0) (pv 1) rfl)
      (pss_cons (ps_fld (pv 0) (pe_callB (cr_max rfl) (by rfl) T.z_max (by decide +kernel) (pa_cons (pe_op op_cat (pe_lst (pa_cons (pe_fld (pv 0) rfl) pa_nil)) (pe_lc (own := [("one", 3)]) (g := (gName 3)) (tt := tYes) rfl sc_Pact_complete.nd (pi_list (pe_fld (pv 0) rfl)) (blkOk_by (by kernel_rfl)) (fun _ _ _ _ _ => (pg_name (i := 3) sc_Pact_complete.nd rfl (by first | exact Or.inl rfl | exact Or.inr rfl))) (fun _ _ _ _ _ => pts_nil) (fun _ _ _ _ _ => (pe_fld (pv 3) rfl)))) pa_nil)) rfl)
      (pss_cons (ps_setLc (i := 2) (own := [("one", 3)]) (g := (gName 3)) (tt := tYes) rfl sc_Pact_complete.nd rfl rfl (sw_true rfl rfl rfl (by decide +kernel)) (pi_list (pe_fld (pv 0) rfl)) (blkOk_by (by kernel_rfl)) (fun _ _ _ _ _ => (pg_name (i := 3) sc_Pact_complete.nd rfl (by first | exact Or.inl rfl | exact Or.inr rfl))) (fun _ _ _ _ _ => pts_nil) (fun _ _ _ _ _ => (pe_fld (pv 3) rfl)))
      (pss_cons (ps_if (pt_cmp (pc_eqI (pe_fld (pv 0) rfl) (pe_gi T.i_WAIT))) (pss_one (ps_set (i := 2) sc_Pact_complete.nd rfl (by first | exact Or.inl rfl | exact Or.inr rfl) (pe_op op_cat (pe_lc (own := [("count", 4)]) (g := (gName 4)) (tt := tYes) rfl sc_Pact_complete.nd (pi_list (pe_slice sl_list (pv 2) po_none (po_some (pe_un un_neg pe_int)))) (blkOk_by (by kernel_rfl)) (fun _ _ _ _ _ => (pg_name (i := 4) sc_Pact_complete.nd rfl (by first | exact Or.inl rfl | exact Or.inr rfl))) (fun _ _ _ _ _ => pts_nil) (fun _ _ _ _ _ => (pe_op op_add (pv 4) pe_int))) (pe_slice sl_list (pv 2) (po_some (pe_un un_neg pe_int)) po_none)))) pss_nil)
      (pss_one (ps_fld (pv 0) (pe_callB (cr_max rfl) (by rfl) T.z_max (by decide +kernel) (pa_cons (pe_op op_cat (pe_lst (pa_cons pe_int pa_nil)) (pv 2)) pa_nil)) rfl))))))
/-! #### pact_of -/
def t_pact_of (K : PySem.W.Frag) (E : XK) (sp_Numbers_has_ended sp_Pact_is_complete sp_Pact_complete sp_Pact_next_inner sp_Pact_init sp_Numbers_init : Sp) : TS :=
  (tSeq (tIfS (tB (tGt (tCB (rLenK K) (tCons (tVar 0) tNil)) (tC (.int 8000)))) (fun _ _ H => E (XN K) none H) tNext)
    (tSeq (tAsg (tMake (He.ga K "Numbers") sp_Numbers_init [] E0 (tCons (tVar 0) tNil)) (gName 1))
    (tSeq (tAsg (tMake (He.ga K "Pact") sp_Pact_init [] E (tCons (tVar 1) (tCons (tC (.int 1)) tNil))) (gName 2))
    (tSeq (tAsg (tLst (tCons (tVar 2) tNil)) (gName 3))
    (tSeq (tWhile (tTest (tOp rNeNil (tVar 3) (tLst tNil))) (tSeq (tAsg (tOp (rIxL K) (tVar 3) (tUn rNeg (tC (.int 1)))) (gName 4))
    (tIfS (tB (tMeth (He.ga K "Pact") "is_complete" sp_Pact_is_complete [] E0 (tVar 4) tNil)) (tSeq (tDrop (tMeth (He.ga K "Pact") "complete" sp_Pact_complete [] E0 (tVar 4) (tCons (tFld K (tVar 1) "place") tNil)))
    (tDrop (tBM0 K "list" rPop (tVar 3)))) (tDrop (tBM K "list" rAppend (tVar 3) (tCons (tMeth (He.ga K "Pact") "next_inner" sp_Pact_next_inner [] E (tVar 4) (tCons (tVar 1) tNil)) tNil))))))
    (tSeq (tIfS (tNot (tB (tMeth (He.ga K "Numbers") "has_ended" sp_Numbers_has_ended [] E0 (tVar 1) tNil))) (fun _ _ H => E (XN K) none H) tNext)
    (tRet (tVar 2))))))))
abbrev N_pact_of : List Str := ["row", "numbers", "first", "waiting", "pact"]
abbrev P_pact_of : List Str := ["row"]
theorem sc_pact_of : FnScope N_pact_of P_pact_of (defScope s_pact_of) := ⟨rfl, rfl, rfl, by decide +kernel, rfl, by decide +kernel, by decide +kernel⟩
theorem ok_pact_of {P : Program} {w : World} {K : PySem.W.Frag} {mg : Str → Option Value} {base : Heap} (T : Tx K mg) {sp_Numbers_has_ended : Sp} {sp_Pact_is_complete : Sp} {sp_Pact_complete : Sp} {sp_Pact_next_inner : Sp} {sp_Pact_init : Sp} {sp_Numbers_init : Sp} (F_Numbers_has_ended : Fok P w K mg base CX0 1 d_Numbers_has_ended P_Numbers_has_ended sp_Numbers_has_ended) (F_Pact_is_complete : Fok P w K mg base CX0 1 d_Pact_is_complete P_Pact_is_complete sp_Pact_is_complete) (F_Pact_complete : Fok P w K mg base CX0 1 d_Pact_complete P_Pact_complete sp_Pact_complete) (F_Pact_next_inner : Fok P w K mg base (L2N.CX P w) 48 d_Pact_next_inner P_Pact_next_inner sp_Pact_next_inner) (F_Pact_init : Fok P w K mg base (L2N.CX P w) 46 d_Pact_init P_Pact_init sp_Pact_init) (F_Numbers_init : Fok P w K mg base CX0 1 d_Numbers_init P_Numbers_init sp_Numbers_init) {sp : Sp} (len : ∀ vs H Q E, sp vs H Q E → vs.length = 1)
    (pure_ : ∀ vs H Q E, sp vs H Q E → t_pact_of K E sp_Numbers_has_ended sp_Pact_is_complete sp_Pact_complete sp_Pact_next_inner sp_Pact_init sp_Numbers_init { nx := fun _ H' => Q .non H', rt := Q } (start N_pact_of vs) H) : Fok P w K mg base (L2N.CX P w) 49 d_pact_of P_pact_of sp := by
  refine fok (k := 48) (d := d_pact_of) (N := N_pact_of) T.D_pact_of rfl sc_pact_of (fun _ _ _ _ _ _ us hl => match us, hl with | [_], _ => rfl) len (fun f cdv A outer s H vs Q E hr h => ⟨t_pact_of K E sp_Numbers_has_ended sp_Pact_is_complete sp_Pact_complete sp_Pact_next_inner sp_Pact_init sp_Numbers_init, ?_, pure_ vs H Q E h⟩)
  exact (pss_cons (ps_if (pt_cmp (pc_gt (pe_callB call_len_seq (by rfl) T.z_len boot_len (pa_cons (pv 0) pa_nil)) (pe_gi T.i_MOST_NUMBERS))) (pss_one (ps_not rfl T (tkN rfl rfl rfl rfl))) pss_nil)
      (pss_cons (ps_set (i := 1) sc_pact_of.nd rfl (by first | exact Or.inl rfl | exact Or.inr rfl) (pe_mk T.k_Numbers F_Numbers_init rfl hr (by decide) T.g_Numbers pat0 (pa_cons (pv 0) pa_nil)))
      (pss_cons (ps_set (i := 2) sc_pact_of.nd rfl (by first | exact Or.inl rfl | exact Or.inr rfl) (pe_mk T.k_Pact F_Pact_init rfl hr (by decide) T.g_Pact (patN rfl rfl rfl rfl) (pa_cons (pv 1) (pa_cons pe_int pa_nil))))
      (pss_cons (ps_set (i := 3) sc_pact_of.nd rfl (by first | exact Or.inl rfl | exact Or.inr rfl) (pe_lst (pa_cons (pv 2) pa_nil)))
      (pss_cons (ps_while (passes_of rfl) (pt_cmpR (op_neNil hr.units0) (pv 3) (pe_lst pa_nil) (nomark _)) (pss_cons (ps_set (i := 4) sc_pact_of.nd rfl (by first | exact Or.inl rfl | exact Or.inr rfl) (pe_ix ix_list (pv 3) (pe_un un_neg pe_int) (fun _ _ => rfl)))
      (pss_one (ps_if (pt_val (pe_me0 F_Pact_is_complete hr (by decide) T.c_Pact T.m_Pact_is_complete pat0 (pv 4))) (pss_cons (ps_expr (pe_me F_Pact_complete hr (by decide) T.c_Pact T.m_Pact_complete pat0 (pv 4) (pa_cons (pe_fld (pv 1) rfl) pa_nil)))
      (pss_one (ps_expr (pe_bm0 PySem.F.plainAttrs_list PySem.F.slot_list_pop PySem.F.type_list_pop mt_pop (pv 3))))) (pss_one (ps_expr (pe_bm PySem.F.plainAttrs_list PySem.F.slot_list_append PySem.F.type_list_append mt_append (pv 3) (pa_cons (pe_me F_Pact_next_inner hr (by decide) T.c_Pact T.m_Pact_next_inner (patN rfl rfl rfl rfl) (pv 4) (pa_cons (pv 1) pa_nil)) pa_nil))))))))
      (pss_cons (ps_if (pt_not (pt_val (pe_me0 F_Numbers_has_ended hr (by decide) T.c_Numbers T.m_Numbers_has_ended pat0 (pv 1)))) (pss_one (ps_not rfl T (tkN rfl rfl rfl rfl))) pss_nil)
      (pss_one (ps_ret (pv 2)))))))))
/-! #### cut -/
def t_cut (K : PySem.W.Frag) (E : XK) : TS :=
  (tRet (tCB rMaxK (tCons (tUn rNeg (tC (.int 1000000000000000))) (tCons (tCB rMinK (tCons (tC (.int 1000000000000000)) (tCons (tVar 0) tNil))) tNil))))
abbrev N_cut : List Str := ["number"]
abbrev P_cut : List Str := ["number"]
theorem sc_cut : FnScope N_cut P_cut (defScope s_cut) := ⟨rfl, rfl, rfl, by decide +kernel, rfl, by decide +kernel, by decide +kernel⟩
theorem ok_cut {P : Program} {w : World} {K : PySem.W.Frag} {mg : Str → Option Value} {base : Heap} (T : Tx K mg)   {sp : Sp} (len : ∀ vs H Q E, sp vs H Q E → vs.length = 1)
    (pure_ : ∀ vs H Q E, sp vs H Q E → t_cut K E { nx := fun _ H' => Q .non H', rt := Q } (start N_cut vs) H) : Fok P w K mg base CX0 1 d_cut P_cut sp := by
  refine fok (k := 0) (d := d_cut) (N := N_cut) T.D_cut rfl sc_cut (fun _ _ _ _ _ _ us hl => match us, hl with | [_], _ => rfl) len (fun f cdv A outer s H vs Q E hr h => ⟨t_cut K E, PSs.nox ?_, pure_ vs H Q E h⟩)
  exact (pss_one (ps_ret (pe_callB (call_max2 rfl) (by rfl) T.z_max (by decide +kernel) (pa_cons (pe_un un_neg (pe_gi T.i_LARGEST)) (pa_cons (pe_callB (call_min2 rfl) (by rfl) T.z_min (by decide +kernel) (pa_cons (pe_gi T.i_LARGEST) (pa_cons (pv 0) pa_nil))) pa_nil)))))
/-! #### quotient_of -/
def t_quotient_of (K : PySem.W.Frag) (E : XK) : TS :=
  (tSeq (tIfS (tB (tEqI (tVar 1) (tC (.int 0)))) (tRet (tC (.int 0))) tNext)
    (tSeq (tAsg (tOp rOver (tCB rAbsK (tCons (tVar 0) tNil)) (tCB rAbsK (tCons (tVar 1) tNil))) (gName 2))
    (tRet (tIf (tTest (tOp rEq (tLt (tVar 0) (tC (.int 0))) (tLt (tVar 1) (tC (.int 0))))) (tVar 2) (tUn rNeg (tVar 2))))))
abbrev N_quotient_of : List Str := ["first", "second", "found"]
abbrev P_quotient_of : List Str := ["first", "second"]
theorem sc_quotient_of : FnScope N_quotient_of P_quotient_of (defScope s_quotient_of) := ⟨rfl, rfl, rfl, by decide +kernel, rfl, by decide +kernel, by decide +kernel⟩
theorem ok_quotient_of {P : Program} {w : World} {K : PySem.W.Frag} {mg : Str → Option Value} {base : Heap} (T : Tx K mg)   {sp : Sp} (len : ∀ vs H Q E, sp vs H Q E → vs.length = 2)
    (pure_ : ∀ vs H Q E, sp vs H Q E → t_quotient_of K E { nx := fun _ H' => Q .non H', rt := Q } (start N_quotient_of vs) H) : Fok P w K mg base CX0 1 d_quotient_of P_quotient_of sp := by
  refine fok (k := 0) (d := d_quotient_of) (N := N_quotient_of) T.D_quotient_of rfl sc_quotient_of (fun _ _ _ _ _ _ us hl => match us, hl with | [_, _], _ => rfl) len (fun f cdv A outer s H vs Q E hr h => ⟨t_quotient_of K E, PSs.nox ?_, pure_ vs H Q E h⟩)
  exact (pss_cons (ps_if (pt_cmp (pc_eqI (pv 1) pe_int)) (pss_one (ps_ret pe_int)) pss_nil)
      (pss_cons (ps_set (i := 2) sc_quotient_of.nd rfl (by first | exact Or.inl rfl | exact Or.inr rfl) (pe_op op_fdivW (pe_callB call_abs (by rfl) T.z_abs (by decide +kernel) (pa_cons (pv 0) pa_nil)) (pe_callB call_abs (by rfl) T.z_abs (by decide +kernel) (pa_cons (pv 1) pa_nil))))
      (pss_one (ps_ret (pe_ifExp (pt_cmpR op_eq (pe_cmp (pc_lt (pv 0) pe_int)) (pe_cmp (pc_lt (pv 1) pe_int)) (nomark _)) (pv 2) (pe_un un_neg (pv 2)))))))
/-! #### State_init -/
def t_State_init (K : PySem.W.Frag) (E : XK) : TS :=
  (tSeq (sFld K (tVar 0) (tVar 1) "pact")
    (tSeq (sFld K (tVar 0) (tVar 2) "time")
    (tSeq (sFld K (tVar 0) (tLc (iRng1 (tCons (tC (.int 8)) tNil)) (gName 3) tYes (tLc (iRng1 (tCons (tC (.int 4)) tNil)) (gName 6) tYes (tC (.int 0)) [6]) [3]) "accounts")
    (tSeq (sFld K (tVar 0) (tLc (iRng1 (tCons (tC (.int 16)) tNil)) (gName 4) tYes (tC .non) [4]) "choices")
    (tSeq (sFld K (tVar 0) (tLc (iRng1 (tCons (tC (.int 16)) tNil)) (gName 5) tYes (tC .non) [5]) "slots")
    (tSeq (sFld K (tVar 0) (tLc (iRng1 (tCons (tC (.int 4)) tNil)) (gName 6) tYes (tC (.int 0)) [6]) "paid_in")
    (sFld K (tVar 0) (tLc (iRng1 (tCons (tC (.int 4)) tNil)) (gName 6) tYes (tC (.int 0)) [6]) "paid_out")))))))
abbrev N_State_init : List Str := ["self", "pact", "time", "party", "choice", "slot", "kind"]
abbrev P_State_init : List Str := ["self", "pact", "time"]
theorem sc_State_init : FnScope N_State_init P_State_init (defScope s_State_init) := ⟨rfl, rfl, rfl, by decide +kernel, rfl, by decide +kernel, by decide +kernel⟩
theorem ok_State_init {P : Program} {w : World} {K : PySem.W.Frag} {mg : Str → Option Value} {base : Heap} (T : Tx K mg)   {sp : Sp} (len : ∀ vs H Q E, sp vs H Q E → vs.length = 3)
    (pure_ : ∀ vs H Q E, sp vs H Q E → t_State_init K E { nx := fun _ H' => Q .non H', rt := Q } (start N_State_init vs) H) : Fok P w K mg base CX0 1 d_State_init P_State_init sp := by
  refine fok (k := 0) (d := d_State_init) (N := N_State_init) T.D_State_init rfl sc_State_init (fun _ _ _ _ _ _ us hl => match us, hl with | [_, _, _], _ => rfl) len (fun f cdv A outer s H vs Q E hr h => ⟨t_State_init K E, PSs.nox ?_, pure_ vs H Q E h⟩)
  exact (pss_cons (ps_fld (pv 0) (pv 1) rfl)
      (pss_cons (ps_fld (pv 0) (pv 2) rfl)
      (pss_cons (ps_fld (pv 0) (pe_lc (own := [("party", 3)]) (g := (gName 3)) (tt := tYes) rfl sc_State_init.nd (pi_range1 (by rfl) T.z_range (pa_cons (pe_gi T.i_PARTIES) pa_nil)) (blkOk_by (by kernel_rfl)) (fun _ _ _ _ _ => (pg_name (i := 3) sc_State_init.nd rfl (by first | exact Or.inl rfl | exact Or.inr rfl))) (fun _ _ _ _ _ => pts_nil) (fun _ _ _ _ _ => (pe_lc (own := [("kind", 6)]) (g := (gName 6)) (tt := tYes) rfl sc_State_init.nd (pi_range1 (by rfl) T.z_range (pa_cons (pe_gi T.i_KINDS) pa_nil)) (blkOk_by (by kernel_rfl)) (fun _ _ _ _ _ => (pg_name (i := 6) sc_State_init.nd rfl (by first | exact Or.inl rfl | exact Or.inr rfl))) (fun _ _ _ _ _ => pts_nil) (fun _ _ _ _ _ => pe_int)))) rfl)
      (pss_cons (ps_fld (pv 0) (pe_lc (own := [("choice", 4)]) (g := (gName 4)) (tt := tYes) rfl sc_State_init.nd (pi_range1 (by rfl) T.z_range (pa_cons (pe_gi T.i_CHOICES) pa_nil)) (blkOk_by (by kernel_rfl)) (fun _ _ _ _ _ => (pg_name (i := 4) sc_State_init.nd rfl (by first | exact Or.inl rfl | exact Or.inr rfl))) (fun _ _ _ _ _ => pts_nil) (fun _ _ _ _ _ => pe_non)) rfl)
      (pss_cons (ps_fld (pv 0) (pe_lc (own := [("slot", 5)]) (g := (gName 5)) (tt := tYes) rfl sc_State_init.nd (pi_range1 (by rfl) T.z_range (pa_cons (pe_gi T.i_SLOTS) pa_nil)) (blkOk_by (by kernel_rfl)) (fun _ _ _ _ _ => (pg_name (i := 5) sc_State_init.nd rfl (by first | exact Or.inl rfl | exact Or.inr rfl))) (fun _ _ _ _ _ => pts_nil) (fun _ _ _ _ _ => pe_non)) rfl)
      (pss_cons (ps_fld (pv 0) (pe_lc (own := [("kind", 6)]) (g := (gName 6)) (tt := tYes) rfl sc_State_init.nd (pi_range1 (by rfl) T.z_range (pa_cons (pe_gi T.i_KINDS) pa_nil)) (blkOk_by (by kernel_rfl)) (fun _ _ _ _ _ => (pg_name (i := 6) sc_State_init.nd rfl (by first | exact Or.inl rfl | exact Or.inr rfl))) (fun _ _ _ _ _ => pts_nil) (fun _ _ _ _ _ => pe_int)) rfl)
      (pss_one (ps_fld (pv 0) (pe_lc (own := [("kind", 6)]) (g := (gName 6)) (tt := tYes) rfl sc_State_init.nd (pi_range1 (by rfl) T.z_range (pa_cons (pe_gi T.i_KINDS) pa_nil)) (blkOk_by (by kernel_rfl)) (fun _ _ _ _ _ => (pg_name (i := 6) sc_State_init.nd rfl (by first | exact Or.inl rfl | exact Or.inr rfl))) (fun _ _ _ _ _ => pts_nil) (fun _ _ _ _ _ => pe_int)) rfl))))))))
/-! #### State_twin -/
def t_State_twin (K : PySem.W.Frag) (E : XK) (sp_State_init : Sp) : TS :=
  (tSeq (tAsg (tMake (He.ga K "State") sp_State_init [] E0 (tCons (tFld K (tVar 0) "pact") (tCons (tFld K (tVar 0) "time") tNil))) (gName 1))
    (tSeq (sFld K (tVar 1) (tLc (iList K (tFld K (tVar 0) "accounts")) (gName 2) tYes (tCB (rListK K) (tCons (tVar 2) tNil)) [2]) "accounts")
    (tSeq (sFld K (tVar 1) (tCB (rListK K) (tCons (tFld K (tVar 0) "choices") tNil)) "choices")
    (tSeq (sFld K (tVar 1) (tCB (rListK K) (tCons (tFld K (tVar 0) "slots") tNil)) "slots")
    (tSeq (sFld K (tVar 1) (tCB (rListK K) (tCons (tFld K (tVar 0) "paid_in") tNil)) "paid_in")
    (tSeq (sFld K (tVar 1) (tCB (rListK K) (tCons (tFld K (tVar 0) "paid_out") tNil)) "paid_out")
    (tRet (tVar 1))))))))
abbrev N_State_twin : List Str := ["self", "other", "account"]
abbrev P_State_twin : List Str := ["self"]
theorem sc_State_twin : FnScope N_State_twin P_State_twin (defScope s_State_twin) := ⟨rfl, rfl, rfl, by decide +kernel, rfl, by decide +kernel, by decide +kernel⟩
theorem ok_State_twin {P : Program} {w : World} {K : PySem.W.Frag} {mg : Str → Option Value} {base : Heap} (T : Tx K mg) {sp_State_init : Sp} (F_State_init : Fok P w K mg base CX0 1 d_State_init P_State_init sp_State_init) {sp : Sp} (len : ∀ vs H Q E, sp vs H Q E → vs.length = 1)
    (pure_ : ∀ vs H Q E, sp vs H Q E → t_State_twin K E sp_State_init { nx := fun _ H' => Q .non H', rt := Q } (start N_State_twin vs) H) : Fok P w K mg base CX0 3 d_State_twin P_State_twin sp := by
  refine fok (k := 2) (d := d_State_twin) (N := N_State_twin) T.D_State_twin rfl sc_State_twin (fun _ _ _ _ _ _ us hl => match us, hl with | [_], _ => rfl) len (fun f cdv A outer s H vs Q E hr h => ⟨t_State_twin K E sp_State_init, PSs.nox ?_, pure_ vs H Q E h⟩)
  exact (pss_cons (ps_set (i := 1) sc_State_twin.nd rfl (by first | exact Or.inl rfl | exact Or.inr rfl) (pe_mk T.k_State F_State_init rfl hr (by decide) T.g_State pat0 (pa_cons (pe_fld (pv 0) rfl) (pa_cons (pe_fld (pv 0) rfl) pa_nil))))
      (pss_cons (ps_fld (pv 1) (pe_lc (own := [("account", 2)]) (g := (gName 2)) (tt := tYes) rfl sc_State_twin.nd (pi_list (pe_fld (pv 0) rfl)) (blkOk_by (by kernel_rfl)) (fun _ _ _ _ _ => (pg_name (i := 2) sc_State_twin.nd rfl (by first | exact Or.inl rfl | exact Or.inr rfl))) (fun _ _ _ _ _ => pts_nil) (fun _ _ _ _ _ => (pe_callTy call_list_of (by rfl) T.z_list (by decide +kernel) (pa_cons (pv 2) pa_nil)))) rfl)
      (pss_cons (ps_fld (pv 1) (pe_callTy call_list_of (by rfl) T.z_list (by decide +kernel) (pa_cons (pe_fld (pv 0) rfl) pa_nil)) rfl)
      (pss_cons (ps_fld (pv 1) (pe_callTy call_list_of (by rfl) T.z_list (by decide +kernel) (pa_cons (pe_fld (pv 0) rfl) pa_nil)) rfl)
      (pss_cons (ps_fld (pv 1) (pe_callTy call_list_of (by rfl) T.z_list (by decide +kernel) (pa_cons (pe_fld (pv 0) rfl) pa_nil)) rfl)
      (pss_cons (ps_fld (pv 1) (pe_callTy call_list_of (by rfl) T.z_list (by decide +kernel) (pa_cons (pe_fld (pv 0) rfl) pa_nil)) rfl)
      (pss_one (ps_ret (pv 1)))))))))
/-! #### Run_init -/
def t_Run_init (K : PySem.W.Frag) (E : XK) : TS :=
  (tSeq (sFld K (tVar 0) (tVar 1) "state")
    (tSeq (sFld K (tVar 0) (tVar 2) "start")
    (tSeq (sFld K (tVar 0) (tVar 3) "end")
    (tSeq (sFld K (tVar 0) (tLst tNil) "payments")
    (tSeq (sFld K (tVar 0) (tLst tNil) "warnings")
    (sFld K (tVar 0) (tC (.bl false)) "has_gone"))))))
abbrev N_Run_init : List Str := ["self", "state", "start", "end"]
abbrev P_Run_init : List Str := ["self", "state", "start", "end"]
theorem sc_Run_init : FnScope N_Run_init P_Run_init (defScope s_Run_init) := ⟨rfl, rfl, rfl, by decide +kernel, rfl, by decide +kernel, by decide +kernel⟩
theorem ok_Run_init {P : Program} {w : World} {K : PySem.W.Frag} {mg : Str → Option Value} {base : Heap} (T : Tx K mg)   {sp : Sp} (len : ∀ vs H Q E, sp vs H Q E → vs.length = 4)
    (pure_ : ∀ vs H Q E, sp vs H Q E → t_Run_init K E { nx := fun _ H' => Q .non H', rt := Q } (start N_Run_init vs) H) : Fok P w K mg base CX0 1 d_Run_init P_Run_init sp := by
  refine fok (k := 0) (d := d_Run_init) (N := N_Run_init) T.D_Run_init rfl sc_Run_init (fun _ _ _ _ _ _ us hl => match us, hl with | [_, _, _, _], _ => rfl) len (fun f cdv A outer s H vs Q E hr h => ⟨t_Run_init K E, PSs.nox ?_, pure_ vs H Q E h⟩)
  exact (pss_cons (ps_fld (pv 0) (pv 1) rfl)
      (pss_cons (ps_fld (pv 0) (pv 2) rfl)
      (pss_cons (ps_fld (pv 0) (pv 3) rfl)
      (pss_cons (ps_fld (pv 0) (pe_lst pa_nil) rfl)
      (pss_cons (ps_fld (pv 0) (pe_lst pa_nil) rfl)
      (pss_one (ps_fld (pv 0) pe_bl rfl)))))))
/-! #### Run_joined -/
def t_Run_joined (K : PySem.W.Frag) (E : XK) (sp_cut sp_quotient_of : Sp) : TS :=
  (tSeq (tIfS (tB (tEqI (tVar 1) (tC (.int 4)))) (tRet (tCall sp_cut [] E0 (tCons (tOp rPlus (tVar 2) (tVar 3)) tNil))) tNext)
    (tSeq (tIfS (tB (tEqI (tVar 1) (tC (.int 5)))) (tRet (tCall sp_cut [] E0 (tCons (tOp rMinus (tVar 2) (tVar 3)) tNil))) tNext)
    (tRet (tIf (tB (tEqI (tVar 1) (tC (.int 6)))) (tCall sp_cut [] E0 (tCons (tOp rTimes (tVar 2) (tVar 3)) tNil)) (tCall sp_quotient_of [] E0 (tCons (tVar 2) (tCons (tVar 3) tNil)))))))
abbrev N_Run_joined : List Str := ["self", "which", "first", "second"]
abbrev P_Run_joined : List Str := ["self", "which", "first", "second"]
theorem sc_Run_joined : FnScope N_Run_joined P_Run_joined (defScope s_Run_joined) := ⟨rfl, rfl, rfl, by decide +kernel, rfl, by decide +kernel, by decide +kernel⟩
theorem ok_Run_joined {P : Program} {w : World} {K : PySem.W.Frag} {mg : Str → Option Value} {base : Heap} (T : Tx K mg) {sp_cut : Sp} {sp_quotient_of : Sp} (F_cut : Fok P w K mg base CX0 1 d_cut P_cut sp_cut) (F_quotient_of : Fok P w K mg base CX0 1 d_quotient_of P_quotient_of sp_quotient_of) {sp : Sp} (len : ∀ vs H Q E, sp vs H Q E → vs.length = 4)
    (pure_ : ∀ vs H Q E, sp vs H Q E → t_Run_joined K E sp_cut sp_quotient_of { nx := fun _ H' => Q .non H', rt := Q } (start N_Run_joined vs) H) : Fok P w K mg base CX0 2 d_Run_joined P_Run_joined sp := by
  refine fok (k := 1) (d := d_Run_joined) (N := N_Run_joined) T.D_Run_joined rfl sc_Run_joined (fun _ _ _ _ _ _ us hl => match us, hl with | [_, _, _, _], _ => rfl) len (fun f cdv A outer s H vs Q E hr h => ⟨t_Run_joined K E sp_cut sp_quotient_of, PSs.nox ?_, pure_ vs H Q E h⟩)
  exact (pss_cons (ps_if (pt_cmp (pc_eqI (pv 1) pe_int)) (pss_one (ps_ret (pe_fu F_cut hr (by decide) T.g_cut pat0 (pa_cons (pe_op op_add (pv 2) (pv 3)) pa_nil)))) pss_nil)
      (pss_cons (ps_if (pt_cmp (pc_eqI (pv 1) pe_int)) (pss_one (ps_ret (pe_fu F_cut hr (by decide) T.g_cut pat0 (pa_cons (pe_op op_sub (pv 2) (pv 3)) pa_nil)))) pss_nil)
      (pss_one (ps_ret (pe_ifExp (pt_cmp (pc_eqI (pv 1) pe_int)) (pe_fu F_cut hr (by decide) T.g_cut pat0 (pa_cons (pe_op op_mul (pv 2) (pv 3)) pa_nil)) (pe_fu F_quotient_of hr (by decide) T.g_quotient_of pat0 (pa_cons (pv 2) (pa_cons (pv 3) pa_nil))))))))
/-! #### Run_value -/
def t_Run_value (K : PySem.W.Frag) (E : XK) (sp_Run_joined sp_Run_value sp_cut sp_Run_is_so : Sp) : TS :=
  (tSeq (tAsg (tOp (rIxT K) (tVar 1) (tC (.int 0))) (gName 2))
    (tSeq (tIfS (tB (tEqI (tVar 2) (tC (.int 0)))) (tRet (tOp (rIxT K) (tVar 1) (tC (.int 1)))) tNext)
    (tSeq (tIfS (tB (tEqI (tVar 2) (tC (.int 1)))) (tRet (tCall sp_cut [] E0 (tCons (tOp (rIxL K) (tOp (rIxL K) (tFld K (tFld K (tVar 0) "state") "accounts") (tOp (rIxT K) (tVar 1) (tC (.int 1)))) (tOp (rIxT K) (tVar 1) (tC (.int 2)))) tNil))) tNext)
    (tSeq (tIfS (tOr (tB (tEqI (tVar 2) (tC (.int 2)))) (tB (tEqI (tVar 2) (tC (.int 3))))) (tSeq (tAsg (tIf (tB (tEqI (tVar 2) (tC (.int 2)))) (tOp (rIxL K) (tFld K (tFld K (tVar 0) "state") "choices") (tOp (rIxT K) (tVar 1) (tC (.int 1)))) (tOp (rIxL K) (tFld K (tFld K (tVar 0) "state") "slots") (tOp (rIxT K) (tVar 1) (tC (.int 1))))) (gName 4))
    (tRet (tIf (tB (tIsN (tVar 4))) (tC (.int 0)) (tVar 4)))) tNext)
    (tSeq (tIfS (tOr (tB (tEqI (tVar 2) (tC (.int 9)))) (tB (tEqI (tVar 2) (tC (.int 10))))) (tRet (tIf (tB (tEqI (tVar 2) (tC (.int 9)))) (tFld K (tVar 0) "start") (tFld K (tVar 0) "end"))) tNext)
    (tSeq (tIfS (tB (tEqI (tVar 2) (tC (.int 11)))) (tRet (tMeth (He.ga K "Run") "value" sp_Run_value [] E0 (tVar 0) (tCons (tIf (tB (tMeth (He.ga K "Run") "is_so" sp_Run_is_so [] E0 (tVar 0) (tCons (tOp (rIxT K) (tVar 1) (tC (.int 1))) tNil))) (tOp (rIxT K) (tVar 1) (tC (.int 2))) (tOp (rIxT K) (tVar 1) (tC (.int 3)))) tNil))) tNext)
    (tSeq (tAsg (tMeth (He.ga K "Run") "value" sp_Run_value [] E0 (tVar 0) (tCons (tOp (rIxT K) (tVar 1) (tC (.int 1))) tNil)) (gName 3))
    (tSeq (tIfS (tB (tEqI (tVar 2) (tC (.int 8)))) (tRet (tCall sp_cut [] E0 (tCons (tUn rNeg (tVar 3)) tNil))) tNext)
    (tRet (tMeth (He.ga K "Run") "joined" sp_Run_joined [] E0 (tVar 0) (tCons (tVar 2) (tCons (tVar 3) (tCons (tMeth (He.ga K "Run") "value" sp_Run_value [] E0 (tVar 0) (tCons (tOp (rIxT K) (tVar 1) (tC (.int 2))) tNil)) tNil)))))))))))))
abbrev N_Run_value : List Str := ["self", "value", "which", "first", "held"]
abbrev P_Run_value : List Str := ["self", "value"]
theorem sc_Run_value : FnScope N_Run_value P_Run_value (defScope s_Run_value) := ⟨rfl, rfl, rfl, by decide +kernel, rfl, by decide +kernel, by decide +kernel⟩
theorem ok_Run_value {P : Program} {w : World} {K : PySem.W.Frag} {mg : Str → Option Value} {base : Heap} (T : Tx K mg) {sp_Run_joined : Sp} {sp_Run_value : Sp} {sp_cut : Sp} {sp_Run_is_so : Sp} {kk : Nat} (hkk : 2 ≤ kk) (F_Run_joined : Fok P w K mg base CX0 2 d_Run_joined P_Run_joined sp_Run_joined) (F_Run_value : Fok P w K mg base CX0 kk d_Run_value P_Run_value sp_Run_value) (F_cut : Fok P w K mg base CX0 1 d_cut P_cut sp_cut) (F_Run_is_so : Fok P w K mg base CX0 kk d_Run_is_so P_Run_is_so sp_Run_is_so) {sp : Sp} (len : ∀ vs H Q E, sp vs H Q E → vs.length = 2)
    (pure_ : ∀ vs H Q E, sp vs H Q E → t_Run_value K E sp_Run_joined sp_Run_value sp_cut sp_Run_is_so { nx := fun _ H' => Q .non H', rt := Q } (start N_Run_value vs) H) : Fok P w K mg base CX0 (kk + 1) d_Run_value P_Run_value sp := by
  refine fok (k := kk) (d := d_Run_value) (N := N_Run_value) T.D_Run_value rfl sc_Run_value (fun _ _ _ _ _ _ us hl => match us, hl with | [_, _], _ => rfl) len (fun f cdv A outer s H vs Q E hr h => ⟨t_Run_value K E sp_Run_joined sp_Run_value sp_cut sp_Run_is_so, PSs.nox ?_, pure_ vs H Q E h⟩)
  exact (pss_cons (ps_set (i := 2) sc_Run_value.nd rfl (by first | exact Or.inl rfl | exact Or.inr rfl) (pe_ix ix_tup (pv 1) pe_int (fun _ _ => rfl)))
      (pss_cons (ps_if (pt_cmp (pc_eqI (pv 2) pe_int)) (pss_one (ps_ret (pe_ix ix_tup (pv 1) pe_int (fun _ _ => rfl)))) pss_nil)
      (pss_cons (ps_if (pt_cmp (pc_eqI (pv 2) pe_int)) (pss_one (ps_ret (pe_fu F_cut hr (by omega) T.g_cut pat0 (pa_cons (pe_ix ix_list (pe_ix ix_list (pe_fld (pe_fld (pv 0) rfl) rfl) (pe_ix ix_tup (pv 1) pe_int (fun _ _ => rfl)) (fun _ _ => rfl)) (pe_ix ix_tup (pv 1) pe_int (fun _ _ => rfl)) (fun _ _ => rfl)) pa_nil)))) pss_nil)
      (pss_cons (ps_if (PW.pt (pw_or (pt_cmp (pc_eqI (pv 2) pe_int)) (pw_or1 (pt_cmp (pc_eqI (pv 2) pe_int))))) (pss_cons (ps_set (i := 4) sc_Run_value.nd rfl (by first | exact Or.inl rfl | exact Or.inr rfl) (pe_ifExp (pt_cmp (pc_eqI (pv 2) pe_int)) (pe_ix ix_list (pe_fld (pe_fld (pv 0) rfl) rfl) (pe_ix ix_tup (pv 1) pe_int (fun _ _ => rfl)) (fun _ _ => rfl)) (pe_ix ix_list (pe_fld (pe_fld (pv 0) rfl) rfl) (pe_ix ix_tup (pv 1) pe_int (fun _ _ => rfl)) (fun _ _ => rfl))))
      (pss_one (ps_ret (pe_ifExp (pt_cmp (pc_isN (pv 4))) pe_int (pv 4))))) pss_nil)
      (pss_cons (ps_if (PW.pt (pw_or (pt_cmp (pc_eqI (pv 2) pe_int)) (pw_or1 (pt_cmp (pc_eqI (pv 2) pe_int))))) (pss_one (ps_ret (pe_ifExp (pt_cmp (pc_eqI (pv 2) pe_int)) (pe_fld (pv 0) rfl) (pe_fld (pv 0) rfl)))) pss_nil)
      (pss_cons (ps_if (pt_cmp (pc_eqI (pv 2) pe_int)) (pss_one (ps_ret (pe_me F_Run_value hr (by omega) T.c_Run T.m_Run_value pat0 (pv 0) (pa_cons (pe_ifExp (pt_val (pe_me F_Run_is_so hr (by omega) T.c_Run T.m_Run_is_so pat0 (pv 0) (pa_cons (pe_ix ix_tup (pv 1) pe_int (fun _ _ => rfl)) pa_nil))) (pe_ix ix_tup (pv 1) pe_int (fun _ _ => rfl)) (pe_ix ix_tup (pv 1) pe_int (fun _ _ => rfl))) pa_nil)))) pss_nil)
      (pss_cons (ps_set (i := 3) sc_Run_value.nd rfl (by first | exact Or.inl rfl | exact Or.inr rfl) (pe_me F_Run_value hr (by omega) T.c_Run T.m_Run_value pat0 (pv 0) (pa_cons (pe_ix ix_tup (pv 1) pe_int (fun _ _ => rfl)) pa_nil)))
      (pss_cons (ps_if (pt_cmp (pc_eqI (pv 2) pe_int)) (pss_one (ps_ret (pe_fu F_cut hr (by omega) T.g_cut pat0 (pa_cons (pe_un un_neg (pv 3)) pa_nil)))) pss_nil)
      (pss_one (ps_ret (pe_me F_Run_joined hr (by omega) T.c_Run T.m_Run_joined pat0 (pv 0) (pa_cons (pv 2) (pa_cons (pv 3) (pa_cons (pe_me F_Run_value hr (by omega) T.c_Run T.m_Run_value pat0 (pv 0) (pa_cons (pe_ix ix_tup (pv 1) pe_int (fun _ _ => rfl)) pa_nil)) pa_nil))))))))))))))
/-! #### Run_is_so -/
def t_Run_is_so (K : PySem.W.Frag) (E : XK) (sp_Run_is_so sp_Run_value : Sp) : TS :=
  (tSeq (tAsg (tOp (rIxT K) (tVar 1) (tC (.int 0))) (gName 2))
    (tSeq (tIfS (tB (tLe (tVar 2) (tC (.int 1)))) (tRet (tEqI (tVar 2) (tC (.int 0)))) tNext)
    (tSeq (tIfS (tB (tEqI (tVar 2) (tC (.int 2)))) (tRet (tNotN (tOp (rIxL K) (tFld K (tFld K (tVar 0) "state") "choices") (tOp (rIxT K) (tVar 1) (tC (.int 1)))))) tNext)
    (tSeq (tIfS (tB (tEqI (tVar 2) (tC (.int 3)))) (tRet (tGe (tMeth (He.ga K "Run") "value" sp_Run_value [] E0 (tVar 0) (tCons (tOp (rIxT K) (tVar 1) (tC (.int 1))) tNil)) (tMeth (He.ga K "Run") "value" sp_Run_value [] E0 (tVar 0) (tCons (tOp (rIxT K) (tVar 1) (tC (.int 2))) tNil)))) tNext)
    (tSeq (tIfS (tB (tEqI (tVar 2) (tC (.int 4)))) (tRet (tEqI (tMeth (He.ga K "Run") "value" sp_Run_value [] E0 (tVar 0) (tCons (tOp (rIxT K) (tVar 1) (tC (.int 1))) tNil)) (tMeth (He.ga K "Run") "value" sp_Run_value [] E0 (tVar 0) (tCons (tOp (rIxT K) (tVar 1) (tC (.int 2))) tNil)))) tNext)
    (tSeq (tIfS (tB (tEqI (tVar 2) (tC (.int 5)))) (tRet (tAndV (tMeth (He.ga K "Run") "is_so" sp_Run_is_so [] E0 (tVar 0) (tCons (tOp (rIxT K) (tVar 1) (tC (.int 1))) tNil)) (tMeth (He.ga K "Run") "is_so" sp_Run_is_so [] E0 (tVar 0) (tCons (tOp (rIxT K) (tVar 1) (tC (.int 2))) tNil)))) tNext)
    (tSeq (tIfS (tB (tEqI (tVar 2) (tC (.int 6)))) (tRet (tOrV (tMeth (He.ga K "Run") "is_so" sp_Run_is_so [] E0 (tVar 0) (tCons (tOp (rIxT K) (tVar 1) (tC (.int 1))) tNil)) (tMeth (He.ga K "Run") "is_so" sp_Run_is_so [] E0 (tVar 0) (tCons (tOp (rIxT K) (tVar 1) (tC (.int 2))) tNil)))) tNext)
    (tRet (tNotV (tMeth (He.ga K "Run") "is_so" sp_Run_is_so [] E0 (tVar 0) (tCons (tOp (rIxT K) (tVar 1) (tC (.int 1))) tNil)))))))))))
abbrev N_Run_is_so : List Str := ["self", "said", "which"]
abbrev P_Run_is_so : List Str := ["self", "said"]
theorem sc_Run_is_so : FnScope N_Run_is_so P_Run_is_so (defScope s_Run_is_so) := ⟨rfl, rfl, rfl, by decide +kernel, rfl, by decide +kernel, by decide +kernel⟩
theorem ok_Run_is_so {P : Program} {w : World} {K : PySem.W.Frag} {mg : Str → Option Value} {base : Heap} (T : Tx K mg) {sp_Run_is_so : Sp} {sp_Run_value : Sp} {kk : Nat} (hkk : 2 ≤ kk) (F_Run_is_so : Fok P w K mg base CX0 kk d_Run_is_so P_Run_is_so sp_Run_is_so) (F_Run_value : Fok P w K mg base CX0 kk d_Run_value P_Run_value sp_Run_value) {sp : Sp} (len : ∀ vs H Q E, sp vs H Q E → vs.length = 2)
    (pure_ : ∀ vs H Q E, sp vs H Q E → t_Run_is_so K E sp_Run_is_so sp_Run_value { nx := fun _ H' => Q .non H', rt := Q } (start N_Run_is_so vs) H) : Fok P w K mg base CX0 (kk + 1) d_Run_is_so P_Run_is_so sp := by
  refine fok (k := kk) (d := d_Run_is_so) (N := N_Run_is_so) T.D_Run_is_so rfl sc_Run_is_so (fun _ _ _ _ _ _ us hl => match us, hl with | [_, _], _ => rfl) len (fun f cdv A outer s H vs Q E hr h => ⟨t_Run_is_so K E sp_Run_is_so sp_Run_value, PSs.nox ?_, pure_ vs H Q E h⟩)
  exact (pss_cons (ps_set (i := 2) sc_Run_is_so.nd rfl (by first | exact Or.inl rfl | exact Or.inr rfl) (pe_ix ix_tup (pv 1) pe_int (fun _ _ => rfl)))
      (pss_cons (ps_if (pt_cmp (pc_le (pv 2) pe_int)) (pss_one (ps_ret (pe_cmp (pc_eqI (pv 2) pe_int)))) pss_nil)
      (pss_cons (ps_if (pt_cmp (pc_eqI (pv 2) pe_int)) (pss_one (ps_ret (pe_cmp (pc_notN (pe_ix ix_list (pe_fld (pe_fld (pv 0) rfl) rfl) (pe_ix ix_tup (pv 1) pe_int (fun _ _ => rfl)) (fun _ _ => rfl)))))) pss_nil)
      (pss_cons (ps_if (pt_cmp (pc_eqI (pv 2) pe_int)) (pss_one (ps_ret (pe_cmp (pc_ge (pe_me F_Run_value hr (by omega) T.c_Run T.m_Run_value pat0 (pv 0) (pa_cons (pe_ix ix_tup (pv 1) pe_int (fun _ _ => rfl)) pa_nil)) (pe_me F_Run_value hr (by omega) T.c_Run T.m_Run_value pat0 (pv 0) (pa_cons (pe_ix ix_tup (pv 1) pe_int (fun _ _ => rfl)) pa_nil)))))) pss_nil)
      (pss_cons (ps_if (pt_cmp (pc_eqI (pv 2) pe_int)) (pss_one (ps_ret (pe_cmp (pc_eqI (pe_me F_Run_value hr (by omega) T.c_Run T.m_Run_value pat0 (pv 0) (pa_cons (pe_ix ix_tup (pv 1) pe_int (fun _ _ => rfl)) pa_nil)) (pe_me F_Run_value hr (by omega) T.c_Run T.m_Run_value pat0 (pv 0) (pa_cons (pe_ix ix_tup (pv 1) pe_int (fun _ _ => rfl)) pa_nil)))))) pss_nil)
      (pss_cons (ps_if (pt_cmp (pc_eqI (pv 2) pe_int)) (pss_one (ps_ret (pe_and (pe_me F_Run_is_so hr (by omega) T.c_Run T.m_Run_is_so pat0 (pv 0) (pa_cons (pe_ix ix_tup (pv 1) pe_int (fun _ _ => rfl)) pa_nil)) (pe_one (pe_me F_Run_is_so hr (by omega) T.c_Run T.m_Run_is_so pat0 (pv 0) (pa_cons (pe_ix ix_tup (pv 1) pe_int (fun _ _ => rfl)) pa_nil)))))) pss_nil)
      (pss_cons (ps_if (pt_cmp (pc_eqI (pv 2) pe_int)) (pss_one (ps_ret (pe_or (pe_me F_Run_is_so hr (by omega) T.c_Run T.m_Run_is_so pat0 (pv 0) (pa_cons (pe_ix ix_tup (pv 1) pe_int (fun _ _ => rfl)) pa_nil)) (pe_one (pe_me F_Run_is_so hr (by omega) T.c_Run T.m_Run_is_so pat0 (pv 0) (pa_cons (pe_ix ix_tup (pv 1) pe_int (fun _ _ => rfl)) pa_nil)))))) pss_nil)
      (pss_one (ps_ret (pe_not (pe_me F_Run_is_so hr (by omega) T.c_Run T.m_Run_is_so pat0 (pv 0) (pa_cons (pe_ix ix_tup (pv 1) pe_int (fun _ _ => rfl)) pa_nil))))))))))))
/-! #### Run_pay_out -/
def t_Run_pay_out (K : PySem.W.Frag) (E : XK) : TS :=
  (tIfS (tB (tGt (tVar 4) (tC (.int 0)))) (tSeq (tAsg (tFld K (tFld K (tVar 0) "state") "accounts") (gName 5))
    (tSeq (tAsg (tFld K (tFld K (tVar 0) "state") "paid_out") (gName 6))
    (tSeq (tAsg (tOp rMinus (tOp (rIxL K) (tOp (rIxL K) (tVar 5) (tVar 1)) (tVar 3)) (tVar 4)) (gSub (tOp (rIxL K) (tVar 5) (tVar 1)) (tVar 3) rSetL))
    (tSeq (tAsg (tOp rPlus (tOp (rIxL K) (tVar 6) (tVar 3)) (tVar 4)) (gSub (tVar 6) (tVar 3) rSetL))
    (tDrop (tBM K "list" rAppend (tFld K (tVar 0) "payments") (tCons (tLst (tCons (tVar 1) (tCons (tVar 2) (tCons (tVar 3) (tCons (tVar 4) tNil))))) tNil))))))) tNext)
abbrev N_Run_pay_out : List Str := ["self", "account", "party", "kind", "amount", "accounts", "paid"]
abbrev P_Run_pay_out : List Str := ["self", "account", "party", "kind", "amount"]
theorem sc_Run_pay_out : FnScope N_Run_pay_out P_Run_pay_out (defScope s_Run_pay_out) := ⟨rfl, rfl, rfl, by decide +kernel, rfl, by decide +kernel, by decide +kernel⟩
theorem ok_Run_pay_out {P : Program} {w : World} {K : PySem.W.Frag} {mg : Str → Option Value} {base : Heap} (T : Tx K mg)   {sp : Sp} (len : ∀ vs H Q E, sp vs H Q E → vs.length = 5)
    (pure_ : ∀ vs H Q E, sp vs H Q E → t_Run_pay_out K E { nx := fun _ H' => Q .non H', rt := Q } (start N_Run_pay_out vs) H) : Fok P w K mg base CX0 1 d_Run_pay_out P_Run_pay_out sp := by
  refine fok (k := 0) (d := d_Run_pay_out) (N := N_Run_pay_out) T.D_Run_pay_out rfl sc_Run_pay_out (fun _ _ _ _ _ _ us hl => match us, hl with | [_, _, _, _, _], _ => rfl) len (fun f cdv A outer s H vs Q E hr h => ⟨t_Run_pay_out K E, PSs.nox ?_, pure_ vs H Q E h⟩)
  exact (pss_one (ps_if (pt_cmp (pc_gt (pv 4) pe_int)) (pss_cons (ps_set (i := 5) sc_Run_pay_out.nd rfl (by first | exact Or.inl rfl | exact Or.inr rfl) (pe_fld (pe_fld (pv 0) rfl) rfl))
      (pss_cons (ps_set (i := 6) sc_Run_pay_out.nd rfl (by first | exact Or.inl rfl | exact Or.inr rfl) (pe_fld (pe_fld (pv 0) rfl) rfl))
      (pss_cons (ps_asg (pe_op op_sub (pe_ix ix_list (pe_ix ix_list (pv 5) (pv 1) (fun _ _ => rfl)) (pv 3) (fun _ _ => rfl)) (pv 4)) (pg_sub (pe_ix ix_list (pv 5) (pv 1) (fun _ _ => rfl)) (pv 3) set_list))
      (pss_cons (ps_asg (pe_op op_add (pe_ix ix_list (pv 6) (pv 3) (fun _ _ => rfl)) (pv 4)) (pg_sub (pv 6) (pv 3) set_list))
      (pss_one (ps_expr (pe_bm PySem.F.plainAttrs_list PySem.F.slot_list_append PySem.F.type_list_append mt_append (pe_fld (pv 0) rfl) (pa_cons (pe_lst (pa_cons (pv 1) (pa_cons (pv 2) (pa_cons (pv 3) (pa_cons (pv 4) pa_nil))))) pa_nil)))))))) pss_nil))
/-! #### Run_close -/
def t_Run_close (K : PySem.W.Frag) (E : XK) (sp_Run_pay_out : Sp) : TS :=
  (tSeq (tAsg (tCB (rLenK K) (tCons (tFld K (tVar 0) "payments") tNil)) (gName 1))
    (tSeq (tFor (iRng1 (tCons (tC (.int 8)) tNil)) (gName 2) (tFor (iRng1 (tCons (tC (.int 4)) tNil)) (gName 3) (tDrop (tMeth (He.ga K "Run") "pay_out" sp_Run_pay_out [] E0 (tVar 0) (tCons (tVar 2) (tCons (tVar 2) (tCons (tVar 3) (tCons (tOp (rIxL K) (tOp (rIxL K) (tFld K (tFld K (tVar 0) "state") "accounts") (tVar 2)) (tVar 3)) tNil))))))))
    (tRet (tGt (tCB (rLenK K) (tCons (tFld K (tVar 0) "payments") tNil)) (tVar 1)))))
abbrev N_Run_close : List Str := ["self", "before", "party", "kind"]
abbrev P_Run_close : List Str := ["self"]
theorem sc_Run_close : FnScope N_Run_close P_Run_close (defScope s_Run_close) := ⟨rfl, rfl, rfl, by decide +kernel, rfl, by decide +kernel, by decide +kernel⟩
theorem ok_Run_close {P : Program} {w : World} {K : PySem.W.Frag} {mg : Str → Option Value} {base : Heap} (T : Tx K mg) {sp_Run_pay_out : Sp} (F_Run_pay_out : Fok P w K mg base CX0 1 d_Run_pay_out P_Run_pay_out sp_Run_pay_out) {sp : Sp} (len : ∀ vs H Q E, sp vs H Q E → vs.length = 1)
    (pure_ : ∀ vs H Q E, sp vs H Q E → t_Run_close K E sp_Run_pay_out { nx := fun _ H' => Q .non H', rt := Q } (start N_Run_close vs) H) : Fok P w K mg base CX0 2 d_Run_close P_Run_close sp := by
  refine fok (k := 1) (d := d_Run_close) (N := N_Run_close) T.D_Run_close rfl sc_Run_close (fun _ _ _ _ _ _ us hl => match us, hl with | [_], _ => rfl) len (fun f cdv A outer s H vs Q E hr h => ⟨t_Run_close K E sp_Run_pay_out, PSs.nox ?_, pure_ vs H Q E h⟩)
  exact (pss_cons (ps_set (i := 1) sc_Run_close.nd rfl (by first | exact Or.inl rfl | exact Or.inr rfl) (pe_callB call_len_seq (by rfl) T.z_len boot_len (pa_cons (pe_fld (pv 0) rfl) pa_nil)))
      (pss_cons (ps_for PassesOwn.never rfl (pi_range1 (by rfl) T.z_range (pa_cons (pe_gi T.i_PARTIES) pa_nil)) (pg_name (i := 2) sc_Run_close.nd rfl (by first | exact Or.inl rfl | exact Or.inr rfl)) (pss_one (ps_for PassesOwn.never rfl (pi_range1 (by rfl) T.z_range (pa_cons (pe_gi T.i_KINDS) pa_nil)) (pg_name (i := 3) sc_Run_close.nd rfl (by first | exact Or.inl rfl | exact Or.inr rfl)) (pss_one (ps_expr (pe_me F_Run_pay_out hr (by decide) T.c_Run T.m_Run_pay_out pat0 (pv 0) (pa_cons (pv 2) (pa_cons (pv 2) (pa_cons (pv 3) (pa_cons (pe_ix ix_list (pe_ix ix_list (pe_fld (pe_fld (pv 0) rfl) rfl) (pv 2) (fun _ _ => rfl)) (pv 3) (fun _ _ => rfl)) pa_nil))))))))))
      (pss_one (ps_ret (pe_cmp (pc_gt (pe_callB call_len_seq (by rfl) T.z_len boot_len (pa_cons (pe_fld (pv 0) rfl) pa_nil)) (pv 1)))))))
/-! #### Run_do_payment -/
def t_Run_do_payment (K : PySem.W.Frag) (E : XK) (sp_Run_pay_out sp_Run_value : Sp) : TS :=
  (tSeq (tAsg (tFld K (tVar 1) "parts") (gUnl K 5 (gCons (gName 5) (gCons (gName 6) (gCons (gName 7) (gCons (gName 8) (gCons (gName 9) gNil)))))))
    (tSeq (tAsg (tMeth (He.ga K "Run") "value" sp_Run_value [] E0 (tVar 0) (tCons (tVar 9) tNil)) (gName 2))
    (tSeq (tIfS (tB (tLe (tVar 2) (tC (.int 0)))) (tSeq (tDrop (tBM K "list" rAppend (tFld K (tVar 0) "warnings") (tCons (tLst (tCons (tC (.int 1)) (tCons (tVar 5) (tCons (tVar 8) (tCons (tVar 2) tNil))))) tNil)))
    tRetN) tNext)
    (tSeq (tAsg (tFld K (tFld K (tVar 0) "state") "accounts") (gName 3))
    (tSeq (tAsg (tCB rMinK (tCons (tVar 2) (tCons (tOp (rIxL K) (tOp (rIxL K) (tVar 3) (tVar 5)) (tVar 8)) tNil))) (gName 4))
    (tSeq (tIfS (tB (tLt (tVar 4) (tVar 2))) (tDrop (tBM K "list" rAppend (tFld K (tVar 0) "warnings") (tCons (tLst (tCons (tC (.int 2)) (tCons (tVar 5) (tCons (tVar 8) (tCons (tVar 4) (tCons (tVar 2) tNil)))))) tNil))) tNext)
    (tIfS (tB (tEqI (tVar 6) (tC (.int 1)))) (tDrop (tMeth (He.ga K "Run") "pay_out" sp_Run_pay_out [] E0 (tVar 0) (tCons (tVar 5) (tCons (tVar 7) (tCons (tVar 8) (tCons (tVar 4) tNil)))))) (tSeq (tAsg (tOp rMinus (tOp (rIxL K) (tOp (rIxL K) (tVar 3) (tVar 5)) (tVar 8)) (tVar 4)) (gSub (tOp (rIxL K) (tVar 3) (tVar 5)) (tVar 8) rSetL))
    (tAsg (tOp rPlus (tOp (rIxL K) (tOp (rIxL K) (tVar 3) (tVar 7)) (tVar 8)) (tVar 4)) (gSub (tOp (rIxL K) (tVar 3) (tVar 7)) (tVar 8) rSetL))))))))))
abbrev N_Run_do_payment : List Str := ["self", "pact", "wanted", "accounts", "amount", "account", "way", "party", "kind", "value"]
abbrev P_Run_do_payment : List Str := ["self", "pact"]
theorem sc_Run_do_payment : FnScope N_Run_do_payment P_Run_do_payment (defScope s_Run_do_payment) := ⟨rfl, rfl, rfl, by decide +kernel, rfl, by decide +kernel, by decide +kernel⟩
theorem ok_Run_do_payment {P : Program} {w : World} {K : PySem.W.Frag} {mg : Str → Option Value} {base : Heap} (T : Tx K mg) {sp_Run_pay_out : Sp} {sp_Run_value : Sp} (F_Run_pay_out : Fok P w K mg base CX0 1 d_Run_pay_out P_Run_pay_out sp_Run_pay_out) (F_Run_value : Fok P w K mg base CX0 43 d_Run_value P_Run_value sp_Run_value) {sp : Sp} (len : ∀ vs H Q E, sp vs H Q E → vs.length = 2)
    (pure_ : ∀ vs H Q E, sp vs H Q E → t_Run_do_payment K E sp_Run_pay_out sp_Run_value { nx := fun _ H' => Q .non H', rt := Q } (start N_Run_do_payment vs) H) : Fok P w K mg base CX0 44 d_Run_do_payment P_Run_do_payment sp := by
  refine fok (k := 43) (d := d_Run_do_payment) (N := N_Run_do_payment) T.D_Run_do_payment rfl sc_Run_do_payment (fun _ _ _ _ _ _ us hl => match us, hl with | [_, _], _ => rfl) len (fun f cdv A outer s H vs Q E hr h => ⟨t_Run_do_payment K E sp_Run_pay_out sp_Run_value, PSs.nox ?_, pure_ vs H Q E h⟩)
  exact (pss_cons (ps_asg (pe_fld (pv 1) rfl) (pg_unl rfl (pgs_cons (pg_name (i := 5) sc_Run_do_payment.nd rfl (by first | exact Or.inl rfl | exact Or.inr rfl)) (pgs_cons (pg_name (i := 6) sc_Run_do_payment.nd rfl (by first | exact Or.inl rfl | exact Or.inr rfl)) (pgs_cons (pg_name (i := 7) sc_Run_do_payment.nd rfl (by first | exact Or.inl rfl | exact Or.inr rfl)) (pgs_cons (pg_name (i := 8) sc_Run_do_payment.nd rfl (by first | exact Or.inl rfl | exact Or.inr rfl)) (pgs_cons (pg_name (i := 9) sc_Run_do_payment.nd rfl (by first | exact Or.inl rfl | exact Or.inr rfl)) pgs_nil)))))))
      (pss_cons (ps_set (i := 2) sc_Run_do_payment.nd rfl (by first | exact Or.inl rfl | exact Or.inr rfl) (pe_me F_Run_value hr (by decide) T.c_Run T.m_Run_value pat0 (pv 0) (pa_cons (pv 9) pa_nil)))
      (pss_cons (ps_if (pt_cmp (pc_le (pv 2) pe_int)) (pss_cons (ps_expr (pe_bm PySem.F.plainAttrs_list PySem.F.slot_list_append PySem.F.type_list_append mt_append (pe_fld (pv 0) rfl) (pa_cons (pe_lst (pa_cons (pe_gi T.i_NO_PAYMENT) (pa_cons (pv 5) (pa_cons (pv 8) (pa_cons (pv 2) pa_nil))))) pa_nil)))
      (pss_one ps_retN)) pss_nil)
      (pss_cons (ps_set (i := 3) sc_Run_do_payment.nd rfl (by first | exact Or.inl rfl | exact Or.inr rfl) (pe_fld (pe_fld (pv 0) rfl) rfl))
      (pss_cons (ps_set (i := 4) sc_Run_do_payment.nd rfl (by first | exact Or.inl rfl | exact Or.inr rfl) (pe_callB (call_min2 rfl) (by rfl) T.z_min (by decide +kernel) (pa_cons (pv 2) (pa_cons (pe_ix ix_list (pe_ix ix_list (pv 3) (pv 5) (fun _ _ => rfl)) (pv 8) (fun _ _ => rfl)) pa_nil))))
      (pss_cons (ps_if (pt_cmp (pc_lt (pv 4) (pv 2))) (pss_one (ps_expr (pe_bm PySem.F.plainAttrs_list PySem.F.slot_list_append PySem.F.type_list_append mt_append (pe_fld (pv 0) rfl) (pa_cons (pe_lst (pa_cons (pe_gi T.i_PART_PAYMENT) (pa_cons (pv 5) (pa_cons (pv 8) (pa_cons (pv 4) (pa_cons (pv 2) pa_nil)))))) pa_nil)))) pss_nil)
      (pss_one (ps_if (pt_cmp (pc_eqI (pv 6) pe_int)) (pss_one (ps_expr (pe_me F_Run_pay_out hr (by decide) T.c_Run T.m_Run_pay_out pat0 (pv 0) (pa_cons (pv 5) (pa_cons (pv 7) (pa_cons (pv 8) (pa_cons (pv 4) pa_nil))))))) (pss_cons (ps_asg (pe_op op_sub (pe_ix ix_list (pe_ix ix_list (pv 3) (pv 5) (fun _ _ => rfl)) (pv 8) (fun _ _ => rfl)) (pv 4)) (pg_sub (pe_ix ix_list (pv 3) (pv 5) (fun _ _ => rfl)) (pv 8) set_list))
      (pss_one (ps_asg (pe_op op_add (pe_ix ix_list (pe_ix ix_list (pv 3) (pv 7) (fun _ _ => rfl)) (pv 8) (fun _ _ => rfl)) (pv 4)) (pg_sub (pe_ix ix_list (pv 3) (pv 7) (fun _ _ => rfl)) (pv 8) set_list))))))))))))
/-! #### Run_do_let -/
def t_Run_do_let (K : PySem.W.Frag) (E : XK) (sp_Run_value : Sp) : TS :=
  (tSeq (tAsg (tFld K (tVar 1) "parts") (gUnl K 2 (gCons (gName 4) (gCons (gName 5) gNil))))
    (tSeq (tAsg (tFld K (tFld K (tVar 0) "state") "slots") (gName 2))
    (tSeq (tAsg (tMeth (He.ga K "Run") "value" sp_Run_value [] E0 (tVar 0) (tCons (tVar 5) tNil)) (gName 3))
    (tSeq (tIfS (tB (tNotN (tOp (rIxL K) (tVar 2) (tVar 4)))) (tDrop (tBM K "list" rAppend (tFld K (tVar 0) "warnings") (tCons (tLst (tCons (tC (.int 4)) (tCons (tVar 4) (tCons (tOp (rIxL K) (tVar 2) (tVar 4)) (tCons (tVar 3) tNil))))) tNil))) tNext)
    (tAsg (tVar 3) (gSub (tVar 2) (tVar 4) rSetL))))))
abbrev N_Run_do_let : List Str := ["self", "pact", "slots", "number", "slot", "value"]
abbrev P_Run_do_let : List Str := ["self", "pact"]
theorem sc_Run_do_let : FnScope N_Run_do_let P_Run_do_let (defScope s_Run_do_let) := ⟨rfl, rfl, rfl, by decide +kernel, rfl, by decide +kernel, by decide +kernel⟩
theorem ok_Run_do_let {P : Program} {w : World} {K : PySem.W.Frag} {mg : Str → Option Value} {base : Heap} (T : Tx K mg) {sp_Run_value : Sp} (F_Run_value : Fok P w K mg base CX0 43 d_Run_value P_Run_value sp_Run_value) {sp : Sp} (len : ∀ vs H Q E, sp vs H Q E → vs.length = 2)
    (pure_ : ∀ vs H Q E, sp vs H Q E → t_Run_do_let K E sp_Run_value { nx := fun _ H' => Q .non H', rt := Q } (start N_Run_do_let vs) H) : Fok P w K mg base CX0 44 d_Run_do_let P_Run_do_let sp := by
  refine fok (k := 43) (d := d_Run_do_let) (N := N_Run_do_let) T.D_Run_do_let rfl sc_Run_do_let (fun _ _ _ _ _ _ us hl => match us, hl with | [_, _], _ => rfl) len (fun f cdv A outer s H vs Q E hr h => ⟨t_Run_do_let K E sp_Run_value, PSs.nox ?_, pure_ vs H Q E h⟩)
  exact (pss_cons (ps_asg (pe_fld (pv 1) rfl) (pg_unl rfl (pgs_cons (pg_name (i := 4) sc_Run_do_let.nd rfl (by first | exact Or.inl rfl | exact Or.inr rfl)) (pgs_cons (pg_name (i := 5) sc_Run_do_let.nd rfl (by first | exact Or.inl rfl | exact Or.inr rfl)) pgs_nil))))
      (pss_cons (ps_set (i := 2) sc_Run_do_let.nd rfl (by first | exact Or.inl rfl | exact Or.inr rfl) (pe_fld (pe_fld (pv 0) rfl) rfl))
      (pss_cons (ps_set (i := 3) sc_Run_do_let.nd rfl (by first | exact Or.inl rfl | exact Or.inr rfl) (pe_me F_Run_value hr (by decide) T.c_Run T.m_Run_value pat0 (pv 0) (pa_cons (pv 5) pa_nil)))
      (pss_cons (ps_if (pt_cmp (pc_notN (pe_ix ix_list (pv 2) (pv 4) (fun _ _ => rfl)))) (pss_one (ps_expr (pe_bm PySem.F.plainAttrs_list PySem.F.slot_list_append PySem.F.type_list_append mt_append (pe_fld (pv 0) rfl) (pa_cons (pe_lst (pa_cons (pe_gi T.i_SLOT_TAKEN) (pa_cons (pv 4) (pa_cons (pe_ix ix_list (pv 2) (pv 4) (fun _ _ => rfl)) (pa_cons (pv 3) pa_nil))))) pa_nil)))) pss_nil)
      (pss_one (ps_asg (pv 3) (pg_sub (pv 2) (pv 4) set_list)))))))
/-! #### Run_next_pact -/
def t_Run_next_pact (K : PySem.W.Frag) (E : XK) (sp_Run_do_payment sp_Run_do_let sp_Run_is_so : Sp) : TS :=
  (tSeq (tIfS (tB (tEqI (tFld K (tVar 1) "which") (tC (.int 0)))) (tRet (tC .non)) tNext)
    (tSeq (tIfS (tB (tEqI (tFld K (tVar 1) "which") (tC (.int 3)))) (tSeq (tIfS (tB (tLt (tFld K (tVar 0) "end") (tFld K (tVar 1) "time"))) (tRet (tC .non)) tNext)
    (tSeq (tIfS (tB (tLt (tFld K (tVar 0) "start") (tFld K (tVar 1) "time"))) (fun _ σ H => tMkR K (tCons (tC (.int (-5))) tNil) σ H fun cls d H' => E cls d H') tNext)
    (tRet (tOp (rIxL K) (tFld K (tVar 1) "inner") (tUn rNeg (tC (.int 1))))))) tNext)
    (tSeq (tIfS (tB (tEqI (tFld K (tVar 1) "which") (tC (.int 2)))) (tRet (tOp (rIxL K) (tFld K (tVar 1) "inner") (tIf (tB (tMeth (He.ga K "Run") "is_so" sp_Run_is_so [] E0 (tVar 0) (tCons (tOp (rIxL K) (tFld K (tVar 1) "parts") (tC (.int 0))) tNil))) (tC (.int 0)) (tC (.int 1))))) tNext)
    (tSeq (tIfS (tB (tEqI (tFld K (tVar 1) "which") (tC (.int 1)))) (tDrop (tMeth (He.ga K "Run") "do_payment" sp_Run_do_payment [] E0 (tVar 0) (tCons (tVar 1) tNil))) (tIfS (tB (tEqI (tFld K (tVar 1) "which") (tC (.int 4)))) (tDrop (tMeth (He.ga K "Run") "do_let" sp_Run_do_let [] E0 (tVar 0) (tCons (tVar 1) tNil))) (tIfS (tNot (tB (tMeth (He.ga K "Run") "is_so" sp_Run_is_so [] E0 (tVar 0) (tCons (tOp (rIxL K) (tFld K (tVar 1) "parts") (tC (.int 0))) tNil)))) (tDrop (tBM K "list" rAppend (tFld K (tVar 0) "warnings") (tCons (tLst (tCons (tC (.int 5)) tNil)) tNil))) tNext)))
    (tRet (tOp (rIxL K) (tFld K (tVar 1) "inner") (tC (.int 0))))))))
abbrev N_Run_next_pact : List Str := ["self", "pact"]
abbrev P_Run_next_pact : List Str := ["self", "pact"]
theorem sc_Run_next_pact : FnScope N_Run_next_pact P_Run_next_pact (defScope s_Run_next_pact) := ⟨rfl, rfl, rfl, by decide +kernel, rfl, by decide +kernel, by decide +kernel⟩
theorem ok_Run_next_pact {P : Program} {w : World} {K : PySem.W.Frag} {mg : Str → Option Value} {base : Heap} (T : Tx K mg) {sp_Run_do_payment : Sp} {sp_Run_do_let : Sp} {sp_Run_is_so : Sp} (F_Run_do_payment : Fok P w K mg base CX0 44 d_Run_do_payment P_Run_do_payment sp_Run_do_payment) (F_Run_do_let : Fok P w K mg base CX0 44 d_Run_do_let P_Run_do_let sp_Run_do_let) (F_Run_is_so : Fok P w K mg base CX0 43 d_Run_is_so P_Run_is_so sp_Run_is_so) {sp : Sp} (len : ∀ vs H Q E, sp vs H Q E → vs.length = 2)
    (pure_ : ∀ vs H Q E, sp vs H Q E → t_Run_next_pact K E sp_Run_do_payment sp_Run_do_let sp_Run_is_so { nx := fun _ H' => Q .non H', rt := Q } (start N_Run_next_pact vs) H) : Fok P w K mg base (L2.CX P w) 45 d_Run_next_pact P_Run_next_pact sp := by
  refine fok (k := 44) (d := d_Run_next_pact) (N := N_Run_next_pact) T.D_Run_next_pact rfl sc_Run_next_pact (fun _ _ _ _ _ _ us hl => match us, hl with | [_, _], _ => rfl) len (fun f cdv A outer s H vs Q E hr h => ⟨t_Run_next_pact K E sp_Run_do_payment sp_Run_do_let sp_Run_is_so, ?_, pure_ vs H Q E h⟩)
  exact (pss_cons (ps_if (pt_cmp (pc_eqI (pe_fld (pv 1) rfl) (pe_gi T.i_CLOSE))) (pss_one (ps_ret pe_non)) pss_nil)
      (pss_cons (ps_if (pt_cmp (pc_eqI (pe_fld (pv 1) rfl) (pe_gi T.i_WAIT))) (pss_cons (ps_if (pt_cmp (pc_lt (pe_fld (pv 0) rfl) (pe_fld (pv 1) rfl))) (pss_one (ps_ret pe_non)) pss_nil)
      (pss_cons (ps_if (pt_cmp (pc_lt (pe_fld (pv 0) rfl) (pe_fld (pv 1) rfl))) (pss_one (ps_ref rfl T (dep_of hr) (L2.takes_of rfl rfl rfl rfl) (pa_cons (pe_gi T.i_BETWEEN) pa_nil))) pss_nil)
      (pss_one (ps_ret (pe_ix ix_list (pe_fld (pv 1) rfl) (pe_un un_neg pe_int) (fun _ _ => rfl)))))) pss_nil)
      (pss_cons (ps_if (pt_cmp (pc_eqI (pe_fld (pv 1) rfl) (pe_gi T.i_CONDITION))) (pss_one (ps_ret (pe_ix ix_list (pe_fld (pv 1) rfl) (pe_ifExp (pt_val (pe_me F_Run_is_so hr (by decide) T.c_Run T.m_Run_is_so pat0 (pv 0) (pa_cons (pe_ix ix_list (pe_fld (pv 1) rfl) pe_int (fun _ _ => rfl)) pa_nil))) pe_int pe_int) (fun _ _ => rfl)))) pss_nil)
      (pss_cons (ps_if (pt_cmp (pc_eqI (pe_fld (pv 1) rfl) (pe_gi T.i_PAYMENT))) (pss_one (ps_expr (pe_me F_Run_do_payment hr (by decide) T.c_Run T.m_Run_do_payment pat0 (pv 0) (pa_cons (pv 1) pa_nil)))) (pss_one (ps_if (pt_cmp (pc_eqI (pe_fld (pv 1) rfl) (pe_gi T.i_LET))) (pss_one (ps_expr (pe_me F_Run_do_let hr (by decide) T.c_Run T.m_Run_do_let pat0 (pv 0) (pa_cons (pv 1) pa_nil)))) (pss_one (ps_if (pt_not (pt_val (pe_me F_Run_is_so hr (by decide) T.c_Run T.m_Run_is_so pat0 (pv 0) (pa_cons (pe_ix ix_list (pe_fld (pv 1) rfl) pe_int (fun _ _ => rfl)) pa_nil)))) (pss_one (ps_expr (pe_bm PySem.F.plainAttrs_list PySem.F.slot_list_append PySem.F.type_list_append mt_append (pe_fld (pv 0) rfl) (pa_cons (pe_lst (pa_cons (pe_gi T.i_NOT_SO) pa_nil)) pa_nil)))) pss_nil)))))
      (pss_one (ps_ret (pe_ix ix_list (pe_fld (pv 1) rfl) pe_int (fun _ _ => rfl))))))))
/-! #### Run_go_on -/
def t_Run_go_on (K : PySem.W.Frag) (E : XK) (sp_Run_close sp_Run_next_pact : Sp) : TS :=
  (tSeq (tAsg (tFld K (tVar 0) "state") (gName 1))
    (tSeq (tAsg (tMeth (He.ga K "Run") "next_pact" sp_Run_next_pact [] E (tVar 0) (tCons (tFld K (tVar 1) "pact") tNil)) (gName 2))
    (tSeq (tWhile (tB (tNotN (tVar 2))) (tSeq (sFld K (tVar 0) (tC (.bl true)) "has_gone")
    (tSeq (sFld K (tVar 1) (tVar 2) "pact")
    (tAsg (tMeth (He.ga K "Run") "next_pact" sp_Run_next_pact [] E (tVar 0) (tCons (tVar 2) tNil)) (gName 2)))))
    (tIfS (tAnd (tB (tEqI (tFld K (tFld K (tVar 1) "pact") "which") (tC (.int 0)))) (tB (tMeth (He.ga K "Run") "close" sp_Run_close [] E0 (tVar 0) tNil))) (sFld K (tVar 0) (tC (.bl true)) "has_gone") tNext))))
abbrev N_Run_go_on : List Str := ["self", "state", "following"]
abbrev P_Run_go_on : List Str := ["self"]
theorem sc_Run_go_on : FnScope N_Run_go_on P_Run_go_on (defScope s_Run_go_on) := ⟨rfl, rfl, rfl, by decide +kernel, rfl, by decide +kernel, by decide +kernel⟩
theorem ok_Run_go_on {P : Program} {w : World} {K : PySem.W.Frag} {mg : Str → Option Value} {base : Heap} (T : Tx K mg) {sp_Run_close : Sp} {sp_Run_next_pact : Sp} (F_Run_close : Fok P w K mg base CX0 2 d_Run_close P_Run_close sp_Run_close) (F_Run_next_pact : Fok P w K mg base (L2.CX P w) 45 d_Run_next_pact P_Run_next_pact sp_Run_next_pact) {sp : Sp} (len : ∀ vs H Q E, sp vs H Q E → vs.length = 1)
    (pure_ : ∀ vs H Q E, sp vs H Q E → t_Run_go_on K E sp_Run_close sp_Run_next_pact { nx := fun _ H' => Q .non H', rt := Q } (start N_Run_go_on vs) H) : Fok P w K mg base (L2.CX P w) 46 d_Run_go_on P_Run_go_on sp := by
  refine fok (k := 45) (d := d_Run_go_on) (N := N_Run_go_on) T.D_Run_go_on rfl sc_Run_go_on (fun _ _ _ _ _ _ us hl => match us, hl with | [_], _ => rfl) len (fun f cdv A outer s H vs Q E hr h => ⟨t_Run_go_on K E sp_Run_close sp_Run_next_pact, ?_, pure_ vs H Q E h⟩)
  exact (pss_cons (ps_set (i := 1) sc_Run_go_on.nd rfl (by first | exact Or.inl rfl | exact Or.inr rfl) (pe_fld (pv 0) rfl))
      (pss_cons (ps_set (i := 2) sc_Run_go_on.nd rfl (by first | exact Or.inl rfl | exact Or.inr rfl) (pe_me F_Run_next_pact hr (by decide) T.c_Run T.m_Run_next_pact (patR rfl rfl rfl rfl) (pv 0) (pa_cons (pe_fld (pv 1) rfl) pa_nil)))
      (pss_cons (ps_while (passes_of rfl) (pt_cmp (pc_notN (pv 2))) (pss_cons (ps_fld (pv 0) pe_bl rfl)
      (pss_cons (ps_fld (pv 1) (pv 2) rfl)
      (pss_one (ps_set (i := 2) sc_Run_go_on.nd rfl (by first | exact Or.inl rfl | exact Or.inr rfl) (pe_me F_Run_next_pact hr (by decide) T.c_Run T.m_Run_next_pact (patR rfl rfl rfl rfl) (pv 0) (pa_cons (pv 2) pa_nil)))))))
      (pss_one (ps_if (PW.pt (pw_and (pt_cmp (pc_eqI (pe_fld (pe_fld (pv 1) rfl) rfl) (pe_gi T.i_CLOSE))) (pw_and1 (pt_val (pe_me0 F_Run_close hr (by decide) T.c_Run T.m_Run_close pat0 (pv 0)))))) (pss_one (ps_fld (pv 0) pe_bl rfl)) pss_nil)))))
/-! #### Run_fits -/
def t_Run_fits (K : PySem.W.Frag) (E : XK) (sp_Run_value sp_Run_is_so : Sp) : TS :=
  (tSeq (tIfS (tB (tNeI (tOp (rIxT K) (tVar 1) (tC (.int 0))) (tOp (rIxT K) (tVar 2) (tC (.int 0))))) (tRet (tC (.bl false))) tNext)
    (tSeq (tIfS (tB (tEqI (tOp (rIxT K) (tVar 1) (tC (.int 0))) (tC (.int 2)))) (tRet (tMeth (He.ga K "Run") "is_so" sp_Run_is_so [] E0 (tVar 0) (tCons (tOp (rIxT K) (tVar 1) (tC (.int 1))) tNil))) tNext)
    (tSeq (tIfS (tB (tEqI (tOp (rIxT K) (tVar 1) (tC (.int 0))) (tC (.int 0)))) (tRet (tAndV (tOp (rEqD K) (tSl (rSlT K) (tVar 1) (tPart (tC (.int 1))) (tPart (tC (.int 4)))) (tSl (rSlT K) (tVar 2) (tPart (tC (.int 1))) (tPart (tC (.int 4))))) (tEqI (tMeth (He.ga K "Run") "value" sp_Run_value [] E0 (tVar 0) (tCons (tOp (rIxT K) (tVar 1) (tC (.int 4))) tNil)) (tOp (rIxT K) (tVar 2) (tC (.int 4)))))) tNext)
    (tRet (tAndV (tOp (rEqD K) (tSl (rSlT K) (tVar 1) (tPart (tC (.int 1))) (tPart (tC (.int 3)))) (tSl (rSlT K) (tVar 2) (tPart (tC (.int 1))) (tPart (tC (.int 3))))) (tCB (rAny K) (tCons (tLc (iTup K (tOp (rIxT K) (tVar 1) (tC (.int 3)))) (gTup K 2 (gCons (gName 3) (gCons (gName 4) gNil))) tYes (tChain rLeq rLeq (tVar 3) (tOp (rIxT K) (tVar 2) (tC (.int 3))) (tVar 4)) [3, 4]) tNil)))))))
abbrev N_Run_fits : List Str := ["self", "action", "given", "low", "high"]
abbrev P_Run_fits : List Str := ["self", "action", "given"]
theorem sc_Run_fits : FnScope N_Run_fits P_Run_fits (defScope s_Run_fits) := ⟨rfl, rfl, rfl, by decide +kernel, rfl, by decide +kernel, by decide +kernel⟩
theorem ok_Run_fits {P : Program} {w : World} {K : PySem.W.Frag} {mg : Str → Option Value} {base : Heap} (T : Tx K mg) {sp_Run_value : Sp} {sp_Run_is_so : Sp} (F_Run_value : Fok P w K mg base CX0 43 d_Run_value P_Run_value sp_Run_value) (F_Run_is_so : Fok P w K mg base CX0 43 d_Run_is_so P_Run_is_so sp_Run_is_so) {sp : Sp} (len : ∀ vs H Q E, sp vs H Q E → vs.length = 3)
    (pure_ : ∀ vs H Q E, sp vs H Q E → t_Run_fits K E sp_Run_value sp_Run_is_so { nx := fun _ H' => Q .non H', rt := Q } (start N_Run_fits vs) H) : Fok P w K mg base CX0 44 d_Run_fits P_Run_fits sp := by
  refine fok (k := 43) (d := d_Run_fits) (N := N_Run_fits) T.D_Run_fits rfl sc_Run_fits (fun _ _ _ _ _ _ us hl => match us, hl with | [_, _, _], _ => rfl) len (fun f cdv A outer s H vs Q E hr h => ⟨t_Run_fits K E sp_Run_value sp_Run_is_so, PSs.nox ?_, pure_ vs H Q E h⟩)
  exact (pss_cons (ps_if (pt_cmp (pc_neI (pe_ix ix_tup (pv 1) pe_int (fun _ _ => rfl)) (pe_ix ix_tup (pv 2) pe_int (fun _ _ => rfl)))) (pss_one (ps_ret pe_bl)) pss_nil)
      (pss_cons (ps_if (pt_cmp (pc_eqI (pe_ix ix_tup (pv 1) pe_int (fun _ _ => rfl)) (pe_gi T.i_LOOK))) (pss_one (ps_ret (pe_me F_Run_is_so hr (by decide) T.c_Run T.m_Run_is_so pat0 (pv 0) (pa_cons (pe_ix ix_tup (pv 1) pe_int (fun _ _ => rfl)) pa_nil)))) pss_nil)
      (pss_cons (ps_if (pt_cmp (pc_eqI (pe_ix ix_tup (pv 1) pe_int (fun _ _ => rfl)) (pe_gi T.i_DEPOSIT))) (pss_one (ps_ret (pe_and (pe_cmpR (op_eqD hr.units) (pe_slice sl_tup (pv 1) (po_some pe_int) (po_some pe_int)) (pe_slice sl_tup (pv 2) (po_some pe_int) (po_some pe_int)) (nomark _)) (pe_one (pe_cmp (pc_eqI (pe_me F_Run_value hr (by decide) T.c_Run T.m_Run_value pat0 (pv 0) (pa_cons (pe_ix ix_tup (pv 1) pe_int (fun _ _ => rfl)) pa_nil)) (pe_ix ix_tup (pv 2) pe_int (fun _ _ => rfl)))))))) pss_nil)
      (pss_one (ps_ret (pe_and (pe_cmpR (op_eqD hr.units) (pe_slice sl_tup (pv 1) (po_some pe_int) (po_some pe_int)) (pe_slice sl_tup (pv 2) (po_some pe_int) (po_some pe_int)) (nomark _)) (pe_one (pe_callB (cr_any rfl) (by rfl) T.z_any (by decide +kernel) (pa_cons (pe_lc (own := [("low", 3), ("high", 4)]) (g := (gTup K 2 (gCons (gName 3) (gCons (gName 4) gNil)))) (tt := tYes) rfl sc_Run_fits.nd (pi_tup (pe_ix ix_tup (pv 1) pe_int (fun _ _ => rfl))) (blkOk_by (by kernel_rfl)) (fun _ _ _ _ _ => (pg_tup rfl (pgs_cons (pg_name (i := 3) sc_Run_fits.nd rfl (by first | exact Or.inl rfl | exact Or.inr rfl)) (pgs_cons (pg_name (i := 4) sc_Run_fits.nd rfl (by first | exact Or.inl rfl | exact Or.inr rfl)) pgs_nil)))) (fun _ _ _ _ _ => pts_nil) (fun _ _ _ _ _ => (pe_chain op_le op_le (pv 3) (pe_ix ix_tup (pv 2) pe_int (fun _ _ => rfl)) (pv 4)))) pa_nil)))))))))
/-! #### Run_do_input -/
def t_Run_do_input (K : PySem.W.Frag) (E : XK) : TS :=
  (tIfS (tB (tEqI (tOp (rIxT K) (tVar 1) (tC (.int 0))) (tC (.int 1)))) (tSeq (tAsg (tFld K (tFld K (tVar 0) "state") "choices") (gName 2))
    (tAsg (tOp (rIxT K) (tVar 1) (tC (.int 3))) (gSub (tVar 2) (tOp (rIxT K) (tVar 1) (tC (.int 1))) rSetL))) (tIfS (tB (tEqI (tOp (rIxT K) (tVar 1) (tC (.int 0))) (tC (.int 0)))) (tSeq (tAsg (tVar 1) (gTup K 5 (gCons (gName 5) (gCons (gName 6) (gCons (gName 7) (gCons (gName 8) (gCons (gName 9) gNil)))))))
    (tSeq (tIfS (tB (tLe (tVar 9) (tC (.int 0)))) (tSeq (tDrop (tBM K "list" rAppend (tFld K (tVar 0) "warnings") (tCons (tLst (tCons (tC (.int 3)) (tCons (tVar 6) (tCons (tVar 8) (tCons (tVar 9) tNil))))) tNil)))
    tRetN) tNext)
    (tSeq (tAsg (tFld K (tFld K (tVar 0) "state") "accounts") (gName 3))
    (tSeq (tAsg (tFld K (tFld K (tVar 0) "state") "paid_in") (gName 4))
    (tSeq (tAsg (tOp rPlus (tOp (rIxL K) (tOp (rIxL K) (tVar 3) (tVar 6)) (tVar 8)) (tVar 9)) (gSub (tOp (rIxL K) (tVar 3) (tVar 6)) (tVar 8) rSetL))
    (tAsg (tOp rPlus (tOp (rIxL K) (tVar 4) (tVar 8)) (tVar 9)) (gSub (tVar 4) (tVar 8) rSetL))))))) tNext))
abbrev N_Run_do_input : List Str := ["self", "given", "choices", "accounts", "paid", "which", "account", "party", "kind", "amount"]
abbrev P_Run_do_input : List Str := ["self", "given"]
theorem sc_Run_do_input : FnScope N_Run_do_input P_Run_do_input (defScope s_Run_do_input) := ⟨rfl, rfl, rfl, by decide +kernel, rfl, by decide +kernel, by decide +kernel⟩
theorem ok_Run_do_input {P : Program} {w : World} {K : PySem.W.Frag} {mg : Str → Option Value} {base : Heap} (T : Tx K mg)   {sp : Sp} (len : ∀ vs H Q E, sp vs H Q E → vs.length = 2)
    (pure_ : ∀ vs H Q E, sp vs H Q E → t_Run_do_input K E { nx := fun _ H' => Q .non H', rt := Q } (start N_Run_do_input vs) H) : Fok P w K mg base CX0 1 d_Run_do_input P_Run_do_input sp := by
  refine fok (k := 0) (d := d_Run_do_input) (N := N_Run_do_input) T.D_Run_do_input rfl sc_Run_do_input (fun _ _ _ _ _ _ us hl => match us, hl with | [_, _], _ => rfl) len (fun f cdv A outer s H vs Q E hr h => ⟨t_Run_do_input K E, PSs.nox ?_, pure_ vs H Q E h⟩)
  exact (pss_one (ps_if (pt_cmp (pc_eqI (pe_ix ix_tup (pv 1) pe_int (fun _ _ => rfl)) (pe_gi T.i_CHOICE))) (pss_cons (ps_set (i := 2) sc_Run_do_input.nd rfl (by first | exact Or.inl rfl | exact Or.inr rfl) (pe_fld (pe_fld (pv 0) rfl) rfl))
      (pss_one (ps_asg (pe_ix ix_tup (pv 1) pe_int (fun _ _ => rfl)) (pg_sub (pv 2) (pe_ix ix_tup (pv 1) pe_int (fun _ _ => rfl)) set_list)))) (pss_one (ps_if (pt_cmp (pc_eqI (pe_ix ix_tup (pv 1) pe_int (fun _ _ => rfl)) (pe_gi T.i_DEPOSIT))) (pss_cons (ps_asg (pv 1) (pg_tup rfl (pgs_cons (pg_name (i := 5) sc_Run_do_input.nd rfl (by first | exact Or.inl rfl | exact Or.inr rfl)) (pgs_cons (pg_name (i := 6) sc_Run_do_input.nd rfl (by first | exact Or.inl rfl | exact Or.inr rfl)) (pgs_cons (pg_name (i := 7) sc_Run_do_input.nd rfl (by first | exact Or.inl rfl | exact Or.inr rfl)) (pgs_cons (pg_name (i := 8) sc_Run_do_input.nd rfl (by first | exact Or.inl rfl | exact Or.inr rfl)) (pgs_cons (pg_name (i := 9) sc_Run_do_input.nd rfl (by first | exact Or.inl rfl | exact Or.inr rfl)) pgs_nil)))))))
      (pss_cons (ps_if (pt_cmp (pc_le (pv 9) pe_int)) (pss_cons (ps_expr (pe_bm PySem.F.plainAttrs_list PySem.F.slot_list_append PySem.F.type_list_append mt_append (pe_fld (pv 0) rfl) (pa_cons (pe_lst (pa_cons (pe_gi T.i_NO_DEPOSIT) (pa_cons (pv 6) (pa_cons (pv 8) (pa_cons (pv 9) pa_nil))))) pa_nil)))
      (pss_one ps_retN)) pss_nil)
      (pss_cons (ps_set (i := 3) sc_Run_do_input.nd rfl (by first | exact Or.inl rfl | exact Or.inr rfl) (pe_fld (pe_fld (pv 0) rfl) rfl))
      (pss_cons (ps_set (i := 4) sc_Run_do_input.nd rfl (by first | exact Or.inl rfl | exact Or.inr rfl) (pe_fld (pe_fld (pv 0) rfl) rfl))
      (pss_cons (ps_asg (pe_op op_add (pe_ix ix_list (pe_ix ix_list (pv 3) (pv 6) (fun _ _ => rfl)) (pv 8) (fun _ _ => rfl)) (pv 9)) (pg_sub (pe_ix ix_list (pv 3) (pv 6) (fun _ _ => rfl)) (pv 8) set_list))
      (pss_one (ps_asg (pe_op op_add (pe_ix ix_list (pv 4) (pv 8) (fun _ _ => rfl)) (pv 9)) (pg_sub (pv 4) (pv 8) set_list)))))))) pss_nil))))
/-! #### Run_take -/
def t_Run_take (K : PySem.W.Frag) (E : XK) (sp_Run_fits sp_Run_do_input : Sp) : TS :=
  (tSeq (tAsg (tFld K (tVar 0) "state") (gName 2))
    (tSeq (tAsg (tFld K (tVar 2) "pact") (gName 3))
    (tSeq (tFor (iEnum K (tCons (tFld K (tVar 3) "actions") tNil)) (gTup K 2 (gCons (gName 4) (gCons (gName 5) gNil))) (tIfS (tB (tMeth (He.ga K "Run") "fits" sp_Run_fits [] E0 (tVar 0) (tCons (tVar 5) (tCons (tVar 1) tNil)))) (tSeq (tDrop (tMeth (He.ga K "Run") "do_input" sp_Run_do_input [] E0 (tVar 0) (tCons (tVar 1) tNil)))
    (tSeq (sFld K (tVar 2) (tOp (rIxL K) (tFld K (tVar 3) "inner") (tVar 4)) "pact")
    (tSeq (sFld K (tVar 0) (tC (.bl true)) "has_gone")
    tRetN))) tNext))
    (fun _ σ H => tMkR K (tCons (tC (.int (-6))) tNil) σ H fun cls d H' => E cls d H'))))
abbrev N_Run_take : List Str := ["self", "given", "state", "pact", "place", "action"]
abbrev P_Run_take : List Str := ["self", "given"]
theorem sc_Run_take : FnScope N_Run_take P_Run_take (defScope s_Run_take) := ⟨rfl, rfl, rfl, by decide +kernel, rfl, by decide +kernel, by decide +kernel⟩
theorem ok_Run_take {P : Program} {w : World} {K : PySem.W.Frag} {mg : Str → Option Value} {base : Heap} (T : Tx K mg) {sp_Run_fits : Sp} {sp_Run_do_input : Sp} (F_Run_fits : Fok P w K mg base CX0 44 d_Run_fits P_Run_fits sp_Run_fits) (F_Run_do_input : Fok P w K mg base CX0 1 d_Run_do_input P_Run_do_input sp_Run_do_input) {sp : Sp} (len : ∀ vs H Q E, sp vs H Q E → vs.length = 2)
    (pure_ : ∀ vs H Q E, sp vs H Q E → t_Run_take K E sp_Run_fits sp_Run_do_input { nx := fun _ H' => Q .non H', rt := Q } (start N_Run_take vs) H) : Fok P w K mg base (L2.CX P w) 45 d_Run_take P_Run_take sp := by
  refine fok (k := 44) (d := d_Run_take) (N := N_Run_take) T.D_Run_take rfl sc_Run_take (fun _ _ _ _ _ _ us hl => match us, hl with | [_, _], _ => rfl) len (fun f cdv A outer s H vs Q E hr h => ⟨t_Run_take K E sp_Run_fits sp_Run_do_input, ?_, pure_ vs H Q E h⟩)
  exact (pss_cons (ps_set (i := 2) sc_Run_take.nd rfl (by first | exact Or.inl rfl | exact Or.inr rfl) (pe_fld (pv 0) rfl))
      (pss_cons (ps_set (i := 3) sc_Run_take.nd rfl (by first | exact Or.inl rfl | exact Or.inr rfl) (pe_fld (pv 2) rfl))
      (pss_cons (ps_for (passes_of rfl) rfl (pi_enum (by rfl) T.z_enumerate (pa_cons (pe_fld (pv 3) rfl) pa_nil)) (pg_tup rfl (pgs_cons (pg_name (i := 4) sc_Run_take.nd rfl (by first | exact Or.inl rfl | exact Or.inr rfl)) (pgs_cons (pg_name (i := 5) sc_Run_take.nd rfl (by first | exact Or.inl rfl | exact Or.inr rfl)) pgs_nil))) (pss_one (ps_if (pt_val (pe_me F_Run_fits hr (by decide) T.c_Run T.m_Run_fits pat0 (pv 0) (pa_cons (pv 5) (pa_cons (pv 1) pa_nil)))) (pss_cons (ps_expr (pe_me F_Run_do_input hr (by decide) T.c_Run T.m_Run_do_input pat0 (pv 0) (pa_cons (pv 1) pa_nil)))
      (pss_cons (ps_fld (pv 2) (pe_ix ix_list (pe_fld (pv 3) rfl) (pv 4) (fun _ _ => rfl)) rfl)
      (pss_cons (ps_fld (pv 0) pe_bl rfl)
      (pss_one ps_retN)))) pss_nil)))
      (pss_one (ps_ref rfl T (dep_of hr) (L2.takes_of rfl rfl rfl rfl) (pa_cons (pe_gi T.i_NO_CASE) pa_nil))))))
/-! #### Run_all_told -/
def t_Run_all_told (K : PySem.W.Frag) (E : XK) : TS :=
  (tSeq (tAsg (tLst (tCons (tCB (rLenK K) (tCons (tFld K (tVar 0) "payments") tNil)) tNil)) (gName 1))
    (tSeq (tFor (iList K (tFld K (tVar 0) "payments")) (gName 2) (tDrop (tBM K "list" rExtend (tVar 1) (tCons (tVar 2) tNil))))
    (tSeq (tDrop (tBM K "list" rAppend (tVar 1) (tCons (tCB (rLenK K) (tCons (tFld K (tVar 0) "warnings") tNil)) tNil)))
    (tSeq (tFor (iList K (tFld K (tVar 0) "warnings")) (gName 3) (tDrop (tBM K "list" rExtend (tVar 1) (tCons (tVar 3) tNil))))
    (tRet (tVar 1))))))
abbrev N_Run_all_told : List Str := ["self", "found", "payment", "warning"]
abbrev P_Run_all_told : List Str := ["self"]
theorem sc_Run_all_told : FnScope N_Run_all_told P_Run_all_told (defScope s_Run_all_told) := ⟨rfl, rfl, rfl, by decide +kernel, rfl, by decide +kernel, by decide +kernel⟩
theorem ok_Run_all_told {P : Program} {w : World} {K : PySem.W.Frag} {mg : Str → Option Value} {base : Heap} (T : Tx K mg)   {sp : Sp} (len : ∀ vs H Q E, sp vs H Q E → vs.length = 1)
    (pure_ : ∀ vs H Q E, sp vs H Q E → t_Run_all_told K E { nx := fun _ H' => Q .non H', rt := Q } (start N_Run_all_told vs) H) : Fok P w K mg base CX0 1 d_Run_all_told P_Run_all_told sp := by
  refine fok (k := 0) (d := d_Run_all_told) (N := N_Run_all_told) T.D_Run_all_told rfl sc_Run_all_told (fun _ _ _ _ _ _ us hl => match us, hl with | [_], _ => rfl) len (fun f cdv A outer s H vs Q E hr h => ⟨t_Run_all_told K E, PSs.nox ?_, pure_ vs H Q E h⟩)
  exact (pss_cons (ps_set (i := 1) sc_Run_all_told.nd rfl (by first | exact Or.inl rfl | exact Or.inr rfl) (pe_lst (pa_cons (pe_callB call_len_seq (by rfl) T.z_len boot_len (pa_cons (pe_fld (pv 0) rfl) pa_nil)) pa_nil)))
      (pss_cons (ps_for PassesOwn.never rfl (pi_list (pe_fld (pv 0) rfl)) (pg_name (i := 2) sc_Run_all_told.nd rfl (by first | exact Or.inl rfl | exact Or.inr rfl)) (pss_one (ps_expr (pe_bm PySem.F.plainAttrs_list PySem.F.slot_list_extend PySem.F.type_list_extend mt_extend (pv 1) (pa_cons (pv 2) pa_nil)))))
      (pss_cons (ps_expr (pe_bm PySem.F.plainAttrs_list PySem.F.slot_list_append PySem.F.type_list_append mt_append (pv 1) (pa_cons (pe_callB call_len_seq (by rfl) T.z_len boot_len (pa_cons (pe_fld (pv 0) rfl) pa_nil)) pa_nil)))
      (pss_cons (ps_for PassesOwn.never rfl (pi_list (pe_fld (pv 0) rfl)) (pg_name (i := 3) sc_Run_all_told.nd rfl (by first | exact Or.inl rfl | exact Or.inr rfl)) (pss_one (ps_expr (pe_bm PySem.F.plainAttrs_list PySem.F.slot_list_extend PySem.F.type_list_extend mt_extend (pv 1) (pa_cons (pv 3) pa_nil)))))
      (pss_one (ps_ret (pv 1)))))))
/-! #### need -/
def t_need (K : PySem.W.Frag) (E : XK) : TS :=
  (tIfS (tNot (tB (tVar 0))) (fun _ σ H => tMkR K (tCons (tVar 1) tNil) σ H fun cls d H' => E cls d H') tNext)
abbrev N_need : List Str := ["fits", "answer"]
abbrev P_need : List Str := ["fits", "answer"]
theorem sc_need : FnScope N_need P_need (defScope s_need) := ⟨rfl, rfl, rfl, by decide +kernel, rfl, by decide +kernel, by decide +kernel⟩
theorem ok_need {P : Program} {w : World} {K : PySem.W.Frag} {mg : Str → Option Value} {base : Heap} (T : Tx K mg)   {sp : Sp} (len : ∀ vs H Q E, sp vs H Q E → vs.length = 2)
    (pure_ : ∀ vs H Q E, sp vs H Q E → t_need K E { nx := fun _ H' => Q .non H', rt := Q } (start N_need vs) H) : Fok P w K mg base (L2.CX P w) 1 d_need P_need sp := by
  refine fok (k := 0) (d := d_need) (N := N_need) T.D_need rfl sc_need (fun _ _ _ _ _ _ us hl => match us, hl with | [_, _], _ => rfl) len (fun f cdv A outer s H vs Q E hr h => ⟨t_need K E, ?_, pure_ vs H Q E h⟩)
  exact (pss_one (ps_if (pt_not (pt_val (pv 0))) (pss_one (ps_ref rfl T (dep_of hr) (L2.takes_of rfl rfl rfl rfl) (pa_cons (pv 1) pa_nil))) pss_nil))
/-! #### is_time -/
def t_is_time (K : PySem.W.Frag) (E : XK) : TS :=
  (tRet (tChain rLeq rLeq (tC (.int 0)) (tVar 0) (tC (.int 1099511627776))))
abbrev N_is_time : List Str := ["number"]
abbrev P_is_time : List Str := ["number"]
theorem sc_is_time : FnScope N_is_time P_is_time (defScope s_is_time) := ⟨rfl, rfl, rfl, by decide +kernel, rfl, by decide +kernel, by decide +kernel⟩
theorem ok_is_time {P : Program} {w : World} {K : PySem.W.Frag} {mg : Str → Option Value} {base : Heap} (T : Tx K mg)   {sp : Sp} (len : ∀ vs H Q E, sp vs H Q E → vs.length = 1)
    (pure_ : ∀ vs H Q E, sp vs H Q E → t_is_time K E { nx := fun _ H' => Q .non H', rt := Q } (start N_is_time vs) H) : Fok P w K mg base CX0 1 d_is_time P_is_time sp := by
  refine fok (k := 0) (d := d_is_time) (N := N_is_time) T.D_is_time rfl sc_is_time (fun _ _ _ _ _ _ us hl => match us, hl with | [_], _ => rfl) len (fun f cdv A outer s H vs Q E hr h => ⟨t_is_time K E, PSs.nox ?_, pure_ vs H Q E h⟩)
  exact (pss_one (ps_ret (pe_chain op_le op_le pe_int (pv 0) (pe_gi T.i_LAST_TIME))))
/-! #### read_input -/
def t_read_input (K : PySem.W.Frag) (E : XK) (sp_Numbers_amount sp_Numbers_party sp_Numbers_one sp_Numbers_kind_of_money : Sp) : TS :=
  (tSeq (tAsg (tMeth (He.ga K "Numbers") "one" sp_Numbers_one [] E (tVar 0) (tCons (tC (.int 0)) (tCons (tC (.int 2)) tNil))) (gName 1))
    (tSeq (tIfS (tB (tEqI (tVar 1) (tC (.int 0)))) (tSeq (tAsg (tMeth (He.ga K "Numbers") "party" sp_Numbers_party [] E (tVar 0) tNil) (gName 2))
    (tSeq (tAsg (tMeth (He.ga K "Numbers") "party" sp_Numbers_party [] E (tVar 0) tNil) (gName 3))
    (tSeq (tAsg (tMeth (He.ga K "Numbers") "kind_of_money" sp_Numbers_kind_of_money [] E (tVar 0) tNil) (gName 4))
    (tRet (tTup (tCons (tVar 1) (tCons (tVar 2) (tCons (tVar 3) (tCons (tVar 4) (tCons (tMeth (He.ga K "Numbers") "amount" sp_Numbers_amount [] E (tVar 0) tNil) tNil)))))))))) tNext)
    (tSeq (tIfS (tB (tEqI (tVar 1) (tC (.int 1)))) (tSeq (tAsg (tMeth (He.ga K "Numbers") "one" sp_Numbers_one [] E (tVar 0) (tCons (tC (.int 0)) (tCons (tOp rMinus (tC (.int 16)) (tC (.int 1))) tNil))) (gName 5))
    (tSeq (tAsg (tMeth (He.ga K "Numbers") "party" sp_Numbers_party [] E (tVar 0) tNil) (gName 3))
    (tRet (tTup (tCons (tVar 1) (tCons (tVar 5) (tCons (tVar 3) (tCons (tMeth (He.ga K "Numbers") "amount" sp_Numbers_amount [] E (tVar 0) tNil) tNil)))))))) tNext)
    (tRet (tTup (tCons (tVar 1) tNil))))))
abbrev N_read_input : List Str := ["numbers", "which", "account", "party", "kind", "choice"]
abbrev P_read_input : List Str := ["numbers"]
theorem sc_read_input : FnScope N_read_input P_read_input (defScope s_read_input) := ⟨rfl, rfl, rfl, by decide +kernel, rfl, by decide +kernel, by decide +kernel⟩
theorem ok_read_input {P : Program} {w : World} {K : PySem.W.Frag} {mg : Str → Option Value} {base : Heap} (T : Tx K mg) {sp_Numbers_amount : Sp} {sp_Numbers_party : Sp} {sp_Numbers_one : Sp} {sp_Numbers_kind_of_money : Sp} (F_Numbers_amount : Fok P w K mg base (L2N.CX P w) 3 d_Numbers_amount P_Numbers_amount sp_Numbers_amount) (F_Numbers_party : Fok P w K mg base (L2N.CX P w) 3 d_Numbers_party P_Numbers_party sp_Numbers_party) (F_Numbers_one : Fok P w K mg base (L2N.CX P w) 2 d_Numbers_one P_Numbers_one sp_Numbers_one) (F_Numbers_kind_of_money : Fok P w K mg base (L2N.CX P w) 3 d_Numbers_kind_of_money P_Numbers_kind_of_money sp_Numbers_kind_of_money) {sp : Sp} (len : ∀ vs H Q E, sp vs H Q E → vs.length = 1)
    (pure_ : ∀ vs H Q E, sp vs H Q E → t_read_input K E sp_Numbers_amount sp_Numbers_party sp_Numbers_one sp_Numbers_kind_of_money { nx := fun _ H' => Q .non H', rt := Q } (start N_read_input vs) H) : Fok P w K mg base (L2N.CX P w) 4 d_read_input P_read_input sp := by
  refine fok (k := 3) (d := d_read_input) (N := N_read_input) T.D_read_input rfl sc_read_input (fun _ _ _ _ _ _ us hl => match us, hl with | [_], _ => rfl) len (fun f cdv A outer s H vs Q E hr h => ⟨t_read_input K E sp_Numbers_amount sp_Numbers_party sp_Numbers_one sp_Numbers_kind_of_money, ?_, pure_ vs H Q E h⟩)
  exact (pss_cons (ps_set (i := 1) sc_read_input.nd rfl (by first | exact Or.inl rfl | exact Or.inr rfl) (pe_me F_Numbers_one hr (by decide) T.c_Numbers T.m_Numbers_one (patN rfl rfl rfl rfl) (pv 0) (pa_cons pe_int (pa_cons pe_int pa_nil))))
      (pss_cons (ps_if (pt_cmp (pc_eqI (pv 1) (pe_gi T.i_DEPOSIT))) (pss_cons (ps_set (i := 2) sc_read_input.nd rfl (by first | exact Or.inl rfl | exact Or.inr rfl) (pe_me0 F_Numbers_party hr (by decide) T.c_Numbers T.m_Numbers_party (patN rfl rfl rfl rfl) (pv 0)))
      (pss_cons (ps_set (i := 3) sc_read_input.nd rfl (by first | exact Or.inl rfl | exact Or.inr rfl) (pe_me0 F_Numbers_party hr (by decide) T.c_Numbers T.m_Numbers_party (patN rfl rfl rfl rfl) (pv 0)))
      (pss_cons (ps_set (i := 4) sc_read_input.nd rfl (by first | exact Or.inl rfl | exact Or.inr rfl) (pe_me0 F_Numbers_kind_of_money hr (by decide) T.c_Numbers T.m_Numbers_kind_of_money (patN rfl rfl rfl rfl) (pv 0)))
      (pss_one (ps_ret (pe_tup (pa_cons (pv 1) (pa_cons (pv 2) (pa_cons (pv 3) (pa_cons (pv 4) (pa_cons (pe_me0 F_Numbers_amount hr (by decide) T.c_Numbers T.m_Numbers_amount (patN rfl rfl rfl rfl) (pv 0)) pa_nil))))))))))) pss_nil)
      (pss_cons (ps_if (pt_cmp (pc_eqI (pv 1) (pe_gi T.i_CHOICE))) (pss_cons (ps_set (i := 5) sc_read_input.nd rfl (by first | exact Or.inl rfl | exact Or.inr rfl) (pe_me F_Numbers_one hr (by decide) T.c_Numbers T.m_Numbers_one (patN rfl rfl rfl rfl) (pv 0) (pa_cons pe_int (pa_cons (pe_op op_sub (pe_gi T.i_CHOICES) pe_int) pa_nil))))
      (pss_cons (ps_set (i := 3) sc_read_input.nd rfl (by first | exact Or.inl rfl | exact Or.inr rfl) (pe_me0 F_Numbers_party hr (by decide) T.c_Numbers T.m_Numbers_party (patN rfl rfl rfl rfl) (pv 0)))
      (pss_one (ps_ret (pe_tup (pa_cons (pv 1) (pa_cons (pv 5) (pa_cons (pv 3) (pa_cons (pe_me0 F_Numbers_amount hr (by decide) T.c_Numbers T.m_Numbers_amount (patN rfl rfl rfl rfl) (pv 0)) pa_nil))))))))) pss_nil)
      (pss_one (ps_ret (pe_tup (pa_cons (pv 1) pa_nil)))))))
/-! #### inputs_of -/
def t_inputs_of (K : PySem.W.Frag) (E : XK) (sp_Numbers_has_ended sp_read_input sp_Numbers_init : Sp) : TS :=
  (tSeq (tAsg (tMake (He.ga K "Numbers") sp_Numbers_init [] E0 (tCons (tVar 0) tNil)) (gName 1))
    (tSeq (tAsg (tLst tNil) (gName 2))
    (tSeq (tWhile (tNot (tB (tMeth (He.ga K "Numbers") "has_ended" sp_Numbers_has_ended [] E0 (tVar 1) tNil))) (tDrop (tBM K "list" rAppend (tVar 2) (tCons (tCall sp_read_input [] E (tCons (tVar 1) tNil)) tNil))))
    (tSeq (tIfS (tB (tGt (tCB (rLenK K) (tCons (tVar 2) tNil)) (tC (.int 100)))) (fun _ _ H => E (XN K) none H) tNext)
    (tRet (tVar 2))))))
abbrev N_inputs_of : List Str := ["row", "numbers", "found"]
abbrev P_inputs_of : List Str := ["row"]
theorem sc_inputs_of : FnScope N_inputs_of P_inputs_of (defScope s_inputs_of) := ⟨rfl, rfl, rfl, by decide +kernel, rfl, by decide +kernel, by decide +kernel⟩
theorem ok_inputs_of {P : Program} {w : World} {K : PySem.W.Frag} {mg : Str → Option Value} {base : Heap} (T : Tx K mg) {sp_Numbers_has_ended : Sp} {sp_read_input : Sp} {sp_Numbers_init : Sp} (F_Numbers_has_ended : Fok P w K mg base CX0 1 d_Numbers_has_ended P_Numbers_has_ended sp_Numbers_has_ended) (F_read_input : Fok P w K mg base (L2N.CX P w) 4 d_read_input P_read_input sp_read_input) (F_Numbers_init : Fok P w K mg base CX0 1 d_Numbers_init P_Numbers_init sp_Numbers_init) {sp : Sp} (len : ∀ vs H Q E, sp vs H Q E → vs.length = 1)
    (pure_ : ∀ vs H Q E, sp vs H Q E → t_inputs_of K E sp_Numbers_has_ended sp_read_input sp_Numbers_init { nx := fun _ H' => Q .non H', rt := Q } (start N_inputs_of vs) H) : Fok P w K mg base (L2N.CX P w) 5 d_inputs_of P_inputs_of sp := by
  refine fok (k := 4) (d := d_inputs_of) (N := N_inputs_of) T.D_inputs_of rfl sc_inputs_of (fun _ _ _ _ _ _ us hl => match us, hl with | [_], _ => rfl) len (fun f cdv A outer s H vs Q E hr h => ⟨t_inputs_of K E sp_Numbers_has_ended sp_read_input sp_Numbers_init, ?_, pure_ vs H Q E h⟩)
  exact (pss_cons (ps_set (i := 1) sc_inputs_of.nd rfl (by first | exact Or.inl rfl | exact Or.inr rfl) (pe_mk T.k_Numbers F_Numbers_init rfl hr (by decide) T.g_Numbers pat0 (pa_cons (pv 0) pa_nil)))
      (pss_cons (ps_set (i := 2) sc_inputs_of.nd rfl (by first | exact Or.inl rfl | exact Or.inr rfl) (pe_lst pa_nil))
      (pss_cons (ps_while (passes_of rfl) (pt_not (pt_val (pe_me0 F_Numbers_has_ended hr (by decide) T.c_Numbers T.m_Numbers_has_ended pat0 (pv 1)))) (pss_one (ps_expr (pe_bm PySem.F.plainAttrs_list PySem.F.slot_list_append PySem.F.type_list_append mt_append (pv 2) (pa_cons (pe_fu F_read_input hr (by decide) T.g_read_input (patN rfl rfl rfl rfl) (pa_cons (pv 1) pa_nil)) pa_nil)))))
      (pss_cons (ps_if (pt_cmp (pc_gt (pe_callB call_len_seq (by rfl) T.z_len boot_len (pa_cons (pv 2) pa_nil)) (pe_gi T.i_MOST_INPUTS))) (pss_one (ps_not rfl T (tkN rfl rfl rfl rfl))) pss_nil)
      (pss_one (ps_ret (pv 2)))))))
/-! #### Desk_init -/
def t_Desk_init (K : PySem.W.Frag) (E : XK) (sp_State_init sp_pact_of : Sp) : TS :=
  (tSeq (sFld K (tVar 0) (tLst (tCons (tC (.int 0)) tNil)) "numbers")
    (sFld K (tVar 0) (tMake (He.ga K "State") sp_State_init [] E0 (tCons (tCall sp_pact_of [] E0 (tCons (tFld K (tVar 0) "numbers") tNil)) (tCons (tC (.int 0)) tNil))) "state"))
abbrev N_Desk_init : List Str := ["self"]
abbrev P_Desk_init : List Str := ["self"]
theorem sc_Desk_init : FnScope N_Desk_init P_Desk_init (defScope s_Desk_init) := ⟨rfl, rfl, rfl, by decide +kernel, rfl, by decide +kernel, by decide +kernel⟩
theorem ok_Desk_init {P : Program} {w : World} {K : PySem.W.Frag} {mg : Str → Option Value} {base : Heap} (T : Tx K mg) {sp_State_init : Sp} {sp_pact_of : Sp} (F_State_init : Fok P w K mg base CX0 1 d_State_init P_State_init sp_State_init) (F_pact_of : Fok P w K mg base (L2N.CX P w) 49 d_pact_of P_pact_of sp_pact_of) {sp : Sp} (len : ∀ vs H Q E, sp vs H Q E → vs.length = 1)
    (pure_ : ∀ vs H Q E, sp vs H Q E → t_Desk_init K E sp_State_init sp_pact_of { nx := fun _ H' => Q .non H', rt := Q } (start N_Desk_init vs) H) : Fok P w K mg base CX0 50 d_Desk_init P_Desk_init sp := by
  refine fok (k := 49) (d := d_Desk_init) (N := N_Desk_init) T.D_Desk_init rfl sc_Desk_init (fun _ _ _ _ _ _ us hl => match us, hl with | [_], _ => rfl) len (fun f cdv A outer s H vs Q E hr h => ⟨t_Desk_init K E sp_State_init sp_pact_of, PSs.nox ?_, pure_ vs H Q E h⟩)
  exact (pss_cons (ps_fld (pv 0) (pe_lst (pa_cons (pe_gi T.i_CLOSE) pa_nil)) rfl)
      (pss_one (ps_fld (pv 0) (pe_mk T.k_State F_State_init rfl hr (by decide) T.g_State pat0 (pa_cons (pe_fu F_pact_of hr (by decide) T.g_pact_of patN0 (pa_cons (pe_fld (pv 0) rfl) pa_nil)) (pa_cons pe_int pa_nil))) rfl)))
/-! #### Desk_begin -/
def t_Desk_begin (K : PySem.W.Frag) (E : XK) (sp_State_init sp_pact_of sp_need sp_is_time : Sp) : TS :=
  (tSeq (tDrop (tCall sp_need [] E (tCons (tCall sp_is_time [] E0 (tCons (tVar 1) tNil)) (tCons (tC (.int (-2))) tNil))))
    (tSeq (fun D σ H => (tAsg (tCallS sp_pact_of (WE (wOnly K (XN K) (fun _ _ _ => (fun _ σ H => tMkR K (tCons (tC (.int (-2))) tNil) σ H fun cls d H' => E cls d H')) (fun cls d _ H => E cls d H) D)) (tCons (tVar 2) tNil)) (gName 3)) D σ H)
    (tSeq (sFld K (tVar 0) (tVar 2) "numbers")
    (tSeq (sFld K (tVar 0) (tMake (He.ga K "State") sp_State_init [] E0 (tCons (tVar 3) (tCons (tVar 1) tNil))) "state")
    (tRet (tLst (tCons (tC (.int 0)) (tCons (tFld K (tVar 3) "last_time") (tCons (tFld K (tVar 3) "inputs") tNil)))))))))
abbrev N_Desk_begin : List Str := ["self", "time", "row", "pact"]
abbrev P_Desk_begin : List Str := ["self", "time", "row"]
theorem sc_Desk_begin : FnScope N_Desk_begin P_Desk_begin (defScope s_Desk_begin) := ⟨rfl, rfl, rfl, by decide +kernel, rfl, by decide +kernel, by decide +kernel⟩
theorem ok_Desk_begin {P : Program} {w : World} {K : PySem.W.Frag} {mg : Str → Option Value} {base : Heap} (T : Tx K mg) {sp_State_init : Sp} {sp_pact_of : Sp} {sp_need : Sp} {sp_is_time : Sp} (F_State_init : Fok P w K mg base CX0 1 d_State_init P_State_init sp_State_init) (F_pact_of : Fok P w K mg base (L2N.CX P w) 49 d_pact_of P_pact_of sp_pact_of) (F_need : Fok P w K mg base (L2.CX P w) 1 d_need P_need sp_need) (F_is_time : Fok P w K mg base CX0 1 d_is_time P_is_time sp_is_time) {sp : Sp} (len : ∀ vs H Q E, sp vs H Q E → vs.length = 3)
    (pure_ : ∀ vs H Q E, sp vs H Q E → t_Desk_begin K E sp_State_init sp_pact_of sp_need sp_is_time { nx := fun _ H' => Q .non H', rt := Q } (start N_Desk_begin vs) H) : Fok P w K mg base (L2.CX P w) 50 d_Desk_begin P_Desk_begin sp := by
  refine fok (k := 49) (d := d_Desk_begin) (N := N_Desk_begin) T.D_Desk_begin rfl sc_Desk_begin (fun _ _ _ _ _ _ us hl => match us, hl with | [_, _, _], _ => rfl) len (fun f cdv A outer s H vs Q E hr h => ⟨t_Desk_begin K E sp_State_init sp_pact_of sp_need sp_is_time, ?_, pure_ vs H Q E h⟩)
  exact (pss_cons (ps_expr (pe_fu F_need hr (by decide) T.g_need (patR rfl rfl rfl rfl) (pa_cons (pe_fu F_is_time hr (by decide) T.g_is_time pat0 (pa_cons (pv 1) pa_nil)) (pa_cons (pe_gi T.i_OUT_OF_RANGE) pa_nil))))
      (pss_cons (L2H.ps_try_onlyX (tb := fun W => (tAsg (tCallS sp_pact_of (WE W) (tCons (tVar 2) tNil)) (gName 3))) (ts := fun _ _ _ => (fun _ σ H => tMkR K (tCons (tC (.int (-2))) tNil) σ H fun cls d H' => E cls d H')) (Wout := fun cls d _ H => E cls d H) rfl rfl ⟨rfl, by decide, Or.inl T.g_NotThat⟩ (L2H.passesAt_of rfl) (L2.takes_of rfl rfl rfl rfl) (fun W pn xe tk _ _ => (pss_one (ps_set (i := 3) sc_Desk_begin.nd rfl (by first | exact Or.inl rfl | exact Or.inr rfl) (pe_fuS F_pact_of hr (by decide) T.g_pact_of (fun σ => L2N.passAt tk σ) (pa_cons (pv 2) pa_nil))))) (fun _ _ _ _ _ _ _ tkS hot => (pss_one (ps_refH hot T (by have z := dep_of hr; exact z) tkS (pa_cons (pe_gi T.i_OUT_OF_RANGE) pa_nil)))))
      (pss_cons (ps_fld (pv 0) (pv 2) rfl)
      (pss_cons (ps_fld (pv 0) (pe_mk T.k_State F_State_init rfl hr (by decide) T.g_State pat0 (pa_cons (pv 3) (pa_cons (pv 1) pa_nil))) rfl)
      (pss_one (ps_ret (pe_lst (pa_cons pe_int (pa_cons (pe_fld (pv 3) rfl) (pa_cons (pe_fld (pv 3) rfl) pa_nil))))))))))
/-! #### Desk_run -/
def t_Desk_run (K : PySem.W.Frag) (E : XK) (sp_need sp_Run_go_on sp_Run_take sp_Run_init sp_State_twin sp_inputs_of sp_is_time : Sp) : TS :=
  (tSeq (tDrop (tCall sp_need [] E (tCons (tAndV (tCall sp_is_time [] E0 (tCons (tVar 1) tNil)) (tCall sp_is_time [] E0 (tCons (tVar 2) tNil))) (tCons (tC (.int (-2))) tNil))))
    (tSeq (fun D σ H => (tAsg (tCallS sp_inputs_of (WE (wOnly K (XN K) (fun _ _ _ => (fun _ σ H => tMkR K (tCons (tC (.int (-2))) tNil) σ H fun cls d H' => E cls d H')) (fun cls d _ H => E cls d H) D)) (tCons (tVar 3) tNil)) (gName 6)) D σ H)
    (tSeq (tDrop (tCall sp_need [] E (tCons (tLe (tVar 1) (tVar 2)) (tCons (tC (.int (-3))) tNil))))
    (tSeq (tDrop (tCall sp_need [] E (tCons (tGe (tVar 2) (tFld K (tFld K (tVar 0) "state") "time")) (tCons (tC (.int (-4))) tNil))))
    (tSeq (tAsg (tMake (He.ga K "Run") sp_Run_init [] E0 (tCons (tMeth (He.ga K "State") "twin" sp_State_twin [] E0 (tFld K (tVar 0) "state") tNil) (tCons (tCB rMaxK (tCons (tVar 1) (tCons (tFld K (tFld K (tVar 0) "state") "time") tNil))) (tCons (tVar 2) tNil)))) (gName 4))
    (tSeq (sFld K (tFld K (tVar 4) "state") (tFld K (tVar 4) "start") "time")
    (tSeq (tFor (iList K (tVar 6)) (gName 5) (tSeq (tDrop (tMeth (He.ga K "Run") "go_on" sp_Run_go_on [] E (tVar 4) tNil))
    (tDrop (tMeth (He.ga K "Run") "take" sp_Run_take [] E (tVar 4) (tCons (tVar 5) tNil)))))
    (tSeq (tDrop (tMeth (He.ga K "Run") "go_on" sp_Run_go_on [] E (tVar 4) tNil))
    (tSeq (tDrop (tCall sp_need [] E (tCons (tFld K (tVar 4) "has_gone") (tCons (tC (.int (-7))) tNil))))
    (tRet (tVar 4)))))))))))
abbrev N_Desk_run : List Str := ["self", "start", "end", "row", "run", "given", "inputs"]
abbrev P_Desk_run : List Str := ["self", "start", "end", "row"]
theorem sc_Desk_run : FnScope N_Desk_run P_Desk_run (defScope s_Desk_run) := ⟨rfl, rfl, rfl, by decide +kernel, rfl, by decide +kernel, by decide +kernel⟩
theorem ok_Desk_run {P : Program} {w : World} {K : PySem.W.Frag} {mg : Str → Option Value} {base : Heap} (T : Tx K mg) {sp_need : Sp} {sp_Run_go_on : Sp} {sp_Run_take : Sp} {sp_Run_init : Sp} {sp_State_twin : Sp} {sp_inputs_of : Sp} {sp_is_time : Sp} (F_need : Fok P w K mg base (L2.CX P w) 1 d_need P_need sp_need) (F_Run_go_on : Fok P w K mg base (L2.CX P w) 46 d_Run_go_on P_Run_go_on sp_Run_go_on) (F_Run_take : Fok P w K mg base (L2.CX P w) 45 d_Run_take P_Run_take sp_Run_take) (F_Run_init : Fok P w K mg base CX0 1 d_Run_init P_Run_init sp_Run_init) (F_State_twin : Fok P w K mg base CX0 3 d_State_twin P_State_twin sp_State_twin) (F_inputs_of : Fok P w K mg base (L2N.CX P w) 5 d_inputs_of P_inputs_of sp_inputs_of) (F_is_time : Fok P w K mg base CX0 1 d_is_time P_is_time sp_is_time) {sp : Sp} (len : ∀ vs H Q E, sp vs H Q E → vs.length = 4)
    (pure_ : ∀ vs H Q E, sp vs H Q E → t_Desk_run K E sp_need sp_Run_go_on sp_Run_take sp_Run_init sp_State_twin sp_inputs_of sp_is_time { nx := fun _ H' => Q .non H', rt := Q } (start N_Desk_run vs) H) : Fok P w K mg base (L2.CX P w) 47 d_Desk_run P_Desk_run sp := by
  refine fok (k := 46) (d := d_Desk_run) (N := N_Desk_run) T.D_Desk_run rfl sc_Desk_run (fun _ _ _ _ _ _ us hl => match us, hl with | [_, _, _, _], _ => rfl) len (fun f cdv A outer s H vs Q E hr h => ⟨t_Desk_run K E sp_need sp_Run_go_on sp_Run_take sp_Run_init sp_State_twin sp_inputs_of sp_is_time, ?_, pure_ vs H Q E h⟩)
  exact (pss_cons (ps_expr (pe_fu F_need hr (by decide) T.g_need (patR rfl rfl rfl rfl) (pa_cons (pe_and (pe_fu F_is_time hr (by decide) T.g_is_time pat0 (pa_cons (pv 1) pa_nil)) (pe_one (pe_fu F_is_time hr (by decide) T.g_is_time pat0 (pa_cons (pv 2) pa_nil)))) (pa_cons (pe_gi T.i_OUT_OF_RANGE) pa_nil))))
      (pss_cons (L2H.ps_try_onlyX (tb := fun W => (tAsg (tCallS sp_inputs_of (WE W) (tCons (tVar 3) tNil)) (gName 6))) (ts := fun _ _ _ => (fun _ σ H => tMkR K (tCons (tC (.int (-2))) tNil) σ H fun cls d H' => E cls d H')) (Wout := fun cls d _ H => E cls d H) rfl rfl ⟨rfl, by decide, Or.inl T.g_NotThat⟩ (L2H.passesAt_of rfl) (L2.takes_of rfl rfl rfl rfl) (fun W pn xe tk _ _ => (pss_one (ps_set (i := 6) sc_Desk_run.nd rfl (by first | exact Or.inl rfl | exact Or.inr rfl) (pe_fuS F_inputs_of hr (by decide) T.g_inputs_of (fun σ => L2N.passAt tk σ) (pa_cons (pv 3) pa_nil))))) (fun _ _ _ _ _ _ _ tkS hot => (pss_one (ps_refH hot T (by have z := dep_of hr; exact z) tkS (pa_cons (pe_gi T.i_OUT_OF_RANGE) pa_nil)))))
      (pss_cons (ps_expr (pe_fu F_need hr (by decide) T.g_need (patR rfl rfl rfl rfl) (pa_cons (pe_cmp (pc_le (pv 1) (pv 2))) (pa_cons (pe_gi T.i_END_BEFORE_START) pa_nil))))
      (pss_cons (ps_expr (pe_fu F_need hr (by decide) T.g_need (patR rfl rfl rfl rfl) (pa_cons (pe_cmp (pc_ge (pv 2) (pe_fld (pe_fld (pv 0) rfl) rfl))) (pa_cons (pe_gi T.i_TOO_EARLY) pa_nil))))
      (pss_cons (ps_set (i := 4) sc_Desk_run.nd rfl (by first | exact Or.inl rfl | exact Or.inr rfl) (pe_mk T.k_Run F_Run_init rfl hr (by decide) T.g_Run pat0 (pa_cons (pe_me0 F_State_twin hr (by decide) T.c_State T.m_State_twin pat0 (pe_fld (pv 0) rfl)) (pa_cons (pe_callB (call_max2 rfl) (by rfl) T.z_max (by decide +kernel) (pa_cons (pv 1) (pa_cons (pe_fld (pe_fld (pv 0) rfl) rfl) pa_nil))) (pa_cons (pv 2) pa_nil)))))
      (pss_cons (ps_fld (pe_fld (pv 4) rfl) (pe_fld (pv 4) rfl) rfl)
      (pss_cons (ps_for (passes_of rfl) rfl (pi_list (pv 6)) (pg_name (i := 5) sc_Desk_run.nd rfl (by first | exact Or.inl rfl | exact Or.inr rfl)) (pss_cons (ps_expr (pe_me0 F_Run_go_on hr (by decide) T.c_Run T.m_Run_go_on (patR rfl rfl rfl rfl) (pv 4)))
      (pss_one (ps_expr (pe_me F_Run_take hr (by decide) T.c_Run T.m_Run_take (patR rfl rfl rfl rfl) (pv 4) (pa_cons (pv 5) pa_nil))))))
      (pss_cons (ps_expr (pe_me0 F_Run_go_on hr (by decide) T.c_Run T.m_Run_go_on (patR rfl rfl rfl rfl) (pv 4)))
      (pss_cons (ps_expr (pe_fu F_need hr (by decide) T.g_need (patR rfl rfl rfl rfl) (pa_cons (pe_fld (pv 4) rfl) (pa_cons (pe_gi T.i_NOTHING_HAPPENS) pa_nil))))
      (pss_one (ps_ret (pv 4))))))))))))
/-! #### Desk_transact -/
def t_Desk_transact (K : PySem.W.Frag) (E : XK) (sp_Run_all_told sp_Desk_run : Sp) : TS :=
  (tSeq (tAsg (tMeth (He.ga K "Desk") "run" sp_Desk_run [] E (tVar 0) (tCons (tVar 1) (tCons (tVar 2) (tCons (tVar 3) tNil)))) (gName 4))
    (tSeq (sFld K (tVar 0) (tFld K (tVar 4) "state") "state")
    (tRet (tMeth (He.ga K "Run") "all_told" sp_Run_all_told [] E0 (tVar 4) tNil))))
abbrev N_Desk_transact : List Str := ["self", "start", "end", "row", "run"]
abbrev P_Desk_transact : List Str := ["self", "start", "end", "row"]
theorem sc_Desk_transact : FnScope N_Desk_transact P_Desk_transact (defScope s_Desk_transact) := ⟨rfl, rfl, rfl, by decide +kernel, rfl, by decide +kernel, by decide +kernel⟩
theorem ok_Desk_transact {P : Program} {w : World} {K : PySem.W.Frag} {mg : Str → Option Value} {base : Heap} (T : Tx K mg) {sp_Run_all_told : Sp} {sp_Desk_run : Sp} (F_Run_all_told : Fok P w K mg base CX0 1 d_Run_all_told P_Run_all_told sp_Run_all_told) (F_Desk_run : Fok P w K mg base (L2.CX P w) 47 d_Desk_run P_Desk_run sp_Desk_run) {sp : Sp} (len : ∀ vs H Q E, sp vs H Q E → vs.length = 4)
    (pure_ : ∀ vs H Q E, sp vs H Q E → t_Desk_transact K E sp_Run_all_told sp_Desk_run { nx := fun _ H' => Q .non H', rt := Q } (start N_Desk_transact vs) H) : Fok P w K mg base (L2.CX P w) 48 d_Desk_transact P_Desk_transact sp := by
  refine fok (k := 47) (d := d_Desk_transact) (N := N_Desk_transact) T.D_Desk_transact rfl sc_Desk_transact (fun _ _ _ _ _ _ us hl => match us, hl with | [_, _, _, _], _ => rfl) len (fun f cdv A outer s H vs Q E hr h => ⟨t_Desk_transact K E sp_Run_all_told sp_Desk_run, ?_, pure_ vs H Q E h⟩)
  exact (pss_cons (ps_set (i := 4) sc_Desk_transact.nd rfl (by first | exact Or.inl rfl | exact Or.inr rfl) (pe_me F_Desk_run hr (by decide) T.c_Desk T.m_Desk_run (patR rfl rfl rfl rfl) (pv 0) (pa_cons (pv 1) (pa_cons (pv 2) (pa_cons (pv 3) pa_nil)))))
      (pss_cons (ps_fld (pv 0) (pe_fld (pv 4) rfl) rfl)
      (pss_one (ps_ret (pe_me0 F_Run_all_told hr (by decide) T.c_Run T.m_Run_all_told pat0 (pv 4))))))
/-! #### Desk_account -/
def t_Desk_account (K : PySem.W.Frag) (E : XK) (sp_need : Sp) : TS :=
  (tSeq (tDrop (tCall sp_need [] E (tCons (tAndV (tChain rLeq rLess (tC (.int 0)) (tVar 1) (tC (.int 8))) (tChain rLeq rLess (tC (.int 0)) (tVar 2) (tC (.int 4)))) (tCons (tC (.int (-2))) tNil))))
    (tRet (tLst (tCons (tC (.int 0)) (tCons (tOp (rIxL K) (tOp (rIxL K) (tFld K (tFld K (tVar 0) "state") "accounts") (tVar 1)) (tVar 2)) tNil)))))
abbrev N_Desk_account : List Str := ["self", "party", "kind"]
abbrev P_Desk_account : List Str := ["self", "party", "kind"]
theorem sc_Desk_account : FnScope N_Desk_account P_Desk_account (defScope s_Desk_account) := ⟨rfl, rfl, rfl, by decide +kernel, rfl, by decide +kernel, by decide +kernel⟩
theorem ok_Desk_account {P : Program} {w : World} {K : PySem.W.Frag} {mg : Str → Option Value} {base : Heap} (T : Tx K mg) {sp_need : Sp} (F_need : Fok P w K mg base (L2.CX P w) 1 d_need P_need sp_need) {sp : Sp} (len : ∀ vs H Q E, sp vs H Q E → vs.length = 3)
    (pure_ : ∀ vs H Q E, sp vs H Q E → t_Desk_account K E sp_need { nx := fun _ H' => Q .non H', rt := Q } (start N_Desk_account vs) H) : Fok P w K mg base (L2.CX P w) 2 d_Desk_account P_Desk_account sp := by
  refine fok (k := 1) (d := d_Desk_account) (N := N_Desk_account) T.D_Desk_account rfl sc_Desk_account (fun _ _ _ _ _ _ us hl => match us, hl with | [_, _, _], _ => rfl) len (fun f cdv A outer s H vs Q E hr h => ⟨t_Desk_account K E sp_need, ?_, pure_ vs H Q E h⟩)
  exact (pss_cons (ps_expr (pe_fu F_need hr (by decide) T.g_need (patR rfl rfl rfl rfl) (pa_cons (pe_and (pe_chain op_le op_lt pe_int (pv 1) (pe_gi T.i_PARTIES)) (pe_one (pe_chain op_le op_lt pe_int (pv 2) (pe_gi T.i_KINDS)))) (pa_cons (pe_gi T.i_OUT_OF_RANGE) pa_nil))))
      (pss_one (ps_ret (pe_lst (pa_cons pe_int (pa_cons (pe_ix ix_list (pe_ix ix_list (pe_fld (pe_fld (pv 0) rfl) rfl) (pv 1) (fun _ _ => rfl)) (pv 2) (fun _ _ => rfl)) pa_nil))))))
/-! #### Desk_choice -/
def t_Desk_choice (K : PySem.W.Frag) (E : XK) (sp_need : Sp) : TS :=
  (tSeq (tDrop (tCall sp_need [] E (tCons (tChain rLeq rLess (tC (.int 0)) (tVar 1) (tC (.int 16))) (tCons (tC (.int (-2))) tNil))))
    (tSeq (tDrop (tCall sp_need [] E (tCons (tNotN (tOp (rIxL K) (tFld K (tFld K (tVar 0) "state") "choices") (tVar 1))) (tCons (tC (.int (-1))) tNil))))
    (tRet (tLst (tCons (tC (.int 0)) (tCons (tOp (rIxL K) (tFld K (tFld K (tVar 0) "state") "choices") (tVar 1)) tNil))))))
abbrev N_Desk_choice : List Str := ["self", "number"]
abbrev P_Desk_choice : List Str := ["self", "number"]
theorem sc_Desk_choice : FnScope N_Desk_choice P_Desk_choice (defScope s_Desk_choice) := ⟨rfl, rfl, rfl, by decide +kernel, rfl, by decide +kernel, by decide +kernel⟩
theorem ok_Desk_choice {P : Program} {w : World} {K : PySem.W.Frag} {mg : Str → Option Value} {base : Heap} (T : Tx K mg) {sp_need : Sp} (F_need : Fok P w K mg base (L2.CX P w) 1 d_need P_need sp_need) {sp : Sp} (len : ∀ vs H Q E, sp vs H Q E → vs.length = 2)
    (pure_ : ∀ vs H Q E, sp vs H Q E → t_Desk_choice K E sp_need { nx := fun _ H' => Q .non H', rt := Q } (start N_Desk_choice vs) H) : Fok P w K mg base (L2.CX P w) 2 d_Desk_choice P_Desk_choice sp := by
  refine fok (k := 1) (d := d_Desk_choice) (N := N_Desk_choice) T.D_Desk_choice rfl sc_Desk_choice (fun _ _ _ _ _ _ us hl => match us, hl with | [_, _], _ => rfl) len (fun f cdv A outer s H vs Q E hr h => ⟨t_Desk_choice K E sp_need, ?_, pure_ vs H Q E h⟩)
  exact (pss_cons (ps_expr (pe_fu F_need hr (by decide) T.g_need (patR rfl rfl rfl rfl) (pa_cons (pe_chain op_le op_lt pe_int (pv 1) (pe_gi T.i_CHOICES)) (pa_cons (pe_gi T.i_OUT_OF_RANGE) pa_nil))))
      (pss_cons (ps_expr (pe_fu F_need hr (by decide) T.g_need (patR rfl rfl rfl rfl) (pa_cons (pe_cmp (pc_notN (pe_ix ix_list (pe_fld (pe_fld (pv 0) rfl) rfl) (pv 1) (fun _ _ => rfl)))) (pa_cons (pe_gi T.i_NOT_MADE) pa_nil))))
      (pss_one (ps_ret (pe_lst (pa_cons pe_int (pa_cons (pe_ix ix_list (pe_fld (pe_fld (pv 0) rfl) rfl) (pv 1) (fun _ _ => rfl)) pa_nil)))))))
/-! #### Desk_slot -/
def t_Desk_slot (K : PySem.W.Frag) (E : XK) (sp_need : Sp) : TS :=
  (tSeq (tDrop (tCall sp_need [] E (tCons (tChain rLeq rLess (tC (.int 0)) (tVar 1) (tC (.int 16))) (tCons (tC (.int (-2))) tNil))))
    (tSeq (tDrop (tCall sp_need [] E (tCons (tNotN (tOp (rIxL K) (tFld K (tFld K (tVar 0) "state") "slots") (tVar 1))) (tCons (tC (.int (-1))) tNil))))
    (tRet (tLst (tCons (tC (.int 0)) (tCons (tOp (rIxL K) (tFld K (tFld K (tVar 0) "state") "slots") (tVar 1)) tNil))))))
abbrev N_Desk_slot : List Str := ["self", "number"]
abbrev P_Desk_slot : List Str := ["self", "number"]
theorem sc_Desk_slot : FnScope N_Desk_slot P_Desk_slot (defScope s_Desk_slot) := ⟨rfl, rfl, rfl, by decide +kernel, rfl, by decide +kernel, by decide +kernel⟩
theorem ok_Desk_slot {P : Program} {w : World} {K : PySem.W.Frag} {mg : Str → Option Value} {base : Heap} (T : Tx K mg) {sp_need : Sp} (F_need : Fok P w K mg base (L2.CX P w) 1 d_need P_need sp_need) {sp : Sp} (len : ∀ vs H Q E, sp vs H Q E → vs.length = 2)
    (pure_ : ∀ vs H Q E, sp vs H Q E → t_Desk_slot K E sp_need { nx := fun _ H' => Q .non H', rt := Q } (start N_Desk_slot vs) H) : Fok P w K mg base (L2.CX P w) 2 d_Desk_slot P_Desk_slot sp := by
  refine fok (k := 1) (d := d_Desk_slot) (N := N_Desk_slot) T.D_Desk_slot rfl sc_Desk_slot (fun _ _ _ _ _ _ us hl => match us, hl with | [_, _], _ => rfl) len (fun f cdv A outer s H vs Q E hr h => ⟨t_Desk_slot K E sp_need, ?_, pure_ vs H Q E h⟩)
  exact (pss_cons (ps_expr (pe_fu F_need hr (by decide) T.g_need (patR rfl rfl rfl rfl) (pa_cons (pe_chain op_le op_lt pe_int (pv 1) (pe_gi T.i_SLOTS)) (pa_cons (pe_gi T.i_OUT_OF_RANGE) pa_nil))))
      (pss_cons (ps_expr (pe_fu F_need hr (by decide) T.g_need (patR rfl rfl rfl rfl) (pa_cons (pe_cmp (pc_notN (pe_ix ix_list (pe_fld (pe_fld (pv 0) rfl) rfl) (pv 1) (fun _ _ => rfl)))) (pa_cons (pe_gi T.i_NOT_MADE) pa_nil))))
      (pss_one (ps_ret (pe_lst (pa_cons pe_int (pa_cons (pe_ix ix_list (pe_fld (pe_fld (pv 0) rfl) rfl) (pv 1) (fun _ _ => rfl)) pa_nil)))))))
/-! #### Desk_rest -/
def t_Desk_rest (K : PySem.W.Frag) (E : XK) : TS :=
  (tSeq (tAsg (tFld K (tFld K (tVar 0) "state") "pact") (gName 1))
    (tSeq (tAsg (tSl (rSlL K) (tFld K (tVar 0) "numbers") (tPart (tFld K (tVar 1) "start")) (tPart (tFld K (tVar 1) "end"))) (gName 2))
    (tRet (tOp rCat (tLst (tCons (tCB (rLenK K) (tCons (tVar 2) tNil)) tNil)) (tVar 2)))))
abbrev N_Desk_rest : List Str := ["self", "pact", "found"]
abbrev P_Desk_rest : List Str := ["self"]
theorem sc_Desk_rest : FnScope N_Desk_rest P_Desk_rest (defScope s_Desk_rest) := ⟨rfl, rfl, rfl, by decide +kernel, rfl, by decide +kernel, by decide +kernel⟩
theorem ok_Desk_rest {P : Program} {w : World} {K : PySem.W.Frag} {mg : Str → Option Value} {base : Heap} (T : Tx K mg)   {sp : Sp} (len : ∀ vs H Q E, sp vs H Q E → vs.length = 1)
    (pure_ : ∀ vs H Q E, sp vs H Q E → t_Desk_rest K E { nx := fun _ H' => Q .non H', rt := Q } (start N_Desk_rest vs) H) : Fok P w K mg base CX0 1 d_Desk_rest P_Desk_rest sp := by
  refine fok (k := 0) (d := d_Desk_rest) (N := N_Desk_rest) T.D_Desk_rest rfl sc_Desk_rest (fun _ _ _ _ _ _ us hl => match us, hl with | [_], _ => rfl) len (fun f cdv A outer s H vs Q E hr h => ⟨t_Desk_rest K E, PSs.nox ?_, pure_ vs H Q E h⟩)
  exact (pss_cons (ps_set (i := 1) sc_Desk_rest.nd rfl (by first | exact Or.inl rfl | exact Or.inr rfl) (pe_fld (pe_fld (pv 0) rfl) rfl))
      (pss_cons (ps_set (i := 2) sc_Desk_rest.nd rfl (by first | exact Or.inl rfl | exact Or.inr rfl) (pe_slice sl_list (pe_fld (pv 0) rfl) (po_some (pe_fld (pv 1) rfl)) (po_some (pe_fld (pv 1) rfl))))
      (pss_one (ps_ret (pe_op op_cat (pe_lst (pa_cons (pe_callB call_len_seq (by rfl) T.z_len boot_len (pa_cons (pv 2) pa_nil)) pa_nil)) (pv 2))))))
/-! #### Desk_told -/
def t_Desk_told (K : PySem.W.Frag) (E : XK) : TS :=
  (tSeq (tAsg (tFld K (tFld K (tVar 0) "state") "pact") (gName 1))
    (tRet (tLst (tCons (tIf (tB (tEqI (tFld K (tVar 1) "which") (tC (.int 0)))) (tC (.int 1)) (tC (.int 0))) (tCons (tFld K (tVar 1) "last_time") (tCons (tFld K (tVar 1) "inputs") (tCons (tFld K (tFld K (tVar 0) "state") "time") tNil)))))))
abbrev N_Desk_told : List Str := ["self", "pact"]
abbrev P_Desk_told : List Str := ["self"]
theorem sc_Desk_told : FnScope N_Desk_told P_Desk_told (defScope s_Desk_told) := ⟨rfl, rfl, rfl, by decide +kernel, rfl, by decide +kernel, by decide +kernel⟩
theorem ok_Desk_told {P : Program} {w : World} {K : PySem.W.Frag} {mg : Str → Option Value} {base : Heap} (T : Tx K mg)   {sp : Sp} (len : ∀ vs H Q E, sp vs H Q E → vs.length = 1)
    (pure_ : ∀ vs H Q E, sp vs H Q E → t_Desk_told K E { nx := fun _ H' => Q .non H', rt := Q } (start N_Desk_told vs) H) : Fok P w K mg base CX0 1 d_Desk_told P_Desk_told sp := by
  refine fok (k := 0) (d := d_Desk_told) (N := N_Desk_told) T.D_Desk_told rfl sc_Desk_told (fun _ _ _ _ _ _ us hl => match us, hl with | [_], _ => rfl) len (fun f cdv A outer s H vs Q E hr h => ⟨t_Desk_told K E, PSs.nox ?_, pure_ vs H Q E h⟩)
  exact (pss_cons (ps_set (i := 1) sc_Desk_told.nd rfl (by first | exact Or.inl rfl | exact Or.inr rfl) (pe_fld (pe_fld (pv 0) rfl) rfl))
      (pss_one (ps_ret (pe_lst (pa_cons (pe_ifExp (pt_cmp (pc_eqI (pe_fld (pv 1) rfl) (pe_gi T.i_CLOSE))) pe_int pe_int) (pa_cons (pe_fld (pv 1) rfl) (pa_cons (pe_fld (pv 1) rfl) (pa_cons (pe_fld (pe_fld (pv 0) rfl) rfl) pa_nil))))))))
/-! #### Desk_total -/
def t_Desk_total (K : PySem.W.Frag) (E : XK) (sp_need : Sp) : TS :=
  (tSeq (tDrop (tCall sp_need [] E (tCons (tChain rLeq rLess (tC (.int 0)) (tVar 1) (tC (.int 4))) (tCons (tC (.int (-2))) tNil))))
    (tRet (tLst (tCons (tC (.int 0)) (tCons (tOp (rIxL K) (tFld K (tFld K (tVar 0) "state") "paid_in") (tVar 1)) (tCons (tOp (rIxL K) (tFld K (tFld K (tVar 0) "state") "paid_out") (tVar 1)) tNil))))))
abbrev N_Desk_total : List Str := ["self", "kind"]
abbrev P_Desk_total : List Str := ["self", "kind"]
theorem sc_Desk_total : FnScope N_Desk_total P_Desk_total (defScope s_Desk_total) := ⟨rfl, rfl, rfl, by decide +kernel, rfl, by decide +kernel, by decide +kernel⟩
theorem ok_Desk_total {P : Program} {w : World} {K : PySem.W.Frag} {mg : Str → Option Value} {base : Heap} (T : Tx K mg) {sp_need : Sp} (F_need : Fok P w K mg base (L2.CX P w) 1 d_need P_need sp_need) {sp : Sp} (len : ∀ vs H Q E, sp vs H Q E → vs.length = 2)
    (pure_ : ∀ vs H Q E, sp vs H Q E → t_Desk_total K E sp_need { nx := fun _ H' => Q .non H', rt := Q } (start N_Desk_total vs) H) : Fok P w K mg base (L2.CX P w) 2 d_Desk_total P_Desk_total sp := by
  refine fok (k := 1) (d := d_Desk_total) (N := N_Desk_total) T.D_Desk_total rfl sc_Desk_total (fun _ _ _ _ _ _ us hl => match us, hl with | [_, _], _ => rfl) len (fun f cdv A outer s H vs Q E hr h => ⟨t_Desk_total K E sp_need, ?_, pure_ vs H Q E h⟩)
  exact (pss_cons (ps_expr (pe_fu F_need hr (by decide) T.g_need (patR rfl rfl rfl rfl) (pa_cons (pe_chain op_le op_lt pe_int (pv 1) (pe_gi T.i_KINDS)) (pa_cons (pe_gi T.i_OUT_OF_RANGE) pa_nil))))
      (pss_one (ps_ret (pe_lst (pa_cons pe_int (pa_cons (pe_ix ix_list (pe_fld (pe_fld (pv 0) rfl) rfl) (pv 1) (fun _ _ => rfl)) (pa_cons (pe_ix ix_list (pe_fld (pe_fld (pv 0) rfl) rfl) (pv 1) (fun _ _ => rfl)) pa_nil)))))))
/-! #### Desk_respond -/
def t_Desk_respond (K : PySem.W.Frag) (E : XK) (sp_Desk_told sp_Desk_total sp_Desk_rest sp_Desk_slot sp_Desk_choice sp_Desk_account sp_Desk_run sp_Run_all_told sp_Desk_transact sp_Desk_begin : Sp) : TS :=
  (tSeq (tIfS (tB (tEqI (tVar 1) (tC (.int 1)))) (tRet (tMeth (He.ga K "Desk") "begin" sp_Desk_begin [] E (tVar 0) (tCons (tOp (rIxL K) (tVar 2) (tC (.int 0))) (tCons (tVar 3) tNil)))) tNext)
    (tSeq (tIfS (tB (tEqI (tVar 1) (tC (.int 2)))) (tRet (tMeth (He.ga K "Desk") "transact" sp_Desk_transact [] E (tVar 0) (tCons (tOp (rIxL K) (tVar 2) (tC (.int 0))) (tCons (tOp (rIxL K) (tVar 2) (tC (.int 1))) (tCons (tVar 3) tNil))))) tNext)
    (tSeq (tIfS (tB (tEqI (tVar 1) (tC (.int 3)))) (tRet (tMeth (He.ga K "Run") "all_told" sp_Run_all_told [] E0 (tMeth (He.ga K "Desk") "run" sp_Desk_run [] E (tVar 0) (tCons (tOp (rIxL K) (tVar 2) (tC (.int 0))) (tCons (tOp (rIxL K) (tVar 2) (tC (.int 1))) (tCons (tVar 3) tNil)))) tNil)) tNext)
    (tSeq (tIfS (tB (tEqI (tVar 1) (tC (.int 4)))) (tRet (tMeth (He.ga K "Desk") "account" sp_Desk_account [] E (tVar 0) (tCons (tOp (rIxL K) (tVar 2) (tC (.int 0))) (tCons (tOp (rIxL K) (tVar 2) (tC (.int 1))) tNil)))) tNext)
    (tSeq (tIfS (tB (tEqI (tVar 1) (tC (.int 5)))) (tRet (tMeth (He.ga K "Desk") "choice" sp_Desk_choice [] E (tVar 0) (tCons (tOp (rIxL K) (tVar 2) (tC (.int 0))) tNil))) tNext)
    (tSeq (tIfS (tB (tEqI (tVar 1) (tC (.int 6)))) (tRet (tMeth (He.ga K "Desk") "slot" sp_Desk_slot [] E (tVar 0) (tCons (tOp (rIxL K) (tVar 2) (tC (.int 0))) tNil))) tNext)
    (tSeq (tIfS (tB (tEqI (tVar 1) (tC (.int 7)))) (tRet (tMeth (He.ga K "Desk") "rest" sp_Desk_rest [] E0 (tVar 0) tNil)) tNext)
    (tRet (tIf (tB (tEqI (tVar 1) (tC (.int 8)))) (tMeth (He.ga K "Desk") "told" sp_Desk_told [] E0 (tVar 0) tNil) (tMeth (He.ga K "Desk") "total" sp_Desk_total [] E (tVar 0) (tCons (tOp (rIxL K) (tVar 2) (tC (.int 0))) tNil)))))))))))
abbrev N_Desk_respond : List Str := ["self", "call", "numbers", "row"]
abbrev P_Desk_respond : List Str := ["self", "call", "numbers", "row"]
theorem sc_Desk_respond : FnScope N_Desk_respond P_Desk_respond (defScope s_Desk_respond) := ⟨rfl, rfl, rfl, by decide +kernel, rfl, by decide +kernel, by decide +kernel⟩
theorem ok_Desk_respond {P : Program} {w : World} {K : PySem.W.Frag} {mg : Str → Option Value} {base : Heap} (T : Tx K mg) {sp_Desk_told : Sp} {sp_Desk_total : Sp} {sp_Desk_rest : Sp} {sp_Desk_slot : Sp} {sp_Desk_choice : Sp} {sp_Desk_account : Sp} {sp_Desk_run : Sp} {sp_Run_all_told : Sp} {sp_Desk_transact : Sp} {sp_Desk_begin : Sp} (F_Desk_told : Fok P w K mg base CX0 1 d_Desk_told P_Desk_told sp_Desk_told) (F_Desk_total : Fok P w K mg base (L2.CX P w) 2 d_Desk_total P_Desk_total sp_Desk_total) (F_Desk_rest : Fok P w K mg base CX0 1 d_Desk_rest P_Desk_rest sp_Desk_rest) (F_Desk_slot : Fok P w K mg base (L2.CX P w) 2 d_Desk_slot P_Desk_slot sp_Desk_slot) (F_Desk_choice : Fok P w K mg base (L2.CX P w) 2 d_Desk_choice P_Desk_choice sp_Desk_choice) (F_Desk_account : Fok P w K mg base (L2.CX P w) 2 d_Desk_account P_Desk_account sp_Desk_account) (F_Desk_run : Fok P w K mg base (L2.CX P w) 47 d_Desk_run P_Desk_run sp_Desk_run) (F_Run_all_told : Fok P w K mg base CX0 1 d_Run_all_told P_Run_all_told sp_Run_all_told) (F_Desk_transact : Fok P w K mg base (L2.CX P w) 48 d_Desk_transact P_Desk_transact sp_Desk_transact) (F_Desk_begin : Fok P w K mg base (L2.CX P w) 50 d_Desk_begin P_Desk_begin sp_Desk_begin) {sp : Sp} (len : ∀ vs H Q E, sp vs H Q E → vs.length = 4)
    (pure_ : ∀ vs H Q E, sp vs H Q E → t_Desk_respond K E sp_Desk_told sp_Desk_total sp_Desk_rest sp_Desk_slot sp_Desk_choice sp_Desk_account sp_Desk_run sp_Run_all_told sp_Desk_transact sp_Desk_begin { nx := fun _ H' => Q .non H', rt := Q } (start N_Desk_respond vs) H) : Fok P w K mg base (L2.CX P w) 51 d_Desk_respond P_Desk_respond sp := by
  refine fok (k := 50) (d := d_Desk_respond) (N := N_Desk_respond) T.D_Desk_respond rfl sc_Desk_respond (fun _ _ _ _ _ _ us hl => match us, hl with | [_, _, _, _], _ => rfl) len (fun f cdv A outer s H vs Q E hr h => ⟨t_Desk_respond K E sp_Desk_told sp_Desk_total sp_Desk_rest sp_Desk_slot sp_Desk_choice sp_Desk_account sp_Desk_run sp_Run_all_told sp_Desk_transact sp_Desk_begin, ?_, pure_ vs H Q E h⟩)
  exact (pss_cons (ps_if (pt_cmp (pc_eqI (pv 1) pe_int)) (pss_one (ps_ret (pe_me F_Desk_begin hr (by decide) T.c_Desk T.m_Desk_begin (patR rfl rfl rfl rfl) (pv 0) (pa_cons (pe_ix ix_list (pv 2) pe_int (fun _ _ => rfl)) (pa_cons (pv 3) pa_nil))))) pss_nil)
      (pss_cons (ps_if (pt_cmp (pc_eqI (pv 1) pe_int)) (pss_one (ps_ret (pe_me F_Desk_transact hr (by decide) T.c_Desk T.m_Desk_transact (patR rfl rfl rfl rfl) (pv 0) (pa_cons (pe_ix ix_list (pv 2) pe_int (fun _ _ => rfl)) (pa_cons (pe_ix ix_list (pv 2) pe_int (fun _ _ => rfl)) (pa_cons (pv 3) pa_nil)))))) pss_nil)
      (pss_cons (ps_if (pt_cmp (pc_eqI (pv 1) pe_int)) (pss_one (ps_ret (pe_me0 F_Run_all_told hr (by decide) T.c_Run T.m_Run_all_told pat0 (pe_me F_Desk_run hr (by decide) T.c_Desk T.m_Desk_run (patR rfl rfl rfl rfl) (pv 0) (pa_cons (pe_ix ix_list (pv 2) pe_int (fun _ _ => rfl)) (pa_cons (pe_ix ix_list (pv 2) pe_int (fun _ _ => rfl)) (pa_cons (pv 3) pa_nil))))))) pss_nil)
      (pss_cons (ps_if (pt_cmp (pc_eqI (pv 1) pe_int)) (pss_one (ps_ret (pe_me F_Desk_account hr (by decide) T.c_Desk T.m_Desk_account (patR rfl rfl rfl rfl) (pv 0) (pa_cons (pe_ix ix_list (pv 2) pe_int (fun _ _ => rfl)) (pa_cons (pe_ix ix_list (pv 2) pe_int (fun _ _ => rfl)) pa_nil))))) pss_nil)
      (pss_cons (ps_if (pt_cmp (pc_eqI (pv 1) pe_int)) (pss_one (ps_ret (pe_me F_Desk_choice hr (by decide) T.c_Desk T.m_Desk_choice (patR rfl rfl rfl rfl) (pv 0) (pa_cons (pe_ix ix_list (pv 2) pe_int (fun _ _ => rfl)) pa_nil)))) pss_nil)
      (pss_cons (ps_if (pt_cmp (pc_eqI (pv 1) pe_int)) (pss_one (ps_ret (pe_me F_Desk_slot hr (by decide) T.c_Desk T.m_Desk_slot (patR rfl rfl rfl rfl) (pv 0) (pa_cons (pe_ix ix_list (pv 2) pe_int (fun _ _ => rfl)) pa_nil)))) pss_nil)
      (pss_cons (ps_if (pt_cmp (pc_eqI (pv 1) pe_int)) (pss_one (ps_ret (pe_me0 F_Desk_rest hr (by decide) T.c_Desk T.m_Desk_rest pat0 (pv 0)))) pss_nil)
      (pss_one (ps_ret (pe_ifExp (pt_cmp (pc_eqI (pv 1) pe_int)) (pe_me0 F_Desk_told hr (by decide) T.c_Desk T.m_Desk_told pat0 (pv 0)) (pe_me F_Desk_total hr (by decide) T.c_Desk T.m_Desk_total (patR rfl rfl rfl rfl) (pv 0) (pa_cons (pe_ix ix_list (pv 2) pe_int (fun _ _ => rfl)) pa_nil))))))))))))
/-! #### answers -/
def t_answers (K : PySem.W.Frag) (E : XK) (sp_Desk_respond sp_Desk_init : Sp) : TS :=
  (tSeq (tAsg (tMake (He.ga K "Desk") sp_Desk_init [] E0 tNil) (gName 1))
    (tSeq (tAsg (tLst tNil) (gName 2))
    (tSeq (tAsg (tC (.int 0)) (gName 3))
    (tSeq (tWhile (tB (tLt (tVar 3) (tCB (rLenK K) (tCons (tVar 0) tNil)))) (tSeq (tAsg (tOp (rIxL K) (tVar 0) (tVar 3)) (gName 4))
    (tSeq (tAsg (tOp rPlus (tVar 3) (tC (.int 1))) (gName 5))
    (tSeq (tAsg (tOp rPlus (tVar 5) (tOp (rCounts K) (tC (.ref (He.ga K "COUNTS"))) (tVar 4))) (gName 3))
    (tSeq (tAsg (tSl (rSlL K) (tVar 0) (tPart (tVar 5)) (tPart (tVar 3))) (gName 6))
    (tSeq (tAsg (tLst tNil) (gName 7))
    (tSeq (tIfS (tTest (tOp (rIn K false) (tVar 4) (tC (.ref (He.ga K "WITH_ROW"))))) (tSeq (tAsg (tOp rPlus (tVar 3) (tC (.int 1))) (gName 5))
    (tSeq (tAsg (tOp rPlus (tVar 5) (tOp (rIxL K) (tVar 0) (tVar 3))) (gName 3))
    (tAsg (tSl (rSlL K) (tVar 0) (tPart (tVar 5)) (tPart (tVar 3))) (gName 7)))) tNext)
    (tSeq (fun D σ H => (tAsg (tMethS (He.ga K "Desk") "respond" sp_Desk_respond (WE (wAs K (XR K) 8 (fun a cls d => (tAsg (tLst (tCons (tXf a cls d (He.ga K "Refusal") "answer" (tVar 8)) tNil)) (gName 9))) (fun _ _ _ _ => False) D)) (tVar 1) (tCons (tVar 4) (tCons (tVar 6) (tCons (tVar 7) tNil)))) (gName 9)) D σ H)
    (tSeq (tDrop (tBM K "list" rAppend (tVar 2) (tCons (tCB (rLenK K) (tCons (tVar 9) tNil)) tNil)))
    (tDrop (tBM K "list" rExtend (tVar 2) (tCons (tVar 9) tNil))))))))))))
    (tRet (tVar 2))))))
abbrev N_answers : List Str := ["calls", "desk", "found", "place", "call", "first", "numbers", "row", "refusal", "answer"]
abbrev P_answers : List Str := ["calls"]
theorem sc_answers : FnScope N_answers P_answers (defScope s_answers) := ⟨rfl, rfl, rfl, by decide +kernel, rfl, by decide +kernel, by decide +kernel⟩
theorem ok_answers {P : Program} {w : World} {K : PySem.W.Frag} {mg : Str → Option Value} {base : Heap} (T : Tx K mg) {sp_Desk_respond : Sp} {sp_Desk_init : Sp} (F_Desk_respond : Fok P w K mg base (L2.CX P w) 51 d_Desk_respond P_Desk_respond sp_Desk_respond) (F_Desk_init : Fok P w K mg base CX0 50 d_Desk_init P_Desk_init sp_Desk_init) {sp : Sp} (len : ∀ vs H Q E, sp vs H Q E → vs.length = 1)
    (pure_ : ∀ vs H Q E, sp vs H Q E → t_answers K E sp_Desk_respond sp_Desk_init { nx := fun _ H' => Q .non H', rt := Q } (start N_answers vs) H) : Fok P w K mg base CX0 52 d_answers P_answers sp := by
  refine fok (k := 51) (d := d_answers) (N := N_answers) T.D_answers rfl sc_answers (fun _ _ _ _ _ _ us hl => match us, hl with | [_], _ => rfl) len (fun f cdv A outer s H vs Q E hr h => ⟨t_answers K E sp_Desk_respond sp_Desk_init, PSs.nox ?_, pure_ vs H Q E h⟩)
  exact (pss_cons (ps_set (i := 1) sc_answers.nd rfl (by first | exact Or.inl rfl | exact Or.inr rfl) (pe_mk0 T.k_Desk F_Desk_init rfl hr (by decide) T.g_Desk pat0))
      (pss_cons (ps_set (i := 2) sc_answers.nd rfl (by first | exact Or.inl rfl | exact Or.inr rfl) (pe_lst pa_nil))
      (pss_cons (ps_set (i := 3) sc_answers.nd rfl (by first | exact Or.inl rfl | exact Or.inr rfl) pe_int)
      (pss_cons (ps_while PassesOwn.never (pt_cmp (pc_lt (pv 3) (pe_callB call_len_seq (by rfl) T.z_len boot_len (pa_cons (pv 0) pa_nil)))) (pss_cons (ps_set (i := 4) sc_answers.nd rfl (by first | exact Or.inl rfl | exact Or.inr rfl) (pe_ix ix_list (pv 0) (pv 3) (fun _ _ => rfl)))
      (pss_cons (ps_set (i := 5) sc_answers.nd rfl (by first | exact Or.inl rfl | exact Or.inr rfl) (pe_op op_add (pv 3) pe_int))
      (pss_cons (ps_set (i := 3) sc_answers.nd rfl (by first | exact Or.inl rfl | exact Or.inr rfl) (pe_op op_add (pv 5) (pe_ix (ix_counts T) (pe_ga T.g_COUNTS) (pv 4) (fun _ _ => rfl))))
      (pss_cons (ps_set (i := 6) sc_answers.nd rfl (by first | exact Or.inl rfl | exact Or.inr rfl) (pe_slice sl_list (pv 0) (po_some (pv 5)) (po_some (pv 3))))
      (pss_cons (ps_set (i := 7) sc_answers.nd rfl (by first | exact Or.inl rfl | exact Or.inr rfl) (pe_lst pa_nil))
      (pss_cons (ps_if (pt_cmpR op_in_seq (pv 4) (pe_ga T.g_WITH_ROW) (by rfl)) (pss_cons (ps_set (i := 5) sc_answers.nd rfl (by first | exact Or.inl rfl | exact Or.inr rfl) (pe_op op_add (pv 3) pe_int))
      (pss_cons (ps_set (i := 3) sc_answers.nd rfl (by first | exact Or.inl rfl | exact Or.inr rfl) (pe_op op_add (pv 5) (pe_ix ix_list (pv 0) (pv 3) (fun _ _ => rfl))))
      (pss_one (ps_set (i := 7) sc_answers.nd rfl (by first | exact Or.inl rfl | exact Or.inr rfl) (pe_slice sl_list (pv 0) (po_some (pv 5)) (po_some (pv 3))))))) pss_nil)
      (pss_cons (ps_try_as (i := 8) (tb := fun W => (tAsg (tMethS (He.ga K "Desk") "respond" sp_Desk_respond (WE W) (tVar 1) (tCons (tVar 4) (tCons (tVar 6) (tCons (tVar 7) tNil)))) (gName 9))) (ts := fun a cls d => (tAsg (tLst (tCons (tXf a cls d (He.ga K "Refusal") "answer" (tVar 8)) tNil)) (gName 9))) (Wout := fun _ _ _ _ => False) rfl rfl sc_answers.nd rfl rfl ⟨rfl, by decide, Or.inl T.g_Refusal⟩ takes0 (fun W pn xe tk _ => (pss_one (ps_set (i := 9) sc_answers.nd rfl (by first | exact Or.inl rfl | exact Or.inr rfl) (pe_meS F_Desk_respond hr (by decide) T.c_Desk T.m_Desk_respond (fun σ => passAt tk σ) (pv 1) (pa_cons (pv 4) (pa_cons (pv 6) (pa_cons (pv 7) pa_nil))))))) (fun a oe cls d pn hz hf => (pss_one (ps_set (i := 9) sc_answers.nd rfl (by first | exact Or.inl rfl | exact Or.inr rfl) (by exact (pe_lst (pa_cons (pe_xf T.reft.xf T.reft.noN hz hf (pv 8)) pa_nil)))))))
      (pss_cons (ps_expr (pe_bm PySem.F.plainAttrs_list PySem.F.slot_list_append PySem.F.type_list_append mt_append (pv 2) (pa_cons (pe_callB call_len_seq (by rfl) T.z_len boot_len (pa_cons (pv 9) pa_nil)) pa_nil)))
      (pss_one (ps_expr (pe_bm PySem.F.plainAttrs_list PySem.F.slot_list_extend PySem.F.type_list_extend mt_extend (pv 2) (pa_cons (pv 9) pa_nil)))))))))))))
      (pss_one (ps_ret (pv 2)))))))
end SP
set_option maxHeartbeats 2000000
/-! ### stepping through a reading -/
namespace SP
open PySem PySem.Spec PyProof.Rows L2
section
variable {K : PySem.W.Frag} {σ : L2.St} {H : Hp} {Q : VK} {ta tb tc te tv : TE} {x y v : V} {i j : Int} {a : Addr} {f m : Str} {C dx : Addr} {fs fs' : List (Str × V)} {E : XK} {t : TA} {sp : Sp} {D : Ends} {u w : TS} {R : Bool → Hp → Prop} {b c : Bool} {tt ts : TT}
/-- the field f of the object at a -/
def Fd (K : PySem.W.Frag) (H : Hp) (a : Addr) (f : Str) (v : V) : Prop := ∃ C dx fs, H a = some (.ins C dx fs) ∧ Cls K C ∧ NoAttr K C f ∧ fs.lookup f = some v
theorem Fd.but {H' : Hp} {M : List Addr} (h : Fd K H a f v) (k : But M H H') (n : a ∉ M) : Fd K H' a f v := let ⟨C, dx, fs, e, r⟩ := h; ⟨C, dx, fs, k _ _ e n, r⟩
theorem Fd.same {H' : Hp} (h : Fd K H a f v) (k : Same H H') : Fd K H' a f v := let ⟨C, dx, fs, e, r⟩ := h; ⟨C, dx, fs, k _ _ e, r⟩
def FldK (K : PySem.W.Frag) (f : Str) (x : V) (H1 : Hp) (Q : VK) : Prop := ∃ a C dx fs v, x = .ref a ∧ H1 a = some (.ins C dx fs) ∧ Cls K C ∧ NoAttr K C f ∧ fs.lookup f = some v ∧ Q v H1
def SetK (K : PySem.W.Frag) (f : Str) (y x : V) (H2 : Hp) (N : Hp → Prop) : Prop := ∃ a C dx fs, x = .ref a ∧ H2 a = some (.ins C dx fs) ∧ Cls K C ∧ NoAttr K C f ∧ fs.length < 1000 ∧ N (upd H2 a (.ins C dx (putF f y fs)))
def MethK (C : Addr) (m : Str) (sp : Sp) (E : XK) (t : TA) (x : V) (σ : L2.St) (H1 : Hp) (Q : VK) : Prop := ∃ a dx fs, x = .ref a ∧ H1 a = some (.ins C dx fs) ∧ fs.lookup m = none ∧ t σ H1 fun vs H2 => sp (x :: (vs ++ [])) H2 Q E
def IntK (p : Int → Int → Bool) (x y : V) (H2 : Hp) (Q : VK) : Prop := ∃ i j, x = .int i ∧ y = .int j ∧ Q (.bl (p i j)) H2
def BlK (x : V) (H1 : Hp) (R : Bool → Hp → Prop) : Prop := ∃ c, x = .bl c ∧ R c H1
theorem k_var {n : Nat} (h : σ[n]? = some (some v)) (q : Q v H) : tVar n σ H Q := ⟨v, h, q⟩
theorem k_c (q : Q v H) : tC v σ H Q := q
theorem k_fld (q : ta σ H fun x H1 => FldK K f x H1 Q) : tFld K ta f σ H Q := q
theorem k_fldK (h : Fd K H a f v) (q : Q v H) : FldK K f (.ref a) H Q := let ⟨C, dx, fs, e, c, n, l⟩ := h; ⟨a, C, dx, fs, v, rfl, e, c, n, l, q⟩
theorem k_set (q : tv σ H fun y H1 => ta σ H1 fun x H2 => SetK K f y x H2 (D.nx σ)) : sFld K ta tv f D σ H := q
theorem k_setK {N : Hp → Prop} (h : H a = some (.ins C dx fs)) (c : Cls K C) (n : NoAttr K C f) (e : putF f y fs = fs') (q : N (upd H a (.ins C dx fs'))) (l : Nat.ble (fs.length + 1) 1000 = true := by rfl) : SetK K f y (.ref a) H N := ⟨a, C, dx, fs, rfl, h, c, n, Nat.le_of_ble_eq_true l, by rw [e]; exact q⟩
theorem k_meth (q : ta σ H fun x H1 => MethK C m sp E t x σ H1 Q) : tMeth C m sp [] E ta t σ H Q := q
theorem k_methK (h : H a = some (.ins C dx fs)) (l : fs.lookup m = none) (q : t σ H fun vs H2 => sp (.ref a :: (vs ++ [])) H2 Q E) : MethK C m sp E t (.ref a) σ H Q := ⟨a, dx, fs, rfl, h, l, q⟩
theorem k_call (q : t σ H fun vs H1 => sp (vs ++ []) H1 Q E) : tCall sp [] E t σ H Q := q
theorem k_make (q : t σ H fun vs H1 => ∀ x dx, H1 x = none → H1 dx = none → dx ≠ x → sp (.ref x :: (vs ++ [])) (upd (upd H1 dx (.own x)) x (.ins C dx [])) (fun v H2 => v = .non ∧ Q (.ref x) H2) E) : tMake C sp [] E t σ H Q := q
theorem k_nil {Q : List V → Hp → Prop} (q : Q [] H) : tNil σ H Q := q
theorem k_cons {Q : List V → Hp → Prop} (q : ta σ H fun x H1 => t σ H1 fun xs H2 => Q (x :: xs) H2) : tCons ta t σ H Q := q
theorem k_op {r : R2} (q : ta σ H fun x H1 => tb σ H1 fun y H2 => r x y H2 Q) : tOp r ta tb σ H Q := q
theorem k_un {r : V → Hp → VK → Prop} (q : ta σ H fun x H1 => r x H1 Q) : tUn r ta σ H Q := q
theorem k_neg (q : Q (.int (-i)) H) : rNeg (.int i) H Q := ⟨i, rfl, q⟩
theorem k_plus (q : Q (.int (i + j)) H) : rPlus (.int i) (.int j) H Q := ⟨i, j, rfl, rfl, q⟩
theorem k_minus (q : Q (.int (i - j)) H) : rMinus (.int i) (.int j) H Q := ⟨i, j, rfl, rfl, q⟩
theorem k_less (q : Q (.bl (decide (i < j))) H) : rLess (.int i) (.int j) H Q := ⟨i, j, rfl, rfl, q⟩
theorem k_leq (q : Q (.bl (decide (i ≤ j))) H) : rLeq (.int i) (.int j) H Q := ⟨i, j, rfl, rfl, q⟩
theorem k_cmp {p : Int → Int → Bool} (q : ta σ H fun x H1 => tb σ H1 fun y H2 => IntK p x y H2 Q) : tCmp p ta tb σ H Q := q
theorem k_cmpK {p : Int → Int → Bool} (q : Q (.bl (p i j)) H) : IntK p (.int i) (.int j) H Q := ⟨i, j, rfl, rfl, q⟩
theorem k_isN (q : ta σ H fun x H1 => Q (.bl (decide (x = .non))) H1) : tIsN ta σ H Q := q
theorem k_notN (q : ta σ H fun x H1 => Q (.bl (!decide (x = .non))) H1) : tNotN ta σ H Q := q
theorem k_B (q : te σ H fun x H1 => BlK x H1 R) : tB te σ H R := q
theorem k_test (q : te σ H fun x H1 => BlK x H1 R) : tTest te σ H R := q
theorem k_blK (q : R c H) : BlK (.bl c) H R := ⟨c, rfl, q⟩
theorem k_and (q : tt σ H fun c H1 => if c = true then ts σ H1 R else R false H1) : tAnd tt ts σ H R := q
theorem k_or (q : tt σ H fun c H1 => if c = true then R true H1 else ts σ H1 R) : tOr tt ts σ H R := q
theorem k_not (q : tt σ H fun c H1 => R (!c) H1) : tNot tt σ H R := q
theorem k_andV (q : ta σ H fun x H1 => BlK x H1 fun c H1 => if c = true then tb σ H1 Q else Q (.bl false) H1) : tAndV ta tb σ H Q := q
theorem k_orV (q : ta σ H fun x H1 => BlK x H1 fun c H1 => if c = true then Q (.bl true) H1 else tb σ H1 Q) : tOrV ta tb σ H Q := q
theorem k_notV (q : ta σ H fun x H1 => BlK x H1 fun c H1 => Q (.bl (!c)) H1) : tNotV ta σ H Q := q
theorem k_ife (q : tt σ H fun c H1 => if c = true then ta σ H1 Q else tb σ H1 Q) : tIf tt ta tb σ H Q := q
theorem k_if (q : tt σ H fun b H1 => if b = true then u D σ H1 else w D σ H1) : tIfS tt u w D σ H := q
theorem k_chain {r r' : R2} (q : ta σ H fun x H1 => tb σ H1 fun y H2 => r x y H2 fun z H3 => BlK z H3 fun k H3 => if k = true then tc σ H3 fun w' H4 => r' y w' H4 Q else Q (.bl false) H3) : tChain r r' ta tb tc σ H Q := q
theorem k_tup (q : t σ H fun xs H1 => xs.length ≤ sizeLine ∧ ∀ p, H1 p = none → Q (.ref p) (upd H1 p (.tup xs))) : tTup t σ H Q := q
theorem k_lst (q : t σ H fun xs H1 => xs.length ≤ sizeLine ∧ ∀ p, H1 p = none → Q (.ref p) (upd H1 p (.lst xs))) : tLst t σ H Q := q
theorem k_CB {r : List V → Hp → VK → Prop} (q : t σ H fun vs H1 => r vs H1 Q) : tCB r t σ H Q := q
theorem k_len {p : Addr} {ys : List V} (h : SqL K H p ys) (q : Q (.int ys.length) H) : rLenK K [.ref p] H Q := ⟨p, ys, rfl, .inl h, q⟩
theorem k_max (q : Q (.int (if j > i then j else i)) H) : rMaxK [.int i, .int j] H Q := ⟨i, j, rfl, q⟩
theorem k_min (q : Q (.int (if j < i then j else i)) H) : rMinK [.int i, .int j] H Q := ⟨i, j, rfl, q⟩
theorem k_abs (q : Q (.int (if i < 0 then -i else i)) H) : rAbsK [.int i] H Q := ⟨i, rfl, q⟩
theorem k_list {p : Addr} {ys : List V} (h : SqL K H p ys) (q : ∀ l, H l = none → Q (.ref l) (upd H l (.lst ys))) : rListK K [.ref p] H Q := ⟨p, ys, rfl, .inl h, q⟩
theorem k_ixL {p : Addr} {xs : List V} (h : SqL K H p xs) (e : atI xs i = some v) (q : Q v H) : rIxL K (.ref p) (.int i) H Q := ⟨p, xs, i, v, rfl, rfl, h, e, q⟩
theorem k_ixT {p : Addr} {xs : List V} (h : SqT K H p xs) (e : atI xs i = some v) (q : Q v H) : rIxT K (.ref p) (.int i) H Q := ⟨p, xs, i, v, rfl, rfl, h, e, q⟩
theorem k_ret (q : te σ H D.rt) : tRet te D σ H := q
theorem k_retN (q : D.rt .non H) : tRetN D σ H := q
theorem k_drop (q : te σ H fun _ H1 => D.nx σ H1) : tDrop te D σ H := q
theorem k_asg {g : TG} (q : te σ H fun x H1 => g x σ H1 D.nx) : tAsg te g D σ H := q
theorem k_name {n : Nat} {N : L2.St → Hp → Prop} (q : N (σ.set n (some v)) H) : gName n v σ H N := q
theorem k_seq (q : u { D with nx := w D } σ H) : tSeq u w D σ H := q
theorem k_next (q : D.nx σ H) : tNext D σ H := q
theorem k_bm {T : String} {r : V → List V → Hp → VK → Prop} (q : ta σ H fun x H1 => tyV K T x H1 ∧ t σ H1 fun xs H2 => r x xs H2 Q) : tBM K T r ta t σ H Q := q
theorem k_app {l : Addr} {xs : List V} (h : H l = some (.lst xs)) (z : xs.length < sizeLine) (q : Q .non (upd H l (.lst (xs ++ [y])))) : rAppend (.ref l) [y] H Q := ⟨l, xs, y, rfl, rfl, h, z, q⟩
theorem ty_list {l : Addr} {xs : List V} (h : SqL K H l xs) : tyV K "list" (.ref l) H := Or.inl ⟨rfl, _, h⟩
end
theorem line1 : (16777216 : Nat) = sizeLine := sizeLine_eq.symm
theorem small {n : Nat} (h : Nat.ble n 16777216 = true := by rfl) : n ≤ sizeLine := by rw [sizeLine_eq]; exact Nat.le_of_ble_eq_true h
end SP
set_option maxHeartbeats 2000000
namespace SP
open PySem PySem.Spec PyProof.Rows L2
/-- one step of a reading where nothing is asked -/
local macro_rules | `(tactic| walk_at "s1") => `(tactic| with_reducible first
  | refine k_seq ?_ | refine k_asg ?_ | refine k_if ?_ | refine k_ret ?_ | refine k_set ?_ | refine k_drop ?_ | refine k_next ?_ | refine k_retN ?_
  | refine k_var rfl ?_ | refine k_c ?_ | refine k_fld ?_ | refine k_fldK (by assumption) ?_ | refine k_op ?_ | refine k_plus ?_ | refine k_minus ?_ | refine k_cons ?_ | refine k_nil ?_ | refine k_name ?_
  | refine k_cmp ?_ | refine k_cmpK ?_ | refine k_B ?_ | refine k_blK ?_ | refine k_test ?_ | refine k_meth ?_ | refine k_call ?_ | refine k_CB ?_ | refine k_len (by assumption) ?_
  | refine k_ixT (by assumption) rfl ?_ | refine k_and ?_ | refine k_or ?_ | refine k_not ?_ | refine k_andV ?_ | refine k_orV ?_ | refine k_notV ?_ | refine k_ife ?_ | refine k_chain ?_ | refine k_tup ?_ | refine k_lst ?_
  | refine k_less ?_ | refine k_leq ?_ | refine k_un ?_ | refine k_neg ?_ | refine k_isN ?_ | refine k_notN ?_ | refine k_max ?_ | refine k_min ?_ | refine k_abs ?_ | refine k_bm ?_ | refine k_make ?_ | refine k_app (by assumption) (by assumption) ?_)
/-! ### reading numbers -/
section
variable {K : PySem.W.Frag} {mg : Str → Option Value}
theorem start_eq {N : List Str} {vs : List V} : start N vs = vs.map some ++ List.replicate (N.length - vs.length) none := rfl
def spNumInit (K : PySem.W.Frag) : Sp := fun vs H Q _ => ∃ (p dx a : Addr), vs = [.ref p, .ref a] ∧ H p = some (.ins (CN K) dx []) ∧ Q .non (upd H p (.ins (CN K) dx (nF (.ref a) (.int (0 : Nat)))))
theorem pure_Numbers_init (T : Tx K mg) (vs : List V) (H : Hp) (Q : VK) (E : XK) (h : spNumInit K vs H Q E) : t_Numbers_init K E { nx := fun _ H' => Q .non H', rt := Q } (start N_Numbers_init vs) H := by
  obtain ⟨p, dx, a, rfl, hp, q⟩ := h
  unfold t_Numbers_init
  repeat walk_at "s1"
  refine k_setK hp T.c_Numbers T.n_Numbers_numbers rfl ?_
  repeat walk_at "s1"
  refine k_setK upd_same T.c_Numbers T.n_Numbers_place rfl ?_
  rw [upd_upd]
  exact q
def spEnded (K : PySem.W.Frag) : Sp := fun vs H Q _ => ∃ (n a : Addr) (i : Nat) (l : List Int), vs = [.ref n] ∧ NumAt K H n a i ∧ SqL K H a (l.map V.int) ∧ Q (.bl (decide ((i : Int) = (l.length : Nat)))) H
theorem NumAt.fd {H : Hp} {n a : Addr} {i : Nat} (T : Tx K mg) (h : NumAt K H n a i) : Fd K H n "numbers" (.ref a) ∧ Fd K H n "place" (.int i) := by
  obtain ⟨dx, hn⟩ := h
  exact ⟨⟨_, _, _, hn, T.c_Numbers, T.n_Numbers_numbers, rfl⟩, ⟨_, _, _, hn, T.c_Numbers, T.n_Numbers_place, rfl⟩⟩
theorem pure_Numbers_has_ended (T : Tx K mg) (vs : List V) (H : Hp) (Q : VK) (E : XK) (h : spEnded K vs H Q E) : t_Numbers_has_ended K E { nx := fun _ H' => Q .non H', rt := Q } (start N_Numbers_has_ended vs) H := by
  obtain ⟨n, a, i, l, rfl, h, hs, q⟩ := h
  obtain ⟨f1, f2⟩ := h.fd T
  unfold t_Numbers_has_ended
  repeat walk_at "s1"
  rw [List.length_map]
  exact q
theorem atI_map {l : List Int} {i : Nat} {z : Int} (h : l[i]? = some z) : atI (l.map V.int) (i : Int) = some (.int z) := atI_nat (by rw [List.getElem?_map, h]; rfl)
theorem drop_at {α : Type} {l r : List α} {i : Nat} {z : α} (h : l.drop i = z :: r) : l[i]? = some z ∧ l.drop (i + 1) = r ∧ i < l.length := by
  have h1 : i < l.length := by
    by_cases c : i < l.length
    · exact c
    · rw [List.drop_eq_nil_of_le (by omega)] at h
      cases h
  rw [List.drop_eq_getElem_cons h1] at h
  obtain ⟨e1, e2⟩ := List.cons.inj h
  exact ⟨by rw [List.getElem?_eq_getElem h1, e1], e2, h1⟩
theorem drop_end {α : Type} {l : List α} {i : Nat} (h : l.drop i = []) (hi : i ≤ l.length) : i = l.length := by
  have := congrArg List.length h
  rw [List.length_drop, List.length_nil] at this
  omega
theorem num_cons {lo hi z : Int} {r : List Int} : Sg49.num lo hi (z :: r) = if Sg49.within z lo hi = true then some (z, r) else none := rfl
theorem within_iff {z lo hi : Int} : Sg49.within z lo hi = true ↔ lo ≤ z ∧ z ≤ hi := by
  unfold Sg49.within
  rw [Bool.and_eq_true, decide_eq_true_eq, decide_eq_true_eq]
theorem num_cases (lo hi : Int) (l : List Int) : (l = [] ∧ Sg49.num lo hi l = none) ∨ ∃ z r, l = z :: r ∧ ((lo ≤ z ∧ z ≤ hi ∧ Sg49.num lo hi l = some (z, r)) ∨ (¬ (lo ≤ z ∧ z ≤ hi) ∧ Sg49.num lo hi l = none)) := by
  cases l with
  | nil => exact .inl ⟨rfl, rfl⟩
  | cons z r =>
    refine .inr ⟨z, r, rfl, ?_⟩
    by_cases c : lo ≤ z ∧ z ≤ hi
    · exact .inl ⟨c.1, c.2, num_cons.trans (if_pos (within_iff.mpr c))⟩
    · exact .inr ⟨c, num_cons.trans (if_neg fun q => c (within_iff.mp q))⟩
/-- a list stays where what is turned is no list -/
theorem sqBut {H H' : Hp} {M : List Addr} {a : Addr} {xs : List V} (h : SqL K H a xs) (b : But M H H') (n : ∀ m ∈ M, ∃ C dx fs, H m = some (.ins C dx fs)) : SqL K H' a xs := by
  have key : ∀ u, H a = some u → (∀ C dx fs, u ≠ .ins C dx fs) → a ∉ M := fun u e q z => by
    obtain ⟨C, dx, fs, e2⟩ := n a z
    rw [e] at e2
    exact q _ _ _ (Option.some.inj e2)
  rcases h with (h | ⟨o, h⟩) | h
  · exact .inl (.inl (b _ _ h (key _ h fun _ _ _ z => by cases z)))
  · exact .inl (.inr ⟨o, b _ _ h (key _ h fun _ _ _ z => by cases z)⟩)
  · exact .inr h
theorem NumAt.ins {H : Hp} {n a : Addr} {i : Nat} (h : NumAt K H n a i) : ∀ m ∈ [n], ∃ C dx fs, H m = some (.ins C dx fs) := fun m hm => by
  obtain ⟨dx, e⟩ := h
  have : m = n := by simpa using hm
  subst this
  exact ⟨_, _, _, e⟩
/-- the next number, from lo to hi -/
def spOne (K : PySem.W.Frag) : Sp := fun vs H Q E => ∃ (n a : Addr) (i : Nat) (l : List Int) (lo hi : Int), vs = [.ref n, .int lo, .int hi] ∧ NumAt K H n a i ∧ SqL K H a (l.map V.int) ∧ i ≤ l.length ∧
  (Sg49.num lo hi (l.drop i) = none → E (XN K) none H) ∧
  (∀ z r, Sg49.num lo hi (l.drop i) = some (z, r) → ∀ H', i + 1 ≤ l.length → l.drop (i + 1) = r → NumAt K H' n a (i + 1) → But [n] H H' → (∀ p, H' p = none → H p = none) → Q (.int z) H')
theorem pure_Numbers_one (T : Tx K mg) (vs : List V) (H : Hp) (Q : VK) (E : XK) (h : spOne K vs H Q E) : t_Numbers_one K E (spEnded K) { nx := fun _ H' => Q .non H', rt := Q } (start N_Numbers_one vs) H := by
  obtain ⟨n, a, i, l, lo, hi, rfl, h, hs, hil, qE, qQ⟩ := h
  obtain ⟨f1, f2⟩ := h.fd T
  obtain ⟨dx, hn⟩ := id h
  unfold t_Numbers_one
  repeat walk_at "s1"
  refine k_methK hn rfl ?_
  repeat walk_at "s1"
  refine ⟨n, a, i, l, rfl, h, hs, ?_⟩
  repeat walk_at "s1"
  rcases num_cases lo hi (l.drop i) with ⟨e, e2⟩ | ⟨z, r, e, h2⟩
  · have := drop_end e hil
    rw [decide_eq_true (by omega)]
    exact qE e2
  · obtain ⟨g1, g2, g3⟩ := drop_at e
    rw [decide_eq_false (by omega)]
    refine iteF ?_
    repeat walk_at "s1"
    refine k_ixL hs (atI_map g1) ?_
    repeat walk_at "s1"
    rcases h2 with ⟨c1, c2, e2⟩ | ⟨c, e2⟩
    · rw [decide_eq_true c1]
      refine iteT ?_
      repeat walk_at "s1"
      rw [decide_eq_true c2]
      show if false = true then _ else _
      refine iteF ?_
      repeat walk_at "s1"
      refine k_setK (fs' := nF (.ref a) (.int ((i + 1 : Nat) : Int))) hn T.c_Numbers T.n_Numbers_place rfl ?_
      have b3 : But [n] H (upd H n (.ins (CN K) dx (nF (.ref a) (.int ((i + 1 : Nat) : Int))))) := (But.refl H).put (by simp)
      have h3 : NumAt K (upd H n (.ins (CN K) dx (nF (.ref a) (.int ((i + 1 : Nat) : Int))))) n a (i + 1) := ⟨dx, upd_same⟩
      have n3 : ∀ p, upd H n (.ins (CN K) dx (nF (.ref a) (.int ((i + 1 : Nat) : Int)))) p = none → H p = none := fun p hp => by
        by_cases c : p = n
        · rw [c, upd_same] at hp; cases hp
        · rw [upd_ne c] at hp; exact hp
      generalize upd H n (.ins (CN K) dx (nF (.ref a) (.int ((i + 1 : Nat) : Int)))) = H3 at b3 h3 n3 ⊢
      obtain ⟨f3, f4⟩ := h3.fd T
      have hs3 := sqBut hs b3 h.ins
      repeat walk_at "s1"
      have e5 : (((i + 1 : Nat) : Int) - 1) = (i : Int) := by omega
      rw [e5]
      refine k_ixL hs3 (atI_map g1) ?_
      exact qQ z r e2 H3 (by omega) g2 h3 b3 n3
    · by_cases c1 : lo ≤ z
      · rw [decide_eq_true c1]
        refine iteT ?_
        repeat walk_at "s1"
        rw [decide_eq_false fun c2 => c ⟨c1, c2⟩]
        show if true = true then _ else _
        exact iteT (qE e2)
      · rw [decide_eq_false c1]
        refine iteF ?_
        repeat walk_at "s1"
        show if true = true then _ else _
        exact iteT (qE e2)
end
end SP
set_option maxHeartbeats 2000000
namespace SP
open PySem PySem.Spec PyProof.Rows L2
/-- one step of a reading where nothing is asked -/
local macro_rules | `(tactic| walk_at "s1") => `(tactic| with_reducible first
  | refine k_seq ?_ | refine k_asg ?_ | refine k_if ?_ | refine k_ret ?_ | refine k_set ?_ | refine k_drop ?_ | refine k_next ?_ | refine k_retN ?_
  | refine k_var rfl ?_ | refine k_c ?_ | refine k_fld ?_ | refine k_fldK (by assumption) ?_ | refine k_op ?_ | refine k_plus ?_ | refine k_minus ?_ | refine k_cons ?_ | refine k_nil ?_ | refine k_name ?_
  | refine k_cmp ?_ | refine k_cmpK ?_ | refine k_B ?_ | refine k_blK ?_ | refine k_test ?_ | refine k_meth ?_ | refine k_call ?_ | refine k_CB ?_ | refine k_len (by assumption) ?_
  | refine k_ixT (by assumption) rfl ?_ | refine k_and ?_ | refine k_or ?_ | refine k_not ?_ | refine k_andV ?_ | refine k_orV ?_ | refine k_notV ?_ | refine k_ife ?_ | refine k_chain ?_ | refine k_tup ?_ | refine k_lst ?_
  | refine k_less ?_ | refine k_leq ?_ | refine k_un ?_ | refine k_neg ?_ | refine k_isN ?_ | refine k_notN ?_ | refine k_max ?_ | refine k_min ?_ | refine k_abs ?_ | refine k_bm ?_ | refine k_make ?_ | refine k_app (by assumption) (by assumption) ?_)
/-! ### values and things said, read -/
section
variable {K : PySem.W.Frag} {mg : Str → Option Value}
local macro_rules | `(tactic| walk_at "s2") => `(tactic| first | walk_at "s1" | refine iteT ?_ | refine iteF ?_)
/-- what a reader's call gives, at the reader n -/
def RdK {α : Type} (K : PySem.W.Frag) (rd : Sg49.R α) (Rep : Hp → V → α → Prop) (n : Addr) (H : Hp) (Q : VK) (E : XK) : Prop := ∃ (a : Addr) (i : Nat) (l : List Int), NumAt K H n a i ∧ SqL K H a (l.map V.int) ∧ i ≤ l.length ∧
  (rd (l.drop i) = none → ∀ H' i', NumAt K H' n a i' → But [n] H H' → E (XN K) none H') ∧
  (∀ x r, rd (l.drop i) = some (x, r) → ∀ v H' i', i ≤ i' → i' ≤ l.length → l.drop i' = r → NumAt K H' n a i' → But [n] H H' → Rep H' v x → Q v H')
def spRd {α : Type} (K : PySem.W.Frag) (rd : Sg49.R α) (Rep : Hp → V → α → Prop) (args : List V) : Sp := fun vs H Q E => ∃ n : Addr, vs = .ref n :: args ∧ RdK K rd Rep n H Q E
/-- where a reading stands: H0 as it began -/
structure Cur (K : PySem.W.Frag) (H0 : Hp) (n a : Addr) (l : List Int) (i : Nat) (H : Hp) : Prop where
  num : NumAt K H n a i
  sq : SqL K H a (l.map V.int)
  le : i ≤ l.length
  but : But [n] H0 H
theorem Cur.fd {H0 H : Hp} {n a : Addr} {l : List Int} {i : Nat} (T : Tx K mg) (c : Cur K H0 n a l i H) : Fd K H n "numbers" (.ref a) ∧ Fd K H n "place" (.int i) := c.num.fd T
theorem Cur.start {H : Hp} {n a : Addr} {l : List Int} {i : Nat} (h : NumAt K H n a i) (hs : SqL K H a (l.map V.int)) (hl : i ≤ l.length) : Cur K H n a l i H := ⟨h, hs, hl, But.refl H⟩
theorem Cur.tup {H0 H H1 : Hp} {n a : Addr} {l : List Int} {i : Nat} (c : Cur K H0 n a l i H) (b : But [n] H H1) : TupK H H1 := b.tup c.num.ntup
theorem Cur.on {H0 H H1 : Hp} {n a : Addr} {l : List Int} {i i1 : Nat} (c : Cur K H0 n a l i H) (h : NumAt K H1 n a i1) (hl : i1 ≤ l.length) (b : But [n] H H1) : Cur K H0 n a l i1 H1 := ⟨h, sqBut c.sq b c.num.ins, hl, c.but.trans b⟩
/-- a new object beside -/
theorem Cur.new {H0 H : Hp} {n a p : Addr} {l : List Int} {i : Nat} {o : HO} (c : Cur K H0 n a l i H) (h : H p = none) : Cur K H0 n a l i (upd H p o) := by
  obtain ⟨dx, e⟩ := id c.num
  have b : But [n] H (upd H p o) := (But.refl H).newer h
  exact c.on ⟨dx, by rw [upd_ne (ne_of_none e h)]; exact e⟩ c.le b
variable {H0 H : Hp} {n a : Addr} {l : List Int} {i : Nat} {Q : VK} {E : XK}
theorem rd_call {α : Type} {rd : Sg49.R α} {Rep : Hp → V → α → Prop} (c : Cur K H0 n a l i H) (eE : rd (l.drop i) = none → ∀ H' i', NumAt K H' n a i' → But [n] H0 H' → E (XN K) none H')
    (eQ : ∀ x i1 v H1, rd (l.drop i) = some (x, l.drop i1) → i ≤ i1 → Cur K H0 n a l i1 H1 → But [n] H H1 → Rep H1 v x → Q v H1) : RdK K rd Rep n H Q E :=
  ⟨a, i, l, c.num, c.sq, c.le, fun e H' i' h b => eE e H' i' h (c.but.trans b), fun x r e v H' i' h1 h2 h3 h4 h5 h6 => eQ x i' v H' (by rw [h3]; exact e) h1 (c.on h4 h2 h5) h5 h6⟩
def RepN : Hp → V → Nat → Prop := fun _ v x => v = .int (x : Nat)
def RepI : Hp → V → Int → Prop := fun _ v x => v = .int x
theorem one_num {lo hi : Int} (h : RdK K (Sg49.num lo hi) RepI n H Q E) : spOne K [.ref n, .int lo, .int hi] H Q E := by
  obtain ⟨a, i, l, h1, h2, h3, h4, h5⟩ := h
  exact ⟨n, a, i, l, lo, hi, rfl, h1, h2, h3, fun e => h4 e H i h1 (But.refl H), fun z r e H' g1 g2 g3 g4 _ => h5 z r e _ H' (i + 1) (Nat.le_succ i) g1 g2 g3 g4 rfl⟩
theorem nat_some {m : Nat} {l r : List Int} {z : Int} (h : Sg49.num 0 (m : Nat) l = some (z, r)) : Sg49.nat m l = some (z.toNat, r) ∧ ((z.toNat : Nat) : Int) = z := by
  rcases num_cases 0 (m : Nat) l with ⟨_, e⟩ | ⟨z', r', _, ⟨c1, c2, e⟩ | ⟨_, e⟩⟩
  · rw [h] at e; cases e
  · rw [h] at e; cases e
    refine ⟨?_, by omega⟩
    unfold Sg49.nat
    rw [h]
    rfl
  · rw [h] at e; cases e
theorem nat_none {m : Nat} {l : List Int} (h : Sg49.num 0 (m : Nat) l = none) : Sg49.nat m l = none := by
  unfold Sg49.nat
  rw [h]
  rfl
theorem nat_le {m : Nat} {l r : List Int} {x : Nat} (h : Sg49.nat m l = some (x, r)) : x ≤ m := by
  rcases num_cases 0 (m : Nat) l with ⟨_, e⟩ | ⟨z', r', _, ⟨c1, c2, e⟩ | ⟨_, e⟩⟩
  · rw [nat_none e] at h; cases h
  · rw [(nat_some e).1] at h; cases h; omega
  · rw [nat_none e] at h; cases h
theorem one_nat {m : Nat} (h : RdK K (Sg49.nat m) RepN n H Q E) : spOne K [.ref n, .int 0, .int (m : Nat)] H Q E := by
  obtain ⟨a, i, l, h1, h2, h3, h4, h5⟩ := h
  refine ⟨n, a, i, l, 0, (m : Nat), rfl, h1, h2, h3, fun e => h4 (nat_none e) H i h1 (But.refl H), fun z r e H' g1 g2 g3 g4 _ => ?_⟩
  obtain ⟨e1, e2⟩ := nat_some e
  exact h5 _ r e1 (.int z) H' (i + 1) (Nat.le_succ i) g1 g2 g3 g4 (congrArg V.int e2.symm)
abbrev spParty (K : PySem.W.Frag) : Sp := spRd K Sg49.party RepN []
abbrev spKind (K : PySem.W.Frag) : Sp := spRd K Sg49.kind RepN []
abbrev spAmount (K : PySem.W.Frag) : Sp := spRd K (Sg49.num (-Sg49.FAR) Sg49.FAR) RepI []
theorem pure_Numbers_party (vs : List V) (H : Hp) (Q : VK) (E : XK) (h : spParty K vs H Q E) : t_Numbers_party K E (spOne K) { nx := fun _ H' => Q .non H', rt := Q } (start N_Numbers_party vs) H := by
  obtain ⟨n, rfl, h⟩ := h
  obtain ⟨a, i, l, ⟨dx, hn⟩, _⟩ := id h
  unfold t_Numbers_party
  repeat walk_at "s1"
  refine k_methK hn rfl ?_
  repeat walk_at "s1"
  exact one_nat (m := 7) h
theorem pure_Numbers_kind_of_money (vs : List V) (H : Hp) (Q : VK) (E : XK) (h : spKind K vs H Q E) : t_Numbers_kind_of_money K E (spOne K) { nx := fun _ H' => Q .non H', rt := Q } (start N_Numbers_kind_of_money vs) H := by
  obtain ⟨n, rfl, h⟩ := h
  obtain ⟨a, i, l, ⟨dx, hn⟩, _⟩ := id h
  unfold t_Numbers_kind_of_money
  repeat walk_at "s1"
  refine k_methK hn rfl ?_
  repeat walk_at "s1"
  exact one_nat (m := 3) h
theorem pure_Numbers_amount (vs : List V) (H : Hp) (Q : VK) (E : XK) (h : spAmount K vs H Q E) : t_Numbers_amount K E (spOne K) { nx := fun _ H' => Q .non H', rt := Q } (start N_Numbers_amount vs) H := by
  obtain ⟨n, rfl, h⟩ := h
  obtain ⟨a, i, l, ⟨dx, hn⟩, _⟩ := id h
  unfold t_Numbers_amount
  repeat walk_at "s1"
  refine k_methK hn rfl ?_
  repeat walk_at "s1"
  exact one_num h
/-! the document's readers, a case each -/
theorem value_nil {n : Nat} : Sg49.value (n + 1) [] = none := by unfold Sg49.value; rfl
theorem obs_nil {n : Nat} : Sg49.obs (n + 1) [] = none := by unfold Sg49.obs; rfl
theorem value_0 {l : List Int} : Sg49.value 0 l = none := by unfold Sg49.value; rfl
theorem obs_0 {l : List Int} : Sg49.obs 0 l = none := by unfold Sg49.obs; rfl
theorem value_bad {n : Nat} {z : Int} {l : List Int} (h : ¬ (0 ≤ z ∧ z ≤ 11)) : Sg49.value (n + 1) (z :: l) = none := by
  unfold Sg49.value
  repeat rw [if_neg (by omega)]
theorem obs_bad {n : Nat} {z : Int} {l : List Int} (h : ¬ (0 ≤ z ∧ z ≤ 7)) : Sg49.obs (n + 1) (z :: l) = none := by
  unfold Sg49.obs
  repeat rw [if_neg (by omega)]
theorem two_none1 {α β γ : Type} {p : Sg49.R α} {q : Sg49.R β} {f : α → β → γ} {l : List Int} (h : p l = none) : Sg49.two p q f l = none := by unfold Sg49.two; rw [h]; rfl
theorem two_none2 {α β γ : Type} {p : Sg49.R α} {q : Sg49.R β} {f : α → β → γ} {l r : List Int} {x : α} (h : p l = some (x, r)) (g : q r = none) : Sg49.two p q f l = none := by unfold Sg49.two; rw [h]; show (q r).map _ = none; rw [g]; rfl
theorem two_some {α β γ : Type} {p : Sg49.R α} {q : Sg49.R β} {f : α → β → γ} {l r s : List Int} {x : α} {y : β} (h : p l = some (x, r)) (g : q r = some (y, s)) : Sg49.two p q f l = some (f x y, s) := by unfold Sg49.two; rw [h]; show (q r).map _ = _; rw [g]; rfl
def RepV (n : Nat) : Hp → V → Sg49.Value → Prop := fun H v x => VAt H n v x
def RepO (n : Nat) : Hp → V → Sg49.Obs → Prop := fun H v x => OAt H n v x
abbrev spValue (K : PySem.W.Frag) (n : Nat) : Sp := spRd K (Sg49.value n) (RepV n) [.int (41 - (n : Nat))]
abbrev spSaid (K : PySem.W.Frag) (n : Nat) : Sp := spRd K (Sg49.obs n) (RepO n) [.int (41 - (n : Nat))]
/-- where nothing is read any more -/
abbrev spNo : Sp := fun _ _ _ _ => False
def spV (K : PySem.W.Frag) : Nat → Sp
  | 0 => spNo
  | n + 1 => spValue K n
def spO (K : PySem.W.Frag) : Nat → Sp
  | 0 => spNo
  | n + 1 => spSaid K n
theorem depth_eq {n : Nat} : ((41 : Int) - ((n + 1 : Nat) : Int)) + 1 = 41 - (n : Nat) := by omega
theorem call_value {v : V} (hv : v = .int (((41 : Int) - ((n + 1 : Nat) : Int)) + 1)) {p : Addr} (h : RdK K (Sg49.value n) (RepV n) p H Q E) : True := trivial
end
end SP
set_option maxHeartbeats 2000000
namespace SP
open PySem PySem.Spec PyProof.Rows L2
/-- one step of a reading where nothing is asked -/
local macro_rules | `(tactic| walk_at "s1") => `(tactic| with_reducible first
  | refine k_seq ?_ | refine k_asg ?_ | refine k_if ?_ | refine k_ret ?_ | refine k_set ?_ | refine k_drop ?_ | refine k_next ?_ | refine k_retN ?_
  | refine k_var rfl ?_ | refine k_c ?_ | refine k_fld ?_ | refine k_fldK (by assumption) ?_ | refine k_op ?_ | refine k_plus ?_ | refine k_minus ?_ | refine k_cons ?_ | refine k_nil ?_ | refine k_name ?_
  | refine k_cmp ?_ | refine k_cmpK ?_ | refine k_B ?_ | refine k_blK ?_ | refine k_test ?_ | refine k_meth ?_ | refine k_call ?_ | refine k_CB ?_ | refine k_len (by assumption) ?_
  | refine k_ixT (by assumption) rfl ?_ | refine k_and ?_ | refine k_or ?_ | refine k_not ?_ | refine k_andV ?_ | refine k_orV ?_ | refine k_notV ?_ | refine k_ife ?_ | refine k_chain ?_ | refine k_tup ?_ | refine k_lst ?_
  | refine k_less ?_ | refine k_leq ?_ | refine k_un ?_ | refine k_neg ?_ | refine k_isN ?_ | refine k_notN ?_ | refine k_max ?_ | refine k_min ?_ | refine k_abs ?_ | refine k_bm ?_ | refine k_make ?_ | refine k_app (by assumption) (by assumption) ?_)
section
variable {K : PySem.W.Frag} {mg : Str → Option Value}
local macro_rules | `(tactic| walk_at "s2") => `(tactic| first | walk_at "s1" | refine iteT ?_ | refine iteF ?_)
variable {H0 H : Hp} {n a : Addr} {l : List Int} {i : Nat} {Q : VK} {E : XK}
theorem value_c0 {k : Nat} {l : List Int} : Sg49.value (k + 1) (0 :: l) = (Sg49.num (-Sg49.FAR) Sg49.FAR l).map fun x => (.const x.1, x.2) := by unfold Sg49.value; rfl
theorem value_c1 {k : Nat} {l : List Int} : Sg49.value (k + 1) (1 :: l) = Sg49.two Sg49.party Sg49.kind Sg49.Value.has l := by unfold Sg49.value; rfl
theorem value_c2 {k : Nat} {l : List Int} : Sg49.value (k + 1) (2 :: l) = (Sg49.name l).map fun x => (.chosen x.1, x.2) := by unfold Sg49.value; rfl
theorem value_c3 {k : Nat} {l : List Int} : Sg49.value (k + 1) (3 :: l) = (Sg49.name l).map fun x => (.slot x.1, x.2) := by unfold Sg49.value; rfl
theorem value_two {k : Nat} {z : Int} (h1 : 4 ≤ z) (h2 : z ≤ 7) : ∃ con : Sg49.Value → Sg49.Value → Sg49.Value, (∀ r, Sg49.value (k + 1) (z :: r) = Sg49.two (Sg49.value k) (Sg49.value k) con r) ∧
    ∀ (G : Hp) (p : Addr) (a b : V) (x y : Sg49.Value), G p = some (.tup [.int z, a, b]) → VAt G k a x → VAt G k b y → VAt G (k + 1) (.ref p) (con x y) := by
  have h : z = 4 ∨ z = 5 ∨ z = 6 ∨ z = 7 := by omega
  rcases h with rfl | rfl | rfl | rfl
  · exact ⟨.add, fun r => by rw [Sg49.value]; rfl, fun G p a b x y h1 h2 h3 => ⟨p, a, b, rfl, h1, h2, h3⟩⟩
  · exact ⟨.sub, fun r => by rw [Sg49.value]; rfl, fun G p a b x y h1 h2 h3 => ⟨p, a, b, rfl, h1, h2, h3⟩⟩
  · exact ⟨.mul, fun r => by rw [Sg49.value]; rfl, fun G p a b x y h1 h2 h3 => ⟨p, a, b, rfl, h1, h2, h3⟩⟩
  · exact ⟨.div, fun r => by rw [Sg49.value]; rfl, fun G p a b x y h1 h2 h3 => ⟨p, a, b, rfl, h1, h2, h3⟩⟩
theorem value_c8 {k : Nat} {l : List Int} : Sg49.value (k + 1) (8 :: l) = (Sg49.value k l).map fun x => (.neg x.1, x.2) := by rw [Sg49.value]; rfl
theorem value_c9 {k : Nat} {l : List Int} : Sg49.value (k + 1) (9 :: l) = some (.start, l) := by rw [Sg49.value]; rfl
theorem value_c10 {k : Nat} {l : List Int} : Sg49.value (k + 1) (10 :: l) = some (.end_, l) := by rw [Sg49.value]; rfl
theorem value_c11 {k : Nat} {l : List Int} : Sg49.value (k + 1) (11 :: l) = (Sg49.obs k l).bind fun o => Sg49.two (Sg49.value k) (Sg49.value k) (Sg49.Value.cond o.1) o.2 := by rw [Sg49.value]; rfl
/-- the number that tells which it is -/
theorem head_num {hi : Int} {r : List Int} {z : Int} (e : Sg49.num 0 hi l = some (z, r)) : l = z :: r ∧ 0 ≤ z ∧ z ≤ hi := by
  rcases num_cases 0 hi l with ⟨_, e2⟩ | ⟨z', r', h, ⟨c1, c2, e2⟩ | ⟨_, e2⟩⟩
  · rw [e] at e2; cases e2
  · rw [e] at e2; cases e2; exact ⟨h, c1, c2⟩
  · rw [e] at e2; cases e2
theorem num_in {lo hi z : Int} {l r : List Int} (e : Sg49.num lo hi l = some (z, r)) : lo ≤ z ∧ z ≤ hi := by
  rcases num_cases lo hi l with ⟨_, e2⟩ | ⟨z', r', _, ⟨c1, c2, e2⟩ | ⟨_, e2⟩⟩
  · rw [e] at e2; cases e2
  · rw [e] at e2; cases e2; exact ⟨c1, c2⟩
  · rw [e] at e2; cases e2
theorem value_none {k : Nat} {l : List Int} (e : Sg49.num 0 11 l = none) : Sg49.value (k + 1) l = none := by
  rcases num_cases 0 11 l with ⟨h, _⟩ | ⟨z', r', h, ⟨_, _, e2⟩ | ⟨c, _⟩⟩
  · rw [h]; exact value_nil
  · rw [e] at e2; cases e2
  · rw [h]; exact value_bad c
theorem obs_none {k : Nat} {l : List Int} (e : Sg49.num 0 7 l = none) : Sg49.obs (k + 1) l = none := by
  rcases num_cases 0 7 l with ⟨h, _⟩ | ⟨z', r', h, ⟨_, _, e2⟩ | ⟨c, _⟩⟩
  · rw [h]; exact obs_nil
  · rw [e] at e2; cases e2
  · rw [h]; exact obs_bad c
theorem pure_Numbers_value (T : Tx K mg) (k : Nat) (hk : k ≤ 40) (vs : List V) (H : Hp) (Q : VK) (E : XK) (h : spValue K k vs H Q E) : t_Numbers_value K E (spV K k) (spO K k) (spOne K) (spKind K) (spParty K) (spAmount K) { nx := fun _ H' => Q .non H', rt := Q } (start N_Numbers_value vs) H := by
  obtain ⟨n, rfl, a, i, l, hn, hs, hl, qE, qQ⟩ := h
  obtain ⟨dx, e0⟩ := id hn
  unfold t_Numbers_value
  repeat walk_at "s1"
  cases k with
  | zero =>
    refine iteT ?_
    exact qE value_0 H i hn (But.refl H)
  | succ k =>
    rw [decide_eq_false (by omega)]
    refine iteF ?_
    repeat walk_at "s1"
    refine k_methK e0 rfl ?_
    repeat walk_at "s1"
    refine one_num (rd_call (Cur.start hn hs hl) (fun e H' i' h' b' => qE (value_none e) H' i' h' b') fun z i1 v H1 e hi1 c1 b1 rep => ?_)
    obtain rfl : v = .int z := rep
    obtain ⟨hd, z0, z11⟩ := head_num e
    rw [hd] at qE qQ
    obtain ⟨dx1, e1⟩ := id c1.num
    repeat walk_at "s1"
    by_cases q0 : z = 0
    · subst q0
      repeat walk_at "s2"
      refine k_methK e1 rfl ?_
      repeat walk_at "s1"
      refine ⟨n, rfl, rd_call c1 (fun e H' i' h' b' => qE (by rw [value_c0, e]; rfl) H' i' h' b') fun x i2 v H2 e2 hi2 c2 b2 rep => ?_⟩
      obtain rfl : v = .int x := rep
      repeat walk_at "s1"
      refine ⟨small, fun p hp => ?_⟩
      have c3 := c2.new (o := .tup [.int 0, .int x]) hp
      exact qQ (.const x) _ (by rw [value_c0, e2]; rfl) (.ref p) _ i2 (Nat.le_trans hi1 hi2) c3.le rfl c3.num c3.but ⟨p, rfl, upd_same, num_in e2⟩
    rw [decide_eq_false q0]
    refine iteF ?_
    repeat walk_at "s1"
    by_cases q1 : z = 1
    · subst q1
      repeat walk_at "s2"
      refine k_methK e1 rfl ?_
      repeat walk_at "s1"
      refine ⟨n, rfl, rd_call c1 (fun e H' i' h' b' => qE (by rw [value_c1]; exact two_none1 e) H' i' h' b') fun x i2 v H2 e2 hi2 c2 b2 rep => ?_⟩
      obtain rfl : v = .int (x : Nat) := rep
      obtain ⟨dx2, e3⟩ := id c2.num
      repeat walk_at "s1"
      refine k_methK e3 rfl ?_
      repeat walk_at "s1"
      refine ⟨n, rfl, rd_call c2 (fun e H' i' h' b' => qE (by rw [value_c1]; exact two_none2 e2 e) H' i' h' b') fun y i3 v H3 e4 hi3 c3 b3 rep => ?_⟩
      obtain rfl : v = .int (y : Nat) := rep
      repeat walk_at "s1"
      refine ⟨small, fun p hp => ?_⟩
      have c4 := c3.new (o := .tup [.int 1, .int (x : Nat), .int (y : Nat)]) hp
      exact qQ (.has x y) _ (by rw [value_c1]; exact two_some e2 e4) (.ref p) _ i3 (Nat.le_trans hi1 (Nat.le_trans hi2 hi3)) c4.le rfl c4.num c4.but ⟨p, rfl, upd_same, Nat.lt_succ_of_le (nat_le e2), Nat.lt_succ_of_le (nat_le e4)⟩
    rw [decide_eq_false q1]
    refine iteF ?_
    repeat walk_at "s1"
    by_cases q2 : z = 2
    · subst q2
      repeat walk_at "s2"
      refine k_methK e1 rfl ?_
      repeat walk_at "s1"
      refine one_nat (m := 15) (rd_call c1 (fun e H' i' h' b' => qE (by rw [value_c2, show Sg49.name = Sg49.nat 15 from rfl, e]; rfl) H' i' h' b') fun x i2 v H2 e2 hi2 c2 b2 rep => ?_)
      obtain rfl : v = .int (x : Nat) := rep
      repeat walk_at "s1"
      refine ⟨small, fun p hp => ?_⟩
      have c3 := c2.new (o := .tup [.int 2, .int (x : Nat)]) hp
      exact qQ (.chosen x) _ (by rw [value_c2, show Sg49.name = Sg49.nat 15 from rfl, e2]; rfl) (.ref p) _ i2 (Nat.le_trans hi1 hi2) c3.le rfl c3.num c3.but ⟨p, rfl, upd_same, Nat.lt_succ_of_le (nat_le e2)⟩
    rw [decide_eq_false q2]
    refine iteF ?_
    repeat walk_at "s1"
    by_cases q3 : z = 3
    · subst q3
      repeat walk_at "s2"
      refine k_methK e1 rfl ?_
      repeat walk_at "s1"
      refine one_nat (m := 15) (rd_call c1 (fun e H' i' h' b' => qE (by rw [value_c3, show Sg49.name = Sg49.nat 15 from rfl, e]; rfl) H' i' h' b') fun x i2 v H2 e2 hi2 c2 b2 rep => ?_)
      obtain rfl : v = .int (x : Nat) := rep
      repeat walk_at "s1"
      refine ⟨small, fun p hp => ?_⟩
      have c3 := c2.new (o := .tup [.int 3, .int (x : Nat)]) hp
      exact qQ (.slot x) _ (by rw [value_c3, show Sg49.name = Sg49.nat 15 from rfl, e2]; rfl) (.ref p) _ i2 (Nat.le_trans hi1 hi2) c3.le rfl c3.num c3.but ⟨p, rfl, upd_same, Nat.lt_succ_of_le (nat_le e2)⟩
    rw [decide_eq_false q3]
    refine iteF ?_
    repeat walk_at "s1"
    have dp : V.int (((41 : Int) - ((k + 1 : Nat) : Int)) + 1) = V.int (41 - (k : Nat)) := congrArg V.int depth_eq
    by_cases q7 : z ≤ 7
    · rw [decide_eq_true q7]
      refine iteT ?_
      obtain ⟨con, hc, hat⟩ := value_two (k := k) (z := z) (by omega) q7
      repeat walk_at "s1"
      refine k_methK e1 rfl ?_
      repeat walk_at "s1"
      rw [dp]
      refine ⟨n, rfl, rd_call c1 (fun e H' i' h' b' => qE (by rw [hc]; exact two_none1 e) H' i' h' b') fun x i2 v H2 e2 hi2 c2 b2 rep => ?_⟩
      obtain ⟨dx2, e3⟩ := id c2.num
      repeat walk_at "s1"
      refine k_methK e3 rfl ?_
      repeat walk_at "s1"
      rw [dp]
      refine ⟨n, rfl, rd_call c2 (fun e H' i' h' b' => qE (by rw [hc]; exact two_none2 e2 e) H' i' h' b') fun y i3 v' H3 e4 hi3 c3 b3 rep' => ?_⟩
      repeat walk_at "s1"
      refine ⟨small, fun p hp => ?_⟩
      have c4 := c3.new (o := .tup [.int z, v, v']) hp
      have t3 : TupK H3 (upd H3 p (.tup [.int z, v, v'])) := fun b xs e => by rw [upd_ne (ne_of_none e hp)]; exact e
      exact qQ (con x y) _ (by rw [hc]; exact two_some e2 e4) (.ref p) _ i3 (Nat.le_trans hi1 (Nat.le_trans hi2 hi3)) c4.le rfl c4.num c4.but (hat _ p _ _ _ _ upd_same ((VAt.mono rep (c2.tup b3)).mono t3) (VAt.mono rep' t3))
    rw [decide_eq_false q7]
    refine iteF ?_
    repeat walk_at "s1"
    by_cases q8 : z = 8
    · subst q8
      repeat walk_at "s2"
      refine k_methK e1 rfl ?_
      repeat walk_at "s1"
      rw [dp]
      refine ⟨n, rfl, rd_call c1 (fun e H' i' h' b' => qE (by rw [value_c8, e]; rfl) H' i' h' b') fun x i2 v H2 e2 hi2 c2 b2 rep => ?_⟩
      repeat walk_at "s1"
      refine ⟨small, fun p hp => ?_⟩
      have c3 := c2.new (o := .tup [.int 8, v]) hp
      have t3 : TupK H2 (upd H2 p (.tup [.int 8, v])) := fun b xs e => by rw [upd_ne (ne_of_none e hp)]; exact e
      exact qQ (.neg x) _ (by rw [value_c8, e2]; rfl) (.ref p) _ i2 (Nat.le_trans hi1 hi2) c3.le rfl c3.num c3.but ⟨p, v, rfl, upd_same, VAt.mono rep t3⟩
    rw [decide_eq_false q8]
    refine iteF ?_
    repeat walk_at "s1"
    by_cases q10 : z ≤ 10
    · rw [decide_eq_true q10]
      refine iteT ?_
      repeat walk_at "s1"
      refine ⟨small, fun p hp => ?_⟩
      have c3 := c1.new (o := .tup [.int z]) hp
      have h : z = 9 ∨ z = 10 := by omega
      rcases h with rfl | rfl
      · exact qQ .start _ value_c9 (.ref p) _ i1 hi1 c3.le rfl c3.num c3.but ⟨p, rfl, upd_same⟩
      · exact qQ .end_ _ value_c10 (.ref p) _ i1 hi1 c3.le rfl c3.num c3.but ⟨p, rfl, upd_same⟩
    rw [decide_eq_false q10]
    refine iteF ?_
    repeat walk_at "s1"
    obtain rfl : z = 11 := by omega
    refine k_methK e1 rfl ?_
    repeat walk_at "s1"
    rw [dp]
    refine ⟨n, rfl, rd_call c1 (fun e H' i' h' b' => qE (by rw [value_c11, e]; rfl) H' i' h' b') fun o i2 v0 H2 e2 hi2 c2 b2 rep0 => ?_⟩
    obtain ⟨dx2, e3⟩ := id c2.num
    repeat walk_at "s1"
    refine k_methK e3 rfl ?_
    repeat walk_at "s1"
    rw [dp]
    have hv : ∀ x, Sg49.value (k + 1) (11 :: l.drop i1) = x ↔ Sg49.two (Sg49.value k) (Sg49.value k) (Sg49.Value.cond o) (l.drop i2) = x := fun x => by rw [value_c11, e2]; exact Iff.rfl
    refine ⟨n, rfl, rd_call c2 (fun e H' i' h' b' => qE ((hv _).mpr (two_none1 e)) H' i' h' b') fun x i3 v H3 e4 hi3 c3 b3 rep => ?_⟩
    obtain ⟨dx3, e5⟩ := id c3.num
    repeat walk_at "s1"
    refine k_methK e5 rfl ?_
    repeat walk_at "s1"
    rw [dp]
    refine ⟨n, rfl, rd_call c3 (fun e H' i' h' b' => qE ((hv _).mpr (two_none2 e4 e)) H' i' h' b') fun y i4 v' H4 e6 hi4 c4 b4 rep' => ?_⟩
    repeat walk_at "s1"
    refine ⟨small, fun p hp => ?_⟩
    have c5 := c4.new (o := .tup [.int 11, v0, v, v']) hp
    have t3 : TupK H4 (upd H4 p (.tup [.int 11, v0, v, v'])) := fun b xs e => by rw [upd_ne (ne_of_none e hp)]; exact e
    exact qQ (.cond o x y) _ ((hv _).mpr (two_some e4 e6)) (.ref p) _ i4 (Nat.le_trans hi1 (Nat.le_trans hi2 (Nat.le_trans hi3 hi4))) c5.le rfl c5.num c5.but
      ⟨p, v0, v, v', rfl, upd_same, ((OAt.mono rep0 (c2.tup b3)).mono (c3.tup b4)).mono t3, (VAt.mono rep (c3.tup b4)).mono t3, VAt.mono rep' t3⟩
/-! things said -/
theorem obs_c0 {k : Nat} {l : List Int} : Sg49.obs (k + 1) (0 :: l) = some (.yes, l) := by rw [Sg49.obs]; rfl
theorem obs_c1 {k : Nat} {l : List Int} : Sg49.obs (k + 1) (1 :: l) = some (.no, l) := by rw [Sg49.obs]; rfl
theorem obs_c2 {k : Nat} {l : List Int} : Sg49.obs (k + 1) (2 :: l) = (Sg49.name l).map fun x => (.made x.1, x.2) := by rw [Sg49.obs]; rfl
theorem obs_c7 {k : Nat} {l : List Int} : Sg49.obs (k + 1) (7 :: l) = (Sg49.obs k l).map fun x => (.not x.1, x.2) := by rw [Sg49.obs]; rfl
theorem obs_twoV {k : Nat} {z : Int} (h1 : 3 ≤ z) (h2 : z ≤ 4) : ∃ con : Sg49.Value → Sg49.Value → Sg49.Obs, (∀ r, Sg49.obs (k + 1) (z :: r) = Sg49.two (Sg49.value k) (Sg49.value k) con r) ∧
    ∀ (G : Hp) (p : Addr) (a b : V) (x y : Sg49.Value), G p = some (.tup [.int z, a, b]) → VAt G k a x → VAt G k b y → OAt G (k + 1) (.ref p) (con x y) := by
  have h : z = 3 ∨ z = 4 := by omega
  rcases h with rfl | rfl
  · exact ⟨.atLeast, fun r => by rw [Sg49.obs]; rfl, fun G p a b x y h1 h2 h3 => ⟨p, a, b, rfl, h1, h2, h3⟩⟩
  · exact ⟨.same, fun r => by rw [Sg49.obs]; rfl, fun G p a b x y h1 h2 h3 => ⟨p, a, b, rfl, h1, h2, h3⟩⟩
theorem obs_twoO {k : Nat} {z : Int} (h1 : 5 ≤ z) (h2 : z ≤ 6) : ∃ con : Sg49.Obs → Sg49.Obs → Sg49.Obs, (∀ r, Sg49.obs (k + 1) (z :: r) = Sg49.two (Sg49.obs k) (Sg49.obs k) con r) ∧
    ∀ (G : Hp) (p : Addr) (a b : V) (x y : Sg49.Obs), G p = some (.tup [.int z, a, b]) → OAt G k a x → OAt G k b y → OAt G (k + 1) (.ref p) (con x y) := by
  have h : z = 5 ∨ z = 6 := by omega
  rcases h with rfl | rfl
  · exact ⟨.and, fun r => by rw [Sg49.obs]; rfl, fun G p a b x y h1 h2 h3 => ⟨p, a, b, rfl, h1, h2, h3⟩⟩
  · exact ⟨.or, fun r => by rw [Sg49.obs]; rfl, fun G p a b x y h1 h2 h3 => ⟨p, a, b, rfl, h1, h2, h3⟩⟩
theorem pure_Numbers_said (T : Tx K mg) (k : Nat) (hk : k ≤ 40) (vs : List V) (H : Hp) (Q : VK) (E : XK) (h : spSaid K k vs H Q E) : t_Numbers_said K E (spO K k) (spV K k) (spOne K) { nx := fun _ H' => Q .non H', rt := Q } (start N_Numbers_said vs) H := by
  obtain ⟨n, rfl, a, i, l, hn, hs, hl, qE, qQ⟩ := h
  obtain ⟨dx, e0⟩ := id hn
  unfold t_Numbers_said
  repeat walk_at "s1"
  cases k with
  | zero =>
    refine iteT ?_
    exact qE obs_0 H i hn (But.refl H)
  | succ k =>
    rw [decide_eq_false (by omega)]
    refine iteF ?_
    repeat walk_at "s1"
    refine k_methK e0 rfl ?_
    repeat walk_at "s1"
    refine one_num (rd_call (Cur.start hn hs hl) (fun e H' i' h' b' => qE (obs_none e) H' i' h' b') fun z i1 v H1 e hi1 c1 b1 rep => ?_)
    obtain rfl : v = .int z := rep
    obtain ⟨hd, z0, z7⟩ := head_num e
    rw [hd] at qE qQ
    obtain ⟨dx1, e1⟩ := id c1.num
    have dp : V.int (((41 : Int) - ((k + 1 : Nat) : Int)) + 1) = V.int (41 - (k : Nat)) := congrArg V.int depth_eq
    repeat walk_at "s1"
    by_cases q1 : z ≤ 1
    · rw [decide_eq_true q1]
      refine iteT ?_
      repeat walk_at "s1"
      refine ⟨small, fun p hp => ?_⟩
      have c3 := c1.new (o := .tup [.int z]) hp
      have h : z = 0 ∨ z = 1 := by omega
      rcases h with rfl | rfl
      · exact qQ .yes _ obs_c0 (.ref p) _ i1 hi1 c3.le rfl c3.num c3.but ⟨p, rfl, upd_same⟩
      · exact qQ .no _ obs_c1 (.ref p) _ i1 hi1 c3.le rfl c3.num c3.but ⟨p, rfl, upd_same⟩
    rw [decide_eq_false q1]
    refine iteF ?_
    repeat walk_at "s1"
    by_cases q2 : z = 2
    · subst q2
      repeat walk_at "s2"
      refine k_methK e1 rfl ?_
      repeat walk_at "s1"
      refine one_nat (m := 15) (rd_call c1 (fun e H' i' h' b' => qE (by rw [obs_c2, show Sg49.name = Sg49.nat 15 from rfl, e]; rfl) H' i' h' b') fun x i2 v H2 e2 hi2 c2 b2 rep => ?_)
      obtain rfl : v = .int (x : Nat) := rep
      repeat walk_at "s1"
      refine ⟨small, fun p hp => ?_⟩
      have c3 := c2.new (o := .tup [.int 2, .int (x : Nat)]) hp
      exact qQ (.made x) _ (by rw [obs_c2, show Sg49.name = Sg49.nat 15 from rfl, e2]; rfl) (.ref p) _ i2 (Nat.le_trans hi1 hi2) c3.le rfl c3.num c3.but ⟨p, rfl, upd_same, Nat.lt_succ_of_le (nat_le e2)⟩
    rw [decide_eq_false q2]
    refine iteF ?_
    repeat walk_at "s1"
    by_cases q4 : z ≤ 4
    · rw [decide_eq_true q4]
      refine iteT ?_
      obtain ⟨con, hc, hat⟩ := obs_twoV (k := k) (z := z) (by omega) q4
      repeat walk_at "s1"
      refine k_methK e1 rfl ?_
      repeat walk_at "s1"
      rw [dp]
      refine ⟨n, rfl, rd_call c1 (fun e H' i' h' b' => qE (by rw [hc]; exact two_none1 e) H' i' h' b') fun x i2 v H2 e2 hi2 c2 b2 rep => ?_⟩
      obtain ⟨dx2, e3⟩ := id c2.num
      repeat walk_at "s1"
      refine k_methK e3 rfl ?_
      repeat walk_at "s1"
      rw [dp]
      refine ⟨n, rfl, rd_call c2 (fun e H' i' h' b' => qE (by rw [hc]; exact two_none2 e2 e) H' i' h' b') fun y i3 v' H3 e4 hi3 c3 b3 rep' => ?_⟩
      repeat walk_at "s1"
      refine ⟨small, fun p hp => ?_⟩
      have c4 := c3.new (o := .tup [.int z, v, v']) hp
      have t3 : TupK H3 (upd H3 p (.tup [.int z, v, v'])) := fun b xs e => by rw [upd_ne (ne_of_none e hp)]; exact e
      exact qQ (con x y) _ (by rw [hc]; exact two_some e2 e4) (.ref p) _ i3 (Nat.le_trans hi1 (Nat.le_trans hi2 hi3)) c4.le rfl c4.num c4.but (hat _ p _ _ _ _ upd_same ((VAt.mono rep (c2.tup b3)).mono t3) (VAt.mono rep' t3))
    rw [decide_eq_false q4]
    refine iteF ?_
    repeat walk_at "s1"
    by_cases q7 : z = 7
    · subst q7
      repeat walk_at "s2"
      refine k_methK e1 rfl ?_
      repeat walk_at "s1"
      rw [dp]
      refine ⟨n, rfl, rd_call c1 (fun e H' i' h' b' => qE (by rw [obs_c7, e]; rfl) H' i' h' b') fun x i2 v H2 e2 hi2 c2 b2 rep => ?_⟩
      repeat walk_at "s1"
      refine ⟨small, fun p hp => ?_⟩
      have c3 := c2.new (o := .tup [.int 7, v]) hp
      have t3 : TupK H2 (upd H2 p (.tup [.int 7, v])) := fun b xs e => by rw [upd_ne (ne_of_none e hp)]; exact e
      exact qQ (.not x) _ (by rw [obs_c7, e2]; rfl) (.ref p) _ i2 (Nat.le_trans hi1 hi2) c3.le rfl c3.num c3.but ⟨p, v, rfl, upd_same, OAt.mono rep t3⟩
    rw [decide_eq_false q7]
    refine iteF ?_
    repeat walk_at "s1"
    obtain ⟨con, hc, hat⟩ := obs_twoO (k := k) (z := z) (by omega) (by omega)
    refine k_methK e1 rfl ?_
    repeat walk_at "s1"
    rw [dp]
    refine ⟨n, rfl, rd_call c1 (fun e H' i' h' b' => qE (by rw [hc]; exact two_none1 e) H' i' h' b') fun x i2 v H2 e2 hi2 c2 b2 rep => ?_⟩
    obtain ⟨dx2, e3⟩ := id c2.num
    repeat walk_at "s1"
    refine k_methK e3 rfl ?_
    repeat walk_at "s1"
    rw [dp]
    refine ⟨n, rfl, rd_call c2 (fun e H' i' h' b' => qE (by rw [hc]; exact two_none2 e2 e) H' i' h' b') fun y i3 v' H3 e4 hi3 c3 b3 rep' => ?_⟩
    repeat walk_at "s1"
    refine ⟨small, fun p hp => ?_⟩
    have c4 := c3.new (o := .tup [.int z, v, v']) hp
    have t3 : TupK H3 (upd H3 p (.tup [.int z, v, v'])) := fun b xs e => by rw [upd_ne (ne_of_none e hp)]; exact e
    exact qQ (con x y) _ (by rw [hc]; exact two_some e2 e4) (.ref p) _ i3 (Nat.le_trans hi1 (Nat.le_trans hi2 hi3)) c4.le rfl c4.num c4.but (hat _ p _ _ _ _ upd_same ((OAt.mono rep (c2.tup b3)).mono t3) (OAt.mono rep' t3))
end
end SP
set_option maxHeartbeats 2000000
namespace SP
open PySem PySem.Spec PyProof.Rows L2
/-- one step of a reading where nothing is asked -/
local macro_rules | `(tactic| walk_at "s1") => `(tactic| with_reducible first
  | refine k_seq ?_ | refine k_asg ?_ | refine k_if ?_ | refine k_ret ?_ | refine k_set ?_ | refine k_drop ?_ | refine k_next ?_ | refine k_retN ?_
  | refine k_var rfl ?_ | refine k_c ?_ | refine k_fld ?_ | refine k_fldK (by assumption) ?_ | refine k_op ?_ | refine k_plus ?_ | refine k_minus ?_ | refine k_cons ?_ | refine k_nil ?_ | refine k_name ?_
  | refine k_cmp ?_ | refine k_cmpK ?_ | refine k_B ?_ | refine k_blK ?_ | refine k_test ?_ | refine k_meth ?_ | refine k_call ?_ | refine k_CB ?_ | refine k_len (by assumption) ?_
  | refine k_ixT (by assumption) rfl ?_ | refine k_and ?_ | refine k_or ?_ | refine k_not ?_ | refine k_andV ?_ | refine k_orV ?_ | refine k_notV ?_ | refine k_ife ?_ | refine k_chain ?_ | refine k_tup ?_ | refine k_lst ?_
  | refine k_less ?_ | refine k_leq ?_ | refine k_un ?_ | refine k_neg ?_ | refine k_isN ?_ | refine k_notN ?_ | refine k_max ?_ | refine k_min ?_ | refine k_abs ?_ | refine k_bm ?_ | refine k_make ?_ | refine k_app (by assumption) (by assumption) ?_)
/-! ### an action, read -/
section
variable {K : PySem.W.Frag} {mg : Str → Option Value}
local macro_rules | `(tactic| walk_at "s2") => `(tactic| first | walk_at "s1" | refine iteT ?_ | refine iteF ?_)
variable {H0 H : Hp} {n a : Addr} {l : List Int} {i : Nat} {Q : VK} {E : XK}
theorem action_nil : Sg49.action [] = none := rfl
theorem action_c0 {l : List Int} : Sg49.action (0 :: l) = (Sg49.party l).bind fun a => (Sg49.party a.2).bind fun b => (Sg49.kind b.2).bind fun t => (Sg49.value 40 t.2).map fun x => (.deposit a.1 b.1 t.1 x.1, x.2) := rfl
theorem action_c1 {l : List Int} : Sg49.action (1 :: l) = (Sg49.nat 15 l).bind fun c => (Sg49.party c.2).bind fun b => (Sg49.nat 4 b.2).bind fun n => (Sg49.bounds n.1 n.2).map fun x => (.choice c.1 b.1 x.1, x.2) := rfl
theorem action_c2 {l : List Int} : Sg49.action (2 :: l) = (Sg49.obs 40 l).map fun o => (.notify o.1, o.2) := rfl
theorem action_none {l : List Int} (e : Sg49.num 0 2 l = none) : Sg49.action l = none := by
  rcases num_cases 0 2 l with ⟨h, _⟩ | ⟨z', r', h, ⟨_, _, e2⟩ | ⟨c, _⟩⟩
  · rw [h]; rfl
  · rw [e] at e2; cases e2
  · rw [h]
    show (if z' = 0 then _ else if z' = 1 then _ else if z' = 2 then _ else none) = none
    rw [if_neg (by omega), if_neg (by omega), if_neg (by omega)]
theorem party_lt {l r : List Int} {x : Nat} (h : Sg49.party l = some (x, r)) : x < 8 := Nat.lt_succ_of_le (nat_le h)
theorem kind_lt {l r : List Int} {x : Nat} (h : Sg49.kind l = some (x, r)) : x < 4 := Nat.lt_succ_of_le (nat_le h)
theorem name_lt {l r : List Int} {x : Nat} (h : Sg49.nat 15 l = some (x, r)) : x < 16 := Nat.lt_succ_of_le (nat_le h)
theorem bounds_0 {l : List Int} : Sg49.bounds 0 l = some ([], l) := rfl
theorem bounds_s {m : Nat} {l : List Int} : Sg49.bounds (m + 1) l = (Sg49.num (-Sg49.FAR) Sg49.FAR l).bind fun x => (Sg49.num (-Sg49.FAR) Sg49.FAR x.2).bind fun y => (Sg49.bounds m y.2).map fun z => ((x.1, y.1) :: z.1, z.2) := rfl
theorem PairsAt.snoc {G : Hp} {v : V} {p : Int × Int} : ∀ {vs : List V} {l : List (Int × Int)}, PairsAt G vs l → (∃ a, v = .ref a ∧ G a = some (.tup [.int p.1, .int p.2])) → PairsAt G (vs ++ [v]) (l ++ [p])
  | [], [], _, h => ⟨h, trivial⟩
  | w :: vs, q :: ps, ⟨h1, h2⟩, h => ⟨h1, PairsAt.snoc h2 h⟩
  | [], _ :: _, h, _ => h.elim
  | _ :: _, [], h, _ => h.elim
theorem Cur.of {H1 : Hp} {i1 : Nat} (hn : NumAt K H n a i) (hs : SqL K H a (l.map V.int)) (b : But [n] H H1) (h : NumAt K H1 n a i1) (hl : i1 ≤ l.length) : Cur K H n a l i1 H1 := ⟨h, sqBut hs b hn.ins, hl, b⟩
abbrev spAction (K : PySem.W.Frag) : Sp := spRd K Sg49.action AAt []
theorem pure_Numbers_action (T : Tx K mg) (vs : List V) (H : Hp) (Q : VK) (E : XK) (h : spAction K vs H Q E) : t_Numbers_action K E (spOne K) (spAmount K) (spParty K) (spSaid K 40) (spValue K 40) (spKind K) { nx := fun _ H' => Q .non H', rt := Q } (start N_Numbers_action vs) H := by
  obtain ⟨n, rfl, a, i, l, hn, hs, hl, qE, qQ⟩ := h
  obtain ⟨dx, e0⟩ := id hn
  unfold t_Numbers_action
  repeat walk_at "s1"
  refine k_methK e0 rfl ?_
  repeat walk_at "s1"
  refine one_num (rd_call (Cur.start hn hs hl) (fun e H' i' h' b' => qE (action_none e) H' i' h' b') fun z i1 v H1 e hi1 c1 b1 rep => ?_)
  obtain rfl : v = .int z := rep
  obtain ⟨hd, z0, z11⟩ := head_num e
  rw [hd] at qE qQ
  obtain ⟨dx1, e1⟩ := id c1.num
  repeat walk_at "s1"
  by_cases q0 : z = 0
  · subst q0
    repeat walk_at "s2"
    refine k_methK e1 rfl ?_
    repeat walk_at "s1"
    refine ⟨n, rfl, rd_call c1 (fun e H' i' h' b' => qE (by rw [action_c0, e]; rfl) H' i' h' b') fun x i2 v H2 e2 hi2 c2 b2 rep => ?_⟩
    obtain rfl : v = .int (x : Nat) := rep
    obtain ⟨dx2, e3⟩ := id c2.num
    repeat walk_at "s1"
    refine k_methK e3 rfl ?_
    repeat walk_at "s1"
    refine ⟨n, rfl, rd_call c2 (fun e H' i' h' b' => qE (by rw [action_c0, e2]; simp only [Option.bind_some]; rw [e]; rfl) H' i' h' b') fun y i3 v H3 e4 hi3 c3 b3 rep => ?_⟩
    obtain rfl : v = .int (y : Nat) := rep
    obtain ⟨dx3, e5⟩ := id c3.num
    repeat walk_at "s1"
    refine k_methK e5 rfl ?_
    repeat walk_at "s1"
    refine ⟨n, rfl, rd_call c3 (fun e H' i' h' b' => qE (by rw [action_c0, e2]; simp only [Option.bind_some]; rw [e4]; simp only [Option.bind_some]; rw [e]; rfl) H' i' h' b') fun t i4 v H4 e6 hi4 c4 b4 rep => ?_⟩
    obtain rfl : v = .int (t : Nat) := rep
    obtain ⟨dx4, e7⟩ := id c4.num
    repeat walk_at "s1"
    refine k_methK e7 rfl ?_
    repeat walk_at "s1"
    refine ⟨n, rfl, rd_call c4 (fun e H' i' h' b' => qE (by rw [action_c0, e2]; simp only [Option.bind_some]; rw [e4]; simp only [Option.bind_some]; rw [e6]; simp only [Option.bind_some]; rw [e]; rfl) H' i' h' b') fun w i5 v H5 e8 hi5 c5 b5 rep => ?_⟩
    repeat walk_at "s1"
    refine ⟨small, fun p hp => ?_⟩
    have c6 := c5.new (o := .tup [.int 0, .int (x : Nat), .int (y : Nat), .int (t : Nat), v]) hp
    have t3 : TupK H5 (upd H5 p (.tup [.int 0, .int (x : Nat), .int (y : Nat), .int (t : Nat), v])) := fun b xs e => by rw [upd_ne (ne_of_none e hp)]; exact e
    exact qQ (.deposit x y t w) _ (by rw [action_c0, e2]; simp only [Option.bind_some]; rw [e4]; simp only [Option.bind_some]; rw [e6]; simp only [Option.bind_some]; rw [e8]; rfl) (.ref p) _ i5 (by omega) c6.le rfl c6.num c6.but
      ⟨p, v, rfl, upd_same, party_lt e2, party_lt e4, kind_lt e6, VAt.mono rep t3⟩
  rw [decide_eq_false q0]
  refine iteF ?_
  repeat walk_at "s1"
  by_cases q2 : z = 2
  · subst q2
    repeat walk_at "s2"
    refine k_methK e1 rfl ?_
    repeat walk_at "s1"
    refine ⟨n, rfl, rd_call c1 (fun e H' i' h' b' => qE (by rw [action_c2, e]; rfl) H' i' h' b') fun x i2 v H2 e2 hi2 c2 b2 rep => ?_⟩
    repeat walk_at "s1"
    refine ⟨small, fun p hp => ?_⟩
    have c3 := c2.new (o := .tup [.int 2, v]) hp
    have t3 : TupK H2 (upd H2 p (.tup [.int 2, v])) := fun b xs e => by rw [upd_ne (ne_of_none e hp)]; exact e
    exact qQ (.notify x) _ (by rw [action_c2, e2]; rfl) (.ref p) _ i2 (Nat.le_trans hi1 hi2) c3.le rfl c3.num c3.but ⟨p, v, rfl, upd_same, OAt.mono rep t3⟩
  rw [decide_eq_false q2]
  refine iteF ?_
  obtain rfl : z = 1 := by omega
  repeat walk_at "s1"
  refine k_methK e1 rfl ?_
  repeat walk_at "s1"
  refine one_nat (m := 15) (rd_call c1 (fun e H' i' h' b' => qE (by rw [action_c1, e]; rfl) H' i' h' b') fun x i2 v H2 e2 hi2 c2 b2 rep => ?_)
  obtain rfl : v = .int (x : Nat) := rep
  obtain ⟨dx2, e3⟩ := id c2.num
  repeat walk_at "s1"
  refine k_methK e3 rfl ?_
  repeat walk_at "s1"
  refine ⟨n, rfl, rd_call c2 (fun e H' i' h' b' => qE (by rw [action_c1, e2]; simp only [Option.bind_some]; rw [e]; rfl) H' i' h' b') fun y i3 v H3 e4 hi3 c3 b3 rep => ?_⟩
  obtain rfl : v = .int (y : Nat) := rep
  obtain ⟨dx3, e5⟩ := id c3.num
  repeat walk_at "s1"
  refine ⟨small, fun L hL => ?_⟩
  repeat walk_at "s1"
  have L0 : H L = none := c3.but.free hL (by simp; intro z; rw [z, e5] at hL; cases hL)
  have nL : n ≠ L := fun z => by rw [z, L0] at e0; cases e0
  have c3' := c3.new (o := .lst []) hL
  have hL' : upd H3 L (.lst []) L = some (.lst []) := upd_same
  generalize upd H3 L (.lst []) = H3' at c3' hL' ⊢
  obtain ⟨dx3', e5'⟩ := id c3'.num
  unfold tFor iRng1
  repeat walk_at "s1"
  refine k_methK e5' rfl ?_
  repeat walk_at "s1"
  refine one_nat (m := 4) (rd_call c3' (fun e H' i' h' b' => qE (by rw [action_c1, e2]; simp only [Option.bind_some]; rw [e4]; simp only [Option.bind_some]; rw [e]; rfl) H' i' h' b') fun m i4 v H4 e6 hi4 c4 b4 rep => ?_)
  obtain rfl : v = .int (m : Nat) := rep
  have m4 : m ≤ 4 := nat_le e6
  repeat walk_at "s1"
  refine ⟨_, rfl, by omega, by omega, ?_⟩
  rw [Int.toNat_natCast]
  have bE : Sg49.bounds m (l.drop i4) = none → ∀ H' i', NumAt K H' n a i' → But [n] H H' → E (XN K) none H' := fun e => qE (by rw [action_c1, e2]; simp only [Option.bind_some]; rw [e4]; simp only [Option.bind_some]; rw [e6]; simp only [Option.bind_some]; rw [e]; rfl)
  refine for_range (fun j σ Hj => ∃ x5 x8 i5 vs ps, σ = [some (.ref n), some (.int 1), some (.int (x : Nat)), some (.int (y : Nat)), some (.ref L), x5, none, none, x8] ∧ j ≤ m ∧ i4 ≤ i5 ∧ Cur K H n a l i5 Hj ∧ Hj L = some (.lst vs) ∧ PairsAt Hj vs ps ∧ ps.length = j ∧
    Sg49.bounds m (l.drop i4) = (Sg49.bounds (m - j) (l.drop i5)).map fun z => (ps ++ z.1, z.2)) ⟨_, _, i4, [], [], rfl, Nat.zero_le _, Nat.le_refl _, c4, b4 _ _ hL' (by simp; exact fun z => nL z.symm), trivial, rfl, ?_⟩ ?_ ?_
  · rw [Nat.sub_zero]
    cases Sg49.bounds m (l.drop i4) with
    | none => rfl
    | some z => rfl
  · rintro j σ Hj hj ⟨x5, x8, i5, vs, ps, rfl, _, hi5, c5, hLj, hp, hlen, hb⟩
    have es : m - j = (m - (j + 1)) + 1 := by omega
    obtain ⟨dx5, e8⟩ := id c5.num
    repeat walk_at "s1"
    refine k_methK e8 rfl ?_
    repeat walk_at "s1"
    refine ⟨n, rfl, rd_call c5 (fun e H' i' h' b' => bE (by rw [hb, es, bounds_s, e]; rfl) H' i' h' b') fun u i6 v H6 e9 hi6 c6 b6 rep => ?_⟩
    obtain rfl : v = .int u := rep
    obtain ⟨dx6, e10⟩ := id c6.num
    have hL6 : H6 L = some (.lst vs) := b6 _ _ hLj (by simp; exact fun z => nL z.symm)
    repeat walk_at "s1"
    refine ⟨ty_list (.inl (.inl hL6)), ?_⟩
    repeat walk_at "s1"
    refine k_methK e10 rfl ?_
    repeat walk_at "s1"
    refine ⟨n, rfl, rd_call c6 (fun e H' i' h' b' => bE (by rw [hb, es, bounds_s, e9]; simp only [Option.bind_some]; rw [e]; rfl) H' i' h' b') fun u' i7 v H7 e11 hi7 c7 b7 rep => ?_⟩
    obtain rfl : v = .int u' := rep
    have hL7 : H7 L = some (.lst vs) := b7 _ _ hL6 (by simp; exact fun z => nL z.symm)
    repeat walk_at "s1"
    refine ⟨small, fun p hp7 => ?_⟩
    have c8 := c7.new (o := .tup [.int u, .int u']) hp7
    have hL8 : upd H7 p (.tup [.int u, .int u']) L = some (.lst vs) := by rw [upd_ne (ne_of_none hL7 hp7)]; exact hL7
    have t8 : TupK Hj (upd H7 p (.tup [.int u, .int u'])) := fun b xs e => by
      have q := c6.tup b7 b xs (c5.tup b6 b xs e)
      rw [upd_ne (ne_of_none q hp7)]; exact q
    have hp8 : upd H7 p (.tup [.int u, .int u']) p = some (.tup [.int u, .int u']) := upd_same
    generalize upd H7 p (.tup [.int u, .int u']) = H8 at c8 hL8 t8 hp8 ⊢
    have lv : vs.length = j := hp.len.trans hlen
    repeat walk_at "s1"
    refine k_app hL8 (by rw [lv, sizeLine_eq]; omega) ?_
    repeat walk_at "s1"
    have n9 : NumAt K (upd H8 L (.lst (vs ++ [V.ref p]))) n a i7 := by
      obtain ⟨d, e⟩ := c8.num
      exact ⟨d, by rw [upd_ne nL]; exact e⟩
    have t9 : TupK H8 (upd H8 L (.lst (vs ++ [V.ref p]))) := fun b xs e => by
      rw [upd_ne (fun z => by rw [z, hL8] at e; cases e)]; exact e
    refine ⟨_, _, i7, vs ++ [.ref p], ps ++ [(u, u')], rfl, hj, by omega, Cur.of hn hs (c8.but.new L0) n9 c8.le, upd_same, ((hp.mono t8).mono t9).snoc ⟨p, rfl, t9 _ _ hp8⟩, by rw [List.length_append, hlen]; rfl, ?_⟩
    rw [hb, es, bounds_s, e9]
    simp only [Option.bind_some]
    rw [e11]
    simp only [Option.bind_some]
    cases Sg49.bounds (m - (j + 1)) (l.drop i7) with
    | none => rfl
    | some z => simp
  · rintro σ Hj ⟨x5, x8, i5, vs, ps, rfl, _, hi5, c5, hLj, hp, hlen, hb⟩
    rw [Nat.sub_self, bounds_0] at hb
    repeat walk_at "s1"
    refine ⟨L, vs, rfl, .inl ⟨.inl (.inl hLj), fun p hp0 => ?_⟩⟩
    have c6 := c5.new (o := .tup vs) hp0
    have t6 : TupK Hj (upd Hj p (.tup vs)) := fun b xs e => by rw [upd_ne (ne_of_none e hp0)]; exact e
    have hp6 : upd Hj p (.tup vs) p = some (.tup vs) := upd_same
    generalize upd Hj p (.tup vs) = H6 at c6 t6 hp6 ⊢
    repeat walk_at "s1"
    refine ⟨small, fun q hq => ?_⟩
    have c7 := c6.new (o := .tup [.int 1, .int (x : Nat), .int (y : Nat), .ref p]) hq
    have t7 : TupK H6 (upd H6 q (.tup [.int 1, .int (x : Nat), .int (y : Nat), .ref p])) := fun b xs e => by rw [upd_ne (ne_of_none e hq)]; exact e
    exact qQ (.choice x y ps) _ (by rw [action_c1, e2]; simp only [Option.bind_some]; rw [e4]; simp only [Option.bind_some]; rw [e6]; simp only [Option.bind_some]; rw [hb]; simp) (.ref q) _ i5 (by omega) c7.le rfl c7.num c7.but
      ⟨q, p, vs, rfl, upd_same, name_lt e2, party_lt e4, by omega, t7 _ _ hp6, (hp.mono t6).mono t7⟩
end
end SP
set_option maxHeartbeats 2000000
namespace SP
open PySem PySem.Spec PyProof.Rows L2
/-- one step of a reading where nothing is asked -/
local macro_rules | `(tactic| walk_at "s1") => `(tactic| with_reducible first
  | refine k_seq ?_ | refine k_asg ?_ | refine k_if ?_ | refine k_ret ?_ | refine k_set ?_ | refine k_drop ?_ | refine k_next ?_ | refine k_retN ?_
  | refine k_var rfl ?_ | refine k_c ?_ | refine k_fld ?_ | refine k_fldK (by assumption) ?_ | refine k_op ?_ | refine k_plus ?_ | refine k_minus ?_ | refine k_cons ?_ | refine k_nil ?_ | refine k_name ?_
  | refine k_cmp ?_ | refine k_cmpK ?_ | refine k_B ?_ | refine k_blK ?_ | refine k_test ?_ | refine k_meth ?_ | refine k_call ?_ | refine k_CB ?_ | refine k_len (by assumption) ?_
  | refine k_ixT (by assumption) rfl ?_ | refine k_and ?_ | refine k_or ?_ | refine k_not ?_ | refine k_andV ?_ | refine k_orV ?_ | refine k_notV ?_ | refine k_ife ?_ | refine k_chain ?_ | refine k_tup ?_ | refine k_lst ?_
  | refine k_less ?_ | refine k_leq ?_ | refine k_un ?_ | refine k_neg ?_ | refine k_isN ?_ | refine k_notN ?_ | refine k_max ?_ | refine k_min ?_ | refine k_abs ?_ | refine k_bm ?_ | refine k_make ?_ | refine k_app (by assumption) (by assumption) ?_)
/-! ### agreements, read: the plain law -/
section
theorem num_inv {lo hi : Int} {l r : List Int} {z : Int} (h : Sg49.num lo hi l = some (z, r)) : l = z :: r ∧ lo ≤ z ∧ z ≤ hi := by
  rcases num_cases lo hi l with ⟨_, e⟩ | ⟨z', r', h2, ⟨c1, c2, e⟩ | ⟨_, e⟩⟩
  · rw [h] at e; cases e
  · rw [h] at e; cases e; exact ⟨h2, c1, c2⟩
  · rw [h] at e; cases e
theorem nat_inv {m : Nat} {l r : List Int} {x : Nat} (h : Sg49.nat m l = some (x, r)) : l = (x : Int) :: r ∧ x ≤ m := by
  rcases num_cases 0 (m : Nat) l with ⟨_, e⟩ | ⟨z', r', h2, ⟨c1, c2, e⟩ | ⟨_, e⟩⟩
  · rw [nat_none e] at h; cases h
  · obtain ⟨e1, e2⟩ := nat_some e
    rw [e1] at h; cases h
    exact ⟨by rw [e2]; exact h2, by omega⟩
  · rw [nat_none e] at h; cases h
theorem map_inv {α β : Type} {x : Option (α × List Int)} {f : α → β} {y : β} {r : List Int} (h : (x.map fun z => (f z.1, z.2)) = some (y, r)) : ∃ z, x = some (z, r) ∧ y = f z := by
  cases x with
  | none => cases h
  | some z =>
    obtain ⟨z, s⟩ := z
    cases h
    exact ⟨z, rfl, rfl⟩
theorem bind_inv {α β : Type} {x : Option (α × List Int)} {f : α × List Int → Option β} {y : β} (h : x.bind f = some y) : ∃ z s, x = some (z, s) ∧ f (z, s) = some y := by
  cases x with
  | none => cases h
  | some z => exact ⟨z.1, z.2, rfl, h⟩
theorem two_inv {α β γ : Type} {p : Sg49.R α} {q : Sg49.R β} {f : α → β → γ} {l r : List Int} {z : γ} (h : Sg49.two p q f l = some (z, r)) : ∃ x s y, p l = some (x, s) ∧ q s = some (y, r) ∧ z = f x y := by
  obtain ⟨x, s, h1, h2⟩ := bind_inv h
  obtain ⟨y, h3, h4⟩ := map_inv (f := f x) h2
  exact ⟨x, s, y, h1, h3, h4⟩
theorem value_head {n : Nat} {l r : List Int} {x : Sg49.Value} (h : Sg49.value (n + 1) l = some (x, r)) : ∃ z s, l = z :: s ∧ 0 ≤ z ∧ z ≤ 11 := by
  cases e : Sg49.num 0 11 l with
  | none => rw [value_none e] at h; cases h
  | some z => obtain ⟨z, s⟩ := z; exact ⟨z, s, num_inv e⟩
theorem obs_head {n : Nat} {l r : List Int} {x : Sg49.Obs} (h : Sg49.obs (n + 1) l = some (x, r)) : ∃ z s, l = z :: s ∧ 0 ≤ z ∧ z ≤ 7 := by
  cases e : Sg49.num 0 7 l with
  | none => rw [obs_none e] at h; cases h
  | some z => obtain ⟨z, s⟩ := z; exact ⟨z, s, num_inv e⟩
theorem vo_rt : ∀ n : Nat, (∀ l x r, Sg49.value n l = some (x, r) → l = x.code ++ r) ∧ (∀ l x r, Sg49.obs n l = some (x, r) → l = x.code ++ r)
  | 0 => ⟨fun l x r h => (by rw [value_0] at h; cases h), fun l x r h => (by rw [obs_0] at h; cases h)⟩
  | n + 1 => by
    obtain ⟨iv, io⟩ := vo_rt n
    have v2 : ∀ (con : Sg49.Value → Sg49.Value → Sg49.Value) (z : Int) (l r : List Int) (x : Sg49.Value), (∀ a b, (con a b).code = z :: (a.code ++ b.code)) → Sg49.two (Sg49.value n) (Sg49.value n) con l = some (x, r) → z :: l = x.code ++ r := fun con z l r x hc h => by
      obtain ⟨a, s, b, h1, h2, rfl⟩ := two_inv h
      rw [hc, iv _ _ _ h1, iv _ _ _ h2]; simp
    have o2 : ∀ (con : Sg49.Value → Sg49.Value → Sg49.Obs) (z : Int) (l r : List Int) (x : Sg49.Obs), (∀ a b, (con a b).code = z :: (a.code ++ b.code)) → Sg49.two (Sg49.value n) (Sg49.value n) con l = some (x, r) → z :: l = x.code ++ r := fun con z l r x hc h => by
      obtain ⟨a, s, b, h1, h2, rfl⟩ := two_inv h
      rw [hc, iv _ _ _ h1, iv _ _ _ h2]; simp
    have oo : ∀ (con : Sg49.Obs → Sg49.Obs → Sg49.Obs) (z : Int) (l r : List Int) (x : Sg49.Obs), (∀ a b, (con a b).code = z :: (a.code ++ b.code)) → Sg49.two (Sg49.obs n) (Sg49.obs n) con l = some (x, r) → z :: l = x.code ++ r := fun con z l r x hc h => by
      obtain ⟨a, s, b, h1, h2, rfl⟩ := two_inv h
      rw [hc, io _ _ _ h1, io _ _ _ h2]; simp
    refine ⟨fun l x r h => ?_, fun l x r h => ?_⟩
    · obtain ⟨z, s, rfl, h0, h1⟩ := value_head h
      have hz : z = 0 ∨ z = 1 ∨ z = 2 ∨ z = 3 ∨ z = 4 ∨ z = 5 ∨ z = 6 ∨ z = 7 ∨ z = 8 ∨ z = 9 ∨ z = 10 ∨ z = 11 := by omega
      rcases hz with rfl | rfl | rfl | rfl | rfl | rfl | rfl | rfl | rfl | rfl | rfl | rfl
      · rw [value_c0] at h
        obtain ⟨z, e, rfl⟩ := map_inv h
        rw [(num_inv e).1]; rfl
      · rw [value_c1] at h
        obtain ⟨a, s', b, e1, e2, rfl⟩ := two_inv h
        rw [(nat_inv e1).1, (nat_inv e2).1]; rfl
      · rw [value_c2] at h
        obtain ⟨z, e, rfl⟩ := map_inv h
        rw [(nat_inv e).1]; rfl
      · rw [value_c3] at h
        obtain ⟨z, e, rfl⟩ := map_inv h
        rw [(nat_inv e).1]; rfl
      · exact v2 .add 4 _ _ _ (fun _ _ => by simp [Sg49.Value.code]) (by rw [Sg49.value] at h; exact h)
      · exact v2 .sub 5 _ _ _ (fun _ _ => by simp [Sg49.Value.code]) (by rw [Sg49.value] at h; exact h)
      · exact v2 .mul 6 _ _ _ (fun _ _ => by simp [Sg49.Value.code]) (by rw [Sg49.value] at h; exact h)
      · exact v2 .div 7 _ _ _ (fun _ _ => by simp [Sg49.Value.code]) (by rw [Sg49.value] at h; exact h)
      · rw [value_c8] at h
        obtain ⟨z, e, rfl⟩ := map_inv h
        rw [iv _ _ _ e]; simp [Sg49.Value.code]
      · rw [value_c9] at h; cases h; rfl
      · rw [value_c10] at h; cases h; rfl
      · rw [value_c11] at h
        obtain ⟨o, s', e1, h⟩ := bind_inv h
        dsimp only at h
        obtain ⟨a, s2, b, e2, e3, rfl⟩ := two_inv h
        rw [io _ _ _ e1, iv _ _ _ e2, iv _ _ _ e3]; simp [Sg49.Value.code]
    · obtain ⟨z, s, rfl, h0, h1⟩ := obs_head h
      have hz : z = 0 ∨ z = 1 ∨ z = 2 ∨ z = 3 ∨ z = 4 ∨ z = 5 ∨ z = 6 ∨ z = 7 := by omega
      rcases hz with rfl | rfl | rfl | rfl | rfl | rfl | rfl | rfl
      · rw [Sg49.obs] at h; cases h; rfl
      · rw [Sg49.obs] at h; cases h; rfl
      · rw [obs_c2] at h
        obtain ⟨z, e, rfl⟩ := map_inv h
        rw [(nat_inv e).1]; rfl
      · exact o2 .atLeast 3 _ _ _ (fun _ _ => by simp [Sg49.Obs.code]) (by rw [Sg49.obs] at h; exact h)
      · exact o2 .same 4 _ _ _ (fun _ _ => by simp [Sg49.Obs.code]) (by rw [Sg49.obs] at h; exact h)
      · exact oo .and 5 _ _ _ (fun _ _ => by simp [Sg49.Obs.code]) (by rw [Sg49.obs] at h; exact h)
      · exact oo .or 6 _ _ _ (fun _ _ => by simp [Sg49.Obs.code]) (by rw [Sg49.obs] at h; exact h)
      · rw [obs_c7] at h
        obtain ⟨z, e, rfl⟩ := map_inv h
        rw [io _ _ _ e]; simp [Sg49.Obs.code]
theorem bounds_rt : ∀ (n : Nat) (l : List Int) (x : List (Int × Int)) (r : List Int), Sg49.bounds n l = some (x, r) → l = (x.flatMap fun (x : Int × Int) => [x.1, x.2]) ++ r ∧ x.length = n
  | 0, l, x, r, h => by cases h; exact ⟨rfl, rfl⟩
  | n + 1, l, x, r, h => by
    rw [bounds_s] at h
    obtain ⟨a, s, e1, h⟩ := bind_inv h
    dsimp only at h
    obtain ⟨b, s2, e2, h⟩ := bind_inv h
    dsimp only at h
    obtain ⟨z, e3, rfl⟩ := map_inv (f := fun z => (a, b) :: z) h
    obtain ⟨g1, g2⟩ := bounds_rt n _ _ _ e3
    exact ⟨by rw [(num_inv e1).1, (num_inv e2).1, g1]; rfl, by rw [List.length_cons, g2]⟩
theorem action_rt {l r : List Int} {x : Sg49.Action} (h : Sg49.action l = some (x, r)) : l = x.code ++ r := by
  cases e : Sg49.num 0 2 l with
  | none => rw [action_none e] at h; cases h
  | some z =>
    obtain ⟨z, s⟩ := z
    obtain ⟨rfl, h0, h1⟩ := num_inv e
    have hz : z = 0 ∨ z = 1 ∨ z = 2 := by omega
    rcases hz with rfl | rfl | rfl
    · rw [action_c0] at h
      obtain ⟨a, s1, e1, h⟩ := bind_inv h
      dsimp only at h
      obtain ⟨b, s2, e2, h⟩ := bind_inv h
      dsimp only at h
      obtain ⟨t, s3, e3, h⟩ := bind_inv h
      dsimp only at h
      obtain ⟨v, e4, rfl⟩ := map_inv (f := fun v => Sg49.Action.deposit a b t v) h
      rw [(nat_inv e1).1, (nat_inv e2).1, (nat_inv e3).1, (vo_rt _).1 _ _ _ e4]; rfl
    · rw [action_c1] at h
      obtain ⟨a, s1, e1, h⟩ := bind_inv h
      dsimp only at h
      obtain ⟨b, s2, e2, h⟩ := bind_inv h
      dsimp only at h
      obtain ⟨m, s3, e3, h⟩ := bind_inv h
      dsimp only at h
      obtain ⟨v, e4, rfl⟩ := map_inv (f := fun v => Sg49.Action.choice a b v) h
      obtain ⟨g1, g2⟩ := bounds_rt _ _ _ _ e4
      rw [(nat_inv e1).1, (nat_inv e2).1, (nat_inv e3).1, g1]
      show _ = _ :: _ :: _ :: _ :: _
      rw [g2]
      rfl
    · rw [action_c2] at h
      obtain ⟨o, e4, rfl⟩ := map_inv h
      rw [(vo_rt _).2 _ _ _ e4]; rfl
/-- what stands ahead of an agreement's inner ones -/
inductive Hd where
  | close
  | pay (a o b t : Nat) (x : Sg49.Value)
  | cond (o : Sg49.Obs)
  | wait (m : Nat)
  | let_ (v : Nat) (x : Sg49.Value)
  | said (o : Sg49.Obs)
def Hd.w : Hd → Int
  | .close => 0
  | .pay _ _ _ _ _ => 1
  | .cond _ => 2
  | .wait _ => 3
  | .let_ _ _ => 4
  | .said _ => 5
def Hd.count : Hd → Nat
  | .close => 0
  | .pay _ _ _ _ _ => 1
  | .cond _ => 2
  | .wait m => m + 1
  | .let_ _ _ => 1
  | .said _ => 1
/-- what stands behind its first number -/
def restR (z : Int) : Sg49.R Hd := fun l =>
  if z = 0 then some (.close, l)
  else if z = 1 then (Sg49.party l).bind fun a => (Sg49.nat 1 a.2).bind fun o => (Sg49.party o.2).bind fun b => (Sg49.kind b.2).bind fun t => (Sg49.value 40 t.2).map fun x => (.pay a.1 o.1 b.1 t.1 x.1, x.2)
  else if z = 2 then (Sg49.obs 40 l).map fun o => (.cond o.1, o.2)
  else if z = 3 then (Sg49.nat 8 l).map fun m => (.wait m.1, m.2)
  else if z = 4 then (Sg49.name l).bind fun v => (Sg49.value 40 v.2).map fun x => (.let_ v.1 x.1, x.2)
  else if z = 5 then (Sg49.obs 40 l).map fun o => (.said o.1, o.2)
  else none
def headR : Sg49.R Hd := fun l => (Sg49.num 0 5 l).bind fun z => restR z.1 z.2
theorem restR_w {z : Int} {l r : List Int} {h : Hd} (e : restR z l = some (h, r)) : h.w = z := by
  unfold restR at e
  by_cases q0 : z = 0
  · rw [if_pos q0] at e; cases e; exact q0.symm
  rw [if_neg q0] at e
  by_cases q1 : z = 1
  · rw [if_pos q1] at e
    obtain ⟨a, s1, e1, e⟩ := bind_inv e
    obtain ⟨b, s2, e2, e⟩ := bind_inv e
    obtain ⟨c, s3, e3, e⟩ := bind_inv e
    obtain ⟨t, s4, e4, e⟩ := bind_inv e
    obtain ⟨v, e5, rfl⟩ := map_inv (f := fun v => Hd.pay a b c t v) e
    exact q1.symm
  rw [if_neg q1] at e
  by_cases q2 : z = 2
  · rw [if_pos q2] at e; obtain ⟨v, _, rfl⟩ := map_inv e; exact q2.symm
  rw [if_neg q2] at e
  by_cases q3 : z = 3
  · rw [if_pos q3] at e; obtain ⟨v, _, rfl⟩ := map_inv e; exact q3.symm
  rw [if_neg q3] at e
  by_cases q4 : z = 4
  · rw [if_pos q4] at e
    obtain ⟨a, s1, e1, e⟩ := bind_inv e
    obtain ⟨v, e5, rfl⟩ := map_inv (f := fun v => Hd.let_ a v) e
    exact q4.symm
  rw [if_neg q4] at e
  by_cases q5 : z = 5
  · rw [if_pos q5] at e; obtain ⟨v, _, rfl⟩ := map_inv e; exact q5.symm
  rw [if_neg q5] at e
  cases e
/-- an agreement being read: n + 1 may be its floors; s its first place -/
structure Fr where
  hd : Hd
  s : Nat
  n : Nat
  acts : List Sg49.Action
  tm : Int
  inn : List Sg49.Contract
def mkCases : List Sg49.Action → List Sg49.Contract → Sg49.Cases
  | a :: as, k :: ks => .cons a k (mkCases as ks)
  | _, _ => .nil
def Fr.build (f : Fr) : Sg49.Contract :=
  match f.hd with
  | .close => .close
  | .pay a o b t x => .pay a (o == 1) b t x (f.inn.getD 0 .close)
  | .cond o => .cond o (f.inn.getD 0 .close) (f.inn.getD 1 .close)
  | .wait m => .when (mkCases f.acts (f.inn.take m)) f.tm (f.inn.getD m .close)
  | .let_ v x => .let_ v x (f.inn.getD 0 .close)
  | .said o => .assert_ o (f.inn.getD 0 .close)
def Fr.add (f : Fr) (c : Sg49.Contract) : Fr := { f with inn := f.inn ++ [c] }
/-- what is read ahead of its next inner one; how many floors that may have -/
def Fr.pre (f : Fr) : Sg49.R (Fr × Nat) := fun l =>
  match f.hd with
  | .wait m => if f.inn.length < m then (Sg49.action l).map fun a => (({ f with acts := f.acts ++ [a.1] }, f.n - 1 - f.inn.length), a.2) else (Sg49.num 0 Sg49.LATE l).map fun t => (({ f with tm := t.1 }, f.n), t.2)
  | _ => some ((f, f.n), l)
def goOnK : Nat → Fr → Sg49.R Sg49.Contract
  | 0, f, l => some (f.build, l)
  | k + 1, f, l => (f.pre l).bind fun x => (Sg49.contract x.1.2 x.2).bind fun c => goOnK k (x.1.1.add c.1) c.2
def goOn (f : Fr) : Sg49.R Sg49.Contract := goOnK (f.hd.count - f.inn.length) f
def Fr.new (h : Hd) (s n : Nat) : Fr := ⟨h, s, n, [], 0, []⟩
theorem contract_nil {n : Nat} : Sg49.contract (n + 1) [] = none := by unfold Sg49.contract; rfl
theorem contract_0 {l : List Int} : Sg49.contract 0 l = none := by unfold Sg49.contract; rfl
theorem cases_0 {m : Nat} {l : List Int} : Sg49.cases 0 m l = none := by unfold Sg49.cases; rfl
theorem cases_n {n : Nat} {l : List Int} : Sg49.cases (n + 1) 0 l = some (.nil, l) := by unfold Sg49.cases; rfl
theorem cases_s {n m : Nat} {l : List Int} : Sg49.cases (n + 1) (m + 1) l = (Sg49.action l).bind fun a => (Sg49.contract n a.2).bind fun k => (Sg49.cases n m k.2).map fun r => (.cons a.1 k.1 r.1, r.2) := by rw [Sg49.cases]
def catC : Sg49.Cases → Sg49.Cases → Sg49.Cases
  | .nil, c => c
  | .cons a k r, c => .cons a k (catC r c)
theorem mkCases_snoc {a : Sg49.Action} {k : Sg49.Contract} : ∀ {as : List Sg49.Action} {ks : List Sg49.Contract}, as.length = ks.length → mkCases (as ++ [a]) (ks ++ [k]) = catC (mkCases as ks) (.cons a k .nil)
  | [], [], _ => rfl
  | b :: as, c :: ks, h => by
    show Sg49.Cases.cons b c (mkCases (as ++ [a]) (ks ++ [k])) = _
    rw [mkCases_snoc (Nat.succ.inj h)]; rfl
theorem catC_assoc : ∀ a b c : Sg49.Cases, catC (catC a b) c = catC a (catC b c)
  | .nil, _, _ => rfl
  | .cons x k r, b, c => by
    show Sg49.Cases.cons x k _ = .cons x k _
    rw [catC_assoc r b c]
theorem catC_nil : ∀ a : Sg49.Cases, catC a .nil = a
  | .nil => rfl
  | .cons x k r => by
    show Sg49.Cases.cons x k _ = _
    rw [catC_nil r]
/-- a wait, its cases being read -/
theorem wait_go : ∀ (k : Nat) (f : Fr) (m : Nat) (l : List Int), f.hd = .wait m → f.acts.length = f.inn.length → m = f.inn.length + k → (f.inn = [] ∨ f.inn.length < f.n) →
    goOnK (k + 1) f l = (Sg49.cases (f.n - f.inn.length) k l).bind fun c => (Sg49.num 0 Sg49.LATE c.2).bind fun t => (Sg49.contract f.n t.2).map fun y => (.when (catC (mkCases f.acts f.inn) c.1) t.1 y.1, y.2)
  | 0, f, m, l, h, ha, hm, hn => by
    have e1 : f.pre l = (Sg49.num 0 Sg49.LATE l).map fun t => (({ f with tm := t.1 }, f.n), t.2) := by
      unfold Fr.pre
      rw [h]
      show (if f.inn.length < m then _ else _) = _
      rw [if_neg (by omega)]
    show (f.pre l).bind _ = _
    rw [e1]
    cases hq : f.n - f.inn.length with
    | zero =>
      rw [cases_0]
      have n0 : f.n = 0 := by
        rcases hn with h | h
        · rw [h] at hq; exact hq
        · omega
      cases Sg49.num 0 Sg49.LATE l with
      | none => rfl
      | some t =>
        show (Sg49.contract f.n t.2).bind _ = none
        rw [n0, contract_0]; rfl
    | succ q =>
      rw [cases_n]
      simp only [Option.bind_some]
      cases Sg49.num 0 Sg49.LATE l with
      | none => rfl
      | some t =>
        simp only [Option.map_some, Option.bind_some]
        cases Sg49.contract f.n t.2 with
        | none => rfl
        | some y =>
          simp only [Option.map_some, Option.bind_some]
          show some (_, y.2) = some (_, y.2)
          congr 2
          unfold Fr.build Fr.add
          simp only [h]
          rw [catC_nil, show m = f.inn.length by omega, List.take_left' rfl]
          simp
  | k + 1, f, m, l, h, ha, hm, hn => by
    have e1 : f.pre l = (Sg49.action l).map fun a => (({ f with acts := f.acts ++ [a.1] }, f.n - 1 - f.inn.length), a.2) := by
      unfold Fr.pre
      rw [h]
      show (if f.inn.length < m then _ else _) = _
      rw [if_pos (by omega)]
    show (f.pre l).bind _ = _
    rw [e1]
    cases hq : f.n - f.inn.length with
    | zero =>
      rw [cases_0]
      cases Sg49.action l with
      | none => rfl
      | some t =>
        show (Sg49.contract (f.n - 1 - f.inn.length) t.2).bind _ = none
        rw [show f.n - 1 - f.inn.length = 0 by omega, contract_0]; rfl
    | succ q =>
      rw [cases_s]
      cases Sg49.action l with
      | none => rfl
      | some a =>
        simp only [Option.map_some, Option.bind_some]
        rw [show f.n - 1 - f.inn.length = q by omega]
        cases hc : Sg49.contract q a.2 with
        | none => rfl
        | some c =>
          simp only [Option.bind_some]
          have q0 : 0 < q := by
            cases q with
            | zero => rw [contract_0] at hc; cases hc
            | succ q => omega
          rw [wait_go k (Fr.add { f with acts := f.acts ++ [a.1] } c.1) m c.2 h (by show (f.acts ++ [a.1]).length = (f.inn ++ [c.1]).length; simp [ha]) (by show m = (f.inn ++ [c.1]).length + k; simp; omega) (.inr (by show (f.inn ++ [c.1]).length < f.n; simp; omega))]
          show (Sg49.cases (f.n - (f.inn ++ [c.1]).length) k c.2).bind (fun z => (Sg49.num 0 Sg49.LATE z.2).bind fun t => (Sg49.contract f.n t.2).map fun y => (Sg49.Contract.when (catC (mkCases (f.acts ++ [a.1]) (f.inn ++ [c.1])) z.1) t.1 y.1, y.2)) = _
          rw [mkCases_snoc ha, show f.n - (f.inn ++ [c.1]).length = q by simp; omega]
          cases Sg49.cases q k c.2 with
          | none => rfl
          | some z =>
            simp only [Option.map_some, Option.bind_some]
            rw [catC_assoc]
            rfl
theorem contract_eq {n s : Nat} {l : List Int} : Sg49.contract (n + 1) l = (headR l).bind fun h => goOn (Fr.new h.1 s n) h.2 := by
  unfold headR
  rcases num_cases 0 5 l with ⟨rfl, e⟩ | ⟨z, r, rfl, ⟨c1, c2, e⟩ | ⟨c, e⟩⟩
  · rw [e, contract_nil]; rfl
  · rw [e]
    simp only [Option.bind_some]
    have hz : z = 0 ∨ z = 1 ∨ z = 2 ∨ z = 3 ∨ z = 4 ∨ z = 5 := by omega
    rcases hz with rfl | rfl | rfl | rfl | rfl | rfl
    · rw [Sg49.contract]; rfl
    · rw [Sg49.contract]
      show (Sg49.party r).bind _ = ((Sg49.party r).bind _).bind _
      cases Sg49.party r with
      | none => rfl
      | some a =>
        simp only [Option.bind_some]
        cases Sg49.nat 1 a.2 with
        | none => rfl
        | some o =>
          simp only [Option.bind_some]
          cases Sg49.party o.2 with
          | none => rfl
          | some b =>
            simp only [Option.bind_some]
            cases Sg49.kind b.2 with
            | none => rfl
            | some t =>
              simp only [Option.bind_some]
              show (Sg49.value 40 t.2).bind _ = _
              cases Sg49.value 40 t.2 with
              | none => rfl
              | some x =>
                simp only [Option.bind_some, Option.map_some]
                show _ = (Sg49.contract n x.2).bind _
                cases Sg49.contract n x.2 with
                | none => rfl
                | some k => rfl
    · rw [Sg49.contract]
      show (Sg49.obs 40 r).bind _ = ((Sg49.obs 40 r).map _).bind _
      cases Sg49.obs 40 r with
      | none => rfl
      | some o =>
        simp only [Option.bind_some, Option.map_some]
        show (Sg49.contract n o.2).bind _ = (Sg49.contract n o.2).bind _
        cases Sg49.contract n o.2 with
        | none => rfl
        | some x =>
          simp only [Option.bind_some]
          show _ = (Sg49.contract n x.2).bind _
          cases Sg49.contract n x.2 with
          | none => rfl
          | some y => rfl
    · rw [Sg49.contract]
      show (Sg49.nat 8 r).bind _ = ((Sg49.nat 8 r).map _).bind _
      cases Sg49.nat 8 r with
      | none => rfl
      | some m =>
        simp only [Option.bind_some, Option.map_some]
        show _ = goOnK (m.1 + 1) (Fr.new (.wait m.1) s n) m.2
        rw [wait_go m.1 (Fr.new (.wait m.1) s n) m.1 m.2 rfl rfl (by show m.1 = 0 + m.1; omega) (.inl rfl)]
        rfl
    · rw [Sg49.contract]
      show (Sg49.name r).bind _ = ((Sg49.name r).bind _).bind _
      cases Sg49.name r with
      | none => rfl
      | some v =>
        simp only [Option.bind_some]
        show (Sg49.value 40 v.2).bind _ = _
        cases Sg49.value 40 v.2 with
        | none => rfl
        | some x =>
          simp only [Option.bind_some, Option.map_some]
          show _ = (Sg49.contract n x.2).bind _
          cases Sg49.contract n x.2 with
          | none => rfl
          | some k => rfl
    · rw [Sg49.contract]
      show (Sg49.obs 40 r).bind _ = ((Sg49.obs 40 r).map _).bind _
      cases Sg49.obs 40 r with
      | none => rfl
      | some o =>
        simp only [Option.bind_some, Option.map_some]
        show _ = (Sg49.contract n o.2).bind _
        cases Sg49.contract n o.2 with
        | none => rfl
        | some k => rfl
  · rw [e]
    unfold Sg49.contract
    repeat rw [if_neg (by omega)]
    rfl
end
end SP
set_option maxHeartbeats 2000000
namespace SP
open PySem PySem.Spec PyProof.Rows L2
/-- one step of a reading where nothing is asked -/
local macro_rules | `(tactic| walk_at "s1") => `(tactic| with_reducible first
  | refine k_seq ?_ | refine k_asg ?_ | refine k_if ?_ | refine k_ret ?_ | refine k_set ?_ | refine k_drop ?_ | refine k_next ?_ | refine k_retN ?_
  | refine k_var rfl ?_ | refine k_c ?_ | refine k_fld ?_ | refine k_fldK (by assumption) ?_ | refine k_op ?_ | refine k_plus ?_ | refine k_minus ?_ | refine k_cons ?_ | refine k_nil ?_ | refine k_name ?_
  | refine k_cmp ?_ | refine k_cmpK ?_ | refine k_B ?_ | refine k_blK ?_ | refine k_test ?_ | refine k_meth ?_ | refine k_call ?_ | refine k_CB ?_ | refine k_len (by assumption) ?_
  | refine k_ixT (by assumption) rfl ?_ | refine k_and ?_ | refine k_or ?_ | refine k_not ?_ | refine k_andV ?_ | refine k_orV ?_ | refine k_notV ?_ | refine k_ife ?_ | refine k_chain ?_ | refine k_tup ?_ | refine k_lst ?_
  | refine k_less ?_ | refine k_leq ?_ | refine k_un ?_ | refine k_neg ?_ | refine k_isN ?_ | refine k_notN ?_ | refine k_max ?_ | refine k_min ?_ | refine k_abs ?_ | refine k_bm ?_ | refine k_make ?_ | refine k_app (by assumption) (by assumption) ?_)
/-! ### the stack of agreements being read -/
section
theorem contract_head {n : Nat} {l r : List Int} {x : Sg49.Contract} (h : Sg49.contract (n + 1) l = some (x, r)) : ∃ z s, l = z :: s ∧ 0 ≤ z ∧ z ≤ 5 := by
  rcases num_cases 0 5 l with ⟨rfl, e⟩ | ⟨z, r, rfl, ⟨c1, c2, e⟩ | ⟨c, e⟩⟩
  · rw [contract_nil] at h; cases h
  · exact ⟨z, r, rfl, c1, c2⟩
  · unfold Sg49.contract at h
    rw [if_neg (by omega), if_neg (by omega), if_neg (by omega), if_neg (by omega), if_neg (by omega), if_neg (by omega)] at h
    cases h
theorem max_l {a b : Int} (h : 0 ≤ a) : 0 ≤ max a b := Int.le_trans h (Int.le_max_left a b)
theorem contract_rt : ∀ n : Nat, (∀ l c r, Sg49.contract n l = some (c, r) → l = c.code ++ r ∧ 0 ≤ c.last) ∧ (∀ m l c r, Sg49.cases n m l = some (c, r) → l = c.code ++ r ∧ c.many = m ∧ 0 ≤ c.last)
  | 0 => ⟨fun l c r h => (by rw [contract_0] at h; cases h), fun m l c r h => (by rw [cases_0] at h; cases h)⟩
  | n + 1 => by
    obtain ⟨ik, ic⟩ := contract_rt n
    refine ⟨fun l c r h => ?_, fun m l c r h => ?_⟩
    · obtain ⟨z, s, rfl, h0, h1⟩ := contract_head h
      have hz : z = 0 ∨ z = 1 ∨ z = 2 ∨ z = 3 ∨ z = 4 ∨ z = 5 := by omega
      rcases hz with rfl | rfl | rfl | rfl | rfl | rfl
      · rw [Sg49.contract] at h; cases h; exact ⟨rfl, Int.le_refl 0⟩
      · rw [Sg49.contract] at h
        replace h : ((Sg49.party s).bind fun a => (Sg49.nat 1 a.2).bind fun o => (Sg49.party o.2).bind fun b => (Sg49.kind b.2).bind fun t => Sg49.two (Sg49.value 40) (Sg49.contract n) (Sg49.Contract.pay a.1 (o.1 == 1) b.1 t.1) t.2) = some (c, r) := h
        obtain ⟨a, s1, e1, h⟩ := bind_inv h
        dsimp only at h
        obtain ⟨o, s2, e2, h⟩ := bind_inv h
        dsimp only at h
        obtain ⟨b, s3, e3, h⟩ := bind_inv h
        dsimp only at h
        obtain ⟨t, s4, e4, h⟩ := bind_inv h
        dsimp only at h
        obtain ⟨x, s5, k, e5, e6, rfl⟩ := two_inv h
        obtain ⟨g1, g2⟩ := ik _ _ _ e6
        obtain ⟨f1, f2⟩ := nat_inv e2
        refine ⟨?_, g2⟩
        rw [(nat_inv e1).1, f1, (nat_inv e3).1, (nat_inv e4).1, (vo_rt _).1 _ _ _ e5, g1]
        have ho : o = 0 ∨ o = 1 := by omega
        rcases ho with rfl | rfl <;> simp [Sg49.Contract.code]
      · rw [Sg49.contract] at h
        replace h : ((Sg49.obs 40 s).bind fun o => Sg49.two (Sg49.contract n) (Sg49.contract n) (Sg49.Contract.cond o.1) o.2) = some (c, r) := h
        obtain ⟨o, s1, e1, h⟩ := bind_inv h
        dsimp only at h
        obtain ⟨x, s5, k, e5, e6, rfl⟩ := two_inv h
        obtain ⟨g1, g2⟩ := ik _ _ _ e6
        obtain ⟨f1, f2⟩ := ik _ _ _ e5
        refine ⟨?_, ?_⟩
        · rw [(vo_rt _).2 _ _ _ e1, f1, g1]; simp [Sg49.Contract.code]
        · show 0 ≤ max x.last k.last
          exact max_l f2
      · rw [Sg49.contract] at h
        replace h : ((Sg49.nat 8 s).bind fun m => (Sg49.cases n m.1 m.2).bind fun c => (Sg49.num 0 Sg49.LATE c.2).bind fun t => (Sg49.contract n t.2).map fun k => (.when c.1 t.1 k.1, k.2)) = some (c, r) := h
        obtain ⟨m, s1, e1, h⟩ := bind_inv h
        dsimp only at h
        obtain ⟨cs, s2, e2, h⟩ := bind_inv h
        dsimp only at h
        obtain ⟨t, s3, e3, h⟩ := bind_inv h
        dsimp only at h
        obtain ⟨k, e4, rfl⟩ := map_inv (f := fun k => Sg49.Contract.when cs t k) h
        obtain ⟨g1, g2⟩ := ik _ _ _ e4
        obtain ⟨f1, f2, f3⟩ := ic _ _ _ _ e2
        obtain ⟨d1, d2, d3⟩ := num_inv e3
        refine ⟨?_, ?_⟩
        · rw [(nat_inv e1).1, f1, d1, g1]; simp [Sg49.Contract.code, f2]
        · show 0 ≤ max (max t cs.last) k.last
          exact max_l (max_l d2)
      · rw [Sg49.contract] at h
        replace h : ((Sg49.name s).bind fun v => Sg49.two (Sg49.value 40) (Sg49.contract n) (Sg49.Contract.let_ v.1) v.2) = some (c, r) := h
        obtain ⟨v, s1, e1, h⟩ := bind_inv h
        dsimp only at h
        obtain ⟨x, s5, k, e5, e6, rfl⟩ := two_inv h
        obtain ⟨g1, g2⟩ := ik _ _ _ e6
        refine ⟨?_, g2⟩
        rw [(nat_inv e1).1, (vo_rt _).1 _ _ _ e5, g1]; simp [Sg49.Contract.code]
      · rw [Sg49.contract] at h
        replace h : ((Sg49.obs 40 s).bind fun o => (Sg49.contract n o.2).map fun k => (.assert_ o.1 k.1, k.2)) = some (c, r) := h
        obtain ⟨o, s1, e1, h⟩ := bind_inv h
        dsimp only at h
        obtain ⟨k, e4, rfl⟩ := map_inv (f := fun k => Sg49.Contract.assert_ o k) h
        obtain ⟨g1, g2⟩ := ik _ _ _ e4
        refine ⟨?_, g2⟩
        rw [(vo_rt _).2 _ _ _ e1, g1]; simp [Sg49.Contract.code]
    · cases m with
      | zero => rw [cases_n] at h; cases h; exact ⟨rfl, rfl, Int.le_refl 0⟩
      | succ m =>
        rw [cases_s] at h
        obtain ⟨a, s1, e1, h⟩ := bind_inv h
        dsimp only at h
        obtain ⟨k, s2, e2, h⟩ := bind_inv h
        dsimp only at h
        obtain ⟨cs, e4, rfl⟩ := map_inv (f := fun cs => Sg49.Cases.cons a k cs) h
        obtain ⟨g1, g2⟩ := ik _ _ _ e2
        obtain ⟨f1, f2, f3⟩ := ic _ _ _ _ e4
        refine ⟨?_, ?_, ?_⟩
        · rw [action_rt e1, g1, f1]; simp [Sg49.Cases.code]
        · show cs.many + 1 = m + 1
          rw [f2]
        · show 0 ≤ max k.last cs.last
          exact max_l g2
theorem pre_keeps {f f1 : Fr} {d : Nat} {l r : List Int} (h : f.pre l = some ((f1, d), r)) : f1.hd = f.hd ∧ f1.inn = f.inn ∧ f1.s = f.s ∧ f1.n = f.n := by
  unfold Fr.pre at h
  cases e : f.hd with
  | wait m =>
    rw [e] at h
    dsimp only at h
    by_cases c : f.inn.length < m
    · rw [if_pos c] at h
      cases q : Sg49.action l with
      | none => rw [q] at h; cases h
      | some a => rw [q] at h; cases h; exact ⟨rfl, rfl, rfl, rfl⟩
    · rw [if_neg c] at h
      cases q : Sg49.num 0 Sg49.LATE l with
      | none => rw [q] at h; cases h
      | some a => rw [q] at h; cases h; exact ⟨rfl, rfl, rfl, rfl⟩
  | _ => rw [e] at h; cases h; exact ⟨e, rfl, rfl, rfl⟩
theorem goOn_done {f : Fr} {l : List Int} (h : f.inn.length = f.hd.count) : goOn f l = some (f.build, l) := by
  unfold goOn
  rw [h, Nat.sub_self]; rfl
theorem goOn_step {f : Fr} {l : List Int} (h : f.inn.length < f.hd.count) : goOn f l = (f.pre l).bind fun x => (Sg49.contract x.1.2 x.2).bind fun c => goOn (x.1.1.add c.1) c.2 := by
  unfold goOn
  rw [show f.hd.count - f.inn.length = (f.hd.count - f.inn.length - 1) + 1 by omega]
  show (f.pre l).bind _ = _
  cases e : f.pre l with
  | none => rfl
  | some x =>
    obtain ⟨⟨f1, d⟩, r⟩ := x
    obtain ⟨e1, e2, _, _⟩ := pre_keeps e
    simp only [Option.bind_some]
    congr 1
    funext c
    congr 1
    show _ = f1.hd.count - (f1.inn ++ [c.1]).length
    rw [e1, e2, List.length_append]
    show _ = f.hd.count - (f.inn.length + 1)
    omega
/-- what a stack of agreements waits for: x is what stands on it -/
def Ch (l : List Int) : List Fr → Option (Sg49.Contract × List Int) → Prop
  | [], x => Sg49.contract 400 l = x
  | f :: S, x => Ch l S (x.bind fun c => goOn (f.add c.1) c.2) ∧ Sg49.contract (f.n + 1) (l.drop f.s) = x.bind fun c => goOn (f.add c.1) c.2
theorem Ch.none {l : List Int} : ∀ {S : List Fr}, Ch l S none → Sg49.contract 400 l = none
  | [], h => h
  | _ :: _, h => Ch.none h.1
structure StR (l : List Int) (f : Fr) (S : List Fr) (i : Nat) : Prop where
  own : Sg49.contract (f.n + 1) (l.drop f.s) = goOn f (l.drop i)
  ch : Ch l S (goOn f (l.drop i))
theorem st_start {l : List Int} {h : Hd} {i : Nat} (e : headR l = some (h, l.drop i)) : StR l (Fr.new h 0 399) [] i := by
  have k : Sg49.contract 400 l = goOn (Fr.new h 0 399) (l.drop i) := by
    rw [contract_eq (n := 399) (s := 0), e]; rfl
  exact ⟨k, k⟩
theorem st_fail0 {l : List Int} (e : headR l = none) : Sg49.contract 400 l = none := by
  rw [contract_eq (n := 399) (s := 0), e]; rfl
variable {l : List Int} {f g f1 : Fr} {S : List Fr} {i i1 i2 d : Nat} {h : Hd}
theorem StR.done (s : StR l f [] i) (c : f.inn.length = f.hd.count) : Sg49.contract 400 l = some (f.build, l.drop i) := by rw [← goOn_done c]; exact s.ch
theorem StR.pop (s : StR l f (g :: S) i) (c : f.inn.length = f.hd.count) : StR l (g.add f.build) S i := by
  have k := s.ch
  rw [goOn_done c] at k
  exact ⟨k.2, k.1⟩
theorem StR.code (s : StR l f S i) (c : f.inn.length = f.hd.count) (h1 : f.s ≤ i) (h2 : i ≤ l.length) : (l.drop f.s).take (i - f.s) = f.build.code ∧ 0 ≤ f.build.last := by
  have k := s.own
  rw [goOn_done c] at k
  obtain ⟨e, q⟩ := (contract_rt _).1 _ _ _ k
  refine ⟨?_, q⟩
  have hl := congrArg List.length e
  rw [List.length_append, List.length_drop, List.length_drop] at hl
  rw [e, List.take_left' (by omega)]
theorem StR.push (s : StR l f S i) (c : f.inn.length < f.hd.count) (e1 : f.pre (l.drop i) = some ((f1, d + 1), l.drop i1)) (e2 : headR (l.drop i1) = some (h, l.drop i2)) : StR l (Fr.new h i1 d) (f1 :: S) i2 := by
  have k : Sg49.contract (d + 1) (l.drop i1) = goOn (Fr.new h i1 d) (l.drop i2) := by rw [contract_eq (n := d) (s := i1), e2]; rfl
  obtain ⟨_, _, q1, q2⟩ := pre_keeps e1
  have g : goOn f (l.drop i) = (goOn (Fr.new h i1 d) (l.drop i2)).bind fun c => goOn (f1.add c.1) c.2 := by
    rw [goOn_step c, e1]
    show (Sg49.contract (d + 1) (l.drop i1)).bind _ = _
    rw [k]
  refine ⟨k, ?_, ?_⟩
  · rw [← g]; exact s.ch
  · rw [q1, q2, ← g]; exact s.own
theorem StR.fail1 (s : StR l f S i) (c : f.inn.length < f.hd.count) (e1 : f.pre (l.drop i) = none) : Sg49.contract 400 l = none := by
  have k := s.ch
  rw [goOn_step c, e1] at k
  exact Ch.none k
theorem StR.fail2 {r : List Int} (s : StR l f S i) (c : f.inn.length < f.hd.count) (e1 : f.pre (l.drop i) = some ((f1, 0), r)) : Sg49.contract 400 l = none := by
  have k := s.ch
  rw [goOn_step c, e1] at k
  simp only [Option.bind_some] at k
  rw [contract_0] at k
  exact Ch.none k
theorem StR.fail3 {r : List Int} (s : StR l f S i) (c : f.inn.length < f.hd.count) (e1 : f.pre (l.drop i) = some ((f1, d + 1), r)) (e2 : headR r = none) : Sg49.contract 400 l = none := by
  have k := s.ch
  rw [goOn_step c, e1] at k
  simp only [Option.bind_some] at k
  rw [contract_eq (n := d) (s := 0), e2] at k
  exact Ch.none k
/-! the greatest of some -/
def Top (m : Int) (ns : List Int) : Prop := m ∈ ns ∧ ∀ y ∈ ns, y ≤ m
theorem Top.cons {a m : Int} {ns : List Int} (h : Top m ns) : Top (max a m) (a :: ns) := by
  refine ⟨?_, fun y hy => ?_⟩
  · by_cases c : a ≤ m
    · rw [Int.max_eq_right c]; exact List.mem_cons_of_mem _ h.1
    · rw [Int.max_eq_left (by omega)]; exact List.mem_cons_self
  · rcases List.mem_cons.mp hy with rfl | q
    · exact Int.le_max_left _ _
    · exact Int.le_trans (h.2 y q) (Int.le_max_right _ _)
theorem Top.swap {a b m : Int} {ns : List Int} (h : Top m (a :: b :: ns)) : Top m (b :: a :: ns) :=
  ⟨by have := h.1; simp only [List.mem_cons] at this ⊢; rcases this with q | q | q <;> simp [q], fun y hy => h.2 y (by simp only [List.mem_cons] at hy ⊢; rcases hy with q | q | q <;> simp [q])⟩
theorem Top.one {m : Int} : Top m [m] := ⟨List.mem_cons_self, fun y hy => by simp only [List.mem_singleton] at hy; omega⟩
theorem cases_last : ∀ {as : List Sg49.Action} {ks : List Sg49.Contract}, as.length = ks.length → Top (mkCases as ks).last (0 :: ks.map Sg49.Contract.last)
  | [], [], _ => Top.one
  | a :: as, k :: ks, h => ((cases_last (Nat.succ.inj h)).cons (a := k.last)).swap
theorem cases_long : ∀ {as : List Sg49.Action} {ks : List Sg49.Contract}, as.length = ks.length → Top ((mkCases as ks).long : Int) (0 :: ks.map fun c => (c.long : Int) + 1)
  | [], [], _ => Top.one
  | a :: as, k :: ks, h => by
    have q := ((cases_long (Nat.succ.inj h)).cons (a := (k.long : Int) + 1)).swap
    have e : ((mkCases (a :: as) (k :: ks)).long : Int) = max ((k.long : Int) + 1) ((mkCases as ks).long : Int) := by
      show ((max (k.long + 1) (mkCases as ks).long : Nat) : Int) = _
      omega
    rw [e]; exact q
/-- at the top of the stack -/
structure WF (f : Fr) : Prop where
  le : f.inn.length ≤ f.hd.count
  t0 : 0 ≤ f.tm
  acts : ∀ m, f.hd = .wait m → f.acts.length = min f.inn.length m
  nw : (∀ m, f.hd ≠ .wait m) → f.tm = 0
  pos : ∀ c ∈ f.inn, 0 ≤ c.last
  n : f.n ≤ 399
  al : f.acts.length ≤ f.hd.count
def Fr.steps (f : Fr) : List Int :=
  match f.hd with
  | .wait m => (f.inn.take m).map (fun c => (c.long : Int) + 1) ++ (f.inn.drop m).map (fun c => (c.long : Int))
  | _ => f.inn.map (fun c => (c.long : Int))
theorem one_of {α : Type} {l : List α} (h : l.length = 1) : ∃ a, l = [a] := by
  match l, h with
  | [a], _ => exact ⟨a, rfl⟩
theorem two_of {α : Type} {l : List α} (h : l.length = 2) : ∃ a b, l = [a, b] := by
  match l, h with
  | [a, b], _ => exact ⟨a, b, rfl⟩
theorem snoc_of {α : Type} {l : List α} {m : Nat} (h : l.length = m + 1) : ∃ ks k, l = ks ++ [k] ∧ ks.length = m := by
  have : l ≠ [] := fun z => by rw [z] at h; cases h
  refine ⟨l.dropLast, l.getLast this, (List.dropLast_concat_getLast this).symm, ?_⟩
  rw [List.length_dropLast, h]; rfl
theorem top_pos {a : Int} (h : 0 ≤ a) : Top a [0, a] := ⟨by simp, fun y hy => by simp only [List.mem_cons, List.not_mem_nil, or_false] at hy; rcases hy with rfl | rfl <;> omega⟩
theorem top_pos2 {a b : Int} (h : 0 ≤ a) : Top (max a b) [0, a, b] := by
  refine ⟨?_, fun y hy => ?_⟩
  · by_cases c : a ≤ b
    · rw [Int.max_eq_right c]; simp
    · rw [Int.max_eq_left (by omega)]; simp
  · simp only [List.mem_cons, List.not_mem_nil, or_false] at hy
    rcases hy with rfl | rfl | rfl <;> omega
theorem top_wait {t L k : Int} {ns : List Int} (ht : 0 ≤ t) (h : Top L (0 :: ns)) : Top (max (max t L) k) (t :: (ns ++ [k])) := by
  obtain ⟨h1, h2⟩ := h
  refine ⟨?_, fun y hy => ?_⟩
  · have L0 := h2 0 (by simp)
    simp only [List.mem_cons, List.mem_append, List.not_mem_nil, or_false] at h1 ⊢
    rcases h1 with h1 | h1
    · by_cases c : t ≤ k
      · right; right; omega
      · left; omega
    · by_cases c1 : max t L ≤ k
      · right; right; omega
      · by_cases c2 : t ≤ L
        · right; left
          rw [show max (max t L) k = L by omega]; exact h1
        · left; omega
  · simp only [List.mem_cons, List.mem_append, List.not_mem_nil, or_false] at hy
    rcases hy with rfl | hy | rfl
    · omega
    · have := h2 y (by simp [hy]); omega
    · omega
theorem build_last {f : Fr} (w : WF f) (c : f.inn.length = f.hd.count) : Top f.build.last (f.tm :: f.inn.map Sg49.Contract.last) := by
  obtain ⟨hd, s, n, acts, tm, inn⟩ := f
  obtain ⟨w1, w2, w3, w4, w5, w6, w7⟩ := w
  dsimp only at c w1 w2 w3 w4 w5 ⊢
  cases hd with
  | close =>
    obtain rfl := List.eq_nil_of_length_eq_zero c
    obtain rfl : tm = 0 := w4 fun m z => by cases z
    exact Top.one
  | pay a o b t x =>
    obtain ⟨k, rfl⟩ := one_of c
    obtain rfl : tm = 0 := w4 fun m z => by cases z
    exact top_pos (w5 k (by simp))
  | cond o =>
    obtain ⟨x, y, rfl⟩ := two_of c
    obtain rfl : tm = 0 := w4 fun m z => by cases z
    exact top_pos2 (w5 x (by simp))
  | let_ v x =>
    obtain ⟨k, rfl⟩ := one_of c
    obtain rfl : tm = 0 := w4 fun m z => by cases z
    exact top_pos (w5 k (by simp))
  | said o =>
    obtain ⟨k, rfl⟩ := one_of c
    obtain rfl : tm = 0 := w4 fun m z => by cases z
    exact top_pos (w5 k (by simp))
  | wait m =>
    obtain ⟨ks, k, rfl, hk⟩ := snoc_of (m := m) c
    have ha := w3 m rfl
    show Top (max (max tm (mkCases acts ((ks ++ [k]).take m)).last) ((ks ++ [k]).getD m .close).last) _
    rw [List.take_left' hk]
    have e : (ks ++ [k]).getD m .close = k := by
      rw [List.getD_eq_getElem?_getD, List.getElem?_append_right (by omega), hk, Nat.sub_self]; rfl
    rw [e, List.map_append]
    exact top_wait w2 (cases_last (by rw [ha, List.length_append]; show min (ks.length + 1) m = _; omega))
theorem build_long {f : Fr} (w : WF f) (c : f.inn.length = f.hd.count) : Top (f.build.long : Int) (0 :: f.steps) := by
  obtain ⟨hd, s, n, acts, tm, inn⟩ := f
  obtain ⟨w1, w2, w3, w4, w5, w6, w7⟩ := w
  dsimp only at c w1 w2 w3 w4 w5 ⊢
  cases hd with
  | close =>
    obtain rfl := List.eq_nil_of_length_eq_zero c
    exact Top.one
  | pay a o b t x =>
    obtain ⟨k, rfl⟩ := one_of c
    exact top_pos (Int.natCast_nonneg _)
  | cond o =>
    obtain ⟨x, y, rfl⟩ := two_of c
    show Top ((max x.long y.long : Nat) : Int) [0, (x.long : Int), (y.long : Int)]
    rw [show ((max x.long y.long : Nat) : Int) = max (x.long : Int) (y.long : Int) by omega]
    exact top_pos2 (Int.natCast_nonneg _)
  | let_ v x =>
    obtain ⟨k, rfl⟩ := one_of c
    exact top_pos (Int.natCast_nonneg _)
  | said o =>
    obtain ⟨k, rfl⟩ := one_of c
    exact top_pos (Int.natCast_nonneg _)
  | wait m =>
    obtain ⟨ks, k, rfl, hk⟩ := snoc_of (m := m) c
    have ha := w3 m rfl
    show Top ((max (mkCases acts ((ks ++ [k]).take m)).long ((ks ++ [k]).getD m .close).long : Nat) : Int) (0 :: (((ks ++ [k]).take m).map (fun c => (c.long : Int) + 1) ++ ((ks ++ [k]).drop m).map (fun c => (c.long : Int))))
    rw [List.take_left' hk, List.drop_left' hk]
    have e : (ks ++ [k]).getD m .close = k := by
      rw [List.getD_eq_getElem?_getD, List.getElem?_append_right (by omega), hk, Nat.sub_self]; rfl
    rw [e]
    have q := top_wait (t := 0) (k := (k.long : Int)) (Int.le_refl 0) (cases_long (as := acts) (ks := ks) (by rw [ha, List.length_append]; show min (ks.length + 1) m = _; omega))
    rw [show ((max (mkCases acts ks).long k.long : Nat) : Int) = max (max 0 ((mkCases acts ks).long : Int)) (k.long : Int) by omega]
    exact q
theorem WF.new {h : Hd} {s n : Nat} (hn : n ≤ 399) : WF (Fr.new h s n) := ⟨Nat.zero_le _, Int.le_refl 0, fun m _ => (Nat.zero_min m).symm, fun _ => rfl, fun c hc => absurd hc List.not_mem_nil, hn, Nat.zero_le _⟩
/-- below the top: one inner one more is being read -/
structure WFu (f : Fr) : Prop where
  le : f.inn.length < f.hd.count
  t0 : 0 ≤ f.tm
  acts : ∀ m, f.hd = .wait m → f.acts.length = min (f.inn.length + 1) m
  nw : (∀ m, f.hd ≠ .wait m) → f.tm = 0
  pos : ∀ c ∈ f.inn, 0 ≤ c.last
  n : f.n ≤ 399
  al : f.acts.length ≤ f.hd.count
theorem WFu.add {f : Fr} (w : WFu f) {c : Sg49.Contract} (h : 0 ≤ c.last) : WF (f.add c) :=
  ⟨by show (f.inn ++ [c]).length ≤ f.hd.count; rw [List.length_append]; exact w.le, w.t0, fun m e => by show f.acts.length = min (f.inn ++ [c]).length m; rw [List.length_append]; exact w.acts m e, w.nw,
    fun x hx => by
      rcases List.mem_append.mp hx with q | q
      · exact w.pos x q
      · obtain rfl : x = c := by simpa using q
        exact h, w.n, w.al⟩
theorem WF.pre {f f1 : Fr} {d : Nat} {l r : List Int} (w : WF f) (c : f.inn.length < f.hd.count) (h : f.pre l = some ((f1, d), r)) : WFu f1 ∧ d ≤ 399 := by
  obtain ⟨hd, s, n, acts, tm, inn⟩ := f
  obtain ⟨w1, w2, w3, w4, w5, w6, w7⟩ := w
  dsimp only at c w1 w2 w3 w4 w5 w6 w7
  unfold Fr.pre at h
  cases hd with
  | wait m =>
    dsimp only at h
    by_cases c1 : inn.length < m
    · rw [if_pos c1] at h
      cases q : Sg49.action l with
      | none => rw [q] at h; cases h
      | some a =>
        rw [q] at h; cases h
        have al' : (acts ++ [a.1]).length ≤ m + 1 := by
          have := w3 m rfl
          rw [List.length_append]
          show acts.length + 1 ≤ _
          omega
        refine ⟨⟨c, w2, fun m' e => ?_, w4, w5, w6, al'⟩, by omega⟩
        cases e
        have := w3 m rfl
        show (acts ++ [a.1]).length = min (inn.length + 1) m
        rw [List.length_append]
        show acts.length + 1 = _
        omega
    · rw [if_neg c1] at h
      cases q : Sg49.num 0 Sg49.LATE l with
      | none => rw [q] at h; cases h
      | some a =>
        rw [q] at h; cases h
        obtain ⟨_, q2, _⟩ := num_inv (r := a.2) (z := a.1) q
        refine ⟨⟨c, q2, fun m' e => ?_, fun z => absurd rfl (z m), w5, w6, w7⟩, w6⟩
        cases e
        have := w3 m rfl
        show acts.length = min (inn.length + 1) m
        omega
  | _ => cases h; exact ⟨⟨c, w2, fun m' e => (by cases e), w4, w5, w6, w7⟩, w6⟩
end
end SP
set_option maxHeartbeats 2000000
namespace SP
open PySem PySem.Spec PyProof.Rows L2
/-- one step of a reading where nothing is asked -/
local macro_rules | `(tactic| walk_at "s1") => `(tactic| with_reducible first
  | refine k_seq ?_ | refine k_asg ?_ | refine k_if ?_ | refine k_ret ?_ | refine k_set ?_ | refine k_drop ?_ | refine k_next ?_ | refine k_retN ?_
  | refine k_var rfl ?_ | refine k_c ?_ | refine k_fld ?_ | refine k_fldK (by assumption) ?_ | refine k_op ?_ | refine k_plus ?_ | refine k_minus ?_ | refine k_cons ?_ | refine k_nil ?_ | refine k_name ?_
  | refine k_cmp ?_ | refine k_cmpK ?_ | refine k_B ?_ | refine k_blK ?_ | refine k_test ?_ | refine k_meth ?_ | refine k_call ?_ | refine k_CB ?_ | refine k_len (by assumption) ?_
  | refine k_ixT (by assumption) rfl ?_ | refine k_and ?_ | refine k_or ?_ | refine k_not ?_ | refine k_andV ?_ | refine k_orV ?_ | refine k_notV ?_ | refine k_ife ?_ | refine k_chain ?_ | refine k_tup ?_ | refine k_lst ?_
  | refine k_less ?_ | refine k_leq ?_ | refine k_un ?_ | refine k_neg ?_ | refine k_isN ?_ | refine k_notN ?_ | refine k_max ?_ | refine k_min ?_ | refine k_abs ?_ | refine k_bm ?_ | refine k_make ?_ | refine k_app (by assumption) (by assumption) ?_)
/-! ### agreements in the heap -/
section
variable {K : PySem.W.Frag} {mg : Str → Option Value}
local macro_rules | `(tactic| walk_at "s2") => `(tactic| first | walk_at "s1" | refine iteT ?_ | refine iteF ?_)
variable {H0 H : Hp} {n a : Addr} {l : List Int} {i : Nat} {Q : VK} {E : XK}
def pF (d s e w pa ac tm il cnt la ips : V) : List (Str × V) := [("depth", d), ("start", s), ("end", e), ("which", w), ("parts", pa), ("actions", ac), ("time", tm), ("inner", il), ("count", cnt), ("last_time", la), ("inputs", ips)]
def PartsAt (H : Hp) : Hd → List V → Prop
  | .close, vs => vs = []
  | .pay a o b t x, vs => ∃ v, vs = [.int (a : Nat), .int (o : Nat), .int (b : Nat), .int (t : Nat), v] ∧ a < 8 ∧ o < 2 ∧ b < 8 ∧ t < 4 ∧ VAt H 40 v x
  | .cond o, vs => ∃ v, vs = [v] ∧ OAt H 40 v o
  | .wait m, vs => vs = [] ∧ m ≤ 8
  | .let_ s x, vs => ∃ v, vs = [.int (s : Nat), v] ∧ s < 16 ∧ VAt H 40 v x
  | .said o, vs => ∃ v, vs = [v] ∧ OAt H 40 v o
theorem PartsAt.mono {H H' : Hp} (k : TupK H H') {h : Hd} {vs : List V} (p : PartsAt H h vs) : PartsAt H' h vs := by
  cases h with
  | close => exact p
  | wait m => exact p
  | pay a o b t x => obtain ⟨v, e, h1, h2, h3, h4, q⟩ := p; exact ⟨v, e, h1, h2, h3, h4, q.mono k⟩
  | cond o => obtain ⟨v, e, q⟩ := p; exact ⟨v, e, q.mono k⟩
  | let_ s x => obtain ⟨v, e, h1, q⟩ := p; exact ⟨v, e, h1, q.mono k⟩
  | said o => obtain ⟨v, e, q⟩ := p; exact ⟨v, e, q.mono k⟩
theorem p_fd (T : Tx K mg) {p dx : Addr} {d s e w pa ac tm il cnt la ips : V} (h : H p = some (.ins (CP K) dx (pF d s e w pa ac tm il cnt la ips))) :
    Fd K H p "depth" d ∧ Fd K H p "which" w ∧ Fd K H p "parts" pa ∧ Fd K H p "actions" ac ∧ Fd K H p "time" tm ∧ Fd K H p "inner" il ∧ Fd K H p "count" cnt ∧ Fd K H p "last_time" la ∧ Fd K H p "inputs" ips ∧ Fd K H p "start" s ∧ Fd K H p "end" e :=
  ⟨⟨_, _, _, h, T.c_Pact, T.n_Pact_depth, rfl⟩, ⟨_, _, _, h, T.c_Pact, T.n_Pact_which, rfl⟩, ⟨_, _, _, h, T.c_Pact, T.n_Pact_parts, rfl⟩, ⟨_, _, _, h, T.c_Pact, T.n_Pact_actions, rfl⟩, ⟨_, _, _, h, T.c_Pact, T.n_Pact_time, rfl⟩,
   ⟨_, _, _, h, T.c_Pact, T.n_Pact_inner, rfl⟩, ⟨_, _, _, h, T.c_Pact, T.n_Pact_count, rfl⟩, ⟨_, _, _, h, T.c_Pact, T.n_Pact_last_time, rfl⟩, ⟨_, _, _, h, T.c_Pact, T.n_Pact_inputs, rfl⟩, ⟨_, _, _, h, T.c_Pact, T.n_Pact_start, rfl⟩, ⟨_, _, _, h, T.c_Pact, T.n_Pact_end, rfl⟩⟩
/-- the parts of an agreement, behind its first number -/
def spParts (K : PySem.W.Frag) : Sp := fun vs H Q E => ∃ (p n dx : Addr) (d s : V) (z : Int) (pa : Addr) (ac il : V) (a : Addr) (i : Nat) (l : List Int), vs = [.ref p, .ref n] ∧
  H p = some (.ins (CP K) dx (pF d s (.int 0) (.int z) (.ref pa) ac (.int 0) il (.int 1) (.int 0) (.int 0))) ∧ H pa = some (.lst []) ∧ NumAt K H n a i ∧ SqL K H a (l.map V.int) ∧ i ≤ l.length ∧ p ≠ n ∧ 0 ≤ z ∧ z ≤ 5 ∧
  (restR z (l.drop i) = none → ∀ H' i', NumAt K H' n a i' → But [n, p] H H' → E (XN K) none H') ∧
  (∀ hd r, restR z (l.drop i) = some (hd, r) → ∀ H' i' pa' vs, i ≤ i' → i' ≤ l.length → l.drop i' = r → NumAt K H' n a i' → But [n, p] H H' → H' p = some (.ins (CP K) dx (pF d s (.int 0) (.int z) (.ref pa') ac (.int 0) il (.int hd.count) (.int 0) (.int 0))) →
    (pa' = pa ∨ H pa' = none) → H' pa' = some (.lst vs) → PartsAt H' hd vs → Q .non H')
theorem But.two1 {H H' : Hp} {n p : Addr} (b : But [n] H H') : But [n, p] H H' := b.mono fun x hx => by simp only [List.mem_singleton] at hx; simp [hx]
theorem pure_Pact_read_parts (T : Tx K mg) (vs : List V) (H : Hp) (Q : VK) (E : XK) (h : spParts K vs H Q E) : t_Pact_read_parts K E (spValue K 40) (spKind K) (spParty K) (spOne K) (spSaid K 40) { nx := fun _ H' => Q .non H', rt := Q } (start N_Pact_read_parts vs) H := by
  obtain ⟨p, n, dx, d, s, z, pa, ac, il, a, i, l, rfl, hp, hpa, hn, hs, hl, pn, z0, z5, qE, qQ⟩ := h
  obtain ⟨_, f2, f3, _, _, _, f7, _⟩ := p_fd T hp
  obtain ⟨dn, e0⟩ := id hn
  have np : p ∉ [n] := by simp; exact pn
  have c0 := Cur.start hn hs hl
  unfold t_Pact_read_parts
  repeat walk_at "s1"
  by_cases q0 : z = 0
  · subst q0
    repeat walk_at "s2"
    refine k_setK hp T.c_Pact T.n_Pact_count rfl ?_
    refine qQ .close _ (by unfold restR; rfl) _ i pa [] (Nat.le_refl _) hl rfl ⟨dn, by rw [upd_ne (Ne.symm pn)]; exact e0⟩ ((But.refl H).put (by simp)) upd_same (.inl rfl) ?_ rfl
    rw [upd_ne (fun z => by rw [z, hp] at hpa; cases hpa)]; exact hpa
  rw [decide_eq_false q0]
  refine iteF ?_
  repeat walk_at "s1"
  by_cases q1 : z = 1
  · subst q1
    have r1 : restR 1 (l.drop i) = (Sg49.party (l.drop i)).bind fun a => (Sg49.nat 1 a.2).bind fun o => (Sg49.party o.2).bind fun b => (Sg49.kind b.2).bind fun t => (Sg49.value 40 t.2).map fun x => (.pay a.1 o.1 b.1 t.1 x.1, x.2) := by unfold restR; rfl
    repeat walk_at "s2"
    refine k_methK e0 rfl ?_
    repeat walk_at "s1"
    refine ⟨n, rfl, rd_call c0 (fun e H' i' h' b' => qE (by rw [r1, e]; rfl) H' i' h' b'.two1) fun x i1 v H1 e1 hi1 c1 b1 rep => ?_⟩
    obtain rfl : v = .int (x : Nat) := rep
    obtain ⟨dx1, g1⟩ := id c1.num
    repeat walk_at "s1"
    refine k_methK g1 rfl ?_
    repeat walk_at "s1"
    refine one_nat (m := 1) (rd_call c1 (fun e H' i' h' b' => qE (by rw [r1, e1]; simp only [Option.bind_some]; rw [e]; rfl) H' i' h' b'.two1) fun o i2 v H2 e2 hi2 c2 b2 rep => ?_)
    obtain rfl : v = .int (o : Nat) := rep
    obtain ⟨dx2, g2⟩ := id c2.num
    repeat walk_at "s1"
    refine k_methK g2 rfl ?_
    repeat walk_at "s1"
    refine ⟨n, rfl, rd_call c2 (fun e H' i' h' b' => qE (by rw [r1, e1]; simp only [Option.bind_some]; rw [e2]; simp only [Option.bind_some]; rw [e]; rfl) H' i' h' b'.two1) fun y i3 v H3 e3 hi3 c3 b3 rep => ?_⟩
    obtain rfl : v = .int (y : Nat) := rep
    obtain ⟨dx3, g3⟩ := id c3.num
    repeat walk_at "s1"
    refine k_methK g3 rfl ?_
    repeat walk_at "s1"
    refine ⟨n, rfl, rd_call c3 (fun e H' i' h' b' => qE (by rw [r1, e1]; simp only [Option.bind_some]; rw [e2]; simp only [Option.bind_some]; rw [e3]; simp only [Option.bind_some]; rw [e]; rfl) H' i' h' b'.two1) fun t i4 v H4 e4 hi4 c4 b4 rep => ?_⟩
    obtain rfl : v = .int (t : Nat) := rep
    obtain ⟨dx4, g4⟩ := id c4.num
    repeat walk_at "s1"
    refine k_methK g4 rfl ?_
    repeat walk_at "s1"
    refine ⟨n, rfl, rd_call c4 (fun e H' i' h' b' => qE (by rw [r1, e1]; simp only [Option.bind_some]; rw [e2]; simp only [Option.bind_some]; rw [e3]; simp only [Option.bind_some]; rw [e4]; simp only [Option.bind_some]; rw [e]; rfl) H' i' h' b'.two1) fun w i5 v H5 e5 hi5 c5 b5 rep => ?_⟩
    repeat walk_at "s1"
    refine ⟨small, fun pa' hpa' => ?_⟩
    have hp5 := c5.but _ _ hp np
    have c6 := c5.new (o := .lst [.int (x : Nat), .int (o : Nat), .int (y : Nat), .int (t : Nat), v]) hpa'
    have t6 : TupK H5 (upd H5 pa' (.lst [.int (x : Nat), .int (o : Nat), .int (y : Nat), .int (t : Nat), v])) := fun b xs e => by rw [upd_ne (ne_of_none e hpa')]; exact e
    have hp6 : upd H5 pa' (.lst [.int (x : Nat), .int (o : Nat), .int (y : Nat), .int (t : Nat), v]) p = _ := (upd_ne (ne_of_none hp5 hpa')).trans hp5
    have l6 : upd H5 pa' (.lst [.int (x : Nat), .int (o : Nat), .int (y : Nat), .int (t : Nat), v]) pa' = _ := upd_same
    have fr : H pa' = none := c5.but.free hpa' (by simp; intro z; rw [z] at hpa'; obtain ⟨_, q⟩ := c5.num; rw [q] at hpa'; cases hpa')
    generalize upd H5 pa' (.lst [.int (x : Nat), .int (o : Nat), .int (y : Nat), .int (t : Nat), v]) = H6 at c6 t6 hp6 l6 ⊢
    repeat walk_at "s1"
    refine k_setK hp6 T.c_Pact T.n_Pact_parts rfl ?_
    refine qQ (.pay x o y t w) _ (by rw [r1, e1]; simp only [Option.bind_some]; rw [e2]; simp only [Option.bind_some]; rw [e3]; simp only [Option.bind_some]; rw [e4]; simp only [Option.bind_some]; rw [e5]; rfl) _ i5 pa' [.int (x : Nat), .int (o : Nat), .int (y : Nat), .int (t : Nat), v] (by omega) c6.le rfl ?_ (c6.but.two1.put (by simp)) upd_same (.inr fr) ?_ ?_
    · obtain ⟨q, e⟩ := c6.num
      exact ⟨q, by rw [upd_ne (Ne.symm pn)]; exact e⟩
    · rw [upd_ne (fun z => by rw [z, hp6] at l6; cases l6)]; exact l6
    · exact ⟨v, rfl, party_lt e1, Nat.lt_succ_of_le (nat_le e2), party_lt e3, kind_lt e4, (VAt.mono rep t6).mono fun b xs e => by rw [upd_ne (fun z => by rw [z, hp6] at e; cases e)]; exact e⟩
  rw [decide_eq_false q1]
  refine iteF ?_
  repeat walk_at "s1"
  by_cases q2 : z = 2
  · subst q2
    have r1 : restR 2 (l.drop i) = (Sg49.obs 40 (l.drop i)).map fun o => (.cond o.1, o.2) := by unfold restR; rfl
    repeat walk_at "s2"
    refine k_setK (fs' := pF d s (.int 0) (.int 2) (.ref pa) ac (.int 0) il (.int 2) (.int 0) (.int 0)) hp T.c_Pact T.n_Pact_count rfl ?_
    have b0 : But [n, p] H (upd H p (.ins (CP K) dx (pF d s (.int 0) (.int 2) (.ref pa) ac (.int 0) il (.int 2) (.int 0) (.int 0)))) := (But.refl H).put (by simp)
    have n0 : NumAt K (upd H p (.ins (CP K) dx (pF d s (.int 0) (.int 2) (.ref pa) ac (.int 0) il (.int 2) (.int 0) (.int 0)))) n a i := ⟨dn, by rw [upd_ne (Ne.symm pn)]; exact e0⟩
    have s0 : SqL K (upd H p (.ins (CP K) dx (pF d s (.int 0) (.int 2) (.ref pa) ac (.int 0) il (.int 2) (.int 0) (.int 0)))) a (l.map V.int) := sqBut hs b0 (fun m hm => by
      simp only [List.mem_cons, List.not_mem_nil, or_false] at hm
      rcases hm with rfl | rfl
      · exact ⟨_, _, _, e0⟩
      · exact ⟨_, _, _, hp⟩)
    have hp0 : upd H p (.ins (CP K) dx (pF d s (.int 0) (.int 2) (.ref pa) ac (.int 0) il (.int 2) (.int 0) (.int 0))) p = _ := upd_same
    generalize upd H p (.ins (CP K) dx (pF d s (.int 0) (.int 2) (.ref pa) ac (.int 0) il (.int 2) (.int 0) (.int 0))) = Hz at b0 n0 s0 hp0 ⊢
    obtain ⟨dz, ez⟩ := id n0
    repeat walk_at "s1"
    refine k_methK ez rfl ?_
    repeat walk_at "s1"
    refine ⟨n, rfl, rd_call (Cur.start n0 s0 hl) (fun e H' i' h' b' => qE (by rw [r1, e]; rfl) H' i' h' (b0.trans b'.two1)) fun w i5 v H5 e5 hi5 c5 b5 rep => ?_⟩
    repeat walk_at "s1"
    refine ⟨small, fun pa' hpa' => ?_⟩
    have hp5 := c5.but _ _ hp0 np
    have c6 := c5.new (o := .lst [v]) hpa'
    have t6 : TupK H5 (upd H5 pa' (.lst [v])) := fun b xs e => by rw [upd_ne (ne_of_none e hpa')]; exact e
    have hp6 : upd H5 pa' (.lst [v]) p = _ := (upd_ne (ne_of_none hp5 hpa')).trans hp5
    have l6 : upd H5 pa' (.lst [v]) pa' = _ := upd_same
    have fr : H pa' = none := b0.free (c5.but.free hpa' (by simp; intro z; rw [z] at hpa'; obtain ⟨_, q⟩ := c5.num; rw [q] at hpa'; cases hpa')) (by
      simp; refine ⟨fun z => ?_, fun z => ?_⟩
      · rw [z] at hpa'; obtain ⟨_, q⟩ := c5.num; rw [q] at hpa'; cases hpa'
      · rw [z, hp5] at hpa'; cases hpa')
    generalize upd H5 pa' (.lst [v]) = H6 at c6 t6 hp6 l6 ⊢
    repeat walk_at "s1"
    refine k_setK hp6 T.c_Pact T.n_Pact_parts rfl ?_
    refine qQ (.cond w) _ (by rw [r1, e5]; rfl) _ i5 pa' [v] hi5 c6.le rfl ?_ (b0.trans (c6.but.two1.put (by simp))) upd_same (.inr fr) ?_ ?_
    · obtain ⟨q, e⟩ := c6.num
      exact ⟨q, by rw [upd_ne (Ne.symm pn)]; exact e⟩
    · rw [upd_ne (fun z => by rw [z, hp6] at l6; cases l6)]; exact l6
    · exact ⟨v, rfl, (OAt.mono rep t6).mono fun b xs e => by rw [upd_ne (fun z => by rw [z, hp6] at e; cases e)]; exact e⟩
  rw [decide_eq_false q2]
  refine iteF ?_
  repeat walk_at "s1"
  by_cases q3 : z = 3
  · subst q3
    have r1 : restR 3 (l.drop i) = (Sg49.nat 8 (l.drop i)).map fun o => (.wait o.1, o.2) := by unfold restR; rfl
    repeat walk_at "s2"
    refine k_methK e0 rfl ?_
    repeat walk_at "s1"
    refine one_nat (m := 8) (rd_call c0 (fun e H' i' h' b' => qE (by rw [r1, e]; rfl) H' i' h' b'.two1) fun x i2 v H2 e2 hi2 c2 b2 rep => ?_)
    obtain rfl : v = .int (x : Nat) := rep
    have hp2 := c2.but _ _ hp np
    have l2 := c2.but _ _ hpa (by simp; intro z; rw [z, e0] at hpa; cases hpa)
    repeat walk_at "s1"
    refine k_setK hp2 T.c_Pact T.n_Pact_count rfl ?_
    refine qQ (.wait x) _ (by rw [r1, e2]; rfl) _ i2 pa [] hi2 c2.le rfl ?_ (c2.but.two1.put (by simp)) upd_same (.inl rfl) ?_ ⟨rfl, nat_le e2⟩
    · obtain ⟨q, e⟩ := c2.num
      exact ⟨q, by rw [upd_ne (Ne.symm pn)]; exact e⟩
    · rw [upd_ne (fun z => by rw [z, hp2] at l2; cases l2)]; exact l2
  rw [decide_eq_false q3]
  refine iteF ?_
  repeat walk_at "s1"
  by_cases q4 : z = 4
  · subst q4
    have r1 : restR 4 (l.drop i) = (Sg49.nat 15 (l.drop i)).bind fun v => (Sg49.value 40 v.2).map fun x => (.let_ v.1 x.1, x.2) := by unfold restR; rfl
    repeat walk_at "s2"
    refine k_methK e0 rfl ?_
    repeat walk_at "s1"
    refine one_nat (m := 15) (rd_call c0 (fun e H' i' h' b' => qE (by rw [r1, e]; rfl) H' i' h' b'.two1) fun x i2 v H2 e2 hi2 c2 b2 rep => ?_)
    obtain rfl : v = .int (x : Nat) := rep
    obtain ⟨dx2, g2⟩ := id c2.num
    repeat walk_at "s1"
    refine k_methK g2 rfl ?_
    repeat walk_at "s1"
    refine ⟨n, rfl, rd_call c2 (fun e H' i' h' b' => qE (by rw [r1, e2]; simp only [Option.bind_some]; rw [e]; rfl) H' i' h' b'.two1) fun w i5 v H5 e5 hi5 c5 b5 rep => ?_⟩
    repeat walk_at "s1"
    refine ⟨small, fun pa' hpa' => ?_⟩
    have hp5 := c5.but _ _ hp np
    have c6 := c5.new (o := .lst [.int (x : Nat), v]) hpa'
    have t6 : TupK H5 (upd H5 pa' (.lst [.int (x : Nat), v])) := fun b xs e => by rw [upd_ne (ne_of_none e hpa')]; exact e
    have hp6 : upd H5 pa' (.lst [.int (x : Nat), v]) p = _ := (upd_ne (ne_of_none hp5 hpa')).trans hp5
    have l6 : upd H5 pa' (.lst [.int (x : Nat), v]) pa' = _ := upd_same
    have fr : H pa' = none := c5.but.free hpa' (by simp; intro z; rw [z] at hpa'; obtain ⟨_, q⟩ := c5.num; rw [q] at hpa'; cases hpa')
    generalize upd H5 pa' (.lst [.int (x : Nat), v]) = H6 at c6 t6 hp6 l6 ⊢
    repeat walk_at "s1"
    refine k_setK hp6 T.c_Pact T.n_Pact_parts rfl ?_
    refine qQ (.let_ x w) _ (by rw [r1, e2]; simp only [Option.bind_some]; rw [e5]; rfl) _ i5 pa' [.int (x : Nat), v] (by omega) c6.le rfl ?_ (c6.but.two1.put (by simp)) upd_same (.inr fr) ?_ ?_
    · obtain ⟨q, e⟩ := c6.num
      exact ⟨q, by rw [upd_ne (Ne.symm pn)]; exact e⟩
    · rw [upd_ne (fun z => by rw [z, hp6] at l6; cases l6)]; exact l6
    · exact ⟨v, rfl, name_lt e2, (VAt.mono rep t6).mono fun b xs e => by rw [upd_ne (fun z => by rw [z, hp6] at e; cases e)]; exact e⟩
  rw [decide_eq_false q4]
  refine iteF ?_
  obtain rfl : z = 5 := by omega
  have r1 : restR 5 (l.drop i) = (Sg49.obs 40 (l.drop i)).map fun o => (.said o.1, o.2) := by unfold restR; rfl
  repeat walk_at "s1"
  refine k_methK e0 rfl ?_
  repeat walk_at "s1"
  refine ⟨n, rfl, rd_call c0 (fun e H' i' h' b' => qE (by rw [r1, e]; rfl) H' i' h' b'.two1) fun w i5 v H5 e5 hi5 c5 b5 rep => ?_⟩
  repeat walk_at "s1"
  refine ⟨small, fun pa' hpa' => ?_⟩
  have hp5 := c5.but _ _ hp np
  have c6 := c5.new (o := .lst [v]) hpa'
  have t6 : TupK H5 (upd H5 pa' (.lst [v])) := fun b xs e => by rw [upd_ne (ne_of_none e hpa')]; exact e
  have hp6 : upd H5 pa' (.lst [v]) p = _ := (upd_ne (ne_of_none hp5 hpa')).trans hp5
  have l6 : upd H5 pa' (.lst [v]) pa' = _ := upd_same
  have fr : H pa' = none := c5.but.free hpa' (by simp; intro z; rw [z] at hpa'; obtain ⟨_, q⟩ := c5.num; rw [q] at hpa'; cases hpa')
  generalize upd H5 pa' (.lst [v]) = H6 at c6 t6 hp6 l6 ⊢
  repeat walk_at "s1"
  refine k_setK hp6 T.c_Pact T.n_Pact_parts rfl ?_
  refine qQ (.said w) _ (by rw [r1, e5]; rfl) _ i5 pa' [v] hi5 c6.le rfl ?_ (c6.but.two1.put (by simp)) upd_same (.inr fr) ?_ ?_
  · obtain ⟨q, e⟩ := c6.num
    exact ⟨q, by rw [upd_ne (Ne.symm pn)]; exact e⟩
  · rw [upd_ne (fun z => by rw [z, hp6] at l6; cases l6)]; exact l6
  · exact ⟨v, rfl, (OAt.mono rep t6).mono fun b xs e => by rw [upd_ne (fun z => by rw [z, hp6] at e; cases e)]; exact e⟩
end
end SP
set_option maxHeartbeats 2000000
namespace SP
open PySem PySem.Spec PyProof.Rows L2
/-- one step of a reading where nothing is asked -/
local macro_rules | `(tactic| walk_at "s1") => `(tactic| with_reducible first
  | refine k_seq ?_ | refine k_asg ?_ | refine k_if ?_ | refine k_ret ?_ | refine k_set ?_ | refine k_drop ?_ | refine k_next ?_ | refine k_retN ?_
  | refine k_var rfl ?_ | refine k_c ?_ | refine k_fld ?_ | refine k_fldK (by assumption) ?_ | refine k_op ?_ | refine k_plus ?_ | refine k_minus ?_ | refine k_cons ?_ | refine k_nil ?_ | refine k_name ?_
  | refine k_cmp ?_ | refine k_cmpK ?_ | refine k_B ?_ | refine k_blK ?_ | refine k_test ?_ | refine k_meth ?_ | refine k_call ?_ | refine k_CB ?_ | refine k_len (by assumption) ?_
  | refine k_ixT (by assumption) rfl ?_ | refine k_and ?_ | refine k_or ?_ | refine k_not ?_ | refine k_andV ?_ | refine k_orV ?_ | refine k_notV ?_ | refine k_ife ?_ | refine k_chain ?_ | refine k_tup ?_ | refine k_lst ?_
  | refine k_less ?_ | refine k_leq ?_ | refine k_un ?_ | refine k_neg ?_ | refine k_isN ?_ | refine k_notN ?_ | refine k_max ?_ | refine k_min ?_ | refine k_abs ?_ | refine k_bm ?_ | refine k_make ?_ | refine k_app (by assumption) (by assumption) ?_)
section
variable {K : PySem.W.Frag} {mg : Str → Option Value}
local macro_rules | `(tactic| walk_at "s2") => `(tactic| first | walk_at "s1" | refine iteT ?_ | refine iteF ?_)
variable {H0 H : Hp} {n a : Addr} {l : List Int} {i : Nat} {Q : VK} {E : XK}
theorem headR_none1 {l : List Int} (e : Sg49.num 0 5 l = none) : headR l = none := by unfold headR; rw [e]; rfl
theorem headR_some {l r : List Int} {z : Int} (e : Sg49.num 0 5 l = some (z, r)) : headR l = restR z r := by unfold headR; rw [e]; rfl
/-- an agreement made, its head read -/
def spPactInit (K : PySem.W.Frag) : Sp := fun vs H Q E => ∃ (p n dx : Addr) (dep : Int) (a : Addr) (i : Nat) (l : List Int), vs = [.ref p, .ref n, .int dep] ∧
  H p = some (.ins (CP K) dx []) ∧ NumAt K H n a i ∧ SqL K H a (l.map V.int) ∧ i ≤ l.length ∧ p ≠ n ∧
  (400 < dep → E (XN K) none H) ∧
  (headR (l.drop i) = none → ∀ H' i', NumAt K H' n a i' → But [n, p] H H' → E (XN K) none H') ∧
  (∀ hd r, dep ≤ 400 → headR (l.drop i) = some (hd, r) → ∀ H' i' pa ac il vs, i < i' → i' ≤ l.length → l.drop i' = r → NumAt K H' n a i' → But [n, p] H H' → H' p = some (.ins (CP K) dx (pF (.int dep) (.int i) (.int 0) (.int hd.w) (.ref pa) (.ref ac) (.int 0) (.ref il) (.int hd.count) (.int 0) (.int 0))) →
    H pa = none → H ac = none → H il = none → pa ≠ ac → pa ≠ il → ac ≠ il → H' pa = some (.lst vs) → PartsAt H' hd vs → H' ac = some (.lst []) → H' il = some (.lst []) → Q .non H')
theorem pure_Pact_init (T : Tx K mg) (vs : List V) (H : Hp) (Q : VK) (E : XK) (h : spPactInit K vs H Q E) : t_Pact_init K E (spParts K) (spOne K) { nx := fun _ H' => Q .non H', rt := Q } (start N_Pact_init vs) H := by
  obtain ⟨p, n, dx, dep, a, i, l, rfl, hp, hn, hs, hl, pn, qD, qE, qQ⟩ := h
  obtain ⟨dn, e0⟩ := id hn
  unfold t_Pact_init
  repeat walk_at "s1"
  by_cases c : 400 < dep
  · rw [decide_eq_true c]
    exact iteT (qD c)
  rw [decide_eq_false c]
  refine iteF ?_
  replace c : dep ≤ 400 := by omega
  repeat walk_at "s1"
  refine k_setK hp T.c_Pact T.n_Pact_depth rfl ?_
  have f1 : Fd K (upd H p (.ins (CP K) dx (putF "depth" (.int dep) []))) n "place" (.int i) := ⟨_, _, _, by rw [upd_ne (Ne.symm pn)]; exact e0, T.c_Numbers, T.n_Numbers_place, rfl⟩
  repeat walk_at "s1"
  refine k_setK upd_same T.c_Pact T.n_Pact_start rfl ?_
  rw [upd_upd]
  repeat walk_at "s1"
  refine k_setK (fs' := [("depth", .int dep), ("start", .int i), ("end", .int 0)]) upd_same T.c_Pact T.n_Pact_end rfl ?_
  rw [upd_upd]
  have b3 : But [n, p] H (upd H p (.ins (CP K) dx [("depth", .int dep), ("start", .int i), ("end", .int 0)])) := (But.refl H).put (by simp)
  have n3 : NumAt K (upd H p (.ins (CP K) dx [("depth", .int dep), ("start", .int i), ("end", .int 0)])) n a i := ⟨dn, by rw [upd_ne (Ne.symm pn)]; exact e0⟩
  have s3 : SqL K (upd H p (.ins (CP K) dx [("depth", .int dep), ("start", .int i), ("end", .int 0)])) a (l.map V.int) := sqBut hs b3 (fun m hm => by
      simp only [List.mem_cons, List.not_mem_nil, or_false] at hm
      rcases hm with rfl | rfl
      · exact ⟨_, _, _, e0⟩
      · exact ⟨_, _, _, hp⟩)
  have hp3 : upd H p (.ins (CP K) dx [("depth", .int dep), ("start", .int i), ("end", .int 0)]) p = _ := upd_same
  generalize upd H p (.ins (CP K) dx [("depth", .int dep), ("start", .int i), ("end", .int 0)]) = H3 at b3 n3 s3 hp3 ⊢
  obtain ⟨d3, e3⟩ := id n3
  repeat walk_at "s1"
  refine k_methK e3 rfl ?_
  repeat walk_at "s1"
  refine one_num (rd_call (Cur.start n3 s3 hl) (fun e H' i' h' b' => qE (headR_none1 e) H' i' h' (b3.trans b'.two1)) fun z i4 v H4 e hi4 c4 b4 rep => ?_)
  obtain rfl : v = .int z := rep
  obtain ⟨hd, z0, z5⟩ := head_num e
  rw [headR_some e] at qE qQ
  have np : p ∉ [n] := by simp; exact pn
  have hp4 := b4 _ _ hp3 np
  have i4l : i < i4 := by
    have := congrArg List.length hd
    rw [List.length_drop, List.length_cons, List.length_drop] at this
    omega
  have B4 : But [n, p] H H4 := b3.trans b4.two1
  repeat walk_at "s1"
  refine k_setK (fs' := [("depth", .int dep), ("start", .int i), ("end", .int 0), ("which", .int z)]) hp4 T.c_Pact T.n_Pact_which rfl ?_
  have b5 : But [n, p] H (upd H4 p (.ins (CP K) dx [("depth", .int dep), ("start", .int i), ("end", .int 0), ("which", .int z)])) := B4.put (by simp)
  have n5 : NumAt K (upd H4 p (.ins (CP K) dx [("depth", .int dep), ("start", .int i), ("end", .int 0), ("which", .int z)])) n a i4 := by
    obtain ⟨q, e⟩ := c4.num
    exact ⟨q, by rw [upd_ne (Ne.symm pn)]; exact e⟩
  have hp5 : upd H4 p (.ins (CP K) dx [("depth", .int dep), ("start", .int i), ("end", .int 0), ("which", .int z)]) p = _ := upd_same
  have l4 := c4.le
  clear hp4 c4
  generalize upd H4 p (.ins (CP K) dx [("depth", .int dep), ("start", .int i), ("end", .int 0), ("which", .int z)]) = H5 at b5 n5 hp5 ⊢
  have fr : ∀ {H' : Hp} {x : Addr}, But [n, p] H H' → NumAt K H' n a i4 → (∃ o, H' p = some o) → H' x = none → H x = none ∧ x ≠ p ∧ x ≠ n := fun {H' x} b ⟨_, q⟩ ⟨o, q2⟩ e => by
    have x1 : x ≠ p := fun z => by rw [z, q2] at e; cases e
    have x2 : x ≠ n := fun z => by rw [z, q] at e; cases e
    exact ⟨b.free e (by simp; exact ⟨x2, x1⟩), x1, x2⟩
  have nn : ∀ {H' : Hp} {x : Addr} {o : HO}, NumAt K H' n a i4 → x ≠ n → NumAt K (upd H' x o) n a i4 := fun {H' x o} ⟨q, e⟩ x2 => ⟨q, by rw [upd_ne (Ne.symm x2)]; exact e⟩
  repeat walk_at "s1"
  refine ⟨small, fun pa hpa => ?_⟩
  obtain ⟨pa0, pap, pan⟩ := fr b5 n5 ⟨_, hp5⟩ hpa
  repeat walk_at "s1"
  refine k_setK (fs' := [("depth", .int dep), ("start", .int i), ("end", .int 0), ("which", .int z), ("parts", .ref pa)]) ((upd_ne (Ne.symm pap)).trans hp5) T.c_Pact T.n_Pact_parts rfl ?_
  have b6 : But [n, p] H (upd (upd H5 pa (.lst [])) p (.ins (CP K) dx [("depth", .int dep), ("start", .int i), ("end", .int 0), ("which", .int z), ("parts", .ref pa)])) := (b5.new pa0).put (by simp)
  have n6 := nn (o := .ins (CP K) dx [("depth", .int dep), ("start", .int i), ("end", .int 0), ("which", .int z), ("parts", .ref pa)]) (nn (o := .lst []) n5 pan) pn
  have hp6 : upd (upd H5 pa (.lst [])) p (.ins (CP K) dx [("depth", .int dep), ("start", .int i), ("end", .int 0), ("which", .int z), ("parts", .ref pa)]) p = _ := upd_same
  have hpa6 : upd (upd H5 pa (.lst [])) p (.ins (CP K) dx [("depth", .int dep), ("start", .int i), ("end", .int 0), ("which", .int z), ("parts", .ref pa)]) pa = some (.lst []) := by rw [upd_ne pap, upd_same]
  generalize upd (upd H5 pa (.lst [])) p (.ins (CP K) dx [("depth", .int dep), ("start", .int i), ("end", .int 0), ("which", .int z), ("parts", .ref pa)]) = H6 at b6 n6 hp6 hpa6 ⊢
  repeat walk_at "s1"
  refine ⟨small, fun ac hac => ?_⟩
  obtain ⟨ac0, acp, acn⟩ := fr b6 n6 ⟨_, hp6⟩ hac
  have paac : pa ≠ ac := fun z => by rw [z, hac] at hpa6; cases hpa6
  repeat walk_at "s1"
  refine k_setK (fs' := [("depth", .int dep), ("start", .int i), ("end", .int 0), ("which", .int z), ("parts", .ref pa), ("actions", .ref ac)]) ((upd_ne (Ne.symm acp)).trans hp6) T.c_Pact T.n_Pact_actions rfl ?_
  repeat walk_at "s1"
  refine k_setK (fs' := [("depth", .int dep), ("start", .int i), ("end", .int 0), ("which", .int z), ("parts", .ref pa), ("actions", .ref ac), ("time", .int 0)]) upd_same T.c_Pact T.n_Pact_time rfl ?_
  rw [upd_upd]
  have b7 : But [n, p] H (upd (upd H6 ac (.lst [])) p (.ins (CP K) dx [("depth", .int dep), ("start", .int i), ("end", .int 0), ("which", .int z), ("parts", .ref pa), ("actions", .ref ac), ("time", .int 0)])) := (b6.new ac0).put (by simp)
  have n7 := nn (o := .ins (CP K) dx [("depth", .int dep), ("start", .int i), ("end", .int 0), ("which", .int z), ("parts", .ref pa), ("actions", .ref ac), ("time", .int 0)]) (nn (o := .lst []) n6 acn) pn
  have hp7 : upd (upd H6 ac (.lst [])) p (.ins (CP K) dx [("depth", .int dep), ("start", .int i), ("end", .int 0), ("which", .int z), ("parts", .ref pa), ("actions", .ref ac), ("time", .int 0)]) p = _ := upd_same
  have hpa7 : upd (upd H6 ac (.lst [])) p (.ins (CP K) dx [("depth", .int dep), ("start", .int i), ("end", .int 0), ("which", .int z), ("parts", .ref pa), ("actions", .ref ac), ("time", .int 0)]) pa = some (.lst []) := by rw [upd_ne pap, upd_ne paac]; exact hpa6
  have hac7 : upd (upd H6 ac (.lst [])) p (.ins (CP K) dx [("depth", .int dep), ("start", .int i), ("end", .int 0), ("which", .int z), ("parts", .ref pa), ("actions", .ref ac), ("time", .int 0)]) ac = some (.lst []) := by rw [upd_ne acp, upd_same]
  generalize upd (upd H6 ac (.lst [])) p (.ins (CP K) dx [("depth", .int dep), ("start", .int i), ("end", .int 0), ("which", .int z), ("parts", .ref pa), ("actions", .ref ac), ("time", .int 0)]) = H7 at b7 n7 hp7 hpa7 hac7 ⊢
  repeat walk_at "s1"
  refine ⟨small, fun il hil => ?_⟩
  obtain ⟨il0, ilp, iln⟩ := fr b7 n7 ⟨_, hp7⟩ hil
  have pail : pa ≠ il := fun z => by rw [z, hil] at hpa7; cases hpa7
  have acil : ac ≠ il := fun z => by rw [z, hil] at hac7; cases hac7
  repeat walk_at "s1"
  refine k_setK (fs' := [("depth", .int dep), ("start", .int i), ("end", .int 0), ("which", .int z), ("parts", .ref pa), ("actions", .ref ac), ("time", .int 0), ("inner", .ref il)]) ((upd_ne (Ne.symm ilp)).trans hp7) T.c_Pact T.n_Pact_inner rfl ?_
  repeat walk_at "s1"
  refine k_setK upd_same T.c_Pact T.n_Pact_count rfl ?_
  rw [upd_upd]
  repeat walk_at "s1"
  refine k_setK upd_same T.c_Pact T.n_Pact_last_time rfl ?_
  rw [upd_upd]
  repeat walk_at "s1"
  refine k_setK (fs' := pF (.int dep) (.int i) (.int 0) (.int z) (.ref pa) (.ref ac) (.int 0) (.ref il) (.int 1) (.int 0) (.int 0)) upd_same T.c_Pact T.n_Pact_inputs rfl ?_
  rw [upd_upd]
  have b8 : But [n, p] H (upd (upd H7 il (.lst [])) p (.ins (CP K) dx (pF (.int dep) (.int i) (.int 0) (.int z) (.ref pa) (.ref ac) (.int 0) (.ref il) (.int 1) (.int 0) (.int 0)))) := (b7.new il0).put (by simp)
  have n8 := nn (o := .ins (CP K) dx (pF (.int dep) (.int i) (.int 0) (.int z) (.ref pa) (.ref ac) (.int 0) (.ref il) (.int 1) (.int 0) (.int 0))) (nn (o := .lst []) n7 iln) pn
  have hp8 : upd (upd H7 il (.lst [])) p (.ins (CP K) dx (pF (.int dep) (.int i) (.int 0) (.int z) (.ref pa) (.ref ac) (.int 0) (.ref il) (.int 1) (.int 0) (.int 0))) p = _ := upd_same
  have hpa8 : upd (upd H7 il (.lst [])) p (.ins (CP K) dx (pF (.int dep) (.int i) (.int 0) (.int z) (.ref pa) (.ref ac) (.int 0) (.ref il) (.int 1) (.int 0) (.int 0))) pa = some (.lst []) := by rw [upd_ne pap, upd_ne pail]; exact hpa7
  have hac8 : upd (upd H7 il (.lst [])) p (.ins (CP K) dx (pF (.int dep) (.int i) (.int 0) (.int z) (.ref pa) (.ref ac) (.int 0) (.ref il) (.int 1) (.int 0) (.int 0))) ac = some (.lst []) := by rw [upd_ne acp, upd_ne acil]; exact hac7
  have hil8 : upd (upd H7 il (.lst [])) p (.ins (CP K) dx (pF (.int dep) (.int i) (.int 0) (.int z) (.ref pa) (.ref ac) (.int 0) (.ref il) (.int 1) (.int 0) (.int 0))) il = some (.lst []) := by rw [upd_ne ilp, upd_same]
  generalize upd (upd H7 il (.lst [])) p (.ins (CP K) dx (pF (.int dep) (.int i) (.int 0) (.int z) (.ref pa) (.ref ac) (.int 0) (.ref il) (.int 1) (.int 0) (.int 0))) = H8 at b8 n8 hp8 hpa8 hac8 hil8 ⊢
  repeat walk_at "s1"
  refine k_methK hp8 rfl ?_
  repeat walk_at "s1"
  have s8 : SqL K H8 a (l.map V.int) := sqBut hs b8 (fun m hm => by
      simp only [List.mem_cons, List.not_mem_nil, or_false] at hm
      rcases hm with rfl | rfl
      · exact ⟨_, _, _, e0⟩
      · exact ⟨_, _, _, hp⟩)
  refine ⟨p, n, dx, .int dep, .int i, z, pa, .ref ac, .ref il, a, i4, l, rfl, hp8, hpa8, n8, s8, l4, pn, z0, z5, fun e H' i' h' b' => qE e H' i' h' (b8.trans b'), fun hd r e H' i' pa' vs h1 h2 h3 h4 h5 h6 h7 h8 h9 => ?_⟩
  have hw : hd.w = z := restR_w e
  have pa'0 : H pa' = none := by
    rcases h7 with rfl | h7
    · exact pa0
    · exact (fr b8 n8 ⟨_, hp8⟩ h7).1
  have n1 : pa' ≠ ac := by
    rcases h7 with rfl | h7
    · exact paac
    · exact fun z => by rw [z, hac8] at h7; cases h7
  have n2 : pa' ≠ il := by
    rcases h7 with rfl | h7
    · exact pail
    · exact fun z => by rw [z, hil8] at h7; cases h7
  exact qQ hd r c e H' i' pa' ac il vs (by omega) h2 h3 h4 (b8.trans h5) (by rw [hw]; exact h6) pa'0 ac0 il0 n1 n2 acil h8 h9 (h5 _ _ hac8 (by simp; exact ⟨acn, acp⟩)) (h5 _ _ hil8 (by simp; exact ⟨iln, ilp⟩))
/-- whether all inner ones are there -/
def spComplete1 (K : PySem.W.Frag) : Sp := fun vs H Q _ => ∃ (p il : Addr) (cnt : Nat) (ks : List V), vs = [.ref p] ∧ Fd K H p "inner" (.ref il) ∧ Fd K H p "count" (.int cnt) ∧ H il = some (.lst ks) ∧ Q (.bl (decide (ks.length = cnt))) H
theorem pure_Pact_is_complete (vs : List V) (H : Hp) (Q : VK) (E : XK) (h : spComplete1 K vs H Q E) : t_Pact_is_complete K E { nx := fun _ H' => Q .non H', rt := Q } (start N_Pact_is_complete vs) H := by
  obtain ⟨p, il, cnt, ks, rfl, f1, f2, hil, q⟩ := h
  have hs : SqL K H il ks := .inl (.inl hil)
  unfold t_Pact_is_complete
  repeat walk_at "s1"
  have e : decide (((ks.length : Nat) : Int) = (cnt : Nat)) = decide (ks.length = cnt) := by
    by_cases c : ks.length = cnt
    · rw [decide_eq_true c, decide_eq_true (by omega)]
    · rw [decide_eq_false c, decide_eq_false (by omega)]
  rw [e]
  exact q
end
end SP
set_option maxHeartbeats 2000000
namespace SP
open PySem PySem.Spec PyProof.Rows L2
/-- one step of a reading where nothing is asked -/
local macro_rules | `(tactic| walk_at "s1") => `(tactic| with_reducible first
  | refine k_seq ?_ | refine k_asg ?_ | refine k_if ?_ | refine k_ret ?_ | refine k_set ?_ | refine k_drop ?_ | refine k_next ?_ | refine k_retN ?_
  | refine k_var rfl ?_ | refine k_c ?_ | refine k_fld ?_ | refine k_fldK (by assumption) ?_ | refine k_op ?_ | refine k_plus ?_ | refine k_minus ?_ | refine k_cons ?_ | refine k_nil ?_ | refine k_name ?_
  | refine k_cmp ?_ | refine k_cmpK ?_ | refine k_B ?_ | refine k_blK ?_ | refine k_test ?_ | refine k_meth ?_ | refine k_call ?_ | refine k_CB ?_ | refine k_len (by assumption) ?_
  | refine k_ixT (by assumption) rfl ?_ | refine k_and ?_ | refine k_or ?_ | refine k_not ?_ | refine k_andV ?_ | refine k_orV ?_ | refine k_notV ?_ | refine k_ife ?_ | refine k_chain ?_ | refine k_tup ?_ | refine k_lst ?_
  | refine k_less ?_ | refine k_leq ?_ | refine k_un ?_ | refine k_neg ?_ | refine k_isN ?_ | refine k_notN ?_ | refine k_max ?_ | refine k_min ?_ | refine k_abs ?_ | refine k_bm ?_ | refine k_make ?_ | refine k_app (by assumption) (by assumption) ?_)
section
variable {K : PySem.W.Frag} {mg : Str → Option Value}
local macro_rules | `(tactic| walk_at "s2") => `(tactic| first | walk_at "s1" | refine iteT ?_ | refine iteF ?_)
variable {H0 H : Hp} {n a : Addr} {l : List Int} {i : Nat} {Q : VK} {E : XK}
/-- one by one -/
def All2 {α β : Type} (R : α → β → Prop) : List α → List β → Prop
  | [], [] => True
  | a :: as, b :: bs => R a b ∧ All2 R as bs
  | _, _ => False
theorem All2.imp {α β : Type} {R S : α → β → Prop} (h : ∀ a b, R a b → S a b) : ∀ {as : List α} {bs : List β}, All2 R as bs → All2 S as bs
  | [], [], _ => trivial
  | _ :: _, _ :: _, ⟨x, y⟩ => ⟨h _ _ x, All2.imp h y⟩
  | [], _ :: _, h => h.elim
  | _ :: _, [], h => h.elim
theorem All2.len {α β : Type} {R : α → β → Prop} : ∀ {as : List α} {bs : List β}, All2 R as bs → as.length = bs.length
  | [], [], _ => rfl
  | _ :: _, _ :: _, ⟨_, y⟩ => congrArg (· + 1) (All2.len y)
  | [], _ :: _, h => h.elim
  | _ :: _, [], h => h.elim
theorem All2.snoc {α β : Type} {R : α → β → Prop} {a : α} {b : β} : ∀ {as : List α} {bs : List β}, All2 R as bs → R a b → All2 R (as ++ [a]) (bs ++ [b])
  | [], [], _, h => ⟨h, trivial⟩
  | _ :: _, _ :: _, ⟨x, y⟩, h => ⟨x, All2.snoc y h⟩
  | [], _ :: _, h, _ => h.elim
  | _ :: _, [], h, _ => h.elim
theorem All2.get {α β : Type} {R : α → β → Prop} : ∀ {as : List α} {bs : List β} {j : Nat} {a : α}, All2 R as bs → as[j]? = some a → ∃ b, bs[j]? = some b ∧ R a b
  | [], [], _, _, _, h => by simp at h
  | x :: as, y :: bs, 0, a, ⟨r, _⟩, h => ⟨y, rfl, by cases h; exact r⟩
  | x :: as, y :: bs, j + 1, a, ⟨_, r⟩, h => All2.get (as := as) (bs := bs) (j := j) r h
  | [], _ :: _, _, _, h, _ => h.elim
  | _ :: _, [], _, _, h, _ => h.elim
theorem But.born {M : List Addr} {H H' : Hp} {q dq : Addr} {o u : HO} (b : But (q :: M) (upd (upd H dq u) q o) H') (h1 : H q = none) (h2 : H dq = none) : But M H H' := fun c v e nc => by
  have k1 : c ≠ q := ne_of_none e h1
  refine b c v ?_ (by simp; exact ⟨k1, nc⟩)
  rw [upd_ne k1, upd_ne (ne_of_none e h2)]
  exact e
theorem But.perm {H H' : Hp} {x y : Addr} (b : But [x, y] H H') : But [y, x] H H' := b.mono fun c hc => by simp only [List.mem_cons, List.not_mem_nil, or_false] at hc ⊢; exact hc.symm
/-- the tail of next_inner -/
theorem next_tail (T : Tx K mg) {H1 : Hp} {p il : Addr} {dep : Int} {x4 : Option V} {ks : List V} {i1 : Nat} (fp : Fd K H1 p "inner" (.ref il)) (pn : p ≠ n) (hil : H1 il = some (.lst ks)) (kl : ks.length < 100) (hn : NumAt K H1 n a i1) (hs : SqL K H1 a (l.map V.int)) (hl : i1 ≤ l.length)
    (qE : 400 < dep ∨ headR (l.drop i1) = none → ∀ H' i', NumAt K H' n a i' → But [n] H1 H' → E (XN K) none H')
    (qQ : ∀ hd r, dep ≤ 400 → headR (l.drop i1) = some (hd, r) → ∀ H' i2 q dq pa' ac' il' vs, i1 < i2 → i2 ≤ l.length → l.drop i2 = r → NumAt K H' n a i2 → But [n] H1 H' → H' q = some (.ins (CP K) dq (pF (.int dep) (.int i1) (.int 0) (.int hd.w) (.ref pa') (.ref ac') (.int 0) (.ref il') (.int hd.count) (.int 0) (.int 0))) →
      H1 q = none → H1 pa' = none → H1 ac' = none → H1 il' = none → pa' ≠ ac' → pa' ≠ il' → ac' ≠ il' → H' pa' = some (.lst vs) → PartsAt H' hd vs → H' ac' = some (.lst []) → H' il' = some (.lst []) → H' il = some (.lst ks) → Q (.ref q) (upd H' il (.lst (ks ++ [.ref q])))) :
    (tSeq (tAsg (tMake (He.ga K "Pact") (spPactInit K) [] E (tCons (tVar 1) (tCons (tVar 2) tNil))) (gName 3))
    (tSeq (tDrop (tBM K "list" rAppend (tFld K (tVar 0) "inner") (tCons (tVar 3) tNil)))
    (tRet (tVar 3)))) { nx := fun _ H' => Q .non H', rt := Q } [some (.ref p), some (.ref n), some (.int dep), none, x4] H1 := by
  obtain ⟨dn, e0⟩ := id hn
  repeat walk_at "s1"
  intro q dq hq hdq dqq
  have qn : q ≠ n := fun z => by rw [z, e0] at hq; cases hq
  have dn' : dq ≠ n := fun z => by rw [z, e0] at hdq; cases hdq
  have b0 : But [n] H1 (upd (upd H1 dq (.own q)) q (.ins (CP K) dq [])) := ((But.refl H1).new hdq).new hq
  have n0 : NumAt K (upd (upd H1 dq (.own q)) q (.ins (CP K) dq [])) n a i1 := ⟨dn, by rw [upd_ne (Ne.symm qn), upd_ne (Ne.symm dn')]; exact e0⟩
  refine ⟨q, n, dq, dep, a, i1, l, rfl, upd_same, n0, sqBut hs b0 hn.ins, hl, qn, fun c => qE (.inl c) _ i1 n0 b0, fun e H' i' h b => qE (.inr e) H' i' h (b.perm.born hq hdq), fun hd r c e H' i2 pa' ac' il' vs h1 h2 h3 h4 h5 h6 h7 h8 h9 h10 h11 h12 h13 h14 h15 h16 => ?_⟩
  have b : But [n] H1 H' := h5.perm.born hq hdq
  have nf : ∀ {x : Addr}, upd (upd H1 dq (.own q)) q (.ins (CP K) dq []) x = none → H1 x = none := fun {x} e => by
    have x1 : x ≠ q := fun z => by rw [z, upd_same] at e; cases e
    rw [upd_ne x1] at e
    have x2 : x ≠ dq := fun z => by rw [z, upd_same] at e; cases e
    rw [upd_ne x2] at e
    exact e
  have hil' : H' il = some (.lst ks) := b _ _ hil (by simp; intro z; rw [z, e0] at hil; cases hil)
  have fp' : Fd K H' p "inner" (.ref il) := fp.but b (by simp; exact pn)
  refine ⟨rfl, ?_⟩
  repeat walk_at "s1"
  refine ⟨ty_list (.inl (.inl hil')), ?_⟩
  repeat walk_at "s1"
  refine k_app hil' (by rw [sizeLine_eq]; omega) ?_
  repeat walk_at "s1"
  exact qQ hd r c e H' i2 q dq pa' ac' il' vs h1 h2 h3 h4 b h6 hq (nf h7) (nf h8) (nf h9) h10 h11 h12 h13 h14 h15 h16 hil'
/-- a frame's own things -/
structure FrAt (K : PySem.W.Frag) (H : Hp) (f : Fr) (p dx pa ac il : Addr) (as ks : List V) : Prop where
  hins : H p = some (.ins (CP K) dx (pF (.int (400 - (f.n : Nat))) (.int (f.s : Nat)) (.int 0) (.int f.hd.w) (.ref pa) (.ref ac) (.int f.tm) (.ref il) (.int (f.hd.count : Nat)) (.int 0) (.int 0)))
  hac : H ac = some (.lst as)
  hil : H il = some (.lst ks)
  acil : ac ≠ il
  acts : All2 (AAt H) as f.acts
theorem FrAt.mono {H H' : Hp} {M : List Addr} {f : Fr} {p dx pa ac il : Addr} {as ks : List V} (h : FrAt K H f p dx pa ac il as ks) (b : But M H H') (t : TupK H H') (h1 : p ∉ M) (h2 : ac ∉ M) (h3 : il ∉ M) : FrAt K H' f p dx pa ac il as ks :=
  ⟨b _ _ h.hins h1, b _ _ h.hac h2, b _ _ h.hil h3, h.acil, h.acts.imp fun _ _ q => q.mono t⟩
/-- the next inner one -/
def spNext (K : PySem.W.Frag) : Sp := fun vs H Q E => ∃ (p n dx pa ac il : Addr) (f : Fr) (as ks : List V) (a : Addr) (i : Nat) (l : List Int), vs = [.ref p, .ref n] ∧ FrAt K H f p dx pa ac il as ks ∧ ks.length = f.inn.length ∧ f.inn.length < f.hd.count ∧ ks.length < 100 ∧ as.length < 100 ∧ f.n ≤ 399 ∧
  NumAt K H n a i ∧ (∀ H', But [n, p, ac, il] H H' → SqL K H' a (l.map V.int)) ∧ i ≤ l.length ∧ p ≠ n ∧
  (f.pre (l.drop i) = none ∨ (∃ f1 r, f.pre (l.drop i) = some ((f1, 0), r)) ∨ (∃ f1 d r, f.pre (l.drop i) = some ((f1, d + 1), r) ∧ headR r = none) → ∀ H' i', NumAt K H' n a i' → But [n, p, ac] H H' → E (XN K) none H') ∧
  (∀ f1 d i1 h r, f.pre (l.drop i) = some ((f1, d + 1), l.drop i1) → headR (l.drop i1) = some (h, r) → i ≤ i1 → ∀ H' i2 q dq pa' ac' il' vs as', i1 < i2 → i2 ≤ l.length → l.drop i2 = r → NumAt K H' n a i2 → But [n, p, ac, il] H H' →
    FrAt K H' f1 p dx pa ac il as' (ks ++ [.ref q]) → FrAt K H' (Fr.new h i1 d) q dq pa' ac' il' [] [] → H' pa' = some (.lst vs) → PartsAt H' h vs → H q = none → H pa' = none → H ac' = none → H il' = none → pa' ≠ ac' → pa' ≠ il' → Q (.ref q) H')
theorem pre_wait1 {f : Fr} {m : Nat} {l : List Int} (h : f.hd = .wait m) (c : f.inn.length < m) : f.pre l = (Sg49.action l).map fun a => (({ f with acts := f.acts ++ [a.1] }, f.n - 1 - f.inn.length), a.2) := by
  unfold Fr.pre
  rw [h]
  exact if_pos c
theorem pre_wait2 {f : Fr} {m : Nat} {l : List Int} (h : f.hd = .wait m) (c : ¬ f.inn.length < m) : f.pre l = (Sg49.num 0 Sg49.LATE l).map fun t => (({ f with tm := t.1 }, f.n), t.2) := by
  unfold Fr.pre
  rw [h]
  exact if_neg c
theorem pre_else {f : Fr} {l : List Int} (h : f.hd.w ≠ 3) : f.pre l = some ((f, f.n), l) := by
  unfold Fr.pre
  cases e : f.hd with
  | wait m => rw [e] at h; exact absurd rfl h
  | _ => rfl
theorem w_wait {h : Hd} (e : h.w = 3) : ∃ m, h = .wait m := by
  cases h with
  | wait m => exact ⟨m, rfl⟩
  | _ => cases e
theorem pure_Pact_next_inner (T : Tx K mg) (vs : List V) (H : Hp) (Q : VK) (E : XK) (h : spNext K vs H Q E) : t_Pact_next_inner K E (spPactInit K) (spAction K) (spOne K) { nx := fun _ H' => Q .non H', rt := Q } (start N_Pact_next_inner vs) H := by
  obtain ⟨p, n, dx, pa, ac, il, f, as, ks, a, i, l, rfl, hf, kl, fl, k100, a100, fn, hn, hS, hl, pn, qE, qQ⟩ := h
  have hs := hS H (But.refl H)
  obtain ⟨dn, e0⟩ := id hn
  obtain ⟨f1, f2, _, f4, f5, f6, f7, _⟩ := p_fd T hf.hins
  have np : p ∉ [n] := by simp; exact pn
  have acn : ac ∉ [n] := by simp; intro z; have q := hf.hac; rw [z, e0] at q; cases q
  have iln : il ∉ [n] := by simp; intro z; have q := hf.hil; rw [z, e0] at q; cases q
  have acp : ac ≠ p := fun z => by have q := hf.hac; rw [z, hf.hins] at q; cases q
  have ilp : il ≠ p := fun z => by have q := hf.hil; rw [z, hf.hins] at q; cases q
  have m1 : ∀ {H' : Hp}, But [n] H H' → But [n, p, ac] H H' := fun b => b.mono fun x hx => by simp only [List.mem_singleton] at hx; simp [hx]
  have m3 : ∀ {H' : Hp}, But [n, p, ac] H H' → But [n, p, ac, il] H H' := fun b => b.mono fun x hx => by simp only [List.mem_cons, List.not_mem_nil, or_false] at hx ⊢; rcases hx with h | h | h <;> simp [h]
  -- the end of all three
  have fin : ∀ (f1 : Fr) (d : Nat) (dep : Int) (i1 : Nat) (H1 : Hp) (as1 : List V) (x4 : Option V), f.pre (l.drop i) = some ((f1, d), l.drop i1) → (400 < dep ↔ d = 0) → (∀ d', d = d' + 1 → dep = 400 - (d' : Nat)) → i ≤ i1 → i1 ≤ l.length → FrAt K H1 f1 p dx pa ac il as1 ks → NumAt K H1 n a i1 → But [n, p, ac] H H1 → (∀ {x : Addr}, H1 x = none → H x = none) →
      (tSeq (tAsg (tMake (He.ga K "Pact") (spPactInit K) [] E (tCons (tVar 1) (tCons (tVar 2) tNil))) (gName 3)) (tSeq (tDrop (tBM K "list" rAppend (tFld K (tVar 0) "inner") (tCons (tVar 3) tNil))) (tRet (tVar 3)))) { nx := fun _ H' => Q .non H', rt := Q } [some (.ref p), some (.ref n), some (.int dep), none, x4] H1 := by
    intro f1 d dep i1 H1 as1 x4 pe dz ds hi1 hl1 hf1 hn1 b1 nf
    obtain ⟨_, _, _, _, _, g6, _⟩ := p_fd T hf1.hins
    refine next_tail T (a := a) (l := l) g6 pn hf1.hil k100 hn1 (hS H1 (m3 b1)) hl1 (fun e H' i' h b => ?_) fun hd r c e H' i2 q dq pa' ac' il' vs h1 h2 h3 h4 h5 h6 h7 h8 h9 h10 h11 h12 h13 h14 h15 h16 h17 h18 => ?_
    · refine qE ?_ H' i' h (b1.trans (b.mono fun x hx => by simp only [List.mem_singleton] at hx; simp [hx]))
      cases d with
      | zero => exact .inr (.inl ⟨f1, _, pe⟩)
      | succ d =>
        rcases e with e | e
        · have := dz.mp e; omega
        · exact .inr (.inr ⟨f1, d, _, pe, e⟩)
    · cases d with
      | zero => have := dz.mpr rfl; omega
      | succ d =>
        have de := ds d rfl
        obtain ⟨dn', en'⟩ := id h4
        have ilq : il ≠ q := fun z => by rw [z, h6] at h18; cases h18
        have ilac : ac' ≠ il := fun z => by have := hf1.hil; rw [← z, h9] at this; cases this
        have ilil : il' ≠ il := fun z => by have := hf1.hil; rw [← z, h10] at this; cases this
        have ilpa : pa' ≠ il := fun z => by have := hf1.hil; rw [← z, h8] at this; cases this
        have pe' := h5 _ _ hf1.hins np
        have ace' := h5 _ _ hf1.hac acn
        have t5 : TupK H1 H' := h5.tup hn1.ntup
        have t6 : TupK H' (upd H' il (.lst (ks ++ [V.ref q]))) := fun b xs e => by rw [upd_ne (fun z => by rw [z, h18] at e; cases e)]; exact e
        refine qQ f1 d i1 hd r pe e hi1 _ i2 q dq pa' ac' il' vs as1 h1 h2 h3 ⟨dn', by rw [upd_ne (fun z => iln (by rw [z]; simp))]; exact en'⟩ ?_ ⟨(upd_ne (Ne.symm ilp)).trans pe', (upd_ne hf.acil).trans ace', upd_same, hf.acil, hf1.acts.imp fun _ _ q => (q.mono t5).mono t6⟩
          ⟨(upd_ne (Ne.symm ilq)).trans (by rw [de] at h6; exact h6), (upd_ne ilac).trans h16, (upd_ne ilil).trans h17, h13, trivial⟩ ((upd_ne ilpa).trans h14) (h15.mono t6) (nf h7) (nf h8) (nf h9) (nf h10) h11 h12
        exact ((m3 b1).trans (h5.mono fun x hx => by simp only [List.mem_singleton] at hx; simp [hx])).put (by simp)
  unfold t_Pact_next_inner
  repeat walk_at "s1"
  by_cases w3 : f.hd.w = 3
  · obtain ⟨m, hm⟩ := w_wait w3
    rw [decide_eq_true w3]
    refine iteT ?_
    have hil : SqL K H il ks := .inl (.inl hf.hil)
    repeat walk_at "s1"
    have cm : (f.hd.count : Nat) = m + 1 := by rw [hm]; rfl
    by_cases c : f.inn.length < m
    · rw [decide_eq_true (by rw [cm, kl]; omega)]
      refine iteT ?_
      repeat walk_at "s1"
      have hac : SqL K H ac as := .inl (.inl hf.hac)
      refine ⟨ty_list hac, ?_⟩
      repeat walk_at "s1"
      refine k_methK e0 rfl ?_
      repeat walk_at "s1"
      refine ⟨n, rfl, rd_call (Cur.start hn hs hl) (fun e H' i' h' b' => qE (.inl (by rw [pre_wait1 hm c, e]; rfl)) H' i' h' (m1 b')) fun x i1 v H1 e1 hi1 c1 b1 rep => ?_⟩
      have pe : f.pre (l.drop i) = some (({ f with acts := f.acts ++ [x] }, f.n - 1 - f.inn.length), l.drop i1) := by rw [pre_wait1 hm c, e1]; rfl
      have fr1 : FrAt K H1 f p dx pa ac il as ks := hf.mono b1 ((Cur.start hn hs hl).tup b1) np acn iln
      repeat walk_at "s1"
      refine k_app fr1.hac (by rw [sizeLine_eq]; omega) ?_
      have b2 : But [n, p, ac] H (upd H1 ac (.lst (as ++ [v]))) := (m1 b1).put (by simp)
      have t2 : TupK H1 (upd H1 ac (.lst (as ++ [v]))) := fun b xs e => by rw [upd_ne (fun z => by rw [z, fr1.hac] at e; cases e)]; exact e
      have n2 : NumAt K (upd H1 ac (.lst (as ++ [v]))) n a i1 := by
        obtain ⟨q, e⟩ := c1.num
        exact ⟨q, by rw [upd_ne (fun z => acn (by rw [z]; simp))]; exact e⟩
      have fr2 : FrAt K (upd H1 ac (.lst (as ++ [v]))) { f with acts := f.acts ++ [x] } p dx pa ac il (as ++ [v]) ks :=
        ⟨(upd_ne (Ne.symm acp)).trans fr1.hins, upd_same, (upd_ne (Ne.symm hf.acil)).trans fr1.hil, hf.acil, (fr1.acts.imp fun _ _ q => q.mono t2).snoc (rep.mono t2)⟩
      have nf2 : ∀ {x : Addr}, upd H1 ac (.lst (as ++ [v])) x = none → H x = none := fun {x} e => by
        have x1 : x ≠ ac := fun z => by rw [z, upd_same] at e; cases e
        rw [upd_ne x1] at e
        exact b1.free e (by simp; intro z; obtain ⟨_, q⟩ := c1.num; rw [z, q] at e; cases e)
      generalize upd H1 ac (.lst (as ++ [v])) = H2 at b2 n2 fr2 nf2 ⊢
      obtain ⟨g1, g2, _⟩ := p_fd T fr2.hins
      repeat walk_at "s1"
      obtain ⟨v1, g1, v2, g2, q⟩ := fin _ _ (400 - (f.n : Int) + (ks.length : Nat) + 2) i1 H2 _ (some (.int (ks.length : Nat))) pe (by rw [kl]; omega) (fun d' hd' => by rw [kl]; omega) hi1 c1.le fr2 n2 b2 nf2
      cases g1
      cases g2
      exact q
    · rw [decide_eq_false (by rw [cm, kl]; omega)]
      refine iteF ?_
      repeat walk_at "s1"
      refine k_methK e0 rfl ?_
      repeat walk_at "s1"
      refine one_num (rd_call (Cur.start hn hs hl) (fun e H' i' h' b' => qE (.inl (by rw [pre_wait2 hm c]; show (Sg49.num 0 1099511627776 _).map _ = _; rw [e]; rfl)) H' i' h' (m1 b')) fun z i1 v H1 e1 hi1 c1 b1 rep => ?_)
      obtain rfl : v = .int z := rep
      have pe : f.pre (l.drop i) = some (({ f with tm := z }, f.n), l.drop i1) := by rw [pre_wait2 hm c]; show (Sg49.num 0 1099511627776 _).map _ = _; rw [e1]; rfl
      have fr1 : FrAt K H1 f p dx pa ac il as ks := hf.mono b1 ((Cur.start hn hs hl).tup b1) np acn iln
      repeat walk_at "s1"
      refine k_setK (fs' := pF (.int (400 - (f.n : Nat))) (.int (f.s : Nat)) (.int 0) (.int f.hd.w) (.ref pa) (.ref ac) (.int z) (.ref il) (.int (f.hd.count : Nat)) (.int 0) (.int 0)) fr1.hins T.c_Pact T.n_Pact_time rfl ?_
      have b2 : But [n, p, ac] H (upd H1 p (.ins (CP K) dx (pF (.int (400 - (f.n : Nat))) (.int (f.s : Nat)) (.int 0) (.int f.hd.w) (.ref pa) (.ref ac) (.int z) (.ref il) (.int (f.hd.count : Nat)) (.int 0) (.int 0)))) := (m1 b1).put (by simp)
      have t2 : TupK H1 (upd H1 p (.ins (CP K) dx (pF (.int (400 - (f.n : Nat))) (.int (f.s : Nat)) (.int 0) (.int f.hd.w) (.ref pa) (.ref ac) (.int z) (.ref il) (.int (f.hd.count : Nat)) (.int 0) (.int 0)))) := fun b xs e => by rw [upd_ne (fun z => by rw [z, fr1.hins] at e; cases e)]; exact e
      have n2 : NumAt K (upd H1 p (.ins (CP K) dx (pF (.int (400 - (f.n : Nat))) (.int (f.s : Nat)) (.int 0) (.int f.hd.w) (.ref pa) (.ref ac) (.int z) (.ref il) (.int (f.hd.count : Nat)) (.int 0) (.int 0)))) n a i1 := by
        obtain ⟨q, e⟩ := c1.num
        exact ⟨q, by rw [upd_ne (Ne.symm pn)]; exact e⟩
      have fr2 : FrAt K (upd H1 p (.ins (CP K) dx (pF (.int (400 - (f.n : Nat))) (.int (f.s : Nat)) (.int 0) (.int f.hd.w) (.ref pa) (.ref ac) (.int z) (.ref il) (.int (f.hd.count : Nat)) (.int 0) (.int 0)))) { f with tm := z } p dx pa ac il as ks :=
        ⟨upd_same, (upd_ne acp).trans fr1.hac, (upd_ne ilp).trans fr1.hil, hf.acil, fr1.acts.imp fun _ _ q => q.mono t2⟩
      have nf2 : ∀ {x : Addr}, upd H1 p (.ins (CP K) dx (pF (.int (400 - (f.n : Nat))) (.int (f.s : Nat)) (.int 0) (.int f.hd.w) (.ref pa) (.ref ac) (.int z) (.ref il) (.int (f.hd.count : Nat)) (.int 0) (.int 0))) x = none → H x = none := fun {x} e => by
        have x1 : x ≠ p := fun z => by rw [z, upd_same] at e; cases e
        rw [upd_ne x1] at e
        exact b1.free e (by simp; intro z; obtain ⟨_, q⟩ := c1.num; rw [z, q] at e; cases e)
      generalize upd H1 p (.ins (CP K) dx (pF (.int (400 - (f.n : Nat))) (.int (f.s : Nat)) (.int 0) (.int f.hd.w) (.ref pa) (.ref ac) (.int z) (.ref il) (.int (f.hd.count : Nat)) (.int 0) (.int 0))) = H2 at b2 n2 fr2 nf2 ⊢
      exact fin _ _ _ i1 H2 _ _ pe (by omega) (fun d' hd' => by omega) hi1 c1.le fr2 n2 b2 nf2
  · rw [decide_eq_false w3]
    refine iteF ?_
    repeat walk_at "s1"
    obtain ⟨v1, g1, v2, g2, q⟩ := fin f f.n (400 - (f.n : Int) + 1) i H as none (pre_else w3) (by omega) (fun d' hd' => by omega) (Nat.le_refl _) hl hf hn (But.refl H) (fun e => e)
    cases g1
    cases g2
    exact q
end
end SP
set_option maxHeartbeats 2000000
namespace SP
open PySem PySem.Spec PyProof.Rows L2
/-- one step of a reading where nothing is asked -/
local macro_rules | `(tactic| walk_at "s1") => `(tactic| with_reducible first
  | refine k_seq ?_ | refine k_asg ?_ | refine k_if ?_ | refine k_ret ?_ | refine k_set ?_ | refine k_drop ?_ | refine k_next ?_ | refine k_retN ?_
  | refine k_var rfl ?_ | refine k_c ?_ | refine k_fld ?_ | refine k_fldK (by assumption) ?_ | refine k_op ?_ | refine k_plus ?_ | refine k_minus ?_ | refine k_cons ?_ | refine k_nil ?_ | refine k_name ?_
  | refine k_cmp ?_ | refine k_cmpK ?_ | refine k_B ?_ | refine k_blK ?_ | refine k_test ?_ | refine k_meth ?_ | refine k_call ?_ | refine k_CB ?_ | refine k_len (by assumption) ?_
  | refine k_ixT (by assumption) rfl ?_ | refine k_and ?_ | refine k_or ?_ | refine k_not ?_ | refine k_andV ?_ | refine k_orV ?_ | refine k_notV ?_ | refine k_ife ?_ | refine k_chain ?_ | refine k_tup ?_ | refine k_lst ?_
  | refine k_less ?_ | refine k_leq ?_ | refine k_un ?_ | refine k_neg ?_ | refine k_isN ?_ | refine k_notN ?_ | refine k_max ?_ | refine k_min ?_ | refine k_abs ?_ | refine k_bm ?_ | refine k_make ?_ | refine k_app (by assumption) (by assumption) ?_)
section
variable {K : PySem.W.Frag} {mg : Str → Option Value}
local macro_rules | `(tactic| walk_at "s2") => `(tactic| first | walk_at "s1" | refine iteT ?_ | refine iteF ?_)
variable {H0 H : Hp} {n a : Addr} {l : List Int} {i : Nat} {Q : VK} {E : XK}
/-- a list made of another, one by one -/
theorem lc_map {xs ys : List V} {p D : Addr} {j : Nat} {te : TE} {σ : L2.St} {H1 : Hp} {Qd : Hp → Prop} (hs : SqL K H1 p xs) (hl : xs.length = ys.length) (hz : xs.length < 16777216) (hD : H1 D = none) (hw : ∀ x, wipe ((wipe σ [j]).set j (some x)) [j] = wipe σ [j])
    (he : ∀ (i : Nat) (x y : V) (w : List V), xs[i]? = some x → ys[i]? = some y → ∀ R : VK, R y (upd H1 D (.lst w)) → te ((wipe σ [j]).set j (some x)) (upd H1 D (.lst w)) R) (q : Qd (upd H1 D (.lst ys))) :
    ∃ W : Nat → Nat → Hp → Prop, (∃ m, W 0 m (upd H1 D (.lst []))) ∧ ∀ i m H, W i m H →
      ((Itl K p).stop i H ∧ Qd H) ∨ ((Itl K p).go i H ∧ ∃ Nx : Hp → Prop, (∀ H', Nx H' → ∃ m', m' < m ∧ W (i + 1) m' H') ∧ ∀ x H', (Itl K p).yld i H x H' → gName j x (wipe σ [j]) H' fun σ2 H2 => wipe σ2 [j] = wipe σ [j] ∧ tYes σ2 H2 fun b H3 =>
        if b = true then te σ2 H3 fun y H4 => ∃ acc, H4 D = some (.lst acc) ∧ acc.length < sizeLine ∧ Nx (upd H4 D (.lst (acc ++ [y]))) else Nx H3) := by
  refine lc_list (xs := xs) (fun i H => H = upd H1 D (.lst (ys.take i))) rfl (fun i H _ e => ?_) (fun i x H hx e => ?_) (fun H e => ?_)
  · rw [e]
    exact ((But.refl (M := []) H1).newer hD).seqL hs (by simp)
  · subst e
    have hi : i < xs.length := by
      by_cases c : i < xs.length
      · exact c
      · rw [List.getElem?_eq_none (by omega)] at hx; cases hx
    have hy : ys[i]? = some ys[i] := List.getElem?_eq_getElem (by omega)
    refine ⟨hw x, ?_⟩
    refine he i x _ _ hx hy _ ⟨ys.take i, upd_same, by rw [List.length_take, sizeLine_eq]; omega, ?_⟩
    show upd (upd H1 D _) D _ = _
    rw [upd_upd, List.take_add_one, hy]
    rfl
  · rw [hl, List.take_length] at e
    subst e
    exact q
theorem max_top {m : Int} {ns : List Int} {p : Addr} {H : Hp} {Q : VK} (t : Top m ns) (h : H p = some (.lst (ns.map V.int))) (q : Q (.int m) H) : rMax K [.ref p] H Q :=
  ⟨p, ns, rfl, .inl (.inl h), List.length_pos_of_mem t.1, fun m' h1 h2 => by
    have : m' = m := Int.le_antisymm (t.2 _ h1) (h2 _ t.1)
    rw [this]; exact q⟩
/-- an inner one's number -/
def KidF (K : PySem.W.Frag) (H : Hp) (p : Addr) (f : Str) : List V → List Int → Prop := All2 fun v x => ∃ q, v = .ref q ∧ Fd K H q f (.int x) ∧ q ≠ p
theorem KidF.but {H H' : Hp} {p : Addr} {f : Str} {ks : List V} {ls : List Int} (h : KidF K H p f ks ls) (b : But [p] H H') : KidF K H' p f ks ls := All2.imp (fun v x ⟨q, e, fd, n⟩ => ⟨q, e, fd.but b (by simp; exact n), n⟩) h
def stepsW (w : Int) (gs : List Int) : List Int := if w = 3 then (gs.take (gs.length - 1)).map (· + 1) ++ gs.drop (gs.length - 1) else gs
/-- an agreement whose inner ones are all there -/
def spComplete (K : PySem.W.Frag) : Sp := fun vs H Q _ => ∃ (p dx pa ac il : Addr) (d s : V) (w tm e : Int) (cnt : V) (ks : List V) (ls gs : List Int) (m1 m2 : Int), vs = [.ref p, .int e] ∧
  H p = some (.ins (CP K) dx (pF d s (.int 0) (.int w) (.ref pa) (.ref ac) (.int tm) (.ref il) cnt (.int 0) (.int 0))) ∧ H il = some (.lst ks) ∧ ks.length < 100 ∧ (w = 3 → 0 < ks.length) ∧ KidF K H p "last_time" ks ls ∧ KidF K H p "inputs" ks gs ∧ Top m1 (tm :: ls) ∧ Top m2 (0 :: stepsW w gs) ∧
  (∀ H', But [p] H H' → H' p = some (.ins (CP K) dx (pF d s (.int e) (.int w) (.ref pa) (.ref ac) (.int tm) (.ref il) cnt (.int m1) (.int m2))) → Q .non H')
theorem KidF.fld (f : Str) {H : Hp} {p : Addr} {ks : List V} {ls : List Int} (h : KidF K H p f ks ls) {j : Nat} {σ : L2.St} {D : Addr} (hD : H D = none) (hj : ∀ x, ((wipe σ [j]).set j (some x))[j]? = some (some x)) :
    ∀ (i : Nat) (x y : V) (w : List V), ks[i]? = some x → (ls.map V.int)[i]? = some y → ∀ R : VK, R y (upd H D (.lst w)) → tFld K (tVar j) f ((wipe σ [j]).set j (some x)) (upd H D (.lst w)) R := fun i x y w h1 h2 R r => by
  obtain ⟨z, h3, q, rfl, fd, _⟩ := All2.get h h1
  rw [List.getElem?_map, h3] at h2
  cases h2
  exact ⟨_, hj _, k_fldK (fd.but ((But.refl (M := []) H).newer hD) (by simp)) r⟩
theorem pure_Pact_complete (T : Tx K mg) (vs : List V) (H : Hp) (Q : VK) (E : XK) (h : spComplete K vs H Q E) : t_Pact_complete K E { nx := fun _ H' => Q .non H', rt := Q } (start N_Pact_complete vs) H := by
  obtain ⟨p, dx, pa, ac, il, d, s, w, tm, e, cnt, ks, ls, gs, m1, m2, rfl, hp, hil, k100, kw, kl, kg, t1, t2, q⟩ := h
  have ilp : il ≠ p := fun z => by rw [z, hp] at hil; cases hil
  have lg : gs.length = ks.length := (All2.len kg).symm
  have ll : ks.length = ls.length := All2.len kl
  unfold t_Pact_complete
  repeat walk_at "s1"
  refine k_setK (fs' := pF d s (.int e) (.int w) (.ref pa) (.ref ac) (.int tm) (.ref il) cnt (.int 0) (.int 0)) hp T.c_Pact T.n_Pact_end rfl ?_
  have b1 : But [p] H (upd H p (.ins (CP K) dx (pF d s (.int e) (.int w) (.ref pa) (.ref ac) (.int tm) (.ref il) cnt (.int 0) (.int 0)))) := (But.refl H).put (by simp)
  have hp1 : upd H p (.ins (CP K) dx (pF d s (.int e) (.int w) (.ref pa) (.ref ac) (.int tm) (.ref il) cnt (.int 0) (.int 0))) p = _ := upd_same
  have kl1 := kl.but b1
  have kg1 := kg.but b1
  have hil1 := b1 _ _ hil (by simp; exact ilp)
  generalize upd H p (.ins (CP K) dx (pF d s (.int e) (.int w) (.ref pa) (.ref ac) (.int tm) (.ref il) cnt (.int 0) (.int 0))) = H1 at b1 hp1 kl1 kg1 hil1 ⊢
  obtain ⟨_, f2, _, _, f5, f6, _⟩ := p_fd T hp1
  repeat walk_at "s1"
  refine ⟨small, fun c hc => ?_⟩
  have ne0 : ∀ {H' : Hp} {x y : Addr} {o : HO}, H' x = some o → H' y = none → y ≠ x := fun h1 h2 z => by rw [z, h1] at h2; cases h2
  have b2 : But [p] H (upd H1 c (.lst [.int tm])) := b1.newer hc
  have B2 : But [] H1 (upd H1 c (.lst [.int tm])) := (But.refl H1).newer hc
  have hp2 := B2 _ _ hp1 (by simp)
  have hil2 := B2 _ _ hil1 (by simp)
  have kl2 := kl1.but (B2.mono (M' := [p]) (by simp))
  have kg2 := kg1.but (B2.mono (M' := [p]) (by simp))
  have hc2 : upd H1 c (.lst [.int tm]) c = some (.lst [.int tm]) := upd_same
  generalize upd H1 c (.lst [.int tm]) = H2 at b2 B2 hp2 hil2 kl2 kg2 hc2 ⊢
  obtain ⟨_, g2, _, _, g5, g6, _⟩ := p_fd T hp2
  unfold tLc iList
  repeat walk_at "s1"
  refine ⟨il, rfl, ⟨ks, .inl (.inl hil2)⟩, fun D hD => ?_⟩
  refine lc_map (ys := ls.map V.int) (.inl (.inl hil2)) (by rw [List.length_map]; exact ll) (by omega) hD (fun _ => rfl) (kl2.fld "last_time" hD fun _ => rfl) ?_
  have b3 : But [p] H (upd H2 D (.lst (ls.map V.int))) := b2.newer hD
  have B3 : But [] H2 (upd H2 D (.lst (ls.map V.int))) := (But.refl H2).newer hD
  have hp3 := B3 _ _ hp2 (by simp)
  have hil3 := B3 _ _ hil2 (by simp)
  have kg3 := kg2.but (B3.mono (M' := [p]) (by simp))
  have hc3 := B3 _ _ hc2 (by simp)
  have hD3 : upd H2 D (.lst (ls.map V.int)) D = some (.lst (ls.map V.int)) := upd_same
  generalize upd H2 D (.lst (ls.map V.int)) = H3 at b3 B3 hp3 hil3 kg3 hc3 hD3 ⊢
  refine ⟨c, D, _, _, rfl, rfl, hc3, hD3, by rw [List.length_map, sizeLine_eq]; show 1 + _ ≤ _; omega, fun r hr => ?_⟩
  have b4 : But [p] H (upd H3 r (.lst ([.int tm] ++ ls.map V.int))) := b3.newer hr
  have B4 : But [] H3 (upd H3 r (.lst ([.int tm] ++ ls.map V.int))) := (But.refl H3).newer hr
  have hp4 := B4 _ _ hp3 (by simp)
  have hil4 := B4 _ _ hil3 (by simp)
  have kg4 := kg3.but (B4.mono (M' := [p]) (by simp))
  have hr4 : upd H3 r (.lst ([.int tm] ++ ls.map V.int)) r = some (.lst ((tm :: ls).map V.int)) := upd_same
  generalize upd H3 r (.lst ([.int tm] ++ ls.map V.int)) = H4 at b4 B4 hp4 hil4 kg4 hr4 ⊢
  repeat walk_at "s1"
  refine max_top t1 hr4 ?_
  repeat walk_at "s1"
  refine k_setK (fs' := pF d s (.int e) (.int w) (.ref pa) (.ref ac) (.int tm) (.ref il) cnt (.int m1) (.int 0)) hp4 T.c_Pact T.n_Pact_last_time rfl ?_
  have b5 : But [p] H (upd H4 p (.ins (CP K) dx (pF d s (.int e) (.int w) (.ref pa) (.ref ac) (.int tm) (.ref il) cnt (.int m1) (.int 0)))) := b4.put (by simp)
  have B5 : But [p] H4 (upd H4 p (.ins (CP K) dx (pF d s (.int e) (.int w) (.ref pa) (.ref ac) (.int tm) (.ref il) cnt (.int m1) (.int 0)))) := (But.refl H4).put (by simp)
  have hp5 : upd H4 p (.ins (CP K) dx (pF d s (.int e) (.int w) (.ref pa) (.ref ac) (.int tm) (.ref il) cnt (.int m1) (.int 0))) p = _ := upd_same
  have hil5 := B5 _ _ hil4 (by simp; exact ilp)
  have kg5 := kg4.but B5
  generalize upd H4 p (.ins (CP K) dx (pF d s (.int e) (.int w) (.ref pa) (.ref ac) (.int tm) (.ref il) cnt (.int m1) (.int 0))) = H5 at b5 B5 hp5 hil5 kg5 ⊢
  obtain ⟨_, g2, _, _, g5, g6, _⟩ := p_fd T hp5
  repeat walk_at "s1"
  refine ⟨il, rfl, ⟨ks, .inl (.inl hil5)⟩, fun D hD => ?_⟩
  refine lc_map (ys := gs.map V.int) (.inl (.inl hil5)) (by rw [List.length_map]; omega) (by omega) hD (fun _ => rfl) (kg5.fld "inputs" hD fun _ => rfl) ?_
  have b6 : But [p] H (upd H5 D (.lst (gs.map V.int))) := b5.newer hD
  have B6 : But [] H5 (upd H5 D (.lst (gs.map V.int))) := (But.refl H5).newer hD
  have hp6 := B6 _ _ hp5 (by simp)
  have hD6 : upd H5 D (.lst (gs.map V.int)) D = some (.lst (gs.map V.int)) := upd_same
  generalize upd H5 D (.lst (gs.map V.int)) = H6 at b6 B6 hp6 hD6 ⊢
  obtain ⟨_, f2, _⟩ := p_fd T hp6
  repeat walk_at "s1"
  -- the end
  have fin : ∀ (H7 : Hp) (D : Addr) (σ : L2.St), σ[0]? = some (some (.ref p)) → σ[2]? = some (some (.ref D)) → But [p] H H7 → H7 p = some (.ins (CP K) dx (pF d s (.int e) (.int w) (.ref pa) (.ref ac) (.int tm) (.ref il) cnt (.int m1) (.int 0))) → H7 D = some (.lst ((stepsW w gs).map V.int)) →
      (sFld K (tVar 0) (tCB (rMax K) (tCons (tOp rCat (tLst (tCons (tC (.int 0)) tNil)) (tVar 2)) tNil)) "inputs") { nx := fun _ H' => Q .non H', rt := Q } σ H7 := by
    intro H7 D σ s0 s2 b7 hp7 hD7
    refine k_set (k_CB (k_cons (k_op (k_lst (k_cons (k_c (k_nil ⟨small, fun c hc => k_var s2 ?_⟩)))))))
    have b8 : But [p] H (upd H7 c (.lst [.int 0])) := b7.newer hc
    have B8 : But [] H7 (upd H7 c (.lst [.int 0])) := (But.refl H7).newer hc
    have hp8 := B8 _ _ hp7 (by simp)
    have hD8 := B8 _ _ hD7 (by simp)
    have hc8 : upd H7 c (.lst [.int 0]) c = some (.lst [.int 0]) := upd_same
    generalize upd H7 c (.lst [.int 0]) = H8 at b8 B8 hp8 hD8 hc8 ⊢
    have lst : (stepsW w gs).length ≤ gs.length := by
      unfold stepsW
      by_cases c : w = 3
      · rw [if_pos c, List.length_append, List.length_map, List.length_take, List.length_drop]; omega
      · rw [if_neg c]; exact Nat.le_refl _
    refine ⟨c, D, _, _, rfl, rfl, hc8, hD8, by rw [List.length_map, sizeLine_eq]; show 1 + _ ≤ _; omega, fun r hr => k_nil ?_⟩
    have b9 : But [p] H (upd H8 r (.lst ([.int 0] ++ (stepsW w gs).map V.int))) := b8.newer hr
    have B9 : But [] H8 (upd H8 r (.lst ([.int 0] ++ (stepsW w gs).map V.int))) := (But.refl H8).newer hr
    have hp9 := B9 _ _ hp8 (by simp)
    have hr9 : upd H8 r (.lst ([.int 0] ++ (stepsW w gs).map V.int)) r = some (.lst ((0 :: stepsW w gs).map V.int)) := upd_same
    refine max_top t2 hr9 (k_var s0 ?_)
    exact k_setK (fs' := pF d s (.int e) (.int w) (.ref pa) (.ref ac) (.int tm) (.ref il) cnt (.int m1) (.int m2)) hp9 T.c_Pact T.n_Pact_inputs rfl (q _ (b9.put (by simp)) upd_same)
  by_cases w3 : w = 3
  · have kpos := kw w3
    rw [decide_eq_true w3]
    refine iteT ?_
    repeat walk_at "s1"
    unfold tSl tPart tNoPart
    repeat walk_at "s1"
    refine ⟨_, rfl, ?_⟩
    refine ⟨D, gs.map V.int, rfl, .inl (.inl hD6), fun c hc => ?_⟩
    have e1 : cutV (gs.map V.int) none (some (-1)) = (gs.take (gs.length - 1)).map V.int := by
      unfold cutV
      have e2 : HT.sIx (gs.map V.int).length (gs.map V.int).length (some (-1)) = gs.length - 1 := by
        show (if (-1 : Int) < 0 then (-1 + ((gs.map V.int).length : Int)).toNat else min (-1 : Int).toNat (gs.map V.int).length) = _
        rw [if_pos (by omega), List.length_map]; omega
      rw [e2]
      show ((gs.map V.int).drop 0).take (gs.length - 1 - 0) = _
      rw [List.drop_zero, Nat.sub_zero, List.map_take]
    rw [e1]
    have b7 : But [p] H (upd H6 c (.lst ((gs.take (gs.length - 1)).map V.int))) := b6.newer hc
    have B7 : But [] H6 (upd H6 c (.lst ((gs.take (gs.length - 1)).map V.int))) := (But.refl H6).newer hc
    have hp7 := B7 _ _ hp6 (by simp)
    have hD7 := B7 _ _ hD6 (by simp)
    have hc7 : upd H6 c (.lst ((gs.take (gs.length - 1)).map V.int)) c = some (.lst ((gs.take (gs.length - 1)).map V.int)) := upd_same
    generalize upd H6 c (.lst ((gs.take (gs.length - 1)).map V.int)) = H7 at b7 B7 hp7 hD7 hc7 ⊢
    refine ⟨c, rfl, ⟨_, .inl (.inl hc7)⟩, fun D2 hD2 => ?_⟩
    refine lc_map (ys := ((gs.take (gs.length - 1)).map (· + 1)).map V.int) (.inl (.inl hc7)) (by simp) (by rw [List.length_map, List.length_take]; omega) hD2 (fun _ => rfl) (fun i x y w' h1 h2 R r => ?_) ?_
    · rw [List.getElem?_map] at h1
      rw [List.getElem?_map, List.getElem?_map] at h2
      cases h3 : (gs.take (gs.length - 1))[i]? with
      | none => rw [h3] at h1; cases h1
      | some z =>
        rw [h3] at h1 h2
        cases h1
        cases h2
        exact k_op (k_var rfl (k_c (k_plus r)))
    have b8 : But [p] H (upd H7 D2 (.lst (((gs.take (gs.length - 1)).map (· + 1)).map V.int))) := b7.newer hD2
    have B8 : But [] H7 (upd H7 D2 (.lst (((gs.take (gs.length - 1)).map (· + 1)).map V.int))) := (But.refl H7).newer hD2
    have hp8 := B8 _ _ hp7 (by simp)
    have hD8 := B8 _ _ hD7 (by simp)
    have hE8 : upd H7 D2 (.lst (((gs.take (gs.length - 1)).map (· + 1)).map V.int)) D2 = _ := upd_same
    generalize upd H7 D2 (.lst (((gs.take (gs.length - 1)).map (· + 1)).map V.int)) = H8 at b8 B8 hp8 hD8 hE8 ⊢
    repeat walk_at "s1"
    refine ⟨_, rfl, D, gs.map V.int, rfl, .inl (.inl hD8), fun c2 hc2 => ?_⟩
    have e3 : cutV (gs.map V.int) (some (-1)) none = (gs.drop (gs.length - 1)).map V.int := by
      unfold cutV
      have e2 : HT.sIx (gs.map V.int).length 0 (some (-1)) = gs.length - 1 := by
        show (if (-1 : Int) < 0 then (-1 + ((gs.map V.int).length : Int)).toNat else min (-1 : Int).toNat (gs.map V.int).length) = _
        rw [if_pos (by omega), List.length_map]; omega
      rw [e2]
      show ((gs.map V.int).drop (gs.length - 1)).take ((gs.map V.int).length - (gs.length - 1)) = _
      rw [List.take_of_length_le (by rw [List.length_drop]; exact Nat.le_refl _), List.map_drop]
    rw [e3]
    have b9 : But [p] H (upd H8 c2 (.lst ((gs.drop (gs.length - 1)).map V.int))) := b8.newer hc2
    have B9 : But [] H8 (upd H8 c2 (.lst ((gs.drop (gs.length - 1)).map V.int))) := (But.refl H8).newer hc2
    have hp9 := B9 _ _ hp8 (by simp)
    have hE9 := B9 _ _ hE8 (by simp)
    have hc9 : upd H8 c2 (.lst ((gs.drop (gs.length - 1)).map V.int)) c2 = _ := upd_same
    generalize upd H8 c2 (.lst ((gs.drop (gs.length - 1)).map V.int)) = H9 at b9 B9 hp9 hE9 hc9 ⊢
    refine ⟨D2, c2, _, _, rfl, rfl, hE9, hc9, by rw [List.length_map, List.length_map, List.length_map, List.length_take, List.length_drop, sizeLine_eq]; omega, fun r hr => ?_⟩
    repeat walk_at "s1"
    refine fin _ r _ rfl rfl (b9.newer hr) (((But.refl (M := []) H9).newer hr) _ _ hp9 (by simp)) ?_
    rw [upd_same]
    unfold stepsW
    rw [if_pos w3, List.map_append]
  · rw [decide_eq_false w3]
    refine iteF ?_
    repeat walk_at "s1"
    refine fin _ D _ rfl rfl b6 hp6 ?_
    unfold stepsW
    rw [if_neg w3]
    exact hD6
end
end SP
set_option maxHeartbeats 2000000
namespace SP
open PySem PySem.Spec PyProof.Rows L2
/-- one step of a reading where nothing is asked -/
local macro_rules | `(tactic| walk_at "s1") => `(tactic| with_reducible first
  | refine k_seq ?_ | refine k_asg ?_ | refine k_if ?_ | refine k_ret ?_ | refine k_set ?_ | refine k_drop ?_ | refine k_next ?_ | refine k_retN ?_
  | refine k_var rfl ?_ | refine k_c ?_ | refine k_fld ?_ | refine k_fldK (by assumption) ?_ | refine k_op ?_ | refine k_plus ?_ | refine k_minus ?_ | refine k_cons ?_ | refine k_nil ?_ | refine k_name ?_
  | refine k_cmp ?_ | refine k_cmpK ?_ | refine k_B ?_ | refine k_blK ?_ | refine k_test ?_ | refine k_meth ?_ | refine k_call ?_ | refine k_CB ?_ | refine k_len (by assumption) ?_
  | refine k_ixT (by assumption) rfl ?_ | refine k_and ?_ | refine k_or ?_ | refine k_not ?_ | refine k_andV ?_ | refine k_orV ?_ | refine k_notV ?_ | refine k_ife ?_ | refine k_chain ?_ | refine k_tup ?_ | refine k_lst ?_
  | refine k_less ?_ | refine k_leq ?_ | refine k_un ?_ | refine k_neg ?_ | refine k_isN ?_ | refine k_notN ?_ | refine k_max ?_ | refine k_min ?_ | refine k_abs ?_ | refine k_bm ?_ | refine k_make ?_ | refine k_app (by assumption) (by assumption) ?_)
/-! ### agreements that are read stand still -/
section
variable {K : PySem.W.Frag} {mg : Str → Option Value}
def CoreAt (K : PySem.W.Frag) (G : Hp) (l : List Int) (c : Sg49.Contract) (p : Addr) (w tm : Int) (pa ac il : Addr) : Prop := ∃ (dx : Addr) (d cnt : V) (s e : Nat),
  G p = some (.ins (CP K) dx (pF d (.int (s : Nat)) (.int (e : Nat)) (.int w) (.ref pa) (.ref ac) (.int tm) (.ref il) cnt (.int c.last) (.int (c.long : Nat)))) ∧ s ≤ e ∧ e ≤ l.length ∧ (l.drop s).take (e - s) = c.code ∧ 0 ≤ c.last
mutual
/-- the agreement c stands at p -/
def PactAt (K : PySem.W.Frag) (G : Hp) (l : List Int) : Addr → Sg49.Contract → Prop
  | p, .close => ∃ pa ac il, CoreAt K G l .close p 0 0 pa ac il ∧ G ac = some (.lst [])
  | p, .pay a out b t x k => ∃ pa ac il v q, CoreAt K G l (.pay a out b t x k) p 1 0 pa ac il ∧ G pa = some (.lst [.int (a : Nat), .int (if out = true then 1 else 0), .int (b : Nat), .int (t : Nat), v]) ∧ a < 8 ∧ b < 8 ∧ t < 4 ∧ VAt G 40 v x ∧ G il = some (.lst [.ref q]) ∧ PactAt K G l q k
  | p, .cond o x y => ∃ pa ac il v q r, CoreAt K G l (.cond o x y) p 2 0 pa ac il ∧ G pa = some (.lst [v]) ∧ OAt G 40 v o ∧ G il = some (.lst [.ref q, .ref r]) ∧ PactAt K G l q x ∧ PactAt K G l r y
  | p, .when cs t k => ∃ pa ac il as ks q, CoreAt K G l (.when cs t k) p 3 t pa ac il ∧ G ac = some (.lst as) ∧ G il = some (.lst (ks ++ [.ref q])) ∧ CasesAt K G l as ks cs ∧ PactAt K G l q k
  | p, .let_ s x k => ∃ pa ac il v q, CoreAt K G l (.let_ s x k) p 4 0 pa ac il ∧ G pa = some (.lst [.int (s : Nat), v]) ∧ s < 16 ∧ VAt G 40 v x ∧ G il = some (.lst [.ref q]) ∧ PactAt K G l q k
  | p, .assert_ o k => ∃ pa ac il v q, CoreAt K G l (.assert_ o k) p 5 0 pa ac il ∧ G pa = some (.lst [v]) ∧ OAt G 40 v o ∧ G il = some (.lst [.ref q]) ∧ PactAt K G l q k
def CasesAt (K : PySem.W.Frag) (G : Hp) (l : List Int) : List V → List V → Sg49.Cases → Prop
  | [], [], .nil => True
  | a :: as, k :: ks, .cons x c r => AAt G a x ∧ (∃ q, k = .ref q ∧ PactAt K G l q c) ∧ CasesAt K G l as ks r
  | _, _, _ => False
end
theorem CoreAt.mono {G G' : Hp} {l : List Int} {c : Sg49.Contract} {p : Addr} {w tm : Int} {pa ac il : Addr} (h : CoreAt K G l c p w tm pa ac il) (s : Same G G') : CoreAt K G' l c p w tm pa ac il := by
  obtain ⟨dx, d, cnt, s0, e, h1, h2⟩ := h
  exact ⟨dx, d, cnt, s0, e, s _ _ h1, h2⟩
mutual
theorem PactAt.mono {G G' : Hp} {l : List Int} (s : Same G G') : ∀ (c : Sg49.Contract) (p : Addr), PactAt K G l p c → PactAt K G' l p c
  | .close, p, h => by
    unfold PactAt at h ⊢
    obtain ⟨pa, ac, il, h, h2⟩ := h
    exact ⟨pa, ac, il, h.mono s, s _ _ h2⟩
  | .pay a out b t x k, p, h => by
    unfold PactAt at h ⊢
    obtain ⟨pa, ac, il, v, q, h1, h2, r1, r2, r3, h3, h4, h5⟩ := h
    exact ⟨pa, ac, il, v, q, h1.mono s, s _ _ h2, r1, r2, r3, h3.mono (Same.tup s), s _ _ h4, PactAt.mono s k q h5⟩
  | .cond o x y, p, h => by
    unfold PactAt at h ⊢
    obtain ⟨pa, ac, il, v, q, r, h1, h2, h3, h4, h5, h6⟩ := h
    exact ⟨pa, ac, il, v, q, r, h1.mono s, s _ _ h2, h3.mono (Same.tup s), s _ _ h4, PactAt.mono s x q h5, PactAt.mono s y r h6⟩
  | .when cs t k, p, h => by
    unfold PactAt at h ⊢
    obtain ⟨pa, ac, il, as, ks, q, h1, h2, h3, h4, h5⟩ := h
    exact ⟨pa, ac, il, as, ks, q, h1.mono s, s _ _ h2, s _ _ h3, CasesAt.mono s cs as ks h4, PactAt.mono s k q h5⟩
  | .let_ n x k, p, h => by
    unfold PactAt at h ⊢
    obtain ⟨pa, ac, il, v, q, h1, h2, r1, h3, h4, h5⟩ := h
    exact ⟨pa, ac, il, v, q, h1.mono s, s _ _ h2, r1, h3.mono (Same.tup s), s _ _ h4, PactAt.mono s k q h5⟩
  | .assert_ o k, p, h => by
    unfold PactAt at h ⊢
    obtain ⟨pa, ac, il, v, q, h1, h2, h3, h4, h5⟩ := h
    exact ⟨pa, ac, il, v, q, h1.mono s, s _ _ h2, h3.mono (Same.tup s), s _ _ h4, PactAt.mono s k q h5⟩
theorem CasesAt.mono {G G' : Hp} {l : List Int} (s : Same G G') : ∀ (cs : Sg49.Cases) (as ks : List V), CasesAt K G l as ks cs → CasesAt K G' l as ks cs
  | .nil, [], [], _ => by unfold CasesAt; trivial
  | .cons x c r, a :: as, k :: ks, h => by
    unfold CasesAt at h ⊢
    obtain ⟨h1, ⟨q, e, h2⟩, h3⟩ := h
    exact ⟨h1.mono (Same.tup s), ⟨q, e, PactAt.mono s c q h2⟩, CasesAt.mono s r as ks h3⟩
  | .nil, _ :: _, [], h => by unfold CasesAt at h; exact False.elim h
  | .nil, _ :: _, _ :: _, h => by unfold CasesAt at h; exact False.elim h
  | .nil, [], _ :: _, h => by unfold CasesAt at h; exact False.elim h
  | .cons _ _ _, [], [], h => by unfold CasesAt at h; exact False.elim h
  | .cons _ _ _, [], _ :: _, h => by unfold CasesAt at h; exact False.elim h
  | .cons _ _ _, _ :: _, [], h => by unfold CasesAt at h; exact False.elim h
end
theorem PactAt.core {G : Hp} {l : List Int} {c : Sg49.Contract} {p : Addr} (h : PactAt K G l p c) : ∃ w tm pa ac il, CoreAt K G l c p w tm pa ac il := by
  cases c with
  | close => unfold PactAt at h; obtain ⟨pa, ac, il, h, _⟩ := h; exact ⟨_, _, _, _, _, h⟩
  | pay => unfold PactAt at h; obtain ⟨pa, ac, il, _, _, h, _⟩ := h; exact ⟨_, _, _, _, _, h⟩
  | cond => unfold PactAt at h; obtain ⟨pa, ac, il, _, _, _, h, _⟩ := h; exact ⟨_, _, _, _, _, h⟩
  | when => unfold PactAt at h; obtain ⟨pa, ac, il, _, _, _, h, _⟩ := h; exact ⟨_, _, _, _, _, h⟩
  | let_ => unfold PactAt at h; obtain ⟨pa, ac, il, _, _, h, _⟩ := h; exact ⟨_, _, _, _, _, h⟩
  | assert_ => unfold PactAt at h; obtain ⟨pa, ac, il, _, _, h, _⟩ := h; exact ⟨_, _, _, _, _, h⟩
theorem PactAt.kid {G H : Hp} {l : List Int} {c : Sg49.Contract} {q : Addr} (T : Tx K mg) (h : PactAt K G l q c) (s : Same G H) : Fd K H q "last_time" (.int c.last) ∧ Fd K H q "inputs" (.int (c.long : Nat)) ∧ 0 ≤ c.last ∧ G q ≠ none := by
  obtain ⟨w, tm, pa, ac, il, dx, d, cnt, s0, e, h1, h2, h3, h4, h5⟩ := h.core
  obtain ⟨_, _, _, _, _, _, _, f1, f2, _⟩ := p_fd T (s _ _ h1)
  exact ⟨f1, f2, h5, by rw [h1]; simp⟩
/-- its inner ones -/
def KidsAt (K : PySem.W.Frag) (G : Hp) (l : List Int) : List V → List Sg49.Contract → Prop := All2 fun v c => ∃ q, v = .ref q ∧ PactAt K G l q c
theorem KidsAt.mono {G G' : Hp} {l : List Int} (s : Same G G') {ks : List V} {cs : List Sg49.Contract} (h : KidsAt K G l ks cs) : KidsAt K G' l ks cs := All2.imp (fun v c ⟨q, e, p⟩ => ⟨q, e, p.mono s⟩) h
theorem All2.append {α β : Type} {R : α → β → Prop} : ∀ {as as' : List α} {bs bs' : List β}, All2 R as bs → All2 R as' bs' → All2 R (as ++ as') (bs ++ bs')
  | [], _, [], _, _, h => h
  | _ :: _, _, _ :: _, _, ⟨x, y⟩, h => ⟨x, All2.append y h⟩
  | [], _, _ :: _, _, h, _ => h.elim
  | _ :: _, _, [], _, h, _ => h.elim
theorem mkCases_at {G : Hp} {l : List Int} : ∀ {as ks : List V} {xs : List Sg49.Action} {cs : List Sg49.Contract}, All2 (AAt G) as xs → KidsAt K G l ks cs → xs.length = cs.length → CasesAt K G l as ks (mkCases xs cs)
  | [], [], [], [], _, _, _ => by unfold mkCases CasesAt; trivial
  | a :: as, k :: ks, x :: xs, c :: cs, ⟨h1, h2⟩, ⟨h3, h4⟩, e => by
    unfold mkCases CasesAt
    exact ⟨h1, h3, mkCases_at h2 h4 (Nat.succ.inj e)⟩
  | [], _, _ :: _, _, h, _, _ => h.elim
  | _ :: _, _, [], _, h, _, _ => h.elim
  | _, [], _, _ :: _, _, h, _ => h.elim
  | _, _ :: _, _, [], _, h, _ => h.elim
theorem build_at {G : Hp} {l : List Int} {f : Fr} {p pa ac il : Addr} {as ks vs : List V} (w : WF f) (c : f.inn.length = f.hd.count) (h : CoreAt K G l f.build p f.hd.w f.tm pa ac il) (hpa : G pa = some (.lst vs)) (hv : PartsAt G f.hd vs) (hac : G ac = some (.lst as)) (ha : All2 (AAt G) as f.acts)
    (hil : G il = some (.lst ks)) (hk : KidsAt K G l ks f.inn) : PactAt K G l p f.build := by
  obtain ⟨hd, s, n, acts, tm, inn⟩ := f
  obtain ⟨w1, w2, w3, w4, w5, w6, w7⟩ := w
  dsimp only at c w1 w2 w3 w4 w5 hv ha hk h ⊢
  have one : ∀ {k : Sg49.Contract}, KidsAt K G l ks [k] → ∃ q, ks = [.ref q] ∧ PactAt K G l q k := fun {k} h => by
    match ks, h with
    | [v], ⟨⟨q, e, h⟩, _⟩ => subst e; exact ⟨q, rfl, h⟩
  cases hd with
  | close =>
    obtain rfl : tm = 0 := w4 fun m z => by cases z
    have a0 : acts = [] := List.eq_nil_of_length_eq_zero (Nat.le_zero.mp w7)
    have as0 : as = [] := List.eq_nil_of_length_eq_zero (by have := All2.len ha; rw [this, a0]; rfl)
    rw [as0] at hac
    exact ⟨pa, ac, il, h, hac⟩
  | pay a o b t x =>
    obtain ⟨k, rfl⟩ := one_of c
    obtain rfl : tm = 0 := w4 fun m z => by cases z
    obtain ⟨q, rfl, hq⟩ := one hk
    obtain ⟨v, rfl, r1, r2, r3, r4, hv⟩ := hv
    refine ⟨pa, ac, il, v, q, h, ?_, r1, r3, r4, hv, hil, hq⟩
    rw [hpa]
    have ho : o = 0 ∨ o = 1 := by omega
    rcases ho with rfl | rfl <;> rfl
  | cond o =>
    obtain ⟨x, y, rfl⟩ := two_of c
    obtain rfl : tm = 0 := w4 fun m z => by cases z
    obtain ⟨v, rfl, hv⟩ := hv
    match ks, hk with
    | [v1, v2], ⟨⟨q, e1, h1⟩, ⟨r, e2, h2⟩, _⟩ =>
      subst e1 e2
      exact ⟨pa, ac, il, v, q, r, h, hpa, hv, hil, h1, h2⟩
  | let_ n x =>
    obtain ⟨k, rfl⟩ := one_of c
    obtain rfl : tm = 0 := w4 fun m z => by cases z
    obtain ⟨q, rfl, hq⟩ := one hk
    obtain ⟨v, rfl, r1, hv⟩ := hv
    exact ⟨pa, ac, il, v, q, h, hpa, r1, hv, hil, hq⟩
  | said o =>
    obtain ⟨k, rfl⟩ := one_of c
    obtain rfl : tm = 0 := w4 fun m z => by cases z
    obtain ⟨q, rfl, hq⟩ := one hk
    obtain ⟨v, rfl, hv⟩ := hv
    exact ⟨pa, ac, il, v, q, h, hpa, hv, hil, hq⟩
  | wait m =>
    obtain ⟨cs, k, rfl, hm⟩ := snoc_of (m := m) c
    have hl := All2.len hk
    rw [List.length_append] at hl
    obtain ⟨ks', v, rfl, hm'⟩ := snoc_of (l := ks) (m := m) (by rw [hl, hm]; rfl)
    have h2 : KidsAt K G l ks' cs ∧ ∃ q, v = .ref q ∧ PactAt K G l q k := by
      clear hl hil c w1 w3 w5 h
      revert hk hm hm'
      have : ∀ (ks' : List V) (cs : List Sg49.Contract), KidsAt K G l (ks' ++ [v]) (cs ++ [k]) → ks'.length = cs.length → KidsAt K G l ks' cs ∧ ∃ q, v = .ref q ∧ PactAt K G l q k := by
        intro ks'
        induction ks' with
        | nil => intro cs hk e; obtain rfl := List.eq_nil_of_length_eq_zero e.symm; exact ⟨trivial, hk.1⟩
        | cons x ks' ih =>
          intro cs hk e
          match cs, hk, e with
          | y :: cs, hk, e =>
            obtain ⟨i1, i2⟩ := ih cs hk.2 (Nat.succ.inj e)
            exact ⟨⟨hk.1, i1⟩, i2⟩
      exact fun h1 h2 h3 => this ks' cs (by assumption) (by omega)
    obtain ⟨hk', q, rfl, hq⟩ := h2
    have e1 : Fr.build ⟨.wait m, s, n, acts, tm, cs ++ [k]⟩ = .when (mkCases acts cs) tm k := by
      show Sg49.Contract.when (mkCases acts ((cs ++ [k]).take m)) tm ((cs ++ [k]).getD m .close) = _
      rw [List.take_left' hm, List.getD_eq_getElem?_getD, List.getElem?_append_right (by omega), hm, Nat.sub_self]; rfl
    rw [e1] at h ⊢
    have ha3 := w3 m rfl
    rw [List.length_append] at ha3
    exact ⟨pa, ac, il, as, ks', q, h, hac, hil, mkCases_at ha hk' (by rw [ha3]; show min (cs.length + 1) m = _; omega), hq⟩
/-! growing what stands still -/
def grow (G H : Hp) (A : List Addr) : Hp := fun b => if b ∈ A then H b else match H b with
  | some (.tup xs) => some (.tup xs)
  | _ => G b
variable {G H : Hp} {A : List Addr} {b : Addr}
theorem grow_at (h : b ∈ A) : grow G H A b = H b := if_pos h
theorem grow_tup : TupK H (grow G H A) := fun b xs e => by
  unfold grow
  by_cases c : b ∈ A
  · rw [if_pos c]; exact e
  · rw [if_neg c, e]
theorem grow_same (s : Same G H) : Same (grow G H A) H := fun b o e => by
  unfold grow at e
  by_cases c : b ∈ A
  · rw [if_pos c] at e; exact e
  · rw [if_neg c] at e
    split at e
    · rename_i xs h; rw [h]; exact e
    · exact s _ _ e
theorem grow_le (s : Same G H) : Same G (grow G H A) := fun b o e => by
  unfold grow
  by_cases c : b ∈ A
  · rw [if_pos c]; exact s _ _ e
  · rw [if_neg c]
    split
    · rename_i xs h
      have := s _ _ e
      rw [h] at this
      exact this
    · exact e
theorem grow_out (h1 : b ∉ A) (h2 : ∀ xs, H b ≠ some (.tup xs)) : grow G H A b = G b := by
  unfold grow
  rw [if_neg h1]
  split
  · rename_i xs h; exact absurd h (h2 xs)
  · rfl
end
end SP
set_option maxHeartbeats 2000000
namespace SP
open PySem PySem.Spec PyProof.Rows L2
/-- one step of a reading where nothing is asked -/
local macro_rules | `(tactic| walk_at "s1") => `(tactic| with_reducible first
  | refine k_seq ?_ | refine k_asg ?_ | refine k_if ?_ | refine k_ret ?_ | refine k_set ?_ | refine k_drop ?_ | refine k_next ?_ | refine k_retN ?_
  | refine k_var rfl ?_ | refine k_c ?_ | refine k_fld ?_ | refine k_fldK (by assumption) ?_ | refine k_op ?_ | refine k_plus ?_ | refine k_minus ?_ | refine k_cons ?_ | refine k_nil ?_ | refine k_name ?_
  | refine k_cmp ?_ | refine k_cmpK ?_ | refine k_B ?_ | refine k_blK ?_ | refine k_test ?_ | refine k_meth ?_ | refine k_call ?_ | refine k_CB ?_ | refine k_len (by assumption) ?_
  | refine k_ixT (by assumption) rfl ?_ | refine k_and ?_ | refine k_or ?_ | refine k_not ?_ | refine k_andV ?_ | refine k_orV ?_ | refine k_notV ?_ | refine k_ife ?_ | refine k_chain ?_ | refine k_tup ?_ | refine k_lst ?_
  | refine k_less ?_ | refine k_leq ?_ | refine k_un ?_ | refine k_neg ?_ | refine k_isN ?_ | refine k_notN ?_ | refine k_max ?_ | refine k_min ?_ | refine k_abs ?_ | refine k_bm ?_ | refine k_make ?_ | refine k_app (by assumption) (by assumption) ?_)
/-! ### an agreement read: the loop -/
section
variable {K : PySem.W.Frag} {mg : Str → Option Value}
local macro_rules | `(tactic| walk_at "s2") => `(tactic| first | walk_at "s1" | refine iteT ?_ | refine iteF ?_)
structure FA where
  f : Fr
  p : Addr
  dx : Addr
  pa : Addr
  ac : Addr
  il : Addr
  as : List V
  ks : List V
  vs : List V
def FA.own (x : FA) : List Addr := [x.p, x.pa, x.ac, x.il]
/-- its things; H0: the heap as it was when the reading began -/
structure FaAt (K : PySem.W.Frag) (H0 G H : Hp) (n wl : Addr) (i : Nat) (x : FA) : Prop where
  fr : FrAt K H x.f x.p x.dx x.pa x.ac x.il x.as x.ks
  pa : H x.pa = some (.lst x.vs)
  parts : PartsAt H x.f.hd x.vs
  paac : x.pa ≠ x.ac
  pail : x.pa ≠ x.il
  fresh : ∀ y ∈ x.own, y ≠ n ∧ y ≠ wl ∧ G y = none ∧ H0 y = none
  si : x.f.s ≤ i
theorem FaAt.is {H0 G H : Hp} {n wl : Addr} {i : Nat} {x : FA} (h : FaAt K H0 G H n wl i x) : ∀ y ∈ x.own, H y ≠ none ∧ ∀ xs, H y ≠ some (.tup xs) := fun y hy => by
  simp only [FA.own, List.mem_cons, List.not_mem_nil, or_false] at hy
  rcases hy with rfl | rfl | rfl | rfl
  · rw [h.fr.hins]; exact ⟨by simp, fun xs => by simp⟩
  · rw [h.pa]; exact ⟨by simp, fun xs => by simp⟩
  · rw [h.fr.hac]; exact ⟨by simp, fun xs => by simp⟩
  · rw [h.fr.hil]; exact ⟨by simp, fun xs => by simp⟩
theorem FaAt.mono {H0 G H G' H' : Hp} {n wl : Addr} {i i' : Nat} {x : FA} {M : List Addr} (h : FaAt K H0 G H n wl i x) (b : But M H H') (t : TupK H H') (hi : i ≤ i') (hM : ∀ y ∈ x.own, y ∉ M) (hG : ∀ y ∈ x.own, G' y = none) : FaAt K H0 G' H' n wl i' x :=
  ⟨h.fr.mono b t (hM _ (by simp [FA.own])) (hM _ (by simp [FA.own])) (hM _ (by simp [FA.own])), b _ _ h.pa (hM _ (by simp [FA.own])), h.parts.mono t, h.paac, h.pail, fun y hy => ⟨(h.fresh y hy).1, (h.fresh y hy).2.1, hG y hy, (h.fresh y hy).2.2.2⟩, Nat.le_trans h.si hi⟩
/-- those below q -/
def Below (K : PySem.W.Frag) (l : List Int) (H0 G H : Hp) (n wl : Addr) (i : Nat) : Addr → List FA → Prop
  | _, [] => True
  | q, x :: S => FaAt K H0 G H n wl i x ∧ (∃ ks0, x.ks = ks0 ++ [.ref q] ∧ KidsAt K G l ks0 x.f.inn) ∧ WFu x.f ∧ (∀ z ∈ S, ∀ y ∈ x.own, y ∉ z.own) ∧ Below K l H0 G H n wl i x.p S
theorem Below.mono {l : List Int} {H0 G H G' H' : Hp} {n wl : Addr} {i i' : Nat} {M : List Addr} (b : But M H H') (t : TupK H H') (hi : i ≤ i') (s : Same G G') : ∀ {S : List FA} {q : Addr}, Below K l H0 G H n wl i q S → (∀ z ∈ S, ∀ y ∈ z.own, y ∉ M ∧ G' y = none) → Below K l H0 G' H' n wl i' q S
  | [], _, _, _ => trivial
  | x :: S, q, ⟨h1, ⟨ks0, e, h2⟩, h3, h4, h5⟩, hM =>
    ⟨h1.mono b t hi (fun y hy => (hM x (by simp) y hy).1) (fun y hy => (hM x (by simp) y hy).2), ⟨ks0, e, h2.mono s⟩, h3, h4, Below.mono b t hi s h5 fun z hz => hM z (by simp [hz])⟩
theorem Below.all {l : List Int} {H0 G H : Hp} {n wl : Addr} {i : Nat} : ∀ {S : List FA} {q : Addr}, Below K l H0 G H n wl i q S → ∀ z ∈ S, FaAt K H0 G H n wl i z
  | [], _, _, z, hz => by cases hz
  | x :: S, q, ⟨h1, _, _, _, h5⟩, z, hz => by
    rcases List.mem_cons.mp hz with rfl | hz
    · exact h1
    · exact Below.all h5 z hz
/-- the stack as the list has it -/
def stack (S : List FA) : List V := (S.map fun z => V.ref z.p).reverse
structure PInv (K : PySem.W.Frag) (l : List Int) (a : Addr) (H0 : Hp) (n wl first : Addr) (H G : Hp) (x : FA) (S : List FA) (i : Nat) : Prop where
  num : NumAt K H n a i
  le : i ≤ l.length
  hwl : H wl = some (.lst (stack (x :: S)))
  top : FaAt K H0 G H n wl i x
  kids : KidsAt K G l x.ks x.f.inn
  wf : WF x.f
  below : Below K l H0 G H n wl i x.p S
  apart : ∀ z ∈ S, ∀ y ∈ x.own, y ∉ z.own
  gs : Same G H
  gn : ∀ b o, H0 b = some o → (∃ xs, o = .tup xs) ∨ G b = none
  gnn : G n = none ∧ G wl = none ∧ n ≠ wl ∧ H0 n = none ∧ H0 wl = none
  h0 : Same H0 H
  st : StR l x.f (S.map FA.f) i
  first : ∃ S', (x :: S).map FA.p = S' ++ [first]
  sz : S.length < i
structure PEnd (K : PySem.W.Frag) (l : List Int) (a : Addr) (H0 : Hp) (n wl first : Addr) (H : Hp) (i : Nat) : Prop where
  num : NumAt K H n a i
  le : i ≤ l.length
  hwl : H wl = some (.lst [])
  h0 : Same H0 H
  ex : ∃ c G, Sg49.contract 400 l = some (c, l.drop i) ∧ Same G H ∧ (∀ b o, H0 b = some o → (∃ xs, o = .tup xs) ∨ G b = none) ∧ PactAt K G l first c
/-- an agreement, read -/
def spPactOf (K : PySem.W.Frag) : Sp := fun vs H Q E => ∃ (a : Addr) (l : List Int), vs = [.ref a] ∧ SqL K H a (l.map V.int) ∧
  (Sg49.read l = none → ∀ H', Same H H' → E (XN K) none H') ∧
  (∀ c, Sg49.read l = some c → ∀ H' p G, Same H H' → Same G H' → (∀ b o, H b = some o → (∃ xs, o = .tup xs) ∨ G b = none) → PactAt K G l p c → Q (.ref p) H')
variable {l : List Int} {a : Addr} {H0 H G : Hp} {n wl first : Addr} {x : FA} {S : List FA} {i : Nat} {Q : VK} {E : XK}
theorem PInv.row (v : PInv K l a H0 n wl first H G x S i) (hs : SqL K H0 a (l.map V.int)) {H' : Hp} (b : But [n, x.p, x.ac, x.il] H H') : SqL K H' a (l.map V.int) := by
  have key : ∀ o, H0 a = some o → H' a = some o := fun o e => b _ _ (v.h0 _ _ e) (by
    have g1 := (v.top.fresh x.p (by simp [FA.own])).2.2.2
    have g2 := (v.top.fresh x.ac (by simp [FA.own])).2.2.2
    have g3 := (v.top.fresh x.il (by simp [FA.own])).2.2.2
    have g4 := v.gnn.2.2.2.1
    simp only [List.mem_cons, List.not_mem_nil, or_false]
    rintro (rfl | rfl | rfl | rfl)
    · rw [e] at g4; cases g4
    · rw [e] at g1; cases g1
    · rw [e] at g2; cases g2
    · rw [e] at g3; cases g3)
  rcases hs with (h | ⟨o, h⟩) | h
  · exact .inl (.inl (key _ h))
  · exact .inl (.inr ⟨o, key _ h⟩)
  · exact .inr h
/-- one popped -/
theorem PInv.pop (v : PInv K l a H0 n wl first H G x S i) (c : x.f.inn.length = x.f.hd.count) {H' H2 : Hp} {vE : Int} (hE : vE = (i : Nat)) (b : But [x.p] H H')
    (hp : H' x.p = some (.ins (CP K) x.dx (pF (.int (400 - (x.f.n : Nat))) (.int (x.f.s : Nat)) (.int vE) (.int x.f.hd.w) (.ref x.pa) (.ref x.ac) (.int x.f.tm) (.ref x.il) (.int (x.f.hd.count : Nat)) (.int x.f.build.last) (.int (x.f.build.long : Nat)))))
    (h2 : H2 = upd H' wl (.lst (stack (x :: S)).dropLast)) : (S = [] ∧ PEnd K l a H0 n wl first H2 i) ∨ ∃ g S' G', S = g :: S' ∧ PInv K l a H0 n wl first H2 G' { g with f := g.f.add x.f.build } S' i := by
  subst hE
  obtain ⟨gn1, gn2, gn3, gn4, gn5⟩ := v.gnn
  have fp := v.top.fresh x.p (by simp [FA.own])
  have dl : (stack (x :: S)).dropLast = stack S := by
    unfold stack
    rw [List.map_cons, List.reverse_cons, List.dropLast_concat]
  rw [dl] at h2
  have hwl' : H' wl = some (.lst (stack (x :: S))) := b _ _ v.hwl (by simp; exact Ne.symm fp.2.1)
  have t1 : TupK H H' := b.tup (fun y hy xs e => by simp only [List.mem_singleton] at hy; rw [hy, v.top.fr.hins] at e; cases e)
  have B : But [x.p, wl] H H2 := by
    rw [h2]
    exact (b.mono (M' := [x.p, wl]) fun y hy => by simp only [List.mem_singleton] at hy; simp [hy]).put (by simp)
  have t2 : TupK H H2 := B.tup (fun y hy xs e => by
    simp only [List.mem_cons, List.not_mem_nil, or_false] at hy
    rcases hy with rfl | rfl
    · rw [v.top.fr.hins] at e; cases e
    · rw [v.hwl] at e; cases e)
  have ne : ∀ y ∈ x.own, y ≠ wl := fun y hy => (v.top.fresh y hy).2.1
  have nx : x.pa ≠ x.p ∧ x.ac ≠ x.p ∧ x.il ≠ x.p := by
    refine ⟨fun z => ?_, fun z => ?_, fun z => ?_⟩
    · have := v.top.pa; rw [z, v.top.fr.hins] at this; cases this
    · have := v.top.fr.hac; rw [z, v.top.fr.hins] at this; cases this
    · have := v.top.fr.hil; rw [z, v.top.fr.hins] at this; cases this
  have hp2 := (show H2 x.p = H' x.p by rw [h2, upd_ne (ne x.p (by simp [FA.own]))]).trans hp
  have hpa2 := B _ _ v.top.pa (by simp; exact ⟨nx.1, ne x.pa (by simp [FA.own])⟩)
  have hac2 := B _ _ v.top.fr.hac (by simp; exact ⟨nx.2.1, ne x.ac (by simp [FA.own])⟩)
  have hil2 := B _ _ v.top.fr.hil (by simp; exact ⟨nx.2.2, ne x.il (by simp [FA.own])⟩)
  have g2 : Same G H2 := Same.gbut v.gs B fun y hy => by
    simp only [List.mem_cons, List.not_mem_nil, or_false] at hy
    rcases hy with rfl | rfl
    · exact fp.2.2.1
    · exact gn2
  have num2 : NumAt K H2 n a i := by
    obtain ⟨q, e⟩ := v.num
    exact ⟨q, B _ _ e (by simp; exact ⟨Ne.symm fp.1, gn3⟩)⟩
  have wl2 : H2 wl = some (.lst (stack S)) := by rw [h2, upd_same]
  have h02 : Same H0 H2 := fun y o e => B _ _ (v.h0 _ _ e) (by
    simp only [List.mem_cons, List.not_mem_nil, or_false]
    rintro (rfl | rfl)
    · rw [fp.2.2.2] at e; cases e
    · rw [gn5] at e; cases e)
  -- what stands still now
  have s1 := grow_le (A := x.own) g2
  have s2 := grow_same (A := x.own) g2
  have tg : TupK H (grow G H2 x.own) := fun y xs e => grow_tup _ _ (t2 _ _ e)
  have gn' : ∀ y o, H0 y = some o → (∃ xs, o = .tup xs) ∨ grow G H2 x.own y = none := fun y o e => by
    rcases v.gn y o e with h | h
    · exact .inl h
    · by_cases q : ∃ xs, o = HO.tup xs
      · exact .inl q
      · refine .inr ?_
        rw [grow_out (fun z => by have := (v.top.fresh y z).2.2.2; rw [e] at this; cases this) (fun xs z => by rw [h02 _ _ e] at z; cases z; exact q ⟨xs, rfl⟩)]
        exact h
  have gnn' : grow G H2 x.own n = none ∧ grow G H2 x.own wl = none := by
    refine ⟨?_, ?_⟩
    · rw [grow_out (fun z => (v.top.fresh n z).1 rfl) (fun xs z => by obtain ⟨q, e⟩ := num2; rw [e] at z; cases z)]; exact gn1
    · rw [grow_out (fun z => (v.top.fresh wl z).2.1 rfl) (fun xs z => by rw [wl2] at z; cases z)]; exact gn2
  obtain ⟨cd1, cd2⟩ := v.st.code c v.top.si v.le
  have pact : PactAt K (grow G H2 x.own) l x.p x.f.build := by
    refine build_at v.wf c ⟨x.dx, _, _, x.f.s, i, (grow_at (by simp [FA.own])).trans hp2, v.top.si, v.le, cd1, cd2⟩ ((grow_at (by simp [FA.own])).trans hpa2) (v.top.parts.mono tg) ((grow_at (by simp [FA.own])).trans hac2) (v.top.fr.acts.imp fun _ _ q => q.mono tg) ((grow_at (by simp [FA.own])).trans hil2) (v.kids.mono s1)
  cases S with
  | nil =>
    left
    refine ⟨rfl, num2, v.le, wl2, h02, x.f.build, grow G H2 x.own, v.st.done c, s2, gn', ?_⟩
    obtain ⟨S', e⟩ := v.first
    have : S' = [] ∧ x.p = first := by
      cases S' with
      | nil => exact ⟨rfl, by simpa using e⟩
      | cons y S' => have := congrArg List.length e; simp at this
    rw [← this.2]; exact pact
  | cons g S' =>
    right
    obtain ⟨b1, ⟨ks0, e0, b2⟩, b3, b4, b5⟩ := v.below
    have apart := v.apart
    have gz : ∀ z ∈ g :: S', ∀ y ∈ z.own, y ∉ [x.p, wl] ∧ grow G H2 x.own y = none := fun z hz y hy => by
      have fz := v.below.all z hz
      have ny : y ∉ x.own := fun q => apart z hz y q hy
      have nM : y ∉ [x.p, wl] := by
        simp only [List.mem_cons, List.not_mem_nil, or_false]
        rintro (rfl | rfl)
        · exact ny (by simp [FA.own])
        · exact (fz.fresh _ hy).2.1 rfl
      refine ⟨nM, ?_⟩
      rw [grow_out ny (fun xs q => ?_)]
      · exact (fz.fresh y hy).2.2.1
      · obtain ⟨k1, k2⟩ := fz.is y hy
        cases hq : H y with
        | none => exact k1 hq
        | some o => rw [B _ _ hq nM] at q; rw [hq] at k2; exact k2 xs q
    have ft := b1.mono B t2 (Nat.le_refl i) (fun y hy => (gz g (by simp) y hy).1) (fun y hy => (gz g (by simp) y hy).2)
    refine ⟨g, S', grow G H2 x.own, rfl, num2, v.le, wl2, ⟨⟨ft.fr.hins, ft.fr.hac, ft.fr.hil, ft.fr.acil, ft.fr.acts⟩, ft.pa, ft.parts, ft.paac, ft.pail, ft.fresh, ft.si⟩, ?_, b3.add cd2, b5.mono B t2 (Nat.le_refl i) s1 (fun z hz => gz z (by simp [hz])), b4, s2, gn', ⟨gnn'.1, gnn'.2, gn3, gn4, gn5⟩, h02, v.st.pop c, ?_, by have := v.sz; rw [List.length_cons] at this; omega⟩
    · show KidsAt K _ l g.ks (g.f.inn ++ [x.f.build])
      rw [e0]
      exact All2.snoc (b2.mono s1) ⟨x.p, rfl, pact⟩
    · obtain ⟨S2, e⟩ := v.first
      cases S2 with
      | nil => have := congrArg List.length e; simp at this
      | cons y S2 => exact ⟨S2, by simpa using (List.cons.inj e).2⟩
end
end SP
set_option maxHeartbeats 2000000
namespace SP
open PySem PySem.Spec PyProof.Rows L2
/-- one step of a reading where nothing is asked -/
local macro_rules | `(tactic| walk_at "s1") => `(tactic| with_reducible first
  | refine k_seq ?_ | refine k_asg ?_ | refine k_if ?_ | refine k_ret ?_ | refine k_set ?_ | refine k_drop ?_ | refine k_next ?_ | refine k_retN ?_
  | refine k_var rfl ?_ | refine k_c ?_ | refine k_fld ?_ | refine k_fldK (by assumption) ?_ | refine k_op ?_ | refine k_plus ?_ | refine k_minus ?_ | refine k_cons ?_ | refine k_nil ?_ | refine k_name ?_
  | refine k_cmp ?_ | refine k_cmpK ?_ | refine k_B ?_ | refine k_blK ?_ | refine k_test ?_ | refine k_meth ?_ | refine k_call ?_ | refine k_CB ?_ | refine k_len (by assumption) ?_
  | refine k_ixT (by assumption) rfl ?_ | refine k_and ?_ | refine k_or ?_ | refine k_not ?_ | refine k_andV ?_ | refine k_orV ?_ | refine k_notV ?_ | refine k_ife ?_ | refine k_chain ?_ | refine k_tup ?_ | refine k_lst ?_
  | refine k_less ?_ | refine k_leq ?_ | refine k_un ?_ | refine k_neg ?_ | refine k_isN ?_ | refine k_notN ?_ | refine k_max ?_ | refine k_min ?_ | refine k_abs ?_ | refine k_bm ?_ | refine k_make ?_ | refine k_app (by assumption) (by assumption) ?_)
section
variable {K : PySem.W.Frag} {mg : Str → Option Value}
local macro_rules | `(tactic| walk_at "s2") => `(tactic| first | walk_at "s1" | refine iteT ?_ | refine iteF ?_)
variable {l : List Int} {a : Addr} {H0 H G : Hp} {n wl first : Addr} {x : FA} {S : List FA} {i : Nat} {Q : VK} {E : XK}
/-- one pushed -/
theorem PInv.push (v : PInv K l a H0 n wl first H G x S i) (c : x.f.inn.length < x.f.hd.count) {f1 : Fr} {d i1 i2 : Nat} {h : Hd} {H' H2 : Hp} {q dq pa' ac' il' : Addr} {vs as' : List V}
    (e1 : x.f.pre (l.drop i) = some ((f1, d + 1), l.drop i1)) (e2 : headR (l.drop i1) = some (h, l.drop i2)) (hi1 : i ≤ i1) (hi2 : i1 < i2) (hl2 : i2 ≤ l.length) (hn : NumAt K H' n a i2) (b : But [n, x.p, x.ac, x.il] H H')
    (fx : FrAt K H' f1 x.p x.dx x.pa x.ac x.il as' (x.ks ++ [.ref q])) (fq : FrAt K H' (Fr.new h i1 d) q dq pa' ac' il' [] []) (hpa : H' pa' = some (.lst vs)) (hv : PartsAt H' h vs) (q0 : H q = none) (pa0 : H pa' = none) (ac0 : H ac' = none) (il0 : H il' = none)
    (paac : pa' ≠ ac') (pail : pa' ≠ il') (h2 : H2 = upd H' wl (.lst (stack (x :: S) ++ [.ref q]))) : PInv K l a H0 n wl first H2 G ⟨Fr.new h i1 d, q, dq, pa', ac', il', [], [], vs⟩ ({ x with f := f1, as := as', ks := x.ks ++ [.ref q] } :: S) i2 := by
  obtain ⟨gn1, gn2, gn3, gn4, gn5⟩ := v.gnn
  obtain ⟨k1, k2, k3, k4⟩ := pre_keeps e1
  obtain ⟨w1, w2⟩ := v.wf.pre c e1
  have ox : ∀ y ∈ x.own, y ≠ wl := fun y hy => (v.top.fresh y hy).2.1
  have hwl' : H' wl = some (.lst (stack (x :: S))) := b _ _ v.hwl (by
    simp only [List.mem_cons, List.not_mem_nil, or_false]
    rintro (rfl | rfl | rfl | rfl)
    · exact gn3 rfl
    · exact ox _ (by simp [FA.own]) rfl
    · exact ox _ (by simp [FA.own]) rfl
    · exact ox _ (by simp [FA.own]) rfl)
  have B1 : But [wl] H' H2 := by rw [h2]; exact (But.refl H').put (by simp)
  have t1 : TupK H' H2 := B1.tup (fun y hy xs e => by simp only [List.mem_singleton] at hy; rw [hy, hwl'] at e; cases e)
  have B : But [n, x.p, x.ac, x.il, wl] H H2 := (b.mono fun y hy => by simp only [List.mem_cons, List.not_mem_nil, or_false] at hy ⊢; rcases hy with h | h | h | h <;> simp [h]).trans (B1.mono fun y hy => by simp only [List.mem_singleton] at hy; simp [hy])
  have nt : ∀ y ∈ [n, x.p, x.ac, x.il, wl], ∀ xs, H y ≠ some (.tup xs) := fun y hy xs e => by
    simp only [List.mem_cons, List.not_mem_nil, or_false] at hy
    rcases hy with rfl | rfl | rfl | rfl | rfl
    · obtain ⟨q, z⟩ := v.num; rw [z] at e; cases e
    · rw [v.top.fr.hins] at e; cases e
    · rw [v.top.fr.hac] at e; cases e
    · rw [v.top.fr.hil] at e; cases e
    · rw [v.hwl] at e; cases e
  have t2 : TupK H H2 := B.tup nt
  have gM : ∀ y ∈ [n, x.p, x.ac, x.il, wl], G y = none ∧ H0 y = none := fun y hy => by
    simp only [List.mem_cons, List.not_mem_nil, or_false] at hy
    rcases hy with rfl | rfl | rfl | rfl | rfl
    · exact ⟨gn1, gn4⟩
    · exact (v.top.fresh _ (by simp [FA.own])).2.2
    · exact (v.top.fresh _ (by simp [FA.own])).2.2
    · exact (v.top.fresh _ (by simp [FA.own])).2.2
    · exact ⟨gn2, gn5⟩
  have g2 : Same G H2 := Same.gbut v.gs B fun y hy => (gM y hy).1
  have h02 : Same H0 H2 := fun y o e => B _ _ (v.h0 _ _ e) (fun z => by rw [(gM y z).2] at e; cases e)
  have new : ∀ y, H y = none → y ≠ n ∧ y ≠ wl ∧ G y = none ∧ H0 y = none := fun y e => by
    refine ⟨fun z => ?_, fun z => ?_, ?_, ?_⟩
    · obtain ⟨q, z'⟩ := v.num; rw [z, z'] at e; cases e
    · rw [z, v.hwl] at e; cases e
    · exact Same.fresh v.gs e
    · exact Same.fresh v.h0 e
  have own' : ∀ y ∈ [q, pa', ac', il'], H y = none := fun y hy => by
    simp only [List.mem_cons, List.not_mem_nil, or_false] at hy
    rcases hy with rfl | rfl | rfl | rfl <;> assumption
  have nwl : ∀ y ∈ [q, pa', ac', il'], y ∉ [wl] := fun y hy => by simp; exact (new y (own' y hy)).2.1
  have nown : ∀ z ∈ x :: S, ∀ y ∈ [q, pa', ac', il'], y ∉ z.own := fun z hz y hy k => by
    rcases List.mem_cons.mp hz with rfl | hz
    · exact (v.top.is y k).1 (own' y hy)
    · exact ((v.below.all z hz).is y k).1 (own' y hy)
  obtain ⟨dn, en⟩ := id hn
  have pax : H' x.pa = some (.lst x.vs) := b _ _ v.top.pa (by
    simp only [List.mem_cons, List.not_mem_nil, or_false]
    rintro (z | z | z | z)
    · exact (v.top.fresh x.pa (by simp [FA.own])).1 z
    · have := v.top.pa; rw [z, v.top.fr.hins] at this; cases this
    · exact v.top.paac z
    · exact v.top.pail z)
  refine ⟨⟨dn, B1 _ _ en (by simp; exact gn3)⟩, hl2, ?_, ⟨fq.mono B1 t1 (nwl _ (by simp)) (nwl _ (by simp)) (nwl _ (by simp)), B1 _ _ hpa (nwl _ (by simp)), hv.mono t1, paac, pail, fun y hy => new y (own' y hy), Nat.le_of_lt hi2⟩, trivial, WF.new (by omega), ⟨?_, ⟨x.ks, rfl, ?_⟩, w1, v.apart, ?_⟩, ?_, g2, v.gn, v.gnn, h02, ?_, ?_, by have := v.sz; rw [List.length_cons]; omega⟩
  · rw [h2, upd_same]
    unfold stack
    simp
  · refine ⟨fx.mono B1 t1 ?_ ?_ ?_, B1 _ _ pax ?_, ?_, v.top.paac, v.top.pail, v.top.fresh, ?_⟩
    · simp; exact ox _ (by simp [FA.own])
    · simp; exact ox _ (by simp [FA.own])
    · simp; exact ox _ (by simp [FA.own])
    · simp; exact ox _ (by simp [FA.own])
    · show PartsAt H2 f1.hd x.vs
      rw [k1]
      exact v.top.parts.mono t2
    · show f1.s ≤ i2
      rw [k3]
      have := v.top.si
      omega
  · show KidsAt K G l x.ks f1.inn
    rw [k2]; exact v.kids
  · refine v.below.mono B t2 (by omega) (fun _ _ e => e) fun z hz y hy => ?_
    have fz := v.below.all z hz
    refine ⟨?_, (fz.fresh y hy).2.2.1⟩
    simp only [List.mem_cons, List.not_mem_nil, or_false]
    rintro (rfl | rfl | rfl | rfl | rfl)
    · exact (fz.fresh _ hy).1 rfl
    · exact v.apart z hz _ (by simp [FA.own]) hy
    · exact v.apart z hz _ (by simp [FA.own]) hy
    · exact v.apart z hz _ (by simp [FA.own]) hy
    · exact (fz.fresh _ hy).2.1 rfl
  · intro z hz y hy
    rcases List.mem_cons.mp hz with rfl | hz
    · exact nown x (by simp) y hy
    · exact nown z (by simp [hz]) y hy
  · exact v.st.push c e1 e2
  · obtain ⟨S', e⟩ := v.first
    exact ⟨q :: S', by rw [List.map_cons] at e ⊢; rw [List.map_cons]; show q :: (x.p :: _) = _; rw [e]; rfl⟩
theorem stepsW_steps {f : Fr} (w : WF f) (c : f.inn.length = f.hd.count) : stepsW f.hd.w (f.inn.map fun c => (c.long : Int)) = f.steps := by
  unfold stepsW
  by_cases w3 : f.hd.w = 3
  · obtain ⟨m, hm⟩ := w_wait w3
    rw [if_pos w3]
    unfold Fr.steps
    rw [hm, List.length_map, c, hm]
    show ((f.inn.map fun c => (c.long : Int)).take m).map (· + 1) ++ (f.inn.map fun c => (c.long : Int)).drop m = (f.inn.take m).map (fun c => (c.long : Int) + 1) ++ (f.inn.drop m).map (fun c => (c.long : Int))
    rw [← List.map_take, ← List.map_drop, List.map_map]
    rfl
  · rw [if_neg w3]
    unfold Fr.steps
    cases e : f.hd with
    | wait m => rw [e] at w3; exact absurd rfl w3
    | _ => rfl
theorem read_of {l r : List Int} {c : Sg49.Contract} (hl : ¬ 8000 < l.length) (e : Sg49.contract 400 l = some (c, r)) : Sg49.read l = if r = [] then some c else none := by
  unfold Sg49.read
  rw [if_neg (show ¬ Sg49.NUMBERS < l.length from hl)]
  show (match Sg49.contract 400 l with | some (k, []) => some k | _ => none) = _
  rw [e]
  cases r with
  | nil => rfl
  | cons z r => rfl
theorem read_none {l : List Int} (e : Sg49.contract 400 l = none) : Sg49.read l = none := by
  unfold Sg49.read
  by_cases c : Sg49.NUMBERS < l.length
  · rw [if_pos c]
  · rw [if_neg c]
    show (match Sg49.contract 400 l with | some (k, []) => some k | _ => none) = _
    rw [e]
theorem read_long {l : List Int} (c : 8000 < l.length) : Sg49.read l = none := by
  unfold Sg49.read
  exact if_pos c
theorem seqSame {H H' : Hp} {xs : List V} (h : SqL K H a xs) (s : Same H H') : SqL K H' a xs := sqBut (M := []) h (Same.but s) (by simp)
theorem count9 {H : Hp} {h : Hd} {vs : List V} (p : PartsAt H h vs) : h.count ≤ 9 := by
  cases h with
  | wait m => exact Nat.succ_le_succ p.2
  | close => exact Nat.zero_le _
  | pay => exact (by decide : 1 ≤ 9)
  | cond => exact (by decide : 2 ≤ 9)
  | let_ => exact (by decide : 1 ≤ 9)
  | said => exact (by decide : 1 ≤ 9)
theorem kidF_of (T : Tx K mg) {f : Str} {g : Sg49.Contract → Int} {p : Addr} (s : Same G H) (hp : G p = none) (hf : ∀ c q, PactAt K G l q c → Fd K H q f (.int (g c))) : ∀ {ks : List V} {cs : List Sg49.Contract}, KidsAt K G l ks cs → KidF K H p f ks (cs.map g)
  | [], [], _ => trivial
  | v :: ks, c :: cs, ⟨⟨q, e, h⟩, h2⟩ => ⟨⟨q, e, hf c q h, fun z => (h.kid T s).2.2.2 (by rw [z]; exact hp)⟩, kidF_of T s hp hf h2⟩
  | [], _ :: _, h => h.elim
  | _ :: _, [], h => h.elim
/-- something new beside -/
theorem PInv.new (v : PInv K l a H0 n wl first H G x S i) {q : Addr} {o : HO} (hq : H q = none) : PInv K l a H0 n wl first (upd H q o) G x S i := by
  have B : But [] H (upd H q o) := (But.refl H).newer hq
  have t : TupK H (upd H q o) := fun b xs e => B _ _ e (by simp)
  obtain ⟨dn, en⟩ := v.num
  exact ⟨⟨dn, B _ _ en (by simp)⟩, v.le, B _ _ v.hwl (by simp), v.top.mono B t (Nat.le_refl i) (fun _ _ => by simp) (fun y hy => (v.top.fresh y hy).2.2.1), v.kids, v.wf, v.below.mono B t (Nat.le_refl i) (fun _ _ e => e) (fun z hz y hy => ⟨by simp, ((v.below.all z hz).fresh y hy).2.2.1⟩), v.apart,
    fun b o e => B _ _ (v.gs b o e) (by simp), v.gn, v.gnn, fun b o e => B _ _ (v.h0 b o e) (by simp), v.st, v.first, v.sz⟩
theorem PEnd.new (v : PEnd K l a H0 n wl first H i) {q : Addr} {o : HO} (hq : H q = none) : PEnd K l a H0 n wl first (upd H q o) i := by
  have B : But [] H (upd H q o) := (But.refl H).newer hq
  obtain ⟨dn, en⟩ := v.num
  obtain ⟨c, G, e1, e2, e3, e4⟩ := v.ex
  exact ⟨⟨dn, B _ _ en (by simp)⟩, v.le, B _ _ v.hwl (by simp), fun b o e => B _ _ (v.h0 b o e) (by simp), c, G, e1, fun b o e => B _ _ (e2 b o e) (by simp), e3, e4⟩
theorem stack_cons {x : FA} {S : List FA} : stack (x :: S) = stack S ++ [.ref x.p] := by unfold stack; simp
/-- where the loop stands -/
def PW (K : PySem.W.Frag) (l : List Int) (a : Addr) (H0 : Hp) (n wl first : Addr) (m : Nat) (σ : L2.St) (H : Hp) : Prop := ∃ x4, σ = [some (.ref a), some (.ref n), some (.ref first), some (.ref wl), x4] ∧
  ((∃ G x S i, PInv K l a H0 n wl first H G x S i ∧ m = 2 * (l.length - i) + S.length + 1) ∨ ∃ i, PEnd K l a H0 n wl first H i ∧ m = 2 * (l.length - i))
theorem pure_pact_of (T : Tx K mg) (vs : List V) (H : Hp) (Q : VK) (E : XK) (h : spPactOf K vs H Q E) : t_pact_of K E (spEnded K) (spComplete1 K) (spComplete K) (spNext K) (spPactInit K) (spNumInit K) { nx := fun _ H' => Q .non H', rt := Q } (start N_pact_of vs) H := by
  obtain ⟨a, l, rfl, hs, qE, qQ⟩ := h
  unfold t_pact_of
  repeat walk_at "s1"
  rw [List.length_map]
  by_cases c8 : 8000 < l.length
  · rw [decide_eq_true (by omega)]
    exact iteT (qE (read_long c8) H (fun _ _ e => e))
  rw [decide_eq_false (by omega)]
  refine iteF ?_
  repeat walk_at "s1"
  intro n dn hn hdn dnn
  refine ⟨n, dn, a, rfl, upd_same, ?_⟩
  refine ⟨rfl, ?_⟩
  rw [upd_upd]
  have num1 : NumAt K (upd (upd H dn (.own n)) n (.ins (CN K) dn (nF (.ref a) (.int (0 : Nat))))) n a 0 := ⟨dn, upd_same⟩
  have B1 : But [] H (upd (upd H dn (.own n)) n (.ins (CN K) dn (nF (.ref a) (.int (0 : Nat))))) := ((But.refl H).new hdn).new hn
  have S1 : Same H (upd (upd H dn (.own n)) n (.ins (CN K) dn (nF (.ref a) (.int (0 : Nat))))) := B1.same
  generalize upd (upd H dn (.own n)) n (.ins (CN K) dn (nF (.ref a) (.int (0 : Nat)))) = H1 at num1 B1 S1 ⊢
  repeat walk_at "s1"
  intro p dp hp hdp dpp
  have same1 : ∀ {H' : Hp}, But [n] H1 H' → Same H H' := fun b => fun y o e => b _ _ (S1 _ _ e) (by simp; intro z; rw [z, hn] at e; cases e)
  obtain ⟨dnn', en⟩ := id num1
  have pn : p ≠ n := fun z => by rw [z, en] at hp; cases hp
  have dpn : dp ≠ n := fun z => by rw [z, en] at hdp; cases hdp
  have num2 : NumAt K (upd (upd H1 dp (.own p)) p (.ins (CP K) dp [])) n a 0 := ⟨dnn', by rw [upd_ne (Ne.symm pn), upd_ne (Ne.symm dpn)]; exact en⟩
  have B2 : But [n] H1 (upd (upd H1 dp (.own p)) p (.ins (CP K) dp [])) := ((But.refl H1).new hdp).new hp
  have S2 : Same H (upd (upd H1 dp (.own p)) p (.ins (CP K) dp [])) := same1 B2
  refine ⟨p, n, dp, 1, a, 0, l, rfl, upd_same, num2, seqSame hs S2, Nat.zero_le _, pn, fun z => by omega, fun e H' i' h' b' => qE (read_none (st_fail0 e)) H' (same1 (b'.perm.born hp hdp)), fun hd r _ e H' i2 pa ac il vs h1 h2 h3 h4 h5 h6 h7 h8 h9 h10 h11 h12 h13 h14 h15 h16 => ?_⟩
  refine ⟨rfl, ?_⟩
  have b3 : But [n] H1 H' := h5.perm.born hp hdp
  have S3 : Same H H' := same1 b3
  have lo : ∀ {x : Addr}, upd (upd H1 dp (.own p)) p (.ins (CP K) dp []) x = none → H1 x = none := fun {x} e => by
    have x1 : x ≠ p := fun z => by rw [z, upd_same] at e; cases e
    rw [upd_ne x1] at e
    have x2 : x ≠ dp := fun z => by rw [z, upd_same] at e; cases e
    rw [upd_ne x2] at e
    exact e
  have lo2 : ∀ {x : Addr}, H1 x = none → H x = none ∧ x ≠ n := fun {x} e => ⟨B1.free e (by simp), fun z => by rw [z, en] at e; cases e⟩
  repeat walk_at "s1"
  refine ⟨small, fun wl hwl => ?_⟩
  have wl0 : H wl = none := Same.fresh S3 hwl
  obtain ⟨d4, e4⟩ := id h4
  have I0 : PInv K l a H n wl p (upd H' wl (.lst [.ref p])) (fun _ => none) ⟨Fr.new hd 0 399, p, dp, pa, ac, il, [], [], vs⟩ [] i2 := by
    have B4 : But [] H' (upd H' wl (.lst [.ref p])) := (But.refl H').newer hwl
    have t4 : TupK H' (upd H' wl (.lst [.ref p])) := fun b xs e => B4 _ _ e (by simp)
    have own : ∀ y ∈ [p, pa, ac, il], H1 y = none ∧ H' y ≠ none := fun y hy => by
      simp only [List.mem_cons, List.not_mem_nil, or_false] at hy
      rcases hy with rfl | rfl | rfl | rfl
      · exact ⟨hp, by rw [h6]; simp⟩
      · exact ⟨lo h7, by rw [h13]; simp⟩
      · exact ⟨lo h8, by rw [h15]; simp⟩
      · exact ⟨lo h9, by rw [h16]; simp⟩
    have f0 : FaAt K H (fun _ => none) (upd H' wl (.lst [.ref p])) n wl i2 ⟨Fr.new hd 0 399, p, dp, pa, ac, il, [], [], vs⟩ :=
      ⟨⟨B4 _ _ h6 (by simp), B4 _ _ h15 (by simp), B4 _ _ h16 (by simp), h12, trivial⟩, B4 _ _ h13 (by simp), h14.mono t4, h10, h11, fun y hy => by
        obtain ⟨o1, o2⟩ := own y hy
        exact ⟨(lo2 o1).2, fun z => o2 (by rw [z]; exact hwl), rfl, (lo2 o1).1⟩, Nat.zero_le _⟩
    exact { num := ⟨d4, B4 _ _ e4 (by simp)⟩, le := h2, hwl := upd_same, top := f0, kids := trivial, wf := WF.new (by omega), below := trivial, apart := fun z hz => absurd hz List.not_mem_nil, gs := fun b o e => (nomatch e), gn := fun b o _ => .inr rfl,
            gnn := ⟨rfl, rfl, (fun z => by rw [z] at e4; rw [e4] at hwl; cases hwl), hn, wl0⟩, h0 := fun b o e => B4 _ _ (S3 _ _ e) (by simp), st := st_start (by rw [h3]; exact e), first := ⟨[], rfl⟩, sz := h1 }
  generalize upd H' wl (.lst [.ref p]) = H4 at I0 ⊢
  repeat walk_at "s1"
  clear S3 lo lo2 b3 h4 h5 h6 h7 h8 h9 h13 h14 h15 h16 e4 S2 num2 B2 en same1 S1 B1 num1 e
  refine ⟨PW K l a H n wl p, ⟨_, none, rfl, .inl ⟨_, _, _, _, I0, rfl⟩⟩, ?_⟩
  clear I0
  rintro m σ Hc ⟨x4, rfl, ⟨G, x, S, i, I, rfl⟩ | ⟨i, I, rfl⟩⟩
  · -- one more turn
    have cq := I.hwl
    repeat walk_at "s1"
    refine ⟨small, fun q hq => ?_⟩
    have I1 := I.new (o := .lst []) hq
    have hq1 : upd Hc q (.lst []) q = some (.lst []) := upd_same
    clear I cq
    generalize upd Hc q (.lst []) = H5 at I1 hq1 ⊢
    refine ⟨wl, q, _, rfl, rfl, I1.hwl, hq1, ?_⟩
    have ne : (!(stack (x :: S)).isEmpty) = true := by rw [stack_cons]; simp
    rw [ne]
    repeat walk_at "s1"
    refine iteT ⟨PW K l a H n wl p |> fun W σ' H' => ∃ m', m' < 2 * (l.length - i) + S.length + 1 ∧ W m' σ' H', fun _ _ z => z, ?_⟩
    have hsw : SqL K H5 wl (stack (x :: S)) := .inl (.inl I1.hwl)
    repeat walk_at "s1"
    refine k_ixL hsw (by rw [stack_cons]; exact atI_last _ _) ?_
    repeat walk_at "s1"
    refine k_methK I1.top.fr.hins rfl ?_
    repeat walk_at "s1"
    obtain ⟨_, _, _, _, _, f6, f7, _⟩ := p_fd T I1.top.fr.hins
    refine ⟨x.p, x.il, x.f.hd.count, x.ks, rfl, f6, f7, I1.top.fr.hil, ?_⟩
    repeat walk_at "s1"
    have kl : x.ks.length = x.f.inn.length := All2.len I1.kids
    have kc : x.ks.length ≤ 9 := by have := I1.wf.le; have := count9 I1.top.parts; omega
    have ac9 : x.as.length ≤ 9 := by have := All2.len I1.top.fr.acts; have := I1.wf.al; have := count9 I1.top.parts; omega
    have fresh := I1.top.fresh
    have xn : x.p ≠ n := (fresh x.p (by simp [FA.own])).1
    by_cases c : x.ks.length = x.f.hd.count
    · rw [decide_eq_true c]
      refine iteT ?_
      have c' : x.f.inn.length = x.f.hd.count := by rw [← kl]; exact c
      repeat walk_at "s1"
      refine k_methK I1.top.fr.hins rfl ?_
      obtain ⟨g1, g2⟩ := I1.num.fd T
      repeat walk_at "s1"
      have gp : G x.p = none := (fresh x.p (by simp [FA.own])).2.2.1
      refine ⟨x.p, x.dx, x.pa, x.ac, x.il, _, _, x.f.hd.w, x.f.tm, i, _, x.ks, x.f.inn.map Sg49.Contract.last, x.f.inn.map (fun c => (c.long : Int)), x.f.build.last, (x.f.build.long : Nat), rfl, I1.top.fr.hins, I1.top.fr.hil, by omega, fun w3 => ?_, kidF_of T I1.gs gp (fun c q h => (h.kid T I1.gs).1) I1.kids, kidF_of T I1.gs gp (fun c q h => (h.kid T I1.gs).2.1) I1.kids, build_last I1.wf c', ?_, fun H' b hp' => ?_⟩
      · obtain ⟨m, hm⟩ := w_wait w3
        rw [c, hm]
        exact Nat.succ_pos m
      · rw [stepsW_steps I1.wf c']
        exact build_long I1.wf c'
      · have hwl' : H' wl = some (.lst (stack (x :: S))) := b _ _ I1.hwl (by simp; exact Ne.symm (fresh x.p (by simp [FA.own])).2.1)
        repeat walk_at "s1"
        refine k_var rfl ⟨ty_list (.inl (.inl hwl')), wl, stack (x :: S), .ref x.p, rfl, rfl, hwl', ?_, ?_⟩
        · rw [stack_cons]; simp
        · rcases I1.pop c' (vE := (i : Nat)) rfl b hp' rfl with ⟨rfl, P⟩ | ⟨g, S', G', rfl, P⟩
          · exact ⟨2 * (l.length - i), by simp, _, rfl, .inr ⟨i, P, rfl⟩⟩
          · exact ⟨2 * (l.length - i) + S'.length + 1, by rw [List.length_cons]; omega, _, rfl, .inl ⟨_, _, _, _, P, rfl⟩⟩
    · rw [decide_eq_false c]
      refine iteF ?_
      have cl : x.f.inn.length < x.f.hd.count := by have := I1.wf.le; omega
      repeat walk_at "s1"
      refine ⟨ty_list hsw, ?_⟩
      repeat walk_at "s1"
      refine k_methK I1.top.fr.hins rfl ?_
      repeat walk_at "s1"
      refine ⟨x.p, n, x.dx, x.pa, x.ac, x.il, x.f, x.as, x.ks, a, i, l, rfl, I1.top.fr, kl, cl, by omega, by omega, I1.wf.n, I1.num, fun H' b => I1.row hs b, I1.le, xn, fun hf H' i' hn' b => ?_, fun f1 d i1 h r e1 e2 hi1 H' j q' dq pa' ac' il' vs as' g1 g2 g3 g4 g5 g6 g7 g8 g9 g10 g11 g12 g13 g14 g15 => ?_⟩
      · have e : Sg49.contract 400 l = none := by
          rcases hf with e | ⟨f1, r, e⟩ | ⟨f1, d, r, e, e'⟩
          · exact I1.st.fail1 cl e
          · exact I1.st.fail2 cl e
          · exact I1.st.fail3 cl e e'
        refine qE (read_none e) H' fun y o e => b _ _ (I1.h0 _ _ e) ?_
        simp only [List.mem_cons, List.not_mem_nil, or_false]
        rintro (rfl | rfl | rfl)
        · rw [hn] at e; cases e
        · rw [(fresh x.p (by simp [FA.own])).2.2.2] at e; cases e
        · rw [(fresh x.ac (by simp [FA.own])).2.2.2] at e; cases e
      · have hwl' : H' wl = some (.lst (stack (x :: S))) := g5 _ _ I1.hwl (by
          simp only [List.mem_cons, List.not_mem_nil, or_false]
          rintro (z | z | z | z)
          · exact I1.gnn.2.2.1 z.symm
          · exact (fresh x.p (by simp [FA.own])).2.1 z.symm
          · exact (fresh x.ac (by simp [FA.own])).2.1 z.symm
          · exact (fresh x.il (by simp [FA.own])).2.1 z.symm)
        have sl : (stack (x :: S)).length < sizeLine := by
          unfold stack
          rw [List.length_reverse, List.length_map, List.length_cons, sizeLine_eq]
          have := I1.sz
          have := I1.le
          omega
        repeat walk_at "s1"
        exact ⟨2 * (l.length - j) + (S.length + 1) + 1, by omega, _, rfl, .inl ⟨_, _, _, _, I1.push cl e1 (by rw [g3]; exact e2) hi1 g1 g2 g4 g5 g6 g7 g8 g9 g10 g11 g12 g13 g14 g15 rfl, rfl⟩⟩
  · -- all is read
    obtain ⟨c, G, e1, e2, e3, e4⟩ := I.ex
    repeat walk_at "s1"
    refine ⟨small, fun q hq => ?_⟩
    have I1 := I.new (o := .lst []) hq
    have hq1 : upd Hc q (.lst []) q = some (.lst []) := upd_same
    clear I
    generalize upd Hc q (.lst []) = H5 at I1 hq1 ⊢
    obtain ⟨c, G, e1, e2, e3, e4⟩ := I1.ex
    refine ⟨wl, q, _, rfl, rfl, I1.hwl, hq1, ?_⟩
    repeat walk_at "s1"
    obtain ⟨dn, en⟩ := id I1.num
    refine iteF ?_
    repeat walk_at "s1"
    refine k_methK en rfl ?_
    repeat walk_at "s1"
    refine ⟨n, a, i, l, rfl, I1.num, seqSame hs I1.h0, ?_⟩
    repeat walk_at "s1"
    have rd := read_of c8 e1
    by_cases il : i = l.length
    · rw [decide_eq_true (by omega)]
      refine iteF ?_
      repeat walk_at "s1"
      rw [if_pos (List.drop_eq_nil_of_le (by omega))] at rd
      exact qQ c rd H5 p G I1.h0 e2 e3 e4
    · rw [decide_eq_false (by omega)]
      refine iteT ?_
      rw [if_neg (fun z => il (by have := congrArg List.length z; rw [List.length_drop, List.length_nil] at this; have := I1.le; omega))] at rd
      exact qE rd H5 I1.h0
end
end SP
set_option maxHeartbeats 2000000
namespace SP
open PySem PySem.Spec PyProof.Rows L2
/-- one step of a reading where nothing is asked -/
local macro_rules | `(tactic| walk_at "s1") => `(tactic| with_reducible first
  | refine k_seq ?_ | refine k_asg ?_ | refine k_if ?_ | refine k_ret ?_ | refine k_set ?_ | refine k_drop ?_ | refine k_next ?_ | refine k_retN ?_
  | refine k_var rfl ?_ | refine k_c ?_ | refine k_fld ?_ | refine k_fldK (by assumption) ?_ | refine k_op ?_ | refine k_plus ?_ | refine k_minus ?_ | refine k_cons ?_ | refine k_nil ?_ | refine k_name ?_
  | refine k_cmp ?_ | refine k_cmpK ?_ | refine k_B ?_ | refine k_blK ?_ | refine k_test ?_ | refine k_meth ?_ | refine k_call ?_ | refine k_CB ?_ | refine k_len (by assumption) ?_
  | refine k_ixT (by assumption) rfl ?_ | refine k_and ?_ | refine k_or ?_ | refine k_not ?_ | refine k_andV ?_ | refine k_orV ?_ | refine k_notV ?_ | refine k_ife ?_ | refine k_chain ?_ | refine k_tup ?_ | refine k_lst ?_
  | refine k_less ?_ | refine k_leq ?_ | refine k_un ?_ | refine k_neg ?_ | refine k_isN ?_ | refine k_notN ?_ | refine k_max ?_ | refine k_min ?_ | refine k_abs ?_ | refine k_bm ?_ | refine k_make ?_ | refine k_app (by assumption) (by assumption) ?_)
/-! ### the readers keep their promises -/
section
variable {P : Program} {w : World} {K : PySem.W.Frag} {mg : Str → Option Value} {base : Heap}
theorem F_Numbers_init (T : Tx K mg) : Fok P w K mg base CX0 1 d_Numbers_init P_Numbers_init (spNumInit K) := ok_Numbers_init T (fun vs H Q E ⟨_, _, _, e, _⟩ => by rw [e]; rfl) (pure_Numbers_init T)
theorem F_Numbers_has_ended (T : Tx K mg) : Fok P w K mg base CX0 1 d_Numbers_has_ended P_Numbers_has_ended (spEnded K) := ok_Numbers_has_ended T (fun vs H Q E ⟨_, _, _, _, e, _⟩ => by rw [e]; rfl) (pure_Numbers_has_ended T)
theorem F_Numbers_one (T : Tx K mg) : Fok P w K mg base (L2N.CX P w) 2 d_Numbers_one P_Numbers_one (spOne K) := ok_Numbers_one T (F_Numbers_has_ended T) (fun vs H Q E ⟨_, _, _, _, _, _, e, _⟩ => by rw [e]; rfl) (pure_Numbers_one T)
theorem rd_len {α : Type} {rd : Sg49.R α} {Rep : Hp → V → α → Prop} {args : List V} : ∀ vs H Q E, spRd K rd Rep args vs H Q E → vs.length = args.length + 1 := fun vs H Q E ⟨_, e, _⟩ => by rw [e]; rfl
theorem F_Numbers_party (T : Tx K mg) : Fok P w K mg base (L2N.CX P w) 3 d_Numbers_party P_Numbers_party (spParty K) := ok_Numbers_party T (F_Numbers_one T) rd_len pure_Numbers_party
theorem F_Numbers_kind (T : Tx K mg) : Fok P w K mg base (L2N.CX P w) 3 d_Numbers_kind_of_money P_Numbers_kind_of_money (spKind K) := ok_Numbers_kind_of_money T (F_Numbers_one T) rd_len pure_Numbers_kind_of_money
theorem F_Numbers_amount (T : Tx K mg) : Fok P w K mg base (L2N.CX P w) 3 d_Numbers_amount P_Numbers_amount (spAmount K) := ok_Numbers_amount T (F_Numbers_one T) rd_len pure_Numbers_amount
theorem F_no_value (T : Tx K mg) : Fok P w K mg base (L2N.CX P w) 3 d_Numbers_value P_Numbers_value spNo :=
  fok (k := 2) (d := d_Numbers_value) (N := N_Numbers_value) T.D_Numbers_value rfl sc_Numbers_value (fun _ _ _ _ _ _ us hl => match us, hl with | [_, _], _ => rfl) (fun _ _ _ _ h => h.elim) (fun _ _ _ _ _ _ _ _ _ _ h => h.elim)
theorem F_no_said (T : Tx K mg) : Fok P w K mg base (L2N.CX P w) 3 d_Numbers_said P_Numbers_said spNo :=
  fok (k := 2) (d := d_Numbers_said) (N := N_Numbers_said) T.D_Numbers_said rfl sc_Numbers_said (fun _ _ _ _ _ _ us hl => match us, hl with | [_, _], _ => rfl) (fun _ _ _ _ h => h.elim) (fun _ _ _ _ _ _ _ _ _ _ h => h.elim)
theorem F_VO (T : Tx K mg) : ∀ k : Nat, k ≤ 41 → Fok P w K mg base (L2N.CX P w) (3 + k) d_Numbers_value P_Numbers_value (spV K k) ∧ Fok P w K mg base (L2N.CX P w) (3 + k) d_Numbers_said P_Numbers_said (spO K k)
  | 0, _ => ⟨F_no_value T, F_no_said T⟩
  | k + 1, h => by
    obtain ⟨iv, io⟩ := F_VO T k (by omega)
    exact ⟨ok_Numbers_value T (kk := 3 + k) (by omega) iv io (F_Numbers_one T) (F_Numbers_kind T) (F_Numbers_party T) (F_Numbers_amount T) rd_len (pure_Numbers_value T k (by omega)),
      ok_Numbers_said T (kk := 3 + k) (by omega) io iv (F_Numbers_one T) rd_len (pure_Numbers_said T k (by omega))⟩
theorem F_Numbers_value (T : Tx K mg) : Fok P w K mg base (L2N.CX P w) 44 d_Numbers_value P_Numbers_value (spValue K 40) := (F_VO T 41 (by omega)).1
theorem F_Numbers_said (T : Tx K mg) : Fok P w K mg base (L2N.CX P w) 44 d_Numbers_said P_Numbers_said (spSaid K 40) := (F_VO T 41 (by omega)).2
theorem F_Numbers_action (T : Tx K mg) : Fok P w K mg base (L2N.CX P w) 45 d_Numbers_action P_Numbers_action (spAction K) := ok_Numbers_action T (F_Numbers_one T) (F_Numbers_amount T) (F_Numbers_party T) (F_Numbers_said T) (F_Numbers_value T) (F_Numbers_kind T) rd_len (pure_Numbers_action T)
theorem F_Pact_read_parts (T : Tx K mg) : Fok P w K mg base (L2N.CX P w) 45 d_Pact_read_parts P_Pact_read_parts (spParts K) := ok_Pact_read_parts T (F_Numbers_value T) (F_Numbers_kind T) (F_Numbers_party T) (F_Numbers_one T) (F_Numbers_said T) (fun vs H Q E ⟨_, _, _, _, _, _, _, _, _, _, _, _, e, _⟩ => by rw [e]; rfl) (pure_Pact_read_parts T)
theorem F_Pact_init (T : Tx K mg) : Fok P w K mg base (L2N.CX P w) 46 d_Pact_init P_Pact_init (spPactInit K) := ok_Pact_init T (F_Pact_read_parts T) (F_Numbers_one T) (fun vs H Q E ⟨_, _, _, _, _, _, _, e, _⟩ => by rw [e]; rfl) (pure_Pact_init T)
theorem F_Pact_is_complete (T : Tx K mg) : Fok P w K mg base CX0 1 d_Pact_is_complete P_Pact_is_complete (spComplete1 K) := ok_Pact_is_complete T (fun vs H Q E ⟨_, _, _, _, e, _⟩ => by rw [e]; rfl) pure_Pact_is_complete
theorem F_Pact_next_inner (T : Tx K mg) : Fok P w K mg base (L2N.CX P w) 48 d_Pact_next_inner P_Pact_next_inner (spNext K) := ok_Pact_next_inner T (F_Pact_init T) (F_Numbers_action T) (F_Numbers_one T) (fun vs H Q E ⟨_, _, _, _, _, _, _, _, _, _, _, _, e, _⟩ => by rw [e]; rfl) (pure_Pact_next_inner T)
theorem F_Pact_complete (T : Tx K mg) : Fok P w K mg base CX0 1 d_Pact_complete P_Pact_complete (spComplete K) := ok_Pact_complete T (fun vs H Q E ⟨_, _, _, _, _, _, _, _, _, _, _, _, _, _, _, _, e, _⟩ => by rw [e]; rfl) (pure_Pact_complete T)
theorem F_pact_of (T : Tx K mg) : Fok P w K mg base (L2N.CX P w) 49 d_pact_of P_pact_of (spPactOf K) := ok_pact_of T (F_Numbers_has_ended T) (F_Pact_is_complete T) (F_Pact_complete T) (F_Pact_next_inner T) (F_Pact_init T) (F_Numbers_init T) (fun vs H Q E ⟨_, _, e, _⟩ => by rw [e]; rfl) (pure_pact_of T)
end
end SP
set_option maxHeartbeats 2000000
namespace SP
open PySem PySem.Spec PyProof.Rows L2
/-- one step of a reading where nothing is asked -/
local macro_rules | `(tactic| walk_at "s1") => `(tactic| with_reducible first
  | refine k_seq ?_ | refine k_asg ?_ | refine k_if ?_ | refine k_ret ?_ | refine k_set ?_ | refine k_drop ?_ | refine k_next ?_ | refine k_retN ?_
  | refine k_var rfl ?_ | refine k_c ?_ | refine k_fld ?_ | refine k_fldK (by assumption) ?_ | refine k_op ?_ | refine k_plus ?_ | refine k_minus ?_ | refine k_cons ?_ | refine k_nil ?_ | refine k_name ?_
  | refine k_cmp ?_ | refine k_cmpK ?_ | refine k_B ?_ | refine k_blK ?_ | refine k_test ?_ | refine k_meth ?_ | refine k_call ?_ | refine k_CB ?_ | refine k_len (by assumption) ?_
  | refine k_ixT (by assumption) rfl ?_ | refine k_and ?_ | refine k_or ?_ | refine k_not ?_ | refine k_andV ?_ | refine k_orV ?_ | refine k_notV ?_ | refine k_ife ?_ | refine k_chain ?_ | refine k_tup ?_ | refine k_lst ?_
  | refine k_less ?_ | refine k_leq ?_ | refine k_un ?_ | refine k_neg ?_ | refine k_isN ?_ | refine k_notN ?_ | refine k_max ?_ | refine k_min ?_ | refine k_abs ?_ | refine k_bm ?_ | refine k_make ?_ | refine k_app (by assumption) (by assumption) ?_)
/-! ### where an agreement stands, in the heap -/
section
variable {K : PySem.W.Frag} {mg : Str → Option Value}
def sF (pact t ac cl sl pi po : V) : List (Str × V) := [("pact", pact), ("time", t), ("accounts", ac), ("choices", cl), ("slots", sl), ("paid_in", pi), ("paid_out", po)]
def uF (st s e pl wl g : V) : List (Str × V) := [("state", st), ("start", s), ("end", e), ("payments", pl), ("warnings", wl), ("has_gone", g)]
def optV : Option Int → V
  | none => .non
  | some z => .int z
def natV (n : Nat) : V := .int (n : Nat)
def rowV (acc : List Nat) (i : Nat) : List V := [natV (acc.getD (4 * i) 0), natV (acc.getD (4 * i + 1) 0), natV (acc.getD (4 * i + 2) 0), natV (acc.getD (4 * i + 3) 0)]
structure SWF (m : Sg49.State) : Prop where
  a : m.accounts.length = 32
  c : m.choices.length = 16
  s : m.slots.length = 16
  i : m.ins.length = 4
  o : m.outs.length = 4
  cf : ∀ z, some z ∈ m.choices → inFar z
  sf : ∀ z, some z ∈ m.slots → inFar z
structure SA where
  st : Addr
  dst : Addr
  ac : Addr
  cl : Addr
  sl : Addr
  pi : Addr
  po : Addr
  rows : List Addr
def SA.own (s : SA) : List Addr := s.st :: s.ac :: s.cl :: s.sl :: s.pi :: s.po :: s.rows
structure StAt (K : PySem.W.Frag) (H : Hp) (s : SA) (pact : Addr) (m : Sg49.State) : Prop where
  hst : H s.st = some (.ins (CS K) s.dst (sF (.ref pact) (.int m.least) (.ref s.ac) (.ref s.cl) (.ref s.sl) (.ref s.pi) (.ref s.po)))
  hac : H s.ac = some (.lst (s.rows.map V.ref))
  rl : s.rows.length = 8
  hrow : ∀ (i : Nat) (r : Addr), s.rows[i]? = some r → H r = some (.lst (rowV m.accounts i))
  hcl : H s.cl = some (.lst (m.choices.map optV))
  hsl : H s.sl = some (.lst (m.slots.map optV))
  hpi : H s.pi = some (.lst (m.ins.map natV))
  hpo : H s.po = some (.lst (m.outs.map natV))
  nd : s.own.Nodup
  wf : SWF m
theorem nd_ne {l : List Addr} (h : l.Nodup) {i j : Nat} {x y : Addr} (n : i ≠ j) (hi : l[i]? = some x) (hj : l[j]? = some y) : x ≠ y := fun z => by
  subst z
  obtain ⟨hi', _⟩ := List.getElem?_eq_some_iff.mp hi
  exact n ((List.getElem?_inj hi' h).mp (hi.trans hj.symm))
variable {H H' : Hp} {s : SA} {pact : Addr} {m : Sg49.State}
/-- it stays where nothing of it is turned -/
theorem StAt.keep (h : StAt K H s pact m) (b : ∀ y ∈ s.own, H' y = H y) : StAt K H' s pact m :=
  ⟨(b _ (by simp [SA.own])).trans h.hst, (b _ (by simp [SA.own])).trans h.hac, h.rl, fun i r e => (b r (by simp [SA.own, List.mem_of_getElem? e])).trans (h.hrow i r e), (b _ (by simp [SA.own])).trans h.hcl, (b _ (by simp [SA.own])).trans h.hsl, (b _ (by simp [SA.own])).trans h.hpi, (b _ (by simp [SA.own])).trans h.hpo, h.nd, h.wf⟩
theorem StAt.is (h : StAt K H s pact m) : ∀ y ∈ s.own, H y ≠ none ∧ ∀ xs, H y ≠ some (.tup xs) := fun y hy => by
  simp only [SA.own, List.mem_cons] at hy
  rcases hy with rfl | rfl | rfl | rfl | rfl | rfl | hy
  · rw [h.hst]; exact ⟨by simp, fun xs => by simp⟩
  · rw [h.hac]; exact ⟨by simp, fun xs => by simp⟩
  · rw [h.hcl]; exact ⟨by simp, fun xs => by simp⟩
  · rw [h.hsl]; exact ⟨by simp, fun xs => by simp⟩
  · rw [h.hpi]; exact ⟨by simp, fun xs => by simp⟩
  · rw [h.hpo]; exact ⟨by simp, fun xs => by simp⟩
  · obtain ⟨i, e⟩ := List.getElem?_of_mem hy
    rw [h.hrow i y e]; exact ⟨by simp, fun xs => by simp⟩
theorem StAt.but {M : List Addr} (h : StAt K H s pact m) (b : But M H H') (n : ∀ y ∈ s.own, y ∉ M) : StAt K H' s pact m := h.keep fun y hy => by
  cases e : H y with
  | none => exact absurd e (h.is y hy).1
  | some o => exact b _ _ e (n y hy)
theorem StAt.row (h : StAt K H s pact m) {i : Nat} (hi : i < 8) : ∃ r, s.rows[i]? = some r ∧ H r = some (.lst (rowV m.accounts i)) := by
  have : i < s.rows.length := by rw [h.rl]; exact hi
  exact ⟨s.rows[i], List.getElem?_eq_getElem this, h.hrow i _ (List.getElem?_eq_getElem this)⟩
theorem rowV_at {acc : List Nat} {i k : Nat} (hk : k < 4) : (rowV acc i)[k]? = some (natV (acc.getD (4 * i + k) 0)) := by
  have : k = 0 ∨ k = 1 ∨ k = 2 ∨ k = 3 := by omega
  rcases this with rfl | rfl | rfl | rfl <;> rfl
theorem rowV_ne {acc : List Nat} {a t i n : Nat} (hk : t < 4) (hi : i ≠ a) : rowV (acc.set (4 * a + t) n) i = rowV acc i := by
  have e : ∀ k, k < 4 → (acc.set (4 * a + t) n).getD (4 * i + k) 0 = acc.getD (4 * i + k) 0 := fun k hk' => by
    rw [List.getD_eq_getElem?_getD, List.getD_eq_getElem?_getD, List.getElem?_set_ne (by omega)]
  unfold rowV
  rw [e 1 (by omega), e 2 (by omega), e 3 (by omega), show 4 * i = 4 * i + 0 from rfl, e 0 (by omega)]
theorem rowV_set {acc : List Nat} {a t n : Nat} (hk : t < 4) (hl : 4 * a + t < acc.length) : rowV (acc.set (4 * a + t) n) a = (rowV acc a).set t (natV n) := by
  have e : ∀ k, k < 4 → k ≠ t → (acc.set (4 * a + t) n).getD (4 * a + k) 0 = acc.getD (4 * a + k) 0 := fun k hk' hn => by
    rw [List.getD_eq_getElem?_getD, List.getD_eq_getElem?_getD, List.getElem?_set_ne (by omega)]
  have e' : (acc.set (4 * a + t) n).getD (4 * a + t) 0 = n := by
    rw [List.getD_eq_getElem?_getD, List.getElem?_set_self hl]; rfl
  have : t = 0 ∨ t = 1 ∨ t = 2 ∨ t = 3 := by omega
  unfold rowV
  rcases this with rfl | rfl | rfl | rfl
  · rw [e 1 (by omega) (by omega), e 2 (by omega) (by omega), e 3 (by omega) (by omega), show 4 * a = 4 * a + 0 from rfl, e']; rfl
  · rw [e', e 2 (by omega) (by omega), e 3 (by omega) (by omega), show 4 * a = 4 * a + 0 from rfl, e 0 (by omega) (by omega)]; rfl
  · rw [e', e 1 (by omega) (by omega), e 3 (by omega) (by omega), show 4 * a = 4 * a + 0 from rfl, e 0 (by omega) (by omega)]; rfl
  · rw [e', e 1 (by omega) (by omega), e 2 (by omega) (by omega), show 4 * a = 4 * a + 0 from rfl, e 0 (by omega) (by omega)]; rfl
/-! what is turned -/
theorem StAt.ne (h : StAt K H s pact m) {i j : Nat} {x y : Addr} (n : i ≠ j) (hi : s.own[i]? = some x) (hj : s.own[j]? = some y) : x ≠ y := nd_ne h.nd n hi hj
theorem own_row {i : Nat} {r : Addr} (e : s.rows[i]? = some r) : s.own[i + 6]? = some r := e
theorem StAt.put (h : StAt K H s pact m) {a t n : Nat} {r : Addr} (hk : t < 4) (ha : a < 8) (e : s.rows[a]? = some r) : StAt K (upd H r (.lst ((rowV m.accounts a).set t (natV n)))) s pact (m.put a t n) := by
  have w := h.wf
  have hl : 4 * a + t < m.accounts.length := by rw [w.a]; omega
  refine ⟨(upd_ne (h.ne (i := 0) (j := a + 6) (by omega) rfl (own_row e))).trans h.hst, (upd_ne (h.ne (i := 1) (j := a + 6) (by omega) rfl (own_row e))).trans h.hac, h.rl, fun i x ex => ?_, (upd_ne (h.ne (i := 2) (j := a + 6) (by omega) rfl (own_row e))).trans h.hcl,
    (upd_ne (h.ne (i := 3) (j := a + 6) (by omega) rfl (own_row e))).trans h.hsl, (upd_ne (h.ne (i := 4) (j := a + 6) (by omega) rfl (own_row e))).trans h.hpi, (upd_ne (h.ne (i := 5) (j := a + 6) (by omega) rfl (own_row e))).trans h.hpo, h.nd, ⟨by show (m.accounts.set _ _).length = 32; rw [List.length_set]; exact w.a, w.c, w.s, w.i, w.o, w.cf, w.sf⟩⟩
  show upd H r _ x = some (.lst (rowV (m.accounts.set (4 * a + t) n) i))
  by_cases c : i = a
  · subst c
    rw [e] at ex; cases ex
    rw [upd_same, rowV_set hk hl]
  · rw [upd_ne (h.ne (i := i + 6) (j := a + 6) (by omega) (own_row ex) (own_row e)), rowV_ne hk c]
    exact h.hrow i x ex
theorem mem_set_opt {l : List (Option Int)} {k : Nat} {v z : Int} (h : some z ∈ l.set k (some v)) : some z ∈ l ∨ z = v := by
  rcases List.mem_or_eq_of_mem_set h with h | h
  · exact .inl h
  · exact .inr (Option.some.inj h)
theorem StAt.choice (h : StAt K H s pact m) {k : Nat} {z : Int} (hz : inFar z) : StAt K (upd H s.cl (.lst ((m.choices.map optV).set k (.int z)))) s pact { m with choices := m.choices.set k (some z) } := by
  have w := h.wf
  refine ⟨(upd_ne (h.ne (i := 0) (j := 2) (by omega) rfl rfl)).trans h.hst, (upd_ne (h.ne (i := 1) (j := 2) (by omega) rfl rfl)).trans h.hac, h.rl, fun i x ex => (upd_ne (h.ne (i := i + 6) (j := 2) (by omega) (own_row ex) rfl)).trans (h.hrow i x ex), ?_,
    (upd_ne (h.ne (i := 3) (j := 2) (by omega) rfl rfl)).trans h.hsl, (upd_ne (h.ne (i := 4) (j := 2) (by omega) rfl rfl)).trans h.hpi, (upd_ne (h.ne (i := 5) (j := 2) (by omega) rfl rfl)).trans h.hpo, h.nd, ⟨w.a, by show (m.choices.set _ _).length = 16; rw [List.length_set]; exact w.c, w.s, w.i, w.o, fun y hy => ?_, w.sf⟩⟩
  · rw [upd_same]
    show _ = some (HO.lst ((m.choices.set k (some z)).map optV))
    rw [List.map_set]; rfl
  · rcases mem_set_opt hy with h | rfl
    · exact w.cf y h
    · exact hz
theorem StAt.slot (h : StAt K H s pact m) {k : Nat} {z : Int} (hz : inFar z) : StAt K (upd H s.sl (.lst ((m.slots.map optV).set k (.int z)))) s pact { m with slots := m.slots.set k (some z) } := by
  have w := h.wf
  refine ⟨(upd_ne (h.ne (i := 0) (j := 3) (by omega) rfl rfl)).trans h.hst, (upd_ne (h.ne (i := 1) (j := 3) (by omega) rfl rfl)).trans h.hac, h.rl, fun i x ex => (upd_ne (h.ne (i := i + 6) (j := 3) (by omega) (own_row ex) rfl)).trans (h.hrow i x ex), (upd_ne (h.ne (i := 2) (j := 3) (by omega) rfl rfl)).trans h.hcl, ?_,
    (upd_ne (h.ne (i := 4) (j := 3) (by omega) rfl rfl)).trans h.hpi, (upd_ne (h.ne (i := 5) (j := 3) (by omega) rfl rfl)).trans h.hpo, h.nd, ⟨w.a, w.c, by show (m.slots.set _ _).length = 16; rw [List.length_set]; exact w.s, w.i, w.o, w.cf, fun y hy => ?_⟩⟩
  · rw [upd_same]
    show _ = some (HO.lst ((m.slots.set k (some z)).map optV))
    rw [List.map_set]; rfl
  · rcases mem_set_opt hy with h | rfl
    · exact w.sf y h
    · exact hz
theorem StAt.paidIn (h : StAt K H s pact m) {t n : Nat} : StAt K (upd H s.pi (.lst ((m.ins.map natV).set t (natV (m.ins.getD t 0 + n))))) s pact (m.paidIn t n) := by
  have w := h.wf
  refine ⟨(upd_ne (h.ne (i := 0) (j := 4) (by omega) rfl rfl)).trans h.hst, (upd_ne (h.ne (i := 1) (j := 4) (by omega) rfl rfl)).trans h.hac, h.rl, fun i x ex => (upd_ne (h.ne (i := i + 6) (j := 4) (by omega) (own_row ex) rfl)).trans (h.hrow i x ex), (upd_ne (h.ne (i := 2) (j := 4) (by omega) rfl rfl)).trans h.hcl,
    (upd_ne (h.ne (i := 3) (j := 4) (by omega) rfl rfl)).trans h.hsl, ?_, (upd_ne (h.ne (i := 5) (j := 4) (by omega) rfl rfl)).trans h.hpo, h.nd, ⟨w.a, w.c, w.s, by show (m.ins.set _ _).length = 4; rw [List.length_set]; exact w.i, w.o, w.cf, w.sf⟩⟩
  rw [upd_same]
  show _ = some (HO.lst ((m.ins.set t (m.ins.getD t 0 + n)).map natV))
  rw [List.map_set]
theorem StAt.paidOut (h : StAt K H s pact m) {t n : Nat} : StAt K (upd H s.po (.lst ((m.outs.map natV).set t (natV (m.outs.getD t 0 + n))))) s pact (m.paidOut t n) := by
  have w := h.wf
  refine ⟨(upd_ne (h.ne (i := 0) (j := 5) (by omega) rfl rfl)).trans h.hst, (upd_ne (h.ne (i := 1) (j := 5) (by omega) rfl rfl)).trans h.hac, h.rl, fun i x ex => (upd_ne (h.ne (i := i + 6) (j := 5) (by omega) (own_row ex) rfl)).trans (h.hrow i x ex), (upd_ne (h.ne (i := 2) (j := 5) (by omega) rfl rfl)).trans h.hcl,
    (upd_ne (h.ne (i := 3) (j := 5) (by omega) rfl rfl)).trans h.hsl, (upd_ne (h.ne (i := 4) (j := 5) (by omega) rfl rfl)).trans h.hpi, ?_, h.nd, ⟨w.a, w.c, w.s, w.i, by show (m.outs.set _ _).length = 4; rw [List.length_set]; exact w.o, w.cf, w.sf⟩⟩
  rw [upd_same]
  show _ = some (HO.lst ((m.outs.set t (m.outs.getD t 0 + n)).map natV))
  rw [List.map_set]
theorem StAt.field (h : StAt K H s pact m) {pact' : Addr} {t : Int} : StAt K (upd H s.st (.ins (CS K) s.dst (sF (.ref pact') (.int t) (.ref s.ac) (.ref s.cl) (.ref s.sl) (.ref s.pi) (.ref s.po)))) s pact' { m with least := t } := by
  have w := h.wf
  exact ⟨upd_same, (upd_ne (h.ne (i := 1) (j := 0) (by omega) rfl rfl)).trans h.hac, h.rl, fun i x ex => (upd_ne (h.ne (i := i + 6) (j := 0) (by omega) (own_row ex) rfl)).trans (h.hrow i x ex), (upd_ne (h.ne (i := 2) (j := 0) (by omega) rfl rfl)).trans h.hcl,
    (upd_ne (h.ne (i := 3) (j := 0) (by omega) rfl rfl)).trans h.hsl, (upd_ne (h.ne (i := 4) (j := 0) (by omega) rfl rfl)).trans h.hpi, (upd_ne (h.ne (i := 5) (j := 0) (by omega) rfl rfl)).trans h.hpo, h.nd, ⟨w.a, w.c, w.s, w.i, w.o, w.cf, w.sf⟩⟩
theorem StAt.fd (T : Tx K mg) (h : StAt K H s pact m) : Fd K H s.st "pact" (.ref pact) ∧ Fd K H s.st "time" (.int m.least) ∧ Fd K H s.st "accounts" (.ref s.ac) ∧ Fd K H s.st "choices" (.ref s.cl) ∧ Fd K H s.st "slots" (.ref s.sl) ∧ Fd K H s.st "paid_in" (.ref s.pi) ∧ Fd K H s.st "paid_out" (.ref s.po) :=
  ⟨⟨_, _, _, h.hst, T.c_State, T.n_State_pact, rfl⟩, ⟨_, _, _, h.hst, T.c_State, T.n_State_time, rfl⟩, ⟨_, _, _, h.hst, T.c_State, T.n_State_accounts, rfl⟩, ⟨_, _, _, h.hst, T.c_State, T.n_State_choices, rfl⟩, ⟨_, _, _, h.hst, T.c_State, T.n_State_slots, rfl⟩,
   ⟨_, _, _, h.hst, T.c_State, T.n_State_paid_in, rfl⟩, ⟨_, _, _, h.hst, T.c_State, T.n_State_paid_out, rfl⟩⟩
theorem atI_row (h : StAt K H s pact m) {i : Nat} (hi : i < 8) : ∃ r, s.rows[i]? = some r ∧ H r = some (.lst (rowV m.accounts i)) ∧ atI (s.rows.map V.ref) (i : Int) = some (.ref r) := by
  obtain ⟨r, e, h2⟩ := h.row hi
  exact ⟨r, e, h2, atI_nat (by rw [List.getElem?_map, e]; rfl)⟩
theorem atI_rowV {acc : List Nat} {i k : Nat} (hk : k < 4) : atI (rowV acc i) (k : Int) = some (natV (acc.getD (4 * i + k) 0)) := atI_nat (rowV_at hk)
theorem atI_opt {l : List (Option Int)} {k : Nat} (hk : k < l.length) : atI (l.map optV) (k : Int) = some (optV (l.getD k none)) := atI_nat (by
  rw [List.getElem?_map, List.getElem?_eq_getElem hk, List.getD_eq_getElem?_getD, List.getElem?_eq_getElem hk]; rfl)
theorem atI_natV {l : List Nat} {k : Nat} (hk : k < l.length) : atI (l.map natV) (k : Int) = some (natV (l.getD k 0)) := atI_nat (by
  rw [List.getElem?_map, List.getElem?_eq_getElem hk, List.getD_eq_getElem?_getD, List.getElem?_eq_getElem hk]; rfl)
end
end SP
set_option maxHeartbeats 2000000
namespace SP
open PySem PySem.Spec PyProof.Rows L2
/-- one step of a reading where nothing is asked -/
local macro_rules | `(tactic| walk_at "s1") => `(tactic| with_reducible first
  | refine k_seq ?_ | refine k_asg ?_ | refine k_if ?_ | refine k_ret ?_ | refine k_set ?_ | refine k_drop ?_ | refine k_next ?_ | refine k_retN ?_
  | refine k_var rfl ?_ | refine k_c ?_ | refine k_fld ?_ | refine k_fldK (by assumption) ?_ | refine k_op ?_ | refine k_plus ?_ | refine k_minus ?_ | refine k_cons ?_ | refine k_nil ?_ | refine k_name ?_
  | refine k_cmp ?_ | refine k_cmpK ?_ | refine k_B ?_ | refine k_blK ?_ | refine k_test ?_ | refine k_meth ?_ | refine k_call ?_ | refine k_CB ?_ | refine k_len (by assumption) ?_
  | refine k_ixT (by assumption) rfl ?_ | refine k_and ?_ | refine k_or ?_ | refine k_not ?_ | refine k_andV ?_ | refine k_orV ?_ | refine k_notV ?_ | refine k_ife ?_ | refine k_chain ?_ | refine k_tup ?_ | refine k_lst ?_
  | refine k_less ?_ | refine k_leq ?_ | refine k_un ?_ | refine k_neg ?_ | refine k_isN ?_ | refine k_notN ?_ | refine k_max ?_ | refine k_min ?_ | refine k_abs ?_ | refine k_bm ?_ | refine k_make ?_ | refine k_app (by assumption) (by assumption) ?_)
/-! ### values and whether something is so -/
section
variable {K : PySem.W.Frag} {mg : Str → Option Value}
local macro_rules | `(tactic| walk_at "s2") => `(tactic| first | walk_at "s1" | refine iteT ?_ | refine iteF ?_)
theorem cut_far (z : Int) : inFar (Sg49.cut z) := by
  unfold inFar Sg49.cut FAR Sg49.FAR
  by_cases c : z < -1000000000000000
  · rw [if_pos c]; omega
  · rw [if_neg c]
    by_cases c2 : (1000000000000000 : Int) < z
    · rw [if_pos c2]; omega
    · rw [if_neg c2]; omega
theorem cut_id {z : Int} (h : inFar z) : Sg49.cut z = z := by
  unfold inFar FAR at h
  unfold Sg49.cut Sg49.FAR
  rw [if_neg (by omega), if_neg (by omega)]
def spCut : Sp := fun vs H Q _ => ∃ z : Int, vs = [.int z] ∧ Q (.int (Sg49.cut z)) H
theorem cut_eq (z : Int) : (if (if z < 1000000000000000 then z else 1000000000000000) > -1000000000000000 then (if z < 1000000000000000 then z else 1000000000000000) else -1000000000000000) = Sg49.cut z := by
  unfold Sg49.cut Sg49.FAR
  by_cases c : z < 1000000000000000
  · rw [if_pos c]
    by_cases c2 : z > -1000000000000000
    · rw [if_pos c2, if_neg (by omega), if_neg (by omega)]
    · rw [if_neg c2]
      by_cases c3 : z < -1000000000000000
      · rw [if_pos c3]
      · rw [if_neg c3, if_neg (by omega)]; omega
  · rw [if_neg c, if_pos (by omega), if_neg (by omega)]
    by_cases c2 : (1000000000000000 : Int) < z
    · rw [if_pos c2]
    · rw [if_neg c2]; omega
theorem pure_cut (vs : List V) (H : Hp) (Q : VK) (E : XK) (h : spCut vs H Q E) : t_cut K E { nx := fun _ H' => Q .non H', rt := Q } (start N_cut vs) H := by
  obtain ⟨z, rfl, q⟩ := h
  unfold t_cut
  repeat walk_at "s1"
  rw [← cut_eq z] at q
  exact q
theorem tdiv_eq (i j : Int) (hj : j ≠ 0) : (if decide (i < 0) = decide (j < 0) then (if i < 0 then -i else i) / (if j < 0 then -j else j) else -((if i < 0 then -i else i) / (if j < 0 then -j else j))) = i.tdiv j := by
  by_cases ci : i < 0
  · by_cases cj : j < 0
    · rw [if_pos (by rw [decide_eq_true ci, decide_eq_true cj]), if_pos ci, if_pos cj]
      rw [← Int.tdiv_eq_ediv_of_nonneg (by omega), Int.neg_tdiv, Int.tdiv_neg, Int.neg_neg]
    · rw [if_neg (by rw [decide_eq_true ci, decide_eq_false cj]; simp), if_pos ci, if_neg cj]
      rw [← Int.tdiv_eq_ediv_of_nonneg (by omega), Int.neg_tdiv, Int.neg_neg]
  · by_cases cj : j < 0
    · rw [if_neg (by rw [decide_eq_false ci, decide_eq_true cj]; simp), if_neg ci, if_pos cj]
      rw [← Int.tdiv_eq_ediv_of_nonneg (by omega), Int.tdiv_neg, Int.neg_neg]
    · rw [if_pos (by rw [decide_eq_false ci, decide_eq_false cj]), if_neg ci, if_neg cj]
      rw [← Int.tdiv_eq_ediv_of_nonneg (by omega)]
theorem tdiv_far {i j : Int} (h : inFar i) : inFar (i.tdiv j) := by
  unfold inFar FAR at *
  have h1 : (i.tdiv j).natAbs ≤ i.natAbs := by rw [Int.natAbs_tdiv]; exact Nat.div_le_self _ _
  omega
def spQuot : Sp := fun vs H Q _ => ∃ i j : Int, vs = [.int i, .int j] ∧ inFar i ∧ inFar j ∧ Q (.int (if j = 0 then 0 else i.tdiv j)) H
theorem log_far {j : Int} (h : j.natAbs ≤ 1000000000000000) : j.natAbs.log2 < 9000 := by
  have : j.natAbs.log2 ≤ j.natAbs.log2 := Nat.le_refl _
  by_cases c : j.natAbs = 0
  · rw [c]; decide
  · have h2 : j.natAbs < 2 ^ 9000 := Nat.lt_of_le_of_lt h (Nat.lt_of_lt_of_le (by decide : 1000000000000000 < 2 ^ 50) (Nat.pow_le_pow_right (by omega) (by omega)))
    exact (Nat.log2_lt c).mpr h2
theorem pure_quotient_of (vs : List V) (H : Hp) (Q : VK) (E : XK) (h : spQuot vs H Q E) : t_quotient_of K E { nx := fun _ H' => Q .non H', rt := Q } (start N_quotient_of vs) H := by
  obtain ⟨i, j, rfl, hi, hj, q⟩ := h
  unfold t_quotient_of
  repeat walk_at "s1"
  by_cases c : j = 0
  · rw [decide_eq_true c]
    rw [if_pos c] at q
    exact iteT q
  rw [decide_eq_false c]
  refine iteF ?_
  rw [if_neg c, ← tdiv_eq i j c] at q
  repeat walk_at "s1"
  refine ⟨_, _, rfl, rfl, ⟨?_, ?_⟩, ?_⟩
  · by_cases c2 : j < 0
    · rw [if_pos c2]; omega
    · rw [if_neg c2]; omega
  · refine log_far ?_
    unfold inFar FAR at hj
    by_cases c2 : j < 0
    · rw [if_pos c2]; omega
    · rw [if_neg c2]; omega
  · repeat walk_at "s1"
    refine ⟨rfl, ?_⟩
    repeat walk_at "s1"
    by_cases c3 : decide (i < 0) = decide (j < 0)
    · rw [if_pos c3] at q
      rw [c3, decide_eq_true rfl]
      exact iteT (k_var rfl q)
    · rw [if_neg c3] at q
      rw [decide_eq_false (fun z => c3 (V.bl.inj z))]
      refine iteF ?_
      repeat walk_at "s1"
      exact q
/-- two values joined -/
def joinOf (w i j : Int) : Int := if w = 4 then Sg49.cut (i + j) else if w = 5 then Sg49.cut (i - j) else if w = 6 then Sg49.cut (i * j) else if j = 0 then 0 else i.tdiv j
def spJoined : Sp := fun vs H Q _ => ∃ (x : V) (w i j : Int), vs = [x, .int w, .int i, .int j] ∧ inFar i ∧ inFar j ∧ Q (.int (joinOf w i j)) H
theorem pure_Run_joined (vs : List V) (H : Hp) (Q : VK) (E : XK) (h : spJoined vs H Q E) : t_Run_joined K E spCut spQuot { nx := fun _ H' => Q .non H', rt := Q } (start N_Run_joined vs) H := by
  obtain ⟨x, w, i, j, rfl, hi, hj, q⟩ := h
  unfold joinOf at q
  unfold t_Run_joined
  repeat walk_at "s1"
  by_cases c4 : w = 4
  · rw [decide_eq_true c4]
    rw [if_pos c4] at q
    refine iteT ?_
    repeat walk_at "s1"
    exact ⟨_, rfl, q⟩
  rw [decide_eq_false c4]
  rw [if_neg c4] at q
  refine iteF ?_
  repeat walk_at "s1"
  by_cases c5 : w = 5
  · rw [decide_eq_true c5]
    rw [if_pos c5] at q
    refine iteT ?_
    repeat walk_at "s1"
    exact ⟨_, rfl, q⟩
  rw [decide_eq_false c5]
  rw [if_neg c5] at q
  refine iteF ?_
  repeat walk_at "s1"
  by_cases c6 : w = 6
  · rw [decide_eq_true c6]
    rw [if_pos c6] at q
    refine iteT ?_
    repeat walk_at "s1"
    unfold inFar FAR at hi
    refine ⟨_, _, rfl, rfl, .inl ⟨by omega, by omega⟩, ?_⟩
    repeat walk_at "s1"
    exact ⟨_, rfl, q⟩
  rw [decide_eq_false c6]
  rw [if_neg c6] at q
  refine iteF ?_
  repeat walk_at "s1"
  exact ⟨i, j, rfl, hi, hj, q⟩
structure EnvOk (e : Sg49.Env) : Prop where
  s0 : 0 ≤ e.start
  s1 : e.start ≤ 1099511627776
  e0 : 0 ≤ e.end_
  e1 : e.end_ ≤ 1099511627776
def RunV (K : PySem.W.Frag) (H : Hp) (ru : Addr) (e : Sg49.Env) (m : Sg49.State) : Prop := ∃ (dru : Addr) (pl wl g : V) (s : SA) (pact : Addr), H ru = some (.ins (CU K) dru (uF (.ref s.st) (.int e.start) (.int e.end_) pl wl g)) ∧ StAt K H s pact m ∧ EnvOk e
theorem opt_far {l : List (Option Int)} (h : ∀ z, some z ∈ l → inFar z) (k : Nat) : inFar ((l.getD k none).getD 0) := by
  rw [List.getD_eq_getElem?_getD]
  cases e : l[k]? with
  | none => exact ⟨by decide, by decide⟩
  | some o =>
    cases o with
    | none => exact ⟨by decide, by decide⟩
    | some z => exact h z (List.mem_of_getElem? e)
theorem of_far {G : Hp} {e : Sg49.Env} {m : Sg49.State} (he : EnvOk e) (w : SWF m) : ∀ (n : Nat) (v : V) (x : Sg49.Value), VAt G n v x → inFar (x.of e m)
  | 0, _, _, h => h.elim
  | n + 1, v, x, h => by
    obtain ⟨h1, h2, h3, h4⟩ := he
    cases x with
    | const z => obtain ⟨p, _, _, q⟩ := h; exact q
    | has a t => exact cut_far _
    | chosen c => exact opt_far w.cf c
    | slot c => exact opt_far w.sf c
    | add x y => exact cut_far _
    | sub x y => exact cut_far _
    | mul x y => exact cut_far _
    | div x y =>
      show inFar (if y.of e m = 0 then 0 else Sg49.cut ((x.of e m).tdiv (y.of e m)))
      by_cases c : y.of e m = 0
      · rw [if_pos c]; exact ⟨by decide, by decide⟩
      · rw [if_neg c]; exact cut_far _
    | neg x => exact cut_far _
    | start => show inFar e.start; unfold inFar FAR; omega
    | end_ => show inFar e.end_; unfold inFar FAR; omega
    | cond o x y =>
      obtain ⟨p, c, a, b, _, _, _, q1, q2⟩ := h
      show inFar (if o.of e m = true then x.of e m else y.of e m)
      by_cases c : o.of e m = true
      · rw [if_pos c]; exact of_far ⟨h1, h2, h3, h4⟩ w n _ _ q1
      · rw [if_neg c]; exact of_far ⟨h1, h2, h3, h4⟩ w n _ _ q2
/-- a value's number -/
def spVal (K : PySem.W.Frag) (n : Nat) : Sp := fun vs H Q _ => ∃ (ru : Addr) (e : Sg49.Env) (m : Sg49.State) (v : V) (x : Sg49.Value), vs = [.ref ru, v] ∧ RunV K H ru e m ∧ VAt H n v x ∧ Q (.int (x.of e m)) H
def spIsSo (K : PySem.W.Frag) (n : Nat) : Sp := fun vs H Q _ => ∃ (ru : Addr) (e : Sg49.Env) (m : Sg49.State) (v : V) (x : Sg49.Obs), vs = [.ref ru, v] ∧ RunV K H ru e m ∧ OAt H n v x ∧ Q (.bl (x.of e m)) H
def spVl (K : PySem.W.Frag) : Nat → Sp
  | 0 => spNo
  | n + 1 => spVal K n
theorem tupT {H : Hp} {p : Addr} {xs : List V} (h : H p = some (.tup xs)) : SqT K H p xs := .inl (.inl h)
theorem lstL {H : Hp} {p : Addr} {xs : List V} (h : H p = some (.lst xs)) : SqL K H p xs := .inl (.inl h)
theorem run_fd (T : Tx K mg) {H : Hp} {ru dru : Addr} {st s e pl wl g : V} (h : H ru = some (.ins (CU K) dru (uF st s e pl wl g))) : Fd K H ru "state" st ∧ Fd K H ru "start" s ∧ Fd K H ru "end" e ∧ Fd K H ru "payments" pl ∧ Fd K H ru "warnings" wl ∧ Fd K H ru "has_gone" g :=
  ⟨⟨_, _, _, h, T.c_Run, T.n_Run_state, rfl⟩, ⟨_, _, _, h, T.c_Run, T.n_Run_start, rfl⟩, ⟨_, _, _, h, T.c_Run, T.n_Run_end, rfl⟩, ⟨_, _, _, h, T.c_Run, T.n_Run_payments, rfl⟩, ⟨_, _, _, h, T.c_Run, T.n_Run_warnings, rfl⟩, ⟨_, _, _, h, T.c_Run, T.n_Run_has_gone, rfl⟩⟩

theorem of_const {e : Sg49.Env} {m : Sg49.State} {z : Int} : (Sg49.Value.const z).of e m = z := by rw [Sg49.Value.of]
theorem of_has {e : Sg49.Env} {m : Sg49.State} {a t : Nat} : (Sg49.Value.has a t).of e m = Sg49.cut ((m.has a t : Nat) : Int) := by rw [Sg49.Value.of]
theorem of_chosen {e : Sg49.Env} {m : Sg49.State} {c : Nat} : (Sg49.Value.chosen c).of e m = (m.choices.getD c none).getD 0 := by rw [Sg49.Value.of]
theorem of_slot {e : Sg49.Env} {m : Sg49.State} {c : Nat} : (Sg49.Value.slot c).of e m = (m.slots.getD c none).getD 0 := by rw [Sg49.Value.of]
theorem of_add {e : Sg49.Env} {m : Sg49.State} {x y : Sg49.Value} : (Sg49.Value.add x y).of e m = Sg49.cut (x.of e m + y.of e m) := by rw [Sg49.Value.of]
theorem of_sub {e : Sg49.Env} {m : Sg49.State} {x y : Sg49.Value} : (Sg49.Value.sub x y).of e m = Sg49.cut (x.of e m - y.of e m) := by rw [Sg49.Value.of]
theorem of_mul {e : Sg49.Env} {m : Sg49.State} {x y : Sg49.Value} : (Sg49.Value.mul x y).of e m = Sg49.cut (x.of e m * y.of e m) := by rw [Sg49.Value.of]
theorem of_div {e : Sg49.Env} {m : Sg49.State} {x y : Sg49.Value} : (Sg49.Value.div x y).of e m = if y.of e m = 0 then 0 else Sg49.cut ((x.of e m).tdiv (y.of e m)) := by rw [Sg49.Value.of]
theorem of_neg {e : Sg49.Env} {m : Sg49.State} {x : Sg49.Value} : (Sg49.Value.neg x).of e m = Sg49.cut (-x.of e m) := by rw [Sg49.Value.of]
theorem of_cond {e : Sg49.Env} {m : Sg49.State} {o : Sg49.Obs} {x y : Sg49.Value} : (Sg49.Value.cond o x y).of e m = if o.of e m = true then x.of e m else y.of e m := by rw [Sg49.Value.of]
theorem join4 {i j : Int} : joinOf 4 i j = Sg49.cut (i + j) := by unfold joinOf; rw [if_pos rfl]
theorem join5 {i j : Int} : joinOf 5 i j = Sg49.cut (i - j) := by unfold joinOf; rw [if_neg (by omega), if_pos rfl]
theorem join6 {i j : Int} : joinOf 6 i j = Sg49.cut (i * j) := by unfold joinOf; rw [if_neg (by omega), if_neg (by omega), if_pos rfl]
theorem join7 {i j : Int} : joinOf 7 i j = if j = 0 then 0 else i.tdiv j := by unfold joinOf; rw [if_neg (by omega), if_neg (by omega), if_neg (by omega)]
theorem pure_Run_value (T : Tx K mg) (n : Nat) (vs : List V) (H : Hp) (Q : VK) (E : XK) (h : spVal K (n + 1) vs H Q E) : t_Run_value K E spJoined (spVal K n) spCut (spIsSo K n) { nx := fun _ H' => Q .non H', rt := Q } (start N_Run_value vs) H := by
  obtain ⟨ru, e, m, v, x, rfl, hr, hx, q⟩ := h
  obtain ⟨dru, pl, wl, g, s, pact, hru, hs, he⟩ := id hr
  obtain ⟨f1, f2, f3, _⟩ := run_fd T hru
  obtain ⟨_, _, g3, g4, g5, _⟩ := hs.fd T
  have w := hs.wf
  have bin : ∀ (i : Int) (p : Addr) (a b : V) (y z : Sg49.Value), v = .ref p → 4 ≤ i → i ≤ 7 → H p = some (.tup [.int i, a, b]) → VAt H n a y → VAt H n b z → Q (.int (joinOf i (y.of e m) (z.of e m))) H →
      t_Run_value K E spJoined (spVal K n) spCut (spIsSo K n) { nx := fun _ H' => Q .non H', rt := Q } (start N_Run_value [.ref ru, v]) H := by
    intro i p a b y z ev h4 h7 hp ha hb q
    subst ev
    have hT := tupT (K := K) hp
    unfold t_Run_value
    repeat walk_at "s1"
    rw [decide_eq_false (by omega)]
    refine iteF ?_
    repeat walk_at "s1"
    rw [decide_eq_false (by omega)]
    refine iteF ?_
    repeat walk_at "s1"
    rw [decide_eq_false (by omega)]
    refine iteF ?_
    repeat walk_at "s1"
    rw [decide_eq_false (by omega)]
    refine iteF ?_
    repeat walk_at "s1"
    rw [decide_eq_false (by omega)]
    refine iteF ?_
    repeat walk_at "s1"
    rw [decide_eq_false (by omega)]
    refine iteF ?_
    repeat walk_at "s1"
    rw [decide_eq_false (by omega)]
    refine iteF ?_
    repeat walk_at "s1"
    refine k_methK hru rfl ?_
    repeat walk_at "s1"
    refine ⟨ru, e, m, a, y, rfl, hr, ha, ?_⟩
    repeat walk_at "s1"
    rw [decide_eq_false (by omega)]
    refine iteF ?_
    repeat walk_at "s1"
    refine k_methK hru rfl ?_
    repeat walk_at "s1"
    refine k_methK hru rfl ?_
    repeat walk_at "s1"
    refine ⟨ru, e, m, b, z, rfl, hr, hb, ?_⟩
    repeat walk_at "s1"
    exact ⟨_, i, _, _, rfl, of_far he w _ _ _ ha, of_far he w _ _ _ hb, q⟩
  cases x with
  | const z =>
    obtain ⟨p, rfl, hp, _⟩ := hx
    have hT := tupT (K := K) hp
    rw [of_const] at q
    unfold t_Run_value
    repeat walk_at "s2"
    exact q
  | has a t =>
    obtain ⟨p, rfl, hp, ha, ht⟩ := hx
    have hT := tupT (K := K) hp
    obtain ⟨r, er, hrow, eat⟩ := atI_row hs ha
    rw [of_has] at q
    unfold t_Run_value
    repeat walk_at "s2"
    refine k_ixL (lstL hs.hac) eat ?_
    repeat walk_at "s1"
    refine k_ixL (lstL hrow) (atI_rowV ht) ?_
    repeat walk_at "s1"
    exact ⟨_, rfl, q⟩
  | chosen c =>
    obtain ⟨p, rfl, hp, hc⟩ := hx
    have hT := tupT (K := K) hp
    unfold t_Run_value
    repeat walk_at "s2"
    refine k_ixL (lstL hs.hcl) (atI_opt (by rw [w.c]; exact hc)) ?_
    repeat walk_at "s1"
    rw [of_chosen] at q
    cases e : m.choices.getD c none with
    | none => rw [e] at q; exact iteT (k_c q)
    | some z => rw [e] at q; exact iteF (k_var rfl q)
  | slot c =>
    obtain ⟨p, rfl, hp, hc⟩ := hx
    have hT := tupT (K := K) hp
    unfold t_Run_value
    repeat walk_at "s2"
    refine k_ixL (lstL hs.hsl) (atI_opt (by rw [w.s]; exact hc)) ?_
    repeat walk_at "s1"
    rw [of_slot] at q
    cases e : m.slots.getD c none with
    | none => rw [e] at q; exact iteT (k_c q)
    | some z => rw [e] at q; exact iteF (k_var rfl q)
  | add x y =>
    obtain ⟨p, a, b, rfl, hp, ha, hb⟩ := hx
    exact bin 4 p a b x y rfl (by omega) (by omega) hp ha hb (by rw [join4, ← of_add]; exact q)
  | sub x y =>
    obtain ⟨p, a, b, rfl, hp, ha, hb⟩ := hx
    exact bin 5 p a b x y rfl (by omega) (by omega) hp ha hb (by rw [join5, ← of_sub]; exact q)
  | mul x y =>
    obtain ⟨p, a, b, rfl, hp, ha, hb⟩ := hx
    exact bin 6 p a b x y rfl (by omega) (by omega) hp ha hb (by rw [join6, ← of_mul]; exact q)
  | div x y =>
    obtain ⟨p, a, b, rfl, hp, ha, hb⟩ := hx
    refine bin 7 p a b x y rfl (by omega) (by omega) hp ha hb ?_
    rw [of_div, cut_id (tdiv_far (of_far he w _ _ _ ha)), ← join7] at q
    exact q
  | neg x =>
    obtain ⟨p, a, rfl, hp, ha⟩ := hx
    have hT := tupT (K := K) hp
    rw [of_neg] at q
    unfold t_Run_value
    repeat walk_at "s2"
    refine k_methK hru rfl ?_
    repeat walk_at "s1"
    refine ⟨ru, e, m, a, x, rfl, hr, ha, ?_⟩
    repeat walk_at "s2"
    exact ⟨_, rfl, q⟩
  | start =>
    obtain ⟨p, rfl, hp⟩ := hx
    have hT := tupT (K := K) hp
    unfold t_Run_value
    repeat walk_at "s2"
    exact q
  | end_ =>
    obtain ⟨p, rfl, hp⟩ := hx
    have hT := tupT (K := K) hp
    unfold t_Run_value
    repeat walk_at "s2"
    exact q
  | cond o x y =>
    obtain ⟨p, c, a, b, rfl, hp, hc, ha, hb⟩ := hx
    have hT := tupT (K := K) hp
    rw [of_cond] at q
    unfold t_Run_value
    repeat walk_at "s2"
    refine k_methK hru rfl ?_
    repeat walk_at "s1"
    refine k_methK hru rfl ?_
    repeat walk_at "s1"
    refine ⟨ru, e, m, c, o, rfl, hr, hc, ?_⟩
    repeat walk_at "s1"
    by_cases k : o.of e m = true
    · rw [if_pos k] at q
      rw [k]
      refine iteT ?_
      repeat walk_at "s1"
      exact ⟨ru, e, m, a, x, rfl, hr, ha, q⟩
    · rw [if_neg k] at q
      rw [Bool.eq_false_iff.mpr k]
      refine iteF ?_
      repeat walk_at "s1"
      exact ⟨ru, e, m, b, y, rfl, hr, hb, q⟩
theorem pure_Run_is_so (T : Tx K mg) (n : Nat) (vs : List V) (H : Hp) (Q : VK) (E : XK) (h : spIsSo K (n + 1) vs H Q E) : t_Run_is_so K E (spIsSo K n) (spVal K n) { nx := fun _ H' => Q .non H', rt := Q } (start N_Run_is_so vs) H := by
  obtain ⟨ru, e, m, v, x, rfl, hr, hx, q⟩ := h
  obtain ⟨dru, pl, wl, g, s, pact, hru, hs, he⟩ := id hr
  obtain ⟨f1, f2, f3, _⟩ := run_fd T hru
  obtain ⟨_, _, g3, g4, g5, _⟩ := hs.fd T
  have w := hs.wf
  cases x with
  | yes =>
    obtain ⟨p, rfl, hp⟩ := hx
    have hT := tupT (K := K) hp
    unfold t_Run_is_so
    repeat walk_at "s2"
    exact q
  | no =>
    obtain ⟨p, rfl, hp⟩ := hx
    have hT := tupT (K := K) hp
    unfold t_Run_is_so
    repeat walk_at "s2"
    exact q
  | made c =>
    obtain ⟨p, rfl, hp, hc⟩ := hx
    have hT := tupT (K := K) hp
    unfold t_Run_is_so
    repeat walk_at "s2"
    refine k_ixL (lstL hs.hcl) (atI_opt (by rw [w.c]; exact hc)) ?_
    repeat walk_at "s1"
    replace q : Q (.bl (m.choices.getD c none).isSome) H := q
    cases e : m.choices.getD c none with
    | none => rw [e] at q; exact q
    | some z => rw [e] at q; exact q
  | atLeast x y =>
    obtain ⟨p, a, b, rfl, hp, ha, hb⟩ := hx
    have hT := tupT (K := K) hp
    unfold t_Run_is_so
    repeat walk_at "s2"
    refine k_methK hru rfl ?_
    repeat walk_at "s1"
    refine ⟨ru, e, m, a, x, rfl, hr, ha, ?_⟩
    repeat walk_at "s1"
    refine k_methK hru rfl ?_
    repeat walk_at "s1"
    refine ⟨ru, e, m, b, y, rfl, hr, hb, ?_⟩
    repeat walk_at "s1"
    exact q
  | same x y =>
    obtain ⟨p, a, b, rfl, hp, ha, hb⟩ := hx
    have hT := tupT (K := K) hp
    unfold t_Run_is_so
    repeat walk_at "s2"
    refine k_methK hru rfl ?_
    repeat walk_at "s1"
    refine ⟨ru, e, m, a, x, rfl, hr, ha, ?_⟩
    repeat walk_at "s1"
    refine k_methK hru rfl ?_
    repeat walk_at "s1"
    refine ⟨ru, e, m, b, y, rfl, hr, hb, ?_⟩
    repeat walk_at "s1"
    exact q
  | and x y =>
    obtain ⟨p, a, b, rfl, hp, ha, hb⟩ := hx
    have hT := tupT (K := K) hp
    replace q : Q (.bl (x.of e m && y.of e m)) H := q
    unfold t_Run_is_so
    repeat walk_at "s2"
    refine k_methK hru rfl ?_
    repeat walk_at "s1"
    refine ⟨ru, e, m, a, x, rfl, hr, ha, ?_⟩
    repeat walk_at "s1"
    cases k : x.of e m with
    | true =>
      rw [k] at q
      refine iteT ?_
      repeat walk_at "s1"
      refine k_methK hru rfl ?_
      repeat walk_at "s1"
      exact ⟨ru, e, m, b, y, rfl, hr, hb, q⟩
    | false => rw [k] at q; exact iteF q
  | or x y =>
    obtain ⟨p, a, b, rfl, hp, ha, hb⟩ := hx
    have hT := tupT (K := K) hp
    replace q : Q (.bl (x.of e m || y.of e m)) H := q
    unfold t_Run_is_so
    repeat walk_at "s2"
    refine k_methK hru rfl ?_
    repeat walk_at "s1"
    refine ⟨ru, e, m, a, x, rfl, hr, ha, ?_⟩
    repeat walk_at "s1"
    cases k : x.of e m with
    | false =>
      rw [k] at q
      refine iteF ?_
      repeat walk_at "s1"
      refine k_methK hru rfl ?_
      repeat walk_at "s1"
      exact ⟨ru, e, m, b, y, rfl, hr, hb, q⟩
    | true => rw [k] at q; exact iteT q
  | not x =>
    obtain ⟨p, a, rfl, hp, ha⟩ := hx
    have hT := tupT (K := K) hp
    unfold t_Run_is_so
    repeat walk_at "s2"
    refine k_methK hru rfl ?_
    repeat walk_at "s1"
    refine ⟨ru, e, m, a, x, rfl, hr, ha, ?_⟩
    repeat walk_at "s1"
    exact q
variable {P : Program} {w : World} {base : Heap}
theorem F_cut (T : Tx K mg) : Fok P w K mg base CX0 1 d_cut P_cut spCut := ok_cut T (fun vs H Q E ⟨_, e, _⟩ => by rw [e]; rfl) pure_cut
theorem F_quotient_of (T : Tx K mg) : Fok P w K mg base CX0 1 d_quotient_of P_quotient_of spQuot := ok_quotient_of T (fun vs H Q E ⟨_, _, e, _⟩ => by rw [e]; rfl) pure_quotient_of
theorem F_Run_joined (T : Tx K mg) : Fok P w K mg base CX0 2 d_Run_joined P_Run_joined spJoined := ok_Run_joined T (F_cut T) (F_quotient_of T) (fun vs H Q E ⟨_, _, _, _, e, _⟩ => by rw [e]; rfl) pure_Run_joined
theorem F_RV (T : Tx K mg) : ∀ k : Nat, Fok P w K mg base CX0 (2 + k) d_Run_value P_Run_value (spVal K k) ∧ Fok P w K mg base CX0 (2 + k) d_Run_is_so P_Run_is_so (spIsSo K k)
  | 0 => ⟨fok (k := 1) (d := d_Run_value) (N := N_Run_value) T.D_Run_value rfl sc_Run_value (fun _ _ _ _ _ _ us hl => match us, hl with | [_, _], _ => rfl) (fun _ _ _ _ ⟨_, _, _, _, _, e, _⟩ => by rw [e]; rfl) (fun _ _ _ _ _ _ _ _ _ _ ⟨_, _, _, _, _, _, _, h, _⟩ => h.elim),
      fok (k := 1) (d := d_Run_is_so) (N := N_Run_is_so) T.D_Run_is_so rfl sc_Run_is_so (fun _ _ _ _ _ _ us hl => match us, hl with | [_, _], _ => rfl) (fun _ _ _ _ ⟨_, _, _, _, _, e, _⟩ => by rw [e]; rfl) (fun _ _ _ _ _ _ _ _ _ _ ⟨_, _, _, _, _, _, _, h, _⟩ => h.elim)⟩
  | k + 1 => by
    obtain ⟨iv, io⟩ := F_RV T k
    exact ⟨ok_Run_value T (kk := 2 + k) (by omega) (F_Run_joined T) iv (F_cut T) io (fun _ _ _ _ ⟨_, _, _, _, _, e, _⟩ => by rw [e]; rfl) (pure_Run_value T k), ok_Run_is_so T (kk := 2 + k) (by omega) io iv (fun _ _ _ _ ⟨_, _, _, _, _, e, _⟩ => by rw [e]; rfl) (pure_Run_is_so T k)⟩
theorem F_Run_value (T : Tx K mg) : Fok P w K mg base CX0 43 d_Run_value P_Run_value (spVal K 40) := ((F_RV T 40).1).mono (by omega)
theorem F_Run_is_so (T : Tx K mg) : Fok P w K mg base CX0 43 d_Run_is_so P_Run_is_so (spIsSo K 40) := ((F_RV T 40).2).mono (by omega)
end
end SP
set_option maxHeartbeats 2000000
namespace SP
open PySem PySem.Spec PyProof.Rows L2
/-- one step of a reading where nothing is asked -/
local macro_rules | `(tactic| walk_at "s1") => `(tactic| with_reducible first
  | refine k_seq ?_ | refine k_asg ?_ | refine k_if ?_ | refine k_ret ?_ | refine k_set ?_ | refine k_drop ?_ | refine k_next ?_ | refine k_retN ?_
  | refine k_var rfl ?_ | refine k_c ?_ | refine k_fld ?_ | refine k_fldK (by assumption) ?_ | refine k_op ?_ | refine k_plus ?_ | refine k_minus ?_ | refine k_cons ?_ | refine k_nil ?_ | refine k_name ?_
  | refine k_cmp ?_ | refine k_cmpK ?_ | refine k_B ?_ | refine k_blK ?_ | refine k_test ?_ | refine k_meth ?_ | refine k_call ?_ | refine k_CB ?_ | refine k_len (by assumption) ?_
  | refine k_ixT (by assumption) rfl ?_ | refine k_and ?_ | refine k_or ?_ | refine k_not ?_ | refine k_andV ?_ | refine k_orV ?_ | refine k_notV ?_ | refine k_ife ?_ | refine k_chain ?_ | refine k_tup ?_ | refine k_lst ?_
  | refine k_less ?_ | refine k_leq ?_ | refine k_un ?_ | refine k_neg ?_ | refine k_isN ?_ | refine k_notN ?_ | refine k_max ?_ | refine k_min ?_ | refine k_abs ?_ | refine k_bm ?_ | refine k_make ?_ | refine k_app (by assumption) (by assumption) ?_)
/-! ### what a run turns -/
section
variable {K : PySem.W.Frag} {mg : Str → Option Value}
local macro_rules | `(tactic| walk_at "s2") => `(tactic| first | walk_at "s1" | refine iteT ?_ | refine iteF ?_)
structure RA where
  ru : Addr
  dru : Addr
  pl : Addr
  wl : Addr
  s : SA
  dks : List Addr
def RA.own (r : RA) : List Addr := r.ru :: r.pl :: r.wl :: r.s.own
/-- a list of numbers, standing still -/
def LAt (G : Hp) (v : V) (p : List Int) : Prop := ∃ a, v = .ref a ∧ G a = some (.lst (p.map V.int))
def payCode (p : Sg49.Payment) : List Int := [(p.from_ : Int), (p.to_ : Int), (p.kind : Int), (p.much : Int)]
structure RunIn (K : PySem.W.Frag) (G H : Hp) (r : RA) (pact : Addr) (d : Sg49.Done) (e : Sg49.Env) (ps ws : List V) : Prop where
  gs : Same G H
  out : ∀ y ∈ r.own, G y = none
  nd : r.own.Nodup
  hru : H r.ru = some (.ins (CU K) r.dru (uF (.ref r.s.st) (.int e.start) (.int e.end_) (.ref r.pl) (.ref r.wl) (.bl d.moved)))
  st : StAt K H r.s pact d.state
  env : EnvOk e
  hpl : H r.pl = some (.lst ps)
  pays : All2 (LAt G) ps (d.pays.map payCode)
  hwl : H r.wl = some (.lst ws)
  warns : All2 (LAt G) ws (d.warns.map Sg49.Warning.code)
  hdk : ∀ y ∈ r.dks, ∃ o, H y = some o ∧ ∀ xs, o ≠ .tup xs
  odk : ∀ y ∈ r.dks, G y = none
  ndk : ∀ y ∈ r.dks, y ∉ r.own
variable {G H H' : Hp} {r : RA} {pact : Addr} {d : Sg49.Done} {e : Sg49.Env} {ps ws : List V}
theorem RunIn.view (h : RunIn K G H r pact d e ps ws) : RunV K H r.ru e d.state := ⟨_, _, _, _, _, _, h.hru, h.st, h.env⟩
theorem RunIn.is (h : RunIn K G H r pact d e ps ws) : ∀ y ∈ r.own, H y ≠ none ∧ ∀ xs, H y ≠ some (.tup xs) := fun y hy => by
  rcases List.mem_cons.mp hy with rfl | hy
  · rw [h.hru]; exact ⟨by simp, fun xs => by simp⟩
  rcases List.mem_cons.mp hy with rfl | hy
  · rw [h.hpl]; exact ⟨by simp, fun xs => by simp⟩
  rcases List.mem_cons.mp hy with rfl | hy
  · rw [h.hwl]; exact ⟨by simp, fun xs => by simp⟩
  exact h.st.is y hy
theorem RunIn.nes (h : RunIn K G H r pact d e ps ws) {x : Addr} (hx : x ∈ r.s.own) : r.ru ≠ x ∧ r.pl ≠ x ∧ r.wl ≠ x := by
  have n := h.nd
  unfold RA.own at n
  obtain ⟨n1, n⟩ := List.nodup_cons.mp n
  obtain ⟨n2, n⟩ := List.nodup_cons.mp n
  obtain ⟨n3, n⟩ := List.nodup_cons.mp n
  exact ⟨fun z => n1 (by simp [z, hx]), fun z => n2 (by simp [z, hx]), fun z => n3 (by simp [z, hx])⟩
theorem RunIn.ne3 (h : RunIn K G H r pact d e ps ws) : r.ru ≠ r.pl ∧ r.ru ≠ r.wl ∧ r.pl ≠ r.wl := by
  have n := h.nd
  unfold RA.own at n
  obtain ⟨n1, n⟩ := List.nodup_cons.mp n
  obtain ⟨n2, n⟩ := List.nodup_cons.mp n
  exact ⟨fun z => n1 (by simp [z]), fun z => n1 (by simp [z]), fun z => n2 (by simp [z])⟩
theorem LAt.mono {G G' : Hp} (s : Same G G') {v : V} {p : List Int} (h : LAt G v p) : LAt G' v p := by
  obtain ⟨a, e, q⟩ := h
  exact ⟨a, e, s _ _ q⟩
/-- of its state something is turned -/
theorem RunIn.state (h : RunIn K G H r pact d e ps ws) {x : Addr} (hx : x ∈ r.s.own) {o : HO} {pact' : Addr} {m : Sg49.State} (hs : StAt K (upd H x o) r.s pact' m) : RunIn K G (upd H x o) r pact' { d with state := m } e ps ws := by
  obtain ⟨n1, n2, n3⟩ := h.nes hx
  exact ⟨Same.out h.gs (h.out x (by simp [RA.own, hx])), h.out, h.nd, (upd_ne n1).trans h.hru, hs, h.env, (upd_ne n2).trans h.hpl, h.pays, (upd_ne n3).trans h.hwl, h.warns, fun y hy => by
    obtain ⟨o, e, n⟩ := h.hdk y hy
    exact ⟨o, (upd_ne (fun z => h.ndk y hy (by rw [z]; simp [RA.own, hx]))).trans e, n⟩, h.odk, h.ndk⟩
theorem RunIn.keep (h : RunIn K G H r pact d e ps ws) (b : ∀ y ∈ r.own, H' y = H y) (bd : ∀ y ∈ r.dks, H' y = H y) (s : Same G H') : RunIn K G H' r pact d e ps ws :=
  ⟨s, h.out, h.nd, (b _ (by simp [RA.own])).trans h.hru, h.st.keep fun y hy => b y (by simp [RA.own, hy]), h.env, (b _ (by simp [RA.own])).trans h.hpl, h.pays, (b _ (by simp [RA.own])).trans h.hwl, h.warns, fun y hy => by rw [bd y hy]; exact h.hdk y hy, h.odk, h.ndk⟩
theorem RunIn.but {M : List Addr} (h : RunIn K G H r pact d e ps ws) (b : But M H H') (n : ∀ y ∈ r.own, y ∉ M) (nd : ∀ y ∈ r.dks, y ∉ M) (g : ∀ y ∈ M, G y = none) : RunIn K G H' r pact d e ps ws :=
  h.keep (fun y hy => by
    cases e : H y with
    | none => exact absurd e (h.is y hy).1
    | some o => exact b _ _ e (n y hy)) (fun y hy => by
    obtain ⟨o, e, n⟩ := h.hdk y hy
    rw [e]; exact b _ _ e (nd y hy)) (Same.gbut h.gs b g)
/-- something new beside -/
theorem RunIn.new (h : RunIn K G H r pact d e ps ws) {q : Addr} {o : HO} (hq : H q = none) : RunIn K G (upd H q o) r pact d e ps ws := h.but (M := []) ((But.refl H).newer hq) (fun _ _ => by simp) (fun _ _ => by simp) (fun _ hy => by cases hy)
/-- what stands still grows -/
theorem RunIn.grown (h : RunIn K G H r pact d e ps ws) {A : List Addr} (hA : ∀ y ∈ r.own, y ∉ A) (hD : ∀ y ∈ r.dks, y ∉ A) : RunIn K (grow G H A) H r pact d e ps ws := by
  have s := grow_le (A := A) h.gs
  exact ⟨grow_same h.gs, fun y hy => by rw [grow_out (hA y hy) (h.is y hy).2]; exact h.out y hy, h.nd, h.hru, h.st, h.env, h.hpl, h.pays.imp fun _ _ q => q.mono s, h.hwl, h.warns.imp fun _ _ q => q.mono s, h.hdk, fun y hy => by
    obtain ⟨o, e, n⟩ := h.hdk y hy
    rw [grow_out (hD y hy) (fun xs z => by rw [e] at z; cases z; exact n xs rfl)]; exact h.odk y hy, h.ndk⟩
theorem RunIn.pay (h : RunIn K G H r pact d e ps ws) {q : Addr} {p : Sg49.Payment} (hq : G q = some (.lst ((payCode p).map V.int))) : RunIn K G (upd H r.pl (.lst (ps ++ [.ref q]))) r pact { d with pays := d.pays ++ [p] } e (ps ++ [.ref q]) ws := by
  obtain ⟨n1, n2, n3⟩ := h.ne3
  refine ⟨Same.out h.gs (h.out _ (by simp [RA.own])), h.out, h.nd, (upd_ne n1).trans h.hru, h.st.keep fun y hy => upd_ne (Ne.symm (h.nes hy).2.1), h.env, upd_same, ?_, (upd_ne (Ne.symm n3)).trans h.hwl, h.warns, fun y hy => by
    obtain ⟨o, e, n⟩ := h.hdk y hy
    exact ⟨o, (upd_ne (fun z => h.ndk y hy (by rw [z]; simp [RA.own]))).trans e, n⟩, h.odk, h.ndk⟩
  show All2 (LAt G) (ps ++ [.ref q]) ((d.pays ++ [p]).map payCode)
  rw [List.map_append]
  exact h.pays.snoc ⟨q, rfl, hq⟩
theorem RunIn.warn (h : RunIn K G H r pact d e ps ws) {q : Addr} {p : Sg49.Warning} (hq : G q = some (.lst (p.code.map V.int))) : RunIn K G (upd H r.wl (.lst (ws ++ [.ref q]))) r pact { d with warns := d.warns ++ [p] } e ps (ws ++ [.ref q]) := by
  obtain ⟨n1, n2, n3⟩ := h.ne3
  refine ⟨Same.out h.gs (h.out _ (by simp [RA.own])), h.out, h.nd, (upd_ne n2).trans h.hru, h.st.keep fun y hy => upd_ne (Ne.symm (h.nes hy).2.2), h.env, (upd_ne n3).trans h.hpl, h.pays, upd_same, ?_, fun y hy => by
    obtain ⟨o, e, n⟩ := h.hdk y hy
    exact ⟨o, (upd_ne (fun z => h.ndk y hy (by rw [z]; simp [RA.own]))).trans e, n⟩, h.odk, h.ndk⟩
  show All2 (LAt G) (ws ++ [.ref q]) ((d.warns ++ [p]).map Sg49.Warning.code)
  rw [List.map_append]
  exact h.warns.snoc ⟨q, rfl, hq⟩
theorem RunIn.gone (h : RunIn K G H r pact d e ps ws) {g : Bool} : RunIn K G (upd H r.ru (.ins (CU K) r.dru (uF (.ref r.s.st) (.int e.start) (.int e.end_) (.ref r.pl) (.ref r.wl) (.bl g)))) r pact { d with moved := g } e ps ws := by
  obtain ⟨n1, n2, n3⟩ := h.ne3
  exact ⟨Same.out h.gs (h.out _ (by simp [RA.own])), h.out, h.nd, upd_same, h.st.keep fun y hy => upd_ne (Ne.symm (h.nes hy).1), h.env, (upd_ne (Ne.symm n1)).trans h.hpl, h.pays, (upd_ne (Ne.symm n2)).trans h.hwl, h.warns, fun y hy => by
    obtain ⟨o, e, n⟩ := h.hdk y hy
    exact ⟨o, (upd_ne (fun z => h.ndk y hy (by rw [z]; simp [RA.own]))).trans e, n⟩, h.odk, h.ndk⟩
theorem RunIn.fd (T : Tx K mg) (h : RunIn K G H r pact d e ps ws) : Fd K H r.ru "state" (.ref r.s.st) ∧ Fd K H r.ru "payments" (.ref r.pl) ∧ Fd K H r.ru "warnings" (.ref r.wl) ∧ Fd K H r.ru "start" (.int e.start) ∧ Fd K H r.ru "end" (.int e.end_) ∧
    Fd K H r.s.st "pact" (.ref pact) ∧ Fd K H r.s.st "accounts" (.ref r.s.ac) ∧ Fd K H r.s.st "choices" (.ref r.s.cl) ∧ Fd K H r.s.st "slots" (.ref r.s.sl) ∧ Fd K H r.s.st "paid_in" (.ref r.s.pi) ∧ Fd K H r.s.st "paid_out" (.ref r.s.po) ∧ Fd K H r.ru "has_gone" (.bl d.moved) := by
  obtain ⟨a1, a2, a3, a4, a5, a6⟩ := run_fd T h.hru
  obtain ⟨b1, b2, b3, b4, b5, b6, b7⟩ := h.st.fd T
  exact ⟨a1, a4, a5, a2, a3, b1, b3, b4, b5, b6, b7, a6⟩
theorem ixN_nat {n k : Nat} (h : k < n) : ixN n (k : Int) = some k := by
  unfold ixN
  rw [if_pos (by omega), if_pos (by omega)]
  rfl
theorem put_same {m : Sg49.State} {a t : Nat} (h : 4 * a + t < m.accounts.length) : m.put a t (m.has a t) = m := by
  have e : m.accounts.set (4 * a + t) (m.accounts.getD (4 * a + t) 0) = m.accounts := by
    apply List.ext_getElem?
    intro i
    by_cases c : i = 4 * a + t
    · subst c
      rw [List.getElem?_set_self h, List.getD_eq_getElem?_getD, List.getElem?_eq_getElem h]; rfl
    · rw [List.getElem?_set_ne (Ne.symm c)]
  show { m with accounts := m.accounts.set (4 * a + t) (m.accounts.getD (4 * a + t) 0) } = m
  rw [e]
theorem paidOut_same {m : Sg49.State} {t : Nat} : m.paidOut t 0 = m := by
  have e : m.outs.set t (m.outs.getD t 0 + 0) = m.outs := by
    apply List.ext_getElem?
    intro i
    by_cases c : i = t
    · subst c
      by_cases h : i < m.outs.length
      · rw [List.getElem?_set_self h, List.getD_eq_getElem?_getD, List.getElem?_eq_getElem h]; rfl
      · rw [List.getElem?_eq_none (by rw [List.length_set]; omega), List.getElem?_eq_none (by omega)]
    · rw [List.getElem?_set_ne (Ne.symm c)]
  show { m with outs := m.outs.set t (m.outs.getD t 0 + 0) } = m
  rw [e]
/-- money goes out -/
def payOutD (d : Sg49.Done) (a b t n : Nat) : Sg49.Done := if n = 0 then d else ⟨(d.state.put a t (d.state.has a t - n)).paidOut t n, d.pays ++ [⟨a, b, t, n⟩], d.warns, d.moved⟩
def spPayOut (K : PySem.W.Frag) : Sp := fun vs H Q _ => ∃ (G : Hp) (r : RA) (pact : Addr) (d : Sg49.Done) (e : Sg49.Env) (ps ws : List V) (a b t n : Nat), vs = [.ref r.ru, .int (a : Nat), .int (b : Nat), .int (t : Nat), .int (n : Nat)] ∧ RunIn K G H r pact d e ps ws ∧ a < 8 ∧ b < 8 ∧ t < 4 ∧ n ≤ d.state.has a t ∧ ps.length < 1000000 ∧
  (∀ G' H' ps', Same G G' → But r.own H H' → RunIn K G' H' r pact (payOutD d a b t n) e ps' ws → Q .non H')
theorem pure_Run_pay_out (T : Tx K mg) (vs : List V) (H : Hp) (Q : VK) (E : XK) (h : spPayOut K vs H Q E) : t_Run_pay_out K E { nx := fun _ H' => Q .non H', rt := Q } (start N_Run_pay_out vs) H := by
  obtain ⟨G, r, pact, d, e, ps, ws, a, b, t, n, rfl, hr, ha, hb, ht, hn, hps, q⟩ := h
  unfold payOutD at q
  unfold t_Run_pay_out
  repeat walk_at "s1"
  by_cases c : n = 0
  · subst c
    rw [if_pos rfl] at q
    exact iteF (k_next (q G H ps (fun _ _ e => e) (But.refl H) hr))
  rw [if_neg c] at q
  rw [decide_eq_true (by omega)]
  refine iteT ?_
  obtain ⟨f1, f2, f3, _, _, f6, f7, f8, f9, f10, f11, _⟩ := hr.fd T
  have w := hr.st.wf
  obtain ⟨x, ex, hx, ax⟩ := atI_row hr.st ha
  repeat walk_at "s1"
  refine k_ixL (lstL hr.st.hac) ax ?_
  repeat walk_at "s1"
  refine k_ixL (lstL hx) (atI_rowV ht) ?_
  unfold natV
  repeat walk_at "s1"
  unfold gSub
  repeat walk_at "s1"
  refine k_ixL (lstL hr.st.hac) ax ?_
  repeat walk_at "s1"
  refine ⟨x, _, (t : Nat), t, rfl, rfl, hx, ixN_nat ht, ?_⟩
  have xo : x ∈ r.s.own := by simp [SA.own, List.mem_of_getElem? ex]
  have e1 : V.int (((d.state.accounts.getD (4 * a + t) 0 : Nat) : Int) - (n : Nat)) = natV (d.state.has a t - n) := by
    unfold natV
    have : n ≤ d.state.accounts.getD (4 * a + t) 0 := hn
    show _ = V.int ((d.state.accounts.getD (4 * a + t) 0 - n : Nat) : Int)
    congr 1
    omega
  rw [e1]
  have h1 := hr.state xo (hr.st.put (n := d.state.has a t - n) ht ha ex)
  have b1 : But r.own H (upd H x (.lst ((rowV d.state.accounts a).set t (natV (d.state.has a t - n))))) := (But.refl H).put (by simp [RA.own, xo])
  generalize upd H x (.lst ((rowV d.state.accounts a).set t (natV (d.state.has a t - n)))) = H1 at h1 b1 ⊢
  have w1 := h1.st.wf
  repeat walk_at "s1"
  have tl : t < (d.state.put a t (d.state.has a t - n)).outs.length := by rw [w1.o]; exact ht
  refine k_ixL (lstL h1.st.hpo) (atI_natV tl) ?_
  unfold natV
  repeat walk_at "s1"
  refine ⟨r.s.po, _, (t : Nat), t, rfl, rfl, h1.st.hpo, ixN_nat (by rw [List.length_map]; exact tl), ?_⟩
  have h2 := h1.state (by simp [SA.own]) (h1.st.paidOut (t := t) (n := n))
  have b2 : But r.own H (upd H1 r.s.po (.lst (((d.state.put a t (d.state.has a t - n)).outs.map natV).set t (natV ((d.state.put a t (d.state.has a t - n)).outs.getD t 0 + n))))) := b1.put (by simp [RA.own, SA.own])
  have e2 : V.int ((((d.state.put a t (d.state.has a t - n)).outs.getD t 0 : Nat) : Int) + (n : Nat)) = natV ((d.state.put a t (d.state.has a t - n)).outs.getD t 0 + n) := by
    unfold natV; congr 1
  rw [e2]
  generalize upd H1 r.s.po (.lst (((d.state.put a t (d.state.has a t - n)).outs.map natV).set t (natV ((d.state.put a t (d.state.has a t - n)).outs.getD t 0 + n)))) = H2 at h2 b2 ⊢
  obtain ⟨g1, g2, g3, _⟩ := h2.fd T
  repeat walk_at "s1"
  refine ⟨ty_list (lstL h2.hpl), ?_⟩
  repeat walk_at "s1"
  refine ⟨small, fun p hp => ?_⟩
  have h3 := (h2.new (o := .lst [.int (a : Nat), .int (b : Nat), .int (t : Nat), .int (n : Nat)]) hp).grown (A := [p]) (fun y hy => by
    simp only [List.mem_singleton]
    exact fun z => (h2.is y hy).1 (by rw [z]; exact hp)) (fun y hy => by
    obtain ⟨o, e, n⟩ := h2.hdk y hy
    simp only [List.mem_singleton]
    exact fun z => by rw [z, hp] at e; cases e)
  have s3 : Same G (grow G (upd H2 p (.lst [.int (a : Nat), .int (b : Nat), .int (t : Nat), .int (n : Nat)])) [p]) := grow_le (Same.out h2.gs (Same.fresh h2.gs hp))
  have p3 : grow G (upd H2 p (.lst [.int (a : Nat), .int (b : Nat), .int (t : Nat), .int (n : Nat)])) [p] p = some (.lst ((payCode ⟨a, b, t, n⟩).map V.int)) := (grow_at (by simp)).trans upd_same
  have b3 : But r.own H (upd H2 p (.lst [.int (a : Nat), .int (b : Nat), .int (t : Nat), .int (n : Nat)])) := b2.newer hp
  generalize grow G (upd H2 p (.lst [.int (a : Nat), .int (b : Nat), .int (t : Nat), .int (n : Nat)])) [p] = G3 at h3 s3 p3
  generalize upd H2 p (.lst [.int (a : Nat), .int (b : Nat), .int (t : Nat), .int (n : Nat)]) = H3 at h3 b3 ⊢
  have h4 := h3.pay p3
  repeat walk_at "s1"
  refine k_app h3.hpl (by rw [sizeLine_eq]; omega) ?_
  exact q G3 _ _ s3 (b3.put (by simp [RA.own])) h4
end
end SP
set_option maxHeartbeats 2000000
namespace SP
open PySem PySem.Spec PyProof.Rows L2
/-- one step of a reading where nothing is asked -/
local macro_rules | `(tactic| walk_at "s1") => `(tactic| with_reducible first
  | refine k_seq ?_ | refine k_asg ?_ | refine k_if ?_ | refine k_ret ?_ | refine k_set ?_ | refine k_drop ?_ | refine k_next ?_ | refine k_retN ?_
  | refine k_var rfl ?_ | refine k_c ?_ | refine k_fld ?_ | refine k_fldK (by assumption) ?_ | refine k_op ?_ | refine k_plus ?_ | refine k_minus ?_ | refine k_cons ?_ | refine k_nil ?_ | refine k_name ?_
  | refine k_cmp ?_ | refine k_cmpK ?_ | refine k_B ?_ | refine k_blK ?_ | refine k_test ?_ | refine k_meth ?_ | refine k_call ?_ | refine k_CB ?_ | refine k_len (by assumption) ?_
  | refine k_ixT (by assumption) rfl ?_ | refine k_and ?_ | refine k_or ?_ | refine k_not ?_ | refine k_andV ?_ | refine k_orV ?_ | refine k_notV ?_ | refine k_ife ?_ | refine k_chain ?_ | refine k_tup ?_ | refine k_lst ?_
  | refine k_less ?_ | refine k_leq ?_ | refine k_un ?_ | refine k_neg ?_ | refine k_isN ?_ | refine k_notN ?_ | refine k_max ?_ | refine k_min ?_ | refine k_abs ?_ | refine k_bm ?_ | refine k_make ?_ | refine k_app (by assumption) (by assumption) ?_)
section
variable {K : PySem.W.Frag} {mg : Str → Option Value}
local macro_rules | `(tactic| walk_at "s2") => `(tactic| first | walk_at "s1" | refine iteT ?_ | refine iteF ?_)
variable {G H H' : Hp} {r : RA} {pact : Addr} {d : Sg49.Done} {e : Sg49.Env} {ps ws : List V}
/-- for x in range(n) -/
theorem k_rng {n : Nat} {z : Int} {g : TG} {tb : TS} {D : Ends} {σ : L2.St} {H : Hp} (hz : z = (n : Nat)) (hn : n < 1000) (Pv : Nat → L2.St → Hp → Prop) (h0 : Pv 0 σ H)
    (hs : ∀ i σ H, i < n → Pv i σ H → g (.int ((i : Nat) : Int)) σ H fun σ2 H2 => tb { D with nx := Pv (i + 1), ct := Pv (i + 1), bk := D.nx } σ2 H2) (hd : ∀ σ H, Pv n σ H → D.nx σ H) : tFor (iRng1 (tCons (tC (.int z)) tNil)) g tb D σ H := by
  subst hz
  refine ⟨_, rfl, by omega, by omega, ?_⟩
  rw [Int.toNat_natCast]
  exact for_range Pv h0 (fun i σ H hi hp => by rw [Int.zero_add]; exact hs i σ H hi hp) hd
def foldP (d : Sg49.Done) (j : Nat) : Sg49.Done := (List.range j).foldl (fun x i => payOutD x (i / 4) (i / 4) (i % 4) (x.state.accounts.getD i 0)) d
theorem foldP_s {d : Sg49.Done} {j : Nat} : foldP d (j + 1) = payOutD (foldP d j) (j / 4) (j / 4) (j % 4) ((foldP d j).state.accounts.getD j 0) := by
  unfold foldP
  rw [List.range_succ, List.foldl_append]; rfl
theorem payOut_len {d : Sg49.Done} {a b t n : Nat} : d.pays.length ≤ (payOutD d a b t n).pays.length ∧ (payOutD d a b t n).pays.length ≤ d.pays.length + 1 ∧ (n ≠ 0 → d.pays.length < (payOutD d a b t n).pays.length) ∧ (payOutD d a b t n).warns = d.warns ∧ (payOutD d a b t n).moved = d.moved := by
  unfold payOutD
  by_cases c : n = 0
  · rw [if_pos c]; exact ⟨Nat.le_refl _, by omega, fun h => absurd c h, rfl, rfl⟩
  · rw [if_neg c]
    refine ⟨?_, ?_, fun _ => ?_, rfl, rfl⟩ <;> (show _ ; simp)
theorem foldP_len {d : Sg49.Done} : ∀ j : Nat, d.pays.length ≤ (foldP d j).pays.length ∧ (foldP d j).pays.length ≤ d.pays.length + j ∧ (foldP d j).warns = d.warns ∧ (foldP d j).moved = d.moved
  | 0 => ⟨Nat.le_refl _, Nat.le_refl _, rfl, rfl⟩
  | j + 1 => by
    obtain ⟨h1, h2, h3, h4⟩ := foldP_len (d := d) j
    rw [foldP_s]
    obtain ⟨g1, g2, _, g3, g4⟩ := payOut_len (d := foldP d j) (a := j / 4) (b := j / 4) (t := j % 4) (n := (foldP d j).state.accounts.getD j 0)
    exact ⟨by omega, by omega, g3.trans h3, g4.trans h4⟩
def refStep (x : Sg49.Done) (i : Nat) : Sg49.Done :=
  let n := x.state.accounts.getD i 0
  if n = 0 then x else ⟨((x.state.put (i / 4) (i % 4) 0).paidOut (i % 4) n), x.pays ++ [⟨i / 4, i / 4, i % 4, n⟩], x.warns, true⟩
theorem refunds_eq (d : Sg49.Done) : ∀ j : Nat, (List.range j).foldl refStep d = { foldP d j with moved := d.moved || decide (d.pays.length < (foldP d j).pays.length) }
  | 0 => by
    show d = { d with moved := d.moved || decide (d.pays.length < d.pays.length) }
    rw [decide_eq_false (Nat.lt_irrefl _), Bool.or_false]
  | j + 1 => by
    rw [List.range_succ, List.foldl_append, refunds_eq d j]
    obtain ⟨h1, h2, h3, h4⟩ := foldP_len (d := d) j
    rw [foldP_s]
    show refStep _ j = _
    unfold refStep payOutD
    dsimp only
    by_cases c : (foldP d j).state.accounts.getD j 0 = 0
    · rw [if_pos c, if_pos c]
    · rw [if_neg c, if_neg c]
      have e : (foldP d j).state.has (j / 4) (j % 4) = (foldP d j).state.accounts.getD j 0 := by
        show (foldP d j).state.accounts.getD (4 * (j / 4) + j % 4) 0 = _
        rw [Nat.div_add_mod]
      rw [e, Nat.sub_self]
      dsimp only
      rw [decide_eq_true (by rw [List.length_append]; show d.pays.length < _ + 1; omega), Bool.or_true]
theorem refunds_is (d : Sg49.Done) : Sg49.refunds d = { foldP d 32 with moved := d.moved || decide (d.pays.length < (foldP d 32).pays.length) } := refunds_eq d 32
def spClose (K : PySem.W.Frag) : Sp := fun vs H Q _ => ∃ (G : Hp) (r : RA) (pact : Addr) (d : Sg49.Done) (e : Sg49.Env) (ps ws : List V), vs = [.ref r.ru] ∧ RunIn K G H r pact d e ps ws ∧ ps.length < 900000 ∧
  (∀ G' H' ps', Same G G' → But r.own H H' → RunIn K G' H' r pact (foldP d 32) e ps' ws → Q (.bl (decide (d.pays.length < (foldP d 32).pays.length))) H')
theorem RunIn.pslen (h : RunIn K G H r pact d e ps ws) : ps.length = d.pays.length := by have := All2.len h.pays; rw [List.length_map] at this; exact this
theorem RunIn.wslen (h : RunIn K G H r pact d e ps ws) : ws.length = d.warns.length := by have := All2.len h.warns; rw [List.length_map] at this; exact this
theorem pure_Run_close (T : Tx K mg) (vs : List V) (H : Hp) (Q : VK) (E : XK) (h : spClose K vs H Q E) : t_Run_close K E (spPayOut K) { nx := fun _ H' => Q .non H', rt := Q } (start N_Run_close vs) H := by
  obtain ⟨G, r, pact, d, e, ps, ws, rfl, hr, hps, q⟩ := h
  obtain ⟨f1, f2, f3, _, _, f6, f7, _⟩ := hr.fd T
  have hl := lstL (K := K) hr.hpl
  unfold t_Run_close
  repeat walk_at "s1"
  refine k_rng (n := 8) rfl (by omega) (fun p σ Hj => ∃ x2 x3 G' ps', σ = [some (.ref r.ru), some (.int (ps.length : Nat)), x2, x3] ∧ Same G G' ∧ But r.own H Hj ∧ RunIn K G' Hj r pact (foldP d (4 * p)) e ps' ws) ⟨_, _, G, ps, rfl, fun _ _ e => e, But.refl H, hr⟩ ?_ ?_
  · rintro p σ Hj hp ⟨x2, x3, G', ps', rfl, sg, b, hr'⟩
    repeat walk_at "s1"
    refine k_rng (n := 4) rfl (by omega) (fun k σ Hj => ∃ x3 G' ps', σ = [some (.ref r.ru), some (.int (ps.length : Nat)), some (.int (p : Nat)), x3] ∧ Same G G' ∧ But r.own H Hj ∧ RunIn K G' Hj r pact (foldP d (4 * p + k)) e ps' ws) ⟨_, G', ps', rfl, sg, b, hr'⟩ ?_ ?_
    · rintro k σ Hk hk ⟨x3, G2, ps2, rfl, sg2, b2, hr2⟩
      obtain ⟨g1, g2, g3, _, _, g6, g7, _⟩ := hr2.fd T
      obtain ⟨x, ex, hx, ax⟩ := atI_row hr2.st hp
      repeat walk_at "s1"
      refine k_methK hr2.hru rfl ?_
      repeat walk_at "s1"
      refine k_ixL (lstL hr2.st.hac) ax ?_
      repeat walk_at "s1"
      refine k_ixL (lstL hx) (atI_rowV hk) ?_
      repeat walk_at "s1"
      obtain ⟨l1, l2, _⟩ := foldP_len (d := d) (4 * p + k)
      refine ⟨G2, r, pact, _, e, ps2, ws, p, p, k, (foldP d (4 * p + k)).state.has p k, rfl, hr2, hp, hp, hk, Nat.le_refl _, by rw [hr2.pslen]; have := hr.pslen; omega, fun G3 H3 ps3 s3 b3 h3 => ?_⟩
      refine ⟨_, G3, ps3, rfl, fun _ _ e => s3 _ _ (sg2 _ _ e), b2.trans b3, ?_⟩
      have e1 : foldP d (4 * p + (k + 1)) = payOutD (foldP d (4 * p + k)) p p k ((foldP d (4 * p + k)).state.has p k) := by
        show foldP d (4 * p + k + 1) = _
        rw [foldP_s, show (4 * p + k) / 4 = p by omega, show (4 * p + k) % 4 = k by omega]; rfl
      rw [e1]; exact h3
    · rintro σ Hk ⟨x3, G2, ps2, rfl, sg2, b2, hr2⟩
      exact ⟨_, _, G2, ps2, rfl, sg2, b2, hr2⟩
  · rintro σ Hj ⟨x2, x3, G', ps', rfl, sg, b, hr'⟩
    obtain ⟨g1, g2, _⟩ := hr'.fd T
    have hl := lstL (K := K) hr'.hpl
    repeat walk_at "s1"
    have e1 : decide (((ps.length : Nat) : Int) < ((ps'.length : Nat) : Int)) = decide (d.pays.length < (foldP d 32).pays.length) := by
      rw [hr.pslen, hr'.pslen]
      show decide (((d.pays.length : Nat) : Int) < (((foldP d 32).pays.length : Nat) : Int)) = _
      by_cases c : d.pays.length < (foldP d 32).pays.length
      · rw [decide_eq_true c, decide_eq_true (by omega)]
      · rw [decide_eq_false c, decide_eq_false (by omega)]
    rw [e1]
    exact q G' Hj ps' sg b hr'
end
end SP
set_option maxHeartbeats 2000000
namespace SP
open PySem PySem.Spec PyProof.Rows L2
/-- one step of a reading where nothing is asked -/
local macro_rules | `(tactic| walk_at "s1") => `(tactic| with_reducible first
  | refine k_seq ?_ | refine k_asg ?_ | refine k_if ?_ | refine k_ret ?_ | refine k_set ?_ | refine k_drop ?_ | refine k_next ?_ | refine k_retN ?_
  | refine k_var rfl ?_ | refine k_c ?_ | refine k_fld ?_ | refine k_fldK (by assumption) ?_ | refine k_op ?_ | refine k_plus ?_ | refine k_minus ?_ | refine k_cons ?_ | refine k_nil ?_ | refine k_name ?_
  | refine k_cmp ?_ | refine k_cmpK ?_ | refine k_B ?_ | refine k_blK ?_ | refine k_test ?_ | refine k_meth ?_ | refine k_call ?_ | refine k_CB ?_ | refine k_len (by assumption) ?_
  | refine k_ixT (by assumption) rfl ?_ | refine k_and ?_ | refine k_or ?_ | refine k_not ?_ | refine k_andV ?_ | refine k_orV ?_ | refine k_notV ?_ | refine k_ife ?_ | refine k_chain ?_ | refine k_tup ?_ | refine k_lst ?_
  | refine k_less ?_ | refine k_leq ?_ | refine k_un ?_ | refine k_neg ?_ | refine k_isN ?_ | refine k_notN ?_ | refine k_max ?_ | refine k_min ?_ | refine k_abs ?_ | refine k_bm ?_ | refine k_make ?_ | refine k_app (by assumption) (by assumption) ?_)
section
variable {K : PySem.W.Frag} {mg : Str → Option Value}
local macro_rules | `(tactic| walk_at "s2") => `(tactic| first | walk_at "s1" | refine iteT ?_ | refine iteF ?_)
variable {G H H' : Hp} {r : RA} {pact : Addr} {d : Sg49.Done} {e : Sg49.Env} {ps ws : List V}
theorem k_gcons {i : Nat} {v : V} {vs : List V} {t : TGs} {σ : L2.St} {H : Hp} {N : L2.St → Hp → Prop} (q : t vs (σ.set i (some v)) H N) : gCons (gName i) t (v :: vs) σ H N := ⟨v, vs, rfl, q⟩
theorem k_gnil {σ : L2.St} {H : Hp} {N : L2.St → Hp → Prop} (q : N σ H) : gNil [] σ H N := ⟨rfl, q⟩
theorem k_gunl {n : Nat} {p : Addr} {xs : List V} {t : TGs} {σ : L2.St} {H : Hp} {N : L2.St → Hp → Prop} (h : SqL K H p xs) (hl : xs.length = n) (q : t xs σ H N) : gUnl K n t (.ref p) σ H N := ⟨p, xs, rfl, h, hl, q⟩
theorem k_gtup {n : Nat} {p : Addr} {xs : List V} {t : TGs} {σ : L2.St} {H : Hp} {N : L2.St → Hp → Prop} (h : SqT K H p xs) (hl : xs.length = n) (q : t xs σ H N) : gTup K n t (.ref p) σ H N := ⟨p, xs, rfl, h, hl, q⟩
theorem k_sub {to ti : TE} {t : TSet} {v : V} {σ : L2.St} {H : Hp} {N : L2.St → Hp → Prop} (q : to σ H fun o H1 => ti σ H1 fun i H2 => t o i v H2 fun H3 => N σ H3) : gSub to ti t v σ H N := q
theorem VAt.same {G H : Hp} {n : Nat} {v : V} {x : Sg49.Value} (h : VAt G n v x) (s : Same G H) : VAt H n v x := h.mono (Same.tup s)
theorem OAt.same {G H : Hp} {n : Nat} {v : V} {x : Sg49.Obs} (h : OAt G n v x) (s : Same G H) : OAt H n v x := h.mono (Same.tup s)
/-- a warning told -/
theorem RunIn.tell (T : Tx K mg) (h : RunIn K G H r pact d e ps ws) (hw : ws.length < 1000000) {p : Sg49.Warning} {q : Addr} (hq : H q = none) :
    ∃ G', Same G G' ∧ (∀ {Q : VK}, (∀ H', But r.own H H' → RunIn K G' H' r pact { d with warns := d.warns ++ [p] } e ps (ws ++ [.ref q]) → Q .non H') → rAppend (.ref r.wl) [.ref q] (upd H q (.lst (p.code.map V.int))) Q) := by
  have h3 := (h.new (o := .lst (p.code.map V.int)) hq).grown (A := [q]) (fun y hy => by
    simp only [List.mem_singleton]
    exact fun z => (h.is y hy).1 (by rw [z]; exact hq)) (fun y hy => by
    obtain ⟨o, e, n⟩ := h.hdk y hy
    simp only [List.mem_singleton]
    exact fun z => by rw [z, hq] at e; cases e)
  have p3 : grow G (upd H q (.lst (p.code.map V.int))) [q] q = some (.lst (p.code.map V.int)) := (grow_at (by simp)).trans upd_same
  refine ⟨grow G (upd H q (.lst (p.code.map V.int))) [q], grow_le (Same.out h.gs (Same.fresh h.gs hq)), fun {Q} k => ?_⟩
  refine k_app h3.hwl (by rw [sizeLine_eq]; omega) (k _ ?_ (h3.warn p3))
  exact (((But.refl H).new hq).put (by simp [RA.own]))
def payD (d : Sg49.Done) (a : Nat) (out : Bool) (b t : Nat) (z : Int) : Sg49.Done := { Sg49.paying d a out b t z with moved := d.moved }
theorem payD_le {d : Sg49.Done} {a : Nat} {out : Bool} {b t : Nat} {z : Int} (h : z ≤ 0) : payD d a out b t z = { d with warns := d.warns ++ [.pay a t z] } := by
  unfold payD Sg49.paying
  rw [if_pos h]
theorem payD_gt {d : Sg49.Done} {a : Nat} {out : Bool} {b t n : Nat} {z : Int} {w : List Sg49.Warning} (h : ¬ z ≤ 0) (hn : min (d.state.has a t) z.toNat = n) (hw : w = if ((n : Nat) : Int) < z then d.warns ++ [.part a t n z] else d.warns) : payD d a out b t z =
    if out = true then ⟨(d.state.put a t (d.state.has a t - n)).paidOut t n, if n = 0 then d.pays else d.pays ++ [⟨a, b, t, n⟩], w, d.moved⟩ else ⟨(d.state.put a t (d.state.has a t - n)).put b t ((d.state.put a t (d.state.has a t - n)).has b t + n), d.pays, w, d.moved⟩ := by
  unfold payD Sg49.paying
  rw [if_neg h]
  dsimp only
  rw [hn, ← hw]
  by_cases c : out = true
  · rw [if_pos c, if_pos c]
  · rw [if_neg c, if_neg c]
def spDoPay (K : PySem.W.Frag) : Sp := fun vs H Q _ => ∃ (G : Hp) (r : RA) (pact : Addr) (d : Sg49.Done) (e : Sg49.Env) (ps ws : List V) (l : List Int) (a : Nat) (out : Bool) (b t : Nat) (x : Sg49.Value) (k : Sg49.Contract), vs = [.ref r.ru, .ref pact] ∧ RunIn K G H r pact d e ps ws ∧ ps.length < 900000 ∧ ws.length < 900000 ∧
  PactAt K G l pact (.pay a out b t x k) ∧ (∀ G' H' ps' ws', Same G G' → But r.own H H' → RunIn K G' H' r pact (payD d a out b t (x.of e d.state)) e ps' ws' → Q .non H')
theorem pure_Run_do_payment (T : Tx K mg) (vs : List V) (H : Hp) (Q : VK) (E : XK) (h : spDoPay K vs H Q E) : t_Run_do_payment K E (spPayOut K) (spVal K 40) { nx := fun _ H' => Q .non H', rt := Q } (start N_Run_do_payment vs) H := by
  obtain ⟨G, r, pact, d, e, ps, ws, l, a, out, b, t, x, k, rfl, hr, hps, hws, hP, q⟩ := h
  have hc := hP.core
  unfold PactAt at hP
  obtain ⟨pa, ac, il, v, kq, ⟨dx, dd, cnt, s0, e0, hp, _⟩, hpa, ha, hb, ht, hv, _⟩ := hP
  obtain ⟨_, _, f3, _⟩ := p_fd T (hr.gs _ _ hp)
  obtain ⟨f1, f2, f3', _, _, f6, f7, _⟩ := hr.fd T
  unfold t_Run_do_payment
  repeat walk_at "s1"
  refine k_gunl (lstL (hr.gs _ _ hpa)) rfl (k_gcons (k_gcons (k_gcons (k_gcons (k_gcons (k_gnil ?_))))))
  repeat walk_at "s1"
  refine k_methK hr.hru rfl ?_
  repeat walk_at "s1"
  refine ⟨r.ru, e, d.state, v, x, rfl, hr.view, hv.same hr.gs, ?_⟩
  repeat walk_at "s1"
  generalize x.of e d.state = z at q ⊢
  by_cases c0 : z ≤ 0
  · rw [payD_le c0] at q
    rw [decide_eq_true c0]
    refine iteT ?_
    repeat walk_at "s1"
    refine ⟨ty_list (lstL hr.hwl), ?_⟩
    repeat walk_at "s1"
    refine ⟨small, fun p hp' => ?_⟩
    obtain ⟨G', sg, tell⟩ := hr.tell T (by omega) (p := .pay a t z) hp'
    refine tell fun H' b h' => ?_
    exact q G' H' ps _ sg b h'
  rw [decide_eq_false c0]
  refine iteF ?_
  obtain ⟨y, ey, hy, ay⟩ := atI_row hr.st ha
  have hac := lstL (K := K) hr.st.hac
  have hyl := lstL (K := K) hy
  repeat walk_at "s1"
  refine k_ixL hac ay ?_
  repeat walk_at "s1"
  refine k_ixL hyl (atI_rowV ht) ?_
  unfold natV
  repeat walk_at "s1"
  have en : (if ((d.state.accounts.getD (4 * a + t) 0 : Nat) : Int) < z then ((d.state.accounts.getD (4 * a + t) 0 : Nat) : Int) else z) = ((min (d.state.has a t) z.toNat : Nat) : Int) := by
    show (if ((d.state.has a t : Nat) : Int) < z then ((d.state.has a t : Nat) : Int) else z) = _
    by_cases c : ((d.state.has a t : Nat) : Int) < z
    · rw [if_pos c]; omega
    · rw [if_neg c]; omega
  rw [en]
  generalize en' : min (d.state.has a t) z.toNat = n
  have nle : n ≤ d.state.has a t := by omega
  -- behind the warning
  have fin : ∀ (G1 H1 : Hp) (w : List Sg49.Warning) (ws1 : List V), w = (if ((n : Nat) : Int) < z then d.warns ++ [.part a t n z] else d.warns) → Same G G1 → But r.own H H1 → RunIn K G1 H1 r pact { d with warns := w } e ps ws1 →
      (tIfS (tB (tEqI (tVar 6) (tC (.int 1)))) (tDrop (tMeth (He.ga K "Run") "pay_out" (spPayOut K) [] E0 (tVar 0) (tCons (tVar 5) (tCons (tVar 7) (tCons (tVar 8) (tCons (tVar 4) tNil)))))) (tSeq (tAsg (tOp rMinus (tOp (rIxL K) (tOp (rIxL K) (tVar 3) (tVar 5)) (tVar 8)) (tVar 4)) (gSub (tOp (rIxL K) (tVar 3) (tVar 5)) (tVar 8) rSetL))
        (tAsg (tOp rPlus (tOp (rIxL K) (tOp (rIxL K) (tVar 3) (tVar 7)) (tVar 8)) (tVar 4)) (gSub (tOp (rIxL K) (tVar 3) (tVar 7)) (tVar 8) rSetL)))) { nx := fun _ H' => Q .non H', rt := Q }
      [some (.ref r.ru), some (.ref pact), some (.int z), some (.ref r.s.ac), some (.int (n : Nat)), some (.int (a : Nat)), some (.int (if out = true then 1 else 0)), some (.int (b : Nat)), some (.int (t : Nat)), some v] H1 := by
    intro G1 H1 w ws1 ew sg bb h1
    rw [payD_gt c0 en' ew] at q
    have w1 := h1.st.wf
    have lt : 4 * a + t < d.state.accounts.length := by rw [w1.a]; omega
    repeat walk_at "s1"
    cases out with
    | true =>
      refine iteT ?_
      repeat walk_at "s1"
      refine k_methK h1.hru rfl ?_
      repeat walk_at "s1"
      refine ⟨G1, r, pact, _, e, ps, ws1, a, b, t, n, rfl, h1, ha, hb, ht, nle, by omega, fun G' H' ps' s' b' h' => ?_⟩
      refine q G' H' ps' ws1 (fun _ _ e => s' _ _ (sg _ _ e)) (bb.trans b') ?_
      rw [if_pos rfl]
      unfold payOutD at h'
      by_cases cn : n = 0
      · rw [if_pos cn] at h' ⊢
        rw [cn, Nat.sub_zero, put_same lt, paidOut_same]
        exact h'
      · rw [if_neg cn] at h' ⊢
        exact h'
    | false =>
      refine iteF ?_
      obtain ⟨y1, ey1, hy1, ay1⟩ := atI_row h1.st ha
      have xo : y1 ∈ r.s.own := by simp [SA.own, List.mem_of_getElem? ey1]
      repeat walk_at "s1"
      refine k_ixL (lstL h1.st.hac) ay1 ?_
      repeat walk_at "s1"
      refine k_ixL (lstL hy1) (atI_rowV ht) ?_
      unfold natV
      repeat walk_at "s1"
      refine k_sub ?_
      repeat walk_at "s1"
      refine k_ixL (lstL h1.st.hac) ay1 ?_
      repeat walk_at "s1"
      refine ⟨y1, _, (t : Nat), t, rfl, rfl, hy1, ixN_nat ht, ?_⟩
      have e1 : V.int (((d.state.accounts.getD (4 * a + t) 0 : Nat) : Int) - (n : Nat)) = natV (d.state.has a t - n) := by
        unfold natV
        have : n ≤ d.state.accounts.getD (4 * a + t) 0 := nle
        show _ = V.int ((d.state.accounts.getD (4 * a + t) 0 - n : Nat) : Int)
        congr 1
        omega
      rw [e1]
      have h2 := h1.state xo (h1.st.put (n := d.state.has a t - n) ht ha ey1)
      have b2 : But r.own H (upd H1 y1 (.lst ((rowV d.state.accounts a).set t (natV (d.state.has a t - n))))) := bb.put (by simp [RA.own, xo])
      generalize upd H1 y1 (.lst ((rowV d.state.accounts a).set t (natV (d.state.has a t - n)))) = H2 at h2 b2 ⊢
      obtain ⟨y2, ey2, hy2, ay2⟩ := atI_row h2.st hb
      have xo2 : y2 ∈ r.s.own := by simp [SA.own, List.mem_of_getElem? ey2]
      repeat walk_at "s1"
      refine k_ixL (lstL h2.st.hac) ay2 ?_
      repeat walk_at "s1"
      refine k_ixL (lstL hy2) (atI_rowV ht) ?_
      unfold natV
      repeat walk_at "s1"
      refine k_sub ?_
      repeat walk_at "s1"
      refine k_ixL (lstL h2.st.hac) ay2 ?_
      repeat walk_at "s1"
      refine ⟨y2, _, (t : Nat), t, rfl, rfl, hy2, ixN_nat ht, ?_⟩
      have e2 : ∀ m : Nat, V.int (((m : Nat) : Int) + (n : Nat)) = natV (m + n) := fun m => by unfold natV; congr 1
      rw [e2]
      have h3 := h2.state xo2 (h2.st.put (n := (d.state.put a t (d.state.has a t - n)).has b t + n) ht hb ey2)
      refine q G1 _ ps ws1 sg (b2.put (by simp [RA.own, xo2])) ?_
      rw [if_neg (by simp)]
      exact h3
  by_cases cn : ((n : Nat) : Int) < z
  · rw [decide_eq_true cn]
    refine iteT ?_
    repeat walk_at "s1"
    refine ⟨ty_list (lstL hr.hwl), ?_⟩
    repeat walk_at "s1"
    refine ⟨small, fun p hp' => ?_⟩
    obtain ⟨G', sg, tell⟩ := hr.tell T (by omega) (p := .part a t n z) hp'
    refine k_nil (tell fun H' b h' => ?_)
    exact fin G' H' _ _ (by rw [if_pos cn]) sg b h'
  · rw [decide_eq_false cn]
    refine iteF ?_
    refine k_next ?_
    exact fin G H _ _ (by rw [if_neg cn]) (fun _ _ e => e) (But.refl H) hr
end
end SP
set_option maxHeartbeats 2000000
namespace SP
open PySem PySem.Spec PyProof.Rows L2
/-- one step of a reading where nothing is asked -/
local macro_rules | `(tactic| walk_at "s1") => `(tactic| with_reducible first
  | refine k_seq ?_ | refine k_asg ?_ | refine k_if ?_ | refine k_ret ?_ | refine k_set ?_ | refine k_drop ?_ | refine k_next ?_ | refine k_retN ?_
  | refine k_var rfl ?_ | refine k_c ?_ | refine k_fld ?_ | refine k_fldK (by assumption) ?_ | refine k_op ?_ | refine k_plus ?_ | refine k_minus ?_ | refine k_cons ?_ | refine k_nil ?_ | refine k_name ?_
  | refine k_cmp ?_ | refine k_cmpK ?_ | refine k_B ?_ | refine k_blK ?_ | refine k_test ?_ | refine k_meth ?_ | refine k_call ?_ | refine k_CB ?_ | refine k_len (by assumption) ?_
  | refine k_ixT (by assumption) rfl ?_ | refine k_and ?_ | refine k_or ?_ | refine k_not ?_ | refine k_andV ?_ | refine k_orV ?_ | refine k_notV ?_ | refine k_ife ?_ | refine k_chain ?_ | refine k_tup ?_ | refine k_lst ?_
  | refine k_less ?_ | refine k_leq ?_ | refine k_un ?_ | refine k_neg ?_ | refine k_isN ?_ | refine k_notN ?_ | refine k_max ?_ | refine k_min ?_ | refine k_abs ?_ | refine k_bm ?_ | refine k_make ?_ | refine k_app (by assumption) (by assumption) ?_)
section
variable {K : PySem.W.Frag} {mg : Str → Option Value}
local macro_rules | `(tactic| walk_at "s2") => `(tactic| first | walk_at "s1" | refine iteT ?_ | refine iteF ?_)
variable {G H H' : Hp} {r : RA} {pact : Addr} {d : Sg49.Done} {e : Sg49.Env} {ps ws : List V}
def letW (d : Sg49.Done) (v : Nat) (z : Int) : List Sg49.Warning := match d.state.slots.getD v none with
  | some old => d.warns ++ [.slot v old z]
  | none => d.warns
def letD (d : Sg49.Done) (v : Nat) (z : Int) : Sg49.Done := ⟨{ d.state with slots := d.state.slots.set v (some z) }, d.pays, letW d v z, d.moved⟩
def spDoLet (K : PySem.W.Frag) : Sp := fun vs H Q _ => ∃ (G : Hp) (r : RA) (pact : Addr) (d : Sg49.Done) (e : Sg49.Env) (ps ws : List V) (l : List Int) (s : Nat) (x : Sg49.Value) (k : Sg49.Contract), vs = [.ref r.ru, .ref pact] ∧ RunIn K G H r pact d e ps ws ∧ ws.length < 900000 ∧
  PactAt K G l pact (.let_ s x k) ∧ (∀ G' H' ws', Same G G' → But r.own H H' → RunIn K G' H' r pact (letD d s (x.of e d.state)) e ps ws' → Q .non H')
theorem pure_Run_do_let (T : Tx K mg) (vs : List V) (H : Hp) (Q : VK) (E : XK) (h : spDoLet K vs H Q E) : t_Run_do_let K E (spVal K 40) { nx := fun _ H' => Q .non H', rt := Q } (start N_Run_do_let vs) H := by
  obtain ⟨G, r, pact, d, e, ps, ws, l, s, x, k, rfl, hr, hws, hP, q⟩ := h
  unfold PactAt at hP
  obtain ⟨pa, ac, il, v, kq, ⟨dx, dd, cnt, s0, e0, hp, _⟩, hpa, hs, hv, _⟩ := hP
  obtain ⟨_, _, f3, _⟩ := p_fd T (hr.gs _ _ hp)
  obtain ⟨f1, f2, f3', _, _, f6, f7, f8, f9, _⟩ := hr.fd T
  have far := of_far hr.env hr.st.wf 40 v x (hv.same hr.gs)
  unfold t_Run_do_let
  repeat walk_at "s1"
  refine k_gunl (lstL (hr.gs _ _ hpa)) rfl (k_gcons (k_gcons (k_gnil ?_)))
  repeat walk_at "s1"
  refine k_methK hr.hru rfl ?_
  repeat walk_at "s1"
  refine ⟨r.ru, e, d.state, v, x, rfl, hr.view, hv.same hr.gs, ?_⟩
  repeat walk_at "s1"
  generalize x.of e d.state = z at q far ⊢
  have sl : s < d.state.slots.length := by rw [hr.st.wf.s]; exact hs
  refine k_ixL (lstL hr.st.hsl) (atI_opt sl) ?_
  repeat walk_at "s1"
  unfold letD letW at q
  have fin : ∀ (G1 H1 : Hp) (w : List Sg49.Warning) (ws1 : List V), Same G G1 → But r.own H H1 → RunIn K G1 H1 r pact { d with warns := w } e ps ws1 → (∀ G' H' ws', Same G G' → But r.own H H' → RunIn K G' H' r pact ⟨{ d.state with slots := d.state.slots.set s (some z) }, d.pays, w, d.moved⟩ e ps ws' → Q .non H') →
      (tAsg (tVar 3) (gSub (tVar 2) (tVar 4) rSetL)) { nx := fun _ H' => Q .non H', rt := Q } [some (.ref r.ru), some (.ref pact), some (.ref r.s.sl), some (.int z), some (.int (s : Nat)), some v] H1 := by
    intro G1 H1 w ws1 sg bb h1 q
    repeat walk_at "s1"
    refine k_sub ?_
    repeat walk_at "s1"
    refine ⟨r.s.sl, _, (s : Nat), s, rfl, rfl, h1.st.hsl, ixN_nat (by rw [List.length_map]; exact sl), ?_⟩
    exact q G1 _ ws1 sg (bb.put (by simp [RA.own, SA.own])) (h1.state (by simp [SA.own]) (h1.st.slot (k := s) far))
  cases eo : d.state.slots.getD s none with
  | none =>
    rw [eo] at q
    refine iteF ?_
    refine k_next ?_
    exact fin G H d.warns ws (fun _ _ e => e) (But.refl H) hr q
  | some old =>
    rw [eo] at q
    refine iteT ?_
    repeat walk_at "s1"
    refine ⟨ty_list (lstL hr.hwl), ?_⟩
    repeat walk_at "s1"
    refine k_ixL (lstL hr.st.hsl) (atI_opt sl) ?_
    rw [eo]
    repeat walk_at "s1"
    refine ⟨small, fun p hp' => ?_⟩
    obtain ⟨G', sg, tell⟩ := hr.tell T (by omega) (p := .slot s old z) hp'
    refine k_nil (tell fun H' b h' => ?_)
    exact fin G' H' _ _ sg b h' q
/-- what it goes on by -/
def goes (e : Sg49.Env) (d : Sg49.Done) : Sg49.Contract → Option (Sg49.Contract × Sg49.Done)
  | .close => none
  | .pay a out b t x k => some (k, payD d a out b t (x.of e d.state))
  | .cond o x y => some (if o.of e d.state = true then x else y, d)
  | .when _ t k => if e.end_ < t then none else if t ≤ e.start then some (k, d) else none
  | .let_ v x k => some (k, letD d v (x.of e d.state))
  | .assert_ o k => some (k, if o.of e d.state = true then d else { d with warns := d.warns ++ [.assert_] })
/-- it stands where it is -/
def stops (e : Sg49.Env) : Sg49.Contract → Prop
  | .close => True
  | .when _ t _ => e.end_ < t
  | _ => False
/-- it is told neither way -/
def between (e : Sg49.Env) : Sg49.Contract → Prop
  | .when _ t _ => ¬ e.end_ < t ∧ e.start < t
  | _ => False
theorem reduce_goes {c k : Sg49.Contract} {d' : Sg49.Done} (h : goes e d c = some (k, d')) : Sg49.reduce e c d = Sg49.reduce e k { d' with moved := true } := by
  cases c with
  | close => cases h
  | pay a out b t x k =>
    cases h
    rw [Sg49.reduce]
    congr 1
    show _ = { Sg49.paying d a out b t (x.of e d.state) with moved := true }
    unfold Sg49.paying
    by_cases c : x.of e d.state ≤ 0
    · rw [if_pos c]
    · rw [if_neg c]
      dsimp only
      by_cases c2 : out = true
      · rw [if_pos c2]
      · rw [if_neg c2]
  | cond o x y =>
    cases h
    rw [Sg49.reduce]
    by_cases c : o.of e d.state = true
    · rw [if_pos c, if_pos c]
    · rw [if_neg c, if_neg c]
  | when l t k =>
    unfold goes at h
    dsimp only at h
    rw [Sg49.reduce]
    by_cases c : e.end_ < t
    · rw [if_pos c] at h; cases h
    · rw [if_neg c] at h ⊢
      by_cases c2 : t ≤ e.start
      · rw [if_pos c2] at h ⊢; cases h; rfl
      · rw [if_neg c2] at h; cases h
  | let_ v x k =>
    cases h
    rw [Sg49.reduce]
    rfl
  | assert_ o k =>
    cases h
    rw [Sg49.reduce]
    congr 1
    by_cases c : o.of e d.state = true
    · rw [if_pos c, if_pos c]
    · rw [if_neg c, if_neg c]
theorem reduce_close : Sg49.reduce e .close d = .ok (.close, Sg49.refunds d) := by rw [Sg49.reduce]
theorem reduce_stops {c : Sg49.Contract} (h : stops e c) (n : c ≠ .close) : Sg49.reduce e c d = .ok (c, d) := by
  cases c with
  | close => exact absurd rfl n
  | when l t k => rw [Sg49.reduce]; exact if_pos h
  | _ => exact h.elim
theorem reduce_between {c : Sg49.Contract} (h : between e c) : Sg49.reduce e c d = .error (-5) := by
  cases c with
  | when l t k =>
    obtain ⟨h1, h2⟩ := h
    rw [Sg49.reduce, if_neg h1, if_neg (by omega)]; rfl
  | _ => exact h.elim
def sz (d : Sg49.Done) (c : Sg49.Contract) : Nat := d.pays.length + d.warns.length + c.code.length
theorem goes_sz {c k : Sg49.Contract} {d' : Sg49.Done} (h : goes e d c = some (k, d')) : sz d' k ≤ sz d c ∧ k.code.length < c.code.length := by
  unfold sz
  cases c with
  | close => cases h
  | pay a out b t x k =>
    cases h
    have e1 : (Sg49.Contract.pay a out b t x k).code.length = 5 + x.code.length + k.code.length := by simp [Sg49.Contract.code]; omega
    rw [e1]
    have e2 : (payD d a out b t (x.of e d.state)).pays.length ≤ d.pays.length + 1 ∧ (payD d a out b t (x.of e d.state)).warns.length ≤ d.warns.length + 1 := by
      by_cases c : x.of e d.state ≤ 0
      · rw [payD_le c]; exact ⟨Nat.le_succ _, by show (d.warns ++ _).length ≤ _; rw [List.length_append]; exact Nat.le_refl _⟩
      · rw [payD_gt c rfl rfl]
        have w : ∀ n : Nat, (if ((n : Nat) : Int) < x.of e d.state then d.warns ++ [Sg49.Warning.part a t n (x.of e d.state)] else d.warns).length ≤ d.warns.length + 1 := fun n => by
          by_cases q : ((n : Nat) : Int) < x.of e d.state
          · rw [if_pos q, List.length_append]; exact Nat.le_refl _
          · rw [if_neg q]; omega
        by_cases c2 : out = true
        · rw [if_pos c2]
          refine ⟨?_, w _⟩
          dsimp only
          split
          · omega
          · rw [List.length_append]; exact Nat.le_refl _
        · rw [if_neg c2]
          exact ⟨Nat.le_succ _, w _⟩
    omega
  | cond o x y =>
    cases h
    have e1 : (Sg49.Contract.cond o x y).code.length = 1 + o.code.length + x.code.length + y.code.length := by simp [Sg49.Contract.code]; omega
    rw [e1]
    by_cases c : o.of e d.state = true
    · rw [if_pos c]; omega
    · rw [if_neg c]; omega
  | when l t k' =>
    have e1 : (Sg49.Contract.when l t k').code.length = 3 + l.code.length + k'.code.length := by simp [Sg49.Contract.code]; omega
    unfold goes at h
    dsimp only at h
    rw [e1]
    by_cases c : e.end_ < t
    · rw [if_pos c] at h; cases h
    · rw [if_neg c] at h
      by_cases c2 : t ≤ e.start
      · rw [if_pos c2] at h; cases h; omega
      · rw [if_neg c2] at h; cases h
  | let_ v x k =>
    cases h
    have e1 : (Sg49.Contract.let_ v x k).code.length = 2 + x.code.length + k.code.length := by simp [Sg49.Contract.code]; omega
    rw [e1]
    have e2 : (letD d v (x.of e d.state)).warns.length ≤ d.warns.length + 1 := by
      show (letW d v (x.of e d.state)).length ≤ _
      unfold letW
      split
      · rw [List.length_append]; exact Nat.le_refl _
      · omega
    have e3 : (letD d v (x.of e d.state)).pays.length = d.pays.length := rfl
    omega
  | assert_ o k =>
    cases h
    have e1 : (Sg49.Contract.assert_ o k).code.length = 1 + o.code.length + k.code.length := by simp [Sg49.Contract.code]; omega
    rw [e1]
    by_cases c : o.of e d.state = true
    · rw [if_pos c]; omega
    · rw [if_neg c]
      show d.pays.length + (d.warns ++ [Sg49.Warning.assert_]).length + _ ≤ _ ∧ _
      rw [List.length_append]
      show d.pays.length + (d.warns.length + 1) + _ ≤ _ ∧ _
      omega
theorem goes_cases (c : Sg49.Contract) : (∃ k d', goes e d c = some (k, d')) ∨ stops e c ∨ between e c := by
  cases c with
  | close => exact .inr (.inl trivial)
  | when l t k =>
    by_cases c : e.end_ < t
    · exact .inr (.inl c)
    · by_cases c2 : t ≤ e.start
      · exact .inl ⟨k, d, by show (if e.end_ < t then _ else if t ≤ e.start then _ else none) = _; rw [if_neg c, if_pos c2]⟩
      · exact .inr (.inr ⟨c, by omega⟩)
  | _ => exact .inl ⟨_, _, rfl⟩
end
end SP
set_option maxHeartbeats 2000000
namespace SP
open PySem PySem.Spec PyProof.Rows L2
/-- one step of a reading where nothing is asked -/
local macro_rules | `(tactic| walk_at "s1") => `(tactic| with_reducible first
  | refine k_seq ?_ | refine k_asg ?_ | refine k_if ?_ | refine k_ret ?_ | refine k_set ?_ | refine k_drop ?_ | refine k_next ?_ | refine k_retN ?_
  | refine k_var rfl ?_ | refine k_c ?_ | refine k_fld ?_ | refine k_fldK (by assumption) ?_ | refine k_op ?_ | refine k_plus ?_ | refine k_minus ?_ | refine k_cons ?_ | refine k_nil ?_ | refine k_name ?_
  | refine k_cmp ?_ | refine k_cmpK ?_ | refine k_B ?_ | refine k_blK ?_ | refine k_test ?_ | refine k_meth ?_ | refine k_call ?_ | refine k_CB ?_ | refine k_len (by assumption) ?_
  | refine k_ixT (by assumption) rfl ?_ | refine k_and ?_ | refine k_or ?_ | refine k_not ?_ | refine k_andV ?_ | refine k_orV ?_ | refine k_notV ?_ | refine k_ife ?_ | refine k_chain ?_ | refine k_tup ?_ | refine k_lst ?_
  | refine k_less ?_ | refine k_leq ?_ | refine k_un ?_ | refine k_neg ?_ | refine k_isN ?_ | refine k_notN ?_ | refine k_max ?_ | refine k_min ?_ | refine k_abs ?_ | refine k_bm ?_ | refine k_make ?_ | refine k_app (by assumption) (by assumption) ?_)
section
variable {K : PySem.W.Frag} {mg : Str → Option Value}
local macro_rules | `(tactic| walk_at "s2") => `(tactic| first | walk_at "s1" | refine iteT ?_ | refine iteF ?_)
variable {G H H' : Hp} {r : RA} {pact : Addr} {d : Sg49.Done} {e : Sg49.Env} {ps ws : List V}
theorem Same.tr {A B C : Hp} (a : Same A B) (b : Same B C) : Same A C := fun y o e => b y o (a y o e)
/-- the next agreement, or none -/
def spNextPact (K : PySem.W.Frag) : Sp := fun vs H Q E => ∃ (G : Hp) (r : RA) (pact : Addr) (d : Sg49.Done) (e : Sg49.Env) (ps ws : List V) (l : List Int) (c : Sg49.Contract), vs = [.ref r.ru, .ref pact] ∧ RunIn K G H r pact d e ps ws ∧ ps.length < 900000 ∧ ws.length < 900000 ∧ PactAt K G l pact c ∧
  (stops e c → Q .non H) ∧ (between e c → ∀ x, H x = none → E (XR K) (some x) (upd H x (.xd [("answer", .int (-5))]))) ∧
  (∀ k d', goes e d c = some (k, d') → ∀ G' H' ps' ws' q, Same G G' → But r.own H H' → RunIn K G' H' r pact d' e ps' ws' → PactAt K G' l q k → Q (.ref q) H')
theorem pure_Run_next_pact (T : Tx K mg) (vs : List V) (H : Hp) (Q : VK) (E : XK) (h : spNextPact K vs H Q E) : t_Run_next_pact K E (spDoPay K) (spDoLet K) (spIsSo K 40) { nx := fun _ H' => Q .non H', rt := Q } (start N_Run_next_pact vs) H := by
  obtain ⟨G, r, pact, d, e, ps, ws, l, c, rfl, hr, hps, hws, hP, qS, qB, qG⟩ := h
  have hP0 := hP
  obtain ⟨f1, f2, f3, f4, f5, _⟩ := hr.fd T
  unfold t_Run_next_pact
  unfold PactAt at hP
  cases c with
  | close =>
    obtain ⟨pa, ac, il, ⟨dx, dd, cnt, s0, e0, hp, _⟩, _⟩ := hP
    obtain ⟨_, g2, g3, g4, g5, g6, _⟩ := p_fd T (hr.gs _ _ hp)
    repeat walk_at "s2"
    exact qS trivial
  | pay a out b t x k =>
    obtain ⟨pa, ac, il, v, q, ⟨dx, dd, cnt, s0, e0, hp, _⟩, hpa, _, _, _, hv, hil, hk⟩ := hP
    obtain ⟨_, g2, g3, g4, g5, g6, _⟩ := p_fd T (hr.gs _ _ hp)
    repeat walk_at "s2"
    refine k_methK hr.hru rfl ?_
    repeat walk_at "s1"
    refine ⟨G, r, pact, d, e, ps, ws, l, a, out, b, t, x, k, rfl, hr, hps, hws, hP0, fun G' H' ps' ws' sg b' h' => ?_⟩
    obtain ⟨_, i2, i3, i4, i5, i6, _⟩ := p_fd T (h'.gs _ _ (sg _ _ hp))
    repeat walk_at "s1"
    refine k_ixL (lstL (h'.gs _ _ (sg _ _ hil))) rfl ?_
    exact qG k _ rfl G' H' ps' ws' q sg b' h' (hk.mono sg)
  | cond o x y =>
    obtain ⟨pa, ac, il, v, q1, q2, ⟨dx, dd, cnt, s0, e0, hp, _⟩, hpa, hv, hil, hx, hy⟩ := hP
    obtain ⟨_, g2, g3, g4, g5, g6, _⟩ := p_fd T (hr.gs _ _ hp)
    repeat walk_at "s2"
    refine k_methK hr.hru rfl ?_
    repeat walk_at "s1"
    refine k_ixL (lstL (hr.gs _ _ hpa)) rfl ?_
    repeat walk_at "s1"
    refine ⟨r.ru, e, d.state, v, o, rfl, hr.view, hv.same hr.gs, ?_⟩
    repeat walk_at "s1"
    by_cases co : o.of e d.state = true
    · rw [co]
      refine iteT ?_
      repeat walk_at "s1"
      refine k_ixL (lstL (hr.gs _ _ hil)) rfl ?_
      exact qG x d (by show some (if o.of e d.state = true then x else y, d) = _; rw [if_pos co]) G H ps ws q1 (fun _ _ e => e) (But.refl H) hr hx
    · rw [Bool.eq_false_iff.mpr co]
      refine iteF ?_
      repeat walk_at "s1"
      refine k_ixL (lstL (hr.gs _ _ hil)) rfl ?_
      exact qG y d (by show some (if o.of e d.state = true then x else y, d) = _; rw [if_neg co]) G H ps ws q2 (fun _ _ e => e) (But.refl H) hr hy
  | when cs t k =>
    obtain ⟨pa, ac, il, as, ks, q, ⟨dx, dd, cnt, s0, e0, hp, _⟩, hac, hil, hcs, hk⟩ := hP
    obtain ⟨_, g2, g3, g4, g5, g6, _⟩ := p_fd T (hr.gs _ _ hp)
    repeat walk_at "s1"
    refine iteF ?_
    repeat walk_at "s1"
    refine iteT ?_
    repeat walk_at "s1"
    by_cases c1 : e.end_ < t
    · rw [decide_eq_true c1]
      refine iteT ?_
      repeat walk_at "s1"
      exact qS c1
    rw [decide_eq_false c1]
    refine iteF ?_
    repeat walk_at "s1"
    by_cases c2 : e.start < t
    · rw [decide_eq_true c2]
      refine iteT ?_
      exact ⟨_, rfl, fun x hx => qB ⟨c1, c2⟩ x hx⟩
    rw [decide_eq_false c2]
    refine iteF ?_
    repeat walk_at "s1"
    refine k_ixL (lstL (hr.gs _ _ hil)) (atI_last _ _) ?_
    exact qG k d (by show (if e.end_ < t then _ else if t ≤ e.start then _ else none) = _; rw [if_neg c1, if_pos (by omega)]) G H ps ws q (fun _ _ e => e) (But.refl H) hr hk
  | let_ s x k =>
    obtain ⟨pa, ac, il, v, q, ⟨dx, dd, cnt, s0, e0, hp, _⟩, hpa, _, hv, hil, hk⟩ := hP
    obtain ⟨_, g2, g3, g4, g5, g6, _⟩ := p_fd T (hr.gs _ _ hp)
    repeat walk_at "s2"
    refine k_methK hr.hru rfl ?_
    repeat walk_at "s1"
    refine ⟨G, r, pact, d, e, ps, ws, l, s, x, k, rfl, hr, hws, hP0, fun G' H' ws' sg b' h' => ?_⟩
    obtain ⟨_, i2, i3, i4, i5, i6, _⟩ := p_fd T (h'.gs _ _ (sg _ _ hp))
    repeat walk_at "s1"
    refine k_ixL (lstL (h'.gs _ _ (sg _ _ hil))) rfl ?_
    exact qG k _ rfl G' H' ps ws' q sg b' h' (hk.mono sg)
  | assert_ o k =>
    obtain ⟨pa, ac, il, v, q, ⟨dx, dd, cnt, s0, e0, hp, _⟩, hpa, hv, hil, hk⟩ := hP
    obtain ⟨_, g2, g3, g4, g5, g6, _⟩ := p_fd T (hr.gs _ _ hp)
    repeat walk_at "s2"
    refine k_methK hr.hru rfl ?_
    repeat walk_at "s1"
    refine k_ixL (lstL (hr.gs _ _ hpa)) rfl ?_
    repeat walk_at "s1"
    refine ⟨r.ru, e, d.state, v, o, rfl, hr.view, hv.same hr.gs, ?_⟩
    repeat walk_at "s1"
    by_cases co : o.of e d.state = true
    · rw [co]
      refine iteF ?_
      repeat walk_at "s1"
      refine k_ixL (lstL (hr.gs _ _ hil)) rfl ?_
      exact qG k d (by show some (k, if o.of e d.state = true then d else _) = _; rw [if_pos co]) G H ps ws q (fun _ _ e => e) (But.refl H) hr hk
    · rw [Bool.eq_false_iff.mpr co]
      refine iteT ?_
      repeat walk_at "s1"
      refine ⟨ty_list (lstL hr.hwl), ?_⟩
      repeat walk_at "s1"
      refine ⟨small, fun p hp' => ?_⟩
      obtain ⟨G', sg, tell⟩ := hr.tell T (by omega) (p := .assert_) hp'
      refine k_nil (tell fun H' b h' => ?_)
      obtain ⟨_, i2, i3, i4, i5, i6, _⟩ := p_fd T (h'.gs _ _ (sg _ _ hp))
      repeat walk_at "s1"
      refine k_ixL (lstL (h'.gs _ _ (sg _ _ hil))) rfl ?_
      exact qG k _ (by show some (k, if o.of e d.state = true then d else _) = _; rw [if_neg co]) G' H' ps _ q sg b h' (hk.mono sg)
/-- it goes on by itself -/
def spGoOn (K : PySem.W.Frag) : Sp := fun vs H Q E => ∃ (G : Hp) (r : RA) (pact : Addr) (d : Sg49.Done) (e : Sg49.Env) (ps ws : List V) (l : List Int) (c : Sg49.Contract), vs = [.ref r.ru] ∧ RunIn K G H r pact d e ps ws ∧ PactAt K G l pact c ∧ sz d c ≤ 500000 ∧
  (∀ z, Sg49.reduce e c d = .error z → ∀ H' x, But r.own H H' → H' x = some (.xd [("answer", .int z)]) → E (XR K) (some x) H') ∧
  (∀ c' d', Sg49.reduce e c d = .ok (c', d') → ∀ G' H' pact' ps' ws', Same G G' → But r.own H H' → RunIn K G' H' r pact' d' e ps' ws' → PactAt K G' l pact' c' → sz d' c' ≤ sz d c + 32 → Q .non H')
theorem pact_which (T : Tx K mg) {l : List Int} {c : Sg49.Contract} {p : Addr} (h : PactAt K G l p c) (s : Same G H) : ∃ w, Fd K H p "which" (.int w) ∧ (w = 0 ↔ c = .close) := by
  unfold PactAt at h
  cases c with
  | close => obtain ⟨pa, ac, il, ⟨dx, dd, cnt, s0, e0, hp, _⟩, _⟩ := h; exact ⟨0, (p_fd T (s _ _ hp)).2.1, ⟨fun _ => rfl, fun _ => rfl⟩⟩
  | pay => obtain ⟨pa, ac, il, _, _, ⟨dx, dd, cnt, s0, e0, hp, _⟩, _⟩ := h; exact ⟨1, (p_fd T (s _ _ hp)).2.1, ⟨fun z => by omega, fun z => by cases z⟩⟩
  | cond => obtain ⟨pa, ac, il, _, _, _, ⟨dx, dd, cnt, s0, e0, hp, _⟩, _⟩ := h; exact ⟨2, (p_fd T (s _ _ hp)).2.1, ⟨fun z => by omega, fun z => by cases z⟩⟩
  | when => obtain ⟨pa, ac, il, _, _, _, ⟨dx, dd, cnt, s0, e0, hp, _⟩, _⟩ := h; exact ⟨3, (p_fd T (s _ _ hp)).2.1, ⟨fun z => by omega, fun z => by cases z⟩⟩
  | let_ => obtain ⟨pa, ac, il, _, _, ⟨dx, dd, cnt, s0, e0, hp, _⟩, _⟩ := h; exact ⟨4, (p_fd T (s _ _ hp)).2.1, ⟨fun z => by omega, fun z => by cases z⟩⟩
  | assert_ => obtain ⟨pa, ac, il, _, _, ⟨dx, dd, cnt, s0, e0, hp, _⟩, _⟩ := h; exact ⟨5, (p_fd T (s _ _ hp)).2.1, ⟨fun z => by omega, fun z => by cases z⟩⟩
/-- where going on stands: what follows -/
def GW (K : PySem.W.Frag) (G0 H0 : Hp) (r : RA) (l : List Int) (e : Sg49.Env) (R : Except Int (Sg49.Contract × Sg49.Done)) (N : Nat) (m : Nat) (v : V) (H : Hp) : Prop := ∃ (G : Hp) (pact : Addr) (d : Sg49.Done) (ps ws : List V) (c : Sg49.Contract), Same G0 G ∧ But r.own H0 H ∧ RunIn K G H r pact d e ps ws ∧ PactAt K G l pact c ∧
  ((v = .non ∧ stops e c ∧ R = Sg49.reduce e c d ∧ sz d c ≤ N) ∨ ∃ q k, v = .ref q ∧ m = k.code.length + 1 ∧ PactAt K G l q k ∧ R = Sg49.reduce e k { d with moved := true } ∧ sz d k ≤ N)
theorem gw_next {G0 H0 : Hp} {l : List Int} {R : Except Int (Sg49.Contract × Sg49.Done)} {N m : Nat} {c : Sg49.Contract} {Q : VK} {E : XK} (sg : Same G0 G) (b : But r.own H0 H) (hr : RunIn K G H r pact d e ps ws) (hP : PactAt K G l pact c) (hR : R = Sg49.reduce e c d) (hN : sz d c ≤ N) (N5 : N ≤ 500000) (hm : c.code.length + 1 ≤ m)
    (qE : ∀ z, R = .error z → ∀ H' x, But r.own H0 H' → H' x = some (.xd [("answer", .int z)]) → E (XR K) (some x) H') (q : ∀ v H' m', m' < m → GW K G0 H0 r l e R N m' v H' → Q v H') : spNextPact K [.ref r.ru, .ref pact] H Q E := by
  have hps := hr.pslen
  have hws := hr.wslen
  have hs : d.pays.length + d.warns.length + c.code.length ≤ N := hN
  refine ⟨G, r, pact, d, e, ps, ws, l, c, rfl, hr, by omega, by omega, hP, fun st => ?_, fun bt x hx => ?_, fun k d' hk G' H' ps' ws' q' sg' b' h' hq => ?_⟩
  · exact q _ _ 0 (by omega) ⟨G, pact, d, ps, ws, c, sg, b, hr, hP, .inl ⟨rfl, st, hR, hN⟩⟩
  · exact qE (-5) (hR.trans (reduce_between bt)) _ x (b.newer hx) upd_same
  · obtain ⟨z1, z2⟩ := goes_sz hk
    exact q _ _ (k.code.length + 1) (by omega) ⟨G', pact, d', ps', ws', c, Same.tr sg sg', b.trans b', h', hP.mono sg', .inr ⟨q', k, rfl, rfl, hq, hR.trans (reduce_goes hk), Nat.le_trans z1 hN⟩⟩
theorem foldP_sz {d : Sg49.Done} {c : Sg49.Contract} {g : Bool} (j : Nat) : sz { foldP d j with moved := g } c ≤ sz d c + j := by
  obtain ⟨l1, l2, l3, l4⟩ := foldP_len (d := d) j
  unfold sz
  dsimp only
  rw [l3]; omega
theorem foldP_moved {d : Sg49.Done} (j : Nat) : ({ foldP d j with moved := d.moved } : Sg49.Done) = foldP d j := by
  obtain ⟨l1, l2, l3, l4⟩ := foldP_len (d := d) j
  rw [← l4]
theorem pure_Run_go_on (T : Tx K mg) (vs : List V) (H : Hp) (Q : VK) (E : XK) (h : spGoOn K vs H Q E) : t_Run_go_on K E (spClose K) (spNextPact K) { nx := fun _ H' => Q .non H', rt := Q } (start N_Run_go_on vs) H := by
  obtain ⟨G, r, pact, d, e, ps, ws, l, c, rfl, hr, hP, hz, qE, qQ⟩ := h
  obtain ⟨f1, f2, f3, f4, f5, f6, _⟩ := hr.fd T
  unfold t_Run_go_on
  repeat walk_at "s1"
  refine k_methK hr.hru rfl ?_
  repeat walk_at "s1"
  refine gw_next (fun _ _ e => e) (But.refl H) hr hP rfl (Nat.le_refl _) hz (Nat.le_refl _) qE fun v0 H1 m0 _ g0 => ?_
  repeat walk_at "s1"
  refine ⟨fun m σ Hc => ∃ v, σ = [some (.ref r.ru), some (.ref r.s.st), some v] ∧ GW K G H r l e (Sg49.reduce e c d) (sz d c) m v Hc, ⟨m0, v0, rfl, g0⟩, ?_⟩
  clear g0 hr hP f1 f2 f3 f4 f5 f6
  rintro m σ Hc ⟨v, rfl, G1, pact1, d1, ps1, ws1, c1, sg1, b1, h1, hP1, hv⟩
  rcases hv with ⟨rfl, st, hR, hN⟩ | ⟨q, k, rfl, rfl, hq, hR, hN⟩
  · -- it stands
    repeat walk_at "s1"
    refine iteF ?_
    obtain ⟨g1, g2, g3, g4, g5, g6, _⟩ := h1.fd T
    obtain ⟨w, fw, ww⟩ := pact_which T hP1 h1.gs
    repeat walk_at "s1"
    by_cases cw : w = 0
    · have cc := ww.mp cw
      subst cc
      rw [decide_eq_true cw]
      refine iteT ?_
      repeat walk_at "s1"
      refine k_methK h1.hru rfl ?_
      repeat walk_at "s1"
      have hps := h1.pslen
      have hs : d1.pays.length + d1.warns.length + Sg49.Contract.close.code.length ≤ sz d c := hN
      refine ⟨G1, r, pact1, d1, e, ps1, ws1, rfl, h1, by omega, fun G' H' ps' sg' b' h' => ?_⟩
      rw [reduce_close, refunds_is] at hR
      have hz' : ∀ g : Bool, sz { foldP d1 32 with moved := g } .close ≤ sz d c + 32 := fun g => Nat.le_trans (foldP_sz 32) (by have := hN; omega)
      have e1 := foldP_moved (d := d1) 32
      generalize foldP d1 32 = F at hR h' hz' e1 ⊢
      repeat walk_at "s1"
      by_cases cl : d1.pays.length < F.pays.length
      · rw [decide_eq_true cl, Bool.or_true] at hR
        rw [decide_eq_true cl]
        refine iteT ?_
        repeat walk_at "s1"
        refine k_setK (fs' := uF (.ref r.s.st) (.int e.start) (.int e.end_) (.ref r.pl) (.ref r.wl) (.bl true)) h'.hru T.c_Run T.n_Run_has_gone rfl ?_
        exact qQ _ _ hR G' _ pact1 ps' ws1 (Same.tr sg1 sg') ((b1.trans b').put (by simp [RA.own])) h'.gone (hP1.mono sg') (hz' _)
      · rw [decide_eq_false cl, Bool.or_false] at hR
        rw [decide_eq_false cl]
        refine iteF ?_
        refine k_next ?_
        rw [e1] at hR
        have z := hz' d1.moved
        rw [e1] at z
        exact qQ _ _ hR G' _ pact1 ps' ws1 (Same.tr sg1 sg') (b1.trans b') h' (hP1.mono sg') z
    · rw [decide_eq_false cw]
      refine iteF ?_
      refine iteF ?_
      refine k_next ?_
      rw [reduce_stops st (fun z => cw (ww.mpr z))] at hR
      exact qQ _ _ hR G1 _ pact1 ps1 ws1 sg1 b1 h1 hP1 (by omega)
  · -- it goes on
    repeat walk_at "s1"
    refine iteT ⟨fun σ' H' => ∃ m', m' < k.code.length + 1 ∧ ∃ v, σ' = [some (.ref r.ru), some (.ref r.s.st), some v] ∧ GW K G H r l e (Sg49.reduce e c d) (sz d c) m' v H', fun _ _ z => z, ?_⟩
    repeat walk_at "s1"
    refine k_setK (fs' := uF (.ref r.s.st) (.int e.start) (.int e.end_) (.ref r.pl) (.ref r.wl) (.bl true)) h1.hru T.c_Run T.n_Run_has_gone rfl ?_
    have h2 := h1.gone (g := true)
    have b2 : But r.own H (upd Hc r.ru (.ins (CU K) r.dru (uF (.ref r.s.st) (.int e.start) (.int e.end_) (.ref r.pl) (.ref r.wl) (.bl true)))) := b1.put (by simp [RA.own])
    generalize upd Hc r.ru (.ins (CU K) r.dru (uF (.ref r.s.st) (.int e.start) (.int e.end_) (.ref r.pl) (.ref r.wl) (.bl true))) = H2 at h2 b2 ⊢
    repeat walk_at "s1"
    refine k_setK (fs' := sF (.ref q) (.int d1.state.least) (.ref r.s.ac) (.ref r.s.cl) (.ref r.s.sl) (.ref r.s.pi) (.ref r.s.po)) h2.st.hst T.c_State T.n_State_pact rfl ?_
    have h3 := h2.state (x := r.s.st) (by simp [SA.own]) (h2.st.field (pact' := q) (t := d1.state.least))
    have b3 : But r.own H (upd H2 r.s.st (.ins (CS K) r.s.dst (sF (.ref q) (.int d1.state.least) (.ref r.s.ac) (.ref r.s.cl) (.ref r.s.sl) (.ref r.s.pi) (.ref r.s.po)))) := b2.put (by simp [RA.own, SA.own])
    generalize upd H2 r.s.st (.ins (CS K) r.s.dst (sF (.ref q) (.int d1.state.least) (.ref r.s.ac) (.ref r.s.cl) (.ref r.s.sl) (.ref r.s.pi) (.ref r.s.po))) = H3 at h3 b3 ⊢
    repeat walk_at "s1"
    refine k_methK h3.hru rfl ?_
    repeat walk_at "s1"
    refine gw_next sg1 b3 h3 hq hR hN hz (Nat.le_refl _) qE fun v0 H1 m0 hm0 g0 => ?_
    exact ⟨m0, hm0, v0, rfl, g0⟩
end
end SP
set_option maxHeartbeats 2000000
namespace SP
open PySem PySem.Spec PyProof.Rows L2
/-- one step of a reading where nothing is asked -/
local macro_rules | `(tactic| walk_at "s1") => `(tactic| with_reducible first
  | refine k_seq ?_ | refine k_asg ?_ | refine k_if ?_ | refine k_ret ?_ | refine k_set ?_ | refine k_drop ?_ | refine k_next ?_ | refine k_retN ?_
  | refine k_var rfl ?_ | refine k_c ?_ | refine k_fld ?_ | refine k_fldK (by assumption) ?_ | refine k_op ?_ | refine k_plus ?_ | refine k_minus ?_ | refine k_cons ?_ | refine k_nil ?_ | refine k_name ?_
  | refine k_cmp ?_ | refine k_cmpK ?_ | refine k_B ?_ | refine k_blK ?_ | refine k_test ?_ | refine k_meth ?_ | refine k_call ?_ | refine k_CB ?_ | refine k_len (by assumption) ?_
  | refine k_ixT (by assumption) rfl ?_ | refine k_and ?_ | refine k_or ?_ | refine k_not ?_ | refine k_andV ?_ | refine k_orV ?_ | refine k_notV ?_ | refine k_ife ?_ | refine k_chain ?_ | refine k_tup ?_ | refine k_lst ?_
  | refine k_less ?_ | refine k_leq ?_ | refine k_un ?_ | refine k_neg ?_ | refine k_isN ?_ | refine k_notN ?_ | refine k_max ?_ | refine k_min ?_ | refine k_abs ?_ | refine k_bm ?_ | refine k_make ?_ | refine k_app (by assumption) (by assumption) ?_)
/-! ### what fits -/
section
variable {K : PySem.W.Frag} {mg : Str → Option Value}
local macro_rules | `(tactic| walk_at "s2") => `(tactic| first | walk_at "s1" | refine iteT ?_ | refine iteF ?_)
variable {G H H' : Hp} {r : RA} {pact : Addr} {d : Sg49.Done} {e : Sg49.Env} {ps ws : List V}
/-- an input, in the heap -/
def InpAt (H : Hp) (v : V) : Sg49.Input → Prop
  | .deposit a b t z => ∃ p, v = .ref p ∧ H p = some (.tup [.int 0, .int (a : Nat), .int (b : Nat), .int (t : Nat), .int z]) ∧ a < 8 ∧ b < 8 ∧ t < 4 ∧ inFar z
  | .choice c b z => ∃ p, v = .ref p ∧ H p = some (.tup [.int 1, .int (c : Nat), .int (b : Nat), .int z]) ∧ c < 16 ∧ b < 8 ∧ inFar z
  | .notify => ∃ p, v = .ref p ∧ H p = some (.tup [.int 2])
theorem InpAt.mono {H H' : Hp} (k : TupK H H') {v : V} {i : Sg49.Input} (h : InpAt H v i) : InpAt H' v i := by
  cases i with
  | deposit => obtain ⟨p, e, q, r⟩ := h; exact ⟨p, e, k _ _ q, r⟩
  | choice => obtain ⟨p, e, q, r⟩ := h; exact ⟨p, e, k _ _ q, r⟩
  | notify => obtain ⟨p, e, q⟩ := h; exact ⟨p, e, k _ _ q⟩
def fitB (e : Sg49.Env) (m : Sg49.State) : Sg49.Action → Sg49.Input → Bool
  | .deposit a b t x, .deposit i j k z => decide (a = i ∧ b = j ∧ t = k) && decide (x.of e m = z)
  | .choice c b l, .choice i j z => decide (c = i ∧ b = j) && l.any fun (x : Int × Int) => Sg49.within z x.1 x.2
  | .notify o, .notify => o.of e m
  | _, _ => false
def spFits (K : PySem.W.Frag) : Sp := fun vs H Q _ => ∃ (ru : Addr) (e : Sg49.Env) (m : Sg49.State) (v w : V) (x : Sg49.Action) (i : Sg49.Input), vs = [.ref ru, v, w] ∧ RunV K H ru e m ∧ AAt H v x ∧ InpAt H w i ∧ (∀ H', But [] H H' → Q (.bl (fitB e m x i)) H')
theorem dp_ints {H : Hp} : ∀ is : List Int, DpAll K H (is.map V.int) (is.map PyData.int)
  | [] => .nil
  | i :: is => .cons (.int i) (dp_ints is)
theorem eqv_ints : ∀ is js : List Int, PyData.eqvAll (is.map PyData.int) (js.map PyData.int) = decide (is = js)
  | [], [] => rfl
  | [], _ :: _ => rfl
  | _ :: _, [] => rfl
  | i :: is, j :: js => by
    show (PyData.eqv (.int i) (.int j) && PyData.eqvAll (is.map PyData.int) (js.map PyData.int)) = _
    rw [eqv_ints is js]
    show ((i == j) && decide (is = js)) = decide (i :: is = j :: js)
    by_cases c : i = j
    · subst c
      rw [beq_self_eq_true, Bool.true_and]
      by_cases c2 : is = js
      · rw [decide_eq_true c2, decide_eq_true (by rw [c2])]
      · rw [decide_eq_false c2, decide_eq_false (fun z => c2 (List.cons.inj z).2)]
    · rw [beq_eq_false_iff_ne.mpr c, Bool.false_and, decide_eq_false (fun z => c (List.cons.inj z).1)]
theorem k_eqI {H : Hp} {p q : Addr} {is js : List Int} {Q : VK} (hp : H p = some (.tup (is.map V.int))) (hq : H q = some (.tup (js.map V.int))) (s1 : PySem.SeqAt.shaped (.tuple (is.map PyData.int)) = true) (s2 : PySem.SeqAt.shaped (.tuple (js.map PyData.int)) = true) (k : Q (.bl (decide (is = js))) H) : rEqD K (.ref p) (.ref q) H Q := by
  refine ⟨_, _, .tup (tupT hp) (dp_ints is), .tup (tupT hq) (dp_ints js), s1, s2, ?_⟩
  show Q (.bl (PyData.eqvAll _ _)) H
  rw [eqv_ints]; exact k
theorem RunV.but {H H' : Hp} {ru : Addr} {m : Sg49.State} (h : RunV K H ru e m) (b : But [] H H') : RunV K H' ru e m := by
  obtain ⟨dru, pl, wl, g, s, pact, h1, h2, h3⟩ := h
  exact ⟨dru, pl, wl, g, s, pact, b _ _ h1 (by simp), h2.but b (fun _ _ => by simp), h3⟩
theorem pair_at {G : Hp} : ∀ {vs : List V} {l : List (Int × Int)} {i : Nat} {v : V}, PairsAt G vs l → vs[i]? = some v → ∃ p a, l[i]? = some p ∧ v = .ref a ∧ G a = some (.tup [.int p.1, .int p.2])
  | v :: vs, p :: ps, 0, w, ⟨⟨a, e, q⟩, _⟩, h => by cases h; exact ⟨p, a, rfl, e, q⟩
  | v :: vs, p :: ps, i + 1, w, ⟨_, h2⟩, h => pair_at (vs := vs) (l := ps) (i := i) h2 h
  | [], [], _, _, _, h => by simp at h
  | [], _ :: _, _, _, h, _ => h.elim
  | _ :: _, [], _, _, h, _ => h.elim
theorem k_yes {σ : L2.St} {H : Hp} {R : Bool → Hp → Prop} (q : R true H) : tYes σ H R := q
theorem pure_Run_fits (T : Tx K mg) (vs : List V) (H : Hp) (Q : VK) (E : XK) (h : spFits K vs H Q E) : t_Run_fits K E (spVal K 40) (spIsSo K 40) { nx := fun _ H' => Q .non H', rt := Q } (start N_Run_fits vs) H := by
  obtain ⟨ru, e, m, v, w, x, i, rfl, hr, hx, hi, q⟩ := h
  obtain ⟨dru, pl, wl, g, s, pact, hru, hs, he⟩ := id hr
  unfold t_Run_fits
  have q0 : fitB e m x i = false → Q (.bl false) H := fun z => by have := q H (But.refl H); rw [z] at this; exact this
  cases x with
  | notify o =>
    obtain ⟨p, y, rfl, hp, ho⟩ := hx
    have hT := tupT (K := K) hp
    cases i with
    | deposit a b t z =>
      obtain ⟨p2, rfl, hp2, _⟩ := hi
      have hT2 := tupT (K := K) hp2
      repeat walk_at "s2"
      exact q0 rfl
    | choice c b z =>
      obtain ⟨p2, rfl, hp2, _⟩ := hi
      have hT2 := tupT (K := K) hp2
      repeat walk_at "s2"
      exact q0 rfl
    | notify =>
      obtain ⟨p2, rfl, hp2⟩ := hi
      have hT2 := tupT (K := K) hp2
      repeat walk_at "s2"
      refine k_methK hru rfl ?_
      repeat walk_at "s1"
      exact ⟨ru, e, m, y, o, rfl, hr, ho, q H (But.refl H)⟩
  | deposit a b t x =>
    obtain ⟨p, y, rfl, hp, ha, hb, ht, hy⟩ := hx
    have hT := tupT (K := K) hp
    cases i with
    | notify =>
      obtain ⟨p2, rfl, hp2⟩ := hi
      have hT2 := tupT (K := K) hp2
      repeat walk_at "s2"
      exact q0 rfl
    | choice c b' z =>
      obtain ⟨p2, rfl, hp2, _⟩ := hi
      have hT2 := tupT (K := K) hp2
      repeat walk_at "s2"
      exact q0 rfl
    | deposit a' b' t' z =>
      obtain ⟨p2, rfl, hp2, _⟩ := hi
      have hT2 := tupT (K := K) hp2
      repeat walk_at "s2"
      refine ⟨_, rfl, ⟨_, rfl, ⟨_, rfl, ⟨p, _, rfl, hT, (fun z => absurd (show (1 : Nat) = 0 from z.1) (by decide)), fun c1 hc1 => ?_⟩⟩⟩⟩
      have B1 : But [] H (upd H c1 (.tup ([(a : Int), (b : Int), (t : Int)].map V.int))) := (But.refl H).newer hc1
      have g1 : upd H c1 (.tup ([(a : Int), (b : Int), (t : Int)].map V.int)) c1 = _ := upd_same
      have hT1 := tupT (K := K) (B1 _ _ hp2 (by simp))
      show (tSl (rSlT K) (tVar 2) (tPart (tC (.int 1))) (tPart (tC (.int 4)))) _ (upd H c1 (.tup ([(a : Int), (b : Int), (t : Int)].map V.int))) _
      generalize upd H c1 (.tup ([(a : Int), (b : Int), (t : Int)].map V.int)) = H1 at B1 g1 hT1 ⊢
      unfold tSl tPart
      repeat walk_at "s1"
      refine ⟨_, rfl, ⟨_, rfl, ⟨p2, _, rfl, hT1, (fun z => absurd (show (1 : Nat) = 0 from z.1) (by decide)), fun c2 hc2 => ?_⟩⟩⟩
      have B2 : But [] H1 (upd H1 c2 (.tup ([(a' : Int), (b' : Int), (t' : Int)].map V.int))) := (But.refl H1).newer hc2
      have g2 : upd H1 c2 (.tup ([(a' : Int), (b' : Int), (t' : Int)].map V.int)) c2 = _ := upd_same
      show rEqD K _ _ (upd H1 c2 (.tup ([(a' : Int), (b' : Int), (t' : Int)].map V.int))) _
      have g3 := B2 _ _ g1 (by simp)
      have B := B1.trans B2
      generalize upd H1 c2 (.tup ([(a' : Int), (b' : Int), (t' : Int)].map V.int)) = H2 at B2 g2 g3 B ⊢
      refine k_eqI g3 g2 rfl rfl ?_
      have e1 : decide ([(a : Int), (b : Int), (t : Int)] = [(a' : Int), (b' : Int), (t' : Int)]) = decide (a = a' ∧ b = b' ∧ t = t') := by
        by_cases c : a = a' ∧ b = b' ∧ t = t'
        · rw [decide_eq_true c, decide_eq_true (by rw [c.1, c.2.1, c.2.2])]
        · rw [decide_eq_false c, decide_eq_false (fun z => c (by simp at z; omega))]
      rw [e1]
      repeat walk_at "s1"
      have q2 := q H2 B
      replace q2 : Q (.bl (decide (a = a' ∧ b = b' ∧ t = t') && decide (x.of e m = z))) H2 := q2
      cases c : decide (a = a' ∧ b = b' ∧ t = t') with
      | false => rw [c] at q2; exact iteF q2
      | true =>
        rw [c] at q2
        refine iteT ?_
        have hT3 := tupT (K := K) (B _ _ hp (by simp))
        have hT4 := tupT (K := K) (B _ _ hp2 (by simp))
        repeat walk_at "s1"
        refine k_methK (B _ _ hru (by simp)) rfl ?_
        repeat walk_at "s1"
        refine ⟨ru, e, m, y, x, rfl, hr.but B, hy.mono (B.tup (by simp)), ?_⟩
        repeat walk_at "s1"
        exact q2
  | choice c b l =>
    obtain ⟨p, pq, vs, rfl, hp, hc, hb, hl4, hpq, hpr⟩ := hx
    have hT := tupT (K := K) hp
    cases i with
    | notify =>
      obtain ⟨p2, rfl, hp2⟩ := hi
      have hT2 := tupT (K := K) hp2
      repeat walk_at "s2"
      exact q0 rfl
    | deposit a' b' t' z =>
      obtain ⟨p2, rfl, hp2, _⟩ := hi
      have hT2 := tupT (K := K) hp2
      repeat walk_at "s2"
      exact q0 rfl
    | choice c' b' z =>
      obtain ⟨p2, rfl, hp2, _⟩ := hi
      have hT2 := tupT (K := K) hp2
      repeat walk_at "s2"
      refine ⟨_, rfl, ⟨_, rfl, ⟨_, rfl, ⟨p, _, rfl, hT, (fun z => absurd (show (1 : Nat) = 0 from z.1) (by decide)), fun c1 hc1 => ?_⟩⟩⟩⟩
      have B1 : But [] H (upd H c1 (.tup ([(c : Int), (b : Int)].map V.int))) := (But.refl H).newer hc1
      have g1 : upd H c1 (.tup ([(c : Int), (b : Int)].map V.int)) c1 = _ := upd_same
      have hT1 := tupT (K := K) (B1 _ _ hp2 (by simp))
      show (tSl (rSlT K) (tVar 2) (tPart (tC (.int 1))) (tPart (tC (.int 3)))) _ (upd H c1 (.tup ([(c : Int), (b : Int)].map V.int))) _
      generalize upd H c1 (.tup ([(c : Int), (b : Int)].map V.int)) = H1 at B1 g1 hT1 ⊢
      unfold tSl tPart
      repeat walk_at "s1"
      refine ⟨_, rfl, ⟨_, rfl, ⟨p2, _, rfl, hT1, (fun z => absurd (show (1 : Nat) = 0 from z.1) (by decide)), fun c2 hc2 => ?_⟩⟩⟩
      have B2 : But [] H1 (upd H1 c2 (.tup ([(c' : Int), (b' : Int)].map V.int))) := (But.refl H1).newer hc2
      have g2 : upd H1 c2 (.tup ([(c' : Int), (b' : Int)].map V.int)) c2 = _ := upd_same
      show rEqD K _ _ (upd H1 c2 (.tup ([(c' : Int), (b' : Int)].map V.int))) _
      have g3 := B2 _ _ g1 (by simp)
      have B := B1.trans B2
      generalize upd H1 c2 (.tup ([(c' : Int), (b' : Int)].map V.int)) = H2 at B2 g2 g3 B ⊢
      refine k_eqI g3 g2 rfl rfl ?_
      have e1 : decide ([(c : Int), (b : Int)] = [(c' : Int), (b' : Int)]) = decide (c = c' ∧ b = b') := by
        by_cases k : c = c' ∧ b = b'
        · rw [decide_eq_true k, decide_eq_true (by rw [k.1, k.2])]
        · rw [decide_eq_false k, decide_eq_false (fun z => k (by simp at z; omega))]
      rw [e1]
      repeat walk_at "s1"
      cases k : decide (c = c' ∧ b = b') with
      | false =>
        have q2 := q H2 B
        replace q2 : Q (.bl (decide (c = c' ∧ b = b') && l.any fun (x : Int × Int) => Sg49.within z x.1 x.2)) H2 := q2
        rw [k] at q2; exact iteF q2
      | true =>
        refine iteT ?_
        have hT3 := tupT (K := K) (B _ _ hp (by simp))
        have hT4 := tupT (K := K) (B _ _ hp2 (by simp))
        have hv := tupT (K := K) (B _ _ hpq (by simp))
        have hpr2 := hpr.mono (B.tup (by simp))
        repeat walk_at "s1"
        unfold tLc iTup
        repeat walk_at "s1"
        refine ⟨pq, rfl, ⟨vs, hv⟩, fun D hD => ?_⟩
        have Bn : ∀ w, But [] H2 (upd H2 D (.lst w)) := fun w => (But.refl H2).newer hD
        refine lc_tup (xs := vs) (fun i H => H = upd H2 D (.lst (((l.map fun (x : Int × Int) => Sg49.within z x.1 x.2).map V.bl).take i))) rfl (fun i H _ e => ?_) (fun i x H hx e => ?_) (fun H e => ?_)
        · rw [e]; exact tupT (Bn _ _ _ (B _ _ hpq (by simp)) (by simp))
        · subst e
          obtain ⟨pr, pa, e1, rfl, hpa⟩ := pair_at hpr2 hx
          refine k_gtup (tupT (Bn _ _ _ hpa (by simp))) rfl (k_gcons (k_gcons (k_gnil ?_)))
          refine ⟨rfl, ?_⟩
          have hT5 := tupT (K := K) (Bn (((l.map fun (x : Int × Int) => Sg49.within z x.1 x.2).map V.bl).take i) _ _ (B _ _ hp2 (by simp)) (by simp))
          have il : i < l.length := (List.getElem?_eq_some_iff.mp e1).1
          have fin : ∃ acc, upd H2 D (.lst (((l.map fun (x : Int × Int) => Sg49.within z x.1 x.2).map V.bl).take i)) D = some (.lst acc) ∧ acc.length < sizeLine ∧
              upd (upd H2 D (.lst (((l.map fun (x : Int × Int) => Sg49.within z x.1 x.2).map V.bl).take i))) D (.lst (acc ++ [.bl (Sg49.within z pr.1 pr.2)])) = upd H2 D (.lst (((l.map fun (x : Int × Int) => Sg49.within z x.1 x.2).map V.bl).take (i + 1))) := by
            refine ⟨_, upd_same, by rw [List.length_take, List.length_map, List.length_map, sizeLine_eq]; omega, ?_⟩
            rw [upd_upd, List.take_add_one, List.getElem?_map, List.getElem?_map, e1]
            rfl
          refine k_yes ?_
          refine iteT ?_
          refine k_chain ?_
          refine k_var rfl ?_
          repeat walk_at "s1"
          have ew : Sg49.within z pr.1 pr.2 = (decide (pr.1 ≤ z) && decide (z ≤ pr.2)) := rfl
          rw [ew] at fin
          cases k1 : decide (pr.1 ≤ z) with
          | false =>
            rw [k1] at fin
            exact iteF fin
          | true =>
            rw [k1] at fin
            refine iteT ?_
            repeat walk_at "s1"
            exact fin
        · rw [List.take_of_length_le (by rw [List.length_map, List.length_map, hpr.len]; exact Nat.le_refl _)] at e
          subst e
          repeat walk_at "s1"
          refine ⟨D, _, rfl, lstL upd_same, ?_⟩
          have q2 := q _ (B.trans (Bn ((l.map fun (x : Int × Int) => Sg49.within z x.1 x.2).map V.bl)))
          replace q2 : Q (.bl (decide (c = c' ∧ b = b') && l.any fun (x : Int × Int) => Sg49.within z x.1 x.2)) _ := q2
          rw [k, Bool.true_and] at q2
          rw [List.any_map]
          exact q2
end
end SP
set_option maxHeartbeats 2000000
namespace SP
open PySem PySem.Spec PyProof.Rows L2
/-- one step of a reading where nothing is asked -/
local macro_rules | `(tactic| walk_at "s1") => `(tactic| with_reducible first
  | refine k_seq ?_ | refine k_asg ?_ | refine k_if ?_ | refine k_ret ?_ | refine k_set ?_ | refine k_drop ?_ | refine k_next ?_ | refine k_retN ?_
  | refine k_var rfl ?_ | refine k_c ?_ | refine k_fld ?_ | refine k_fldK (by assumption) ?_ | refine k_op ?_ | refine k_plus ?_ | refine k_minus ?_ | refine k_cons ?_ | refine k_nil ?_ | refine k_name ?_
  | refine k_cmp ?_ | refine k_cmpK ?_ | refine k_B ?_ | refine k_blK ?_ | refine k_test ?_ | refine k_meth ?_ | refine k_call ?_ | refine k_CB ?_ | refine k_len (by assumption) ?_
  | refine k_ixT (by assumption) rfl ?_ | refine k_and ?_ | refine k_or ?_ | refine k_not ?_ | refine k_andV ?_ | refine k_orV ?_ | refine k_notV ?_ | refine k_ife ?_ | refine k_chain ?_ | refine k_tup ?_ | refine k_lst ?_
  | refine k_less ?_ | refine k_leq ?_ | refine k_un ?_ | refine k_neg ?_ | refine k_isN ?_ | refine k_notN ?_ | refine k_max ?_ | refine k_min ?_ | refine k_abs ?_ | refine k_bm ?_ | refine k_make ?_ | refine k_app (by assumption) (by assumption) ?_)
/-! ### an input taken -/
section
variable {K : PySem.W.Frag} {mg : Str → Option Value}
local macro_rules | `(tactic| walk_at "s2") => `(tactic| first | walk_at "s1" | refine iteT ?_ | refine iteF ?_)
variable {G H H' : Hp} {r : RA} {pact : Addr} {d : Sg49.Done} {e : Sg49.Env} {ps ws : List V}
def inputD (d : Sg49.Done) : Sg49.Input → Sg49.Done
  | .deposit a _ t z => if z ≤ 0 then { d with warns := d.warns ++ [.deposit a t z] } else { d with state := (d.state.put a t (d.state.has a t + z.toNat)).paidIn t z.toNat }
  | .choice c _ z => { d with state := { d.state with choices := d.state.choices.set c (some z) } }
  | .notify => d
theorem fits_eq {x : Sg49.Action} {i : Sg49.Input} : Sg49.fits e d x i = if fitB e d.state x i = true then some { inputD d i with moved := true } else none := by
  cases x with
  | deposit a b t x =>
    cases i with
    | deposit a' b' t' z =>
      show (if a = a' ∧ b = b' ∧ t = t' ∧ x.of e d.state = z then _ else none) = if (decide (a = a' ∧ b = b' ∧ t = t') && decide (x.of e d.state = z)) = true then some { inputD d (.deposit a' b' t' z) with moved := true } else none
      by_cases c : a = a' ∧ b = b' ∧ t = t' ∧ x.of e d.state = z
      · rw [if_pos c]
        obtain ⟨rfl, rfl, rfl, c4⟩ := c
        have fb : (decide (a = a ∧ b = b ∧ t = t) && decide (x.of e d.state = z)) = true := by rw [decide_eq_true c4]; simp
        rw [if_pos fb]
        unfold inputD
        dsimp only
        by_cases cz : z ≤ 0
        · rw [if_pos cz, if_pos cz]
        · rw [if_neg cz, if_neg cz]
      · rw [if_neg c, if_neg]
        intro h
        rw [Bool.and_eq_true, decide_eq_true_eq, decide_eq_true_eq] at h
        exact c ⟨h.1.1, h.1.2.1, h.1.2.2, h.2⟩
    | choice => rfl
    | notify => rfl
  | choice c b l =>
    cases i with
    | deposit => rfl
    | choice c' b' z =>
      show (if c = c' ∧ b = b' ∧ (l.any fun (x : Int × Int) => Sg49.within z x.1 x.2) = true then _ else none) = if (decide (c = c' ∧ b = b') && l.any fun (x : Int × Int) => Sg49.within z x.1 x.2) = true then some { inputD d (.choice c' b' z) with moved := true } else none
      by_cases k : c = c' ∧ b = b' ∧ (l.any fun (x : Int × Int) => Sg49.within z x.1 x.2) = true
      · rw [if_pos k]
        obtain ⟨rfl, rfl, c4⟩ := k
        have fb : (decide (c = c ∧ b = b) && l.any fun (x : Int × Int) => Sg49.within z x.1 x.2) = true := by rw [c4]; simp
        rw [if_pos fb]
        rfl
      · rw [if_neg k, if_neg]
        intro h
        rw [Bool.and_eq_true, decide_eq_true_eq] at h
        exact k ⟨h.1.1, h.1.2, h.2⟩
    | notify => rfl
  | notify o =>
    cases i with
    | notify => rfl
    | deposit => rfl
    | choice => rfl
def spDoInput (K : PySem.W.Frag) : Sp := fun vs H Q _ => ∃ (G : Hp) (r : RA) (pact : Addr) (d : Sg49.Done) (e : Sg49.Env) (ps ws : List V) (w : V) (i : Sg49.Input), vs = [.ref r.ru, w] ∧ RunIn K G H r pact d e ps ws ∧ ws.length < 900000 ∧ InpAt H w i ∧
  (∀ G' H' ws', Same G G' → But r.own H H' → RunIn K G' H' r pact (inputD d i) e ps ws' → Q .non H')
theorem pure_Run_do_input (T : Tx K mg) (vs : List V) (H : Hp) (Q : VK) (E : XK) (h : spDoInput K vs H Q E) : t_Run_do_input K E { nx := fun _ H' => Q .non H', rt := Q } (start N_Run_do_input vs) H := by
  obtain ⟨G, r, pact, d, e, ps, ws, w, i, rfl, hr, hws, hi, q⟩ := h
  obtain ⟨f1, f2, f3', _, _, f6, f7, f8, f9, f10, _⟩ := hr.fd T
  unfold t_Run_do_input
  cases i with
  | notify =>
    obtain ⟨p, rfl, hp⟩ := hi
    have hT := tupT (K := K) hp
    repeat walk_at "s2"
    exact q G H ws (fun _ _ e => e) (But.refl H) hr
  | choice c b z =>
    obtain ⟨p, rfl, hp, hc, hb, hz⟩ := hi
    have hT := tupT (K := K) hp
    repeat walk_at "s2"
    refine k_sub ?_
    repeat walk_at "s1"
    refine ⟨r.s.cl, _, (c : Nat), c, rfl, rfl, hr.st.hcl, ixN_nat (by rw [List.length_map, hr.st.wf.c]; exact hc), ?_⟩
    exact q G _ ws (fun _ _ e => e) ((But.refl H).put (by simp [RA.own, SA.own])) (hr.state (by simp [SA.own]) (hr.st.choice (k := c) hz))
  | deposit a b t z =>
    obtain ⟨p, rfl, hp, ha, hb, ht, hz⟩ := hi
    have hT := tupT (K := K) hp
    unfold inputD at q
    dsimp only at q
    repeat walk_at "s2"
    refine k_gtup hT rfl (k_gcons (k_gcons (k_gcons (k_gcons (k_gcons (k_gnil ?_))))))
    repeat walk_at "s1"
    by_cases c0 : z ≤ 0
    · rw [if_pos c0] at q
      rw [decide_eq_true c0]
      refine iteT ?_
      repeat walk_at "s1"
      refine ⟨ty_list (lstL hr.hwl), ?_⟩
      repeat walk_at "s1"
      refine ⟨small, fun p hp' => ?_⟩
      obtain ⟨G', sg, tell⟩ := hr.tell T (by omega) (p := .deposit a t z) hp'
      refine k_nil (tell fun H' b h' => ?_)
      exact q G' H' _ sg b h'
    · rw [if_neg c0] at q
      rw [decide_eq_false c0]
      refine iteF ?_
      obtain ⟨y1, ey1, hy1, ay1⟩ := atI_row hr.st ha
      have xo : y1 ∈ r.s.own := by simp [SA.own, List.mem_of_getElem? ey1]
      have zt : z = (z.toNat : Nat) := by omega
      repeat walk_at "s1"
      refine k_ixL (lstL hr.st.hac) ay1 ?_
      repeat walk_at "s1"
      refine k_ixL (lstL hy1) (atI_rowV ht) ?_
      unfold natV
      repeat walk_at "s1"
      refine k_sub ?_
      repeat walk_at "s1"
      refine k_ixL (lstL hr.st.hac) ay1 ?_
      repeat walk_at "s1"
      refine ⟨y1, _, (t : Nat), t, rfl, rfl, hy1, ixN_nat ht, ?_⟩
      have e2 : ∀ m : Nat, V.int (((m : Nat) : Int) + z) = natV (m + z.toNat) := fun m => by unfold natV; congr 1; omega
      rw [e2]
      have h2 := hr.state xo (hr.st.put (n := d.state.has a t + z.toNat) ht ha ey1)
      have b2 : But r.own H (upd H y1 (.lst ((rowV d.state.accounts a).set t (natV (d.state.has a t + z.toNat))))) := (But.refl H).put (by simp [RA.own, xo])
      show (tAsg (tOp rPlus (tOp (rIxL K) (tVar 4) (tVar 8)) (tVar 9)) (gSub (tVar 4) (tVar 8) rSetL)) _ _ (upd H y1 (.lst ((rowV d.state.accounts a).set t (natV (d.state.has a t + z.toNat)))))
      generalize upd H y1 (.lst ((rowV d.state.accounts a).set t (natV (d.state.has a t + z.toNat)))) = H2 at h2 b2 ⊢
      have tl : t < (d.state.put a t (d.state.has a t + z.toNat)).ins.length := by rw [h2.st.wf.i]; exact ht
      repeat walk_at "s1"
      refine k_ixL (lstL h2.st.hpi) (atI_natV tl) ?_
      unfold natV
      repeat walk_at "s1"
      refine k_sub ?_
      repeat walk_at "s1"
      rw [e2]
      refine ⟨r.s.pi, _, (t : Nat), t, rfl, rfl, h2.st.hpi, ixN_nat (by rw [List.length_map]; exact tl), ?_⟩
      exact q G _ ws (fun _ _ e => e) (b2.put (by simp [RA.own, SA.own])) (h2.state (by simp [SA.own]) (h2.st.paidIn (t := t) (n := z.toNat)))
/-- the first that fits, of what waits -/
def pickC (e : Sg49.Env) (d : Sg49.Done) (i : Sg49.Input) : Sg49.Contract → Option (Sg49.Contract × Sg49.Done)
  | .when l _ _ => Sg49.pick e d i l
  | _ => none
theorem pick_nil {i : Sg49.Input} : Sg49.pick e d i .nil = none := by rw [Sg49.pick]
theorem pick_cons {i : Sg49.Input} {a : Sg49.Action} {k : Sg49.Contract} {cs : Sg49.Cases} : Sg49.pick e d i (.cons a k cs) = if fitB e d.state a i = true then some (k, { inputD d i with moved := true }) else Sg49.pick e d i cs := by
  rw [Sg49.pick, fits_eq]
  by_cases c : fitB e d.state a i = true
  · rw [if_pos c, if_pos c]
  · rw [if_neg c, if_neg c]
theorem for_enum {a : Addr} {xs : List V} {g : TG} {tb : TS} {D : Ends} {σ : L2.St} {H : Hp} (Pv : Nat → L2.St → Hp → Prop) (h0 : Pv 0 σ H) (hl : ∀ i σ H, Pv i σ H → SqL K H a xs)
    (hs : ∀ (i : Nat) x σ H Tp, xs[i]? = some x → Pv i σ H → H Tp = none → g (.ref Tp) σ (upd H Tp (.tup [.int (i : Nat), x])) fun σ2 H2 => tb { D with nx := Pv (i + 1), ct := Pv (i + 1), bk := D.nx } σ2 H2) (hd : ∀ σ H, Pv xs.length σ H → D.nx σ H) :
    ∃ W : Nat → Nat → L2.St → Hp → Prop, (∃ m, W 0 m σ H) ∧ ∀ i m σ H, W i m σ H →
      ((Ite K a).stop i H ∧ D.nx σ H) ∨ ((Ite K a).go i H ∧ ∃ N : L2.St → Hp → Prop, (∀ σ' H', N σ' H' → ∃ m', m' < m ∧ W (i + 1) m' σ' H') ∧ ∀ x H', (Ite K a).yld i H x H' → g x σ H' fun σ2 H2 => tb { D with nx := N, ct := N, bk := D.nx } σ2 H2) := by
  refine ⟨fun i m σ H => m = xs.length - i ∧ i ≤ xs.length ∧ Pv i σ H, ⟨xs.length, by simp, Nat.zero_le _, h0⟩, ?_⟩
  rintro i m σ H ⟨rfl, hi, p⟩
  have q := hl i σ H p
  by_cases hlt : i < xs.length
  · refine .inr ⟨⟨xs, xs[i], q, by simp [hlt]⟩, Pv (i + 1), fun σ' H' p' => ⟨xs.length - (i + 1), by omega, rfl, hlt, p'⟩, fun x H' y => ?_⟩
    obtain ⟨Tp, z, e1, e2, e3, e4⟩ := y
    subst e1 e3
    exact hs i z σ _ Tp (e4 xs q) p e2
  · have e : i = xs.length := by omega
    subst e
    exact .inl ⟨⟨xs, q, Nat.le_refl _⟩, hd σ H p⟩
theorem inputD_sz {i : Sg49.Input} : (inputD d i).pays.length + (inputD d i).warns.length ≤ d.pays.length + d.warns.length + 1 := by
  cases i with
  | deposit a b t z =>
    unfold inputD
    dsimp only
    by_cases c : z ≤ 0
    · rw [if_pos c]
      show d.pays.length + (d.warns ++ _).length ≤ _
      rw [List.length_append]; exact Nat.le_refl _
    · rw [if_neg c]; exact Nat.le_succ _
  | choice => exact Nat.le_succ _
  | notify => exact Nat.le_succ _
theorem pick_sz {i : Sg49.Input} {k : Sg49.Contract} {d' : Sg49.Done} : ∀ {cs : Sg49.Cases}, Sg49.pick e d i cs = some (k, d') → d'.pays.length + d'.warns.length ≤ d.pays.length + d.warns.length + 1 ∧ k.code.length ≤ cs.code.length
  | .nil, h => by rw [pick_nil] at h; cases h
  | .cons a k' r, h => by
    have e1 : (Sg49.Cases.cons a k' r).code.length = a.code.length + k'.code.length + r.code.length := by simp [Sg49.Cases.code]; omega
    rw [pick_cons] at h
    by_cases c : fitB e d.state a i = true
    · rw [if_pos c] at h
      cases h
      exact ⟨inputD_sz, by omega⟩
    · rw [if_neg c] at h
      obtain ⟨h1, h2⟩ := pick_sz h
      exact ⟨h1, by omega⟩
theorem pickC_sz {i : Sg49.Input} {c k : Sg49.Contract} {d' : Sg49.Done} (h : pickC e d i c = some (k, d')) : sz d' k ≤ sz d c := by
  unfold sz
  cases c with
  | when l t k' =>
    have e1 : (Sg49.Contract.when l t k').code.length = 3 + l.code.length + k'.code.length := by simp [Sg49.Contract.code]; omega
    obtain ⟨h1, h2⟩ := pick_sz (cs := l) h
    omega
  | _ => cases h
/-- the input taken -/
def spTake (K : PySem.W.Frag) : Sp := fun vs H Q E => ∃ (G : Hp) (r : RA) (pact : Addr) (d : Sg49.Done) (e : Sg49.Env) (ps ws : List V) (l : List Int) (c : Sg49.Contract) (w : V) (i : Sg49.Input), vs = [.ref r.ru, w] ∧ RunIn K G H r pact d e ps ws ∧ ws.length < 900000 ∧ PactAt K G l pact c ∧ stops e c ∧ InpAt H w i ∧
  (pickC e d i c = none → ∀ H' x, But r.own H H' → H' x = some (.xd [("answer", .int (-6))]) → E (XR K) (some x) H') ∧
  (∀ k d', pickC e d i c = some (k, d') → ∀ G' H' pact' ws', Same G G' → But r.own H H' → RunIn K G' H' r pact' d' e ps ws' → PactAt K G' l pact' k → Q .non H')
theorem pure_Run_take (T : Tx K mg) (vs : List V) (H : Hp) (Q : VK) (E : XK) (h : spTake K vs H Q E) : t_Run_take K E (spFits K) (spDoInput K) { nx := fun _ H' => Q .non H', rt := Q } (start N_Run_take vs) H := by
  obtain ⟨G, r, pact, d, e, ps, ws, l, c, w, i, rfl, hr, hws, hP, st, hi, qN, qS⟩ := h
  obtain ⟨f1, f2, f3, f4, f5, f6, _⟩ := hr.fd T
  -- what waits
  have wt : ∃ (ac il : Addr) (as ks : List V) (cs : Sg49.Cases) (more : List V), Fd K G pact "actions" (.ref ac) ∧ Fd K G pact "inner" (.ref il) ∧ G ac = some (.lst as) ∧ (as = [] ∨ G il = some (.lst (ks ++ more))) ∧ CasesAt K G l as ks cs ∧ pickC e d i c = Sg49.pick e d i cs := by
    unfold PactAt at hP
    cases c with
    | close =>
      obtain ⟨pa, ac, il, ⟨dx, dd, cnt, s0, e0, hp, _⟩, hac⟩ := hP
      obtain ⟨_, g2, g3, g4, g5, g6, _⟩ := p_fd T hp
      exact ⟨ac, il, [], [], .nil, [], g4, g6, hac, .inl rfl, by unfold CasesAt; trivial, by rw [pick_nil]; rfl⟩
    | when cs t k =>
      obtain ⟨pa, ac, il, as, ks, q, ⟨dx, dd, cnt, s0, e0, hp, _⟩, hac, hil, hcs, hk⟩ := hP
      obtain ⟨_, g2, g3, g4, g5, g6, _⟩ := p_fd T hp
      exact ⟨ac, il, as, ks, cs, [.ref q], g4, g6, hac, .inr hil, hcs, rfl⟩
    | _ => exact st.elim
  obtain ⟨ac, il, as, ks, cs, more, ga, gi, hac, hil, hcs, epk⟩ := wt
  rw [epk] at qN qS
  have fa : Fd K H pact "actions" (.ref ac) := ga.same hr.gs
  unfold t_Run_take
  repeat walk_at "s1"
  unfold tFor iEnum
  repeat walk_at "s1"
  refine ⟨ac, as, rfl, lstL (hr.gs _ _ hac), ?_⟩
  refine for_enum (xs := as) (fun j σ Hj => ∃ x4 x5 cs', σ = [some (.ref r.ru), some w, some (.ref r.s.st), some (.ref pact), x4, x5] ∧ But [] H Hj ∧ CasesAt K G l (as.drop j) (ks.drop j) cs' ∧ Sg49.pick e d i cs = Sg49.pick e d i cs') ⟨none, none, cs, rfl, But.refl H, hcs, rfl⟩ ?_ ?_ ?_
  · rintro j σ Hj ⟨x4, x5, cs', rfl, b, _⟩
    exact lstL (b _ _ (hr.gs _ _ hac) (by simp))
  · rintro j x σ Hj Tp hx ⟨x4, x5, cs', rfl, b, hc, ep⟩ hT
    have bT : But [] H (upd Hj Tp (.tup [.int (j : Nat), x])) := b.newer hT
    have hTT : SqT K (upd Hj Tp (.tup [.int (j : Nat), x])) Tp [.int (j : Nat), x] := tupT upd_same
    have jl : j < as.length := (List.getElem?_eq_some_iff.mp hx).1
    have ed : as.drop j = x :: as.drop (j + 1) := by
      rw [List.drop_eq_getElem_cons jl]
      rw [List.getElem?_eq_getElem jl] at hx
      rw [Option.some.inj hx]
    rw [ed] at hc
    have hh : ∃ (a : Sg49.Action) (k : Sg49.Contract) (r' : Sg49.Cases) (q : Addr), cs' = .cons a k r' ∧ AAt G x a ∧ ks[j]? = some (.ref q) ∧ PactAt K G l q k ∧ CasesAt K G l (as.drop (j + 1)) (ks.drop (j + 1)) r' := by
      cases ek : ks.drop j with
      | nil =>
        rw [ek] at hc
        cases cs' with
        | nil => unfold CasesAt at hc; exact hc.elim
        | cons => unfold CasesAt at hc; exact hc.elim
      | cons v vs =>
        rw [ek] at hc
        cases cs' with
        | nil => unfold CasesAt at hc; exact hc.elim
        | cons a k r' =>
          unfold CasesAt at hc
          obtain ⟨h1, ⟨q, rfl, h2⟩, h3⟩ := hc
          have kl : j < ks.length := by
            by_cases c : j < ks.length
            · exact c
            · rw [List.drop_eq_nil_of_le (by omega)] at ek; cases ek
          rw [List.drop_eq_getElem_cons kl] at ek
          obtain ⟨e1, e2⟩ := List.cons.inj ek
          exact ⟨a, k, r', q, rfl, h1, by rw [List.getElem?_eq_getElem kl, e1], h2, by rw [e2]; exact h3⟩
    obtain ⟨a, k, r', q, rfl, hA, hkq, hPk, hc'⟩ := hh
    have hil' : G il = some (.lst (ks ++ more)) := by
      rcases hil with z | z
      · rw [z] at jl; exact absurd jl (Nat.not_lt_zero _)
      · exact z
    have hr1 := hr.but bT (fun _ _ => by simp) (fun _ _ => by simp) (fun _ hy => by cases hy)
    have hw1 := hi.mono (bT.tup (by simp))
    refine k_gtup hTT rfl (k_gcons (k_gcons (k_gnil ?_)))
    generalize upd Hj Tp (.tup [.int (j : Nat), x]) = H1 at bT hr1 hw1 ⊢
    repeat walk_at "s1"
    refine k_methK hr1.hru rfl ?_
    repeat walk_at "s1"
    refine ⟨r.ru, e, d.state, x, w, a, i, rfl, hr1.view, hA.mono (Same.tup hr1.gs), hw1, fun H2 b2 => ?_⟩
    have bb := bT.trans b2
    have hr2 := hr1.but b2 (fun _ _ => by simp) (fun _ _ => by simp) (fun _ hy => by cases hy)
    have hw2 := hw1.mono (b2.tup (by simp))
    repeat walk_at "s1"
    by_cases cf : fitB e d.state a i = true
    · rw [cf]
      refine iteT ?_
      rw [ep, pick_cons, if_pos cf] at qS
      repeat walk_at "s1"
      refine k_methK hr2.hru rfl ?_
      repeat walk_at "s1"
      refine ⟨G, r, pact, d, e, ps, ws, w, i, rfl, hr2, hws, hw2, fun G3 H3 ws3 s3 b3 h3 => ?_⟩
      have fi3 : Fd K H3 pact "inner" (.ref il) := gi.same (Same.tr s3 h3.gs)
      repeat walk_at "s1"
      refine k_ixL (lstL (h3.gs _ _ (s3 _ _ hil'))) (atI_nat (by rw [List.getElem?_append_left (List.getElem?_eq_some_iff.mp hkq).1]; exact hkq)) ?_
      repeat walk_at "s1"
      refine k_setK (fs' := sF (.ref q) (.int (inputD d i).state.least) (.ref r.s.ac) (.ref r.s.cl) (.ref r.s.sl) (.ref r.s.pi) (.ref r.s.po)) h3.st.hst T.c_State T.n_State_pact rfl ?_
      have h4 := h3.state (x := r.s.st) (by simp [SA.own]) (h3.st.field (pact' := q) (t := (inputD d i).state.least))
      have b4 : But r.own H (upd H3 r.s.st (.ins (CS K) r.s.dst (sF (.ref q) (.int (inputD d i).state.least) (.ref r.s.ac) (.ref r.s.cl) (.ref r.s.sl) (.ref r.s.pi) (.ref r.s.po)))) := ((bb.mono (M' := r.own) (by simp)).trans b3).put (by simp [RA.own, SA.own])
      generalize upd H3 r.s.st (.ins (CS K) r.s.dst (sF (.ref q) (.int (inputD d i).state.least) (.ref r.s.ac) (.ref r.s.cl) (.ref r.s.sl) (.ref r.s.pi) (.ref r.s.po))) = H4 at h4 b4 ⊢
      repeat walk_at "s1"
      refine k_setK (fs' := uF (.ref r.s.st) (.int e.start) (.int e.end_) (.ref r.pl) (.ref r.wl) (.bl true)) h4.hru T.c_Run T.n_Run_has_gone rfl ?_
      repeat walk_at "s1"
      exact qS k _ rfl G3 _ q ws3 s3 (b4.put (by simp [RA.own])) h4.gone (hPk.mono s3)
    · rw [Bool.eq_false_iff.mpr cf]
      refine iteF ?_
      rw [pick_cons, if_neg cf] at ep
      refine k_next ?_
      exact ⟨_, _, r', rfl, bb, hc', ep⟩
  · rintro σ Hj ⟨x4, x5, cs', rfl, b, hc, ep⟩
    rw [List.drop_length] at hc
    have en : cs' = .nil := by
      cases cs' with
      | nil => rfl
      | cons a k r' =>
        generalize ks.drop as.length = kk at hc
        cases kk with
        | nil => unfold CasesAt at hc; exact hc.elim
        | cons => unfold CasesAt at hc; exact hc.elim
    subst en
    rw [pick_nil] at ep
    refine ⟨_, rfl, fun x hx => qN ep _ x ((b.mono (M' := r.own) (by simp)).newer hx) upd_same⟩

/-- the last timeout's sort of thing: what going on leaves, stands -/
theorem reduce_stops' : ∀ (n : Nat) (c : Sg49.Contract) (d : Sg49.Done) {c' : Sg49.Contract} {d' : Sg49.Done}, c.code.length ≤ n → Sg49.reduce e c d = .ok (c', d') → stops e c'
  | n, c, d, c', d', hn, h => by
    rcases goes_cases (e := e) (d := d) c with ⟨k, d2, hg⟩ | hs | hb
    · rw [reduce_goes hg] at h
      have := (goes_sz hg).2
      match n with
      | 0 => omega
      | n + 1 => exact reduce_stops' n k _ (by omega) h
    · by_cases cc : c = .close
      · subst cc
        rw [reduce_close] at h
        cases h; trivial
      · rw [reduce_stops hs cc] at h
        cases h; exact hs
    · rw [reduce_between hb] at h; cases h
/-! ### all that is told -/
theorem flat_take {α : Type} {l : List α} {f : α → List Int} {j : Nat} {x : α} (h : l[j]? = some x) : (l.take (j + 1)).flatMap f = (l.take j).flatMap f ++ f x := by
  rw [List.take_add_one, h]
  simp
def spAllTold (K : PySem.W.Frag) : Sp := fun vs H Q _ => ∃ (G : Hp) (r : RA) (pact : Addr) (d : Sg49.Done) (e : Sg49.Env) (ps ws : List V), vs = [.ref r.ru] ∧ RunIn K G H r pact d e ps ws ∧ ps.length < 900000 ∧ ws.length < 900000 ∧
  (∀ p H', H p = none → But [] H H' → H' p = some (.lst ((d.told.v :: d.told.l).map V.int)) → Q (.ref p) H')
theorem All2.get2 {α β : Type} {R : α → β → Prop} {as : List α} {bs : List β} (h : All2 R as bs) {j : Nat} {b : β} (e : bs[j]? = some b) : ∃ a, as[j]? = some a ∧ R a b := by
  have hl := All2.len h
  have hj := (List.getElem?_eq_some_iff.mp e).1
  obtain ⟨b', e', r⟩ := All2.get h (List.getElem?_eq_getElem (i := j) (by omega : j < as.length))
  rw [e] at e'
  cases e'
  exact ⟨_, List.getElem?_eq_getElem (by omega), r⟩
theorem wcode_len (w : Sg49.Warning) : w.code.length ≤ 5 := by cases w <;> (simp [Sg49.Warning.code])
theorem flat_len {α : Type} {f : α → List Int} {m : Nat} (h : ∀ x, (f x).length ≤ m) : ∀ l : List α, (l.flatMap f).length ≤ m * l.length
  | [] => Nat.zero_le _
  | x :: l => by
    rw [List.flatMap_cons, List.length_append, List.length_cons, Nat.mul_succ]
    have := flat_len h l
    have := h x
    omega
theorem pure_Run_all_told (T : Tx K mg) (vs : List V) (H : Hp) (Q : VK) (E : XK) (h : spAllTold K vs H Q E) : t_Run_all_told K E { nx := fun _ H' => Q .non H', rt := Q } (start N_Run_all_told vs) H := by
  obtain ⟨G, r, pact, d, e, ps, ws, rfl, hr, hps, hws, q⟩ := h
  obtain ⟨f1, f2, f3, _⟩ := hr.fd T
  have hl := lstL (K := K) hr.hpl
  unfold t_Run_all_told
  repeat walk_at "s1"
  refine ⟨small, fun F hF => ?_⟩
  have lp := hr.pslen
  have lw := hr.wslen
  have fne : ∀ {x : Addr} {o : HO}, H x = some o → x ≠ F := fun e => ne_of_none e hF
  have fdF : ∀ {a : Addr} {f : Str} {v : V} (o : HO), Fd K H a f v → Fd K (upd H F o) a f v := fun o h => h.but (M := []) ((But.refl H).newer hF) (by simp)
  repeat walk_at "s1"
  have f2' := fdF (.lst [.int (ps.length : Nat)]) f2
  unfold tFor iList
  repeat walk_at "s1"
  refine ⟨r.pl, rfl, ⟨ps, lstL ((upd_ne (fne hr.hpl)).trans hr.hpl)⟩, ?_⟩
  have pc : ∀ p : Sg49.Payment, (payCode p).length ≤ 4 := fun p => Nat.le_refl _
  refine for_list (xs := ps) (fun j σ Hj => ∃ x2, σ = [some (.ref r.ru), some (.ref F), x2, none] ∧ Hj = upd H F (.lst (((d.pays.length : Int) :: (d.pays.take j).flatMap payCode).map V.int))) ⟨none, rfl, by rw [lp]; rfl⟩ ?_ ?_ ?_
  · rintro j σ Hj _ ⟨x2, rfl, rfl⟩
    exact lstL ((upd_ne (fne hr.hpl)).trans hr.hpl)
  · rintro j x σ Hj hx ⟨x2, rfl, rfl⟩
    obtain ⟨c, hc, a, rfl, ha⟩ := All2.get hr.pays hx
    rw [List.getElem?_map] at hc
    cases hp : d.pays[j]? with
    | none => rw [hp] at hc; cases hc
    | some p =>
      rw [hp] at hc
      cases hc
      have jl := (List.getElem?_eq_some_iff.mp hp).1
      have ha' := hr.gs _ _ ha
      refine k_name ?_
      repeat walk_at "s1"
      refine ⟨ty_list (lstL upd_same), ?_⟩
      repeat walk_at "s1"
      have fl := flat_len pc (d.pays.take j)
      rw [List.length_take] at fl
      refine ⟨F, a, _, _, rfl, rfl, upd_same, (upd_ne (fne ha')).trans ha', ?_, ?_⟩
      · rw [List.length_map, List.length_map, List.length_cons, sizeLine_eq]
        have := pc p
        omega
      · refine ⟨_, rfl, ?_⟩
        rw [upd_upd, flat_take hp, ← List.map_append]
        rfl
  · rintro σ Hj ⟨x2, rfl, rfl⟩
    rw [lp, List.take_length]
    have f3' := fdF (.lst (((d.pays.length : Int) :: d.pays.flatMap payCode).map V.int)) f3
    have hlw := lstL (K := K) ((upd_ne (o := .lst (((d.pays.length : Int) :: d.pays.flatMap payCode).map V.int)) (fne hr.hwl)).trans hr.hwl)
    repeat walk_at "s1"
    refine ⟨ty_list (lstL upd_same), ?_⟩
    repeat walk_at "s1"
    have fl := flat_len pc d.pays
    refine k_app upd_same (by rw [List.length_map, List.length_cons, sizeLine_eq]; omega) ?_
    rw [upd_upd]
    repeat walk_at "s1"
    have f3'' := fdF (.lst (((d.pays.length : Int) :: d.pays.flatMap payCode).map V.int ++ [.int (ws.length : Nat)])) f3
    repeat walk_at "s1"
    refine ⟨r.wl, rfl, ⟨ws, lstL ((upd_ne (fne hr.hwl)).trans hr.hwl)⟩, ?_⟩
    refine for_list (xs := ws) (fun j σ Hj => ∃ x2 x3, σ = [some (.ref r.ru), some (.ref F), x2, x3] ∧ Hj = upd H F (.lst (((d.pays.length : Int) :: (d.pays.flatMap payCode ++ ((d.warns.length : Int) :: (d.warns.take j).flatMap Sg49.Warning.code))).map V.int))) ⟨x2, none, rfl, by rw [lw]; congr 2; simp⟩ ?_ ?_ ?_
    · rintro j σ Hj _ ⟨x2, x3, rfl, rfl⟩
      exact lstL ((upd_ne (fne hr.hwl)).trans hr.hwl)
    · rintro j x σ Hj hx ⟨x2, x3, rfl, rfl⟩
      obtain ⟨c, hc, a, rfl, ha⟩ := All2.get hr.warns hx
      rw [List.getElem?_map] at hc
      cases hp : d.warns[j]? with
      | none => rw [hp] at hc; cases hc
      | some p =>
        rw [hp] at hc
        cases hc
        have jl := (List.getElem?_eq_some_iff.mp hp).1
        have ha' := hr.gs _ _ ha
        refine k_name ?_
        repeat walk_at "s1"
        refine ⟨ty_list (lstL upd_same), ?_⟩
        repeat walk_at "s1"
        have fl2 := flat_len wcode_len (d.warns.take j)
        rw [List.length_take] at fl2
        refine ⟨F, a, _, _, rfl, rfl, upd_same, (upd_ne (fne ha')).trans ha', ?_, ?_⟩
        · rw [List.length_map, List.length_map, List.length_cons, List.length_append, List.length_cons, sizeLine_eq]
          have := wcode_len p
          omega
        · refine ⟨_, _, rfl, ?_⟩
          rw [upd_upd, flat_take hp, ← List.map_append]
          simp
    · rintro σ Hj ⟨x2, x3, rfl, rfl⟩
      rw [lw, List.take_length]
      repeat walk_at "s1"
      exact q F _ hF ((But.refl H).newer hF) upd_same
end
end SP
set_option maxHeartbeats 2000000
namespace SP
open PySem PySem.Spec PyProof.Rows L2
/-- one step of a reading where nothing is asked -/
local macro_rules | `(tactic| walk_at "s1") => `(tactic| with_reducible first
  | refine k_seq ?_ | refine k_asg ?_ | refine k_if ?_ | refine k_ret ?_ | refine k_set ?_ | refine k_drop ?_ | refine k_next ?_ | refine k_retN ?_
  | refine k_var rfl ?_ | refine k_c ?_ | refine k_fld ?_ | refine k_fldK (by assumption) ?_ | refine k_op ?_ | refine k_plus ?_ | refine k_minus ?_ | refine k_cons ?_ | refine k_nil ?_ | refine k_name ?_
  | refine k_cmp ?_ | refine k_cmpK ?_ | refine k_B ?_ | refine k_blK ?_ | refine k_test ?_ | refine k_meth ?_ | refine k_call ?_ | refine k_CB ?_ | refine k_len (by assumption) ?_
  | refine k_ixT (by assumption) rfl ?_ | refine k_and ?_ | refine k_or ?_ | refine k_not ?_ | refine k_andV ?_ | refine k_orV ?_ | refine k_notV ?_ | refine k_ife ?_ | refine k_chain ?_ | refine k_tup ?_ | refine k_lst ?_
  | refine k_less ?_ | refine k_leq ?_ | refine k_un ?_ | refine k_neg ?_ | refine k_isN ?_ | refine k_notN ?_ | refine k_max ?_ | refine k_min ?_ | refine k_abs ?_ | refine k_bm ?_ | refine k_make ?_ | refine k_app (by assumption) (by assumption) ?_)
/-! ### states made -/
section
variable {K : PySem.W.Frag} {mg : Str → Option Value}
local macro_rules | `(tactic| walk_at "s2") => `(tactic| first | walk_at "s1" | refine iteT ?_ | refine iteF ?_)
variable {H H' : Hp} {s : SA} {pact : Addr} {m : Sg49.State}
/-- [v for x in range(n)] -/
theorem lc_const {n j : Nat} {z : Int} {v : V} {σ : L2.St} {H : Hp} {Q : VK} (hz : z = (n : Nat)) (hn : n < 1000) (hw : ∀ x, wipe ((wipe σ [j]).set j (some x)) [j] = wipe σ [j]) (q : ∀ D, H D = none → Q (.ref D) (upd H D (.lst (List.replicate n v)))) :
    tLc (iRng1 (tCons (tC (.int z)) tNil)) (gName j) tYes (tC v) [j] σ H Q := by
  subst hz
  refine ⟨_, rfl, by omega, by omega, fun D hD => ?_⟩
  rw [Int.toNat_natCast]
  refine lc_range (n := n) (fun i Hc => Hc = upd H D (.lst (List.replicate i v))) rfl (fun i Hc hi e => ?_) (fun Hc e => by rw [e]; exact q D hD)
  subst e
  refine ⟨hw _, ?_⟩
  refine k_yes ?_
  refine iteT ?_
  refine k_c ⟨_, upd_same, by rw [List.length_replicate, sizeLine_eq]; omega, ?_⟩
  rw [upd_upd, List.replicate_succ']
/-- rows made beside -/
structure RowsNew (H Hc : Hp) (D : Addr) (rows : List Addr) (row : Nat → List V) : Prop where
  hD : Hc D = some (.lst (rows.map V.ref))
  D0 : H D = none
  at_ : ∀ j r, rows[j]? = some r → Hc r = some (.lst (row j)) ∧ H r = none
  nd : (D :: rows).Nodup
  but : But [] H Hc
theorem RowsNew.snoc {H Hc : Hp} {D q : Addr} {rows : List Addr} {row : Nat → List V} (h : RowsNew H Hc D rows row) (hq : Hc q = none) : RowsNew H (upd (upd Hc q (.lst (row rows.length))) D (.lst (rows.map V.ref ++ [.ref q]))) D (rows ++ [q]) row := by
  have q0 : H q = none := Same.fresh h.but.same hq
  have qD : q ≠ D := fun z => by rw [z, h.hD] at hq; cases hq
  have qr : q ∉ rows := fun z => by
    obtain ⟨j, e⟩ := List.getElem?_of_mem z
    rw [(h.at_ j q e).1] at hq; cases hq
  obtain ⟨n1, n2⟩ := List.nodup_cons.mp h.nd
  refine ⟨by rw [upd_same, List.map_append]; rfl, h.D0, fun j r e => ?_, ?_, (h.but.newer hq).new h.D0⟩
  · by_cases c : j < rows.length
    · rw [List.getElem?_append_left c] at e
      obtain ⟨e1, e2⟩ := h.at_ j r e
      have rm := List.mem_of_getElem? e
      exact ⟨by rw [upd_ne (fun z => n1 (by rw [← z]; exact rm)), upd_ne (fun z => qr (by rw [← z]; exact rm))]; exact e1, e2⟩
    · rw [List.getElem?_append_right (by omega)] at e
      have j0 : j = rows.length := by
        have := (List.getElem?_eq_some_iff.mp e).1
        simp at this; omega
      subst j0
      rw [Nat.sub_self] at e
      cases e
      exact ⟨by rw [upd_ne qD, upd_same], q0⟩
  · rw [List.nodup_cons]
    refine ⟨fun z => ?_, ?_⟩
    · rcases List.mem_append.mp z with z | z
      · exact n1 z
      · simp only [List.mem_singleton] at z; exact qD z.symm
    · rw [List.nodup_append]
      exact ⟨n2, by simp, fun a ha b hb => by simp only [List.mem_singleton] at hb; rw [hb]; exact fun z => qr (by rw [← z]; exact ha)⟩
/-- what was is still there -/
theorem kept {H : Hp} {s q : Addr} {o u w : HO} {y : Addr} (hq : H q = none) (e : H y = some u) (n : y ≠ s) : upd (upd H q o) s w y = some u := by rw [upd_ne n, upd_ne (ne_of_none e hq)]; exact e
theorem own_nodup {s : SA} {H1 H2 H3 H4 H5 : Hp} (h0 : (s.ac :: s.rows).Nodup) (n1 : s.st ≠ s.ac) (n2 : s.st ∉ s.rows) (c : ∀ y, y = s.st ∨ y = s.ac ∨ y ∈ s.rows → H2 y ≠ none) (hc : H2 s.cl = none) (d : ∀ y, y = s.st ∨ y = s.ac ∨ y = s.cl ∨ y ∈ s.rows → H3 y ≠ none) (hd : H3 s.sl = none)
    (e : ∀ y, y = s.st ∨ y = s.ac ∨ y = s.cl ∨ y = s.sl ∨ y ∈ s.rows → H4 y ≠ none) (he : H4 s.pi = none) (f : ∀ y, y = s.st ∨ y = s.ac ∨ y = s.cl ∨ y = s.sl ∨ y = s.pi ∨ y ∈ s.rows → H5 y ≠ none) (hf : H5 s.po = none) : s.own.Nodup := by
  obtain ⟨a1, a2⟩ := List.nodup_cons.mp h0
  have k1 : s.st ≠ s.cl := fun z => c _ (.inl rfl) (by rw [z]; exact hc)
  have k2 : s.st ≠ s.sl := fun z => d _ (.inl rfl) (by rw [z]; exact hd)
  have k3 : s.st ≠ s.pi := fun z => e _ (.inl rfl) (by rw [z]; exact he)
  have k4 : s.st ≠ s.po := fun z => f _ (.inl rfl) (by rw [z]; exact hf)
  have k5 : s.ac ≠ s.cl := fun z => c _ (.inr (.inl rfl)) (by rw [z]; exact hc)
  have k6 : s.ac ≠ s.sl := fun z => d _ (.inr (.inl rfl)) (by rw [z]; exact hd)
  have k7 : s.ac ≠ s.pi := fun z => e _ (.inr (.inl rfl)) (by rw [z]; exact he)
  have k8 : s.ac ≠ s.po := fun z => f _ (.inr (.inl rfl)) (by rw [z]; exact hf)
  have k9 : s.cl ≠ s.sl := fun z => d _ (.inr (.inr (.inl rfl))) (by rw [z]; exact hd)
  have k10 : s.cl ≠ s.pi := fun z => e _ (.inr (.inr (.inl rfl))) (by rw [z]; exact he)
  have k11 : s.cl ≠ s.po := fun z => f _ (.inr (.inr (.inl rfl))) (by rw [z]; exact hf)
  have k12 : s.sl ≠ s.pi := fun z => e _ (.inr (.inr (.inr (.inl rfl)))) (by rw [z]; exact he)
  have k13 : s.sl ≠ s.po := fun z => f _ (.inr (.inr (.inr (.inl rfl)))) (by rw [z]; exact hf)
  have k14 : s.pi ≠ s.po := fun z => f _ (.inr (.inr (.inr (.inr (.inl rfl))))) (by rw [z]; exact hf)
  have r1 : s.cl ∉ s.rows := fun z => c _ (.inr (.inr z)) hc
  have r2 : s.sl ∉ s.rows := fun z => d _ (.inr (.inr (.inr z))) hd
  have r3 : s.pi ∉ s.rows := fun z => e _ (.inr (.inr (.inr (.inr z)))) he
  have r4 : s.po ∉ s.rows := fun z => f _ (.inr (.inr (.inr (.inr (.inr z))))) hf
  unfold SA.own
  simp only [List.nodup_cons, List.mem_cons, not_or]
  exact ⟨⟨n1, k1, k2, k3, k4, n2⟩, ⟨k5, k6, k7, k8, a1⟩, ⟨k9, k10, k11, r1⟩, ⟨k12, k13, r2⟩, ⟨k14, r3⟩, r4, a2⟩
/-- a state, fresh -/
def spStateInit (K : PySem.W.Frag) : Sp := fun vs H Q _ => ∃ (st ds pact : Addr) (t : Int), vs = [.ref st, .ref pact, .int t] ∧ H st = some (.ins (CS K) ds []) ∧
  (∀ H' (s : SA), s.st = st → s.dst = ds → But [st] H H' → StAt K H' s pact (Sg49.fresh t) → (∀ y ∈ s.own, y = st ∨ H y = none) → Q .non H')
theorem fresh_wf {t : Int} : SWF (Sg49.fresh t) := by
  refine ⟨rfl, rfl, rfl, rfl, rfl, fun z h => ?_, fun z h => ?_⟩
  · have := List.eq_of_mem_replicate (show some z ∈ List.replicate 16 none from h)
    cases this
  · have := List.eq_of_mem_replicate (show some z ∈ List.replicate 16 none from h)
    cases this
theorem rowV_fresh {t : Int} {j : Nat} : rowV (Sg49.fresh t).accounts j = List.replicate 4 (.int 0) := by
  have e : ∀ i, (Sg49.fresh t).accounts.getD i 0 = 0 := fun i => by
    show (List.replicate 32 0).getD i 0 = 0
    rw [List.getD_eq_getElem?_getD, List.getElem?_replicate]
    split <;> rfl
  unfold rowV natV
  rw [e, e, e, e]
  rfl
theorem pure_State_init (T : Tx K mg) (vs : List V) (H : Hp) (Q : VK) (E : XK) (h : spStateInit K vs H Q E) : t_State_init K E { nx := fun _ H' => Q .non H', rt := Q } (start N_State_init vs) H := by
  obtain ⟨st, ds, pact, t, rfl, hs, q⟩ := h
  unfold t_State_init
  repeat walk_at "s1"
  refine k_setK hs T.c_State T.n_State_pact rfl ?_
  repeat walk_at "s1"
  refine k_setK (fs' := [("pact", .ref pact), ("time", .int t)]) upd_same T.c_State T.n_State_time rfl ?_
  rw [upd_upd]
  have b0 : But [st] H (upd H st (.ins (CS K) ds [("pact", .ref pact), ("time", .int t)])) := (But.refl H).put (by simp)
  have hs0 : upd H st (.ins (CS K) ds [("pact", .ref pact), ("time", .int t)]) st = _ := upd_same
  have back : ∀ {y : Addr}, upd H st (.ins (CS K) ds [("pact", .ref pact), ("time", .int t)]) y = none → H y = none := fun {y} e => by
    rw [upd_ne (fun z => by rw [z, upd_same] at e; cases e)] at e; exact e
  generalize upd H st (.ins (CS K) ds [("pact", .ref pact), ("time", .int t)]) = H0 at b0 hs0 back ⊢
  repeat walk_at "s1"
  refine ⟨_, rfl, by omega, by omega, fun D hD => ?_⟩
  refine lc_range (n := 8) (fun i Hc => ∃ rows, rows.length = i ∧ RowsNew H0 Hc D rows (fun _ => List.replicate 4 (.int 0))) ⟨[], rfl, upd_same, hD, fun j r e => by simp at e, by simp, (But.refl H0).new hD⟩ (fun i Hc hi ⟨rows, hl, hr⟩ => ?_) (fun Hc ⟨rows, hl, hr⟩ => ?_)
  · refine ⟨rfl, ?_⟩
    refine k_yes ?_
    refine iteT ?_
    refine lc_const (n := 4) rfl (by omega) (fun _ => rfl) fun q hq => ?_
    have qD : D ≠ q := fun z => by rw [← z, hr.hD] at hq; cases hq
    refine ⟨rows.map V.ref, (upd_ne qD).trans hr.hD, by rw [List.length_map, sizeLine_eq]; omega, rows ++ [q], by rw [List.length_append, hl]; rfl, hr.snoc hq⟩
  have hb := hr.but
  have sD : st ≠ D := fun z => by rw [z, hr.D0] at hs0; cases hs0
  have sr : st ∉ rows := fun z => by
    obtain ⟨j, e⟩ := List.getElem?_of_mem z
    rw [(hr.at_ j _ e).2] at hs0; cases hs0
  have rs : ∀ {j : Nat} {r : Addr}, rows[j]? = some r → r ≠ st := fun e z => sr (by rw [← z]; exact List.mem_of_getElem? e)
  have bc : But [st] H Hc := b0.trans (hb.mono (by simp))
  refine k_var rfl ?_
  refine k_setK (fs' := [("pact", .ref pact), ("time", .int t), ("accounts", .ref D)]) (hb _ _ hs0 (by simp)) T.c_State T.n_State_accounts rfl ?_
  -- choices
  have hs1 : upd Hc st (.ins (CS K) ds [("pact", .ref pact), ("time", .int t), ("accounts", .ref D)]) st = _ := upd_same
  have b1 : But [st] H (upd Hc st (.ins (CS K) ds [("pact", .ref pact), ("time", .int t), ("accounts", .ref D)])) := bc.put (by simp)
  have ac1 : upd Hc st (.ins (CS K) ds [("pact", .ref pact), ("time", .int t), ("accounts", .ref D)]) D = _ := (upd_ne (Ne.symm sD)).trans hr.hD
  have rw1 : ∀ j r, rows[j]? = some r → upd Hc st (.ins (CS K) ds [("pact", .ref pact), ("time", .int t), ("accounts", .ref D)]) r = some (.lst (List.replicate 4 (.int 0))) := fun j r e => (upd_ne (rs e)).trans (hr.at_ j r e).1
  generalize upd Hc st (.ins (CS K) ds [("pact", .ref pact), ("time", .int t), ("accounts", .ref D)]) = H1 at hs1 b1 ac1 rw1 ⊢
  repeat walk_at "s1"
  refine lc_const (n := 16) rfl (by omega) (fun _ => rfl) fun cl hcl => ?_
  have cls : cl ≠ st := fun z => by rw [z, hs1] at hcl; cases hcl
  refine k_var rfl ?_
  refine k_setK (fs' := [("pact", .ref pact), ("time", .int t), ("accounts", .ref D), ("choices", .ref cl)]) ((upd_ne (Ne.symm cls)).trans hs1) T.c_State T.n_State_choices rfl ?_
  have ac2 := kept (o := .lst (List.replicate 16 .non)) (w := .ins (CS K) ds [("pact", .ref pact), ("time", .int t), ("accounts", .ref D), ("choices", .ref cl)]) hcl ac1 (Ne.symm sD)
  have rw2 := fun j r (e : rows[j]? = some r) => kept (o := .lst (List.replicate 16 .non)) (w := .ins (CS K) ds [("pact", .ref pact), ("time", .int t), ("accounts", .ref D), ("choices", .ref cl)]) hcl (rw1 j r e) (rs e)
  have cl2 : upd (upd H1 cl (.lst (List.replicate 16 .non))) st (.ins (CS K) ds [("pact", .ref pact), ("time", .int t), ("accounts", .ref D), ("choices", .ref cl)]) cl = some (.lst (List.replicate 16 .non)) := (upd_ne cls).trans upd_same
  have hs2 : upd (upd H1 cl (.lst (List.replicate 16 .non))) st (.ins (CS K) ds [("pact", .ref pact), ("time", .int t), ("accounts", .ref D), ("choices", .ref cl)]) st = _ := upd_same
  have b2 : But [st] H (upd (upd H1 cl (.lst (List.replicate 16 .non))) st (.ins (CS K) ds [("pact", .ref pact), ("time", .int t), ("accounts", .ref D), ("choices", .ref cl)])) := (b1.newer hcl).put (by simp)
  generalize upd (upd H1 cl (.lst (List.replicate 16 .non))) st (.ins (CS K) ds [("pact", .ref pact), ("time", .int t), ("accounts", .ref D), ("choices", .ref cl)]) = H2 at ac2 rw2 cl2 hs2 b2 ⊢
  -- slots
  repeat walk_at "s1"
  refine lc_const (n := 16) rfl (by omega) (fun _ => rfl) fun sl hsl => ?_
  have sls : sl ≠ st := fun z => by rw [z, hs2] at hsl; cases hsl
  refine k_var rfl ?_
  refine k_setK (fs' := [("pact", .ref pact), ("time", .int t), ("accounts", .ref D), ("choices", .ref cl), ("slots", .ref sl)]) ((upd_ne (Ne.symm sls)).trans hs2) T.c_State T.n_State_slots rfl ?_
  have ac3 := kept (o := .lst (List.replicate 16 .non)) (w := .ins (CS K) ds [("pact", .ref pact), ("time", .int t), ("accounts", .ref D), ("choices", .ref cl), ("slots", .ref sl)]) hsl ac2 (Ne.symm sD)
  have rw3 := fun j r (e : rows[j]? = some r) => kept (o := .lst (List.replicate 16 .non)) (w := .ins (CS K) ds [("pact", .ref pact), ("time", .int t), ("accounts", .ref D), ("choices", .ref cl), ("slots", .ref sl)]) hsl (rw2 j r e) (rs e)
  have cl3 := kept (o := .lst (List.replicate 16 .non)) (w := .ins (CS K) ds [("pact", .ref pact), ("time", .int t), ("accounts", .ref D), ("choices", .ref cl), ("slots", .ref sl)]) hsl cl2 cls
  have sl3 : upd (upd H2 sl (.lst (List.replicate 16 .non))) st (.ins (CS K) ds [("pact", .ref pact), ("time", .int t), ("accounts", .ref D), ("choices", .ref cl), ("slots", .ref sl)]) sl = some (.lst (List.replicate 16 .non)) := (upd_ne sls).trans upd_same
  have hs3 : upd (upd H2 sl (.lst (List.replicate 16 .non))) st (.ins (CS K) ds [("pact", .ref pact), ("time", .int t), ("accounts", .ref D), ("choices", .ref cl), ("slots", .ref sl)]) st = _ := upd_same
  have b3 : But [st] H (upd (upd H2 sl (.lst (List.replicate 16 .non))) st (.ins (CS K) ds [("pact", .ref pact), ("time", .int t), ("accounts", .ref D), ("choices", .ref cl), ("slots", .ref sl)])) := (b2.newer hsl).put (by simp)
  generalize upd (upd H2 sl (.lst (List.replicate 16 .non))) st (.ins (CS K) ds [("pact", .ref pact), ("time", .int t), ("accounts", .ref D), ("choices", .ref cl), ("slots", .ref sl)]) = H3 at ac3 rw3 cl3 sl3 hs3 b3 ⊢
  -- paid in
  repeat walk_at "s1"
  refine lc_const (n := 4) rfl (by omega) (fun _ => rfl) fun pi hpi => ?_
  have pis : pi ≠ st := fun z => by rw [z, hs3] at hpi; cases hpi
  refine k_var rfl ?_
  refine k_setK (fs' := [("pact", .ref pact), ("time", .int t), ("accounts", .ref D), ("choices", .ref cl), ("slots", .ref sl), ("paid_in", .ref pi)]) ((upd_ne (Ne.symm pis)).trans hs3) T.c_State T.n_State_paid_in rfl ?_
  have ac4 := kept (o := .lst (List.replicate 4 (.int 0))) (w := .ins (CS K) ds [("pact", .ref pact), ("time", .int t), ("accounts", .ref D), ("choices", .ref cl), ("slots", .ref sl), ("paid_in", .ref pi)]) hpi ac3 (Ne.symm sD)
  have rw4 := fun j r (e : rows[j]? = some r) => kept (o := .lst (List.replicate 4 (.int 0))) (w := .ins (CS K) ds [("pact", .ref pact), ("time", .int t), ("accounts", .ref D), ("choices", .ref cl), ("slots", .ref sl), ("paid_in", .ref pi)]) hpi (rw3 j r e) (rs e)
  have cl4 := kept (o := .lst (List.replicate 4 (.int 0))) (w := .ins (CS K) ds [("pact", .ref pact), ("time", .int t), ("accounts", .ref D), ("choices", .ref cl), ("slots", .ref sl), ("paid_in", .ref pi)]) hpi cl3 cls
  have sl4 := kept (o := .lst (List.replicate 4 (.int 0))) (w := .ins (CS K) ds [("pact", .ref pact), ("time", .int t), ("accounts", .ref D), ("choices", .ref cl), ("slots", .ref sl), ("paid_in", .ref pi)]) hpi sl3 sls
  have pi4 : upd (upd H3 pi (.lst (List.replicate 4 (.int 0)))) st (.ins (CS K) ds [("pact", .ref pact), ("time", .int t), ("accounts", .ref D), ("choices", .ref cl), ("slots", .ref sl), ("paid_in", .ref pi)]) pi = some (.lst (List.replicate 4 (.int 0))) := (upd_ne pis).trans upd_same
  have hs4 : upd (upd H3 pi (.lst (List.replicate 4 (.int 0)))) st (.ins (CS K) ds [("pact", .ref pact), ("time", .int t), ("accounts", .ref D), ("choices", .ref cl), ("slots", .ref sl), ("paid_in", .ref pi)]) st = _ := upd_same
  have b4 : But [st] H (upd (upd H3 pi (.lst (List.replicate 4 (.int 0)))) st (.ins (CS K) ds [("pact", .ref pact), ("time", .int t), ("accounts", .ref D), ("choices", .ref cl), ("slots", .ref sl), ("paid_in", .ref pi)])) := (b3.newer hpi).put (by simp)
  generalize upd (upd H3 pi (.lst (List.replicate 4 (.int 0)))) st (.ins (CS K) ds [("pact", .ref pact), ("time", .int t), ("accounts", .ref D), ("choices", .ref cl), ("slots", .ref sl), ("paid_in", .ref pi)]) = H4 at ac4 rw4 cl4 sl4 pi4 hs4 b4 ⊢
  -- paid out
  repeat walk_at "s1"
  refine lc_const (n := 4) rfl (by omega) (fun _ => rfl) fun po hpo => ?_
  have pos : po ≠ st := fun z => by rw [z, hs4] at hpo; cases hpo
  refine k_var rfl ?_
  refine k_setK (fs' := sF (.ref pact) (.int t) (.ref D) (.ref cl) (.ref sl) (.ref pi) (.ref po)) ((upd_ne (Ne.symm pos)).trans hs4) T.c_State T.n_State_paid_out rfl ?_
  have ac5 := kept (o := .lst (List.replicate 4 (.int 0))) (w := .ins (CS K) ds (sF (.ref pact) (.int t) (.ref D) (.ref cl) (.ref sl) (.ref pi) (.ref po))) hpo ac4 (Ne.symm sD)
  have rw5 := fun j r (e : rows[j]? = some r) => kept (o := .lst (List.replicate 4 (.int 0))) (w := .ins (CS K) ds (sF (.ref pact) (.int t) (.ref D) (.ref cl) (.ref sl) (.ref pi) (.ref po))) hpo (rw4 j r e) (rs e)
  have cl5 := kept (o := .lst (List.replicate 4 (.int 0))) (w := .ins (CS K) ds (sF (.ref pact) (.int t) (.ref D) (.ref cl) (.ref sl) (.ref pi) (.ref po))) hpo cl4 cls
  have sl5 := kept (o := .lst (List.replicate 4 (.int 0))) (w := .ins (CS K) ds (sF (.ref pact) (.int t) (.ref D) (.ref cl) (.ref sl) (.ref pi) (.ref po))) hpo sl4 sls
  have pi5 := kept (o := .lst (List.replicate 4 (.int 0))) (w := .ins (CS K) ds (sF (.ref pact) (.int t) (.ref D) (.ref cl) (.ref sl) (.ref pi) (.ref po))) hpo pi4 pis
  have some_ne : ∀ {Hx : Hp} {y : Addr} {u : HO}, Hx y = some u → Hx y ≠ none := fun e z => by rw [e] at z; cases z
  have rmem : ∀ {Hx : Hp}, (∀ j r, rows[j]? = some r → Hx r = some (.lst (List.replicate 4 (.int 0)))) → ∀ y ∈ rows, Hx y ≠ none := fun h y hy => by
    obtain ⟨j, e⟩ := List.getElem?_of_mem hy
    exact some_ne (h j y e)
  refine q _ ⟨st, ds, D, cl, sl, pi, po, rows⟩ rfl rfl ((b4.newer hpo).put (by simp)) ⟨upd_same, ac5, hl, fun i r e => ?_, cl5, sl5, pi5, (upd_ne pos).trans upd_same, ?_, fresh_wf⟩ ?_
  · rw [rowV_fresh]; exact rw5 i r e
  · refine own_nodup (H1 := H1) (H2 := H1) (H3 := H2) (H4 := H3) (H5 := H4) hr.nd sD sr ?_ hcl ?_ hsl ?_ hpi ?_ hpo
    · rintro y (rfl | rfl | h)
      · exact some_ne hs1
      · exact some_ne ac1
      · exact rmem rw1 y h
    · rintro y (rfl | rfl | rfl | h)
      · exact some_ne hs2
      · exact some_ne ac2
      · exact some_ne cl2
      · exact rmem rw2 y h
    · rintro y (rfl | rfl | rfl | rfl | h)
      · exact some_ne hs3
      · exact some_ne ac3
      · exact some_ne cl3
      · exact some_ne sl3
      · exact rmem rw3 y h
    · rintro y (rfl | rfl | rfl | rfl | rfl | h)
      · exact some_ne hs4
      · exact some_ne ac4
      · exact some_ne cl4
      · exact some_ne sl4
      · exact some_ne pi4
      · exact rmem rw4 y h
  · have new : ∀ {Hx : Hp} {y : Addr}, But [st] H Hx → y ≠ st → Hx y = none → H y = none := fun b n e => b.free e (by simp; exact n)
    intro y hy
    simp only [SA.own, List.mem_cons] at hy
    rcases hy with rfl | rfl | rfl | rfl | rfl | rfl | h
    · exact .inl rfl
    · exact .inr (back hr.D0)
    · exact .inr (new b1 cls hcl)
    · exact .inr (new b2 sls hsl)
    · exact .inr (new b3 pis hpi)
    · exact .inr (new b4 pos hpo)
    · obtain ⟨j, e⟩ := List.getElem?_of_mem h
      exact .inr (back (hr.at_ j y e).2)
end
end SP
set_option maxHeartbeats 2000000
namespace SP
open PySem PySem.Spec PyProof.Rows L2
/-- one step of a reading where nothing is asked -/
local macro_rules | `(tactic| walk_at "s1") => `(tactic| with_reducible first
  | refine k_seq ?_ | refine k_asg ?_ | refine k_if ?_ | refine k_ret ?_ | refine k_set ?_ | refine k_drop ?_ | refine k_next ?_ | refine k_retN ?_
  | refine k_var rfl ?_ | refine k_c ?_ | refine k_fld ?_ | refine k_fldK (by assumption) ?_ | refine k_op ?_ | refine k_plus ?_ | refine k_minus ?_ | refine k_cons ?_ | refine k_nil ?_ | refine k_name ?_
  | refine k_cmp ?_ | refine k_cmpK ?_ | refine k_B ?_ | refine k_blK ?_ | refine k_test ?_ | refine k_meth ?_ | refine k_call ?_ | refine k_CB ?_ | refine k_len (by assumption) ?_
  | refine k_ixT (by assumption) rfl ?_ | refine k_and ?_ | refine k_or ?_ | refine k_not ?_ | refine k_andV ?_ | refine k_orV ?_ | refine k_notV ?_ | refine k_ife ?_ | refine k_chain ?_ | refine k_tup ?_ | refine k_lst ?_
  | refine k_less ?_ | refine k_leq ?_ | refine k_un ?_ | refine k_neg ?_ | refine k_isN ?_ | refine k_notN ?_ | refine k_max ?_ | refine k_min ?_ | refine k_abs ?_ | refine k_bm ?_ | refine k_make ?_ | refine k_app (by assumption) (by assumption) ?_)
section
variable {K : PySem.W.Frag} {mg : Str → Option Value}
local macro_rules | `(tactic| walk_at "s2") => `(tactic| first | walk_at "s1" | refine iteT ?_ | refine iteF ?_)
variable {H H' : Hp} {s : SA} {pact : Addr} {m : Sg49.State}
def spTwin (K : PySem.W.Frag) : Sp := fun vs H Q _ => ∃ (s : SA) (pact : Addr) (m : Sg49.State), vs = [.ref s.st] ∧ StAt K H s pact m ∧ (∀ H' (s' : SA), But [] H H' → StAt K H' s' pact m → (∀ y ∈ s'.own, H y = none) → Q (.ref s'.st) H')
theorem pure_State_twin (T : Tx K mg) (vs : List V) (H : Hp) (Q : VK) (E : XK) (h : spTwin K vs H Q E) : t_State_twin K E (spStateInit K) { nx := fun _ H' => Q .non H', rt := Q } (start N_State_twin vs) H := by
  obtain ⟨s, pact, m, rfl, hS, q⟩ := h
  obtain ⟨f1, f2, f3, f4, f5, f6, f7⟩ := hS.fd T
  unfold t_State_twin
  repeat walk_at "s1"
  intro st ds hst hds dst
  have stn : ∀ y ∈ s.own, y ≠ st := fun y hy z => (hS.is y hy).1 (by rw [z]; exact hst)
  refine ⟨st, ds, pact, m.least, rfl, upd_same, fun H0 s0 e1 e2 bb hS0 _ => ⟨rfl, ?_⟩⟩
  have b0 : But [] H H0 := fun y o e n => bb y o (by rw [upd_ne (ne_of_none e hst), upd_ne (ne_of_none e hds)]; exact e) (by simp; exact ne_of_none e hst)
  have hs0 := hS0.hst
  rw [e1, e2] at hs0
  have mm : (Sg49.fresh m.least).least = m.least := rfl
  rw [mm] at hs0
  have hS1 := hS.but b0 (fun _ _ => by simp)
  have s0st : st ∉ s.own := fun z => stn st z rfl
  clear bb hS0 f1 f2 f3 f4 f5 f6 f7
  obtain ⟨f1, f2, f3, f4, f5, f6, f7⟩ := hS1.fd T
  repeat walk_at "s1"
  unfold tLc iList
  repeat walk_at "s1"
  refine ⟨s.ac, rfl, ⟨_, lstL hS1.hac⟩, fun D hD => ?_⟩
  refine lc_list (xs := s.rows.map V.ref) (fun i Hc => ∃ rows, rows.length = i ∧ RowsNew H0 Hc D rows (rowV m.accounts)) ⟨[], rfl, upd_same, hD, fun j r e => by simp at e, by simp, (But.refl H0).new hD⟩ (fun i Hc _ ⟨rows, hl, hr⟩ => lstL (hr.but _ _ hS1.hac (by simp))) (fun i x Hc hx ⟨rows, hl, hr⟩ => ?_) (fun Hc ⟨rows, hl, hr⟩ => ?_)
  · refine ⟨rfl, ?_⟩
    refine k_yes ?_
    refine iteT ?_
    rw [List.getElem?_map] at hx
    cases ex : s.rows[i]? with
    | none => rw [ex] at hx; cases hx
    | some r =>
      rw [ex] at hx
      cases hx
      have il := (List.getElem?_eq_some_iff.mp ex).1
      have rl := hS1.rl
      repeat walk_at "s1"
      refine k_list (lstL (hr.but _ _ (hS1.hrow i r ex) (by simp))) fun q hq => ?_
      have qD : D ≠ q := fun z => by rw [← z, hr.hD] at hq; cases hq
      have sn := hr.snoc hq
      rw [hl] at sn
      exact ⟨rows.map V.ref, (upd_ne qD).trans hr.hD, by rw [List.length_map, sizeLine_eq]; omega, rows ++ [q], by rw [List.length_append, hl]; rfl, sn⟩
  rw [List.length_map, hS1.rl] at hl
  have hb := hr.but
  have sD : st ≠ D := fun z => by rw [z, hr.D0] at hs0; cases hs0
  have sr : st ∉ rows := fun z => by
    obtain ⟨j, e⟩ := List.getElem?_of_mem z
    rw [(hr.at_ j _ e).2] at hs0; cases hs0
  have rs : ∀ {j : Nat} {r : Addr}, rows[j]? = some r → r ≠ st := fun e z => sr (by rw [← z]; exact List.mem_of_getElem? e)
  have bc : But [st] H0 Hc := hb.mono (by simp)
  have src : ∀ {Hx : Hp}, But [st] H0 Hx → StAt K Hx s pact m := fun b => hS1.but b (fun y hy => by simp; exact stn y hy)
  refine k_var rfl ?_
  refine k_setK (fs' := (sF (.ref pact) (.int m.least) (.ref D) (.ref s0.cl) (.ref s0.sl) (.ref s0.pi) (.ref s0.po))) (hb _ _ hs0 (by simp)) T.c_State T.n_State_accounts rfl ?_
  have hs1 : upd Hc st (.ins (CS K) ds (sF (.ref pact) (.int m.least) (.ref D) (.ref s0.cl) (.ref s0.sl) (.ref s0.pi) (.ref s0.po))) st = _ := upd_same
  have b1 : But [st] H0 (upd Hc st (.ins (CS K) ds (sF (.ref pact) (.int m.least) (.ref D) (.ref s0.cl) (.ref s0.sl) (.ref s0.pi) (.ref s0.po)))) := bc.put (by simp)
  have ac1 : upd Hc st (.ins (CS K) ds (sF (.ref pact) (.int m.least) (.ref D) (.ref s0.cl) (.ref s0.sl) (.ref s0.pi) (.ref s0.po))) D = _ := (upd_ne (Ne.symm sD)).trans hr.hD
  have rw1 : ∀ j r, rows[j]? = some r → upd Hc st (.ins (CS K) ds (sF (.ref pact) (.int m.least) (.ref D) (.ref s0.cl) (.ref s0.sl) (.ref s0.pi) (.ref s0.po))) r = some (.lst (rowV m.accounts j)) := fun j r e => (upd_ne (rs e)).trans (hr.at_ j r e).1
  generalize upd Hc st (.ins (CS K) ds (sF (.ref pact) (.int m.least) (.ref D) (.ref s0.cl) (.ref s0.sl) (.ref s0.pi) (.ref s0.po))) = H1 at hs1 b1 ac1 rw1 ⊢
  have S1 := src b1
  clear f1 f2 f3 f4 f5 f6 f7
  obtain ⟨f1, f2, f3, f4, f5, f6, f7⟩ := S1.fd T
  repeat walk_at "s1"
  refine k_list (lstL S1.hcl) fun cl hcl => ?_
  have cls : cl ≠ st := fun z => by rw [z, hs1] at hcl; cases hcl
  repeat walk_at "s1"
  refine k_setK (fs' := (sF (.ref pact) (.int m.least) (.ref D) (.ref cl) (.ref s0.sl) (.ref s0.pi) (.ref s0.po))) ((upd_ne (Ne.symm cls)).trans hs1) T.c_State T.n_State_choices rfl ?_
  have ac2 := kept (o := (.lst (m.choices.map optV))) (w := (.ins (CS K) ds (sF (.ref pact) (.int m.least) (.ref D) (.ref cl) (.ref s0.sl) (.ref s0.pi) (.ref s0.po)))) hcl ac1 (Ne.symm sD)
  have rw2 := fun j r (e : rows[j]? = some r) => kept (o := (.lst (m.choices.map optV))) (w := (.ins (CS K) ds (sF (.ref pact) (.int m.least) (.ref D) (.ref cl) (.ref s0.sl) (.ref s0.pi) (.ref s0.po)))) hcl (rw1 j r e) (rs e)
  have cl2 : (upd (upd H1 cl (.lst (m.choices.map optV))) st (.ins (CS K) ds (sF (.ref pact) (.int m.least) (.ref D) (.ref cl) (.ref s0.sl) (.ref s0.pi) (.ref s0.po)))) cl = some (.lst (m.choices.map optV)) := (upd_ne cls).trans upd_same
  have hs2 : (upd (upd H1 cl (.lst (m.choices.map optV))) st (.ins (CS K) ds (sF (.ref pact) (.int m.least) (.ref D) (.ref cl) (.ref s0.sl) (.ref s0.pi) (.ref s0.po)))) st = _ := upd_same
  have b2 : But [st] H0 (upd (upd H1 cl (.lst (m.choices.map optV))) st (.ins (CS K) ds (sF (.ref pact) (.int m.least) (.ref D) (.ref cl) (.ref s0.sl) (.ref s0.pi) (.ref s0.po)))) := (b1.newer hcl).put (by simp)
  generalize upd (upd H1 cl (.lst (m.choices.map optV))) st (.ins (CS K) ds (sF (.ref pact) (.int m.least) (.ref D) (.ref cl) (.ref s0.sl) (.ref s0.pi) (.ref s0.po))) = H2 at ac2 rw2 cl2 hs2 b2 ⊢
  have S2 := src b2
  clear f1 f2 f3 f4 f5 f6 f7
  obtain ⟨f1, f2, f3, f4, f5, f6, f7⟩ := S2.fd T
  repeat walk_at "s1"
  refine k_list (lstL S2.hsl) fun sl hsl => ?_
  have sls : sl ≠ st := fun z => by rw [z, hs2] at hsl; cases hsl
  repeat walk_at "s1"
  refine k_setK (fs' := (sF (.ref pact) (.int m.least) (.ref D) (.ref cl) (.ref sl) (.ref s0.pi) (.ref s0.po))) ((upd_ne (Ne.symm sls)).trans hs2) T.c_State T.n_State_slots rfl ?_
  have ac3 := kept (o := (.lst (m.slots.map optV))) (w := (.ins (CS K) ds (sF (.ref pact) (.int m.least) (.ref D) (.ref cl) (.ref sl) (.ref s0.pi) (.ref s0.po)))) hsl ac2 (Ne.symm sD)
  have rw3 := fun j r (e : rows[j]? = some r) => kept (o := (.lst (m.slots.map optV))) (w := (.ins (CS K) ds (sF (.ref pact) (.int m.least) (.ref D) (.ref cl) (.ref sl) (.ref s0.pi) (.ref s0.po)))) hsl (rw2 j r e) (rs e)
  have cl3 := kept (o := (.lst (m.slots.map optV))) (w := (.ins (CS K) ds (sF (.ref pact) (.int m.least) (.ref D) (.ref cl) (.ref sl) (.ref s0.pi) (.ref s0.po)))) hsl cl2 cls
  have sl3 : (upd (upd H2 sl (.lst (m.slots.map optV))) st (.ins (CS K) ds (sF (.ref pact) (.int m.least) (.ref D) (.ref cl) (.ref sl) (.ref s0.pi) (.ref s0.po)))) sl = some (.lst (m.slots.map optV)) := (upd_ne sls).trans upd_same
  have hs3 : (upd (upd H2 sl (.lst (m.slots.map optV))) st (.ins (CS K) ds (sF (.ref pact) (.int m.least) (.ref D) (.ref cl) (.ref sl) (.ref s0.pi) (.ref s0.po)))) st = _ := upd_same
  have b3 : But [st] H0 (upd (upd H2 sl (.lst (m.slots.map optV))) st (.ins (CS K) ds (sF (.ref pact) (.int m.least) (.ref D) (.ref cl) (.ref sl) (.ref s0.pi) (.ref s0.po)))) := (b2.newer hsl).put (by simp)
  generalize upd (upd H2 sl (.lst (m.slots.map optV))) st (.ins (CS K) ds (sF (.ref pact) (.int m.least) (.ref D) (.ref cl) (.ref sl) (.ref s0.pi) (.ref s0.po))) = H3 at ac3 rw3 cl3 sl3 hs3 b3 ⊢
  have S3 := src b3
  clear f1 f2 f3 f4 f5 f6 f7
  obtain ⟨f1, f2, f3, f4, f5, f6, f7⟩ := S3.fd T
  repeat walk_at "s1"
  refine k_list (lstL S3.hpi) fun pi hpi => ?_
  have pis : pi ≠ st := fun z => by rw [z, hs3] at hpi; cases hpi
  repeat walk_at "s1"
  refine k_setK (fs' := (sF (.ref pact) (.int m.least) (.ref D) (.ref cl) (.ref sl) (.ref pi) (.ref s0.po))) ((upd_ne (Ne.symm pis)).trans hs3) T.c_State T.n_State_paid_in rfl ?_
  have ac4 := kept (o := (.lst (m.ins.map natV))) (w := (.ins (CS K) ds (sF (.ref pact) (.int m.least) (.ref D) (.ref cl) (.ref sl) (.ref pi) (.ref s0.po)))) hpi ac3 (Ne.symm sD)
  have rw4 := fun j r (e : rows[j]? = some r) => kept (o := (.lst (m.ins.map natV))) (w := (.ins (CS K) ds (sF (.ref pact) (.int m.least) (.ref D) (.ref cl) (.ref sl) (.ref pi) (.ref s0.po)))) hpi (rw3 j r e) (rs e)
  have cl4 := kept (o := (.lst (m.ins.map natV))) (w := (.ins (CS K) ds (sF (.ref pact) (.int m.least) (.ref D) (.ref cl) (.ref sl) (.ref pi) (.ref s0.po)))) hpi cl3 cls
  have sl4 := kept (o := (.lst (m.ins.map natV))) (w := (.ins (CS K) ds (sF (.ref pact) (.int m.least) (.ref D) (.ref cl) (.ref sl) (.ref pi) (.ref s0.po)))) hpi sl3 sls
  have pi4 : (upd (upd H3 pi (.lst (m.ins.map natV))) st (.ins (CS K) ds (sF (.ref pact) (.int m.least) (.ref D) (.ref cl) (.ref sl) (.ref pi) (.ref s0.po)))) pi = some (.lst (m.ins.map natV)) := (upd_ne pis).trans upd_same
  have hs4 : (upd (upd H3 pi (.lst (m.ins.map natV))) st (.ins (CS K) ds (sF (.ref pact) (.int m.least) (.ref D) (.ref cl) (.ref sl) (.ref pi) (.ref s0.po)))) st = _ := upd_same
  have b4 : But [st] H0 (upd (upd H3 pi (.lst (m.ins.map natV))) st (.ins (CS K) ds (sF (.ref pact) (.int m.least) (.ref D) (.ref cl) (.ref sl) (.ref pi) (.ref s0.po)))) := (b3.newer hpi).put (by simp)
  generalize upd (upd H3 pi (.lst (m.ins.map natV))) st (.ins (CS K) ds (sF (.ref pact) (.int m.least) (.ref D) (.ref cl) (.ref sl) (.ref pi) (.ref s0.po))) = H4 at ac4 rw4 cl4 sl4 pi4 hs4 b4 ⊢
  have S4 := src b4
  clear f1 f2 f3 f4 f5 f6 f7
  obtain ⟨f1, f2, f3, f4, f5, f6, f7⟩ := S4.fd T
  repeat walk_at "s1"
  refine k_list (lstL S4.hpo) fun po hpo => ?_
  have pos : po ≠ st := fun z => by rw [z, hs4] at hpo; cases hpo
  repeat walk_at "s1"
  refine k_setK (fs' := (sF (.ref pact) (.int m.least) (.ref D) (.ref cl) (.ref sl) (.ref pi) (.ref po))) ((upd_ne (Ne.symm pos)).trans hs4) T.c_State T.n_State_paid_out rfl ?_
  have ac5 := kept (o := (.lst (m.outs.map natV))) (w := (.ins (CS K) ds (sF (.ref pact) (.int m.least) (.ref D) (.ref cl) (.ref sl) (.ref pi) (.ref po)))) hpo ac4 (Ne.symm sD)
  have rw5 := fun j r (e : rows[j]? = some r) => kept (o := (.lst (m.outs.map natV))) (w := (.ins (CS K) ds (sF (.ref pact) (.int m.least) (.ref D) (.ref cl) (.ref sl) (.ref pi) (.ref po)))) hpo (rw4 j r e) (rs e)
  have cl5 := kept (o := (.lst (m.outs.map natV))) (w := (.ins (CS K) ds (sF (.ref pact) (.int m.least) (.ref D) (.ref cl) (.ref sl) (.ref pi) (.ref po)))) hpo cl4 cls
  have sl5 := kept (o := (.lst (m.outs.map natV))) (w := (.ins (CS K) ds (sF (.ref pact) (.int m.least) (.ref D) (.ref cl) (.ref sl) (.ref pi) (.ref po)))) hpo sl4 sls
  have pi5 := kept (o := (.lst (m.outs.map natV))) (w := (.ins (CS K) ds (sF (.ref pact) (.int m.least) (.ref D) (.ref cl) (.ref sl) (.ref pi) (.ref po)))) hpo pi4 pis
  have po5 : (upd (upd H4 po (.lst (m.outs.map natV))) st (.ins (CS K) ds (sF (.ref pact) (.int m.least) (.ref D) (.ref cl) (.ref sl) (.ref pi) (.ref po)))) po = some (.lst (m.outs.map natV)) := (upd_ne pos).trans upd_same
  have hs5 : (upd (upd H4 po (.lst (m.outs.map natV))) st (.ins (CS K) ds (sF (.ref pact) (.int m.least) (.ref D) (.ref cl) (.ref sl) (.ref pi) (.ref po)))) st = _ := upd_same
  have b5 : But [st] H0 (upd (upd H4 po (.lst (m.outs.map natV))) st (.ins (CS K) ds (sF (.ref pact) (.int m.least) (.ref D) (.ref cl) (.ref sl) (.ref pi) (.ref po)))) := (b4.newer hpo).put (by simp)
  generalize upd (upd H4 po (.lst (m.outs.map natV))) st (.ins (CS K) ds (sF (.ref pact) (.int m.least) (.ref D) (.ref cl) (.ref sl) (.ref pi) (.ref po))) = H5 at ac5 rw5 cl5 sl5 pi5 po5 hs5 b5 ⊢
  repeat walk_at "s1"
  have some_ne : ∀ {Hx : Hp} {y : Addr} {u : HO}, Hx y = some u → Hx y ≠ none := fun e z => by rw [e] at z; cases z
  have rmem : ∀ {Hx : Hp}, (∀ j r, rows[j]? = some r → Hx r = some (.lst (rowV m.accounts j))) → ∀ y ∈ rows, Hx y ≠ none := fun h y hy => by
    obtain ⟨j, e⟩ := List.getElem?_of_mem hy
    exact some_ne (h j y e)
  have up : ∀ {y : Addr}, H0 y = none → H y = none := fun e => Same.fresh b0.same e
  refine q _ ⟨st, ds, D, cl, sl, pi, po, rows⟩ (fun y o e n => b5 _ _ (b0 _ _ e n) (by simp; exact ne_of_none e hst)) ⟨hs5, ac5, hl, rw5, cl5, sl5, pi5, po5, ?_, hS.wf⟩ ?_
  · refine own_nodup (H1 := H1) (H2 := H1) (H3 := H2) (H4 := H3) (H5 := H4) hr.nd sD sr ?_ hcl ?_ hsl ?_ hpi ?_ hpo
    · rintro y (rfl | rfl | h)
      · exact some_ne hs1
      · exact some_ne ac1
      · exact rmem rw1 y h
    · rintro y (rfl | rfl | rfl | h)
      · exact some_ne hs2
      · exact some_ne ac2
      · exact some_ne cl2
      · exact rmem rw2 y h
    · rintro y (rfl | rfl | rfl | rfl | h)
      · exact some_ne hs3
      · exact some_ne ac3
      · exact some_ne cl3
      · exact some_ne sl3
      · exact rmem rw3 y h
    · rintro y (rfl | rfl | rfl | rfl | rfl | h)
      · exact some_ne hs4
      · exact some_ne ac4
      · exact some_ne cl4
      · exact some_ne sl4
      · exact some_ne pi4
      · exact rmem rw4 y h
  · have new : ∀ {Hx : Hp} {y : Addr}, But [st] H0 Hx → y ≠ st → Hx y = none → H y = none := fun b n e => up (b.free e (by simp; exact n))
    intro y hy
    simp only [SA.own, List.mem_cons] at hy
    rcases hy with rfl | rfl | rfl | rfl | rfl | rfl | h
    · exact hst
    · exact up hr.D0
    · exact new b1 cls hcl
    · exact new b2 sls hsl
    · exact new b3 pis hpi
    · exact new b4 pos hpo
    · obtain ⟨j, e⟩ := List.getElem?_of_mem h
      exact up (hr.at_ j y e).2
end
end SP
set_option maxHeartbeats 2000000
namespace SP
open PySem PySem.Spec PyProof.Rows L2
/-- one step of a reading where nothing is asked -/
local macro_rules | `(tactic| walk_at "s1") => `(tactic| with_reducible first
  | refine k_seq ?_ | refine k_asg ?_ | refine k_if ?_ | refine k_ret ?_ | refine k_set ?_ | refine k_drop ?_ | refine k_next ?_ | refine k_retN ?_
  | refine k_var rfl ?_ | refine k_c ?_ | refine k_fld ?_ | refine k_fldK (by assumption) ?_ | refine k_op ?_ | refine k_plus ?_ | refine k_minus ?_ | refine k_cons ?_ | refine k_nil ?_ | refine k_name ?_
  | refine k_cmp ?_ | refine k_cmpK ?_ | refine k_B ?_ | refine k_blK ?_ | refine k_test ?_ | refine k_meth ?_ | refine k_call ?_ | refine k_CB ?_ | refine k_len (by assumption) ?_
  | refine k_ixT (by assumption) rfl ?_ | refine k_and ?_ | refine k_or ?_ | refine k_not ?_ | refine k_andV ?_ | refine k_orV ?_ | refine k_notV ?_ | refine k_ife ?_ | refine k_chain ?_ | refine k_tup ?_ | refine k_lst ?_
  | refine k_less ?_ | refine k_leq ?_ | refine k_un ?_ | refine k_neg ?_ | refine k_isN ?_ | refine k_notN ?_ | refine k_max ?_ | refine k_min ?_ | refine k_abs ?_ | refine k_bm ?_ | refine k_make ?_ | refine k_app (by assumption) (by assumption) ?_)
/-! ### the run keeps its promises -/
section
variable {P : Program} {w : World} {K : PySem.W.Frag} {mg : Str → Option Value} {base : Heap}
local macro_rules | `(tactic| walk_at "s2") => `(tactic| first | walk_at "s1" | refine iteT ?_ | refine iteF ?_)
theorem F_Run_pay_out (T : Tx K mg) : Fok P w K mg base CX0 1 d_Run_pay_out P_Run_pay_out (spPayOut K) := ok_Run_pay_out T (fun vs H Q E ⟨_, _, _, _, _, _, _, _, _, _, _, e, _⟩ => by rw [e]; rfl) (pure_Run_pay_out T)
theorem F_Run_close (T : Tx K mg) : Fok P w K mg base CX0 2 d_Run_close P_Run_close (spClose K) := ok_Run_close T (F_Run_pay_out T) (fun vs H Q E ⟨_, _, _, _, _, _, _, e, _⟩ => by rw [e]; rfl) (pure_Run_close T)
theorem F_Run_do_payment (T : Tx K mg) : Fok P w K mg base CX0 44 d_Run_do_payment P_Run_do_payment (spDoPay K) := ok_Run_do_payment T (F_Run_pay_out T) (F_Run_value T) (fun vs H Q E ⟨_, _, _, _, _, _, _, _, _, _, _, _, _, _, e, _⟩ => by rw [e]; rfl) (pure_Run_do_payment T)
theorem F_Run_do_let (T : Tx K mg) : Fok P w K mg base CX0 44 d_Run_do_let P_Run_do_let (spDoLet K) := ok_Run_do_let T (F_Run_value T) (fun vs H Q E ⟨_, _, _, _, _, _, _, _, _, _, _, e, _⟩ => by rw [e]; rfl) (pure_Run_do_let T)
theorem F_Run_next_pact (T : Tx K mg) : Fok P w K mg base (L2.CX P w) 45 d_Run_next_pact P_Run_next_pact (spNextPact K) := ok_Run_next_pact T (F_Run_do_payment T) (F_Run_do_let T) (F_Run_is_so T) (fun vs H Q E ⟨_, _, _, _, _, _, _, _, _, e, _⟩ => by rw [e]; rfl) (pure_Run_next_pact T)
theorem F_Run_go_on (T : Tx K mg) : Fok P w K mg base (L2.CX P w) 46 d_Run_go_on P_Run_go_on (spGoOn K) := ok_Run_go_on T (F_Run_close T) (F_Run_next_pact T) (fun vs H Q E ⟨_, _, _, _, _, _, _, _, _, e, _⟩ => by rw [e]; rfl) (pure_Run_go_on T)
theorem F_Run_fits (T : Tx K mg) : Fok P w K mg base CX0 44 d_Run_fits P_Run_fits (spFits K) := ok_Run_fits T (F_Run_value T) (F_Run_is_so T) (fun vs H Q E ⟨_, _, _, _, _, _, _, e, _⟩ => by rw [e]; rfl) (pure_Run_fits T)
theorem F_Run_do_input (T : Tx K mg) : Fok P w K mg base CX0 1 d_Run_do_input P_Run_do_input (spDoInput K) := ok_Run_do_input T (fun vs H Q E ⟨_, _, _, _, _, _, _, _, _, e, _⟩ => by rw [e]; rfl) (pure_Run_do_input T)
theorem F_Run_take (T : Tx K mg) : Fok P w K mg base (L2.CX P w) 45 d_Run_take P_Run_take (spTake K) := ok_Run_take T (F_Run_fits T) (F_Run_do_input T) (fun vs H Q E ⟨_, _, _, _, _, _, _, _, _, _, _, e, _⟩ => by rw [e]; rfl) (pure_Run_take T)
theorem F_Run_all_told (T : Tx K mg) : Fok P w K mg base CX0 1 d_Run_all_told P_Run_all_told (spAllTold K) := ok_Run_all_told T (fun vs H Q E ⟨_, _, _, _, _, _, _, e, _⟩ => by rw [e]; rfl) (pure_Run_all_told T)
theorem F_State_init (T : Tx K mg) : Fok P w K mg base CX0 1 d_State_init P_State_init (spStateInit K) := ok_State_init T (fun vs H Q E ⟨_, _, _, _, e, _⟩ => by rw [e]; rfl) (pure_State_init T)
theorem F_State_twin (T : Tx K mg) : Fok P w K mg base CX0 3 d_State_twin P_State_twin (spTwin K) := ok_State_twin T (F_State_init T) (fun vs H Q E ⟨_, _, _, e, _⟩ => by rw [e]; rfl) (pure_State_twin T)
/-- a run made -/
def spRunInit (K : PySem.W.Frag) : Sp := fun vs H Q _ => ∃ (ru dru : Addr) (st s e : V), vs = [.ref ru, st, s, e] ∧ H ru = some (.ins (CU K) dru []) ∧
  (∀ H' pl wl, But [ru] H H' → H' ru = some (.ins (CU K) dru (uF st s e (.ref pl) (.ref wl) (.bl false))) → H pl = none → H wl = none → pl ≠ wl → H' pl = some (.lst []) → H' wl = some (.lst []) → Q .non H')
theorem pure_Run_init (T : Tx K mg) (vs : List V) (H : Hp) (Q : VK) (E : XK) (h : spRunInit K vs H Q E) : t_Run_init K E { nx := fun _ H' => Q .non H', rt := Q } (start N_Run_init vs) H := by
  obtain ⟨ru, dru, st, s, e, rfl, hr, q⟩ := h
  unfold t_Run_init
  repeat walk_at "s1"
  refine k_setK hr T.c_Run T.n_Run_state rfl ?_
  repeat walk_at "s1"
  refine k_setK upd_same T.c_Run T.n_Run_start rfl ?_
  rw [upd_upd]
  repeat walk_at "s1"
  refine k_setK (fs' := [("state", st), ("start", s), ("end", e)]) upd_same T.c_Run T.n_Run_end rfl ?_
  rw [upd_upd]
  have b1 : But [ru] H (upd H ru (.ins (CU K) dru [("state", st), ("start", s), ("end", e)])) := (But.refl H).put (by simp)
  have h1 : upd H ru (.ins (CU K) dru [("state", st), ("start", s), ("end", e)]) ru = _ := upd_same
  generalize upd H ru (.ins (CU K) dru [("state", st), ("start", s), ("end", e)]) = H1 at b1 h1 ⊢
  repeat walk_at "s1"
  refine ⟨small, fun pl hpl => ?_⟩
  have pr : pl ≠ ru := fun z => by rw [z, h1] at hpl; cases hpl
  repeat walk_at "s1"
  refine k_setK (fs' := [("state", st), ("start", s), ("end", e), ("payments", .ref pl)]) ((upd_ne (Ne.symm pr)).trans h1) T.c_Run T.n_Run_payments rfl ?_
  have b2 : But [ru] H (upd (upd H1 pl (.lst [])) ru (.ins (CU K) dru [("state", st), ("start", s), ("end", e), ("payments", .ref pl)])) := (b1.newer hpl).put (by simp)
  have h2 : upd (upd H1 pl (.lst [])) ru (.ins (CU K) dru [("state", st), ("start", s), ("end", e), ("payments", .ref pl)]) ru = _ := upd_same
  have p2 : upd (upd H1 pl (.lst [])) ru (.ins (CU K) dru [("state", st), ("start", s), ("end", e), ("payments", .ref pl)]) pl = some (.lst []) := (upd_ne pr).trans upd_same
  generalize upd (upd H1 pl (.lst [])) ru (.ins (CU K) dru [("state", st), ("start", s), ("end", e), ("payments", .ref pl)]) = H2 at b2 h2 p2 ⊢
  repeat walk_at "s1"
  refine ⟨small, fun wl hwl => ?_⟩
  have wr : wl ≠ ru := fun z => by rw [z, h2] at hwl; cases hwl
  have pw : pl ≠ wl := fun z => by rw [← z, p2] at hwl; cases hwl
  repeat walk_at "s1"
  refine k_setK (fs' := [("state", st), ("start", s), ("end", e), ("payments", .ref pl), ("warnings", .ref wl)]) ((upd_ne (Ne.symm wr)).trans h2) T.c_Run T.n_Run_warnings rfl ?_
  repeat walk_at "s1"
  refine k_setK (fs' := uF st s e (.ref pl) (.ref wl) (.bl false)) upd_same T.c_Run T.n_Run_has_gone rfl ?_
  rw [upd_upd]
  exact q _ pl wl ((b2.newer hwl).put (by simp)) upd_same (b1.free hpl (by simp; exact pr)) (b2.free hwl (by simp; exact wr)) pw ((upd_ne pr).trans ((upd_ne pw).trans p2)) ((upd_ne wr).trans upd_same)
theorem F_Run_init (T : Tx K mg) : Fok P w K mg base CX0 1 d_Run_init P_Run_init (spRunInit K) := ok_Run_init T (fun vs H Q E ⟨_, _, _, _, _, e, _⟩ => by rw [e]; rfl) (pure_Run_init T)
/-- what must hold, or it is refused -/
def spNeed (K : PySem.W.Frag) : Sp := fun vs H Q E => ∃ (b : Bool) (v : V), vs = [.bl b, v] ∧ (b = true → Q .non H) ∧ (b = false → ∀ x, H x = none → E (XR K) (some x) (upd H x (.xd [("answer", v)])))
theorem pure_need (vs : List V) (H : Hp) (Q : VK) (E : XK) (h : spNeed K vs H Q E) : t_need K E { nx := fun _ H' => Q .non H', rt := Q } (start N_need vs) H := by
  obtain ⟨b, v, rfl, q1, q2⟩ := h
  unfold t_need
  repeat walk_at "s1"
  cases b with
  | true => exact iteF (k_next (q1 rfl))
  | false => exact iteT ⟨_, rfl, ⟨_, rfl, fun x hx => q2 rfl x hx⟩⟩
theorem F_need (T : Tx K mg) : Fok P w K mg base (L2.CX P w) 1 d_need P_need (spNeed K) := ok_need T (fun vs H Q E ⟨_, _, e, _⟩ => by rw [e]; rfl) pure_need
def spIsTime : Sp := fun vs H Q _ => ∃ z : Int, vs = [.int z] ∧ Q (.bl (Sg49.time z)) H
theorem pure_is_time (vs : List V) (H : Hp) (Q : VK) (E : XK) (h : spIsTime vs H Q E) : t_is_time K E { nx := fun _ H' => Q .non H', rt := Q } (start N_is_time vs) H := by
  obtain ⟨z, rfl, q⟩ := h
  unfold t_is_time
  repeat walk_at "s1"
  have e : Sg49.time z = (decide (0 ≤ z) && decide (z ≤ 1099511627776)) := rfl
  rw [e] at q
  cases k : decide (0 ≤ z) with
  | false => rw [k] at q; exact iteF q
  | true =>
    rw [k] at q
    refine iteT ?_
    repeat walk_at "s1"
    exact q
theorem F_is_time (T : Tx K mg) : Fok P w K mg base CX0 1 d_is_time P_is_time spIsTime := ok_is_time T (fun vs H Q E ⟨_, e, _⟩ => by rw [e]; rfl) pure_is_time
/-! ### inputs, read -/
def inputR : Sg49.R Sg49.Input := fun l => (Sg49.num 0 2 l).bind fun z =>
  if z.1 = 0 then (Sg49.party z.2).bind fun a => (Sg49.party a.2).bind fun b => (Sg49.kind b.2).bind fun t => (Sg49.num (-Sg49.FAR) Sg49.FAR t.2).map fun z => (.deposit a.1 b.1 t.1 z.1, z.2)
  else if z.1 = 1 then (Sg49.nat 15 z.2).bind fun c => (Sg49.party c.2).bind fun b => (Sg49.num (-Sg49.FAR) Sg49.FAR b.2).map fun z => (.choice c.1 b.1 z.1, z.2)
  else some (.notify, z.2)
theorem inputsOf_0 {l : List Int} : Sg49.inputsOf 0 l = none := by unfold Sg49.inputsOf; rfl
theorem inputsOf_nil {n : Nat} : Sg49.inputsOf (n + 1) [] = some [] := by unfold Sg49.inputsOf; rfl
theorem inputsOf_s {n : Nat} {z : Int} {l : List Int} : Sg49.inputsOf (n + 1) (z :: l) = (inputR (z :: l)).bind fun x => (Sg49.inputsOf n x.2).map fun y => x.1 :: y := by
  unfold inputR
  rcases num_cases 0 2 (z :: l) with ⟨h, _⟩ | ⟨z', r', h, ⟨c1, c2, e⟩ | ⟨c, e⟩⟩
  · cases h
  · cases h
    rw [e]
    simp only [Option.bind_some]
    have hz : z = 0 ∨ z = 1 ∨ z = 2 := by omega
    rcases hz with rfl | rfl | rfl
    · rw [Sg49.inputsOf, if_pos rfl]
      cases Sg49.party l with
      | none => rfl
      | some a =>
        simp only [Option.bind_some]
        cases Sg49.party a.2 with
        | none => rfl
        | some b =>
          simp only [Option.bind_some]
          cases Sg49.kind b.2 with
          | none => rfl
          | some t =>
            simp only [Option.bind_some]
            cases Sg49.num (-Sg49.FAR) Sg49.FAR t.2 with
            | none => rfl
            | some z => rfl
    · rw [Sg49.inputsOf, if_neg (by omega), if_pos rfl]
      show (Sg49.nat 15 l).bind _ = _
      cases Sg49.nat 15 l with
      | none => rfl
      | some a =>
        simp only [Option.bind_some]
        cases Sg49.party a.2 with
        | none => rfl
        | some b =>
          simp only [Option.bind_some]
          cases Sg49.num (-Sg49.FAR) Sg49.FAR b.2 with
          | none => rfl
          | some z => rfl
    · rw [Sg49.inputsOf, if_neg (by omega), if_neg (by omega)]
      rfl
  · cases h
    rw [e]
    rw [Sg49.inputsOf]
    · rfl
    · intro h; cases h
    all_goals (intro r h; have h1 := (List.cons.inj h).1; omega)
abbrev spInput (K : PySem.W.Frag) : Sp := spRd K inputR InpAt []
theorem far_is {z : Int} (h : -Sg49.FAR ≤ z ∧ z ≤ Sg49.FAR) : inFar z := h
theorem pure_read_input (T : Tx K mg) (vs : List V) (H : Hp) (Q : VK) (E : XK) (h : spInput K vs H Q E) : t_read_input K E (spAmount K) (spParty K) (spOne K) (spKind K) { nx := fun _ H' => Q .non H', rt := Q } (start N_read_input vs) H := by
  obtain ⟨n, rfl, a, i, l, hn, hs, hl, qE, qQ⟩ := h
  obtain ⟨dx, e0⟩ := id hn
  unfold t_read_input
  repeat walk_at "s1"
  refine k_methK e0 rfl ?_
  repeat walk_at "s1"
  refine one_num (rd_call (Cur.start hn hs hl) (fun e H' i' h' b' => qE (by unfold inputR; rw [e]; rfl) H' i' h' b') fun z i1 v H1 e hi1 c1 b1 rep => ?_)
  obtain rfl : v = .int z := rep
  obtain ⟨_, z0, z2⟩ := head_num e
  obtain ⟨dx1, e1⟩ := id c1.num
  repeat walk_at "s1"
  by_cases q0 : z = 0
  · subst q0
    have ei : inputR (l.drop i) = (Sg49.party (l.drop i1)).bind fun a => (Sg49.party a.2).bind fun b => (Sg49.kind b.2).bind fun t => (Sg49.num (-Sg49.FAR) Sg49.FAR t.2).map fun z => (.deposit a.1 b.1 t.1 z.1, z.2) := by unfold inputR; rw [e]; rfl
    rw [ei] at qE qQ
    repeat walk_at "s2"
    refine k_methK e1 rfl ?_
    repeat walk_at "s1"
    refine ⟨n, rfl, rd_call c1 (fun e H' i' h' b' => qE (by rw [e]; rfl) H' i' h' b') fun x i2 v H2 e2 hi2 c2 b2 rep => ?_⟩
    obtain rfl : v = .int (x : Nat) := rep
    obtain ⟨dx2, e3⟩ := id c2.num
    repeat walk_at "s1"
    refine k_methK e3 rfl ?_
    repeat walk_at "s1"
    refine ⟨n, rfl, rd_call c2 (fun e H' i' h' b' => qE (by rw [e2]; simp only [Option.bind_some]; rw [e]; rfl) H' i' h' b') fun y i3 v H3 e4 hi3 c3 b3 rep => ?_⟩
    obtain rfl : v = .int (y : Nat) := rep
    obtain ⟨dx3, e5⟩ := id c3.num
    repeat walk_at "s1"
    refine k_methK e5 rfl ?_
    repeat walk_at "s1"
    refine ⟨n, rfl, rd_call c3 (fun e H' i' h' b' => qE (by rw [e2]; simp only [Option.bind_some]; rw [e4]; simp only [Option.bind_some]; rw [e]; rfl) H' i' h' b') fun t i4 v H4 e6 hi4 c4 b4 rep => ?_⟩
    obtain rfl : v = .int (t : Nat) := rep
    obtain ⟨dx4, e7⟩ := id c4.num
    repeat walk_at "s1"
    refine k_methK e7 rfl ?_
    repeat walk_at "s1"
    refine ⟨n, rfl, rd_call c4 (fun e H' i' h' b' => qE (by rw [e2]; simp only [Option.bind_some]; rw [e4]; simp only [Option.bind_some]; rw [e6]; simp only [Option.bind_some]; rw [e]; rfl) H' i' h' b') fun w i5 v H5 e8 hi5 c5 b5 rep => ?_⟩
    obtain rfl : v = .int w := rep
    repeat walk_at "s1"
    refine ⟨small, fun p hp => ?_⟩
    have c6 := c5.new (o := .tup [.int 0, .int (x : Nat), .int (y : Nat), .int (t : Nat), .int w]) hp
    exact qQ (.deposit x y t w) _ (by rw [e2]; simp only [Option.bind_some]; rw [e4]; simp only [Option.bind_some]; rw [e6]; simp only [Option.bind_some]; rw [e8]; rfl) (.ref p) _ i5 (by omega) c6.le rfl c6.num c6.but
      ⟨p, rfl, upd_same, party_lt e2, party_lt e4, kind_lt e6, far_is (num_in e8)⟩
  rw [decide_eq_false q0]
  refine iteF ?_
  repeat walk_at "s1"
  by_cases q1 : z = 1
  · subst q1
    have ei : inputR (l.drop i) = (Sg49.nat 15 (l.drop i1)).bind fun c => (Sg49.party c.2).bind fun b => (Sg49.num (-Sg49.FAR) Sg49.FAR b.2).map fun z => (.choice c.1 b.1 z.1, z.2) := by unfold inputR; rw [e]; rfl
    rw [ei] at qE qQ
    repeat walk_at "s2"
    refine k_methK e1 rfl ?_
    repeat walk_at "s1"
    refine one_nat (m := 15) (rd_call c1 (fun e H' i' h' b' => qE (by rw [e]; rfl) H' i' h' b') fun x i2 v H2 e2 hi2 c2 b2 rep => ?_)
    obtain rfl : v = .int (x : Nat) := rep
    obtain ⟨dx2, e3⟩ := id c2.num
    repeat walk_at "s1"
    refine k_methK e3 rfl ?_
    repeat walk_at "s1"
    refine ⟨n, rfl, rd_call c2 (fun e H' i' h' b' => qE (by rw [e2]; simp only [Option.bind_some]; rw [e]; rfl) H' i' h' b') fun y i3 v H3 e4 hi3 c3 b3 rep => ?_⟩
    obtain rfl : v = .int (y : Nat) := rep
    obtain ⟨dx3, e5⟩ := id c3.num
    repeat walk_at "s1"
    refine k_methK e5 rfl ?_
    repeat walk_at "s1"
    refine ⟨n, rfl, rd_call c3 (fun e H' i' h' b' => qE (by rw [e2]; simp only [Option.bind_some]; rw [e4]; simp only [Option.bind_some]; rw [e]; rfl) H' i' h' b') fun w i5 v H5 e8 hi5 c5 b5 rep => ?_⟩
    obtain rfl : v = .int w := rep
    repeat walk_at "s1"
    refine ⟨small, fun p hp => ?_⟩
    have c6 := c5.new (o := .tup [.int 1, .int (x : Nat), .int (y : Nat), .int w]) hp
    exact qQ (.choice x y w) _ (by rw [e2]; simp only [Option.bind_some]; rw [e4]; simp only [Option.bind_some]; rw [e8]; rfl) (.ref p) _ i5 (by omega) c6.le rfl c6.num c6.but
      ⟨p, rfl, upd_same, name_lt e2, party_lt e4, far_is (num_in e8)⟩
  rw [decide_eq_false q1]
  refine iteF ?_
  obtain rfl : z = 2 := by omega
  have ei : inputR (l.drop i) = some (.notify, l.drop i1) := by unfold inputR; rw [e]; rfl
  repeat walk_at "s1"
  refine ⟨small, fun p hp => ?_⟩
  have c6 := c1.new (o := .tup [.int 2]) hp
  exact qQ .notify _ ei (.ref p) _ i1 hi1 c6.le rfl c6.num c6.but ⟨p, rfl, upd_same⟩
theorem F_read_input (T : Tx K mg) : Fok P w K mg base (L2N.CX P w) 4 d_read_input P_read_input (spInput K) := ok_read_input T (F_Numbers_amount T) (F_Numbers_party T) (F_Numbers_one T) (F_Numbers_kind T) rd_len (pure_read_input T)
end
end SP
set_option maxHeartbeats 2000000
namespace SP
open PySem PySem.Spec PyProof.Rows L2
/-- one step of a reading where nothing is asked -/
local macro_rules | `(tactic| walk_at "s1") => `(tactic| with_reducible first
  | refine k_seq ?_ | refine k_asg ?_ | refine k_if ?_ | refine k_ret ?_ | refine k_set ?_ | refine k_drop ?_ | refine k_next ?_ | refine k_retN ?_
  | refine k_var rfl ?_ | refine k_c ?_ | refine k_fld ?_ | refine k_fldK (by assumption) ?_ | refine k_op ?_ | refine k_plus ?_ | refine k_minus ?_ | refine k_cons ?_ | refine k_nil ?_ | refine k_name ?_
  | refine k_cmp ?_ | refine k_cmpK ?_ | refine k_B ?_ | refine k_blK ?_ | refine k_test ?_ | refine k_meth ?_ | refine k_call ?_ | refine k_CB ?_ | refine k_len (by assumption) ?_
  | refine k_ixT (by assumption) rfl ?_ | refine k_and ?_ | refine k_or ?_ | refine k_not ?_ | refine k_andV ?_ | refine k_orV ?_ | refine k_notV ?_ | refine k_ife ?_ | refine k_chain ?_ | refine k_tup ?_ | refine k_lst ?_
  | refine k_less ?_ | refine k_leq ?_ | refine k_un ?_ | refine k_neg ?_ | refine k_isN ?_ | refine k_notN ?_ | refine k_max ?_ | refine k_min ?_ | refine k_abs ?_ | refine k_bm ?_ | refine k_make ?_ | refine k_app (by assumption) (by assumption) ?_)
section
variable {P : Program} {w : World} {K : PySem.W.Frag} {mg : Str → Option Value} {base : Heap}
local macro_rules | `(tactic| walk_at "s2") => `(tactic| first | walk_at "s1" | refine iteT ?_ | refine iteF ?_)
theorem inputR_lt {l r : List Int} {x : Sg49.Input} (h : inputR l = some (x, r)) : r.length < l.length := by
  unfold inputR at h
  obtain ⟨z, s, e0, h⟩ := bind_inv h
  dsimp only at h
  have l0 : l.length = s.length + 1 := by rw [(num_inv e0).1]; rfl
  by_cases q0 : z = 0
  · rw [if_pos q0] at h
    obtain ⟨a, s1, e1, h⟩ := bind_inv h
    dsimp only at h
    obtain ⟨b, s2, e2, h⟩ := bind_inv h
    dsimp only at h
    obtain ⟨t, s3, e3, h⟩ := bind_inv h
    dsimp only at h
    obtain ⟨v, e4, _⟩ := map_inv (f := fun v => Sg49.Input.deposit a b t v) h
    have l1 : s.length = s1.length + 1 := by rw [(nat_inv e1).1]; rfl
    have l2 : s1.length = s2.length + 1 := by rw [(nat_inv e2).1]; rfl
    have l3 : s2.length = s3.length + 1 := by rw [(nat_inv e3).1]; rfl
    have l4 : s3.length = r.length + 1 := by rw [(num_inv e4).1]; rfl
    omega
  rw [if_neg q0] at h
  by_cases q1 : z = 1
  · rw [if_pos q1] at h
    obtain ⟨a, s1, e1, h⟩ := bind_inv h
    dsimp only at h
    obtain ⟨b, s2, e2, h⟩ := bind_inv h
    dsimp only at h
    obtain ⟨v, e4, _⟩ := map_inv (f := fun v => Sg49.Input.choice a b v) h
    have l1 : s.length = s1.length + 1 := by rw [(nat_inv e1).1]; rfl
    have l2 : s1.length = s2.length + 1 := by rw [(nat_inv e2).1]; rfl
    have l4 : s2.length = r.length + 1 := by rw [(num_inv e4).1]; rfl
    omega
  rw [if_neg q1] at h
  cases h
  omega
def spInputsOf (K : PySem.W.Frag) : Sp := fun vs H Q E => ∃ (a : Addr) (l : List Int), vs = [.ref a] ∧ SqL K H a (l.map V.int) ∧ l.length < 16777216 ∧
  (Sg49.inputsOf 101 l = none → ∀ H', Same H H' → E (XN K) none H') ∧
  (∀ is, Sg49.inputsOf 101 l = some is → ∀ H' F vs, Same H H' → H F = none → H' F = some (.lst vs) → All2 (InpAt H') vs is → Q (.ref F) H')
theorem pure_inputs_of (T : Tx K mg) (vs : List V) (H : Hp) (Q : VK) (E : XK) (h : spInputsOf K vs H Q E) : t_inputs_of K E (spEnded K) (spInput K) (spNumInit K) { nx := fun _ H' => Q .non H', rt := Q } (start N_inputs_of vs) H := by
  obtain ⟨a, l, rfl, hs, hl, qE, qQ⟩ := h
  unfold t_inputs_of
  repeat walk_at "s1"
  intro n dn hn hdn dnn
  refine ⟨n, dn, a, rfl, upd_same, ?_⟩
  refine ⟨rfl, ?_⟩
  rw [upd_upd]
  have num1 : NumAt K (upd (upd H dn (.own n)) n (.ins (CN K) dn (nF (.ref a) (.int (0 : Nat))))) n a 0 := ⟨dn, upd_same⟩
  have S1 : Same H (upd (upd H dn (.own n)) n (.ins (CN K) dn (nF (.ref a) (.int (0 : Nat))))) := (((But.refl H).new hdn).new hn : But [] _ _).same
  generalize upd (upd H dn (.own n)) n (.ins (CN K) dn (nF (.ref a) (.int (0 : Nat)))) = H1 at num1 S1 ⊢
  repeat walk_at "s1"
  refine ⟨small, fun F hF => ?_⟩
  obtain ⟨dn1, en⟩ := id num1
  have nF' : n ≠ F := fun z => by rw [← z, en] at hF; cases hF
  have F0 : H F = none := Same.fresh S1 hF
  have S2 : Same H (upd H1 F (.lst [])) := fun y o e => by rw [upd_ne (ne_of_none (S1 _ _ e) hF)]; exact S1 _ _ e
  have num2 : NumAt K (upd H1 F (.lst [])) n a 0 := ⟨dn1, (upd_ne nF').trans en⟩
  have hF2 : upd H1 F (.lst []) F = some (.lst []) := upd_same
  generalize upd H1 F (.lst []) = H2 at S2 num2 hF2 ⊢
  repeat walk_at "s1"
  refine ⟨fun m σ Hc => σ = [some (.ref a), some (.ref n), some (.ref F)] ∧ ∃ i vs is, m = l.length - i ∧ NumAt K Hc n a i ∧ i ≤ l.length ∧ Same H Hc ∧ Hc F = some (.lst vs) ∧ All2 (InpAt Hc) vs is ∧ is.length ≤ i ∧ Sg49.inputsOf 101 l = (Sg49.inputsOf (101 - is.length) (l.drop i)).map (is ++ ·),
    ⟨_, rfl, 0, [], [], rfl, num2, Nat.zero_le _, S2, hF2, trivial, Nat.zero_le _, ?_⟩, ?_⟩
  · show Sg49.inputsOf 101 l = (Sg49.inputsOf 101 l).map _
    cases Sg49.inputsOf 101 l <;> rfl
  clear num2 S2 hF2 en num1 S1
  rintro m σ Hc ⟨rfl, i, vs, is, rfl, num, il, S, hFc, hv, li, eq⟩
  obtain ⟨dn2, en⟩ := id num
  repeat walk_at "s1"
  refine k_methK en rfl ?_
  repeat walk_at "s1"
  refine ⟨n, a, i, l, rfl, num, seqSame hs S, ?_⟩
  repeat walk_at "s1"
  have lv : vs.length = is.length := All2.len hv
  by_cases ie : i = l.length
  · rw [decide_eq_true (by omega)]
    refine iteF ?_
    have hFl := lstL (K := K) hFc
    repeat walk_at "s1"
    rw [List.drop_eq_nil_of_le (by omega)] at eq
    by_cases c : 100 < is.length
    · rw [decide_eq_true (by omega)]
      refine iteT ?_
      rw [show 101 - is.length = 0 by omega, inputsOf_0] at eq
      exact qE eq Hc S
    · rw [decide_eq_false (by omega)]
      refine iteF ?_
      repeat walk_at "s1"
      rw [show 101 - is.length = (100 - is.length) + 1 by omega, inputsOf_nil] at eq
      exact qQ is (by rw [eq]; simp) Hc F vs S F0 hFc hv
  · rw [decide_eq_false (by omega)]
    refine iteT ⟨fun σ' H' => ∃ m', m' < l.length - i ∧ (σ' = [some (.ref a), some (.ref n), some (.ref F)] ∧ ∃ i vs is, m' = l.length - i ∧ NumAt K H' n a i ∧ i ≤ l.length ∧ Same H H' ∧ H' F = some (.lst vs) ∧ All2 (InpAt H') vs is ∧ is.length ≤ i ∧ Sg49.inputsOf 101 l = (Sg49.inputsOf (101 - is.length) (l.drop i)).map (is ++ ·)), fun _ _ z => z, ?_⟩
    have edrop : ∃ z r, l.drop i = z :: r := by
      cases e : l.drop i with
      | nil => exact absurd (drop_end e il) ie
      | cons z r => exact ⟨z, r, rfl⟩
    obtain ⟨z, r0, ed⟩ := edrop
    have samN : ∀ {H' : Hp}, But [n] Hc H' → Same H H' := fun b y o e => b _ _ (S _ _ e) (by simp; intro q; rw [q, hn] at e; cases e)
    have hFl := lstL (K := K) hFc
    repeat walk_at "s1"
    refine ⟨ty_list hFl, ?_⟩
    repeat walk_at "s1"
    refine ⟨n, rfl, rd_call (Cur.start num (seqSame hs S) il) (fun e H' i' h' b' => qE ?_ H' (samN b')) fun x i2 v H3 e2 hi2 c2 b2 rep => ?_⟩
    · rw [eq]
      cases hk : 101 - is.length with
      | zero => rw [inputsOf_0]; rfl
      | succ k => rw [ed, inputsOf_s, ← ed, e]; rfl
    · have lt := inputR_lt e2
      rw [List.length_drop, List.length_drop] at lt
      have c2l := c2.le
      have hF3 := b2 _ _ hFc (by simp; exact Ne.symm nF')
      have t3 : TupK Hc H3 := (Cur.start num (seqSame hs S) il).tup b2
      repeat walk_at "s1"
      refine k_app hF3 (by rw [lv, sizeLine_eq]; omega) ?_
      have t4 : TupK H3 (upd H3 F (.lst (vs ++ [v]))) := fun b xs e => by rw [upd_ne (fun z => by rw [z, hF3] at e; cases e)]; exact e
      obtain ⟨dn3, en3⟩ := c2.num
      refine ⟨l.length - i2, by omega, rfl, i2, vs ++ [v], is ++ [x], rfl, ⟨dn3, (upd_ne nF').trans en3⟩, c2l, fun y o e => ?_, upd_same, ((hv.imp fun _ _ q => (q.mono t3).mono t4).snoc (InpAt.mono t4 rep)), by rw [List.length_append]; show is.length + 1 ≤ _; omega, ?_⟩
      · rw [upd_ne (fun q => by rw [q, F0] at e; cases e)]
        exact samN b2 _ _ e
      · rw [eq, List.length_append]
        show _ = (Sg49.inputsOf (101 - (is.length + 1)) _).map _
        cases hk : 101 - is.length with
        | zero => rw [inputsOf_0, show 101 - (is.length + 1) = 0 by omega, inputsOf_0]; rfl
        | succ k =>
          rw [ed, inputsOf_s, ← ed, e2, show 101 - (is.length + 1) = k by omega]
          simp only [Option.bind_some]
          cases Sg49.inputsOf k (l.drop i2) with
          | none => rfl
          | some y => simp
theorem F_inputs_of (T : Tx K mg) : Fok P w K mg base (L2N.CX P w) 5 d_inputs_of P_inputs_of (spInputsOf K) := ok_inputs_of T (F_Numbers_has_ended T) (F_read_input T) (F_Numbers_init T) (fun vs H Q E ⟨_, _, e, _⟩ => by rw [e]; rfl) (pure_inputs_of T)
end
end SP
set_option maxHeartbeats 2000000
namespace SP
open PySem PySem.Spec PyProof.Rows L2
/-- one step of a reading where nothing is asked -/
local macro_rules | `(tactic| walk_at "s1") => `(tactic| with_reducible first
  | refine k_seq ?_ | refine k_asg ?_ | refine k_if ?_ | refine k_ret ?_ | refine k_set ?_ | refine k_drop ?_ | refine k_next ?_ | refine k_retN ?_
  | refine k_var rfl ?_ | refine k_c ?_ | refine k_fld ?_ | refine k_fldK (by assumption) ?_ | refine k_op ?_ | refine k_plus ?_ | refine k_minus ?_ | refine k_cons ?_ | refine k_nil ?_ | refine k_name ?_
  | refine k_cmp ?_ | refine k_cmpK ?_ | refine k_B ?_ | refine k_blK ?_ | refine k_test ?_ | refine k_meth ?_ | refine k_call ?_ | refine k_CB ?_ | refine k_len (by assumption) ?_
  | refine k_ixT (by assumption) rfl ?_ | refine k_and ?_ | refine k_or ?_ | refine k_not ?_ | refine k_andV ?_ | refine k_orV ?_ | refine k_notV ?_ | refine k_ife ?_ | refine k_chain ?_ | refine k_tup ?_ | refine k_lst ?_
  | refine k_less ?_ | refine k_leq ?_ | refine k_un ?_ | refine k_neg ?_ | refine k_isN ?_ | refine k_notN ?_ | refine k_max ?_ | refine k_min ?_ | refine k_abs ?_ | refine k_bm ?_ | refine k_make ?_ | refine k_app (by assumption) (by assumption) ?_)
/-! ### a desk, in the heap -/
section
variable {P : Program} {w : World} {K : PySem.W.Frag} {mg : Str → Option Value} {base : Heap}
local macro_rules | `(tactic| walk_at "s2") => `(tactic| first | walk_at "s1" | refine iteT ?_ | refine iteF ?_)
theorem inputs_nil {e : Sg49.Env} {c : Sg49.Contract} {d : Sg49.Done} : Sg49.inputs e [] c d = Sg49.reduce e c d := by rw [Sg49.inputs]
theorem inputs_cons {e : Sg49.Env} {c : Sg49.Contract} {d : Sg49.Done} {i : Sg49.Input} {r : List Sg49.Input} : Sg49.inputs e (i :: r) c d = match Sg49.reduce e c d with
    | .error x => .error x
    | .ok (c', y) => match pickC e y i c' with
      | some z => Sg49.inputs e r z.1 z.2
      | none => .error (-6) := by
  rw [Sg49.inputs]
  cases Sg49.reduce e c d with
  | error x => rfl
  | ok z =>
    obtain ⟨c', y⟩ := z
    cases c' with
    | when l t k =>
      show (match Sg49.pick e y i l with | some z => _ | none => _) = (match Sg49.pick e y i l with | some z => _ | none => _)
      cases Sg49.pick e y i l <;> rfl
    | _ => rfl
/-! its least time stays -/
theorem payOut_least {d : Sg49.Done} {a b t n : Nat} : (payOutD d a b t n).state.least = d.state.least := by
  unfold payOutD
  by_cases c : n = 0
  · rw [if_pos c]
  · rw [if_neg c]; rfl
theorem foldP_least {d : Sg49.Done} : ∀ j : Nat, (foldP d j).state.least = d.state.least
  | 0 => rfl
  | j + 1 => by rw [foldP_s, payOut_least]; exact foldP_least j
theorem goes_least {e : Sg49.Env} {d d' : Sg49.Done} {c k : Sg49.Contract} (h : goes e d c = some (k, d')) : d'.state.least = d.state.least := by
  cases c with
  | close => cases h
  | pay a out b t x k =>
    cases h
    by_cases c : x.of e d.state ≤ 0
    · rw [payD_le c]
    · rw [payD_gt c rfl rfl]
      by_cases c2 : out = true
      · rw [if_pos c2]; rfl
      · rw [if_neg c2]; rfl
  | cond o x y => cases h; rfl
  | when l t k' =>
    unfold goes at h
    dsimp only at h
    by_cases c : e.end_ < t
    · rw [if_pos c] at h; cases h
    · rw [if_neg c] at h
      by_cases c2 : t ≤ e.start
      · rw [if_pos c2] at h; cases h; rfl
      · rw [if_neg c2] at h; cases h
  | let_ v x k => cases h; rfl
  | assert_ o k =>
    cases h
    by_cases c : o.of e d.state = true
    · rw [if_pos c]
    · rw [if_neg c]
theorem reduce_least {e : Sg49.Env} : ∀ (n : Nat) (c : Sg49.Contract) (d : Sg49.Done) {c' : Sg49.Contract} {d' : Sg49.Done}, c.code.length ≤ n → Sg49.reduce e c d = .ok (c', d') → d'.state.least = d.state.least
  | n, c, d, c', d', hn, h => by
    rcases goes_cases (e := e) (d := d) c with ⟨k, d2, hg⟩ | hs | hb
    · rw [reduce_goes hg] at h
      have := (goes_sz hg).2
      match n with
      | 0 => omega
      | n + 1 =>
        have q := reduce_least n k _ (by omega) h
        exact q.trans (goes_least hg : d2.state.least = d.state.least)
    · by_cases cc : c = .close
      · subst cc
        rw [reduce_close, refunds_is] at h
        have f := foldP_least (d := d) 32
        generalize foldP d 32 = F at h f
        cases h
        exact f
      · rw [reduce_stops hs cc] at h
        cases h; rfl
    · rw [reduce_between hb] at h; cases h
theorem inputD_least {d : Sg49.Done} {i : Sg49.Input} : (inputD d i).state.least = d.state.least := by
  cases i with
  | deposit a b t z =>
    unfold inputD
    dsimp only
    by_cases c : z ≤ 0
    · rw [if_pos c]
    · rw [if_neg c]; rfl
  | choice => rfl
  | notify => rfl
theorem pick_least {e : Sg49.Env} {d d' : Sg49.Done} {i : Sg49.Input} {k : Sg49.Contract} : ∀ {cs : Sg49.Cases}, Sg49.pick e d i cs = some (k, d') → d'.state.least = d.state.least
  | .nil, h => by rw [pick_nil] at h; cases h
  | .cons a k' r, h => by
    rw [pick_cons] at h
    by_cases c : fitB e d.state a i = true
    · rw [if_pos c] at h
      cases h
      exact inputD_least
    · rw [if_neg c] at h
      exact pick_least h
theorem pickC_least {e : Sg49.Env} {d d' : Sg49.Done} {i : Sg49.Input} {c k : Sg49.Contract} (h : pickC e d i c = some (k, d')) : d'.state.least = d.state.least := by
  cases c with
  | when l t k' => exact pick_least (cs := l) h
  | _ => cases h
def dF (nb st : V) : List (Str × V) := [("numbers", nb), ("state", st)]
structure DkAt (K : PySem.W.Frag) (G H : Hp) (dk fo ddk nb : Addr) (s : SA) (pact : Addr) (l : List Int) (k : Sg49.Desk) : Prop where
  hdk : H dk = some (.ins (CD K) ddk (dF (.ref nb) (.ref s.st)))
  hnb : H nb = some (.lst (l.map V.int))
  len : l.length ≤ 8000
  st : StAt K H s pact k.state
  gs : Same G H
  pact : PactAt K G l pact k.contract
  out : ∀ y ∈ dk :: fo :: s.own, G y = none
  dks : dk ∉ s.own
  nbs : nb ∉ s.own
  t0 : 0 ≤ k.state.least
  t1 : k.state.least ≤ 1099511627776
  hfo : ∃ o, H fo = some o ∧ ∀ xs, o ≠ .tup xs
  fos : fo ∉ s.own
  fnb : nb ≠ fo
def DeskAt (K : PySem.W.Frag) (H : Hp) (dk fo : Addr) (k : Sg49.Desk) : Prop := ∃ G ddk nb s pact l, DkAt K G H dk fo ddk nb s pact l k
variable {G H H' : Hp} {dk fo ddk nb : Addr} {s : SA} {pact : Addr} {l : List Int} {k : Sg49.Desk} {Q : VK} {E : XK}
theorem DkAt.new (h : DkAt K G H dk fo ddk nb s pact l k) (b : But [] H H') : DkAt K G H' dk fo ddk nb s pact l k :=
  ⟨b _ _ h.hdk (by simp), b _ _ h.hnb (by simp), h.len, h.st.but b (fun _ _ => by simp), Same.tr h.gs b.same, h.pact, h.out, h.dks, h.nbs, h.t0, h.t1, by
    obtain ⟨o, e, n⟩ := h.hfo
    exact ⟨o, b _ _ e (by simp), n⟩, h.fos, h.fnb⟩
theorem DeskAt.new (h : DeskAt K H dk fo k) (b : But [] H H') : DeskAt K H' dk fo k := by
  obtain ⟨G, ddk, nb, s, pact, l, h⟩ := h
  exact ⟨G, ddk, nb, s, pact, l, h.new b⟩
theorem DkAt.fd (T : Tx K mg) (h : DkAt K G H dk fo ddk nb s pact l k) : Fd K H dk "numbers" (.ref nb) ∧ Fd K H dk "state" (.ref s.st) := ⟨⟨_, _, _, h.hdk, T.c_Desk, T.n_Desk_numbers, rfl⟩, ⟨_, _, _, h.hdk, T.c_Desk, T.n_Desk_state, rfl⟩⟩
theorem But.young {M : List Addr} (b : But M H H') (n : ∀ y ∈ M, H y = none) : But [] H H' := fun y o e _ => b y o e fun z => by rw [n y z] at e; cases e
theorem PactAt.code_len {c : Sg49.Contract} {p : Addr} (h : PactAt K G l p c) : c.code.length ≤ l.length := by
  obtain ⟨w, tm, pa, ac, il, dx, d, cnt, s0, e, _, _, _, h4, _⟩ := h.core
  rw [← h4, List.length_take, List.length_drop]; omega
/-- a run's outcome -/
def runS (k : Sg49.Desk) (st en : Int) (l : List Int) : Except Int (Sg49.Contract × Sg49.Done) := if Sg49.time st = false ∨ Sg49.time en = false then .error (-2) else match Sg49.inputsOf 101 l with
  | none => .error (-2)
  | some i => Sg49.transact k.contract k.state st en i
/-- how a desk's run ends -/
def spDeskRun (K : PySem.W.Frag) : Sp := fun vs H Q E => ∃ (G : Hp) (dk fo ddk nb : Addr) (s : SA) (pact : Addr) (l : List Int) (k : Sg49.Desk) (st en : Int) (a : Addr) (row : List Int), vs = [.ref dk, .int st, .int en, .ref a] ∧ DkAt K G H dk fo ddk nb s pact l k ∧ SqL K H a (row.map V.int) ∧ row.length < 16777216 ∧
  (∀ z, runS k st en row = .error z → ∀ H' x, But [] H H' → H' x = some (.xd [("answer", .int z)]) → E (XR K) (some x) H') ∧
  (∀ c d, runS k st en row = .ok (c, d) → ∀ G' H' r pact' e ps ws, Same G G' → But [] H H' → RunIn K G' H' r pact' d e ps ws → PactAt K G' l pact' c → (∀ y ∈ r.own, H y = none) → r.dks = [dk, fo] → ps.length < 900000 → ws.length < 900000 → 0 ≤ d.state.least → d.state.least ≤ 1099511627776 → Q (.ref r.ru) H')
end
end SP
set_option maxHeartbeats 2000000
namespace SP
open PySem PySem.Spec PyProof.Rows L2
/-- one step of a reading where nothing is asked -/
local macro_rules | `(tactic| walk_at "s1") => `(tactic| with_reducible first
  | refine k_seq ?_ | refine k_asg ?_ | refine k_if ?_ | refine k_ret ?_ | refine k_set ?_ | refine k_drop ?_ | refine k_next ?_ | refine k_retN ?_
  | refine k_var rfl ?_ | refine k_c ?_ | refine k_fld ?_ | refine k_fldK (by assumption) ?_ | refine k_op ?_ | refine k_plus ?_ | refine k_minus ?_ | refine k_cons ?_ | refine k_nil ?_ | refine k_name ?_
  | refine k_cmp ?_ | refine k_cmpK ?_ | refine k_B ?_ | refine k_blK ?_ | refine k_test ?_ | refine k_meth ?_ | refine k_call ?_ | refine k_CB ?_ | refine k_len (by assumption) ?_
  | refine k_ixT (by assumption) rfl ?_ | refine k_and ?_ | refine k_or ?_ | refine k_not ?_ | refine k_andV ?_ | refine k_orV ?_ | refine k_notV ?_ | refine k_ife ?_ | refine k_chain ?_ | refine k_tup ?_ | refine k_lst ?_
  | refine k_less ?_ | refine k_leq ?_ | refine k_un ?_ | refine k_neg ?_ | refine k_isN ?_ | refine k_notN ?_ | refine k_max ?_ | refine k_min ?_ | refine k_abs ?_ | refine k_bm ?_ | refine k_make ?_ | refine k_app (by assumption) (by assumption) ?_)
section
variable {P : Program} {w : World} {K : PySem.W.Frag} {mg : Str → Option Value} {base : Heap}
local macro_rules | `(tactic| walk_at "s2") => `(tactic| first | walk_at "s1" | refine iteT ?_ | refine iteF ?_)
variable {G H H' : Hp} {dk fo ddk nb : Addr} {s : SA} {pact : Addr} {l : List Int} {k : Sg49.Desk} {Q : VK} {E : XK}
theorem transact_back {c : Sg49.Contract} {m : Sg49.State} {st en : Int} {is : List Sg49.Input} (h : en < st) : Sg49.transact c m st en is = .error (-3) := by unfold Sg49.transact; exact if_pos h
theorem transact_past {c : Sg49.Contract} {m : Sg49.State} {st en : Int} {is : List Sg49.Input} (h : ¬ en < st) (h2 : en < m.least) : Sg49.transact c m st en is = .error (-4) := by unfold Sg49.transact; rw [if_neg h, if_pos h2]; rfl
theorem transact_go {c : Sg49.Contract} {m : Sg49.State} {st en from_ : Int} {is : List Sg49.Input} (h : ¬ en < st) (h2 : ¬ en < m.least) (hf : from_ = if st < m.least then m.least else st) : Sg49.transact c m st en is = match Sg49.inputs ⟨from_, en⟩ is c ⟨{ m with least := from_ }, [], [], false⟩ with
    | .error x => .error x
    | .ok y => if y.2.moved = false then .error (-7) else .ok y := by
  unfold Sg49.transact
  rw [if_neg h, if_neg h2, hf]; rfl
theorem inputsOf_len : ∀ (n : Nat) (l : List Int) {is : List Sg49.Input}, Sg49.inputsOf n l = some is → is.length < n
  | 0, l, is, h => by rw [inputsOf_0] at h; cases h
  | n + 1, [], is, h => by rw [inputsOf_nil] at h; cases h; exact Nat.succ_pos n
  | n + 1, z :: l, is, h => by
    rw [inputsOf_s] at h
    obtain ⟨x, r, _, h⟩ := bind_inv h
    dsimp only at h
    cases q : Sg49.inputsOf n r with
    | none => rw [q] at h; cases h
    | some y =>
      rw [q] at h
      cases h
      exact Nat.succ_lt_succ (inputsOf_len n r q)
theorem time_in {z : Int} (h : Sg49.time z = true) : 0 ≤ z ∧ z ≤ 1099511627776 := by
  have e : Sg49.time z = (decide (0 ≤ z) && decide (z ≤ 1099511627776)) := rfl
  rw [e, Bool.and_eq_true, decide_eq_true_eq, decide_eq_true_eq] at h
  exact h
theorem pure_Desk_run (T : Tx K mg) (vs : List V) (H : Hp) (Q : VK) (E : XK) (h : spDeskRun K vs H Q E) : t_Desk_run K E (spNeed K) (spGoOn K) (spTake K) (spRunInit K) (spTwin K) (spInputsOf K) spIsTime { nx := fun _ H' => Q .non H', rt := Q } (start N_Desk_run vs) H := by
  obtain ⟨G, dk, fo, ddk, nb, s, pact, l, k, st, en, a, row, rfl, hd, hs, hrow, qE, qQ⟩ := h
  unfold runS at qE qQ
  unfold t_Desk_run
  repeat walk_at "s1"
  refine ⟨st, rfl, ?_⟩
  have bad : (Sg49.time st = false ∨ Sg49.time en = false) → ∀ x, H x = none → E (XR K) (some x) (upd H x (.xd [("answer", .int (-2))])) := fun c x hx => qE (-2) (if_pos c) _ x ((But.refl H).newer hx) upd_same
  -- behind the times
  have main : Sg49.time st = true → Sg49.time en = true →
      (tSeq (fun D σ H => (tAsg (tCallS (spInputsOf K) (WE (wOnly K (XN K) (fun _ _ _ => (fun _ σ H => tMkR K (tCons (tC (.int (-2))) tNil) σ H fun cls d H' => E cls d H')) (fun cls d _ H => E cls d H) D)) (tCons (tVar 3) tNil)) (gName 6)) D σ H)
      (tSeq (tDrop (tCall (spNeed K) [] E (tCons (tLe (tVar 1) (tVar 2)) (tCons (tC (.int (-3))) tNil))))
      (tSeq (tDrop (tCall (spNeed K) [] E (tCons (tGe (tVar 2) (tFld K (tFld K (tVar 0) "state") "time")) (tCons (tC (.int (-4))) tNil))))
      (tSeq (tAsg (tMake (He.ga K "Run") (spRunInit K) [] E0 (tCons (tMeth (He.ga K "State") "twin" (spTwin K) [] E0 (tFld K (tVar 0) "state") tNil) (tCons (tCB rMaxK (tCons (tVar 1) (tCons (tFld K (tFld K (tVar 0) "state") "time") tNil))) (tCons (tVar 2) tNil)))) (gName 4))
      (tSeq (sFld K (tFld K (tVar 4) "state") (tFld K (tVar 4) "start") "time")
      (tSeq (tFor (iList K (tVar 6)) (gName 5) (tSeq (tDrop (tMeth (He.ga K "Run") "go_on" (spGoOn K) [] E (tVar 4) tNil))
      (tDrop (tMeth (He.ga K "Run") "take" (spTake K) [] E (tVar 4) (tCons (tVar 5) tNil)))))
      (tSeq (tDrop (tMeth (He.ga K "Run") "go_on" (spGoOn K) [] E (tVar 4) tNil))
      (tSeq (tDrop (tCall (spNeed K) [] E (tCons (tFld K (tVar 4) "has_gone") (tCons (tC (.int (-7))) tNil))))
      (tRet (tVar 4)))))))))) { nx := fun _ H' => Q .non H', rt := Q } [some (.ref dk), some (.int st), some (.int en), some (.ref a), none, none, none] H := by
    intro t1 t2
    have nt : ¬ (Sg49.time st = false ∨ Sg49.time en = false) := by rw [t1, t2]; simp
    rw [if_neg nt] at qE qQ
    refine k_seq ?_
    refine k_asg ?_
    refine ⟨_, rfl, ?_⟩
    refine ⟨a, row, rfl, hs, hrow, fun e H1 S1 => ?_, fun is e H1 F vs S1 F0 hF hv => ?_⟩
    · refine ⟨true, T.x_NotThat_NotThat, fun _ _ _ => ?_, fun z => by cases z⟩
      rw [e] at qE
      exact ⟨_, rfl, fun x hx => qE (-2) rfl _ x ((Same.but S1).newer hx) upd_same⟩
    rw [e] at qE qQ
    replace qE : ∀ z, Sg49.transact k.contract k.state st en is = .error z → ∀ H' x, But [] H H' → H' x = some (.xd [("answer", .int z)]) → E (XR K) (some x) H' := qE
    replace qQ : ∀ c d, Sg49.transact k.contract k.state st en is = .ok (c, d) → ∀ G' H' r pact' e ps ws, Same G G' → But [] H H' → RunIn K G' H' r pact' d e ps ws → PactAt K G' l pact' c → (∀ y ∈ r.own, H y = none) → r.dks = [dk, fo] → ps.length < 900000 → ws.length < 900000 → 0 ≤ d.state.least → d.state.least ≤ 1099511627776 → Q (.ref r.ru) H' := qQ
    have len100 : is.length ≤ 100 := Nat.le_of_lt_succ (inputsOf_len 101 row e)
    refine k_name ?_
    repeat walk_at "s1"
    have B1 : But [] H H1 := Same.but S1
    by_cases c1 : st ≤ en
    · rw [decide_eq_true c1]
      refine ⟨true, _, rfl, fun _ => ?_, fun z => by cases z⟩
      have d1 := hd.new B1
      obtain ⟨f1, f2⟩ := d1.fd T
      obtain ⟨g1, g2, _⟩ := d1.st.fd T
      repeat walk_at "s1"
      by_cases c2 : k.state.least ≤ en
      · rw [decide_eq_true c2]
        refine ⟨true, _, rfl, fun _ => ?_, fun z => by cases z⟩
        have ne1 : ¬ en < st := by omega
        have ne2 : ¬ en < k.state.least := by omega
        repeat walk_at "s1"
        refine k_methK d1.st.hst rfl ?_
        repeat walk_at "s1"
        refine ⟨s, pact, k.state, rfl, d1.st, fun H2 s2 b2 hs2 new2 => ?_⟩
        have d2 := d1.new b2
        have B2 := B1.trans b2
        obtain ⟨f1, f2⟩ := d2.fd T
        obtain ⟨g1, g2, _⟩ := d2.st.fd T
        repeat walk_at "s1"
        generalize efr : (if k.state.least > st then k.state.least else st) = from_
        have efr' : from_ = if st < k.state.least then k.state.least else st := efr.symm
        have tr := transact_go (c := k.contract) (is := is) ne1 ne2 efr'
        rw [tr] at qE qQ
        intro ru dru hru hdru drr
        have lo : ∀ {x : Addr}, upd (upd H2 dru (.own ru)) ru (.ins (CU K) dru []) x = none → H2 x = none ∧ x ≠ ru := fun {x} e => by
          have x1 : x ≠ ru := fun z => by rw [z, upd_same] at e; cases e
          rw [upd_ne x1] at e
          have x2 : x ≠ dru := fun z => by rw [z, upd_same] at e; cases e
          rw [upd_ne x2] at e
          exact ⟨e, x1⟩
        refine ⟨ru, dru, .ref s2.st, .int from_, .int en, rfl, upd_same, fun H3 pl wl b3 h3 pl0 wl0 plwl hpl hwl => ⟨rfl, ?_⟩⟩
        have b3' : But [] H2 H3 := b3.born hru hdru
        obtain ⟨pl2, plr⟩ := lo pl0
        obtain ⟨wl2, wlr⟩ := lo wl0
        have hs3 := hs2.but b3' (fun _ _ => by simp)
        obtain ⟨i1, i2, _⟩ := run_fd T h3
        repeat walk_at "s1"
        refine k_setK (fs' := sF (.ref pact) (.int from_) (.ref s2.ac) (.ref s2.cl) (.ref s2.sl) (.ref s2.pi) (.ref s2.po)) hs3.hst T.c_State T.n_State_time rfl ?_
        have hs4 := hs3.field (pact' := pact) (t := from_)
        have sown : ∀ y ∈ s2.own, H2 y ≠ none := fun y hy => (hs2.is y hy).1
        have nst : ∀ {x : Addr}, H2 x = none → x ≠ s2.st := fun e z => sown s2.st (by simp [SA.own]) (by rw [← z]; exact e)
        have up1 : ∀ {y : Addr}, H1 y = none → H y = none := fun e => Same.fresh S1 e
        have up2 : ∀ {y : Addr}, H2 y = none → H y = none := fun e => Same.fresh B2.same e
        have ownN : ∀ y ∈ (⟨ru, dru, pl, wl, s2, [dk, fo]⟩ : RA).own, H y = none := fun y hy => by
          rcases List.mem_cons.mp hy with rfl | hy
          · exact up2 hru
          rcases List.mem_cons.mp hy with rfl | hy
          · exact up2 pl2
          rcases List.mem_cons.mp hy with rfl | hy
          · exact up2 wl2
          exact up1 (new2 y hy)
        have B3 : But [] H H3 := B2.trans b3'
        have B4 : But [] H (upd H3 s2.st (.ins (CS K) s2.dst (sF (.ref pact) (.int from_) (.ref s2.ac) (.ref s2.cl) (.ref s2.sl) (.ref s2.pi) (.ref s2.po)))) := fun y o e n => by
          rw [upd_ne (fun z => by rw [z, up1 (new2 s2.st (by simp [SA.own]))] at e; cases e)]
          exact B3 _ _ e n
        have tt : TupK H3 (upd H3 s2.st (.ins (CS K) s2.dst (sF (.ref pact) (.int from_) (.ref s2.ac) (.ref s2.cl) (.ref s2.sl) (.ref s2.pi) (.ref s2.po)))) := fun y xs e => by
          rw [upd_ne (fun z => by rw [z, hs3.hst] at e; cases e)]; exact e
        have dfs : ∀ {Hx : Hp}, But [] H Hx → ∀ y ∈ [dk, fo], ∃ o, Hx y = some o ∧ ∀ xs, o ≠ .tup xs := fun b y hy => by
          simp only [List.mem_cons, List.not_mem_nil, or_false] at hy
          rcases hy with rfl | rfl
          · exact ⟨_, b _ _ hd.hdk (by simp), fun xs z => by cases z⟩
          · obtain ⟨o, e, n⟩ := hd.hfo
            exact ⟨o, b _ _ e (by simp), n⟩
        have tI := time_in t1
        have tJ := time_in t2
        have t0' := hd.t0
        have t1' := hd.t1
        have fin : 0 ≤ from_ ∧ from_ ≤ 1099511627776 := by
          rw [efr']
          by_cases c : st < k.state.least
          · rw [if_pos c]; omega
          · rw [if_neg c]; omega
        have hr4 : RunIn K G (upd H3 s2.st (.ins (CS K) s2.dst (sF (.ref pact) (.int from_) (.ref s2.ac) (.ref s2.cl) (.ref s2.sl) (.ref s2.pi) (.ref s2.po)))) ⟨ru, dru, pl, wl, s2, [dk, fo]⟩ pact ⟨{ k.state with least := from_ }, [], [], false⟩ ⟨from_, en⟩ [] [] := by
          refine ⟨Same.tr hd.gs B4.same, fun y hy => Same.fresh hd.gs (ownN y hy), ?_, (upd_ne (nst hru)).trans h3, hs4, ⟨fin.1, fin.2, tJ.1, tJ.2⟩, (upd_ne (nst pl2)).trans hpl, trivial, (upd_ne (nst wl2)).trans hwl, trivial, dfs B4, fun y hy => hd.out y (by simp only [List.mem_cons, List.not_mem_nil, or_false] at hy; rcases hy with rfl | rfl <;> simp), fun y hy z => by
            obtain ⟨o, e, _⟩ := dfs (But.refl H) y hy
            have := ownN y z; rw [e] at this; cases this⟩
          show (ru :: pl :: wl :: s2.own).Nodup
          rw [List.nodup_cons, List.nodup_cons, List.nodup_cons]
          refine ⟨?_, ?_, fun z => sown _ z wl2, hs2.nd⟩
          · simp only [List.mem_cons, not_or]
            exact ⟨Ne.symm plr, Ne.symm wlr, fun z => sown _ z hru⟩
          · simp only [List.mem_cons, not_or]
            exact ⟨plwl, fun z => sown _ z pl2⟩
        have hF1 := b3' _ _ (b2 _ _ hF (by simp)) (by simp)
        have hF4 : upd H3 s2.st (.ins (CS K) s2.dst (sF (.ref pact) (.int from_) (.ref s2.ac) (.ref s2.cl) (.ref s2.sl) (.ref s2.pi) (.ref s2.po))) F = some (.lst vs) := (upd_ne (fun z => by have := new2 s2.st (by simp [SA.own]); rw [← z, hF] at this; cases this)).trans hF1
        have hv4 : All2 (InpAt (upd H3 s2.st (.ins (CS K) s2.dst (sF (.ref pact) (.int from_) (.ref s2.ac) (.ref s2.cl) (.ref s2.sl) (.ref s2.pi) (.ref s2.po))))) vs is := hv.imp fun _ _ q => ((q.mono (Same.tup (b2.trans b3').same)).mono tt)
        have Fown : F ∉ (⟨ru, dru, pl, wl, s2, [dk, fo]⟩ : RA).own := fun hy => by
          rcases List.mem_cons.mp hy with z | hy
          · have z : F = ru := z
            rw [← z, b2 _ _ hF (by simp)] at hru; cases hru
          rcases List.mem_cons.mp hy with z | hy
          · have z : F = pl := z
            rw [← z, b2 _ _ hF (by simp)] at pl2; cases pl2
          rcases List.mem_cons.mp hy with z | hy
          · have z : F = wl := z
            rw [← z, b2 _ _ hF (by simp)] at wl2; cases wl2
          have := new2 F hy
          rw [hF] at this; cases this
        generalize upd H3 s2.st (.ins (CS K) s2.dst (sF (.ref pact) (.int from_) (.ref s2.ac) (.ref s2.cl) (.ref s2.sl) (.ref s2.pi) (.ref s2.po))) = H4 at B4 hr4 hF4 hv4 ⊢
        clear hs4 tt B3 hF1 i1 i2 hs3 h3 hpl hwl b3 b3'
        generalize hr : (⟨ru, dru, pl, wl, s2, [dk, fo]⟩ : RA) = r at hr4 ownN Fown
        have erd : r.dks = [dk, fo] := by rw [← hr]
        have eru : ru = r.ru := by rw [← hr]
        subst eru
        generalize hd0 : (⟨{ k.state with least := from_ }, [], [], false⟩ : Sg49.Done) = d0 at hr4 qE qQ
        have l0 : d0.state.least = from_ := by rw [← hd0]
        have z0 : sz d0 k.contract ≤ 8000 := by
          rw [← hd0]
          have := hd.pact.code_len
          have := hd.len
          show 0 + 0 + k.contract.code.length ≤ 8000
          omega
        generalize he : (⟨from_, en⟩ : Sg49.Env) = e at hr4 qE qQ
        have yg : ∀ {H' : Hp}, But r.own H4 H' → But [] H H' := fun b => (B4.mono (by simp)).trans b |> fun c => c.young ownN
        have lv : vs.length = is.length := All2.len hv4
        repeat walk_at "s1"
        unfold tFor iList
        repeat walk_at "s1"
        refine ⟨F, rfl, ⟨vs, lstL hF4⟩, ?_⟩
        refine for_list (xs := vs) (fun j σ Hc => ∃ x5 G' pact' c d ps ws, σ = [some (.ref dk), some (.int st), some (.int en), some (.ref a), some (.ref r.ru), x5, some (.ref F)] ∧ Same G G' ∧ But r.own H4 Hc ∧ RunIn K G' Hc r pact' d e ps ws ∧ PactAt K G' l pact' c ∧ Sg49.inputs e is k.contract d0 = Sg49.inputs e (is.drop j) c d ∧ sz d c ≤ 8000 + 33 * j ∧ d.state.least = from_)
          ⟨none, G, pact, k.contract, d0, [], [], rfl, fun _ _ e => e, But.refl H4, hr4, hd.pact, rfl, z0, l0⟩ ?_ ?_ ?_
        · rintro j σ Hc _ ⟨x5, G', pact', c, d, ps, ws, rfl, sg, b, hrc, hP, eq, hz, hl⟩
          exact lstL (b _ _ hF4 Fown)
        · rintro j x σ Hc hx ⟨x5, G', pact', c, d, ps, ws, rfl, sg, b, hrc, hP, eq, hz, hl⟩
          obtain ⟨i, hi, hxi⟩ := All2.get hv4 hx
          have jl : j < is.length := (List.getElem?_eq_some_iff.mp hi).1
          have ed : is.drop j = i :: is.drop (j + 1) := by
            rw [List.drop_eq_getElem_cons jl]
            rw [List.getElem?_eq_getElem jl] at hi
            rw [Option.some.inj hi]
          rw [ed, inputs_cons] at eq
          refine k_name ?_
          repeat walk_at "s1"
          refine k_methK hrc.hru rfl ?_
          repeat walk_at "s1"
          refine ⟨G', r, pact', d, e, ps, ws, l, c, rfl, hrc, hP, by omega, fun z hz' H' x' b' hx' => ?_, fun c' d' hok G2 H5 pact2 ps2 ws2 sg2 b' h5 hP5 z5 => ?_⟩
          · rw [hz'] at eq
            rw [eq] at qE
            exact qE z rfl H' x' (yg (b.trans b')) hx'
          · rw [hok] at eq
            dsimp only at eq
            have st' := reduce_stops' _ c d (Nat.le_refl _) hok
            have ls' := reduce_least _ c d (Nat.le_refl _) hok
            have tup : TupK H4 H5 := (b.trans b').tup fun y hy => (hr4.is y hy).2
            have wl5 := h5.wslen
            have wz : d'.pays.length + d'.warns.length + c'.code.length ≤ sz d c + 32 := z5
            repeat walk_at "s1"
            refine k_methK h5.hru rfl ?_
            repeat walk_at "s1"
            refine ⟨G2, r, pact2, d', e, ps2, ws2, l, c', x, i, rfl, h5, by omega, hP5, st', hxi.mono tup, fun hn H' x' b6 hx' => ?_, fun k' d6 hs G6 H6 pact6 ws6 sg6 b6 h6 hP6 => ?_⟩
            · rw [hn] at eq
              rw [eq] at qE
              exact qE (-6) rfl H' x' (yg ((b.trans b').trans b6)) hx'
            · rw [hs] at eq
              have zz := pickC_sz hs
              have zz' : sz d' c' ≤ sz d c + 32 := z5
              exact ⟨_, G6, pact6, k', d6, ps2, ws6, rfl, Same.tr sg (Same.tr sg2 sg6), (b.trans b').trans b6, h6, hP6, eq, by omega, (pickC_least hs).trans (ls'.trans hl)⟩
        · rintro σ Hc ⟨x5, G', pact', c, d, ps, ws, rfl, sg, b, hrc, hP, eq, hz, hl⟩
          rw [lv, List.drop_length, inputs_nil] at eq
          repeat walk_at "s1"
          refine k_methK hrc.hru rfl ?_
          repeat walk_at "s1"
          refine ⟨G', r, pact', d, e, ps, ws, l, c, rfl, hrc, hP, by omega, fun z hz' H' x' b' hx' => ?_, fun c' d' hok G2 H5 pact2 ps2 ws2 sg2 b' h5 hP5 z5 => ?_⟩
          · rw [hz'] at eq
            rw [eq] at qE
            exact qE z rfl H' x' (yg (b.trans b')) hx'
          · rw [hok] at eq
            rw [eq] at qE qQ
            have ls' := (reduce_least _ c d (Nat.le_refl _) hok).trans hl
            obtain ⟨_, _, _, _, _, _, _, _, _, _, _, fg⟩ := h5.fd T
            have ps5 := h5.pslen
            have ws5 := h5.wslen
            have wz : d'.pays.length + d'.warns.length + c'.code.length ≤ sz d c + 32 := z5
            repeat walk_at "s1"
            cases mv : d'.moved with
            | false =>
              refine ⟨false, _, rfl, fun z => by (cases z), fun _ x hx => ?_⟩
              exact qE (-7) (if_pos mv) _ x (yg ((b.trans b').newer hx)) upd_same
            | true =>
              refine ⟨true, _, rfl, fun _ => ?_, fun z => by (cases z)⟩
              repeat walk_at "s1"
              exact qQ c' d' (if_neg (by show ¬ d'.moved = false; rw [mv]; simp)) G2 H5 r pact2 e ps2 ws2 (Same.tr sg sg2) (yg (b.trans b')) h5 hP5 ownN erd (by omega) (by omega) (by rw [ls']; exact fin.1) (by rw [ls']; exact fin.2)
      · rw [decide_eq_false c2]
        refine ⟨false, _, rfl, fun z => by (cases z), fun _ x hx => ?_⟩
        exact qE (-4) (transact_past (by omega) (by omega)) _ x (B1.newer hx) upd_same
    · rw [decide_eq_false c1]
      refine ⟨false, _, rfl, fun z => by (cases z), fun _ x hx => ?_⟩
      exact qE (-3) (transact_back (by omega)) _ x (B1.newer hx) upd_same
  cases t1 : Sg49.time st with
  | false =>
    refine ⟨false, rfl, ?_⟩
    refine iteF ?_
    repeat walk_at "s1"
    exact ⟨false, _, rfl, fun z => by (cases z), fun _ => bad (.inl t1)⟩
  | true =>
    refine ⟨true, rfl, ?_⟩
    refine iteT ?_
    repeat walk_at "s1"
    refine ⟨en, rfl, ?_⟩
    cases t2 : Sg49.time en with
    | false => exact ⟨false, _, rfl, fun z => by (cases z), fun _ => bad (.inr t2)⟩
    | true => exact ⟨true, _, rfl, fun _ => main t1 t2, fun z => by (cases z)⟩
end
end SP
set_option maxHeartbeats 2000000
namespace SP
open PySem PySem.Spec PyProof.Rows L2
/-- one step of a reading where nothing is asked -/
local macro_rules | `(tactic| walk_at "s1") => `(tactic| with_reducible first
  | refine k_seq ?_ | refine k_asg ?_ | refine k_if ?_ | refine k_ret ?_ | refine k_set ?_ | refine k_drop ?_ | refine k_next ?_ | refine k_retN ?_
  | refine k_var rfl ?_ | refine k_c ?_ | refine k_fld ?_ | refine k_fldK (by assumption) ?_ | refine k_op ?_ | refine k_plus ?_ | refine k_minus ?_ | refine k_cons ?_ | refine k_nil ?_ | refine k_name ?_
  | refine k_cmp ?_ | refine k_cmpK ?_ | refine k_B ?_ | refine k_blK ?_ | refine k_test ?_ | refine k_meth ?_ | refine k_call ?_ | refine k_CB ?_ | refine k_len (by assumption) ?_
  | refine k_ixT (by assumption) rfl ?_ | refine k_and ?_ | refine k_or ?_ | refine k_not ?_ | refine k_andV ?_ | refine k_orV ?_ | refine k_notV ?_ | refine k_ife ?_ | refine k_chain ?_ | refine k_tup ?_ | refine k_lst ?_
  | refine k_less ?_ | refine k_leq ?_ | refine k_un ?_ | refine k_neg ?_ | refine k_isN ?_ | refine k_notN ?_ | refine k_max ?_ | refine k_min ?_ | refine k_abs ?_ | refine k_bm ?_ | refine k_make ?_ | refine k_app (by assumption) (by assumption) ?_)
/-! ### a desk's calls -/
section
variable {P : Program} {w : World} {K : PySem.W.Frag} {mg : Str → Option Value} {base : Heap}
local macro_rules | `(tactic| walk_at "s2") => `(tactic| first | walk_at "s1" | refine iteT ?_ | refine iteF ?_)
variable {G H H' : Hp} {dk fo ddk nb : Addr} {s : SA} {pact : Addr} {l : List Int} {k k' : Sg49.Desk} {a : Sg49.Ans} {Q : VK} {E : XK}
/-- what an answer is told by: a list, or a refusal -/
structure AnsK (K : PySem.W.Frag) (H : Hp) (dk fo : Addr) (k' : Sg49.Desk) (a : Sg49.Ans) (Q : VK) (E : XK) : Prop where
  ok : ∀ H' p, But [dk] H H' → DeskAt K H' dk fo k' → H p = none → H' p = some (.lst ((a.v :: a.l).map V.int)) → Q (.ref p) H'
  no : a.l = [] → ∀ H' x, But [dk] H H' → DeskAt K H' dk fo k' → H' x = some (.xd [("answer", .int a.v)]) → E (XR K) (some x) H'
/-- refused where nothing has been done -/
theorem AnsK.ref {z : Int} (h : AnsK K H dk fo k' (Sg49.only z) Q E) (hd : DeskAt K H dk fo k') {H1 : Hp} (b : But [] H H1) : ∀ x, H1 x = none → E (XR K) (some x) (upd H1 x (.xd [("answer", .int z)])) := fun x hx =>
  h.no rfl _ x ((b.newer hx).mono (by simp)) (hd.new (b.newer hx)) upd_same
theorem AnsK.lst {z : Int} {zs : List Int} (h : AnsK K H dk fo k' ⟨z, zs⟩ Q E) (hd : DeskAt K H dk fo k') {H1 : Hp} (b : But [] H H1) {p : Addr} (hp : H1 p = none) : Q (.ref p) (upd H1 p (.lst ((z :: zs).map V.int))) :=
  h.ok _ p ((b.newer hp).mono (by simp)) (hd.new (b.newer hp)) (Same.fresh b.same hp) upd_same
theorem within_eq {z lo hi : Int} : Sg49.within z lo hi = (decide (lo ≤ z) && decide (z ≤ hi)) := rfl
def spAccount (K : PySem.W.Frag) : Sp := fun vs H Q E => ∃ (dk fo : Addr) (k : Sg49.Desk) (p t : Int), vs = [.ref dk, .int p, .int t] ∧ DeskAt K H dk fo k ∧ AnsK K H dk fo (Sg49.does k (.account p t)).1 (Sg49.does k (.account p t)).2 Q E
/-- lo <= z < hi, as a number within -/
theorem chain_in {z : Int} {lo hi : Int} {b : Bool} (hb : b = Sg49.within z lo (hi - 1)) {σ : L2.St} {H : Hp} {Q : VK} {tz : TE} (hz : ∀ Q' : VK, Q' (.int z) H → tz σ H Q') (q : Q (.bl b) H) : tChain rLeq rLess (tC (.int lo)) tz (tC (.int hi)) σ H Q := by
  refine k_chain (k_c (hz _ (k_leq (k_blK ?_))))
  rw [within_eq] at hb
  cases c : decide (lo ≤ z) with
  | false =>
    rw [c] at hb
    subst hb
    exact iteF q
  | true =>
    rw [c, Bool.true_and] at hb
    refine iteT (k_c (k_less ?_))
    have e : decide (z < hi) = decide (z ≤ hi - 1) := by
      by_cases c2 : z < hi
      · rw [decide_eq_true c2, decide_eq_true (by omega)]
      · rw [decide_eq_false c2, decide_eq_false (by omega)]
    rw [e, ← hb]; exact q
theorem does_account {p t : Int} : Sg49.does k (.account p t) = if Sg49.within p 0 7 = false ∨ Sg49.within t 0 3 = false then (k, Sg49.only (-2)) else (k, ⟨0, [(k.state.has p.toNat t.toNat : Int)]⟩) := rfl
theorem pure_Desk_account (T : Tx K mg) (vs : List V) (H : Hp) (Q : VK) (E : XK) (h : spAccount K vs H Q E) : t_Desk_account K E (spNeed K) { nx := fun _ H' => Q .non H', rt := Q } (start N_Desk_account vs) H := by
  obtain ⟨dk, fo, k, p, t, rfl, hD, ha⟩ := h
  obtain ⟨G, ddk, nb, s, pact, l, hd⟩ := id hD
  obtain ⟨f1, f2⟩ := hd.fd T
  obtain ⟨g1, g2, g3, _⟩ := hd.st.fd T
  rw [does_account] at ha
  unfold t_Desk_account
  refine k_seq (k_drop (k_call (k_cons (k_andV ?_))))
  have key : ∀ b : Bool, b = Sg49.within p 0 7 → ∀ b' : Bool, b' = Sg49.within t 0 3 → (b && b') = true → (tRet (tLst (tCons (tC (.int 0)) (tCons (tOp (rIxL K) (tOp (rIxL K) (tFld K (tFld K (tVar 0) "state") "accounts") (tVar 1)) (tVar 2)) tNil)))) { nx := fun _ H' => Q .non H', rt := Q } [some (.ref dk), some (.int p), some (.int t)] H := by
    rintro b rfl b' rfl c
    rw [Bool.and_eq_true] at c
    rw [if_neg (by rw [c.1, c.2]; simp)] at ha
    obtain ⟨p0, p7⟩ := within_iff.mp c.1
    obtain ⟨t0, t3⟩ := within_iff.mp c.2
    have pe : p = (p.toNat : Nat) := by omega
    have te : t = (t.toNat : Nat) := by omega
    have p8 : p.toNat < 8 := by omega
    have t4 : t.toNat < 4 := by omega
    obtain ⟨x, ex, hx, ax⟩ := atI_row hd.st p8
    repeat walk_at "s1"
    rw [pe, te]
    refine k_ixL (lstL hd.st.hac) ax ?_
    repeat walk_at "s1"
    refine k_ixL (lstL hx) (atI_rowV t4) ?_
    repeat walk_at "s1"
    exact ⟨small, fun q hq => ha.lst hD (But.refl H) hq⟩
  refine chain_in (b := Sg49.within p 0 7) rfl (fun _ q => k_var rfl q) ?_
  repeat walk_at "s1"
  cases c1 : Sg49.within p 0 7 with
  | false =>
    rw [if_pos (.inl c1)] at ha
    refine iteF ?_
    exact ⟨false, _, rfl, fun z => by (cases z), fun _ => ha.ref hD (But.refl H)⟩
  | true =>
    refine iteT ?_
    refine chain_in (b := Sg49.within t 0 3) rfl (fun _ q => k_var rfl q) ?_
    repeat walk_at "s1"
    cases c2 : Sg49.within t 0 3 with
    | false =>
      rw [if_pos (.inr c2)] at ha
      exact ⟨false, _, rfl, fun z => by (cases z), fun _ => ha.ref hD (But.refl H)⟩
    | true => exact ⟨true, _, rfl, fun _ => key true c1.symm true c2.symm rfl, fun z => by (cases z)⟩
def spChoice (K : PySem.W.Frag) : Sp := fun vs H Q E => ∃ (dk fo : Addr) (k : Sg49.Desk) (c : Int), vs = [.ref dk, .int c] ∧ DeskAt K H dk fo k ∧ AnsK K H dk fo (Sg49.does k (.choice c)).1 (Sg49.does k (.choice c)).2 Q E
def spSlot (K : PySem.W.Frag) : Sp := fun vs H Q E => ∃ (dk fo : Addr) (k : Sg49.Desk) (c : Int), vs = [.ref dk, .int c] ∧ DeskAt K H dk fo k ∧ AnsK K H dk fo (Sg49.does k (.slot c)).1 (Sg49.does k (.slot c)).2 Q E
theorem does_choice {c : Int} : Sg49.does k (.choice c) = if Sg49.within c 0 15 = false then (k, Sg49.only (-2)) else match k.state.choices.getD c.toNat none with
    | some z => (k, ⟨0, [z]⟩)
    | none => (k, Sg49.only (-1)) := rfl
theorem does_slot {c : Int} : Sg49.does k (.slot c) = if Sg49.within c 0 15 = false then (k, Sg49.only (-2)) else match k.state.slots.getD c.toNat none with
    | some z => (k, ⟨0, [z]⟩)
    | none => (k, Sg49.only (-1)) := rfl
theorem pure_Desk_choice (T : Tx K mg) (vs : List V) (H : Hp) (Q : VK) (E : XK) (h : spChoice K vs H Q E) : t_Desk_choice K E (spNeed K) { nx := fun _ H' => Q .non H', rt := Q } (start N_Desk_choice vs) H := by
  obtain ⟨dk, fo, k, c, rfl, hD, ha⟩ := h
  obtain ⟨G, ddk, nb, s, pact, l, hd⟩ := id hD
  obtain ⟨f1, f2⟩ := hd.fd T
  obtain ⟨_, _, _, g4, _⟩ := hd.st.fd T
  rw [does_choice] at ha
  unfold t_Desk_choice
  refine k_seq (k_drop (k_call (k_cons ?_)))
  refine chain_in (b := Sg49.within c 0 15) rfl (fun _ q => k_var rfl q) ?_
  repeat walk_at "s1"
  cases c1 : Sg49.within c 0 15 with
  | false =>
    rw [if_pos c1] at ha
    exact ⟨false, _, rfl, fun z => by (cases z), fun _ => ha.ref hD (But.refl H)⟩
  | true =>
    rw [if_neg (by rw [c1]; simp)] at ha
    refine ⟨true, _, rfl, fun _ => ?_, fun z => by (cases z)⟩
    obtain ⟨z0, z15⟩ := within_iff.mp c1
    have ce : c = (c.toNat : Nat) := by omega
    have cl : c.toNat < k.state.choices.length := by rw [hd.st.wf.c]; omega
    repeat walk_at "s1"
    rw [ce]
    refine k_ixL (lstL hd.st.hcl) (atI_opt cl) ?_
    repeat walk_at "s1"
    cases eo : k.state.choices.getD c.toNat none with
    | none =>
      rw [eo] at ha
      exact ⟨false, _, rfl, fun z => by (cases z), fun _ => ha.ref hD (But.refl H)⟩
    | some z =>
      rw [eo] at ha
      refine ⟨true, _, rfl, fun _ => ?_, fun z => by (cases z)⟩
      repeat walk_at "s1"
      refine k_ixL (lstL hd.st.hcl) (atI_opt cl) ?_
      rw [eo]
      repeat walk_at "s1"
      exact ⟨small, fun q hq => ha.lst hD (But.refl H) hq⟩
theorem pure_Desk_slot (T : Tx K mg) (vs : List V) (H : Hp) (Q : VK) (E : XK) (h : spSlot K vs H Q E) : t_Desk_slot K E (spNeed K) { nx := fun _ H' => Q .non H', rt := Q } (start N_Desk_slot vs) H := by
  obtain ⟨dk, fo, k, c, rfl, hD, ha⟩ := h
  obtain ⟨G, ddk, nb, s, pact, l, hd⟩ := id hD
  obtain ⟨f1, f2⟩ := hd.fd T
  obtain ⟨_, _, _, _, g5, _⟩ := hd.st.fd T
  rw [does_slot] at ha
  unfold t_Desk_slot
  refine k_seq (k_drop (k_call (k_cons ?_)))
  refine chain_in (b := Sg49.within c 0 15) rfl (fun _ q => k_var rfl q) ?_
  repeat walk_at "s1"
  cases c1 : Sg49.within c 0 15 with
  | false =>
    rw [if_pos c1] at ha
    exact ⟨false, _, rfl, fun z => by (cases z), fun _ => ha.ref hD (But.refl H)⟩
  | true =>
    rw [if_neg (by rw [c1]; simp)] at ha
    refine ⟨true, _, rfl, fun _ => ?_, fun z => by (cases z)⟩
    obtain ⟨z0, z15⟩ := within_iff.mp c1
    have ce : c = (c.toNat : Nat) := by omega
    have cl : c.toNat < k.state.slots.length := by rw [hd.st.wf.s]; omega
    repeat walk_at "s1"
    rw [ce]
    refine k_ixL (lstL hd.st.hsl) (atI_opt cl) ?_
    repeat walk_at "s1"
    cases eo : k.state.slots.getD c.toNat none with
    | none =>
      rw [eo] at ha
      exact ⟨false, _, rfl, fun z => by (cases z), fun _ => ha.ref hD (But.refl H)⟩
    | some z =>
      rw [eo] at ha
      refine ⟨true, _, rfl, fun _ => ?_, fun z => by (cases z)⟩
      repeat walk_at "s1"
      refine k_ixL (lstL hd.st.hsl) (atI_opt cl) ?_
      rw [eo]
      repeat walk_at "s1"
      exact ⟨small, fun q hq => ha.lst hD (But.refl H) hq⟩
def spTotal (K : PySem.W.Frag) : Sp := fun vs H Q E => ∃ (dk fo : Addr) (k : Sg49.Desk) (c : Int), vs = [.ref dk, .int c] ∧ DeskAt K H dk fo k ∧ AnsK K H dk fo (Sg49.does k (.total c)).1 (Sg49.does k (.total c)).2 Q E
theorem does_total {t : Int} : Sg49.does k (.total t) = if Sg49.within t 0 3 = false then (k, Sg49.only (-2)) else (k, ⟨0, [(k.state.ins.getD t.toNat 0 : Int), (k.state.outs.getD t.toNat 0 : Int)]⟩) := rfl
theorem pure_Desk_total (T : Tx K mg) (vs : List V) (H : Hp) (Q : VK) (E : XK) (h : spTotal K vs H Q E) : t_Desk_total K E (spNeed K) { nx := fun _ H' => Q .non H', rt := Q } (start N_Desk_total vs) H := by
  obtain ⟨dk, fo, k, c, rfl, hD, ha⟩ := h
  obtain ⟨G, ddk, nb, s, pact, l, hd⟩ := id hD
  obtain ⟨f1, f2⟩ := hd.fd T
  obtain ⟨_, _, _, _, _, g6, g7⟩ := hd.st.fd T
  rw [does_total] at ha
  unfold t_Desk_total
  refine k_seq (k_drop (k_call (k_cons ?_)))
  refine chain_in (b := Sg49.within c 0 3) rfl (fun _ q => k_var rfl q) ?_
  repeat walk_at "s1"
  cases c1 : Sg49.within c 0 3 with
  | false =>
    rw [if_pos c1] at ha
    exact ⟨false, _, rfl, fun z => by (cases z), fun _ => ha.ref hD (But.refl H)⟩
  | true =>
    rw [if_neg (by rw [c1]; simp)] at ha
    refine ⟨true, _, rfl, fun _ => ?_, fun z => by (cases z)⟩
    obtain ⟨z0, z15⟩ := within_iff.mp c1
    have ce : c = (c.toNat : Nat) := by omega
    repeat walk_at "s1"
    rw [ce]
    refine k_ixL (lstL hd.st.hpi) (atI_natV (by rw [hd.st.wf.i]; omega)) ?_
    repeat walk_at "s1"
    refine k_ixL (lstL hd.st.hpo) (atI_natV (by rw [hd.st.wf.o]; omega)) ?_
    repeat walk_at "s1"
    exact ⟨small, fun q hq => ha.lst hD (But.refl H) hq⟩
def spRest (K : PySem.W.Frag) : Sp := fun vs H Q E => ∃ (dk fo : Addr) (k : Sg49.Desk), vs = [.ref dk] ∧ DeskAt K H dk fo k ∧ (∀ H' p, But [] H H' → H p = none → H' p = some (.lst ((((k.contract.code.length : Nat) : Int) :: k.contract.code).map V.int)) → Q (.ref p) H')
theorem pure_Desk_rest (T : Tx K mg) (vs : List V) (H : Hp) (Q : VK) (E : XK) (h : spRest K vs H Q E) : t_Desk_rest K E { nx := fun _ H' => Q .non H', rt := Q } (start N_Desk_rest vs) H := by
  obtain ⟨dk, fo, k, rfl, hD, ha⟩ := h
  obtain ⟨G, ddk, nb, s, pact, l, hd⟩ := id hD
  obtain ⟨f1, f2⟩ := hd.fd T
  obtain ⟨g1, _⟩ := hd.st.fd T
  obtain ⟨w, tm, pa, ac, il, dx, d, cnt, s0, e0, hp, hse, hel, hcd, _⟩ := hd.pact.core
  obtain ⟨_, _, _, _, _, _, _, _, _, i1, i2⟩ := p_fd T (hd.gs _ _ hp)
  unfold t_Desk_rest
  repeat walk_at "s1"
  unfold tSl tPart
  repeat walk_at "s1"
  refine ⟨_, rfl, ?_⟩
  repeat walk_at "s1"
  refine ⟨_, rfl, nb, _, rfl, lstL hd.hnb, fun c hc => ?_⟩
  have ec : cutV (l.map V.int) (some ((s0 : Nat) : Int)) (some ((e0 : Nat) : Int)) = k.contract.code.map V.int := by
    unfold cutV
    have e1 : HT.sIx (l.map V.int).length 0 (some ((s0 : Nat) : Int)) = s0 := by
      show (if ((s0 : Nat) : Int) < 0 then (((s0 : Nat) : Int) + ((l.map V.int).length : Int)).toNat else min ((s0 : Nat) : Int).toNat (l.map V.int).length) = s0
      rw [if_neg (by omega), List.length_map]; omega
    have e2 : HT.sIx (l.map V.int).length (l.map V.int).length (some ((e0 : Nat) : Int)) = e0 := by
      show (if ((e0 : Nat) : Int) < 0 then (((e0 : Nat) : Int) + ((l.map V.int).length : Int)).toNat else min ((e0 : Nat) : Int).toNat (l.map V.int).length) = e0
      rw [if_neg (by omega), List.length_map]; omega
    rw [e1, e2, ← hcd, List.map_take, List.map_drop]
  rw [ec]
  have B1 : But [] H (upd H c (.lst (k.contract.code.map V.int))) := (But.refl H).newer hc
  have h1 : upd H c (.lst (k.contract.code.map V.int)) c = _ := upd_same
  have sc := lstL (K := K) h1
  generalize upd H c (.lst (k.contract.code.map V.int)) = H1 at B1 h1 sc ⊢
  repeat walk_at "s1"
  refine ⟨small, fun q hq => ?_⟩
  have B2 : But [] H (upd H1 q (.lst [.int ((k.contract.code.map V.int).length : Nat)])) := B1.newer hq
  have h2 : upd H1 q (.lst [.int ((k.contract.code.map V.int).length : Nat)]) q = _ := upd_same
  have h1' : upd H1 q (.lst [.int ((k.contract.code.map V.int).length : Nat)]) c = _ := (upd_ne (ne_of_none h1 hq)).trans h1
  repeat walk_at "s1"
  have cl := hd.pact.code_len
  have ll := hd.len
  refine ⟨q, c, _, _, rfl, rfl, h2, h1', by rw [List.length_map, sizeLine_eq]; show 1 + _ ≤ _; omega, fun r hr => ?_⟩
  refine ha _ r (B2.newer hr) (Same.fresh B2.same hr) ?_
  rw [upd_same, List.length_map]
  rfl
def spTold (K : PySem.W.Frag) : Sp := fun vs H Q E => ∃ (dk fo : Addr) (k : Sg49.Desk), vs = [.ref dk] ∧ DeskAt K H dk fo k ∧ (∀ H' p, But [] H H' → H p = none → H' p = some (.lst (((Sg49.does k .told).2.v :: (Sg49.does k .told).2.l).map V.int)) → Q (.ref p) H')
theorem pure_Desk_told (T : Tx K mg) (vs : List V) (H : Hp) (Q : VK) (E : XK) (h : spTold K vs H Q E) : t_Desk_told K E { nx := fun _ H' => Q .non H', rt := Q } (start N_Desk_told vs) H := by
  obtain ⟨dk, fo, k, rfl, hD, ha⟩ := h
  obtain ⟨G, ddk, nb, s, pact, l, hd⟩ := id hD
  obtain ⟨f1, f2⟩ := hd.fd T
  obtain ⟨g1, g2, _⟩ := hd.st.fd T
  obtain ⟨i1, i2, _⟩ := hd.pact.kid T hd.gs
  obtain ⟨w, fw, ww⟩ := pact_which T hd.pact hd.gs
  unfold t_Desk_told
  repeat walk_at "s1"
  have ew : (Sg49.does k .told).2 = ⟨if w = 0 then 1 else 0, [k.contract.last, k.contract.long, k.state.least]⟩ := by
    show Sg49.Ans.mk (match k.contract with | .close => 1 | _ => 0) _ = _
    congr 1
    by_cases c : w = 0
    · rw [if_pos c, ww.mp c]
    · rw [if_neg c]
      cases q : k.contract with
      | close => exact absurd (ww.mpr q) c
      | _ => rfl
  rw [ew] at ha
  by_cases c : w = 0
  · rw [if_pos c] at ha
    rw [decide_eq_true c]
    refine iteT ?_
    repeat walk_at "s1"
    exact ⟨small, fun q hq => ha _ q ((But.refl H).newer hq) hq upd_same⟩
  · rw [if_neg c] at ha
    rw [decide_eq_false c]
    refine iteF ?_
    repeat walk_at "s1"
    exact ⟨small, fun q hq => ha _ q ((But.refl H).newer hq) hq upd_same⟩
theorem F_Desk_account (T : Tx K mg) : Fok P w K mg base (L2.CX P w) 2 d_Desk_account P_Desk_account (spAccount K) := ok_Desk_account T (F_need T) (fun vs H Q E ⟨_, _, _, _, _, e, _⟩ => by rw [e]; rfl) (pure_Desk_account T)
theorem F_Desk_choice (T : Tx K mg) : Fok P w K mg base (L2.CX P w) 2 d_Desk_choice P_Desk_choice (spChoice K) := ok_Desk_choice T (F_need T) (fun vs H Q E ⟨_, _, _, _, e, _⟩ => by rw [e]; rfl) (pure_Desk_choice T)
theorem F_Desk_slot (T : Tx K mg) : Fok P w K mg base (L2.CX P w) 2 d_Desk_slot P_Desk_slot (spSlot K) := ok_Desk_slot T (F_need T) (fun vs H Q E ⟨_, _, _, _, e, _⟩ => by rw [e]; rfl) (pure_Desk_slot T)
theorem F_Desk_total (T : Tx K mg) : Fok P w K mg base (L2.CX P w) 2 d_Desk_total P_Desk_total (spTotal K) := ok_Desk_total T (F_need T) (fun vs H Q E ⟨_, _, _, _, e, _⟩ => by rw [e]; rfl) (pure_Desk_total T)
theorem F_Desk_rest (T : Tx K mg) : Fok P w K mg base CX0 1 d_Desk_rest P_Desk_rest (spRest K) := ok_Desk_rest T (fun vs H Q E ⟨_, _, _, e, _⟩ => by rw [e]; rfl) (pure_Desk_rest T)
theorem F_Desk_told (T : Tx K mg) : Fok P w K mg base CX0 1 d_Desk_told P_Desk_told (spTold K) := ok_Desk_told T (fun vs H Q E ⟨_, _, _, e, _⟩ => by rw [e]; rfl) (pure_Desk_told T)
theorem F_Desk_run (T : Tx K mg) : Fok P w K mg base (L2.CX P w) 47 d_Desk_run P_Desk_run (spDeskRun K) := ok_Desk_run T (F_need T) (F_Run_go_on T) (F_Run_take T) (F_Run_init T) (F_State_twin T) (F_inputs_of T) (F_is_time T) (fun vs H Q E ⟨_, _, _, _, _, _, _, _, _, _, _, _, _, e, _⟩ => by rw [e]; rfl) (pure_Desk_run T)
end
end SP
set_option maxHeartbeats 2000000
namespace SP
open PySem PySem.Spec PyProof.Rows L2
/-- one step of a reading where nothing is asked -/
local macro_rules | `(tactic| walk_at "s1") => `(tactic| with_reducible first
  | refine k_seq ?_ | refine k_asg ?_ | refine k_if ?_ | refine k_ret ?_ | refine k_set ?_ | refine k_drop ?_ | refine k_next ?_ | refine k_retN ?_
  | refine k_var rfl ?_ | refine k_c ?_ | refine k_fld ?_ | refine k_fldK (by assumption) ?_ | refine k_op ?_ | refine k_plus ?_ | refine k_minus ?_ | refine k_cons ?_ | refine k_nil ?_ | refine k_name ?_
  | refine k_cmp ?_ | refine k_cmpK ?_ | refine k_B ?_ | refine k_blK ?_ | refine k_test ?_ | refine k_meth ?_ | refine k_call ?_ | refine k_CB ?_ | refine k_len (by assumption) ?_
  | refine k_ixT (by assumption) rfl ?_ | refine k_and ?_ | refine k_or ?_ | refine k_not ?_ | refine k_andV ?_ | refine k_orV ?_ | refine k_notV ?_ | refine k_ife ?_ | refine k_chain ?_ | refine k_tup ?_ | refine k_lst ?_
  | refine k_less ?_ | refine k_leq ?_ | refine k_un ?_ | refine k_neg ?_ | refine k_isN ?_ | refine k_notN ?_ | refine k_max ?_ | refine k_min ?_ | refine k_abs ?_ | refine k_bm ?_ | refine k_make ?_ | refine k_app (by assumption) (by assumption) ?_)
section
variable {P : Program} {w : World} {K : PySem.W.Frag} {mg : Str → Option Value} {base : Heap}
local macro_rules | `(tactic| walk_at "s2") => `(tactic| first | walk_at "s1" | refine iteT ?_ | refine iteF ?_)
variable {G H H' : Hp} {dk fo ddk nb : Addr} {s : SA} {pact : Addr} {l : List Int} {k k' : Sg49.Desk} {a : Sg49.Ans} {Q : VK} {E : XK}
/-- a desk with what has been read -/
theorem desk_of {H0 H1 H2 : Hp} {c : Sg49.Contract} {t : Int} (hdk : H2 dk = some (.ins (CD K) ddk (dF (.ref nb) (.ref s.st)))) (h0 : ∃ u, H0 dk = some u ∧ ∀ xs, u ≠ .tup xs) (hnb : H2 nb = some (.lst (l.map V.int))) (len : l.length ≤ 8000) (st : StAt K H2 s pact (Sg49.fresh t)) (t0 : 0 ≤ t) (t1 : t ≤ 1099511627776)
    (hP : PactAt K G l pact c) (gn : ∀ b o, H0 b = some o → (∃ xs, o = .tup xs) ∨ G b = none) (g1 : Same G H1) (g2 : Same G H2) (so : ∀ y ∈ s.own, H1 y = none) (d1 : H1 dk ≠ none) (n1 : H1 nb ≠ none) (h0f : ∃ u, H0 fo = some u ∧ ∀ xs, u ≠ .tup xs) (h2f : ∃ u, H2 fo = some u ∧ ∀ xs, u ≠ .tup xs) (f1 : H1 fo ≠ none) (nf : nb ≠ fo) : DeskAt K H2 dk fo ⟨c, Sg49.fresh t⟩ := by
  refine ⟨G, ddk, nb, s, pact, l, hdk, hnb, len, st, g2, hP, fun y hy => ?_, fun z => d1 (so _ z), fun z => n1 (so _ z), t0, t1, h2f, fun z => f1 (so _ z), nf⟩
  rcases List.mem_cons.mp hy with rfl | hy
  · obtain ⟨u, e, hu⟩ := h0
    rcases gn _ _ e with ⟨xs, z⟩ | z
    · exact absurd z (hu xs)
    · exact z
  rcases List.mem_cons.mp hy with rfl | hy
  · obtain ⟨u, e, hu⟩ := h0f
    rcases gn _ _ e with ⟨xs, z⟩ | z
    · exact absurd z (hu xs)
    · exact z
  · exact Same.fresh g1 (so y hy)
theorem read_len {c : Sg49.Contract} (h : Sg49.read l = some c) : l.length ≤ 8000 := by
  by_cases q : 8000 < l.length
  · rw [read_long q] at h; cases h
  · omega
def spBegin (K : PySem.W.Frag) : Sp := fun vs H Q E => ∃ (dk fo : Addr) (k : Sg49.Desk) (t : Int) (ro : Addr) (row : List Int), vs = [.ref dk, .int t, .ref ro] ∧ DeskAt K H dk fo k ∧ H ro = some (.lst (row.map V.int)) ∧ ro ≠ fo ∧ AnsK K H dk fo (Sg49.does k (.open_ t row)).1 (Sg49.does k (.open_ t row)).2 Q E
theorem does_open {t : Int} {row : List Int} : Sg49.does k (.open_ t row) = if Sg49.time t = false then (k, Sg49.only (-2)) else match Sg49.read row with
    | none => (k, Sg49.only (-2))
    | some c => (⟨c, Sg49.fresh t⟩, ⟨0, [c.last, c.long]⟩) := rfl
theorem pure_Desk_begin (T : Tx K mg) (vs : List V) (H : Hp) (Q : VK) (E : XK) (h : spBegin K vs H Q E) : t_Desk_begin K E (spStateInit K) (spPactOf K) (spNeed K) spIsTime { nx := fun _ H' => Q .non H', rt := Q } (start N_Desk_begin vs) H := by
  obtain ⟨dk, fo, k, t, ro, row, rfl, hD, hro, rfo, ha⟩ := h
  obtain ⟨G0, ddk, nb, s0, pact0, l0, hd⟩ := id hD
  rw [does_open] at ha
  unfold t_Desk_begin
  repeat walk_at "s1"
  refine ⟨t, rfl, ?_⟩
  cases t1 : Sg49.time t with
  | false =>
    rw [if_pos t1] at ha
    exact ⟨false, _, rfl, fun z => by (cases z), fun _ => ha.ref hD (But.refl H)⟩
  | true =>
    rw [if_neg (by rw [t1]; simp)] at ha
    refine ⟨true, _, rfl, fun _ => ?_, fun z => by (cases z)⟩
    have tI := time_in t1
    repeat walk_at "s1"
    refine ⟨_, rfl, ?_⟩
    refine ⟨ro, row, rfl, lstL hro, fun e H1 S1 => ?_, fun c e H1 p G S1 g1 gn hP => ?_⟩
    · refine ⟨true, T.x_NotThat_NotThat, fun _ _ _ => ?_, fun z => by cases z⟩
      rw [e] at ha
      exact ⟨_, rfl, fun x hx => ha.ref hD (Same.but S1) x hx⟩
    rw [e] at ha
    refine k_name ?_
    have hdk1 := S1 _ _ hd.hdk
    have hro1 := S1 _ _ hro
    repeat walk_at "s1"
    refine k_setK (fs' := dF (.ref ro) (.ref s0.st)) hdk1 T.c_Desk T.n_Desk_numbers rfl ?_
    have b2 : But [dk] H (upd H1 dk (.ins (CD K) ddk (dF (.ref ro) (.ref s0.st)))) := (Same.but S1).put (by simp)
    have B2 : But [dk] H1 (upd H1 dk (.ins (CD K) ddk (dF (.ref ro) (.ref s0.st)))) := (But.refl H1).put (by simp)
    have hdk2 : upd H1 dk (.ins (CD K) ddk (dF (.ref ro) (.ref s0.st))) dk = _ := upd_same
    have lo1 : ∀ {y : Addr}, upd H1 dk (.ins (CD K) ddk (dF (.ref ro) (.ref s0.st))) y = none → H1 y = none := fun {y} e => by
      rw [upd_ne (fun z => by rw [z, upd_same] at e; cases e)] at e; exact e
    generalize upd H1 dk (.ins (CD K) ddk (dF (.ref ro) (.ref s0.st))) = H2 at b2 B2 hdk2 lo1 ⊢
    have gdk : G dk = none := by
      rcases gn _ _ hd.hdk with ⟨xs, z⟩ | z
      · cases z
      · exact z
    repeat walk_at "s1"
    intro x dx hx hdx dxx
    refine ⟨x, dx, p, t, rfl, upd_same, fun H3 s' e1 e2 b3 hs3 own3 => ⟨rfl, ?_⟩⟩
    have B3 : But [] H2 H3 := b3.born hx hdx
    have xd : x ≠ dk := fun z => by rw [z, hdk2] at hx; cases hx
    have own2 : ∀ y ∈ s'.own, H2 y = none := fun y hy => by
      rcases own3 y hy with rfl | e
      · exact hx
      · have y1 : y ≠ x := fun z => by rw [z, upd_same] at e; cases e
        rw [upd_ne y1] at e
        rw [upd_ne (fun z => by rw [z, upd_same] at e; cases e)] at e
        exact e
    have hdk3 := B3 _ _ hdk2 (by simp)
    rw [← e1]
    repeat walk_at "s1"
    refine k_setK (fs' := dF (.ref ro) (.ref s'.st)) hdk3 T.c_Desk T.n_Desk_state rfl ?_
    have rodk : ro ≠ dk := fun z => by rw [z, hd.hdk] at hro; cases hro
    have dkn : dk ∉ s'.own := fun z => by rw [own2 dk z] at hdk2; cases hdk2
    have b4 : But [dk] H (upd H3 dk (.ins (CD K) ddk (dF (.ref ro) (.ref s'.st)))) := (b2.trans (B3.mono (by simp))).put (by simp)
    have g4 : Same G (upd H3 dk (.ins (CD K) ddk (dF (.ref ro) (.ref s'.st)))) := fun y o e => by
      rw [upd_ne (fun z => by rw [z, gdk] at e; cases e)]
      exact B3 _ _ (B2 _ _ (g1 _ _ e) (by simp; exact fun z => by rw [z, gdk] at e; cases e)) (by simp)
    have hro4 : upd H3 dk (.ins (CD K) ddk (dF (.ref ro) (.ref s'.st))) ro = some (.lst (row.map V.int)) := (upd_ne rodk).trans (B3 _ _ (B2 _ _ hro1 (by simp; exact rodk)) (by simp))
    have hs4 : StAt K (upd H3 dk (.ins (CD K) ddk (dF (.ref ro) (.ref s'.st)))) s' p (Sg49.fresh t) := hs3.keep fun y hy => upd_ne (fun z => dkn (by rw [← z]; exact hy))
    have hdk4 : upd H3 dk (.ins (CD K) ddk (dF (.ref ro) (.ref s'.st))) dk = _ := upd_same
    generalize upd H3 dk (.ins (CD K) ddk (dF (.ref ro) (.ref s'.st))) = H4 at b4 g4 hro4 hs4 hdk4 ⊢
    obtain ⟨i1, i2, _⟩ := hP.kid T g4
    have D4 : DeskAt K H4 dk fo ⟨c, Sg49.fresh t⟩ := desk_of hdk4 ⟨_, hd.hdk, fun xs z => by cases z⟩ hro4 (read_len e) hs4 tI.1 tI.2 hP gn g1 g4 (fun y hy => lo1 (own2 y hy)) (by rw [hdk1]; simp) (by rw [hro1]; simp) hd.hfo (by
      obtain ⟨o, e, n⟩ := hd.hfo
      by_cases c : fo = dk
      · exact ⟨_, by rw [c]; exact hdk4, fun xs z => by cases z⟩
      · exact ⟨o, b4 _ _ e (by simp; exact c), n⟩) (by
      obtain ⟨o, e, n⟩ := hd.hfo
      rw [S1 _ _ e]; simp) rfo
    repeat walk_at "s1"
    refine ⟨small, fun q hq => ?_⟩
    have qdk : q ≠ dk := fun z => by rw [z, hdk4] at hq; cases hq
    exact ha.ok _ q (b4.newer hq) (D4.new ((But.refl H4).newer hq)) (b4.free hq (by simp; exact qdk)) upd_same
def spDeskInit (K : PySem.W.Frag) : Sp := fun vs H Q _ => ∃ (dk ddk : Addr), vs = [.ref dk] ∧ H dk = some (.ins (CD K) ddk []) ∧ (∀ H', But [dk] H H' → DeskAt K H' dk dk Sg49.desk → Q .non H')
theorem read_0 : Sg49.read [0] = some .close := by
  have e : Sg49.contract 400 [0] = some (.close, []) := by
    show Sg49.contract (399 + 1) [0] = _
    rw [Sg49.contract]; rfl
  rw [read_of (by decide) e, if_pos rfl]
theorem pure_Desk_init (T : Tx K mg) (vs : List V) (H : Hp) (Q : VK) (E : XK) (h : spDeskInit K vs H Q E) : t_Desk_init K E (spStateInit K) (spPactOf K) { nx := fun _ H' => Q .non H', rt := Q } (start N_Desk_init vs) H := by
  obtain ⟨dk, ddk, rfl, hdk, q⟩ := h
  unfold t_Desk_init
  repeat walk_at "s1"
  refine ⟨small, fun ro hro => ?_⟩
  have rodk : ro ≠ dk := fun z => by rw [z, hdk] at hro; cases hro
  repeat walk_at "s1"
  refine k_setK (fs' := [("numbers", .ref ro)]) ((upd_ne (Ne.symm rodk)).trans hdk) T.c_Desk T.n_Desk_numbers rfl ?_
  have b1 : But [dk] H (upd (upd H ro (.lst [.int 0])) dk (.ins (CD K) ddk [("numbers", .ref ro)])) := ((But.refl H).newer hro).put (by simp)
  have h1 : upd (upd H ro (.lst [.int 0])) dk (.ins (CD K) ddk [("numbers", .ref ro)]) dk = _ := upd_same
  have r1 : upd (upd H ro (.lst [.int 0])) dk (.ins (CD K) ddk [("numbers", .ref ro)]) ro = some (.lst ([(0 : Int)].map V.int)) := (upd_ne rodk).trans upd_same
  generalize upd (upd H ro (.lst [.int 0])) dk (.ins (CD K) ddk [("numbers", .ref ro)]) = H1 at b1 h1 r1 ⊢
  have f1 : Fd K H1 dk "numbers" (.ref ro) := ⟨_, _, _, h1, T.c_Desk, T.n_Desk_numbers, rfl⟩
  repeat walk_at "s1"
  refine ⟨ro, [0], rfl, lstL r1, fun e => ?_, fun c e H2 p G S2 g2 gn hP => ?_⟩
  · rw [read_0] at e; cases e
  rw [read_0] at e
  cases e
  have h2 := S2 _ _ h1
  have r2 := S2 _ _ r1
  have gdk : G dk = none := by
    rcases gn _ _ h1 with ⟨xs, z⟩ | z
    · cases z
    · exact z
  repeat walk_at "s1"
  intro x dx hx hdx dxx
  refine ⟨x, dx, p, 0, rfl, upd_same, fun H3 s' e1 e2 b3 hs3 own3 => ⟨rfl, ?_⟩⟩
  have B3 : But [] H2 H3 := b3.born hx hdx
  have own2 : ∀ y ∈ s'.own, H2 y = none := fun y hy => by
    rcases own3 y hy with rfl | e
    · exact hx
    · have y1 : y ≠ x := fun z => by rw [z, upd_same] at e; cases e
      rw [upd_ne y1] at e
      rw [upd_ne (fun z => by rw [z, upd_same] at e; cases e)] at e
      exact e
  have hdk3 := B3 _ _ h2 (by simp)
  rw [← e1]
  repeat walk_at "s1"
  refine k_setK (fs' := dF (.ref ro) (.ref s'.st)) hdk3 T.c_Desk T.n_Desk_state rfl ?_
  have dkn : dk ∉ s'.own := fun z => by rw [own2 dk z] at h2; cases h2
  have b4 : But [dk] H (upd H3 dk (.ins (CD K) ddk (dF (.ref ro) (.ref s'.st)))) := ((b1.trans (Same.but S2)).trans (B3.mono (by simp))).put (by simp)
  have g4 : Same G (upd H3 dk (.ins (CD K) ddk (dF (.ref ro) (.ref s'.st)))) := fun y o e => by
    rw [upd_ne (fun z => by rw [z, gdk] at e; cases e)]
    exact B3 _ _ (g2 _ _ e) (by simp)
  have hro4 : upd H3 dk (.ins (CD K) ddk (dF (.ref ro) (.ref s'.st))) ro = some (.lst ([(0 : Int)].map V.int)) := (upd_ne rodk).trans (B3 _ _ r2 (by simp))
  have hs4 : StAt K (upd H3 dk (.ins (CD K) ddk (dF (.ref ro) (.ref s'.st)))) s' p (Sg49.fresh 0) := hs3.keep fun y hy => upd_ne (fun z => dkn (by rw [← z]; exact hy))
  exact q _ b4 (desk_of upd_same ⟨_, h1, fun xs z => by cases z⟩ hro4 (by decide) hs4 (by omega) (by omega) hP gn g2 g4 own2 (by rw [h2]; simp) (by rw [r2]; simp) ⟨_, h1, fun xs z => by cases z⟩ ⟨_, upd_same, fun xs z => by cases z⟩ (by rw [h2]; simp) rodk)
def spTransact (K : PySem.W.Frag) : Sp := fun vs H Q E => ∃ (dk fo : Addr) (k : Sg49.Desk) (st en : Int) (ro : Addr) (row : List Int), vs = [.ref dk, .int st, .int en, .ref ro] ∧ DeskAt K H dk fo k ∧ SqL K H ro (row.map V.int) ∧ row.length < 16777216 ∧ AnsK K H dk fo (Sg49.does k (.transact st en row)).1 (Sg49.does k (.transact st en row)).2 Q E
theorem does_run {st en : Int} {row : List Int} : (Sg49.does k (.transact st en row) = match runS k st en row with
    | .error x => (k, Sg49.only x)
    | .ok y => (⟨y.1, y.2.state⟩, y.2.told)) ∧ (Sg49.does k (.try_ st en row) = match runS k st en row with
    | .error x => (k, Sg49.only x)
    | .ok y => (k, y.2.told)) := by
  have e : ∀ f : Sg49.Contract × Sg49.Done → Sg49.Desk × Sg49.Ans, (if Sg49.time st = false ∨ Sg49.time en = false then (k, Sg49.only Sg49.BAD) else match Sg49.inputsOf (Sg49.INPUTS + 1) row with
      | none => (k, Sg49.only Sg49.BAD)
      | some i => match Sg49.transact k.contract k.state st en i with
        | .error x => (k, Sg49.only x)
        | .ok y => f y) = match runS k st en row with
    | .error x => (k, Sg49.only x)
    | .ok y => f y := fun f => by
    unfold runS
    by_cases c : Sg49.time st = false ∨ Sg49.time en = false
    · rw [if_pos c, if_pos c]; rfl
    · rw [if_neg c, if_neg c]
      show (match Sg49.inputsOf 101 row with
        | none => (k, Sg49.only Sg49.BAD)
        | some i => match Sg49.transact k.contract k.state st en i with
          | .error x => (k, Sg49.only x)
          | .ok y => f y) = _
      cases Sg49.inputsOf 101 row with
      | none => rfl
      | some i => rfl
  exact ⟨e fun y => (⟨y.1, y.2.state⟩, y.2.told), e fun y => (k, y.2.told)⟩
theorem pure_Desk_transact (T : Tx K mg) (vs : List V) (H : Hp) (Q : VK) (E : XK) (h : spTransact K vs H Q E) : t_Desk_transact K E (spAllTold K) (spDeskRun K) { nx := fun _ H' => Q .non H', rt := Q } (start N_Desk_transact vs) H := by
  obtain ⟨dk, fo, k, st, en, ro, row, rfl, hD, hro, hrow, ha⟩ := h
  obtain ⟨G, ddk, nb, s, pact, l, hd⟩ := id hD
  rw [does_run.1] at ha
  unfold t_Desk_transact
  repeat walk_at "s1"
  refine k_methK hd.hdk rfl ?_
  repeat walk_at "s1"
  refine ⟨G, dk, fo, ddk, nb, s, pact, l, k, st, en, ro, row, rfl, hd, hro, hrow, fun z e H1 x b hx => ?_, fun c d e G1 H1 r pact1 ev ps ws sg b hr hP own rdk hps hws t0 t1 => ?_⟩
  · rw [e] at ha
    exact ha.no rfl H1 x (b.mono (by simp)) (hD.new b) hx
  · rw [e] at ha
    have d1 := hd.new b
    obtain ⟨f1, _⟩ := hr.fd T
    repeat walk_at "s1"
    refine k_setK (fs' := dF (.ref nb) (.ref r.s.st)) d1.hdk T.c_Desk T.n_Desk_state rfl ?_
    have gdk : G1 dk = none := hr.odk dk (by rw [rdk]; simp)
    have gfo : G1 fo = none := hr.odk fo (by rw [rdk]; simp)
    have dkn : dk ∉ r.own := hr.ndk dk (by rw [rdk]; simp)
    have fon : fo ∉ r.own := hr.ndk fo (by rw [rdk]; simp)
    have nbd : nb ≠ dk := fun z => by have := hd.hnb; rw [z, hd.hdk] at this; cases this
    have b2 : But [dk] H (upd H1 dk (.ins (CD K) ddk (dF (.ref nb) (.ref r.s.st)))) := (b.mono (by simp)).put (by simp)
    have hr2 : RunIn K G1 (upd H1 dk (.ins (CD K) ddk (dF (.ref nb) (.ref r.s.st)))) r pact1 d ev ps ws := by
      have hk : ∀ y ∈ r.own, upd H1 dk (.ins (CD K) ddk (dF (.ref nb) (.ref r.s.st))) y = H1 y := fun y hy => upd_ne (fun z => dkn (by rw [← z]; exact hy))
      have g2 : Same G1 (upd H1 dk (.ins (CD K) ddk (dF (.ref nb) (.ref r.s.st)))) := Same.out hr.gs gdk
      exact ⟨g2, hr.out, hr.nd, (hk _ (by simp [RA.own])).trans hr.hru, hr.st.keep fun y hy => hk y (by simp [RA.own, hy]), hr.env, (hk _ (by simp [RA.own])).trans hr.hpl, hr.pays, (hk _ (by simp [RA.own])).trans hr.hwl, hr.warns, (fun y hy => by
        by_cases c : y = dk
        · exact ⟨_, by rw [c]; exact upd_same, fun xs z => by cases z⟩
        · obtain ⟨o, e, n⟩ := hr.hdk y hy
          exact ⟨o, (upd_ne c).trans e, n⟩), hr.odk, hr.ndk⟩
    have D2 : DeskAt K (upd H1 dk (.ins (CD K) ddk (dF (.ref nb) (.ref r.s.st)))) dk fo ⟨c, d.state⟩ :=
      ⟨G1, ddk, nb, r.s, pact1, l, upd_same, (upd_ne nbd).trans d1.hnb, hd.len, hr2.st, hr2.gs, hP, fun y hy => by
        rcases List.mem_cons.mp hy with rfl | hy
        · exact gdk
        rcases List.mem_cons.mp hy with rfl | hy
        · exact gfo
        · exact hr.out y (by simp [RA.own, hy]), fun z => dkn (by simp [RA.own, z]), (fun z => by have := own nb (by simp [RA.own, z]); rw [hd.hnb] at this; cases this), t0, t1, hr2.hdk fo (by rw [rdk]; simp), fun z => fon (by simp [RA.own, z]), hd.fnb⟩
    have hdk2 : upd H1 dk (.ins (CD K) ddk (dF (.ref nb) (.ref r.s.st))) dk = _ := upd_same
    generalize upd H1 dk (.ins (CD K) ddk (dF (.ref nb) (.ref r.s.st))) = H2 at b2 hr2 D2 hdk2 ⊢
    repeat walk_at "s1"
    refine k_methK hr2.hru rfl ?_
    repeat walk_at "s1"
    refine ⟨G1, r, pact1, d, ev, ps, ws, rfl, hr2, hps, hws, fun p H3 hp b3 hl => ?_⟩
    have pdk : p ≠ dk := fun z => by rw [z, hdk2] at hp; cases hp
    exact ha.ok H3 p (b2.trans (b3.mono (by simp))) (D2.new b3) (b2.free hp (by simp; exact pdk)) hl
theorem F_Desk_begin (T : Tx K mg) : Fok P w K mg base (L2.CX P w) 50 d_Desk_begin P_Desk_begin (spBegin K) := ok_Desk_begin T (F_State_init T) (F_pact_of T) (F_need T) (F_is_time T) (fun vs H Q E ⟨_, _, _, _, _, _, e, _⟩ => by rw [e]; rfl) (pure_Desk_begin T)
theorem F_Desk_init (T : Tx K mg) : Fok P w K mg base CX0 50 d_Desk_init P_Desk_init (spDeskInit K) := ok_Desk_init T (F_State_init T) (F_pact_of T) (fun vs H Q E ⟨_, _, e, _⟩ => by rw [e]; rfl) (pure_Desk_init T)
theorem F_Desk_transact (T : Tx K mg) : Fok P w K mg base (L2.CX P w) 48 d_Desk_transact P_Desk_transact (spTransact K) := ok_Desk_transact T (F_Run_all_told T) (F_Desk_run T) (fun vs H Q E ⟨_, _, _, _, _, _, _, e, _⟩ => by rw [e]; rfl) (pure_Desk_transact T)
end
end SP
set_option maxHeartbeats 2000000
namespace SP
open PySem PySem.Spec PyProof.Rows L2
/-- one step of a reading where nothing is asked -/
local macro_rules | `(tactic| walk_at "s1") => `(tactic| with_reducible first
  | refine k_seq ?_ | refine k_asg ?_ | refine k_if ?_ | refine k_ret ?_ | refine k_set ?_ | refine k_drop ?_ | refine k_next ?_ | refine k_retN ?_
  | refine k_var rfl ?_ | refine k_c ?_ | refine k_fld ?_ | refine k_fldK (by assumption) ?_ | refine k_op ?_ | refine k_plus ?_ | refine k_minus ?_ | refine k_cons ?_ | refine k_nil ?_ | refine k_name ?_
  | refine k_cmp ?_ | refine k_cmpK ?_ | refine k_B ?_ | refine k_blK ?_ | refine k_test ?_ | refine k_meth ?_ | refine k_call ?_ | refine k_CB ?_ | refine k_len (by assumption) ?_
  | refine k_ixT (by assumption) rfl ?_ | refine k_and ?_ | refine k_or ?_ | refine k_not ?_ | refine k_andV ?_ | refine k_orV ?_ | refine k_notV ?_ | refine k_ife ?_ | refine k_chain ?_ | refine k_tup ?_ | refine k_lst ?_
  | refine k_less ?_ | refine k_leq ?_ | refine k_un ?_ | refine k_neg ?_ | refine k_isN ?_ | refine k_notN ?_ | refine k_max ?_ | refine k_min ?_ | refine k_abs ?_ | refine k_bm ?_ | refine k_make ?_ | refine k_app (by assumption) (by assumption) ?_)
section
variable {P : Program} {w : World} {K : PySem.W.Frag} {mg : Str → Option Value} {base : Heap}
local macro_rules | `(tactic| walk_at "s2") => `(tactic| first | walk_at "s1" | refine iteT ?_ | refine iteF ?_)
variable {G H H' : Hp} {dk fo ddk nb : Addr} {s : SA} {pact : Addr} {l : List Int} {k k' : Sg49.Desk} {a : Sg49.Ans} {Q : VK} {E : XK}
/-- a call by its numbers -/
def CallIs (call : Int) (ns row : List Int) : Sg49.Call → Prop
  | .open_ t l => call = 1 ∧ ns = [t] ∧ row = l
  | .transact s e l => call = 2 ∧ ns = [s, e] ∧ row = l
  | .try_ s e l => call = 3 ∧ ns = [s, e] ∧ row = l
  | .account a t => call = 4 ∧ ns = [a, t]
  | .choice c => call = 5 ∧ ns = [c]
  | .slot c => call = 6 ∧ ns = [c]
  | .rest => call = 7
  | .told => call = 8
  | .total t => call = 9 ∧ ns = [t]
def spRespond (K : PySem.W.Frag) : Sp := fun vs H Q E => ∃ (dk fo : Addr) (k : Sg49.Desk) (call : Int) (nl : Addr) (ns : List Int) (ro : Addr) (row : List Int) (x : Sg49.Call), vs = [.ref dk, .int call, .ref nl, .ref ro] ∧ DeskAt K H dk fo k ∧ H nl = some (.lst (ns.map V.int)) ∧ H ro = some (.lst (row.map V.int)) ∧ row.length < 16777216 ∧ ro ≠ fo ∧ CallIs call ns row x ∧
  AnsK K H dk fo (Sg49.does k x).1 (Sg49.does k x).2 Q E
theorem pure_Desk_respond (T : Tx K mg) (vs : List V) (H : Hp) (Q : VK) (E : XK) (h : spRespond K vs H Q E) : t_Desk_respond K E (spTold K) (spTotal K) (spRest K) (spSlot K) (spChoice K) (spAccount K) (spDeskRun K) (spAllTold K) (spTransact K) (spBegin K) { nx := fun _ H' => Q .non H', rt := Q } (start N_Desk_respond vs) H := by
  obtain ⟨dk, fo, k, call, nl, ns, ro, row, x, rfl, hD, hns, hro, hlen, rfo, hc, ha⟩ := h
  obtain ⟨G, ddk, nb, s, pact, l, hd⟩ := id hD
  have hnl := lstL (K := K) hns
  unfold t_Desk_respond
  cases x with
  | open_ t l =>
    obtain ⟨rfl, rfl, rfl⟩ := hc
    repeat walk_at "s2"
    refine k_methK hd.hdk rfl ?_
    repeat walk_at "s1"
    refine k_ixL hnl rfl ?_
    repeat walk_at "s1"
    exact ⟨dk, fo, k, t, ro, row, rfl, hD, hro, rfo, ha⟩
  | transact st en l =>
    obtain ⟨rfl, rfl, rfl⟩ := hc
    repeat walk_at "s2"
    refine k_methK hd.hdk rfl ?_
    repeat walk_at "s1"
    refine k_ixL hnl rfl ?_
    repeat walk_at "s1"
    refine k_ixL hnl rfl ?_
    repeat walk_at "s1"
    exact ⟨dk, fo, k, st, en, ro, row, rfl, hD, lstL hro, hlen, ha⟩
  | try_ st en l =>
    obtain ⟨rfl, rfl, rfl⟩ := hc
    rw [does_run.2] at ha
    repeat walk_at "s2"
    refine k_methK hd.hdk rfl ?_
    repeat walk_at "s1"
    refine k_ixL hnl rfl ?_
    repeat walk_at "s1"
    refine k_ixL hnl rfl ?_
    repeat walk_at "s1"
    refine ⟨G, dk, fo, ddk, nb, s, pact, _, k, st, en, ro, row, rfl, hd, lstL hro, hlen, fun z e H1 x b hx => ?_, fun c d e G1 H1 r pact1 ev ps ws sg b hr hP own rdk hps hws t0 t1 => ?_⟩
    · rw [e] at ha
      exact ha.no rfl H1 x (b.mono (by simp)) (hD.new b) hx
    · rw [e] at ha
      refine k_methK hr.hru rfl ?_
      repeat walk_at "s1"
      refine ⟨G1, r, pact1, d, ev, ps, ws, rfl, hr, hps, hws, fun p H3 hp b3 hl => ?_⟩
      exact ha.ok H3 p ((b.trans b3).mono (by simp)) (hD.new (b.trans b3)) (Same.fresh b.same hp) hl
  | account a t =>
    obtain ⟨rfl, rfl⟩ := hc
    repeat walk_at "s2"
    refine k_methK hd.hdk rfl ?_
    repeat walk_at "s1"
    refine k_ixL hnl rfl ?_
    repeat walk_at "s1"
    refine k_ixL hnl rfl ?_
    repeat walk_at "s1"
    exact ⟨dk, fo, k, a, t, rfl, hD, ha⟩
  | choice c =>
    obtain ⟨rfl, rfl⟩ := hc
    repeat walk_at "s2"
    refine k_methK hd.hdk rfl ?_
    repeat walk_at "s1"
    refine k_ixL hnl rfl ?_
    repeat walk_at "s1"
    exact ⟨dk, fo, k, c, rfl, hD, ha⟩
  | slot c =>
    obtain ⟨rfl, rfl⟩ := hc
    repeat walk_at "s2"
    refine k_methK hd.hdk rfl ?_
    repeat walk_at "s1"
    refine k_ixL hnl rfl ?_
    repeat walk_at "s1"
    exact ⟨dk, fo, k, c, rfl, hD, ha⟩
  | rest =>
    obtain rfl := hc
    repeat walk_at "s2"
    refine k_methK hd.hdk rfl ?_
    repeat walk_at "s1"
    exact ⟨dk, fo, k, rfl, hD, fun H1 p b hp hl => ha.ok H1 p (b.mono (by simp)) (hD.new b) hp hl⟩
  | told =>
    obtain rfl := hc
    repeat walk_at "s2"
    refine k_methK hd.hdk rfl ?_
    repeat walk_at "s1"
    exact ⟨dk, fo, k, rfl, hD, fun H1 p b hp hl => ha.ok H1 p (b.mono (by simp)) (hD.new b) hp hl⟩
  | total t =>
    obtain ⟨rfl, rfl⟩ := hc
    repeat walk_at "s2"
    refine k_methK hd.hdk rfl ?_
    repeat walk_at "s1"
    refine k_ixL hnl rfl ?_
    repeat walk_at "s1"
    exact ⟨dk, fo, k, t, rfl, hD, ha⟩
theorem F_Desk_respond (T : Tx K mg) : Fok P w K mg base (L2.CX P w) 51 d_Desk_respond P_Desk_respond (spRespond K) := ok_Desk_respond T (F_Desk_told T) (F_Desk_total T) (F_Desk_rest T) (F_Desk_slot T) (F_Desk_choice T) (F_Desk_account T) (F_Desk_run T) (F_Run_all_told T) (F_Desk_transact T) (F_Desk_begin T) (fun vs H Q E ⟨_, _, _, _, _, _, _, _, _, e, _⟩ => by rw [e]; rfl) (pure_Desk_respond T)
end
end SP
set_option maxHeartbeats 2000000
namespace SP
open PySem PySem.Spec PyProof.Rows L2
/-- one step of a reading where nothing is asked -/
local macro_rules | `(tactic| walk_at "s1") => `(tactic| with_reducible first
  | refine k_seq ?_ | refine k_asg ?_ | refine k_if ?_ | refine k_ret ?_ | refine k_set ?_ | refine k_drop ?_ | refine k_next ?_ | refine k_retN ?_
  | refine k_var rfl ?_ | refine k_c ?_ | refine k_fld ?_ | refine k_fldK (by assumption) ?_ | refine k_op ?_ | refine k_plus ?_ | refine k_minus ?_ | refine k_cons ?_ | refine k_nil ?_ | refine k_name ?_
  | refine k_cmp ?_ | refine k_cmpK ?_ | refine k_B ?_ | refine k_blK ?_ | refine k_test ?_ | refine k_meth ?_ | refine k_call ?_ | refine k_CB ?_ | refine k_len (by assumption) ?_
  | refine k_ixT (by assumption) rfl ?_ | refine k_and ?_ | refine k_or ?_ | refine k_not ?_ | refine k_andV ?_ | refine k_orV ?_ | refine k_notV ?_ | refine k_ife ?_ | refine k_chain ?_ | refine k_tup ?_ | refine k_lst ?_
  | refine k_less ?_ | refine k_leq ?_ | refine k_un ?_ | refine k_neg ?_ | refine k_isN ?_ | refine k_notN ?_ | refine k_max ?_ | refine k_min ?_ | refine k_abs ?_ | refine k_bm ?_ | refine k_make ?_ | refine k_app (by assumption) (by assumption) ?_)
/-! ### the calls, one after another -/
section
variable {P : Program} {w : World} {K : PySem.W.Frag} {mg : Str → Option Value} {base : Heap}
local macro_rules | `(tactic| walk_at "s2") => `(tactic| first | walk_at "s1" | refine iteT ?_ | refine iteF ?_)
variable {G H H' : Hp} {dk fo ddk nb : Addr} {s : SA} {pact : Addr} {l : List Int} {k k' : Sg49.Desk} {a : Sg49.Ans} {Q : VK} {E : XK}
theorem whole_id (c : List (List Int)) : PySg49.whole c = c := by
  unfold PySg49.whole
  split <;> rfl
theorem whole_map (cs : List (List (List Int))) : cs.map PySg49.whole = cs := by
  have : (PySg49.whole : List (List Int) → List (List Int)) = id := funext whole_id
  rw [this, List.map_id]
/-- a call with a row behind it -/
def rowed (p : Int) : Bool := L2.inV (.int p) [.int 1, .int 2, .int 3]
theorem take1 {r : List Int} (h : 1 ≤ r.length) : ∃ x, r.take 1 = [x] := by
  match r, h with
  | x :: r, _ => exact ⟨x, rfl⟩
theorem take2 {r : List Int} (h : 2 ≤ r.length) : ∃ x y, r.take 2 = [x, y] := by
  match r, h with
  | x :: y :: r, _ => exact ⟨x, y, rfl⟩
theorem row1 {q : List Int} {xs : List (List Int)} {t : List Int} (h : PyFlat.rows 1 q = some (xs, t)) : ∃ m r', q = m :: r' ∧ 0 ≤ m ∧ m.toNat ≤ r'.length ∧ xs = [r'.take m.toNat] ∧ t = r'.drop m.toNat := by
  cases q with
  | nil => cases h
  | cons m r' =>
    by_cases c : 0 ≤ m ∧ m.toNat ≤ r'.length
    · have e : PyFlat.row (m :: r') = some (r'.take m.toNat, r'.drop m.toNat) := if_pos c
      unfold PyFlat.rows at h
      rw [e] at h
      cases h
      exact ⟨m, r', rfl, c.1, c.2, rfl, rfl⟩
    · have e : PyFlat.row (m :: r') = none := if_neg c
      unfold PyFlat.rows at h
      rw [e] at h
      cases h
theorem call_inv {p : Int} {r t : List Int} {c : List (List Int)} (h : PyFlat.call PySg49.shape (p :: r) = some (c, t)) : ∃ (n : Nat) (row : List Int) (x : Sg49.Call), List.lookup p counts = some (n : Int) ∧ n ≤ r.length ∧ Sg49Neutral.callOf c = some x ∧ CallIs p (r.take n) row x ∧
    ((rowed p = true ∧ c = [p :: r.take n, row] ∧ ∃ m r', r.drop n = m :: r' ∧ 0 ≤ m ∧ m.toNat ≤ r'.length ∧ row = r'.take m.toNat ∧ t = r'.drop m.toNat) ∨ (rowed p = false ∧ row = [] ∧ t = r.drop n)) := by
  have go : ∀ n kk, PySg49.shape p = some (n, kk) → n ≤ r.length ∧ ∃ xs, PyFlat.rows kk (r.drop n) = some (xs, t) ∧ c = (p :: r.take n) :: xs := fun n kk e => by
    unfold PyFlat.call at h
    dsimp only at h
    rw [e] at h
    dsimp only at h
    by_cases q : r.length < n
    · rw [if_pos q] at h; cases h
    · rw [if_neg q] at h
      refine ⟨by omega, ?_⟩
      cases e2 : PyFlat.rows kk (r.drop n) with
      | none => rw [e2] at h; cases h
      | some z => rw [e2] at h; cases h; exact ⟨_, rfl, rfl⟩
  have hp : p = 1 ∨ p = 2 ∨ p = 3 ∨ p = 4 ∨ p = 5 ∨ p = 6 ∨ p = 7 ∨ p = 8 ∨ p = 9 := by
    cases e : PySg49.shape p with
    | none => unfold PyFlat.call at h; dsimp only at h; rw [e] at h; cases h
    | some z =>
      unfold PySg49.shape at e
      by_cases q1 : p = 1
      · exact .inl q1
      by_cases q2 : p = 2
      · exact .inr (.inl q2)
      by_cases q3 : p = 3
      · exact .inr (.inr (.inl q3))
      by_cases q4 : p = 4
      · exact .inr (.inr (.inr (.inl q4)))
      by_cases q5 : p = 5
      · exact .inr (.inr (.inr (.inr (.inl q5))))
      by_cases q6 : p = 6
      · exact .inr (.inr (.inr (.inr (.inr (.inl q6)))))
      by_cases q7 : p = 7
      · exact .inr (.inr (.inr (.inr (.inr (.inr (.inl q7))))))
      by_cases q8 : p = 8
      · exact .inr (.inr (.inr (.inr (.inr (.inr (.inr (.inl q8)))))))
      by_cases q9 : p = 9
      · exact .inr (.inr (.inr (.inr (.inr (.inr (.inr (.inr q9)))))))
      rw [if_neg q1, if_neg q2, if_neg q3, if_neg q4, if_neg q5, if_neg q6, if_neg q7, if_neg q8, if_neg q9] at e
      cases e
  rcases hp with rfl | rfl | rfl | rfl | rfl | rfl | rfl | rfl | rfl
  · obtain ⟨hn, xs, h2, rfl⟩ := go 1 1 rfl
    obtain ⟨m, r', e1, e2, e3, rfl, e5⟩ := row1 h2
    obtain ⟨x, ex⟩ := take1 hn
    rw [ex]
    exact ⟨1, _, .open_ x _, rfl, hn, rfl, by rw [ex]; exact ⟨rfl, rfl, rfl⟩, .inl ⟨rfl, by rw [ex], m, r', e1, e2, e3, rfl, e5⟩⟩
  · obtain ⟨hn, xs, h2, rfl⟩ := go 2 1 rfl
    obtain ⟨m, r', e1, e2, e3, rfl, e5⟩ := row1 h2
    obtain ⟨x, y, ex⟩ := take2 hn
    rw [ex]
    exact ⟨2, _, .transact x y _, rfl, hn, rfl, by rw [ex]; exact ⟨rfl, rfl, rfl⟩, .inl ⟨rfl, by rw [ex], m, r', e1, e2, e3, rfl, e5⟩⟩
  · obtain ⟨hn, xs, h2, rfl⟩ := go 2 1 rfl
    obtain ⟨m, r', e1, e2, e3, rfl, e5⟩ := row1 h2
    obtain ⟨x, y, ex⟩ := take2 hn
    rw [ex]
    exact ⟨2, _, .try_ x y _, rfl, hn, rfl, by rw [ex]; exact ⟨rfl, rfl, rfl⟩, .inl ⟨rfl, by rw [ex], m, r', e1, e2, e3, rfl, e5⟩⟩
  · obtain ⟨hn, xs, h2, rfl⟩ := go 2 0 rfl
    cases h2
    obtain ⟨x, y, ex⟩ := take2 hn
    rw [ex]
    exact ⟨2, [], .account x y, rfl, hn, rfl, by rw [ex]; exact ⟨rfl, rfl⟩, .inr ⟨rfl, rfl, rfl⟩⟩
  · obtain ⟨hn, xs, h2, rfl⟩ := go 1 0 rfl
    cases h2
    obtain ⟨x, ex⟩ := take1 hn
    rw [ex]
    exact ⟨1, [], .choice x, rfl, hn, rfl, by rw [ex]; exact ⟨rfl, rfl⟩, .inr ⟨rfl, rfl, rfl⟩⟩
  · obtain ⟨hn, xs, h2, rfl⟩ := go 1 0 rfl
    cases h2
    obtain ⟨x, ex⟩ := take1 hn
    rw [ex]
    exact ⟨1, [], .slot x, rfl, hn, rfl, by rw [ex]; exact ⟨rfl, rfl⟩, .inr ⟨rfl, rfl, rfl⟩⟩
  · obtain ⟨hn, xs, h2, rfl⟩ := go 0 0 rfl
    cases h2
    exact ⟨0, [], .rest, rfl, hn, rfl, rfl, .inr ⟨rfl, rfl, rfl⟩⟩
  · obtain ⟨hn, xs, h2, rfl⟩ := go 0 0 rfl
    cases h2
    exact ⟨0, [], .told, rfl, hn, rfl, rfl, .inr ⟨rfl, rfl, rfl⟩⟩
  · obtain ⟨hn, xs, h2, rfl⟩ := go 1 0 rfl
    cases h2
    obtain ⟨x, ex⟩ := take1 hn
    rw [ex]
    exact ⟨1, [], .total x, rfl, hn, rfl, by rw [ex]; exact ⟨rfl, rfl⟩, .inr ⟨rfl, rfl, rfl⟩⟩
/-- a slice of the numbers -/
theorem cut_nat {l : List Int} {i j : Nat} (h1 : i ≤ j) (h2 : j ≤ l.length) : cutV (l.map V.int) (some ((i : Nat) : Int)) (some ((j : Nat) : Int)) = ((l.drop i).take (j - i)).map V.int := by
  unfold cutV
  have e1 : HT.sIx (l.map V.int).length 0 (some ((i : Nat) : Int)) = i := by
    show (if ((i : Nat) : Int) < 0 then (((i : Nat) : Int) + ((l.map V.int).length : Int)).toNat else min ((i : Nat) : Int).toNat (l.map V.int).length) = i
    rw [if_neg (by omega), List.length_map]; omega
  have e2 : HT.sIx (l.map V.int).length (l.map V.int).length (some ((j : Nat) : Int)) = j := by
    show (if ((j : Nat) : Int) < 0 then (((j : Nat) : Int) + ((l.map V.int).length : Int)).toNat else min ((j : Nat) : Int).toNat (l.map V.int).length) = j
    rw [if_neg (by omega), List.length_map]; omega
  rw [e1, e2, List.map_take, List.map_drop]
/-- what is asked -/
theorem asked_inv (h : PySg49.answers_asked l = true) : ∃ cs, PyFlat.calls PySg49.shape l.length l = some cs ∧ PySg49.answers l = PyFlat.told (PyFlat.played Sg49Neutral.step Sg49Neutral.start cs) ∧ (∀ c ∈ cs, Sg49Neutral.asked1 c = true) ∧ (PySg49.answers l).length ≤ 10000000 := by
  unfold PySg49.answers_asked at h
  cases e : PyFlat.calls PySg49.shape l.length l with
  | none => rw [e] at h; cases h
  | some cs =>
    rw [e] at h
    dsimp only at h
    rw [whole_map, Bool.and_eq_true, Bool.and_eq_true, Bool.and_eq_true] at h
    obtain ⟨⟨⟨_, _⟩, h3⟩, h4⟩ := h
    refine ⟨cs, rfl, ?_, ?_, of_decide_eq_true h4⟩
    · unfold PySg49.answers PySg49.calls
      rw [e]
      dsimp only
      rw [whole_map]
    · unfold Sg49Neutral.asked at h3
      rw [Bool.and_eq_true] at h3
      exact fun c hc => List.all_eq_true.mp h3.1 c hc
def spAnswers (K : PySem.W.Frag) : Sp := fun vs H Q _ => ∃ (a : Addr) (l : List Int), vs = [.ref a] ∧ SqL K H a (l.map V.int) ∧ PySg49.answers_asked l = true ∧ (∀ H' p, H' p = some (.lst ((PySg49.answers l).map V.int)) → Q (.ref p) H')
structure AW (K : PySem.W.Frag) (H0 : Hp) (a dk F : Addr) (l : List Int) (Hc : Hp) (i : Nat) (k : Sg49.Desk) (cs : List (List (List Int))) (acc : List Int) : Prop where
  le : i ≤ l.length
  desk : DeskAt K Hc dk F k
  found : Hc F = some (.lst (acc.map V.int))
  same : Same H0 Hc
  h0 : H0 F = none ∧ H0 dk = none
  hcs : ∃ f, PyFlat.calls PySg49.shape f (l.drop i) = some cs
  asked : ∀ c ∈ cs, Sg49Neutral.asked1 c = true
  eq : PySg49.answers l = acc ++ PyFlat.told (PyFlat.played Sg49Neutral.step k cs)
theorem DeskAt.is (h : DeskAt K H dk fo k) : ∃ C dx fs, H dk = some (.ins C dx fs) := by
  obtain ⟨G, ddk, nb, s, pact, l, hd⟩ := h
  exact ⟨_, _, _, hd.hdk⟩
theorem asked_row {p : Int} {ns row : List Int} (h : Sg49Neutral.asked1 [p :: ns, row] = true) : row.length ≤ 8000 := by
  unfold Sg49Neutral.asked1 at h
  split at h
  · rename_i e
    cases e
    simp only [Bool.and_eq_true, Sg49Neutral.short, decide_eq_true_eq] at h
    exact h.2.2
  · rename_i e
    cases e
    simp only [Bool.and_eq_true, Sg49Neutral.short, decide_eq_true_eq] at h
    omega
  · rename_i e
    cases e
    simp only [Bool.and_eq_true, Sg49Neutral.short, decide_eq_true_eq] at h
    omega
  all_goals (first | (rename_i e; cases e; done) | (cases h; done))
end
end SP
set_option maxHeartbeats 2000000
namespace SP
open PySem PySem.Spec PyProof.Rows L2
/-- one step of a reading where nothing is asked -/
local macro_rules | `(tactic| walk_at "s1") => `(tactic| with_reducible first
  | refine k_seq ?_ | refine k_asg ?_ | refine k_if ?_ | refine k_ret ?_ | refine k_set ?_ | refine k_drop ?_ | refine k_next ?_ | refine k_retN ?_
  | refine k_var rfl ?_ | refine k_c ?_ | refine k_fld ?_ | refine k_fldK (by assumption) ?_ | refine k_op ?_ | refine k_plus ?_ | refine k_minus ?_ | refine k_cons ?_ | refine k_nil ?_ | refine k_name ?_
  | refine k_cmp ?_ | refine k_cmpK ?_ | refine k_B ?_ | refine k_blK ?_ | refine k_test ?_ | refine k_meth ?_ | refine k_call ?_ | refine k_CB ?_ | refine k_len (by assumption) ?_
  | refine k_ixT (by assumption) rfl ?_ | refine k_and ?_ | refine k_or ?_ | refine k_not ?_ | refine k_andV ?_ | refine k_orV ?_ | refine k_notV ?_ | refine k_ife ?_ | refine k_chain ?_ | refine k_tup ?_ | refine k_lst ?_
  | refine k_less ?_ | refine k_leq ?_ | refine k_un ?_ | refine k_neg ?_ | refine k_isN ?_ | refine k_notN ?_ | refine k_max ?_ | refine k_min ?_ | refine k_abs ?_ | refine k_bm ?_ | refine k_make ?_ | refine k_app (by assumption) (by assumption) ?_)
section
variable {P : Program} {w : World} {K : PySem.W.Frag} {mg : Str → Option Value} {base : Heap}
local macro_rules | `(tactic| walk_at "s2") => `(tactic| first | walk_at "s1" | refine iteT ?_ | refine iteF ?_)
variable {G H H' : Hp} {dk fo ddk nb : Addr} {s : SA} {pact : Addr} {l : List Int} {k k' : Sg49.Desk} {a : Sg49.Ans} {Q : VK} {E : XK}
theorem k_sl {r : V → Option Int → Option Int → Hp → VK → Prop} {te t1 t2 : TE} {σ : L2.St} {H : Hp} {Q : VK} {x : V} {i j : Int} (h0 : ∀ Q' : VK, Q' x H → te σ H Q') (h1 : ∀ Q' : VK, Q' (.int i) H → t1 σ H Q') (h2 : ∀ Q' : VK, Q' (.int j) H → t2 σ H Q') (q : r x (some i) (some j) H Q) : tSl r te (tPart t1) (tPart t2) σ H Q :=
  h0 _ (h1 _ ⟨i, rfl, h2 _ ⟨j, rfl, q⟩⟩)
theorem told_cons {x : List Int} {xs : List (List Int)} : PyFlat.told (x :: xs) = ((x.length : Int) :: x) ++ PyFlat.told xs := rfl
theorem played_cons {k : Sg49.Desk} {c : List (List Int)} {cs : List (List (List Int))} {x : Sg49.Call} (h : Sg49Neutral.callOf c = some x) :
    PyFlat.played Sg49Neutral.step k (c :: cs) = ((Sg49.does k x).2.v :: (Sg49.does k x).2.l) :: PyFlat.played Sg49Neutral.step (Sg49.does k x).1 cs := by
  have e : Sg49Neutral.step k c = ((Sg49.does k x).1, (Sg49.does k x).2.v :: (Sg49.does k x).2.l) := by
    unfold Sg49Neutral.step
    rw [h]
  show (Sg49Neutral.step k c).2 :: PyFlat.played Sg49Neutral.step (Sg49Neutral.step k c).1 cs = _
  rw [e]
/-- where the loop stands -/
def AWs (K : PySem.W.Frag) (H0 : Hp) (a dk F : Addr) (l : List Int) (m : Nat) (σ : L2.St) (Hc : Hp) : Prop := ∃ (i : Nat) (k : Sg49.Desk) (cs : List (List (List Int))) (acc : List Int) (x4 x5 x6 x7 x9 : Option V), σ = [some (.ref a), some (.ref dk), some (.ref F), some (.int (i : Nat)), x4, x5, x6, x7, none, x9] ∧ m = l.length - i ∧ AW K H0 a dk F l Hc i k cs acc
/-- beside the desk a list is turned -/
theorem DeskAt.foreign {fo : Addr} {o : HO} (h : DeskAt K H dk fo k) (hf : ∃ xs, H fo = some (.lst xs)) (no : ∀ xs, o ≠ .tup xs) : DeskAt K (upd H fo o) dk fo k := by
  obtain ⟨G, ddk, nb, s, pact, l, hd⟩ := h
  obtain ⟨xs, hf⟩ := hf
  have dkf : dk ≠ fo := fun z => by have := hd.hdk; rw [z, hf] at this; cases this
  exact ⟨G, ddk, nb, s, pact, l, (upd_ne dkf).trans hd.hdk, (upd_ne hd.fnb).trans hd.hnb, hd.len, hd.st.keep fun y hy => upd_ne fun z => hd.fos (by rw [← z]; exact hy), Same.out hd.gs (hd.out fo (by simp)), hd.pact, hd.out, hd.dks, hd.nbs, hd.t0, hd.t1, ⟨o, upd_same, no⟩, hd.fos, hd.fnb⟩
/-- another list is minded -/
theorem DeskAt.mind {fo F : Addr} {xs : List V} (h : DeskAt K H dk fo k) (hF : H F = none) : DeskAt K (upd H F (.lst xs)) dk F k := by
  obtain ⟨G, ddk, nb, s, pact, l, hd⟩ := h
  have d := hd.new ((But.refl (M := []) H).newer (o := .lst xs) hF)
  have nF : ∀ {y : Addr} {o : HO}, H y = some o → y ≠ F := fun e => ne_of_none e hF
  exact ⟨G, ddk, nb, s, pact, l, d.hdk, d.hnb, d.len, d.st, d.gs, d.pact, fun y hy => by
    rcases List.mem_cons.mp hy with rfl | hy
    · exact hd.out _ (by simp)
    rcases List.mem_cons.mp hy with rfl | hy
    · exact Same.fresh hd.gs hF
    · exact hd.out y (by simp [hy]), d.dks, d.nbs, d.t0, d.t1, ⟨_, upd_same, fun xs z => by cases z⟩, fun z => (hd.st.is F z).1 hF, nF hd.hnb⟩
/-- what is told at a turn's end -/
theorem ans_tail {H0 Hc : Hp} {a dk F p : Addr} {ans acc : List Int} {i : Nat} {x4 x5 x6 x7 : Option V} {D : Ends} (h1 : DeskAt K Hc dk F k') (h2 : Hc F = some (.lst (acc.map V.int))) (hp : Hc p = some (.lst (ans.map V.int))) (pF : p ≠ F) (same : Same H0 Hc) (f0 : H0 F = none) (hl : (acc ++ ((ans.length : Int) :: ans)).length ≤ 10000000)
    (q : ∀ H', DeskAt K H' dk F k' → H' F = some (.lst ((acc ++ ((ans.length : Int) :: ans)).map V.int)) → Same H0 H' → D.nx [some (.ref a), some (.ref dk), some (.ref F), some (.int (i : Nat)), x4, x5, x6, x7, none, some (.ref p)] H') :
    (tSeq (tDrop (tBM K "list" rAppend (tVar 2) (tCons (tCB (rLenK K) (tCons (tVar 9) tNil)) tNil))) (tDrop (tBM K "list" rExtend (tVar 2) (tCons (tVar 9) tNil)))) D [some (.ref a), some (.ref dk), some (.ref F), some (.int (i : Nat)), x4, x5, x6, x7, none, some (.ref p)] Hc := by
  have hpl := lstL (K := K) hp
  have sz : acc.length + 1 + ans.length ≤ 10000000 := by rw [List.length_append, List.length_cons] at hl; omega
  repeat walk_at "s1"
  refine ⟨ty_list (lstL h2), ?_⟩
  repeat walk_at "s1"
  refine k_app h2 (by rw [List.length_map, sizeLine_eq]; omega) ?_
  repeat walk_at "s1"
  have hF1 : upd Hc F (.lst (acc.map V.int ++ [.int ((ans.map V.int).length : Nat)])) F = some (.lst (acc.map V.int ++ [.int ((ans.map V.int).length : Nat)])) := upd_same
  refine ⟨ty_list (lstL hF1), ?_⟩
  repeat walk_at "s1"
  refine ⟨F, p, _, _, rfl, rfl, hF1, (upd_ne pF).trans hp, by rw [List.length_append, List.length_map, List.length_map, sizeLine_eq]; show acc.length + 1 + _ ≤ _; omega, ?_⟩
  rw [upd_upd]
  refine q _ (h1.foreign ⟨_, h2⟩ (fun xs z => by cases z)) ?_ (Same.out same f0)
  rw [upd_same, List.length_map]
  simp
theorem pure_answers (T : Tx K mg) (vs : List V) (H : Hp) (Q : VK) (E : XK) (h : spAnswers K vs H Q E) : t_answers K E (spRespond K) (spDeskInit K) { nx := fun _ H' => Q .non H', rt := Q } (start N_answers vs) H := by
  obtain ⟨a, l, rfl, hs, hask, q⟩ := h
  obtain ⟨cs0, hcs0, heq0, hasked0, hlen⟩ := asked_inv hask
  unfold t_answers
  repeat walk_at "s1"
  intro dk ddk hdk hddk ddd
  refine ⟨dk, ddk, rfl, upd_same, fun H1 b1 hD => ⟨rfl, ?_⟩⟩
  have B1 : But [] H H1 := (show But (dk :: []) _ H1 from b1).born hdk hddk
  have S1 : Same H H1 := B1.same
  repeat walk_at "s1"
  refine ⟨small, fun F hF => ?_⟩
  have D2 := hD.mind (xs := []) hF
  have F0 : H F = none := Same.fresh S1 hF
  have S2 : Same H (upd H1 F (.lst [])) := fun y o e => by rw [upd_ne (ne_of_none (S1 _ _ e) hF)]; exact S1 _ _ e
  have hF2 : upd H1 F (.lst []) F = some (.lst (([] : List Int).map V.int)) := upd_same
  generalize upd H1 F (.lst []) = H2 at D2 S2 hF2 ⊢
  repeat walk_at "s1"
  refine ⟨AWs K H a dk F l, ⟨_, 0, Sg49.desk, cs0, [], none, none, none, none, none, rfl, rfl, ⟨Nat.zero_le _, D2, hF2, S2, ⟨F0, hdk⟩, ⟨l.length, hcs0⟩, hasked0, heq0⟩⟩, ?_⟩
  clear D2 S2 hF2 hD b1 S1 B1 hF
  rintro m σ Hc ⟨i, k, cs, acc, x4, x5, x6, x7, x9, rfl, rfl, W⟩
  have hsc := seqSame hs W.same
  repeat walk_at "s1"
  rw [List.length_map]
  by_cases il : i < l.length
  · rw [decide_eq_true (by omega)]
    refine iteT ⟨fun σ' H' => ∃ m', m' < l.length - i ∧ AWs K H a dk F l m' σ' H', fun _ _ z => z, ?_⟩
    obtain ⟨f, hcs⟩ := W.hcs
    have ed : ∃ p r, l.drop i = p :: r ∧ l[i]? = some p ∧ l.drop (i + 1) = r := by
      rw [List.drop_eq_getElem_cons il]
      exact ⟨_, _, rfl, List.getElem?_eq_getElem il, rfl⟩
    obtain ⟨p, r, ed, ep, er⟩ := ed
    have hi : ∃ f' c t cs', PyFlat.call PySg49.shape (p :: r) = some (c, t) ∧ PyFlat.calls PySg49.shape f' t = some cs' ∧ cs = c :: cs' := by
      rw [ed] at hcs
      cases f with
      | zero => unfold PyFlat.calls at hcs; cases hcs
      | succ f =>
        unfold PyFlat.calls at hcs
        cases e1 : PyFlat.call PySg49.shape (p :: r) with
        | none => rw [e1] at hcs; cases hcs
        | some z =>
          rw [e1] at hcs
          dsimp only at hcs
          cases e2 : PyFlat.calls PySg49.shape f z.2 with
          | none => rw [e2] at hcs; cases hcs
          | some y => rw [e2] at hcs; cases hcs; exact ⟨f, z.1, z.2, y, rfl, e2, rfl⟩
    obtain ⟨f', c, t, cs', hcall, hcs', rfl⟩ := hi
    obtain ⟨n, row, x, hn, nr, hx, hci, hrow⟩ := call_inv hcall
    have rl : r.length = l.length - (i + 1) := by rw [← er, List.length_drop]
    have weq := W.eq
    rw [played_cons hx, told_cons, ← List.append_assoc] at weq
    have rowl : row.length ≤ 8000 := by
      rcases hrow with ⟨_, ec, _⟩ | ⟨_, er0, _⟩
      · have := W.asked c (by simp)
        rw [ec] at this
        exact asked_row this
      · rw [er0]; exact Nat.zero_le _
    have Fdk : F ≠ dk := fun z => by
      obtain ⟨C, dx, fs, e⟩ := W.desk.is
      have := W.found
      rw [z, e] at this; cases this
    have fin : ∀ (D : Ends) (hD0 : ∀ σ' H', (∃ m', m' < l.length - i ∧ AWs K H a dk F l m' σ' H') → D.nx σ' H') (Hx : Hp) (i' : Nat) (x5 x9 : Option V) (nl ro : Addr), Hx nl = some (.lst ((r.take n).map V.int)) → Hx ro = some (.lst (row.map V.int)) → ro ≠ F → DeskAt K Hx dk F k → Hx F = some (.lst (acc.map V.int)) → Same H Hx → i < i' → i' ≤ l.length → l.drop i' = t →
        (tSeq (fun D σ H => (tAsg (tMethS (He.ga K "Desk") "respond" (spRespond K) (WE (wAs K (XR K) 8 (fun a cls d => (tAsg (tLst (tCons (tXf a cls d (He.ga K "Refusal") "answer" (tVar 8)) tNil)) (gName 9))) (fun _ _ _ _ => False) D)) (tVar 1) (tCons (tVar 4) (tCons (tVar 6) (tCons (tVar 7) tNil)))) (gName 9)) D σ H)
        (tSeq (tDrop (tBM K "list" rAppend (tVar 2) (tCons (tCB (rLenK K) (tCons (tVar 9) tNil)) tNil))) (tDrop (tBM K "list" rExtend (tVar 2) (tCons (tVar 9) tNil)))))
        D [some (.ref a), some (.ref dk), some (.ref F), some (.int (i' : Nat)), some (.int p), x5, some (.ref nl), some (.ref ro), none, x9] Hx := by
      intro D hD0 Hx i' x5 x9 nl ro hnl hro roF hD hF hS hi hi' ht
      obtain ⟨C, dx, fs, hdk'⟩ := hD.is
      obtain ⟨Gd, ddk', nb, s, pact, ll, hd⟩ := id hD
      have hl7 : (acc ++ ((((Sg49.does k x).2.v :: (Sg49.does k x).2.l).length : Int) :: ((Sg49.does k x).2.v :: (Sg49.does k x).2.l))).length ≤ 10000000 := by
        rw [weq, List.length_append] at hlen
        omega
      have out : ∀ (H' : Hp) (q' : Addr), DeskAt K H' dk F (Sg49.does k x).1 → H' F = some (.lst ((acc ++ ((((Sg49.does k x).2.v :: (Sg49.does k x).2.l).length : Int) :: ((Sg49.does k x).2.v :: (Sg49.does k x).2.l))).map V.int)) → Same H H' →
          ∃ m', m' < l.length - i ∧ AWs K H a dk F l m' [some (.ref a), some (.ref dk), some (.ref F), some (.int (i' : Nat)), some (.int p), x5, some (.ref nl), some (.ref ro), none, some (.ref q')] H' := fun H' q' h1 h2 h3 =>
        ⟨l.length - i', by omega, i', _, cs', _, _, _, _, _, _, rfl, rfl, ⟨hi', h1, h2, h3, W.h0, ⟨f', by rw [ht]; exact hcs'⟩, fun c' hc' => W.asked c' (by simp [hc']), weq⟩⟩
      refine k_seq ?_
      refine k_asg ?_
      refine ⟨_, rfl, dk, _, _, rfl, hd.hdk, rfl, ?_⟩
      refine k_cons (k_var rfl (k_cons (k_var rfl (k_cons (k_var rfl (k_nil ?_))))))
      refine ⟨dk, F, k, p, nl, r.take n, ro, row, x, rfl, hD, hnl, hro, by omega, roF, hci, ⟨fun H' q' b hD' q0 hq' => ?_, fun an H' ex b hD' hex => ?_⟩⟩
      · refine k_name ?_
        have hF' := b _ _ hF (by simp; exact Fdk)
        have hS' : Same H H' := fun y o e => b _ _ (hS _ _ e) (by simp; exact fun z => by rw [z, W.h0.2] at e; cases e)
        have qF : q' ≠ F := fun z => by rw [z, hF] at q0; cases q0
        exact ans_tail hD' hF' hq' qF hS' W.h0.1 hl7 (fun H2 h1 h2 h3 => hD0 _ _ (out H2 q' h1 h2 h3))
      · refine ⟨true, T.x_Refusal_Refusal, fun _ a0 ha0 => ?_, fun z => by cases z⟩
        refine k_asg (k_lst (k_cons ⟨_, rfl, rfl, rfl, ex, _, _, rfl, hex, rfl, k_nil ⟨small, fun q' hq' => k_name ?_⟩⟩))
        have hF' := b _ _ hF (by simp; exact Fdk)
        have hS' : Same H H' := fun y o e => b _ _ (hS _ _ e) (by simp; exact fun z => by rw [z, W.h0.2] at e; cases e)
        have B2 : But [] H' (upd H' q' (.lst [.int (Sg49.does k x).2.v])) := (But.refl H').newer hq'
        have qF : q' ≠ F := fun z => by rw [z, hF'] at hq'; cases hq'
        have h2 : upd H' q' (.lst [.int (Sg49.does k x).2.v]) q' = some (.lst (((Sg49.does k x).2.v :: (Sg49.does k x).2.l).map V.int)) := by rw [upd_same, an]; rfl
        exact ans_tail (hD'.new B2) (B2 _ _ hF' (by simp)) h2 qF (Same.tr hS' B2.same) W.h0.1 hl7 (fun H2 h1 h2 h3 => hD0 _ _ (out H2 q' h1 h2 h3))
    repeat walk_at "s1"
    refine k_ixL hsc (atI_map ep) ?_
    repeat walk_at "s1"
    refine ⟨p, (n : Int), rfl, rfl, hn, ?_⟩
    repeat walk_at "s1"
    have e1 : ((i : Nat) : Int) + 1 = ((i + 1 : Nat) : Int) := rfl
    have e2 : ((i : Nat) : Int) + 1 + (n : Nat) = ((i + 1 + n : Nat) : Int) := by omega
    rw [e2, e1]
    refine k_sl (i := ((i + 1 : Nat) : Int)) (j := ((i + 1 + n : Nat) : Int)) (fun _ q => k_var rfl q) (fun _ q => k_var rfl q) (fun _ q => k_var rfl q) ?_
    refine ⟨a, l.map V.int, rfl, hsc, fun nl hnl => ?_⟩
    rw [cut_nat (by omega) (by omega), er, show i + 1 + n - (i + 1) = n by omega]
    have B1 : But [] Hc (upd Hc nl (.lst ((r.take n).map V.int))) := (But.refl Hc).newer hnl
    have nl1 : upd Hc nl (.lst ((r.take n).map V.int)) nl = _ := upd_same
    have nlF : nl ≠ F := fun z => by have := W.found; rw [← z, hnl] at this; cases this
    generalize upd Hc nl (.lst ((r.take n).map V.int)) = H1 at B1 nl1 ⊢
    repeat walk_at "s1"
    refine ⟨small, fun r0 hr0 => ?_⟩
    have B2 : But [] Hc (upd H1 r0 (.lst [])) := B1.newer hr0
    have nl2 : upd H1 r0 (.lst []) nl = _ := (upd_ne (ne_of_none nl1 hr0)).trans nl1
    have r02 : upd H1 r0 (.lst []) r0 = some (.lst []) := upd_same
    have F1 := B1 _ _ W.found (by simp)
    have r0F : r0 ≠ F := fun z => by rw [z, F1] at hr0; cases hr0
    generalize upd H1 r0 (.lst []) = H2 at B2 nl2 r02 ⊢
    have D2 := W.desk.new B2
    have F2 := B2 _ _ W.found (by simp)
    have S2 : Same H H2 := Same.tr W.same B2.same
    repeat walk_at "s1"
    refine ⟨He.ga K "WITH_ROW", [.int 1, .int 2, .int 3], rfl, .inr (T.wr H2), rfl, rfl, ?_⟩
    refine ⟨rowed p, rfl, ?_⟩
    rcases hrow with ⟨rw1, ec, m, r', hd1, m0, ml, erow, et⟩ | ⟨rw1, er0, et⟩
    · rw [rw1]
      refine iteT ?_
      have hsc2 := seqSame hs S2
      have edr : l.drop (i + 1 + n) = m :: r' := by rw [← List.drop_drop, er]; exact hd1
      obtain ⟨em, er', lt'⟩ := drop_at edr
      have r'l : r'.length = l.length - (i + 1 + n + 1) := by rw [← er', List.length_drop]
      repeat walk_at "s1"
      refine k_ixL hsc2 (atI_map em) ?_
      repeat walk_at "s1"
      have e3 : ((i + 1 + n : Nat) : Int) + 1 = ((i + 1 + n + 1 : Nat) : Int) := rfl
      have e4 : ((i + 1 + n : Nat) : Int) + 1 + m = ((i + 1 + n + 1 + m.toNat : Nat) : Int) := by omega
      rw [e4, e3]
      refine k_sl (i := ((i + 1 + n + 1 : Nat) : Int)) (j := ((i + 1 + n + 1 + m.toNat : Nat) : Int)) (fun _ q => k_var rfl q) (fun _ q => k_var rfl q) (fun _ q => k_var rfl q) ?_
      refine ⟨a, l.map V.int, rfl, hsc2, fun ro hro => ?_⟩
      rw [cut_nat (by omega) (by omega), er', show i + 1 + n + 1 + m.toNat - (i + 1 + n + 1) = m.toNat by omega, ← erow]
      have B3 : But [] H2 (upd H2 ro (.lst (row.map V.int))) := (But.refl H2).newer hro
      have roF : ro ≠ F := fun z => by rw [z, F2] at hro; cases hro
      refine k_name ?_
      refine fin _ (fun _ _ z => z) _ (i + 1 + n + 1 + m.toNat) _ _ nl ro (B3 _ _ nl2 (by simp)) upd_same roF (D2.new B3) (B3 _ _ F2 (by simp)) (Same.tr S2 B3.same) (by omega) (by omega) ?_
      rw [← List.drop_drop, er', et]
    · rw [rw1]
      refine iteF ?_
      refine k_next ?_
      refine fin _ (fun _ _ z => z) _ (i + 1 + n) _ _ nl r0 nl2 (by rw [er0]; exact r02) r0F D2 F2 S2 (by omega) (by omega) ?_
      rw [← List.drop_drop, er, et]
  · rw [decide_eq_false (by omega)]
    refine iteF ?_
    obtain ⟨f, hcs⟩ := W.hcs
    rw [List.drop_eq_nil_of_le (by omega)] at hcs
    have c0 : cs = [] := by
      cases f with
      | zero => unfold PyFlat.calls at hcs; cases hcs; rfl
      | succ f => unfold PyFlat.calls at hcs; cases hcs; rfl
    subst c0
    have weq : PySg49.answers l = acc := by rw [W.eq]; show acc ++ [] = acc; rw [List.append_nil]
    repeat walk_at "s1"
    exact q Hc F (by rw [weq]; exact W.found)
theorem F_answers (T : Tx K mg) : Fok P w K mg base CX0 52 d_answers P_answers (spAnswers K) := ok_answers T (F_Desk_respond T) (F_Desk_init T) (fun vs H Q E ⟨_, _, e, _⟩ => by rw [e]; rfl) (pure_answers T)
end
end SP
set_option maxHeartbeats 0
namespace SP
open PySem PySem.W PySem.Calls PyProof.Rows L2
theorem run_f (w : World) : HeadRun.RunEqS R qv hk ob 4000 loose (w.withFollow "special-get-raises" false) := by
  intro os
  kernel_rfl
theorem run_t (w : World) : HeadRun.RunEqS R qv hk ob 4000 loose (w.withFollow "special-get-raises" true) := by
  intro os
  kernel_rfl
theorem run (w : World) : HeadRun.RunEqS R qv hk ob 4000 loose w := PySem.W.byRow2 "special-get-raises" (P := fun w => HeadRun.RunEqS R qv hk ob 4000 loose w) run_f run_t w
end SP
set_option maxHeartbeats 2000000
namespace SP
open PySem PySem.Spec PyProof.Rows L2
/-- one step of a reading where nothing is asked -/
local macro_rules | `(tactic| walk_at "s1") => `(tactic| with_reducible first
  | refine k_seq ?_ | refine k_asg ?_ | refine k_if ?_ | refine k_ret ?_ | refine k_set ?_ | refine k_drop ?_ | refine k_next ?_ | refine k_retN ?_
  | refine k_var rfl ?_ | refine k_c ?_ | refine k_fld ?_ | refine k_fldK (by assumption) ?_ | refine k_op ?_ | refine k_plus ?_ | refine k_minus ?_ | refine k_cons ?_ | refine k_nil ?_ | refine k_name ?_
  | refine k_cmp ?_ | refine k_cmpK ?_ | refine k_B ?_ | refine k_blK ?_ | refine k_test ?_ | refine k_meth ?_ | refine k_call ?_ | refine k_CB ?_ | refine k_len (by assumption) ?_
  | refine k_ixT (by assumption) rfl ?_ | refine k_and ?_ | refine k_or ?_ | refine k_not ?_ | refine k_andV ?_ | refine k_orV ?_ | refine k_notV ?_ | refine k_ife ?_ | refine k_chain ?_ | refine k_tup ?_ | refine k_lst ?_
  | refine k_less ?_ | refine k_leq ?_ | refine k_un ?_ | refine k_neg ?_ | refine k_isN ?_ | refine k_notN ?_ | refine k_max ?_ | refine k_min ?_ | refine k_abs ?_ | refine k_bm ?_ | refine k_make ?_ | refine k_app (by assumption) (by assumption) ?_)
/-! ### the end -/
theorem okD_answers {P : Program} {w : World} {K : PySem.W.Frag} {mg : Str → Option Value} {base : Heap} {fd : FuncData} (T : Tx K mg) (FD : FunD K d_answers.name d_answers.qual d_answers.params d_answers.body d_answers.scope [] (d_answers.kws K) (He.fAd K d_answers.at_) fd) : FnOk P w K mg base CX0 52 (He.fAd K d_answers.at_) fd P_answers (spAnswers K) := by
  refine FD.ok (N := N_answers) sc_answers (fun vs H Q E ⟨_, _, e, _⟩ => by rw [e]; rfl) (fun cdv A outer s H vs Q E hr h => ⟨t_answers K E (spRespond K) (spDeskInit K), PSs.nox ?_, pure_answers T vs H Q E h⟩)
  exact (pss_cons (ps_set (i := 1) sc_answers.nd rfl (by first | exact Or.inl rfl | exact Or.inr rfl) (pe_mk0 T.k_Desk (F_Desk_init T) rfl hr (by decide) T.g_Desk pat0))
      (pss_cons (ps_set (i := 2) sc_answers.nd rfl (by first | exact Or.inl rfl | exact Or.inr rfl) (pe_lst pa_nil))
      (pss_cons (ps_set (i := 3) sc_answers.nd rfl (by first | exact Or.inl rfl | exact Or.inr rfl) pe_int)
      (pss_cons (ps_while PassesOwn.never (pt_cmp (pc_lt (pv 3) (pe_callB call_len_seq (by rfl) T.z_len boot_len (pa_cons (pv 0) pa_nil)))) (pss_cons (ps_set (i := 4) sc_answers.nd rfl (by first | exact Or.inl rfl | exact Or.inr rfl) (pe_ix ix_list (pv 0) (pv 3) (fun _ _ => rfl)))
      (pss_cons (ps_set (i := 5) sc_answers.nd rfl (by first | exact Or.inl rfl | exact Or.inr rfl) (pe_op op_add (pv 3) pe_int))
      (pss_cons (ps_set (i := 3) sc_answers.nd rfl (by first | exact Or.inl rfl | exact Or.inr rfl) (pe_op op_add (pv 5) (pe_ix (ix_counts T) (pe_ga T.g_COUNTS) (pv 4) (fun _ _ => rfl))))
      (pss_cons (ps_set (i := 6) sc_answers.nd rfl (by first | exact Or.inl rfl | exact Or.inr rfl) (pe_slice sl_list (pv 0) (po_some (pv 5)) (po_some (pv 3))))
      (pss_cons (ps_set (i := 7) sc_answers.nd rfl (by first | exact Or.inl rfl | exact Or.inr rfl) (pe_lst pa_nil))
      (pss_cons (ps_if (pt_cmpR op_in_seq (pv 4) (pe_ga T.g_WITH_ROW) (by rfl)) (pss_cons (ps_set (i := 5) sc_answers.nd rfl (by first | exact Or.inl rfl | exact Or.inr rfl) (pe_op op_add (pv 3) pe_int))
      (pss_cons (ps_set (i := 3) sc_answers.nd rfl (by first | exact Or.inl rfl | exact Or.inr rfl) (pe_op op_add (pv 5) (pe_ix ix_list (pv 0) (pv 3) (fun _ _ => rfl))))
      (pss_one (ps_set (i := 7) sc_answers.nd rfl (by first | exact Or.inl rfl | exact Or.inr rfl) (pe_slice sl_list (pv 0) (po_some (pv 5)) (po_some (pv 3))))))) pss_nil)
      (pss_cons (ps_try_as (i := 8) (tb := fun W => (tAsg (tMethS (He.ga K "Desk") "respond" (spRespond K) (WE W) (tVar 1) (tCons (tVar 4) (tCons (tVar 6) (tCons (tVar 7) tNil)))) (gName 9))) (ts := fun a cls d => (tAsg (tLst (tCons (tXf a cls d (He.ga K "Refusal") "answer" (tVar 8)) tNil)) (gName 9))) (Wout := fun _ _ _ _ => False) rfl rfl sc_answers.nd rfl rfl ⟨rfl, by decide, Or.inl T.g_Refusal⟩ takes0 (fun W pn xe tk _ => (pss_one (ps_set (i := 9) sc_answers.nd rfl (by first | exact Or.inl rfl | exact Or.inr rfl) (pe_meS (F_Desk_respond T) hr (by decide) T.c_Desk T.m_Desk_respond (fun σ => passAt tk σ) (pv 1) (pa_cons (pv 4) (pa_cons (pv 6) (pa_cons (pv 7) pa_nil))))))) (fun a oe cls d pn hz hf => (pss_one (ps_set (i := 9) sc_answers.nd rfl (by first | exact Or.inl rfl | exact Or.inr rfl) (by exact (pe_lst (pa_cons (pe_xf T.reft.xf T.reft.noN hz hf (pv 8)) pa_nil)))))))
      (pss_cons (ps_expr (pe_bm PySem.F.plainAttrs_list PySem.F.slot_list_append PySem.F.type_list_append mt_append (pv 2) (pa_cons (pe_callB call_len_seq (by rfl) T.z_len boot_len (pa_cons (pv 9) pa_nil)) pa_nil)))
      (pss_one (ps_expr (pe_bm PySem.F.plainAttrs_list PySem.F.slot_list_extend PySem.F.type_list_extend mt_extend (pv 2) (pa_cons (pv 9) pa_nil)))))))))))))
      (pss_one (ps_ret (pv 2)))))))
theorem walk_answers {q : Program} {loose : List Str} {XP : (Str → Option Value) → Heap → Prop} {d : DefRec} (hname : d.name = "answers") (hdf : d.params.defaults = []) (hwell : R.wellSaid = true) : PySem.W.WalkOS q loose XP hk.says R d [] (fun f vs => PySem.call f vs) := by
  intro w s₀ s₁ mg mb G Y fa o pm cd doc dV kV ho hd hcd hD hmg hg args vals as hpre hlay hrd hwl hlo
  obtain ⟨a, e1, e2⟩ := PySem.W.os_pre_some hpre
  obtain ⟨e3, hwi⟩ := PySem.W.Codec.encAll_of_decAll R.args args a e1
  subst e3
  obtain ⟨K, KX, sx⟩ := Y
  have T : Tx K mg := ⟨sx, ⟨_, KX, G.T.g⟩⟩
  obtain ⟨fd, FD⟩ := T.D_answers
  have e := T.g_answers
  rw [hname, e] at hmg
  cases hmg
  have FD' : FunD K d_answers.name d_answers.qual d_answers.params d_answers.body d_answers.scope [] (d_answers.kws K) (He.fAd K d_answers.at_) fd := FD
  refine PySem.W.enter_call (codeAny_mono (spec_call (R := []) (cl := classAt s₀.heap) (d0 := R.ret.enc (PySem.W.Codec.app R.args R.f a)) (fa := He.ga K "answers") (ps := P_answers) (sp := spAnswers K) (CX := CX0) (k := 52) KX G.T.g G.T.b G.T.builtins G.T.nolimit hg hwl (pl_encAll _ _) (layable_weight hlay) ⟨rfl, by decide, by decide⟩ (fun base _ _ => okD_answers T FD')
    (FunD.bindsA (ps := P_answers) FD' fun _ _ _ _ _ _ us hl => match us, hl with | [_], _ => rfl) (by rw [encAll_len]; rfl) (fun H xs hO hS => ?_) fun H e s' z => z) fun r' s' hq => ?_)
  · cases hS with
    | cons h1 h2 =>
      cases h2
      cases h1 with
      | lst hs ha =>
        have e := L2.ints_dw a.1 _ ha
        subst e
        exact ⟨_, a.1, rfl, hs, e2, fun H' p hp => .lst (L2.SqL.of hp) (L2.dw_ints _)⟩
  · obtain ⟨u, as', rfl, h1, h2, h3, h4⟩ := hq
    exact ⟨.inl ⟨u, _, as', rfl, fun _ => rfl, h1, (PySem.W.OpenSpec.post_iff hwell hwi _ _).mpr rfl, fun z => Bool.noConfusion (show false = true from z)⟩, h2, h3, h4⟩
end SP
set_option maxHeartbeats 0
open PySem PySem.W PySem.Calls PyProof.Rows
theorem PySem.Challenge.cw_selfpact_s01_answers_holds : PySem.Challenge.rw_selfpact_s01_answers.Holds := by
  w_on
  refine HeadRun.head_spec (r := PySem.Challenge.rw_selfpact_s01_answers) (q := SP.qv) (H := SP.hk) (ob := SP.ob) (M := 4000) (loose := SP.loose) (d := HeadRun.topDef PySem.Challenge.rw_selfpact_s01_answers.prog 52) (kwd := []) SP.ob_eq
    (by kernel_rfl) (fun s => by kernel_rfl) SP.run (by kernel_rfl) (by kernel_rfl) (by kernel_rfl) os_shapes (by first | assumption | decide +kernel) (by decide +kernel) ⟨rfl, rfl, rfl, rfl, rfl, by decide +kernel⟩ ⟨[.list []], by decide +kernel, by decide +kernel⟩ ?hc
  case hc => exact SP.walk_answers (by kernel_rfl) (by kernel_rfl) (by first | assumption | decide +kernel)
